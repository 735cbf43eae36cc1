/- The law EvalParts returns true for every input. No conditions beyond the given row's. -/
import Derived.Test.YtdmfgmmooalfnaaGreatDoorC4
set_option linter.unusedSimpArgs false
set_option linter.unusedVariables false
set_option maxRecDepth 100000
set_option linter.unusedVariables false
open Go AM
namespace Go.Proofs.Tryz
theorem aeq {E:dW} {A:List (List Nat)}:∀ (r:List Nd) (os:List Oq) (i:Nat) (x:Nd),r[i]? =some x→(∀ j ∈ A.getD (os.length+i) [],j<os.length+i)→
  (MZ E A r os).getD (os.length+i) zO=dD E x ((A.getD (os.length+i) []).map fun j=>(MZ E A r os).getD j zO)
 | [],os,i,x,h,_=>by simp at h
 | y::r,os,i,x,h,hA=>by
  cases i with
  | zero=>
   simp only [List.getElem?_cons_zero,Option.some.injEq] at h
   subst h
   simp only [Nat.add_zero] at hA ⊢
   obtain ⟨t,c⟩:=Ru E A (y::r) os
   have a:=c
   rw [MZ] at a
   obtain ⟨f,b⟩:=Ru E A r (os++ [dD E y ((A.getD os.length []).map fun j=>os.getD j zO)])
   have d:(MZ E A (y::r) os).getD os.length zO=dD E y ((A.getD os.length []).map fun j=>os.getD j zO):=by
    rw [MZ,b,List.append_assoc,List.getD_eq_getElem?_getD,List.getElem?_append_right (Nat.le_refl _),Nat.sub_self]
    rfl
   rw [d]
   congr 1
   apply List.map_congr_left
   intro j e
   rw [c,List.getD_eq_getElem?_getD,List.getD_eq_getElem?_getD,List.getElem?_append_left (hA j e)]
  |succ i=>
   have:=aeq (E:=E) (A:=A) r (os++ [dD E y ((A.getD os.length []).map fun j=>os.getD j zO)]) i x (by simpa using h) (by rw [List.length_append,List.length_singleton,Nat.add_assoc,Nat.add_comm 1];exact hA)
   rw [List.length_append,List.length_singleton,Nat.add_assoc,Nat.add_comm 1] at this
   rw [MZ]
   exact this
theorem acI {E:dW} {e:List Nd} (b:bW e=0) {k:Nat} (a:k<e.length):(dL E e).getD k zO=dD E e[k] (((eP e).getD k []).map fun j=>(dL E e).getD j zO):=by
 obtain ⟨_,has⟩:=wY b
 have:=aeq (E:=E) (A:=eP e) e [] k e[k] (List.getElem?_eq_getElem a) (by rw [List.length_nil,Nat.zero_add];exact (has k e[k] (List.getElem?_eq_getElem a)).2)
 rw [List.length_nil,Nat.zero_add] at this
 exact this
theorem af7 {l:List Nd} {k:Nat} (h:k<l.length):List.drop ((0+Int.toNat (k:Int))*5) (bC l)=yZ l[k]++bC (l.drop (k+1)):=by
 rw [aJ,Nat.zero_add]
 exact vO yZ 5 (fun _=>rfl) h
abbrev ndS (la lb:List Int) (E:dW) (e:List Nd) (os:List Oq) (A:List (List Nat)) (k:Nat):St:=⟨[(2,.ptr 0 0 0),(5,.bool true),(6,.ref 1 0 0 e.length),(7,.ptr 2 0 0),(8,.ref 3 0 0 os.length),(9,.sl (dA A) A.length true),(11,.int .i64 (k:Int))],[(0,⟨[.sl (iL la) la.length false,.sl (iL lb) lb.length false],0,false,0,0,true⟩),(1,⟨(bC e),0,true,(List.length (bC e)),5,true⟩),(2,⟨[.sl (kE E.ls) E.ls.length true,.sl (kS (E.qs.map Sq.c)) (E.qs.map Sq.c).length true],0,false,0,0,true⟩),(3,⟨(gp os),0,false,0,4,true⟩)],.dead,[]⟩
abbrev ndX (E:dW) (e:List Nd) (os:List Oq):St:=⟨[(5,.bool true),(6,.ref 0 0 0 e.length),(7,.ptr 1 0 0),(8,.ref 2 0 0 os.length)],[(0,⟨(bC e),0,true,(List.length (bC e)),5,true⟩),(1,⟨[.sl (kE E.ls) E.ls.length true,.sl (kS (E.qs.map Sq.c)) (E.qs.map Sq.c).length true],0,false,0,0,true⟩),(2,⟨(gp os),0,false,0,4,true⟩)],.dead,[]⟩
theorem aeQ {nt:Nat} (C:101≤nt) (Y lb:List Int) {E:dW} {e:List Nd} {t:Ty} (hd:Du t e) (Z:E.sm):∀ (d k:Nat),k+d=e.length→aI prog ap [] nt (af 0 (ah f6)) (fun _:Unit=> .exit 0) (ndS Y lb E e (dL E e) (eP e)) (fun _=>ndX E e (dL E e)) k ():=by
 have M:=hd.ck
 obtain ⟨hal,has⟩:=wY M
 have X:=tq E e
 have O:=Uz (E:=E) M
 have V:=hd.ln
 intro d
 induction d with
 |zero=>
  intro k i
  have q:decide ((k:Int)<(e.length:Int))=false:=decide_eq_false (by omega)
  generalize dL E e=os at*
  generalize eP e=A at*
  exact .done (pN 6 [] 1 0 (.c (aF q) .nil) (.nil) C)
 | succ d ih=>
  intro k i
  refine .next ?_ (ih (k+1) (by omega))
  have m:k<e.length:=by omega
  have R:=acI (E:=E) M m
  obtain ⟨b,a⟩:=has k e[k] (List.getElem?_eq_getElem m)
  have g:=NG (A:=eP e) (k:=k) (by omega)
  have s:=af7 m
  have Q:=(jc M).1 e[k] (List.getElem_mem m)
  have N:=hd.sm e[k] (List.getElem_mem m)
  generalize e[k]=x at*
  have D:∀ j,((dL E e).getD j zO).ok∨e.length≤j:=fun j=>by
   rcases Nat.lt_or_ge j e.length with h|h
   ·left
    rw [List.getD_eq_getElem?_getD,List.getElem?_eq_getElem (by omega)]
    exact O _ (List.getElem_mem _)
   ·exact .inr h
  have hdrop:∀ j,j<e.length→List.drop ((0+Int.toNat (j:Int))*4) (gp (dL E e))=Cc ((dL E e).getD j zO)++gp ((dL E e).drop (j+1)):=fun j I=>oG (by omega)
  have r:=fun (na:Bool) (l:List Oq) (hl:l.length=dX x.op) (i:∀ o ∈ l,o.ok)=>alJ Z true true na Q N hl i
  generalize dL E e=os at*
  have c:=hdrop k m
  rw [R] at c
  generalize (eP e).getD k []=al at*
  generalize eP e=A at*
  have q:decide ((k:Int)<(e.length:Int))=true:=decide_eq_true (by omega)
  have K:decide ((k:Int)<(A.length:Int))=true:=decide_eq_true (by omega)
  have J:decide ((k:Int)<(os.length:Int))=true:=decide_eq_true (by omega)
  have L:AV.int .i64 (IntKind.wrap .i64 ((k:Int)+((1:Nat):Int)))=AV.int .i64 ((k+1:Nat):Int):=Ci (by omega)
  have w:∀ j:Nat,decide ((j:Int)<((0:Nat):Int))=false:=fun j=>decide_eq_false (by omega)
  have y:∀ j:Nat,j<k→decide ((k:Int)≤(j:Int))=false:=fun j I=>decide_eq_false (by omega)
  have z:∀ j:Nat,j<k→decide ((j:Int)<(os.length:Int))=true:=fun j I=>decide_eq_true (by omega)
  have h3:=Iz x.op
  have n:∀ j ∈ al,(os.getD j zO).ok:=fun j I=>(D j).resolve_right (by have:=a j I;omega)
  match al,b,a,g,c,n with
  | [],b,a,g,c,n=>
   have v:=(r false [] b (by simp)).args (gQ.cons (aU.refl _) (gQ.cons (aU.nilS false rfl) (gQ.refl _)))
   have i:List.drop ((0+(Int.toNat (k:Int)))*4) (gp os)=Cc (dD E x [])++gp (os.drop (k+1)):=c
   generalize dD E x []=o at*
   have g:List.drop ((Int.toNat (k:Int))*1) (dA A)= [.sl [] 0 false]++dA (A.drop (k+1)):=g
   exact pN 6 [] 3 1 (.c (sfO o) (.a (rU [.bool,.str,.str,.int .i64] i rfl) (.c (nJ k) (.c J (.n 2 (.a (rU [.int .i64,.bool,.str,.str,.str] s rfl) (.c (nJ k) (.c q (.k 2 (nJ k) (.c K (.c (aG q) .nil))))))))))) (.v 51 (.eq L) (.v 86 (.rd [.bool,.str,.str,.int .i64] i rfl) (.c v (.v 79 (.rd [.int .i64,.bool,.str,.str,.str] s rfl) (.v 54 (.ppt g) .nil))))) C
  | [j0],b,a,g,c,n=>
   have u:=a j0 (by simp)
   have v:=r true [os.getD j0 zO] b (by simpa using n j0 (by simp))
   have f:=hdrop j0 (by omega)
   have i:List.drop ((0+(Int.toNat (k:Int)))*4) (gp os)=Cc (dD E x [os.getD j0 zO])++gp (os.drop (k+1)):=c
   generalize os.getD j0 zO=o0 at*
   generalize dD E x [o0]=o at*
   have F:=w j0
   have q0:=y j0 u
   have w0:=z j0 u
   have g:List.drop ((Int.toNat (k:Int))*1) (dA A)= [.sl [.int .i64 (j0:Int)] 1 false]++dA (A.drop (k+1)):=g
   exact pN 6 [] 7 3 (.c (sfO o) (.a (rU [.bool,.str,.str,.int .i64] i rfl) (.c (nJ k) (.c J (.n 2 (.a (rU [.int .i64,.bool,.str,.str,.str] s rfl) (.c (nJ k) (.c q (.n 4 (.a (rU [.bool,.str,.str,.int .i64] f rfl) (.c (nJ j0) (.c w0 (.c (aF q0) (.c (aF F) (.k 5 (nJ k) (.c K (.c (aG q) .nil))))))))))))))))) (.v 51 (.eq L) (.v 86 (.rd [.bool,.str,.str,.int .i64] i rfl) (.c v (.v 79 (.rd [.int .i64,.bool,.str,.str,.str] s rfl) (.v 72 (.rd [.bool,.str,.str,.int .i64] f rfl) (.v 54 (.ppt g) .nil)))))) C
  | [j0,j1],b,a,g,c,n=>
   have u:=a j0 (by simp)
   have H:=a j1 (by simp)
   have v:=r true [os.getD j0 zO,os.getD j1 zO] b (by intro o G;simp at G;rcases G with rfl|rfl;exact n j0 (by simp);exact n j1 (by simp))
   have f:=hdrop j0 (by omega)
   have p:=hdrop j1 (by omega)
   have i:List.drop ((0+(Int.toNat (k:Int)))*4) (gp os)=Cc (dD E x [os.getD j0 zO,os.getD j1 zO])++gp (os.drop (k+1)):=c
   generalize os.getD j0 zO=o0 at*
   generalize os.getD j1 zO=o1 at*
   generalize dD E x [o0,o1]=o at*
   have F:=w j0
   have q0:=y j0 u
   have w0:=z j0 u
   have T:=w j1
   have S:=y j1 H
   have P:=z j1 H
   have g:List.drop ((Int.toNat (k:Int))*1) (dA A)= [.sl [.int .i64 (j0:Int),.int .i64 (j1:Int)] 2 false]++dA (A.drop (k+1)):=g
   exact pN 6 [] 10 35 (.c (sfO o) (.a (rU [.bool,.str,.str,.int .i64] i rfl) (.c (nJ k) (.c J (.n 2 (.a (rU [.int .i64,.bool,.str,.str,.str] s rfl) (.c (nJ k) (.c q (.n 5 (.a (rU [.bool,.str,.str,.int .i64] p rfl) (.c (nJ j1) (.c P (.c (aF S) (.c (aF T) (.n 7 (.a (rU [.bool,.str,.str,.int .i64] f rfl) (.c (nJ j0) (.c w0 (.c (aF q0) (.c (aF F) (.k 5 (nJ k) (.c K (.c (aG q) .nil))))))))))))))))))))))) (.v 51 (.eq L) (.v 86 (.rd [.bool,.str,.str,.int .i64] i rfl) (.c v (.v 79 (.rd [.int .i64,.bool,.str,.str,.str] s rfl) (.v 72 (.rd [.bool,.str,.str,.int .i64] p rfl) (.v 72 (.rd [.bool,.str,.str,.int .i64] f rfl) (.v 54 (.ppt g) .nil))))))) C
  | [j0,j1,j2],b,a,g,c,n=>
   have u:=a j0 (by simp)
   have H:=a j1 (by simp)
   have U:=a j2 (by simp)
   have v:=r true [os.getD j0 zO,os.getD j1 zO,os.getD j2 zO] b (by intro o G;simp at G;rcases G with rfl|rfl|rfl;exact n j0 (by simp);exact n j1 (by simp);exact n j2 (by simp))
   have f:=hdrop j0 (by omega)
   have p:=hdrop j1 (by omega)
   have B:=hdrop j2 (by omega)
   have i:List.drop ((0+(Int.toNat (k:Int)))*4) (gp os)=Cc (dD E x [os.getD j0 zO,os.getD j1 zO,os.getD j2 zO])++gp (os.drop (k+1)):=c
   generalize os.getD j0 zO=o0 at*
   generalize os.getD j1 zO=o1 at*
   generalize os.getD j2 zO=o2 at*
   generalize dD E x [o0,o1,o2]=o at*
   have F:=w j0
   have q0:=y j0 u
   have w0:=z j0 u
   have T:=w j1
   have S:=y j1 H
   have P:=z j1 H
   have p2:=w j2
   have W:=y j2 U
   have w2:=z j2 U
   have g:List.drop ((Int.toNat (k:Int))*1) (dA A)= [.sl [.int .i64 (j0:Int),.int .i64 (j1:Int),.int .i64 (j2:Int)] 3 false]++dA (A.drop (k+1)):=g
   exact pN 6 [] 13 291 (.c (sfO o) (.a (rU [.bool,.str,.str,.int .i64] i rfl) (.c (nJ k) (.c J (.n 2 (.a (rU [.int .i64,.bool,.str,.str,.str] s rfl) (.c (nJ k) (.c q (.n 5 (.a (rU [.bool,.str,.str,.int .i64] B rfl) (.c (nJ j2) (.c w2 (.c (aF W) (.c (aF p2) (.n 8 (.a (rU [.bool,.str,.str,.int .i64] p rfl) (.c (nJ j1) (.c P (.c (aF S) (.c (aF T) (.n 7 (.a (rU [.bool,.str,.str,.int .i64] f rfl) (.c (nJ j0) (.c w0 (.c (aF q0) (.c (aF F) (.k 5 (nJ k) (.c K (.c (aG q) .nil))))))))))))))))))))))))))))) (.v 51 (.eq L) (.v 86 (.rd [.bool,.str,.str,.int .i64] i rfl) (.c v (.v 79 (.rd [.int .i64,.bool,.str,.str,.str] s rfl) (.v 72 (.rd [.bool,.str,.str,.int .i64] B rfl) (.v 72 (.rd [.bool,.str,.str,.int .i64] p rfl) (.v 72 (.rd [.bool,.str,.str,.int .i64] f rfl) (.v 54 (.ppt g) .nil)))))))) C
  |_::_::_::_::_,b,_,_,_,_=>simp only [List.length_cons] at b;omega
theorem aga (b c:List Int) (q:Int) (e:List Nd) (a:List Oq) (A:List (List Nat)) (E:dW) (v:Oq) (z:Nat) (rv:List AV) (i:AV.int .i64 (IntKind.wrap .i64 ((a.length:Int) - ((1:Nat):Int)))= .int .i64 (z:Int)) (d:(List.drop ((0+(Int.toNat (z:Int)))*4) (gp a))=Cc v++rv) (m:(decide (((0:Nat):Int)≤(z:Int)))=true) (g:(decide ((z:Int)<(a.length:Int)))=true) (k:lit false (!((a.length:Int)==(e.length:Int)))=true) (j:lit false (!((A.length:Int)==(e.length:Int)))=true) (p:CO 13 [] (.ret (.bool true))) (l:CO 23 [.agg [.sl (iL b) b.length false,.sl (iL c) c.length false],.int .u8 q,.bool true] (.ret (.tup [.own (bC e) e.length 5,.agg [.sl (kE E.ls) E.ls.length true,.sl (kS (E.qs.map Sq.c)) (E.qs.map Sq.c).length true]]))) (f:CO 19 [.sl (List.take (e.length*5) (bC e)) e.length true,.agg [.sl (kE E.ls) E.ls.length true,.sl (kS (E.qs.map Sq.c)) (E.qs.map Sq.c).length true]] (.ret (.own (gp a) a.length 4))) (n:CO 24 [.sl (List.take (e.length*5) (bC e)) e.length true] (.ret (.tup [.sl (dA A) A.length true,.bool true]))) (h:aK prog ap [] 101 (.block 0 (.loop (af 0 (ah f6)))) ⟨[(0,.agg [.sl (iL b) b.length false,.sl (iL c) c.length false]),(1,.int .u8 q),(2,.ptr 0 0 0),(4,.bool false),(5,.bool true),(6,.ref 1 0 0 e.length),(7,.ptr 2 0 0),(8,.ref 3 0 0 a.length),(9,.sl (dA A) A.length true),(10,.bool true),(11,.int .i64 0),(12,.dead),(14,.dead),(45,.bool (!((a.length:Int)==(e.length:Int)))),(49,.dead),(55,.dead),(56,.dead),(57,.dead),(58,.dead),(67,.dead),(87,.dead)],[(0,⟨[.sl (iL b) b.length false,.sl (iL c) c.length false],0,false,0,0,true⟩),(1,⟨(bC e),0,true,(List.length (bC e)),5,true⟩),(2,⟨[.sl (kE E.ls) E.ls.length true,.sl (kS (E.qs.map Sq.c)) (E.qs.map Sq.c).length true],0,false,0,0,true⟩),(3,⟨(gp a),0,false,0,4,true⟩)],.dead,[]⟩ (.normal) ⟨[(5,.bool true),(6,.ref 0 0 0 e.length),(7,.ptr 1 0 0),(8,.ref 2 0 0 a.length)],[(0,⟨(bC e),0,true,(List.length (bC e)),5,true⟩),(1,⟨[.sl (kE E.ls) E.ls.length true,.sl (kS (E.qs.map Sq.c)) (E.qs.map Sq.c).length true],0,false,0,0,true⟩),(2,⟨(gp a),0,false,0,4,true⟩)],.dead,[]⟩) (o:CO 21 [.sl (List.take (e.length*5) (bC e)) e.length true,.agg [.sl (kE E.ls) E.ls.length true,.sl (kS (E.qs.map Sq.c)) (E.qs.map Sq.c).length true]] (.ret (.agg [.bool v.n,.str v.a,.str v.d,.int .i64 v.e]))):CO 6 [.agg [.sl (iL b) b.length false,.sl (iL c) c.length false],.int .u8 q] (.ret (.bool true)):=pK [0] 4 8 (.a (rU [.bool,.str,.str,.int .i64] d rfl) (.c m (.c g (.k 3 k (.c j (.n 6 .nil)))))) (.v 99 (.eq (seO v)) (.v 98 (.rd [.bool,.str,.str,.int .i64] d rfl) (.v 96 (.eq i) (.c o (.l h (.c n (.c f (.c l (.c p .nil)))))))))
theorem af9 (b c:List Int) (q:Int) (A:b.length<2^63) (w:c.length<2^63):CO 6 [.agg [.sl (iL b) b.length false,.sl (iL c) c.length false],.int .u8 q] (.ret (.bool true)):=by
 obtain ⟨t,u,ck⟩:=alf (IntKind.wrap .i64 q)
 obtain ⟨e,a,o⟩:=ag2 q t u b A
 obtain ⟨E,n,B⟩:=akV true true false c w
 have r:=ag3 ck o B
 have f:=n.sm
 have d:=a.ck
 have m:=Ha E true true true f d a.sm
 have i:=U7 e true a.sm d
 have g:=g_ E true true true (e:=e) f a.sm
 have h:=tq E e
 have j:=a.pos
 have p:=a.ln
 rw [← Jm e] at m i g
 rw [Ea d] at g
 have s:=oG (l:=dL E e) (k:=e.length - 1) (by omega)
 have x:=(wY d).1
 generalize (dL E e).getD (e.length - 1) zO=v at*
 have z:AV.int .i64 (IntKind.wrap .i64 ((((dL E e).length:Nat):Int) - ((1:Nat):Int)))= .int .i64 ((e.length - 1:Nat):Int):=by
  congr 1;exact (bF (by omega) (by omega)).trans (by omega)
 exact aga b c q e (dL E e) (eP e) E v (e.length - 1) _ z s (nJ _) (decide_eq_true (by omega)) (by rw [show ((((dL E e).length:Nat):Int)==(e.length:Int))=true by simp;omega];rfl) (by rw [show ((((eP e).length:Nat):Int)==(e.length:Int))=true by simp;omega];rfl) agh r m i (aI.blk (fun nt y=>aeQ (nt:=nt) y b c a f e.length 0 (by omega)) (by simp) rfl (aO.of ⟨rfl,rfl,rfl,rfl,rfl,rfl,rfl,trivial⟩) (aO.refl _)) g
theorem Beg.uniq {ps:List (List Nat)} {i b:Nat} (h:Beg ps i b):∀ {c:Nat},Beg ps i c→b=c:=by
 induction h with
 |@z i h0=>
  intro c a
  cases a with
  |z _=>rfl
  |s h1 _ _=>rw [h0] at h1;cases h1
 | @s i c0 b r h1 h2 h3 ih=>
  intro c a
  cases a with
  |z h0=>rw [h1] at h0;cases h0
  |@s _ c1 _ r1 g1 g2 g3=>
   rw [h1,Option.some.injEq,List.cons.injEq] at g1
   obtain ⟨rfl,_⟩:=g1
   exact ih g3
theorem aco {l:List Nat} {k v:Nat} (h:k<l.length):List.take ((0+(Int.toNat (k:Int)))*1) (aj l)++ [AV.int .i64 (v:Int)]++List.drop (((0+(Int.toNat (k:Int)))*1)+1) (aj l)=aj (l.set k v):=by
 rw [aJ,Nat.zero_add,Nat.mul_one]
 unfold aj
 rw [List.map_set,List.set_eq_take_append_cons_drop,if_pos (by rw [List.length_map];exact h),List.append_assoc]
 rfl
theorem aar {l:List Nat} {k v:Nat} (h:l[k]? =some v):List.headD (List.drop ((0+(Int.toNat (k:Int)))*1) (aj l)) .dead=AV.int .i64 (v:Int):=by
 obtain ⟨a,b⟩:=List.getElem?_eq_some_iff.1 h
 rw [aJ,Nat.zero_add,Nat.mul_one]
 unfold aj
 rw [← List.map_drop,List.drop_eq_getElem_cons a,b]
 rfl
abbrev ac3 (la lb:List Int) (E:dW) (e:List Nd) (os:List Oq) (A:List (List Nat)) (k:Nat) (cs:List AV):St:=⟨[(2,.ptr 0 0 0),(5,.bool true),(6,.ref 1 0 0 e.length),(7,.ptr 2 0 0),(8,.ref 3 0 0 os.length),(9,.sl (dA A) A.length true),(11,.ref 4 0 0 e.length),(12,.int .i64 (k:Int))],[(0,⟨[.sl (iL la) la.length false,.sl (iL lb) lb.length false],0,false,0,0,true⟩),(1,⟨(bC e),0,true,(List.length (bC e)),5,true⟩),(2,⟨[.sl (kE E.ls) E.ls.length true,.sl (kS (E.qs.map Sq.c)) (E.qs.map Sq.c).length true],0,false,0,0,true⟩),(3,⟨(gp os),0,false,0,4,true⟩),(4,⟨cs,0,false,0,1,true⟩)],.dead,[]⟩
abbrev ptS (la lb:List Int) (E:dW) (e:List Nd) (os:List Oq) (A:List (List Nat)) (p:Nat × List Nat):St:=ac3 la lb E e os A p.1 (aj p.2)
theorem ac2 {e:List Nd} {b k:Nat} (f:b≤k) (g:k<e.length):AV.sl (List.take (((Int.toNat ((k+1:Nat):Int)) - (Int.toNat (b:Int)))*5) (List.drop ((0+(Int.toNat (b:Int)))*5) (bC e))) ((Int.toNat ((k+1:Nat):Int)) - (Int.toNat (b:Int))) true= .sl (bC ((e.drop b).take (k+1 - b))) ((e.drop b).take (k+1 - b)).length true:=by
 rw [aJ,aJ,Nat.zero_add]
 have a:bC e=bC (e.take b)++(bC ((e.drop b).take (k+1 - b))++bC ((e.drop b).drop (k+1 - b))):=by
  rw [← Jk,List.take_append_drop,← Jk,List.take_append_drop]
 have d:(bC (e.take b)).length=b*5:=by rw [aP,List.length_take];congr 1;omega
 have c:(bC ((e.drop b).take (k+1 - b))).length=(k+1 - b)*5:=by rw [aP,List.length_take,List.length_drop];congr 1;omega
 rw [a,← d,List.drop_left,← c,List.take_left]
 congr 1
 rw [List.length_take,List.length_drop];omega
theorem afp {nt:Nat} (M:100≤nt) (y B:List Int) {E:dW} {e:List Nd} {t:Ty} (hd:Du t e) (hE:E.sm):∀ (d k:Nat) (a:List Nat),k+d=e.length→a.length=e.length→(∀ i,i<k→Beg (eP e) i (a.getD i 0))→aI prog ap [] nt (af 0 (ah f7)) (fun _:Unit=> .exit 0) (ptS y B E e (dL E e) (eP e)) (fun _=> ⟨[(5,.bool true)],[],.dead,[]⟩) (k,a) ():=by
 have hc:=hd.ck
 obtain ⟨hal,has⟩:=wY hc
 have hol:=tq E e
 have h13:=hd.ln
 obtain ⟨us,hus,_,W⟩:=hd.tm.parts (by omega)
 intro d
 induction d with
 |zero=>
  intro k a z P S
  have j:decide ((k:Int)<(e.length:Int))=false:=decide_eq_false (by omega)
  generalize dL E e=os at*
  generalize eP e=A at*
  exact .done (pN 7 [] 1 0 (.c (aF j) .nil) (.nil) M)
 | succ d ih=>
  intro k a z P S
  have C:k<e.length:=by omega
  obtain ⟨L,p⟩:=has k e[k] (List.getElem?_eq_getElem C)
  have h3:=Iz e[k].op
  have g:=NG (A:=eP e) (k:=k) (by omega)
  have q:(eP e)[k]? =some ((eP e).getD k []):=by rw [List.getD_eq_getElem?_getD,List.getElem?_eq_getElem (by omega)];rfl
  obtain ⟨b,hb,c,Y⟩:=W k C
  have V:=af5 (E:=E) hc C hb Y
  have Z:∀ x ∈ (e.drop b).take (k+1 - b),x.sm:=fun x hx=>hd.sm x (List.mem_of_mem_drop (List.mem_of_mem_take hx))
  have T:=g_ E true true true (e:=(e.drop b).take (k+1 - b)) hE Z
  rw [← ac2 hb C,V] at T
  have X:=oG (l:=dL E e) (k:=k) (by omega)
  have r:∀ v:Nat,Beg (eP e) k v→aI prog ap [] nt (af 0 (ah f7)) (fun _:Unit=> .exit 0) (ptS y B E e (dL E e) (eP e)) (fun _=> ⟨[(5,.bool true)],[],.dead,[]⟩) (k+1,a.set k v) ():=fun v hv=>by
   refine ih (k+1) (a.set k v) (by omega) (by rw [List.length_set];exact P) fun i hi=> ?_
   by_cases hik:i=k
   ·subst hik
    rw [List.getD_eq_getElem?_getD,List.getElem?_set_self (by omega)]
    exact hv
   ·rw [List.getD_eq_getElem?_getD,List.getElem?_set_ne (by omega),← List.getD_eq_getElem?_getD]
    exact S i (by omega)
  generalize (dL E e).getD k zO=o at*
  generalize dL E e=os at*
  have j:decide ((k:Int)<(e.length:Int))=true:=decide_eq_true (by omega)
  have K:decide ((k:Int)<(((eP e).length:Nat):Int))=true:=decide_eq_true (by omega)
  have U:decide ((k:Int)<(os.length:Int))=true:=decide_eq_true (by omega)
  have G:decide ((b:Int)≤((k+1:Nat):Int))=true:=decide_eq_true (by omega)
  have D:decide (((k+1:Nat):Int)≤(e.length:Int))=true:=decide_eq_true (by omega)
  have J:AV.int .i64 (IntKind.wrap .i64 ((k:Int)+((1:Nat):Int)))=AV.int .i64 ((k+1:Nat):Int):=Ci (by omega)
  have F:Nat.ble (((0+(Int.toNat (k:Int)))*1)+1) (List.length (aj a))=true:=Nat.ble_eq_true_of_le (by rw [aJ];unfold aj;rw [List.length_map];omega)
  have z:List.drop ((0+(Int.toNat (k:Int)))*4) (gp os)=Cc o++gp (os.drop (k+1)):=X
  have f:=aco (v:=k) (l:=a) (k:=k) (by omega)
  match hal2:(eP e).getD k [],L,p with
  | [],_,_=>
   have h:b=k:=c.uniq (.z (by rw [q,hal2]))
   rw [hal2] at g
   have g:List.drop ((Int.toNat (k:Int))*1) (dA (eP e))= [.sl [] 0 false]++dA ((eP e).drop (k+1)):=g
   have r:=r k (h ▸ c)
   have m:AV.int .i64 (AV.toInt (List.headD (List.drop ((0+(Int.toNat (k:Int)))*1) (List.take ((0+(Int.toNat (k:Int)))*1) (aj a)++ [.int .i64 (k:Int)]++List.drop (((0+(Int.toNat (k:Int)))*1)+1) (aj a))) .dead))= .int .i64 (b:Int):=by
    rw [f,aar (v:=k) (by rw [List.getElem?_set_self (by omega)]),h];rfl
   have n:chk (.int .i64) (List.headD (List.drop ((0+(Int.toNat (k:Int)))*1) (List.take ((0+(Int.toNat (k:Int)))*1) (aj a)++ [.int .i64 (k:Int)]++List.drop (((0+(Int.toNat (k:Int)))*1)+1) (aj a))) .dead)=true:=by
    rw [f,aar (v:=k) (by rw [List.getElem?_set_self (by omega)])];rfl
   refine .next ?_ r
   rw [show ptS y B E e os (eP e) (k+1,a.set k k)=ac3 y B E e os (eP e) (k+1) (aj (a.set k k)) from rfl,← f]
   generalize eP e=A at*
   exact pN 7 [] 3 1 (.c (sfO o) (.a (rU [.bool,.str,.str,.int .i64] z rfl) (.c (nJ k) (.c U (.k 2 (nJ b) (.c G (.c D (.c n (.c (nJ k) (.c j (.k 2 (nJ k) (.c K (.c F (.c (nJ k) (.c j (.c (aG j) .nil)))))))))))))))) (.v 53 (.eq J) (.v 97 (.rd [.bool,.str,.str,.int .i64] z rfl) (.c T (.v 90 (.eq J) (.v 88 (.eq m) (.v 60 (.ppt g) .nil)))))) M
  | [j0],_,p=>
   have H:=p j0 (by simp)
   have h:b=a.getD j0 0:=c.uniq (.s (by rw [q,hal2]) H (S j0 H))
   rw [hal2] at g
   have g:List.drop ((Int.toNat (k:Int))*1) (dA (eP e))= [.sl [.int .i64 (j0:Int)] 1 false]++dA ((eP e).drop (k+1)):=g
   have r:=r b c
   have w:=aco (v:=b) (l:=a.set k k) (k:=k) (by rw [List.length_set];omega)
   have O:(a.set k k).set k b=a.set k b:=List.set_set ..
   have I:(a.set k k)[j0]? =some b:=by
    rw [List.getElem?_set_ne (by omega),h,List.getD_eq_getElem?_getD,List.getElem?_eq_getElem (by omega)];rfl
   have Q:AV.int .i64 (AV.toInt (List.headD (List.drop ((0+(Int.toNat (j0:Int)))*1) (List.take ((0+(Int.toNat (k:Int)))*1) (aj a)++ [.int .i64 (k:Int)]++List.drop (((0+(Int.toNat (k:Int)))*1)+1) (aj a))) .dead))= .int .i64 (b:Int):=by rw [f,aar I];rfl
   have u:chk (.int .i64) (List.headD (List.drop ((0+(Int.toNat (j0:Int)))*1) (List.take ((0+(Int.toNat (k:Int)))*1) (aj a)++ [.int .i64 (k:Int)]++List.drop (((0+(Int.toNat (k:Int)))*1)+1) (aj a))) .dead)=true:=by rw [f,aar I];rfl
   have m:AV.int .i64 (AV.toInt (List.headD (List.drop ((0+(Int.toNat (k:Int)))*1) (List.take ((0+(Int.toNat (k:Int)))*1) (List.take ((0+(Int.toNat (k:Int)))*1) (aj a)++ [.int .i64 (k:Int)]++List.drop (((0+(Int.toNat (k:Int)))*1)+1) (aj a))++ [.int .i64 (b:Int)]++List.drop (((0+(Int.toNat (k:Int)))*1)+1) (List.take ((0+(Int.toNat (k:Int)))*1) (aj a)++ [.int .i64 (k:Int)]++List.drop (((0+(Int.toNat (k:Int)))*1)+1) (aj a)))) .dead))= .int .i64 (b:Int):=by
    rw [f,w,aar (v:=b) (by rw [List.getElem?_set_self (by rw [List.length_set];omega)])];rfl
   have n:chk (.int .i64) (List.headD (List.drop ((0+(Int.toNat (k:Int)))*1) (List.take ((0+(Int.toNat (k:Int)))*1) (List.take ((0+(Int.toNat (k:Int)))*1) (aj a)++ [.int .i64 (k:Int)]++List.drop (((0+(Int.toNat (k:Int)))*1)+1) (aj a))++ [.int .i64 (b:Int)]++List.drop (((0+(Int.toNat (k:Int)))*1)+1) (List.take ((0+(Int.toNat (k:Int)))*1) (aj a)++ [.int .i64 (k:Int)]++List.drop (((0+(Int.toNat (k:Int)))*1)+1) (aj a)))) .dead)=true:=by
    rw [f,w,aar (v:=b) (by rw [List.getElem?_set_self (by rw [List.length_set];omega)])];rfl
   have s:Nat.ble (((0+(Int.toNat (k:Int)))*1)+1) (List.length (List.take ((0+(Int.toNat (k:Int)))*1) (aj a)++ [.int .i64 (k:Int)]++List.drop (((0+(Int.toNat (k:Int)))*1)+1) (aj a)))=true:=by
    rw [f];exact Nat.ble_eq_true_of_le (by rw [aJ];unfold aj;rw [List.length_map,List.length_set];omega)
   have R:decide ((j0:Int)<((0:Nat):Int))=false:=decide_eq_false (by omega)
   have q0:decide ((k:Int)≤(j0:Int))=false:=decide_eq_false (by omega)
   have N:decide ((j0:Int)<(e.length:Int))=true:=decide_eq_true (by omega)
   refine .next ?_ r
   rw [show ptS y B E e os (eP e) (k+1,a.set k b)=ac3 y B E e os (eP e) (k+1) (aj (a.set k b)) from rfl,← O,← w,← f]
   generalize eP e=A at*
   exact pN 7 [] 5 3 (.c (sfO o) (.a (rU [.bool,.str,.str,.int .i64] z rfl) (.c (nJ k) (.c U (.k 2 (nJ b) (.c G (.c D (.c n (.c (nJ k) (.c j (.c s (.c (nJ k) (.c j (.c u (.c (nJ j0) (.c N (.c (aF q0) (.c (aF R) (.k 4 (nJ k) (.c K (.k 2 (nJ k) (.c K (.c F (.c (nJ k) (.c j (.c (aG j) .nil)))))))))))))))))))))))))) (.v 53 (.eq J) (.v 97 (.rd [.bool,.str,.str,.int .i64] z rfl) (.c T (.v 90 (.eq J) (.v 88 (.eq m) (.v 82 (.eq Q) (.v 66 (.ppt g) (.v 60 (.ppt g) .nil)))))))) M
  | [j0,j1],_,p=>
   have H:=p j0 (by simp)
   have h:b=a.getD j0 0:=c.uniq (.s (by rw [q,hal2]) H (S j0 H))
   rw [hal2] at g
   have g:List.drop ((Int.toNat (k:Int))*1) (dA (eP e))= [.sl [.int .i64 (j0:Int),.int .i64 (j1:Int)] 2 false]++dA ((eP e).drop (k+1)):=g
   have r:=r b c
   have w:=aco (v:=b) (l:=a.set k k) (k:=k) (by rw [List.length_set];omega)
   have O:(a.set k k).set k b=a.set k b:=List.set_set ..
   have I:(a.set k k)[j0]? =some b:=by
    rw [List.getElem?_set_ne (by omega),h,List.getD_eq_getElem?_getD,List.getElem?_eq_getElem (by omega)];rfl
   have Q:AV.int .i64 (AV.toInt (List.headD (List.drop ((0+(Int.toNat (j0:Int)))*1) (List.take ((0+(Int.toNat (k:Int)))*1) (aj a)++ [.int .i64 (k:Int)]++List.drop (((0+(Int.toNat (k:Int)))*1)+1) (aj a))) .dead))= .int .i64 (b:Int):=by rw [f,aar I];rfl
   have u:chk (.int .i64) (List.headD (List.drop ((0+(Int.toNat (j0:Int)))*1) (List.take ((0+(Int.toNat (k:Int)))*1) (aj a)++ [.int .i64 (k:Int)]++List.drop (((0+(Int.toNat (k:Int)))*1)+1) (aj a))) .dead)=true:=by rw [f,aar I];rfl
   have m:AV.int .i64 (AV.toInt (List.headD (List.drop ((0+(Int.toNat (k:Int)))*1) (List.take ((0+(Int.toNat (k:Int)))*1) (List.take ((0+(Int.toNat (k:Int)))*1) (aj a)++ [.int .i64 (k:Int)]++List.drop (((0+(Int.toNat (k:Int)))*1)+1) (aj a))++ [.int .i64 (b:Int)]++List.drop (((0+(Int.toNat (k:Int)))*1)+1) (List.take ((0+(Int.toNat (k:Int)))*1) (aj a)++ [.int .i64 (k:Int)]++List.drop (((0+(Int.toNat (k:Int)))*1)+1) (aj a)))) .dead))= .int .i64 (b:Int):=by
    rw [f,w,aar (v:=b) (by rw [List.getElem?_set_self (by rw [List.length_set];omega)])];rfl
   have n:chk (.int .i64) (List.headD (List.drop ((0+(Int.toNat (k:Int)))*1) (List.take ((0+(Int.toNat (k:Int)))*1) (List.take ((0+(Int.toNat (k:Int)))*1) (aj a)++ [.int .i64 (k:Int)]++List.drop (((0+(Int.toNat (k:Int)))*1)+1) (aj a))++ [.int .i64 (b:Int)]++List.drop (((0+(Int.toNat (k:Int)))*1)+1) (List.take ((0+(Int.toNat (k:Int)))*1) (aj a)++ [.int .i64 (k:Int)]++List.drop (((0+(Int.toNat (k:Int)))*1)+1) (aj a)))) .dead)=true:=by
    rw [f,w,aar (v:=b) (by rw [List.getElem?_set_self (by rw [List.length_set];omega)])];rfl
   have s:Nat.ble (((0+(Int.toNat (k:Int)))*1)+1) (List.length (List.take ((0+(Int.toNat (k:Int)))*1) (aj a)++ [.int .i64 (k:Int)]++List.drop (((0+(Int.toNat (k:Int)))*1)+1) (aj a)))=true:=by
    rw [f];exact Nat.ble_eq_true_of_le (by rw [aJ];unfold aj;rw [List.length_map,List.length_set];omega)
   have R:decide ((j0:Int)<((0:Nat):Int))=false:=decide_eq_false (by omega)
   have q0:decide ((k:Int)≤(j0:Int))=false:=decide_eq_false (by omega)
   have N:decide ((j0:Int)<(e.length:Int))=true:=decide_eq_true (by omega)
   refine .next ?_ r
   rw [show ptS y B E e os (eP e) (k+1,a.set k b)=ac3 y B E e os (eP e) (k+1) (aj (a.set k b)) from rfl,← O,← w,← f]
   generalize eP e=A at*
   exact pN 7 [] 5 3 (.c (sfO o) (.a (rU [.bool,.str,.str,.int .i64] z rfl) (.c (nJ k) (.c U (.k 2 (nJ b) (.c G (.c D (.c n (.c (nJ k) (.c j (.c s (.c (nJ k) (.c j (.c u (.c (nJ j0) (.c N (.c (aF q0) (.c (aF R) (.k 4 (nJ k) (.c K (.k 2 (nJ k) (.c K (.c F (.c (nJ k) (.c j (.c (aG j) .nil)))))))))))))))))))))))))) (.v 53 (.eq J) (.v 97 (.rd [.bool,.str,.str,.int .i64] z rfl) (.c T (.v 90 (.eq J) (.v 88 (.eq m) (.v 82 (.eq Q) (.v 66 (.ppt g) (.v 60 (.ppt g) .nil)))))))) M
  | [j0,j1,j2],_,p=>
   have H:=p j0 (by simp)
   have h:b=a.getD j0 0:=c.uniq (.s (by rw [q,hal2]) H (S j0 H))
   rw [hal2] at g
   have g:List.drop ((Int.toNat (k:Int))*1) (dA (eP e))= [.sl [.int .i64 (j0:Int),.int .i64 (j1:Int),.int .i64 (j2:Int)] 3 false]++dA ((eP e).drop (k+1)):=g
   have r:=r b c
   have w:=aco (v:=b) (l:=a.set k k) (k:=k) (by rw [List.length_set];omega)
   have O:(a.set k k).set k b=a.set k b:=List.set_set ..
   have I:(a.set k k)[j0]? =some b:=by
    rw [List.getElem?_set_ne (by omega),h,List.getD_eq_getElem?_getD,List.getElem?_eq_getElem (by omega)];rfl
   have Q:AV.int .i64 (AV.toInt (List.headD (List.drop ((0+(Int.toNat (j0:Int)))*1) (List.take ((0+(Int.toNat (k:Int)))*1) (aj a)++ [.int .i64 (k:Int)]++List.drop (((0+(Int.toNat (k:Int)))*1)+1) (aj a))) .dead))= .int .i64 (b:Int):=by rw [f,aar I];rfl
   have u:chk (.int .i64) (List.headD (List.drop ((0+(Int.toNat (j0:Int)))*1) (List.take ((0+(Int.toNat (k:Int)))*1) (aj a)++ [.int .i64 (k:Int)]++List.drop (((0+(Int.toNat (k:Int)))*1)+1) (aj a))) .dead)=true:=by rw [f,aar I];rfl
   have m:AV.int .i64 (AV.toInt (List.headD (List.drop ((0+(Int.toNat (k:Int)))*1) (List.take ((0+(Int.toNat (k:Int)))*1) (List.take ((0+(Int.toNat (k:Int)))*1) (aj a)++ [.int .i64 (k:Int)]++List.drop (((0+(Int.toNat (k:Int)))*1)+1) (aj a))++ [.int .i64 (b:Int)]++List.drop (((0+(Int.toNat (k:Int)))*1)+1) (List.take ((0+(Int.toNat (k:Int)))*1) (aj a)++ [.int .i64 (k:Int)]++List.drop (((0+(Int.toNat (k:Int)))*1)+1) (aj a)))) .dead))= .int .i64 (b:Int):=by
    rw [f,w,aar (v:=b) (by rw [List.getElem?_set_self (by rw [List.length_set];omega)])];rfl
   have n:chk (.int .i64) (List.headD (List.drop ((0+(Int.toNat (k:Int)))*1) (List.take ((0+(Int.toNat (k:Int)))*1) (List.take ((0+(Int.toNat (k:Int)))*1) (aj a)++ [.int .i64 (k:Int)]++List.drop (((0+(Int.toNat (k:Int)))*1)+1) (aj a))++ [.int .i64 (b:Int)]++List.drop (((0+(Int.toNat (k:Int)))*1)+1) (List.take ((0+(Int.toNat (k:Int)))*1) (aj a)++ [.int .i64 (k:Int)]++List.drop (((0+(Int.toNat (k:Int)))*1)+1) (aj a)))) .dead)=true:=by
    rw [f,w,aar (v:=b) (by rw [List.getElem?_set_self (by rw [List.length_set];omega)])];rfl
   have s:Nat.ble (((0+(Int.toNat (k:Int)))*1)+1) (List.length (List.take ((0+(Int.toNat (k:Int)))*1) (aj a)++ [.int .i64 (k:Int)]++List.drop (((0+(Int.toNat (k:Int)))*1)+1) (aj a)))=true:=by
    rw [f];exact Nat.ble_eq_true_of_le (by rw [aJ];unfold aj;rw [List.length_map,List.length_set];omega)
   have R:decide ((j0:Int)<((0:Nat):Int))=false:=decide_eq_false (by omega)
   have q0:decide ((k:Int)≤(j0:Int))=false:=decide_eq_false (by omega)
   have N:decide ((j0:Int)<(e.length:Int))=true:=decide_eq_true (by omega)
   refine .next ?_ r
   rw [show ptS y B E e os (eP e) (k+1,a.set k b)=ac3 y B E e os (eP e) (k+1) (aj (a.set k b)) from rfl,← O,← w,← f]
   generalize eP e=A at*
   exact pN 7 [] 5 3 (.c (sfO o) (.a (rU [.bool,.str,.str,.int .i64] z rfl) (.c (nJ k) (.c U (.k 2 (nJ b) (.c G (.c D (.c n (.c (nJ k) (.c j (.c s (.c (nJ k) (.c j (.c u (.c (nJ j0) (.c N (.c (aF q0) (.c (aF R) (.k 4 (nJ k) (.c K (.k 2 (nJ k) (.c K (.c F (.c (nJ k) (.c j (.c (aG j) .nil)))))))))))))))))))))))))) (.v 53 (.eq J) (.v 97 (.rd [.bool,.str,.str,.int .i64] z rfl) (.c T (.v 90 (.eq J) (.v 88 (.eq m) (.v 82 (.eq Q) (.v 66 (.ppt g) (.v 60 (.ppt g) .nil)))))))) M
  |_::_::_::_::_,L,_=>simp only [List.length_cons] at L;omega
theorem age (b a:List Int) (q:Int) (e:List Nd) (c:List Oq) (A:List (List Nat)) (E:dW) (n:(decide (((0:Nat):Int)≤(e.length:Int)))=true) (i:(decide ((e.length:Int)=(e.length:Int)))=true) (g:(decide ((e.length:Int)≤((1099511627776:Nat):Int)))=true) (m:lit false (!((c.length:Int)==(e.length:Int)))=true) (l:lit false (!((A.length:Int)==(e.length:Int)))=true) (f:CO 13 [] (.ret (.bool true))) (j:CO 23 [.agg [.sl (iL b) b.length false,.sl (iL a) a.length false],.int .u8 q,.bool true] (.ret (.tup [.own (bC e) e.length 5,.agg [.sl (kE E.ls) E.ls.length true,.sl (kS (E.qs.map Sq.c)) (E.qs.map Sq.c).length true]]))) (h:CO 19 [.sl (List.take (e.length*5) (bC e)) e.length true,.agg [.sl (kE E.ls) E.ls.length true,.sl (kS (E.qs.map Sq.c)) (E.qs.map Sq.c).length true]] (.ret (.own (gp c) c.length 4))) (d:CO 24 [.sl (List.take (e.length*5) (bC e)) e.length true] (.ret (.tup [.sl (dA A) A.length true,.bool true]))) (k:aK prog ap [] 100 (.block 0 (.loop (af 0 (ah f7)))) ⟨[(0,.agg [.sl (iL b) b.length false,.sl (iL a) a.length false]),(1,.int .u8 q),(2,.ptr 0 0 0),(4,.bool false),(5,.bool true),(6,.ref 1 0 0 e.length),(7,.ptr 2 0 0),(8,.ref 3 0 0 c.length),(9,.sl (dA A) A.length true),(10,.bool true),(11,.ref 4 0 0 (Int.toNat (e.length:Int))),(12,.int .i64 0),(13,.dead),(44,.bool (!((c.length:Int)==(e.length:Int)))),(51,.dead),(63,.dead),(76,.dead),(98,.dead)],[(0,⟨[.sl (iL b) b.length false,.sl (iL a) a.length false],0,false,0,0,true⟩),(1,⟨(bC e),0,true,(List.length (bC e)),5,true⟩),(2,⟨[.sl (kE E.ls) E.ls.length true,.sl (kS (E.qs.map Sq.c)) (E.qs.map Sq.c).length true],0,false,0,0,true⟩),(3,⟨(gp c),0,false,0,4,true⟩),(4,⟨(f_ (Int.toNat (e.length:Int)) [.int .i64 0]),0,false,0,1,true⟩)],.dead,[]⟩ (.normal) ⟨[(5,.bool true)],[],.dead,[]⟩):CO 7 [.agg [.sl (iL b) b.length false,.sl (iL a) a.length false],.int .u8 q] (.ret (.bool true)):=pK [0] 3 0 (.c n (.c i (.c g (.c m (.c l (.n 6 .nil)))))) (.l k (.c d (.c h (.c j (.c f .nil)))))
theorem acQ (a b:List Int) (q:Int) (w:a.length<2^63) (s:b.length<2^63):CO 7 [.agg [.sl (iL a) a.length false,.sl (iL b) b.length false],.int .u8 q] (.ret (.bool true)):=by
 obtain ⟨t,r,ck⟩:=alf (IntKind.wrap .i64 q)
 obtain ⟨e,c,m⟩:=ag2 q t r a w
 obtain ⟨E,l,x⟩:=akV true true false b s
 have p:=ag3 ck m x
 have k:=l.sm
 have f:=c.ck
 have j:=Ha E true true true k f c.sm
 have h:=U7 e true c.sm f
 have g:=tq E e
 have o:=c.ln
 rw [← Jm e] at j h
 have u:=(wY f).1
 have d:f_ (Int.toNat (e.length:Int)) [AV.int .i64 0]=aj (List.replicate e.length 0):=by
  rw [aJ]
  unfold f_ aj
  generalize e.length=n
  induction n with
  |zero=>rfl
  |succ n ih=>rw [List.replicate_succ,List.flatten_cons,List.replicate_succ,List.map_cons,ih];rfl
 exact age a b q e (dL E e) (eP e) E (nJ _) (decide_eq_true rfl) (decide_eq_true (by omega)) (by rw [show ((((dL E e).length:Nat):Int)==(e.length:Int))=true by simp;omega];rfl) (by rw [show ((((eP e).length:Nat):Int)==(e.length:Int))=true by simp;omega];rfl) agh p j h (by rw [d];exact aI.blk (fun nt v=>afp (nt:=nt) v a b c k e.length 0 (List.replicate e.length 0) (by omega) (by simp) (fun i y=>by omega)) (by simp) rfl (aO.of ⟨rfl,rfl,rfl,rfl,rfl,rfl,rfl,rfl,trivial⟩) (aO.refl _))
end Go.Proofs.Tryz
set_option maxRecDepth 100000
open Go AM Go.ChangeShapes Go.WideShapes Go.ChangeAt Go.RowKit
namespace Go.Proofs.YtdmfgmmooalfnaaGreatDoor.parts
open Go.Proofs.Tryz
theorem acT (a:Os):laidMet Tryz.prog Rows.evalPartsRow.laid ((agc a).forCall (fun _ _=>0) ⟨#[],#[.agg #[.slice none 0 0,.slice none 0 0],.int .u8 0],[]⟩).memory:=
 laidMet_of_run' 8 (by kernel_rfl) (by kernel_rfl)
theorem agf (a:Os) {H:Type} (enc:TypeId × Value→H):∃ places,DataW.whole enc Tryz.prog ((agc a).forCall (fun _ _=>0) ⟨#[],#[.agg #[.slice none 0 0,.slice none 0 0],.int .u8 0],[]⟩).memory Tryz.f7.params.toList Rows.evalPartsSpec.vars false [.agg #[.slice none 0 0,.slice none 0 0],.int .u8 0] 8=some ([.agg [.nil,.nil],.lit (.int .u8 0)],[],places):=
 ⟨[],by kernel_rfl⟩
theorem acS (H:Type) (enc:TypeId × Value→H) (W:World) (base:Nat) (args:Array Value) (l n:List (DataW H)) (before:List MemPlace)
  (hval:∀ (j:Nat) t v,Tryz.f7.params[j]? =some t→args[j]? =some v→Value.okWide Tryz.prog W .any base t v)
  (hW:DataW.Whole enc Tryz.prog Tryz.f7.params.toList Rows.evalPartsSpec.vars false W args.toList l n before) (hL:laidMetH Tryz.prog Rows.evalPartsRow.laid W):
  Calls Tryz.prog 7 args W fun e W'=> ∃ v,e= .returned v∧Rows.evalPartsSpec.post enc Tryz.prog Tryz.f7 false true false false W args v W':=by
 have b:=hW
 obtain ⟨pp,D,a,u,rfl,p,s⟩:=hW
 have c:DataW.TrodAll enc Tryz.prog W 0 (fun _=>true) true Tryz.f7.params.toList args.toList l pp:=a
 obtain ⟨J⟩:=args
 simp only at c b hval ⊢
 rw [Tryz.params7] at c hval
 obtain ⟨v0,B,G,y,E,q0,rfl,rfl,rfl,x,a⟩:=trodAll_cons c
 obtain ⟨v1,A,C,z,I,F,rfl,rfl,rfl,q,f⟩:=trodAll_cons a
 obtain ⟨rfl,rfl,rfl⟩:=trodAll_nil f
 obtain ⟨rfl,rfl⟩:=trodVars_none u
 obtain ⟨i,m,h,d,g⟩:=akt (t:=46) (by kernel_rfl) (by kernel_rfl) (by kernel_rfl) (hval 0 46 v0 rfl rfl) x
 obtain ⟨w,rfl,_,_,o⟩:=open_int (k:= .u8) (by kernel_rfl) (hval 1 5 v1 rfl rfl) q
 have r:dQ (kQ W) [a2A i m,.int .u8 w] [v0,.int .u8 w]:=by
  simp only [dQ,and_true]
  exact ⟨g,by simp only [PR]⟩
 refine (adr (acQ i m w h d) (ahW hL) r).mono fun e W' ⟨he,hb⟩=> ?_
 subst he
 exact ⟨_,rfl,ah7 akp (by kernel_rfl) b rfl (tb:=4) rfl (by kernel_rfl) rfl hb⟩
theorem af6 (a:Os) (started:a.Started) (H:Type) (enc:TypeId × Value→H) (F:Stop.Interp):
  ReturnsInHanded {} Tryz.checked a 7 .any ((OpenSpec.ofChange Rows.evalPartsSpec).preRow enc Tryz.prog Tryz.f7 Rows.evalPartsRow.domain false Rows.evalPartsRow.laid) (((OpenSpec.ofChange Rows.evalPartsSpec).at F).post enc Tryz.prog Tryz.f7 false true false false):=by
 obtain ⟨places,d⟩:=agf a enc
 refine returnsInHanded_of_row (C:=Tryz.checked) (s:=OpenSpec.ofChange Rows.evalPartsSpec) own started (by kernel_rfl) Tryz.func7
  (witness_row_at (enc:=enc) (C:=Tryz.checked) false (agc a) #[.agg #[.slice none 0 0,.slice none 0 0],.int .u8 0] rfl (by kernel_rfl) (by kernel_rfl) (by kernel_rfl)
   (OpenSpec.preRow_of_cond 8 d (by kernel_rfl) (fun k g=>by cases g) (by kernel_rfl) (acT a))) ?_
 intro W base args h c before b f _ _ _ e _ _
 exact acS H enc W base args h c before b f e
theorem agj:Rows.EvalPartsSaid:=
 OpenClaim.holds_of_cond 7 Tryz.f7 rfl rfl rfl rfl rfl rfl rfl ⟨rfl,rfl,rfl,rfl,rfl⟩ rfl rfl rfl rfl rfl (by kernel_rfl) Tryz.func7 (by kernel_rfl)
  (of_decide_eq_true (by kernel_rfl)) (by unfold Func.isWrapper;first|(rw [if_pos (by decide+kernel)];kernel_rfl)|(rw [if_neg (by decide+kernel)];exact ⟨rfl,rfl⟩))
  (fun a started H enc _ F=>by rw [OpenClaim.pre_eq_preRow];exact af6 a started H enc F)
theorem agd (f:FuncId) (b:Func) (d:Tryz.pinned.checked.prog.funcNamed Rows.evalPartsRow.func=some f) (c:Tryz.pinned.checked.prog.funcs[f]? =some b):
  true=Tryz.pinned.checked.prog.looks []∧∀ (j:Nat) t,b.params[j]? =some t→Tryz.pinned.checked.prog.wantsStandIn t=false:=by
 obtain rfl:f=7:=Option.some.inj ((show Tryz.prog.funcNamed Rows.evalPartsRow.func=some 7 by kernel_rfl).symm.trans d)|>.symm
 obtain rfl:b=Tryz.f7:=(Option.some.inj (Tryz.func7.symm.trans c)).symm
 refine ⟨by kernel_rfl,fun j t e=> ?_⟩
 have a:Tryz.f7.params.toList.all (fun t=> !Tryz.prog.wantsStandIn t)=true:=by kernel_rfl
 have:=List.all_eq_true.1 a t (by simpa using Array.mem_of_getElem? e)
 show Tryz.prog.wantsStandIn t=false
 simpa using this
theorem card:Rows.EvalPartsCardSaid:=
 Claim7.holds_tied_plain_at .later [] _ _ _ _ agj (fun _ h=>by cases h) (by kernel_rfl) (fun _ h=>by cases h) evalParts_row_tie rfl ⟨rfl,rfl⟩ (by kernel_rfl) rfl agd (by kernel_rfl)
end Go.Proofs.YtdmfgmmooalfnaaGreatDoor.parts
