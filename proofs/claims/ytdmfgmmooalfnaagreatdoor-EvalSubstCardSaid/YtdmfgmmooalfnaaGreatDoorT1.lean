/- The law EvalSubst returns true for every input. No conditions beyond the given row's. -/
import Derived.Test.YtdmfgmmooalfnaaGreatDoorC4
set_option linter.unusedSimpArgs false
set_option linter.unusedVariables false
set_option maxRecDepth 100000
open Go AM
namespace Go.Proofs.Tryz
def aar (nm:List UInt8) (x:Nd):Bool:=(x.op==((6:Nat):Int)) && (x.name==nm)
def aco (nm:List UInt8) (by_ e:List Nd):List Nd:=e.flatMap fun x=>if aar nm x then by_ else [x]
def sbE (b:Nat) (o:List Nd):AV:=match o with| []=> .nilS|z::r=> .ref b 0 0 (z::r).length
def sbH (b:Nat) (o:List Nd):Hp:=match o with| []=> []|z::r=> [(b,⟨bC (z::r),0,false,0,5,true⟩)]
theorem acT {b:Nat} {o:List Nd} (h:o ≠ []):sbE b o= .ref b 0 0 o.length:=by cases o with|nil=>exact absurd rfl h|cons _ _=>rfl
theorem ac2 {b:Nat} {o:List Nd} (h:o ≠ []):sbH b o= [(b,⟨bC o,0,false,0,5,true⟩)]:=by cases o with|nil=>exact absurd rfl h|cons _ _=>rfl
def ac3 (e by_:List Nd) (nm:List UInt8) (ne nb:Bool) (p:Nat × List Nd):St:=⟨[(1,.str nm),(2,.sl (bC by_) by_.length nb),(16,.ref 0 0 0 2),(28,.sl (bC e) e.length ne),(29,.int .i64 (e.length:Int)),(30,.int .i64 (p.1:Int)),(11,sbE 1 p.2)],(0,⟨[.sl (bC e) e.length ne,.sl (bC by_) by_.length nb],0,false,0,1,true⟩)::sbH 1 p.2,.dead,[]⟩
def af_ (o:List Nd):St:=⟨[(11,sbE 0 o)],sbH 0 o,.dead,[]⟩
theorem aeq (o w:List Nd) (h:o ≠ []) {e by_:List Nd} {nm:List UInt8} {ne b:Bool} {k:Nat}:ac3 e by_ nm ne b (k,o++w)=⟨[(1,.str nm),(2,.sl (bC by_) by_.length b),(16,.ref 0 0 0 2),(28,.sl (bC e) e.length ne),(29,.int .i64 (e.length:Int)),(30,.int .i64 (k:Int)),(11,.ref 1 0 0 (o.length+w.length))],[(0,⟨[.sl (bC e) e.length ne,.sl (bC by_) by_.length b],0,false,0,1,true⟩),(1,⟨((List.take (o.length*5) (bC o))++(bC w)),0,false,0,5,true⟩)],.dead,[]⟩:=by
 have a:o++w ≠ []:=fun c=>h (List.append_eq_nil_iff.1 c).1
 unfold ac3
 rw [acT a,ac2 a,List.length_append,Jk,List.take_of_length_le (by rw [aP];omega)]
theorem agz (nm:List UInt8) (by_ l:List Nd):∀ o,goL (fun (o:List Nd) x=>(.inl (o++if aar nm x then by_ else [x]):List Nd ⊕ List Nd)) id l o=o++aco nm by_ l:=by
 induction l with
 |nil=>intro o;simp [goL,aco]
 |cons y r ih=>intro o;simp only [goL];rw [ih];simp [aco]
theorem age {nt:Nat} (d:55≤nt) (e by_:List Nd) (nm:List UInt8) (ne l:Bool) (A:e.length<2^20) (j:by_ ≠ []) (v:by_.length<2^10):aI prog ap [] nt (af 2 (ah f33)) (fun _=> .exit 2) (ac3 e by_ nm ne l) af_ (0,[]) (aco nm by_ e):=by
 have m:=agz nm by_ e []
 rw [List.nil_append] at m
 rw [← m]
 refine aI.goL (fun (o:List Nd) x=>(.inl (o++if aar nm x then by_ else [x]):List Nd ⊕ List Nd)) id e (fun p o=>o.length≤p.length*1024) ?_ ?_ e [] [] rfl (by simp)
 ·intro p x r o h y
  have b:(List.drop ((Int.toNat (p.length:Int))*5) (bC e))=yZ x++bC r:=by rw [h];exact Jl rfl
  have n:p.length+(r.length+1)=e.length:=by rw [h];simp
  refine ⟨?_,by rw [List.length_append,List.length_append,List.length_singleton];split<;>first|omega|(rw [List.length_singleton];omega)⟩
  generalize p.length=k at*
  have f:k<2^62:=by omega
  have g:decide (((0:Nat):Int)≤(k:Int))=true:=decide_eq_true (by omega)
  have c:decide ((k:Int)<(e.length:Int))=true:=decide_eq_true (by omega)
  have t:Nat.beq by_.length 0=false:=by cases by_ with|nil=>exact absurd rfl j|cons _ _=>rfl
  have s:Nat.beq (List.length (bC by_)) (by_.length*5)=true:=by rw [aP];exact Nat.beq_refl _
  have u:Nat.ble by_.length 1099511627776=true:=(by rw [Nat.ble_eq];omega)
  show au prog ap [] nt (af 2 (ah f33)) (ac3 e by_ nm ne l (k,o)) .normal (ac3 e by_ nm ne l (k+1,o++if aar nm x then by_ else [x]))
  cases o with
  | nil=>
   rcases tf (x.op==((6:Nat):Int)) with a|a
   ·rcases tf (x.name==nm) with b1|b1
    ·rw [show aar nm x=true by unfold aar;rw [a,b1];rfl]
     rw [if_pos rfl,List.nil_append]
     unfold ac3
     rw [acT j,ac2 j]
     exact pN 33 [] 4 7 (.c s (.c u (.c (aF t) (.c (aG b1) (.k 1 (aG a) (.k 7 g (.c c (.c (aG c) .nil)))))))) (.v 50 (.eq (Ci f)) (.v 32 (.ppt b) .nil)) d
    ·rw [show aar nm x=false by unfold aar;rw [a,b1];rfl]
     exact pN 33 [] 4 3 (.k 8 (aF b1) (.k 1 (aG a) (.k 7 g (.c c (.c (aG c) .nil))))) (.v 50 (.eq (Ci f)) (.v 32 (.ppt b) .nil)) d
   ·rw [show aar nm x=false by unfold aar;rw [a];rfl]
    exact pN 33 [] 4 1 (.k 9 (aF a) (.k 7 g (.c c (.c (aG c) .nil)))) (.v 50 (.eq (Ci f)) (.v 32 (.ppt b) .nil)) d
  | cons z o=>
   have w:Nat.ble ((z::o).length+by_.length) 1099511627776=true:=(by rw [Nat.ble_eq];omega)
   have q:Nat.ble ((z::o).length+1) 1099511627776=true:=(by rw [Nat.ble_eq];omega)
   have i:Nat.ble ((z::o).length*5) (List.length (bC (z::o)))=true:=(by rw [Nat.ble_eq,aP];exact Nat.le_refl _)
   rcases tf (x.op==((6:Nat):Int)) with a|a
   ·rcases tf (x.name==nm) with b1|b1
    ·rw [show aar nm x=true by unfold aar;rw [a,b1];rfl]
     rw [if_pos rfl,aeq (z::o) by_ (by simp)]
     exact pN 33 [] 3 7 (.c s (.c w (.c i (.k 1 (aG b1) (.k 1 (aG a) (.k 7 g (.c c (.c (aG c) .nil)))))))) (.v 50 (.eq (Ci f)) (.v 32 (.ppt b) .nil)) d
    ·rw [show aar nm x=false by unfold aar;rw [a,b1];rfl]
     rw [if_neg Bool.false_ne_true,aeq (z::o) [x] (by simp)]
     exact pN 33 [] 3 3 (.k 1 q (.c i (.k 6 (aF b1) (.k 1 (aG a) (.k 7 g (.c c (.c (aG c) .nil))))))) (.v 50 (.eq (Ci f)) (.v 32 (.ppt b) .nil)) d
   ·rw [show aar nm x=false by unfold aar;rw [a];rfl]
    rw [if_neg Bool.false_ne_true,aeq (z::o) [x] (by simp)]
    exact pN 33 [] 3 1 (.k 1 q (.c i (.k 7 (aF a) (.k 7 g (.c c (.c (aG c) .nil)))))) (.v 50 (.eq (Ci f)) (.v 32 (.ppt b) .nil)) d
 ·intro o _
  have a:decide ((e.length:Int)<(e.length:Int))=false:=decide_eq_false (by omega)
  cases o with
  |nil=>exact pN 33 [] 1 0 (.c (aF a) .nil) .nil d
  |cons z o=>exact pN 33 [] 1 0 (.c (aF a) .nil) .nil d
theorem ah4 (e by_ w:List Nd) (nm:List UInt8) (ne a:Bool) (f:lit true (decide (((60:Nat):Int)<(w.length:Int)))=true) (b:CO 44 [.sl (bC e) e.length false] (.ret (.int .i64 0))) (c:CO 44 [.sl (bC by_) by_.length false] (.ret (.int .i64 0))) (d:aK prog ap [] 55 (.block 2 (.loop (af 2 (ah f33)))) ⟨[(0,.sl (bC e) e.length ne),(1,.str nm),(2,.sl (bC by_) by_.length a),(6,.nilS),(7,.int .i64 0),(9,.sl (bC by_) by_.length false),(10,.int .i64 0),(11,.nilS),(13,.dead),(16,.ref 0 0 0 2),(17,.int .i64 2),(18,.int .i64 2),(19,.bool false),(25,.bool false),(28,.sl (bC e) e.length ne),(29,.int .i64 (e.length:Int)),(30,.int .i64 0),(31,.dead),(42,.dead),(53,.dead)],[(0,⟨[.sl (bC e) e.length ne,.sl (bC by_) by_.length a],0,false,0,1,true⟩)],.dead,[]⟩ (.normal) ⟨[(11,.ref 0 0 0 w.length)],[(0,⟨(bC w),0,false,0,5,true⟩)],.dead,[]⟩):CO 33 [.sl (bC e) e.length ne,.str nm,.sl (bC by_) by_.length a] (.ret (.tup [.nilS,.int .i64 2])):=pK [2] 6 37 (.c f (.n 11 .nil)) (.l d (.c c (.c b .nil)))
theorem ah5 (e by_ w:List Nd) (nm:List UInt8) (ne a:Bool) (f:lit false (decide (((60:Nat):Int)<(w.length:Int)))=true) (b:CO 44 [.sl (bC e) e.length false] (.ret (.int .i64 0))) (c:CO 44 [.sl (bC by_) by_.length false] (.ret (.int .i64 0))) (d:aK prog ap [] 55 (.block 2 (.loop (af 2 (ah f33)))) ⟨[(0,.sl (bC e) e.length ne),(1,.str nm),(2,.sl (bC by_) by_.length a),(6,.nilS),(7,.int .i64 0),(9,.sl (bC by_) by_.length false),(10,.int .i64 0),(11,.nilS),(13,.dead),(16,.ref 0 0 0 2),(17,.int .i64 2),(18,.int .i64 2),(19,.bool false),(25,.bool false),(28,.sl (bC e) e.length ne),(29,.int .i64 (e.length:Int)),(30,.int .i64 0),(31,.dead),(42,.dead),(53,.dead)],[(0,⟨[.sl (bC e) e.length ne,.sl (bC by_) by_.length a],0,false,0,1,true⟩)],.dead,[]⟩ (.normal) ⟨[(11,.ref 0 0 0 w.length)],[(0,⟨(bC w),0,false,0,5,true⟩)],.dead,[]⟩):CO 33 [.sl (bC e) e.length ne,.str nm,.sl (bC by_) by_.length a] (.ret (.tup [.own (List.take (w.length*5) (bC w)) w.length 5,.int .i64 0])):=pK [2] 6 5 (.c f (.n 11 .nil)) (.l d (.c c (.c b .nil)))
theorem ahy {nm:List UInt8} {by_ e:List Nd} (a:by_ ≠ []) (b:e ≠ []):aco nm by_ e ≠ []:=by
 cases e with
 |nil=>exact absurd rfl b
 |cons x r=>
  unfold aco
  rw [List.flatMap_cons]
  split
  ·exact fun h=>a (List.append_eq_nil_iff.1 h).1
  ·simp
theorem agd (e by_:List Nd) (nm:List UInt8) (ne b:Bool) (q:e.length<2^10) (p:e ≠ []) (o:by_ ≠ []) (h:by_.length<2^10) (l:∀ x ∈ e,x.sm) (i:∀ x ∈ by_,x.sm) (k:bW e=0) (f:bW by_=0):
  CO 33 [.sl (bC e) e.length ne,.str nm,.sl (bC by_) by_.length b] (.ret (if 60<(aco nm by_ e).length then .tup [.nilS,.int .i64 2] else .tup [.own (bC (aco nm by_ e)) (aco nm by_ e).length 5,.int .i64 0])):=by
 have d:=DR e false l
 have m:=DR by_ false i
 rw [k] at d
 rw [f] at m
 have hloop:=fun nt (hn:55≤nt)=>age hn e by_ nm ne b (by omega) o h
 have c:=aI.blk (id:=2) (e':= .normal) (s:=ac3 e by_ nm ne b (0,[])) (s':=af_ (aco nm by_ e)) hloop (by simp) rfl (aO.refl _) (aO.refl _)
 have a:=ahy (nm:=nm) o p
 revert a c
 generalize aco nm by_ e=w
 intro c a
 unfold af_ at c
 rw [acT a,ac2 a] at c
 ·have n:aK prog ap [] 55 (.block 2 (.loop (af 2 (ah f33)))) ⟨[(0,.sl (bC e) e.length ne),(1,.str nm),(2,.sl (bC by_) by_.length b),(6,.nilS),(7,.int .i64 0),(9,.sl (bC by_) by_.length false),(10,.int .i64 0),(11,.nilS),(13,.dead),(16,.ref 0 0 0 2),(17,.int .i64 2),(18,.int .i64 2),(19,.bool false),(25,.bool false),(28,.sl (bC e) e.length ne),(29,.int .i64 (e.length:Int)),(30,.int .i64 0),(31,.dead),(42,.dead),(53,.dead)],[(0,⟨[.sl (bC e) e.length ne,.sl (bC by_) by_.length b],0,false,0,1,true⟩)],.dead,[]⟩ (.normal) ⟨[(11,.ref 0 0 0 w.length)],[(0,⟨(bC w),0,false,0,5,true⟩)],.dead,[]⟩:=fun nt g=>(c nt g).weak (aO.of ⟨rfl,rfl,rfl,rfl,rfl,rfl,rfl,trivial⟩) (aO.refl _)
  split
  ·rename_i j
   exact ah4 e by_ w nm ne b (aG (decide_eq_true (by omega))) d m n
  ·rename_i j
   have:=ah5 e by_ w nm ne b (aF (decide_eq_false (by omega))) d m n
   rw [Jm w] at this
   exact this
end Go.Proofs.Tryz
set_option maxRecDepth 100000
set_option linter.unusedVariables false
open Go AM
namespace Go.Proofs.Tryz
theorem agj (e d c:List Int) (q:Int) (a b w:List Nd) (E:dW) (y v:Oq) (g:CO 13 [] (.ret (.bool true))) (i:CO 23 [.agg [.sl (iL e) e.length false,.sl (iL c) c.length false],.int .u8 q,.bool true] (.ret (.tup [.own (bC a) a.length 5,.agg [.sl (kE E.ls) E.ls.length true,.sl (kS (E.qs.map Sq.c)) (E.qs.map Sq.c).length true]]))) (h:CO 23 [.agg [.sl (iL d) d.length false,.sl (iL c) c.length false],.int .u8 0,.bool true] (.ret (.tup [.own (bC b) b.length 5,.agg [.sl (kE E.ls) E.ls.length true,.sl (kS (E.qs.map Sq.c)) (E.qs.map Sq.c).length true]]))) (f:CO 33 [.sl (List.take (a.length*5) (bC a)) a.length true,.str [116,97,120],.sl (List.take (b.length*5) (bC b)) b.length true] (.ret (.tup [.nilS,.int .i64 2]))):CO 11 [.agg [.sl (iL e) e.length false,.sl (iL d) d.length false,.sl (iL c) c.length false],.int .u8 q] (.ret (.bool true)):=pK [] 2 3 (.n 16 .nil) (.c f (.c h (.c i (.c g .nil))))
theorem agi (d e c:List Int) (q:Int) (a b w:List Nd) (E:dW) (y v:Oq) (j:(Nat.beq (List.length (kE E.ls)) (E.ls.length*6))=true) (g:(Nat.ble (1+E.ls.length) 1099511627776)=true) (m:CO 13 [] (.ret (.bool true))) (i:CO 23 [.agg [.sl (iL d) d.length false,.sl (iL c) c.length false],.int .u8 q,.bool true] (.ret (.tup [.own (bC a) a.length 5,.agg [.sl (kE E.ls) E.ls.length true,.sl (kS (E.qs.map Sq.c)) (E.qs.map Sq.c).length true]]))) (f:CO 23 [.agg [.sl (iL e) e.length false,.sl (iL c) c.length false],.int .u8 0,.bool true] (.ret (.tup [.own (bC b) b.length 5,.agg [.sl (kE E.ls) E.ls.length true,.sl (kS (E.qs.map Sq.c)) (E.qs.map Sq.c).length true]]))) (k:CO 33 [.sl (List.take (a.length*5) (bC a)) a.length true,.str [116,97,120],.sl (List.take (b.length*5) (bC b)) b.length true] (.ret (.tup [.own (bC w) w.length 5,.int .i64 0]))) (l:CO 21 [.sl (List.take (b.length*5) (bC b)) b.length true,.agg [.sl (kE E.ls) E.ls.length true,.sl (kS (E.qs.map Sq.c)) (E.qs.map Sq.c).length true]] (.ret (.agg [.bool y.n,.str y.a,.str y.d,.int .i64 y.e]))) (n:CO 21 [.sl (List.take (w.length*5) (bC w)) w.length true,.agg [.sl (kE E.ls) E.ls.length true,.sl (kS (E.qs.map Sq.c)) (E.qs.map Sq.c).length true]] (.ret (.agg [.bool v.n,.str v.a,.str v.d,.int .i64 v.e]))) (h:CO 21 [.sl (List.take (a.length*5) (bC a)) a.length true,.agg [.sl (List.take ((1+E.ls.length)*6) ([.int .i64 6,.str [116,97,120],.bool y.n,.str y.a,.str y.d,.int .i64 y.e]++(kE E.ls))) (1+E.ls.length) true,.sl (kS (E.qs.map Sq.c)) (E.qs.map Sq.c).length true]] (.ret (.agg [.bool v.n,.str v.a,.str v.d,.int .i64 v.e]))):CO 11 [.agg [.sl (iL d) d.length false,.sl (iL e) e.length false,.sl (iL c) c.length false],.int .u8 q] (.ret (.bool true)):=pK [] 2 2 (.k 6 j (.c g (.n 23 .nil))) (.v 64 (.eq (seO v)) (.c h (.c n (.c l (.c k (.c f (.c i (.c m .nil))))))))
theorem af7 {a:List UInt8} {x:Nd} (h:aar a x=true):x.op=6∧x.name=a:=by
 simp only [aar,Bool.and_eq_true,beq_iff_eq] at h
 exact ⟨by have:=h.1;omega,h.2⟩
def afp (v:Oq):Lk:=⟨6,[116,97,120],v.n,v.a,v.d,v.e⟩
def acI (E:dW) (v:Oq):dW:=⟨afp v::E.ls,E.qs⟩
theorem ah6 {v:Oq} (h:v.ok):UM (afp v)=v:=af1 h
theorem acS {E:dW} {v:Oq} {b:List Nd} (g:v.ok) (e:∀ st,xK E b st=st++ [v]):∀ (r:List Nd) (st:List Oq),xK E (aco [116,97,120] b r) st=xK (acI E v) r st
 | [],_=>rfl
 | x ::r,st=>by
  have hs:aco [116,97,120] b (x::r)=(if aar [116,97,120] x then b else [x])++aco [116,97,120] b r:=by simp [aco]
  rw [hs,lW]
  simp only [xK]
  cases d:aar [116,97,120] x with
  | true=>
   obtain ⟨c,i⟩:=af7 d
   rw [if_pos rfl,e]
   have f:dX x.op=0:=by rw [c];rfl
   have hnode:dD (acI E v) x (st.drop (st.length - dX x.op))=v:=by
    unfold dD
    rw [if_neg (by rw [c];decide),if_pos (by rw [c];decide),c,i]
    show (Lp (afp v::E.ls) 6 [116,97,120]).getD _=v
    rw [ah8,List.find?_cons_of_pos (by rfl)]
    exact ah6 g
   rw [hnode,f,Nat.sub_zero,List.take_length]
   exact acS g e r _
  | false=>
   rw [if_neg Bool.false_ne_true]
   simp only [xK]
   have hnode:∀ l,dD (acI E v) x l=dD E x l:=fun l=>aeP (E:=acI E v) (F:=E) (x:=x) (fun k j=>by
    show ((afp v::E.ls).find? (WA x.op x.name)).map UM=_
    have a:¬ (WA x.op x.name (afp v))=true:=by
     intro h
     simp only [WA,afp,Bool.and_eq_true,beq_iff_eq] at h
     rw [show aar [116,97,120] x=true by simp only [aar,Bool.and_eq_true,beq_iff_eq];exact ⟨by omega,h.2⟩] at d
     cases d
    rw [List.find?_cons_of_neg (p:=WA x.op x.name) a]
    rfl) (fun _=>rfl) l
   rw [hnode]
   exact acS g e r _
theorem acQ {b:List Nd} (c:∀ r d,gZ (b++r) d=gZ r (d+1)):∀ (r:List Nd) (d e:Nat),gZ r d= .inl e→gZ (aco [116,97,120] b r) d= .inl e
 | [],d,e,h=>h
 | x::r,d,e,h=>by
  obtain ⟨i,l,f⟩:=Y4 h
  have hs:aco [116,97,120] b (x::r)=(if aar [116,97,120] x then b else [x])++aco [116,97,120] b r:=by simp [aco]
  rw [hs]
  cases g:aar [116,97,120] x with
  |true=>
   obtain ⟨j,k⟩:=af7 g
   have a:dX x.op=0:=by rw [j];rfl
   rw [a,Nat.sub_zero] at f
   rw [if_pos rfl,c]
   exact acQ c r _ e f
  |false=>
   rw [if_neg Bool.false_ne_true,List.singleton_append]
   simp only [gZ]
   rw [if_pos i,if_neg (by omega)]
   exact acQ c r _ e f
theorem aga {E:dW} {a b:List Nd} {h tb:Ty} (g:Du h a) (c:Du tb b) (d:¬ 60<(aco [116,97,120] b a).length):uA E (aco [116,97,120] b a)=uA (acI E (uA E b)) a:=by
 obtain ⟨u,j,_⟩:=c.tm.runs
 have i:bW (aco [116,97,120] b a)=0:=by
  unfold bW
  rw [if_neg d,acQ j.chk a 0 1 (Y5 g.ck)]
  rfl
 have f:=Tc (E:=E) i
 have e:=Tc (E:=acI E (uA E b)) g.ck
 rw [acS (agb c.ck) (c.tm.val (by have:=c.ln;omega) E)] at f
 rw [f,Option.some.injEq] at e
 exact e
theorem ah1 {nm:List UInt8} {b a:List Nd} (e:∀ x ∈ a,x.sm) (d:∀ x ∈ b,x.sm):∀ x ∈ aco nm b a,x.sm:=by
 intro x c
 obtain ⟨y,f,c⟩:=List.mem_flatMap.1 c
 split at c
 ·exact d x c
 ·rw [List.mem_singleton] at c;exact c ▸ e y f
theorem aeQ (g j i:List Int) (q:Int) (T:g.length<2^63) (S:j.length<2^63) (R:i.length<2^63):CO 11 [.agg [.sl (iL g) g.length false,.sl (iL j) j.length false,.sl (iL i) i.length false],.int .u8 q] (.ret (.bool true)):=by
 obtain ⟨t,P,ck⟩:=alf (IntKind.wrap .i64 q)
 obtain ⟨Q,s,B⟩:=alf (IntKind.wrap .i64 0)
 obtain ⟨a,d,O⟩:=ag2 q t P g T
 obtain ⟨b,c,U⟩:=ag2 0 Q s j S
 obtain ⟨E,C,I⟩:=akV true true false i R
 have F:=ag3 ck O I
 have G:=ag3 B U I
 have m:=C.sm
 have K:=d.ln
 have H:=c.ln
 have N:=d.pos
 have M:=c.pos
 have o:=agd a b [116,97,120] true true (by omega) (by intro h;rw [h] at N;simp at N) (by intro h;rw [h] at M;simp at M) (by omega) d.sm c.sm d.ck c.ck
 have f:=aga (E:=E) d c
 have p:=ah1 (nm:= [116,97,120]) d.sm c.sm
 generalize aco [116,97,120] b a=w at*
 rw [← Jm a,← Jm b] at o
 split at o
 ·exact agj g j i q a b w E zO zO agh F G o
 ·rename_i z
  have f:=f z
  have L:=g_ E true true true (e:=b) m c.sm
  have J:=g_ E true true true (e:=w) m p
  have k:=aeY (agb (E:=E) c.ck)
  have A:(acI E (uA E b)).sm:=⟨by show E.ls.length+1<_;rw [C.lk.len];decide,m.qs,(by
   intro x r
   rcases List.mem_cons.1 r with rfl|r
   ·exact ⟨Nat.lt_of_le_of_lt k.1 (by decide),Nat.lt_of_le_of_lt k.2 (by decide)⟩
   ·exact m.lk x r),m.sq⟩
  have l:=g_ (acI E (uA E b)) true true true (e:=a) A d.sm
  rw [← Jm] at L J l
  rw [← f] at l
  generalize uA E b=y at*
  generalize uA E w=v at*
  have u:kE (acI E y).ls= [.int .i64 6,.str [116,97,120],.bool y.n,.str y.a,.str y.d,.int .i64 y.e]++kE E.ls:=rfl
  have n:(acI E y).ls.length=1+E.ls.length:=Nat.add_comm _ _
  rw [u,n] at l
  have D:List.take ((1+E.ls.length)*6) ([.int .i64 6,.str [116,97,120],.bool y.n,.str y.a,.str y.d,.int .i64 y.e]++kE E.ls)= [.int .i64 6,.str [116,97,120],.bool y.n,.str y.a,.str y.d,.int .i64 y.e]++kE E.ls:=List.take_of_length_le (by rw [List.length_append,Jc];simp;omega)
  rw [← D] at l
  exact agi g j i q a b w E y v (by rw [Jc];exact Nat.beq_refl _) (Nat.ble_eq_true_of_le (by rw [C.lk.len];decide)) agh F G o L J l
end Go.Proofs.Tryz
set_option maxRecDepth 100000
open Go AM Go.ChangeShapes Go.WideShapes Go.ChangeAt Go.RowKit
namespace Go.Proofs.YtdmfgmmooalfnaaGreatDoor.substs
open Go.Proofs.Tryz
theorem af9 (a:Os):laidMet Tryz.prog Rows.evalSubstRow.laid ((agc a).forCall (fun _ _=>0) ⟨#[],#[.agg #[.slice none 0 0,.slice none 0 0,.slice none 0 0],.int .u8 0],[]⟩).memory:=
 laidMet_of_run' 8 (by kernel_rfl) (by kernel_rfl)
theorem ah3 (a:Os) {H:Type} (enc:TypeId × Value→H):∃ places,DataW.whole enc Tryz.prog ((agc a).forCall (fun _ _=>0) ⟨#[],#[.agg #[.slice none 0 0,.slice none 0 0,.slice none 0 0],.int .u8 0],[]⟩).memory Tryz.f11.params.toList Rows.evalSubstSpec.vars false [.agg #[.slice none 0 0,.slice none 0 0,.slice none 0 0],.int .u8 0] 8=some ([.agg [.nil,.nil,.nil],.lit (.int .u8 0)],[],places):=
 ⟨[],by kernel_rfl⟩
theorem af6 (H:Type) (enc:TypeId × Value→H) (W:World) (base:Nat) (args:Array Value) (m p:List (DataW H)) (before:List MemPlace)
  (hval:∀ (j:Nat) t v,Tryz.f11.params[j]? =some t→args[j]? =some v→Value.okWide Tryz.prog W .any base t v)
  (hW:DataW.Whole enc Tryz.prog Tryz.f11.params.toList Rows.evalSubstSpec.vars false W args.toList m p before) (hL:laidMetH Tryz.prog Rows.evalSubstRow.laid W):
  Calls Tryz.prog 11 args W fun e W'=> ∃ v,e= .returned v∧Rows.evalSubstSpec.post enc Tryz.prog Tryz.f11 false true false false W args v W':=by
 have b:=hW
 obtain ⟨pp,F,a,y,rfl,r,x⟩:=hW
 have c:DataW.TrodAll enc Tryz.prog W 0 (fun _=>true) true Tryz.f11.params.toList args.toList m pp:=a
 obtain ⟨L⟩:=args
 simp only at c b hval ⊢
 rw [Tryz.params11] at c hval
 obtain ⟨v0,D,J,A,G,q0,rfl,rfl,rfl,z,a⟩:=trodAll_cons c
 obtain ⟨v1,C,E,B,K,I,rfl,rfl,rfl,s,f⟩:=trodAll_cons a
 obtain ⟨rfl,rfl,rfl⟩:=trodAll_nil f
 obtain ⟨rfl,rfl⟩:=trodVars_none y
 obtain ⟨l,n,o,h,d,i,g⟩:=aku (t:=63) (by kernel_rfl) (by kernel_rfl) (by kernel_rfl) (hval 0 63 v0 rfl rfl) z
 obtain ⟨w,rfl,_,_,q⟩:=open_int (k:= .u8) (by kernel_rfl) (hval 1 5 v1 rfl rfl) s
 have u:dQ (kQ W) [a3A l n o,.int .u8 w] [v0,.int .u8 w]:=by
  simp only [dQ,and_true]
  exact ⟨g,by simp only [PR]⟩
 refine (adr (aeQ l n o w h d i) (ahW hL) u).mono fun e W' ⟨he,hb⟩=> ?_
 subst he
 exact ⟨_,rfl,ah7 akp (by kernel_rfl) b rfl (tb:=4) rfl (by kernel_rfl) rfl hb⟩
theorem agf (a:Os) (started:a.Started) (H:Type) (enc:TypeId × Value→H) (F:Stop.Interp):
  ReturnsInHanded {} Tryz.checked a 11 .any ((OpenSpec.ofChange Rows.evalSubstSpec).preRow enc Tryz.prog Tryz.f11 Rows.evalSubstRow.domain false Rows.evalSubstRow.laid) (((OpenSpec.ofChange Rows.evalSubstSpec).at F).post enc Tryz.prog Tryz.f11 false true false false):=by
 obtain ⟨places,d⟩:=ah3 a enc
 refine returnsInHanded_of_row (C:=Tryz.checked) (s:=OpenSpec.ofChange Rows.evalSubstSpec) own started (by kernel_rfl) Tryz.func11
  (witness_row_at (enc:=enc) (C:=Tryz.checked) false (agc a) #[.agg #[.slice none 0 0,.slice none 0 0,.slice none 0 0],.int .u8 0] rfl (by kernel_rfl) (by kernel_rfl) (by kernel_rfl)
   (OpenSpec.preRow_of_cond 8 d (by kernel_rfl) (fun k g=>by cases g) (by kernel_rfl) (af9 a))) ?_
 intro W base args h c before b f _ _ _ e _ _
 exact af6 H enc W base args h c before b f e
theorem aiI:Rows.EvalSubstSaid:=
 OpenClaim.holds_of_cond 11 Tryz.f11 rfl rfl rfl rfl rfl rfl rfl ⟨rfl,rfl,rfl,rfl,rfl⟩ rfl rfl rfl rfl rfl (by kernel_rfl) Tryz.func11 (by kernel_rfl)
  (of_decide_eq_true (by kernel_rfl)) (by unfold Func.isWrapper;first|(rw [if_pos (by decide+kernel)];kernel_rfl)|(rw [if_neg (by decide+kernel)];exact ⟨rfl,rfl⟩))
  (fun a started H enc _ F=>by rw [OpenClaim.pre_eq_preRow];exact agf a started H enc F)
theorem ah2 (f:FuncId) (b:Func) (d:Tryz.pinned.checked.prog.funcNamed Rows.evalSubstRow.func=some f) (c:Tryz.pinned.checked.prog.funcs[f]? =some b):
  true=Tryz.pinned.checked.prog.looks []∧∀ (j:Nat) t,b.params[j]? =some t→Tryz.pinned.checked.prog.wantsStandIn t=false:=by
 obtain rfl:f=11:=Option.some.inj ((show Tryz.prog.funcNamed Rows.evalSubstRow.func=some 11 by kernel_rfl).symm.trans d)|>.symm
 obtain rfl:b=Tryz.f11:=(Option.some.inj (Tryz.func11.symm.trans c)).symm
 refine ⟨by kernel_rfl,fun j t e=> ?_⟩
 have a:Tryz.f11.params.toList.all (fun t=> !Tryz.prog.wantsStandIn t)=true:=by kernel_rfl
 have:=List.all_eq_true.1 a t (by simpa using Array.mem_of_getElem? e)
 show Tryz.prog.wantsStandIn t=false
 simpa using this
theorem card:Rows.EvalSubstCardSaid:=
 Claim7.holds_tied_plain_at .later [] _ _ _ _ aiI (fun _ h=>by cases h) (by kernel_rfl) (fun _ h=>by cases h) evalSubst_row_tie rfl ⟨rfl,rfl⟩ (by kernel_rfl) rfl ah2 (by kernel_rfl)
end Go.Proofs.YtdmfgmmooalfnaaGreatDoor.substs
