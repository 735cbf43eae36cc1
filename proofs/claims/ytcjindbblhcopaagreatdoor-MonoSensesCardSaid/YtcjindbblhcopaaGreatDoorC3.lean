/- Contracts of functions that the law reaches, each by its own hypotheses; joined by a program of mine. -/
import Derived.Test.YtcjindbblhcopaaGreatDoorC2
import Derived.Test.YtcjindbblhcopaaGreatDoorC1
import Derived.RangeFuncBox
import Derived.RangeFuncCalls
import Derived.RangeFuncLeaves
import Derived.Shelf.Abstract
import Derived.WalkKit
import Derived.OwnWalkIn
import Derived.TacticsInMore
import Derived.LoopNIn
import Derived.LoopIn
set_option linter.unusedSimpArgs false
set_option linter.unusedVariables false
set_option maxRecDepth 100000
open Go AM
namespace Go.Proofs.Tryz
theorem wkn {n a:Nat} (h:n=a+1) (b:n<2^40):AV.int .i64 (IntKind.wrap .i64 ((n:Int) - ((1:Nat):Int)))= .int .i64 (a:Int):=by rw [dB]<;>first|(congr 1;omega)|omega
theorem deq (n:Nat):decide ((n:Int)=(n:Int))=true:=decide_eq_true rfl
theorem dle {n:Nat} (h:n<2^40):decide ((n:Int)≤((1099511627776:Nat):Int))=true:=decide_eq_true (by omega)
theorem VB:CO 38 [] (.ret (.mp [.int .i64 9,.int .i64 13,.int .i64 14,.int .i64 21,.int .i64 22,.int .i64 23,.int .i64 10,.int .i64 11,.int .i64 12,.int .i64 15,.int .i64 24] [.fn 39 [] [],.fn 39 [] [],.fn 39 [] [],.fn 39 [] [],.fn 39 [] [],.fn 39 [] [],.fn 63 [] [],.fn 64 [] [],.fn 65 [] [],.fn 66 [] [],.fn 67 [] []])):=cK .nil
theorem Jy (l:List Nd) (c:Bool) (a:∀ x ∈ l,x.sm) (b:dG l=0):CO 37 [.sl (aI l) l.length c] (.ret (.tup [.sl (bC (bQ l)) (bQ l).length true,.bool true])):=by
 rw [(m_ b).1];exact WL l c a b
theorem amu (e:List Nd) (b:Bool) (A:List (List Nat)) (c:List Sc) (d:Bool) (h:List Nat) (f:Int) (a:List UInt8) (g:CO 37 [.sl (aI e) e.length b] (.ret (.tup [.nilS,.bool false]))):CO 14 [.sl (aI e) e.length b,.sl (eX c) c.length d,.int .i64 f,.str a] (.ret (.int .i64 ((3:Nat):Int))):=pK [] 3 7 (.n 3 .nil) (.c g .nil)
theorem ac2 (e:List Nd) (c:Bool) (A:List (List Nat)) (f:List Sc) (g:Bool) (i:List Nat) (b:Int) (a:List UInt8) (d:CO 37 [.sl (aI e) e.length c] (.ret (.tup [.sl (bC A) A.length true,.bool true]))) (j:b<5∨8<b):CO 14 [.sl (aI e) e.length c,.sl (eX f) f.length g,.int .i64 b,.str a] (.ret (.int .i64 ((3:Nat):Int))):=by
 rcases tf (decide (b<((5:Nat):Int))) with b0|b0
 ·exact pK [] 3 6 (.k 1 (aC b0) (.n 1 .nil)) (.c d .nil)
 ·have h:(decide (((8:Nat):Int)<b))=true:=decide_eq_true (by have:=of_decide_eq_false b0;omega)
  exact pK [] 3 4 (.c (aC h) (.c (aB b0) (.n 1 .nil))) (.c d .nil)
theorem amv (e:List Nd) (c:Bool) (A:List (List Nat)) (b:List Sc) (h:Bool) (i:List Nat) (f:Int) (a:List UInt8) (g s:Nat) (o:List AV) (n:CO 37 [.sl (aI e) e.length c] (.ret (.tup [.sl (bC A) A.length true,.bool true]))) (l:(decide (f<((5:Nat):Int)))=false) (m:(decide (((8:Nat):Int)<f))=false) (j:e.length=g+1) (d:e.length<2^40) (k:g<i.length) (hs:(List.drop ((0+(Int.toNat (g:Int)))*1) (ai i))= [AV.int .i64 (s:Int)]++o)
  (m0:Nat) (Z:List AV) (hm0:m0=Int.toNat (e.length:Int)) (hZ:Z=iU (Int.toNat (e.length:Int)) [.int .i64 0])
  (l0:aH prog ap [] 111 (.block 0 (.loop (ae 0 (af f14)))) ⟨[(0,.sl (aI e) e.length c),(1,.sl (eX b) b.length h),(2,.int .i64 f),(3,.str a),(8,.int .i64 0),(9,.sl (bC A) A.length true),(10,.bool true),(11,.ptr 0 0 0),(12,.mp [.int .i64 9,.int .i64 13,.int .i64 14,.int .i64 21,.int .i64 22,.int .i64 23,.int .i64 10,.int .i64 11,.int .i64 12,.int .i64 15,.int .i64 24] [.fn 39 [] [],.fn 39 [] [],.fn 39 [] [],.fn 39 [] [],.fn 39 [] [],.fn 39 [] [],.fn 63 [] [],.fn 64 [] [],.fn 65 [] [],.fn 66 [] [],.fn 67 [] []]),(13,.dead),(14,.dead),(15,.dead),(16,.dead),(31,.bool (decide (((8:Nat):Int)<f))),(41,.sl (aI e) e.length c),(42,.int .i64 (e.length:Int)),(43,.int .i64 0),(44,.dead),(61,.dead),(78,.dead),(89,.dead)],[(0,⟨[.sl (aI e) e.length c,.sl (bC A) A.length true,.sl (eX b) b.length h,.ref 1 0 0 m0],0,false,0,0,false⟩),(1,⟨Z,0,false,0,1,true⟩)],.dead,[]⟩ (.normal) ⟨[(0,.sl (aI e) e.length c),(11,.ptr 0 0 0)],[(0,⟨[.sl (aI e) e.length c,.sl (bC A) A.length true,.sl (eX b) b.length h,.ref 1 0 0 i.length],0,false,0,0,false⟩),(1,⟨(ai i),0,false,0,1,true⟩)],.dead,[]⟩):CO 14 [.sl (aI e) e.length c,.sl (eX b) b.length h,.int .i64 f,.str a] (.ret (.int .i64 (s:Int))):=by
 subst hm0 hZ
 exact pK [0] 3 0 (.a (gZ [.int .i64] hs rfl) (.c (aQ g) (.c (bK k) (.k 1 (aQ e.length) (.c (deq e.length) (.c (dle d) (.c (aB m) (.c (aB l) (.n 1 .nil))))))))) (.v 110 (.rd1 (.int .i64) hs rfl) (.v 108 (.eq (wkn j d)) (.l l0 (.c VB (.c n .nil)))))
def sK (ck:Sc→Int) (up:Sc→Bool) (e:List Nd) (A:List (List Nat)) (sc:List Sc) (op:Int) (name:List UInt8):List Nd→Nat→List Nat→List Nat
 | [],_,ss=>ss
 |x::r,k,ss=>sK ck up e A sc op name r (k+1) (ss.set k (yE ck up e A sc op name ss k x))
theorem zt (ck:Sc→Int) (b:Sc→Bool) (e:List Nd) (A:List (List Nat)) (d:List Sc) (c:Int) (a:List UInt8):∀ (r:List Nd) (k:Nat) (ss:List Nat),(sK ck b e A d c a r k ss).length=ss.length
 | [],_,_=>rfl
 |x::r,k,ss=>by simp only [sK,zt ck b e A d c a r,List.length_set]
def jD (ck:Sc→Int) (up:Sc→Bool) (e:List Nd) (sc:List Sc) (op:Int) (name:List UInt8):Nat:=
 if dG e=0∧5≤op∧op≤8 then (sK ck up e (bQ e) sc op name e 0 (List.replicate e.length 0)).getD (e.length - 1) 0 else 3
theorem Y4 {nt:Nat} (r:111≤nt) (e:List Nd) (m:Bool) (l:List Sc) (o:Bool) (g:List Nat) (ck:Sc→Int) (I:Sc→Bool) (p:Int) (a:List UInt8) (k:Nat) (x:Nd) (J:∀ y ∈ e,y.sm) (V:dG e=0) (M:e[k]? =some x) (c:e.length<2^40) (v:g.length=e.length) (K:l.length<2^40) (Q:∀ x ∈ l,CO 102 [.agg (xg x)] (.ret (.int .i64 (ck x)))∧(ck x=0→CO 103 [.agg (xg x)] (.ret (.bool (I x))))):
  aj prog ap [] nt (ae 0 (af f14)) (iD e m (bQ e) l o p a (k,g)) .normal (iD e m (bQ e) l o p a (k+1,g.set k (yE ck I e (bQ e) l p a g k x))):=by
 obtain ⟨w,N⟩:=m_ V
 obtain ⟨G,H⟩:=N k x M
 obtain ⟨q,R⟩:=List.getElem?_eq_some_iff.1 M
 have b:e.getD k jc=x:=by rw [List.getD_eq_getElem?_getD,M];rfl
 generalize S:bQ e=A at*
 have u:k<A.length:=by omega
 have t:∀ j ∈ A.getD k [],j<g.length:=fun j D=>by have:=H j D;omega
 have B:∀ j ∈ A.getD k [],j<e.length:=fun j D=>by have:=H j D;omega
 have E:(A.getD k []).length<2^40:=by rw [G];unfold dL;split<;>(try split)<;>(try split)<;>omega
 have z:(List.drop ((Int.toNat (k:Int))*5) (aI e))=iY x++aI (e.drop (k+1)):=by rw [um q,b]
 have call_:=aaw e m A l o g k u E t
 have L:∀ j,(e.getD j jc).num.length<2^36∧(e.getD j jc).den.length<2^36:=by
  intro j
  by_cases D:j<e.length
  ·have U:e.getD j jc ∈ e:=by rw [List.getD_eq_getElem?_getD,List.getElem?_eq_getElem D];exact List.getElem_mem D
   have:=J _ U
   exact ⟨Nat.lt_trans this.1 (by decide),Nat.lt_trans this.2 (by decide)⟩
  ·rw [List.getD_eq_getElem?_getD,List.getElem?_eq_none (by omega)];decide
 have C:(Du x.op= .tup [.nilF,.bool false])∨∃ f,Du x.op= .tup [.fn f [] [],.bool true]:=by
  by_cases h1:(x.op=9∨x.op=13∨x.op=14∨x.op=21∨x.op=22∨x.op=23)∨(x.op=10)∨(x.op=11)∨(x.op=12)∨(x.op=15)∨(x.op=24)
  ·rcases h1 with h|h|h|h|h|h
   ·exact .inr ⟨_,UA h⟩
   ·exact .inr ⟨_,UF h⟩
   ·exact .inr ⟨_,UD h⟩
   ·exact .inr ⟨_,UC h⟩
   ·exact .inr ⟨_,UB h⟩
   ·exact .inr ⟨_,O1 h⟩
  ·exact .inl (UE h1)
 unfold yE
 by_cases hit:(x.op==p && x.name==a)=true
 ·rw [hit]
  rw [Bool.and_eq_true] at hit
  rcases C with h|⟨f,h⟩
  ·exact amn r e m A l o g p a k x _ b z q c w v h hit.1 hit.2
  ·exact amm r e m A l o g p a k x _ b z q c w v f h hit.1 hit.2
 ·rw [Bool.not_eq_true] at hit
  rw [hit]
  have d:(x.op==p)=false∨(x.name==a)=false:=Bool.and_eq_false_iff.1 hit
  rcases tf ((((eF A g k):Nat):Int)==((0:Nat):Int)) with b3|b3
  ·rw [b3]
   rcases tf (x.op==p) with b1|b1
   ·have O:(x.name==a)=false:=by rcases d with h|h;rw [h] at b1;cases b1;exact h
    rcases C with h|⟨f,h⟩
    ·exact amq r e m A l o g p a k x _ b z q c w v h b1 O b3 call_
    ·exact amo r e m A l o g p a k x _ b z q c w v f h b1 O b3 call_
   ·rcases C with h|⟨f,h⟩
    ·exact ams r e m A l o g p a k x _ b z q c w v h b1 b3 call_
    ·exact amr r e m A l o g p a k x _ b z q c w v f h b1 b3 call_
  ·rw [b3]
   dsimp only [cond]
   unfold fU
   have F:∀ n,dL x.op=n→∀ i,i<n→i<(A.getD k []).length:=fun n r i T=>by rw [G,r];exact T
   by_cases g1:x.op=9∨x.op=13∨x.op=14∨x.op=21∨x.op=22∨x.op=23
   ·rw [if_pos g1];exact acV r e m A l o g p a k x _ b z q c w v (UA g1) d b3 call_
   rw [if_neg g1]
   by_cases g2:x.op=10
   ·rw [if_pos g2]
    have s:=F 2 (by rw [g2];rfl)
    exact ac1 r e m A l o g p a k x _ b z q c w v (UF g2) d b3 call_ (ade e m A l o g k u t B (s 0 (by omega)) (s 1 (by omega)))
   rw [if_neg g2]
   by_cases g3:x.op=11
   ·rw [if_pos g3]
    have s:=F 2 (by rw [g3];rfl)
    exact acZ r e m A l o g p a k x _ b z q c w v (UD g3) d b3 call_ (abK e m A l o g k u t B (s 0 (by omega)) (s 1 (by omega)))
   rw [if_neg g3]
   by_cases g4:x.op=12
   ·rw [if_pos g4]
    have s:=F 2 (by rw [g4];rfl)
    exact acX r e m A l o g p a k x _ b z q c w v (UC g4) d b3 call_ (aba e m A l o g k u t B (s 0 (by omega)) (s 1 (by omega)) (L _))
   rw [if_neg g4]
   by_cases g5:x.op=15
   ·rw [if_pos g5]
    have s:=F 3 (by rw [g5];rfl)
    exact acW r e m A l o g p a k x _ b z q c w v (UB g5) d b3 call_ (aaU e m A l o g k u t B (s 0 (by omega)) (s 1 (by omega)) (s 2 (by omega)))
   rw [if_neg g5]
   by_cases g6:x.op=24
   ·rw [if_pos g6]
    have s:=F 1 (by rw [g6];rfl)
    have P:=YC e m A l o g ck I k u q K t (s 0 (by omega)) Q
    rw [b] at P
    exact Y3 r e m A l o g p a k x _ b z q c w v ck I (O1 g6) d b3 call_ P
   rw [if_neg g6]
   exact ac0 r e m A l o g p a k x _ b z q c w v (UE (by rintro (h|h|h|h|h|h);exact g1 h;exact g2 h;exact g3 h;exact g4 h;exact g5 h;exact g6 h)) d b3 call_
theorem Y2 {nt:Nat} (n:111≤nt) (e:List Nd) (f:Bool) (c:List Sc) (i:Bool) (ck:Sc→Int) (g:Sc→Bool) (d:Int) (a:List UInt8) (k:∀ y ∈ e,y.sm) (s:dG e=0) (j:e.length<2^40) (m:c.length<2^40) (q:∀ x ∈ c,CO 102 [.agg (xg x)] (.ret (.int .i64 (ck x)))∧(ck x=0→CO 103 [.agg (xg x)] (.ret (.bool (g x))))):∀ (r p:List Nd) (b:List Nat),p++r=e→b.length=e.length→
  aF prog ap [] nt (ae 0 (af f14)) (fun _=> .exit 0) (iD e f (bQ e) c i d a) (VD e f (bQ e) c i) (p.length,b) (sK ck g e (bQ e) c d a r p.length b):=by
 intro r
 induction r with
 |nil=>
  intro p b hp l
  rw [List.append_nil] at hp
  rw [hp]
  exact .done (acY n e f (bQ e) c i b d a)
 |cons x r ih=>
  intro p b hp l
  have o:e[p.length]? =some x:=by rw [← hp];simp
  have h:=ih (p++ [x]) (b.set p.length (yE ck g e (bQ e) c d a b p.length x)) (by rw [← hp];simp) (by rw [List.length_set];exact l)
  rw [List.length_append,List.length_singleton] at h
  exact .next (Y4 n e f c i b ck g d a p.length x k s o j l m q) h
theorem VE (e:List Nd) (d:Bool) (b:List Sc) (g:Bool) (ck:Sc→Int) (i:Sc→Bool) (c:Int) (a:List UInt8) (f:∀ y ∈ e,y.sm) (k:e.length<2^40) (n:b.length<2^40) (q:∀ x ∈ b,CO 102 [.agg (xg x)] (.ret (.int .i64 (ck x)))∧(ck x=0→CO 103 [.agg (xg x)] (.ret (.bool (i x))))) (m:dG e ≠ 0→CO 37 [.sl (aI e) e.length d] (.ret (.tup [.nilS,.bool false]))):
  CO 14 [.sl (aI e) e.length d,.sl (eX b) b.length g,.int .i64 c,.str a] (.ret (.int .i64 ((jD ck i e b c a:Nat):Int))):=by
 unfold jD
 by_cases hq:dG e=0
 ·by_cases ho:5≤c∧c≤8
  ·rw [if_pos ⟨hq,ho⟩]
   have h0:e ≠ []:=by intro h;rw [h] at hq;exact absurd hq (by decide)
   obtain ⟨j,o⟩:∃ j,e.length=j+1:=⟨e.length - 1,by have:=List.length_pos_iff.2 h0;omega⟩
   have p:(sK ck i e (bQ e) b c a e 0 (List.replicate e.length 0)).length=e.length:=by rw [zt,List.length_replicate]
   have h:∀ nt,111≤nt→aF prog ap [] nt (ae 0 (af f14)) (fun _=> .exit 0) (iD e d (bQ e) b g c a) (VD e d (bQ e) b g) (0,List.replicate e.length 0) (sK ck i e (bQ e) b c a e 0 (List.replicate e.length 0)):=fun nt r=>Y2 r e d b g ck i c a f hq k n q e [] _ rfl (List.length_replicate ..)
   generalize sK ck i e (bQ e) b c a e 0 (List.replicate e.length 0)=ss at*
   rw [show e.length - 1=j by omega]
   have l:j<ss.length:=by omega
   refine amv e d (bQ e) b g ss c a j (ss.getD j 0) _ (Jy e d f hq) (decide_eq_false (by omega)) (decide_eq_false (by omega)) o k l (by rw [Nat.zero_add];exact kE l) (List.replicate e.length 0).length (ai (List.replicate e.length 0)) (by rw [List.length_replicate,aA]) (by rw [aA,Bd]) ?_
   have s:(decide (((8:Nat):Int)<c))=false:=decide_eq_false (by omega)
   rw [s]
   exact aF.blk h (by simp) rfl (aK.of ⟨rfl,rfl,rfl,rfl,rfl,rfl,rfl,rfl,trivial⟩) (aK.of ⟨rfl,rfl,trivial⟩)
  ·rw [if_neg (fun h=>ho h.2)]
   exact ac2 e d (bQ e) b g [] c a (Jy e d f hq) (by omega)
 ·rw [if_neg (fun h=>hq h.1)]
  exact amu e d [] b g [] c a (m hq)
theorem uy (a b:Nat):CO 41 [.int .i64 (a:Int),.int .i64 (b:Int)] (.ret (.int .i64 ((d_ a b:Nat):Int))):=by
 rcases tf ((a:Int)==((0:Nat):Int)) with b0|b0
 ·rw [show d_ a b=b by unfold d_;simp only [ig,decide_eq_true_eq,decide_eq_false_iff_not] at b0;first|(simp [*];done)|(subst b0;simp [*];done)|(subst b1;simp [*];done)|(simp [*];omega)]
  exact pK [] 2 3 (.k 1 (aC b0) .nil) (.nil)
 ·rcases tf ((a:Int)==(b:Int)) with b1|b1
  ·rw [show d_ a b=b by unfold d_;simp only [ig,decide_eq_true_eq,decide_eq_false_iff_not] at b0 b1;first|(simp [*];done)|(subst b0;simp [*];done)|(subst b1;simp [*];done)|(simp [*];omega)]
   exact pK [] 2 2 (.c (aC b1) (.c (aB b0) .nil)) (.nil)
  ·rcases tf ((b:Int)==((0:Nat):Int)) with b2|b2
   ·rw [show d_ a b=a by unfold d_;simp only [ig,decide_eq_true_eq,decide_eq_false_iff_not] at b0 b1 b2;first|(simp [*];done)|(subst b0;simp [*];done)|(subst b1;simp [*];done)|(simp [*];omega)]
    exact pK [] 3 4 (.c (aC b2) (.c (aB b1) (.c (aB b0) .nil))) (.nil)
   ·rw [show d_ a b=3 by unfold d_;simp only [ig,decide_eq_true_eq,decide_eq_false_iff_not] at b0 b1 b2;first|(simp [*];done)|(subst b0;simp [*];done)|(subst b1;simp [*];done)|(simp [*];omega)]
    exact pK [] 3 0 (.c (aB b2) (.c (aB b1) (.c (aB b0) .nil))) (.nil)
theorem Ei (a:Nat):CO 42 [.int .i64 (a:Int)] (.ret (.int .i64 ((jK a:Nat):Int))):=by
 rcases tf ((a:Int)==((1:Nat):Int)) with b0|b0
 ·have e:((jK a:Nat):Int)=IntKind.wrap .i64 (((3:Nat):Int) - (a:Int)):=by
   simp only [ig,decide_eq_true_eq,decide_eq_false_iff_not] at b0
   subst b0
   decide
  rw [e]
  exact pK [] 2 3 (.k 1 (aC b0) .nil) (.nil)
 ·rcases tf ((a:Int)==((2:Nat):Int)) with b1|b1
  ·have e:((jK a:Nat):Int)=IntKind.wrap .i64 (((3:Nat):Int) - (a:Int)):=by
    simp only [ig,decide_eq_true_eq,decide_eq_false_iff_not] at b0 b1
    subst b1
    decide
   rw [e]
   exact pK [] 2 2 (.c (aC b1) (.c (aB b0) .nil)) (.nil)
  ·rw [show jK a=a by unfold jK;simp only [ig,decide_eq_true_eq,decide_eq_false_iff_not] at b0 b1;simp [*]]
   exact pK [] 2 0 (.c (aB b1) (.c (aB b0) .nil)) (.nil)
theorem uZ (s:Nat) (x:Nd):CO 44 [.int .i64 (s:Int),.agg [.bool x.neg,.str x.num,.str x.den]] (.ret (.int .i64 ((gW x.neg s:Nat):Int))):=by
 rcases tf x.neg with b0|b0
 ·rw [show gW x.neg s=jK s by unfold gW;rw [b0];rfl]
  exact pK [] 1 1 (.c (aC b0) (.n 1 .nil)) (.c (Ei s) .nil)
 ·rw [show gW x.neg s=s by unfold gW;rw [b0];rfl]
  exact pK [] 1 0 (.c (aB b0) (.n 1 .nil)) (.nil)
theorem gU (x:Nd):CO 43 [.agg (iY x)] (.ret (.bool (fF x.op))):=by
 have e:fF x.op=(decide (((1:Nat):Int)≤x.op) && decide (x.op≤((3:Nat):Int))):=by
  unfold fF
  by_cases h1:x.op=1
  ·rw [h1];rfl
  ·by_cases h2:x.op=2
   ·rw [h2];rfl
   ·by_cases h3:x.op=3
    ·rw [h3];rfl
    ·rw [beq_eq_false_iff_ne.2 h1,beq_eq_false_iff_ne.2 h2,beq_eq_false_iff_ne.2 h3]
     symm
     rw [Bool.or_self,Bool.or_self,Bool.and_eq_false_iff]
     by_cases h4:((1:Nat):Int)≤x.op
     ·exact .inr (decide_eq_false (by omega))
     ·exact .inl (decide_eq_false (by omega))
 rw [e]
 rcases tf (decide (((1:Nat):Int)≤x.op)) with b0|b0
 ·rw [b0,Bool.true_and]
  exact pK [] 1 1 (.k 1 (aC b0) (.n 1 .nil)) (.nil)
 ·rw [b0];rw [Bool.false_and]
  exact pK [] 1 0 (.c (aB b0) (.n 1 .nil)) (.nil)
def yx (ck:Sc→Int) (up:Sc→Bool) (name:List UInt8):List Sc→Option Bool
 | []=>none
 |x::r=>if x.name==name then some (ck x==0 && up x) else yx ck up name r
theorem Ee (ck:Sc→Int) (b:Sc→Bool) (a:List UInt8):∀ r,yx ck b a r=(r.find? (fun x=>x.name==a)).map fun x=>ck x==0 && b x
 | []=>rfl
 |x::r=>by
  unfold yx;rw [List.find?_cons]
  rcases tf (x.name==a) with h|h
  ·rw [if_pos h,h];rfl
  ·rw [if_neg (by rw [h];decide),h];exact Ee ck b a r
def amc (sc:List Sc) (ns:Bool) (name:List UInt8) (p:Nat × Unit):St:=⟨[(0,.sl (eX sc) sc.length ns),(1,.str name),(5,.int .i64 (p.1:Int))],[],.dead,[]⟩
def aag (sc:List Sc) (ns:Bool) (name:List UInt8):Option Bool→St
 |none=> ⟨[(0,.sl (eX sc) sc.length ns)],[],.dead,[]⟩
 |some z=> ⟨[(4,.bool z)],[],.dead,[]⟩
def rrE:Option Bool→bM
 |none=> .exit 0
 |some _=> .ret
theorem YS {nt:Nat} (f:32≤nt) (c:List Sc) (k:Bool) (a:List UInt8) (ck:Sc→Int) (j:Sc→Bool) (n:c.length<2^40) (q:∀ x ∈ c,CO 71 [.agg (xg x)] (.ret (.int .i64 (ck x)))∧(ck x=0→CO 72 [.agg (xg x)] (.ret (.bool (j x))))):∀ (r p:List Sc),p++r=c→
  aF prog ap [] nt (ae 0 (af f46)) rrE (amc c k a) (aag c k a) (p.length,()) (yx ck j a r):=by
 intro r
 induction r with
 |nil=>
  intro p hp
  rw [List.append_nil] at hp
  subst hp
  generalize l:p.length=i
  have b:(decide ((i:Int)<(p.length:Int)))=false:=decide_eq_false (by omega)
  exact .done (pN 46 [] 1 0 (.c (aB b) .nil) (.nil) f)
 | cons x r ih=>
  intro p hp
  have o:p.length<c.length:=by rw [← hp];simp
  have d:(List.drop ((Int.toNat (p.length:Int))*4) (eX c))=xg x++eX r:=by
   rw [aA,Et o]
   have m:c[p.length]=x:=by subst hp;simp
   have t:c.drop (p.length+1)=r:=by rw [← hp];simp
   rw [m,t]
  have e:=ih (p++ [x]) (by rw [← hp];simp)
  rw [List.length_append,List.length_singleton] at e
  obtain ⟨h,s⟩:=q x (by rw [← hp];simp)
  unfold yx
  generalize l:p.length=i at*
  generalize eX r=rS at d
  have b:(decide ((i:Int)<(c.length:Int)))=true:=decide_eq_true (by omega)
  have u:i<2^62:=by omega
  rcases tf (x.name==a) with b1|b1
  ·rw [if_pos b1]
   rcases tf ((ck x)==((0:Nat):Int)) with b2|b2
   ·have g:ck x=0:=by simpa using b2
    rw [show (ck x==0)=true from b2,Bool.true_and]
    exact .done (pN 46 [] 3 7 (.k 4 (aQ i) (.c b (.c (aC b2) (.k 4 (aQ i) (.c b (.c (aC b1) (.k 1 (aQ i) (.c b (.c (aC b) .nil))))))))) (.c (s g) (.v 28 (.ppt d) (.c h (.v 21 (.ppt d) (.v 14 (.ppt d) .nil))))) f)
   ·rw [show (ck x==0)=false from b2,Bool.false_and]
    exact .done (pN 46 [] 3 3 (.c (aB b2) (.k 4 (aQ i) (.c b (.c (aC b1) (.k 1 (aQ i) (.c b (.c (aC b) .nil))))))) (.c h (.v 21 (.ppt d) (.v 14 (.ppt d) .nil))) f)
  ·rw [if_neg (by rw [b1];decide)]
   exact .next (pN 46 [] 2 1 (.c (aB b1) (.k 1 (aQ i) (.c b (.c (aC b) .nil)))) (.v 11 (.eq (iZ u)) (.v 14 (.ppt d) .nil)) f) e
theorem amg (b:List Sc) (c:Bool) (a:List UInt8) (z:Bool) (d:aH prog ap [] 32 (.block 0 (.loop (ae 0 (af f46)))) ⟨[(0,.sl (eX b) b.length c),(1,.str a),(4,.bool false),(5,.int .i64 0),(9,.dead),(18,.dead)],[],.dead,[]⟩ (.ret) ⟨[(4,.bool z)],[],.dead,[]⟩):CO 46 [.sl (eX b) b.length c,.str a] (.ret (.bool z)):=pK [0] 0 0 .nil (.l d .nil)
theorem amf (b:List Sc) (c:Bool) (a:List UInt8) (d:aH prog ap [] 32 (.block 0 (.loop (ae 0 (af f46)))) ⟨[(0,.sl (eX b) b.length c),(1,.str a),(4,.bool false),(5,.int .i64 0),(9,.dead),(18,.dead)],[],.dead,[]⟩ (.normal) ⟨[(0,.sl (eX b) b.length c)],[],.dead,[]⟩):CO 46 [.sl (eX b) b.length c,.str a] (.ret (.bool false)):=pK [0] 0 0 .nil (.l d .nil)
theorem Vz (b:List Sc) (c:Bool) (a:List UInt8) (ck:Sc→Int) (d:Sc→Bool) (e:b.length<2^40) (g:∀ x ∈ b,CO 71 [.agg (xg x)] (.ret (.int .i64 (ck x)))∧(ck x=0→CO 72 [.agg (xg x)] (.ret (.bool (d x))))):CO 46 [.sl (eX b) b.length c,.str a] (.ret (.bool ((yx ck d a b).getD false))):=by
 have h:∀ nt,32≤nt→aF prog ap [] nt (ae 0 (af f46)) rrE (amc b c a) (aag b c a) (0,()) (yx ck d a b):=fun nt i=>YS i b c a ck d e g b [] rfl
 cases f:yx ck d a b with
 |none=>
  rw [f] at h
  exact amf b c a (aF.blk h (by simp [rrE]) rfl (aK.of ⟨rfl,rfl,rfl,trivial⟩) (aK.of ⟨rfl,trivial⟩))
 |some z=>
  rw [f] at h
  exact amg b c a z (aF.blk h (by simp [rrE]) rfl (aK.of ⟨rfl,rfl,rfl,trivial⟩) (aK.of ⟨rfl,trivial⟩))
def KY (e:List Nd) (ne:Bool) (A:List (List Nat)) (sc:List Sc) (ns:Bool) (ss:List Nat) (op:Int) (name:List UInt8) (xo:Int) (xb:Bool) (xn xd xm:List UInt8) (k:Nat) (p:Nat × Nat):St:=⟨[(0,.sl (aI e) e.length ne),(1,.sl (eX sc) sc.length ns),(2,.int .i64 op),(3,.str name),(9,.sl (bC A) A.length true),(11,.ref 0 0 0 ss.length),(12,.int .i64 (k:Int)),(13,.ptr 1 0 0),(14,.int .i64 (p.2:Int)),(15,.int .i64 (p.1:Int))],[(0,⟨(ai ss),0,false,0,1,true⟩),(1,⟨[.int .i64 xo,.bool xb,.str xn,.str xd,.str xm],0,false,0,0,true⟩)],.dead,[]⟩
def NY (e:List Nd) (ne:Bool) (A:List (List Nat)) (sc:List Sc) (ns:Bool) (ss:List Nat) (op:Int) (name:List UInt8) (xo:Int) (xb:Bool) (xn xd xm:List UInt8) (k:Nat) (acc:Nat):St:=⟨[(0,.sl (aI e) e.length ne),(1,.sl (eX sc) sc.length ns),(2,.int .i64 op),(3,.str name),(9,.sl (bC A) A.length true),(11,.ref 0 0 0 ss.length),(12,.int .i64 (k:Int)),(13,.ptr 1 0 0),(14,.int .i64 (acc:Int))],[(0,⟨(ai ss),0,false,0,1,true⟩),(1,⟨[.int .i64 xo,.bool xb,.str xn,.str xd,.str xm],0,false,0,0,true⟩)],.dead,[]⟩
theorem alL {nt:Nat} (z:282≤nt) (e:List Nd) (g:Bool) (A:List (List Nat)) (u:List Sc) (q:Bool) (d:List Nat) (o:Int) (b:List UInt8) (l:Int) (f:Bool) (t r p:List UInt8) (k:Nat) (c i:Nat) (a:List Nat) (rA:List AV) (j:Nat) (v:List AV) (s:Nat) (w:List AV) (m:k<A.length) (n:(List.drop ((Int.toNat (k:Int))*1) (bC A))= [yL a]++rA) (h:(decide ((i:Int)<(a.length:Int)))=true) (y:(List.drop ((Int.toNat (i:Int))*1) (ai a))= [AV.int .i64 (j:Int)]++v) (B:j<d.length) (hs:(List.drop ((0+(Int.toNat (j:Int)))*1) (ai d))= [AV.int .i64 (s:Int)]++w) (x:i<2^62):
  aj prog ap [] nt (ae 2 (af f15)) (KY e g A u q d o b l f t r p k (i,c)) .normal (KY e g A u q d o b l f t r p k (i+1,d_ c s)):=pN 15 [] 1 1 (.a (gZ [.int .i64] hs rfl) (.c (aQ j) (.c (bK B) (.k 1 (aQ i) (.c h (.k 1 (aQ k) (.c (bK m) (.c (aC h) (.k 1 (aQ k) (.c (bK m) .nil)))))))))) (.v 67 (.eq (iZ x)) (.c (uy c s) (.v 78 (.rd1 (.int .i64) hs rfl) (.v 75 (.ppt y) (.v 72 (.ppt n) (.v 62 (.ppt n) .nil)))))) z
theorem alM {nt:Nat} (t:282≤nt) (e:List Nd) (f:Bool) (A:List (List Nat)) (p:List Sc) (m:Bool) (g:List Nat) (j:Int) (b:List UInt8) (h:Int) (d:Bool) (o n l:List UInt8) (k:Nat) (c i:Nat) (a:List Nat) (rA:List AV) (r:k<A.length) (s:(List.drop ((Int.toNat (k:Int))*1) (bC A))= [yL a]++rA) (q:(decide ((i:Int)<(a.length:Int)))=false):
  aj prog ap [] nt (ae 2 (af f15)) (KY e f A p m g j b h d o n l k (i,c)) (.exit 2) (NY e f A p m g j b h d o n l k c):=pN 15 [] 1 0 (.c (aB q) (.k 1 (aQ k) (.c (bK r) .nil))) (.v 62 (.ppt s) .nil) t
theorem Vm {nt:Nat} (v:282≤nt) (e:List Nd) (m:Bool) (A:List (List Nat)) (u:List Sc) (q:Bool) (f:List Nat) (o:Int) (a:List UInt8) (n:Int) (h:Bool) (l r p:List UInt8) (k:Nat) (t:k<A.length) (z:(A.getD k []).length<2^40) (y:∀ j ∈ A.getD k [],j<f.length):∀ (d i b:Nat),i+d=(A.getD k []).length→
  aF prog ap [] nt (ae 2 (af f15)) (fun _=> .exit 2) (KY e m A u q f o a n h l r p k) (NY e m A u q f o a n h l r p k) (i,b) (((A.getD k []).drop i).foldl (fun s j=>d_ s (f.getD j 0)) b):=by
 intro d
 induction d with
 |zero=>
  intro i b w
  rw [List.drop_of_length_le (by omega)]
  exact .done (alM v e m A u q f o a n h l r p k b i _ _ t (kZ t) (decide_eq_false (by omega)))
 |succ d ih=>
  intro i b w
  have c:i<(A.getD k []).length:=by omega
  have g:(A.getD k []).getD i 0<f.length:=by rw [qW c];exact y _ (List.getElem_mem c)
  rw [List.drop_eq_getElem_cons c]
  have x:(A.getD k [])[i]=(A.getD k []).getD i 0:=(qW c).symm
  rw [x]
  exact .next (alL v e m A u q f o a n h l r p k b i _ _ _ _ _ _ t (kZ t) (decide_eq_true (by omega)) (kE c) g (by rw [Nat.zero_add];exact kE g) (by omega)) (ih (i+1) _ (by omega))
def eH (e:List Nd) (ne:Bool) (A:List (List Nat)) (sc:List Sc) (ns:Bool) (op:Int) (name:List UInt8) (p:Nat × List Nat):St:=⟨[(0,.sl (aI e) e.length ne),(1,.sl (eX sc) sc.length ns),(2,.int .i64 op),(3,.str name),(9,.sl (bC A) A.length true),(11,.ref 0 0 0 p.2.length),(12,.int .i64 (p.1:Int))],[(0,⟨(ai p.2),0,false,0,1,true⟩)],.dead,[]⟩
def Vu (e:List Nd) (ne:Bool) (ss:List Nat):St:=⟨[(0,.sl (aI e) e.length ne),(11,.ref 0 0 0 ss.length)],[(0,⟨(ai ss),0,false,0,1,true⟩)],.dead,[]⟩
abbrev uz (e:List Nd) (ne:Bool) (A:List (List Nat)) (sc:List Sc) (ns:Bool) (ss:List Nat) (op:Int) (name:List UInt8) (xo:Int) (xb:Bool) (xn xd xm:List UInt8) (k:Nat) (b55:Bool) (w:Nat):Prop:=aH prog ap [] 282 (.block 2 (.loop (ae 2 (af f15)))) ⟨[(0,.sl (aI e) e.length ne),(1,.sl (eX sc) sc.length ns),(2,.int .i64 op),(3,.str name),(8,.dead),(9,.sl (bC A) A.length true),(10,.dead),(11,.ref 0 0 0 ss.length),(12,.int .i64 (k:Int)),(13,.ptr 1 0 0),(14,.int .i64 0),(15,.int .i64 0),(16,.dead),(17,.dead),(32,.dead),(39,.bool (decide ((k:Int)<(e.length:Int)))),(55,.bool b55),(65,.dead),(81,.dead),(111,.dead),(118,.dead),(147,.dead),(176,.dead),(216,.dead),(245,.dead),(271,.dead)],[(0,⟨(ai ss),0,false,0,1,true⟩),(1,⟨[.int .i64 xo,.bool xb,.str xn,.str xd,.str xm],0,false,0,0,true⟩)],.dead,[]⟩ (.normal) ⟨[(0,.sl (aI e) e.length ne),(1,.sl (eX sc) sc.length ns),(2,.int .i64 op),(3,.str name),(9,.sl (bC A) A.length true),(11,.ref 0 0 0 ss.length),(12,.int .i64 (k:Int)),(13,.ptr 1 0 0),(14,.int .i64 (w:Int))],[(0,⟨(ai ss),0,false,0,1,true⟩),(1,⟨[.int .i64 xo,.bool xb,.str xn,.str xd,.str xm],0,false,0,0,true⟩)],.dead,[]⟩
theorem acJ (e:List Nd) (i:Bool) (A:List (List Nat)) (o:List Sc) (l:Bool) (b:List Nat) (d:Int) (a:List UInt8) (n:Int) (c:Bool) (g m f:List UInt8) (k:Nat) (p:Bool) (t:k<A.length) (q:(A.getD k []).length<2^40) (s:∀ j ∈ A.getD k [],j<b.length):uz e i A o l b d a n c g m f k p (eF A b k):=by
 have h:∀ nt,282≤nt→aF prog ap [] nt (ae 2 (af f15)) (fun _=> .exit 2) (KY e i A o l b d a n c g m f k) (NY e i A o l b d a n c g m f k) (0,0) (eF A b k):=fun nt r=>Vm r e i A o l b d a n c g m f k t q s _ 0 0 (Nat.zero_add _)
 exact aF.blk h (by simp) rfl (aK.of ⟨rfl,rfl,rfl,rfl,rfl,rfl,rfl,rfl,rfl,rfl,trivial⟩) (aK.of ⟨rfl,rfl,rfl,rfl,rfl,rfl,rfl,rfl,rfl,trivial⟩)
abbrev jH (k:Nat) (ss:List Nat):List AV:=List.take ((0+(Int.toNat (k:Int)))*1) (ai ss)++ [.int .i64 3]++List.drop (((0+(Int.toNat (k:Int)))*1)+1) (ai ss)
theorem dF {a:List Nat} {k v:Nat} (h:k<a.length):List.take ((0+(Int.toNat (k:Int)))*1) (jH k a)++ [AV.int .i64 (v:Int)]++List.drop (((0+(Int.toNat (k:Int)))*1)+1) (jH k a)=ai (a.set k v):=by
 have b:(jH k a)=ai (a.set k 3):=aX (v:=3) h
 rw [b,aX (by rw [List.length_set];exact h),List.set_set]
theorem at7 {nt:Nat} (q:282≤nt) (e:List Nd) (f:Bool) (A:List (List Nat)) (h:List Sc) (g:Bool) (b:List Nat) (d:Int) (a:List UInt8) (k:Nat) (u:k<e.length) (i:e.length<2^40) (t:A.length=e.length) (s:b.length=e.length) (l:List AV) (x:Nd) (p:(List.drop ((Int.toNat (k:Int))*5) (aI e))=iY x++l) (m:(x.op==d)=true) (j:(x.name==a)=true):aj prog ap [] nt (ae 0 (af f15)) (eH e f A h g d a (k,b)) .normal (eH e f A h g d a (k+1,b.set k (1))):=by
 have c:k<b.length:=by omega
 have n:k<2^62:=by omega
 have h0:(decide ((k:Int)<(e.length:Int)))=true:=decide_eq_true (by omega)
 have r:Nat.ble (((0+(Int.toNat (k:Int)))*1)+1) (List.length (ai b))=true:=by rw [Nat.ble_eq,aA];simp [ai];omega
 have o:Nat.ble (((0+(Int.toNat (k:Int)))*1)+1) (List.length (jH k b))=true:=by rw [Nat.ble_eq,show (jH k b)=ai (b.set k 3) from aX (v:=3) c,aA];simp [ai];omega
 unfold eH
 dsimp only
 rw [List.length_set,← aX c]
 exact pN 15 [] 3 7 (.c r (.c (aQ k) (.c (bK c) (.c (aC j) (.k 1 (aC m) (.k 7 (aQ k) (.c h0 (.c (aC h0) .nil)))))))) (.v 41 (.eq (iZ n)) (.v 44 (.ppt p) .nil)) q
theorem aua {nt:Nat} (s:282≤nt) (e:List Nd) (d:Bool) (A:List (List Nat)) (h:List Sc) (g:Bool) (b:List Nat) (c:Int) (a:List UInt8) (k:Nat) (z:k<e.length) (i:e.length<2^40) (u:A.length=e.length) (t:b.length=e.length) (m:List AV) (x:Nd) (r:(List.drop ((Int.toNat (k:Int))*5) (aI e))=iY x++m) (w:Nat) (j:uz e d A h g b c a x.op x.neg x.num x.den x.name k (x.name==a) w) (n:(x.op==c)=true) (l:(x.name==a)=false) (p:((w:Int)==((0:Nat):Int))=true):aj prog ap [] nt (ae 0 (af f15)) (eH e d A h g c a (k,b)) .normal (eH e d A h g c a (k+1,b)):=by
 have f:k<b.length:=by omega
 have o:k<2^62:=by omega
 have h0:(decide ((k:Int)<(e.length:Int)))=true:=decide_eq_true (by omega)
 have y:Nat.ble (((0+(Int.toNat (k:Int)))*1)+1) (List.length (ai b))=true:=by rw [Nat.ble_eq,aA];simp [ai];omega
 have q:Nat.ble (((0+(Int.toNat (k:Int)))*1)+1) (List.length (jH k b))=true:=by rw [Nat.ble_eq,show (jH k b)=ai (b.set k 3) from aX (v:=3) f,aA];simp [ai];omega
 unfold eH
 exact pN 15 [2] 4 11 (.c (aC p) (.c (aB l) (.k 1 (aC n) (.k 7 (aQ k) (.c h0 (.c (aC h0) .nil)))))) (.v 41 (.eq (iZ o)) (.l j (.v 44 (.ppt r) .nil))) s
theorem aub {nt:Nat} (r:282≤nt) (e:List Nd) (d:Bool) (A:List (List Nat)) (h:List Sc) (g:Bool) (b:List Nat) (c:Int) (a:List UInt8) (k:Nat) (y:k<e.length) (i:e.length<2^40) (t:A.length=e.length) (s:b.length=e.length) (l:List AV) (x:Nd) (q:(List.drop ((Int.toNat (k:Int))*5) (aI e))=iY x++l) (w:Nat) (j:uz e d A h g b c a x.op x.neg x.num x.den x.name k (false) w) (m:(x.op==c)=false) (o:((w:Int)==((0:Nat):Int))=true):aj prog ap [] nt (ae 0 (af f15)) (eH e d A h g c a (k,b)) .normal (eH e d A h g c a (k+1,b)):=by
 have f:k<b.length:=by omega
 have n:k<2^62:=by omega
 have h0:(decide ((k:Int)<(e.length:Int)))=true:=decide_eq_true (by omega)
 have u:Nat.ble (((0+(Int.toNat (k:Int)))*1)+1) (List.length (ai b))=true:=by rw [Nat.ble_eq,aA];simp [ai];omega
 have p:Nat.ble (((0+(Int.toNat (k:Int)))*1)+1) (List.length (jH k b))=true:=by rw [Nat.ble_eq,show (jH k b)=ai (b.set k 3) from aX (v:=3) f,aA];simp [ai];omega
 unfold eH
 exact pN 15 [2] 4 9 (.c (aC o) (.k 1 (aB m) (.k 7 (aQ k) (.c h0 (.c (aC h0) .nil))))) (.v 41 (.eq (iZ n)) (.l j (.v 44 (.ppt q) .nil))) r
theorem acK {nt:Nat} (f:282≤nt) (e:List Nd) (c:Bool) (A:List (List Nat)) (h:List Sc) (d:Bool) (b:List Nat) (g:Int) (a:List UInt8):aj prog ap [] nt (ae 0 (af f15)) (eH e c A h d g a (e.length,b)) (.exit 0) (Vu e c b):=by
 have h0:(decide ((e.length:Int)<(e.length:Int)))=false:=decide_eq_false (by omega)
 exact pN 15 [] 1 0 (.c (aB h0) .nil) (.nil) f
theorem at6 {nt:Nat} (D:282≤nt) (e:List Nd) (o:Bool) (A:List (List Nat)) (f:List Sc) (l:Bool) (c:List Nat) (d:Int) (a:List UInt8) (k:Nat) (X:k<e.length) (H:e.length<2^40) (W:A.length=e.length) (V:c.length=e.length) (N:List AV) (i:k<A.length) (x:Nd) (rA:List AV) (m:Nat) (G:Nat) (M:Nd) (Q u0:List AV) (g:Nat) (U:Nat) (R:Nd) (K u1:List AV) (C:(List.drop ((Int.toNat (k:Int))*5) (aI e))= [.int .i64 9,.bool x.neg,.str x.num,.str x.den,.str x.name]++N) (u:(List.drop ((Int.toNat (k:Int))*1) (bC A))= [.sl [.int .i64 (m:Int),.int .i64 (g:Int)] 2 false]++rA) (J:(List.drop ((0+(Int.toNat (m:Int)))*1) (jH k c))= [AV.int .i64 (G:Int)]++Q) (F:(List.drop ((Int.toNat (m:Int))*5) (aI e))=iY M++u0) (P:(List.drop ((0+(Int.toNat (g:Int)))*1) (jH k c))= [AV.int .i64 (U:Int)]++K) (O:(List.drop ((Int.toNat (g:Int))*5) (aI e))=iY R++u1) (y:m<c.length) (r:m<e.length) (B:g<c.length) (s:g<e.length) (w:Nat) (S:Bool) (I:uz e o A f l c d a 9 x.neg x.num x.den x.name k (x.name==a) w) (T:uz e o A f l c d a 9 x.neg x.num x.den x.name k (false) w) (n:CO 46 [.sl (eX f) f.length l,.str x.name] (.ret (.bool S))) (z:((w:Int)==((0:Nat):Int))=false) (p:(((9:Nat):Int)==d)=false∨(x.name==a)=false):aj prog ap [] nt (ae 0 (af f15)) (eH e o A f l d a (k,c)) .normal (eH e o A f l d a (k+1,c.set k (w))):=by
 have b:k<c.length:=by omega
 have t:k<2^62:=by omega
 have h0:(decide ((k:Int)<(e.length:Int)))=true:=decide_eq_true (by omega)
 have E:Nat.ble (((0+(Int.toNat (k:Int)))*1)+1) (List.length (ai c))=true:=by rw [Nat.ble_eq,aA];simp [ai];omega
 have j:Nat.ble (((0+(Int.toNat (k:Int)))*1)+1) (List.length (jH k c))=true:=by rw [Nat.ble_eq,show (jH k c)=ai (c.set k 3) from aX (v:=3) b,aA];simp [ai];omega
 unfold eH
 dsimp only
 rw [List.length_set]
 rcases tf (((9:Nat):Int)==d) with b1|b1
 ·have q:=I
  have L:(x.name==a)=false:=by rcases p with h|h;rw [h] at b1;cases b1;exact h
  rw [← dF b]
  exact pN 15 [2] 20 243 (.k 19 j (.c (aQ k) (.c (bK b) (.k 6 (aQ k) (.c (bK i) (.c E (.c (aQ k) (.c (bK b) (.c (aB z) (.c (aB L) (.k 1 (aC b1) (.k 7 (aQ k) (.c h0 (.c (aC h0) .nil)))))))))))))) (.v 41 (.eq (iZ t)) (.c n (.v 87 (.ppt u) (.l q (.v 44 (.ppt C) .nil))))) D
 ·have q:=T
  rw [← dF b]
  exact pN 15 [2] 20 241 (.k 19 j (.c (aQ k) (.c (bK b) (.k 6 (aQ k) (.c (bK i) (.c E (.c (aQ k) (.c (bK b) (.c (aB z) (.k 1 (aB b1) (.k 7 (aQ k) (.c h0 (.c (aC h0) .nil))))))))))))) (.v 41 (.eq (iZ t)) (.c n (.v 87 (.ppt u) (.l q (.v 44 (.ppt C) .nil))))) D
theorem alX {nt:Nat} (H:282≤nt) (e:List Nd) (u:Bool) (A:List (List Nat)) (o:List Sc) (r:Bool) (c:List Nat) (m:Int) (a:List UInt8) (k:Nat) (X:k<e.length) (K:e.length<2^40) (W:A.length=e.length) (V:c.length=e.length) (P:List AV) (p:k<A.length) (x:Nd) (rA:List AV) (l:Nat) (t:Nat) (O:Nd) (R u0:List AV) (j:Nat) (n:Nat) (S:Nd) (M u1:List AV) (G:(List.drop ((Int.toNat (k:Int))*5) (aI e))= [.int .i64 10,.bool x.neg,.str x.num,.str x.den,.str x.name]++P) (E:(List.drop ((Int.toNat (k:Int))*1) (bC A))= [.sl [.int .i64 (l:Int),.int .i64 (j:Int)] 2 false]++rA) (d:(List.drop ((0+(Int.toNat (l:Int)))*1) (jH k c))= [AV.int .i64 (t:Int)]++R) (J:(List.drop ((Int.toNat (l:Int))*5) (aI e))=iY O++u0) (f:(List.drop ((0+(Int.toNat (j:Int)))*1) (jH k c))= [AV.int .i64 (n:Int)]++M) (Q:(List.drop ((Int.toNat (j:Int))*5) (aI e))=iY S++u1) (g:l<c.length) (B:l<e.length) (i:j<c.length) (C:j<e.length) (w:Nat) (T:Bool) (L:uz e u A o r c m a 10 x.neg x.num x.den x.name k (x.name==a) w) (U:uz e u A o r c m a 10 x.neg x.num x.den x.name k (false) w) (s:CO 46 [.sl (eX o) o.length r,.str x.name] (.ret (.bool T))) (F:((w:Int)==((0:Nat):Int))=false) (y:(((10:Nat):Int)==m)=false∨(x.name==a)=false):aj prog ap [] nt (ae 0 (af f15)) (eH e u A o r m a (k,c)) .normal (eH e u A o r m a (k+1,c.set k (d_ t (jK n)))):=by
 have b:k<c.length:=by omega
 have D:k<2^62:=by omega
 have h0:(decide ((k:Int)<(e.length:Int)))=true:=decide_eq_true (by omega)
 have I:Nat.ble (((0+(Int.toNat (k:Int)))*1)+1) (List.length (ai c))=true:=by rw [Nat.ble_eq,aA];simp [ai];omega
 have q:Nat.ble (((0+(Int.toNat (k:Int)))*1)+1) (List.length (jH k c))=true:=by rw [Nat.ble_eq,show (jH k c)=ai (c.set k 3) from aX (v:=3) b,aA];simp [ai];omega
 unfold eH
 dsimp only
 rw [List.length_set]
 rcases tf (((10:Nat):Int)==m) with b1|b1
 ·have z:=L
  have N:(x.name==a)=false:=by rcases y with h|h;rw [h] at b1;cases b1;exact h
  rw [← dF b]
  exact pN 15 [2] 21 515 (.k 17 q (.c (aQ k) (.c (bK b) (.a (gZ [.int .i64] f rfl) (.c (aQ j) (.c (bK i) (.n 3 (.a (gZ [.int .i64] d rfl) (.c (aQ l) (.c (bK g) (.k 15 (aQ k) (.c (bK p) (.c I (.c (aQ k) (.c (bK b) (.c (aB F) (.c (aB N) (.k 1 (aC b1) (.k 7 (aQ k) (.c h0 (.c (aC h0) .nil))))))))))))))))))))) (.v 41 (.eq (iZ D)) (.c s (.c (uy t (jK n)) (.c (Ei n) (.v 132 (.rd1 (.int .i64) f rfl) (.v 126 (.rd1 (.int .i64) d rfl) (.v 87 (.ppt E) (.l z (.v 44 (.ppt G) .nil))))))))) H
 ·have z:=U
  rw [← dF b]
  exact pN 15 [2] 21 513 (.k 17 q (.c (aQ k) (.c (bK b) (.a (gZ [.int .i64] f rfl) (.c (aQ j) (.c (bK i) (.n 3 (.a (gZ [.int .i64] d rfl) (.c (aQ l) (.c (bK g) (.k 15 (aQ k) (.c (bK p) (.c I (.c (aQ k) (.c (bK b) (.c (aB F) (.k 1 (aB b1) (.k 7 (aQ k) (.c h0 (.c (aC h0) .nil)))))))))))))))))))) (.v 41 (.eq (iZ D)) (.c s (.c (uy t (jK n)) (.c (Ei n) (.v 132 (.rd1 (.int .i64) f rfl) (.v 126 (.rd1 (.int .i64) d rfl) (.v 87 (.ppt E) (.l z (.v 44 (.ppt G) .nil))))))))) H
theorem alY {nt:Nat} (H:282≤nt) (e:List Nd) (N:Bool) (A:List (List Nat)) (J:List Sc) (L:Bool) (n:List Nat) (E:Int) (g:List UInt8) (k:Nat) (Z:k<e.length) (Q:e.length<2^40) (Y:A.length=e.length) (X:n.length=e.length) (T:List AV) (o:k<A.length) (x:Nd) (rA:List AV) (m:Nat) (q:Nat) (b:Nd) (U u0:List AV) (l:Nat) (r:Nat) (c:Nd) (S u1:List AV) (G:(List.drop ((Int.toNat (k:Int))*5) (aI e))= [.int .i64 11,.bool x.neg,.str x.num,.str x.den,.str x.name]++T) (D:(List.drop ((Int.toNat (k:Int))*1) (bC A))= [.sl [.int .i64 (m:Int),.int .i64 (l:Int)] 2 false]++rA) (s:(List.drop ((0+(Int.toNat (m:Int)))*1) (jH k n))= [AV.int .i64 (q:Int)]++U) (i:(List.drop ((Int.toNat (m:Int))*5) (aI e))=iY b++u0) (t:(List.drop ((0+(Int.toNat (l:Int)))*1) (jH k n))= [AV.int .i64 (r:Int)]++S) (j:(List.drop ((Int.toNat (l:Int))*5) (aI e))=iY c++u1) (y:m<n.length) (d:m<e.length) (z:l<n.length) (f:l<e.length) (w:Nat) (V:Bool) (R:uz e N A J L n E g 11 x.neg x.num x.den x.name k (x.name==g) w) (W:uz e N A J L n E g 11 x.neg x.num x.den x.name k (false) w) (p:CO 46 [.sl (eX J) J.length L,.str x.name] (.ret (.bool V))) (M:fF b.op=true→fF c.op=false) (F:((w:Int)==((0:Nat):Int))=false) (O:(((11:Nat):Int)==E)=false∨(x.name==g)=false):aj prog ap [] nt (ae 0 (af f15)) (eH e N A J L E g (k,n)) .normal (eH e N A J L E g (k+1,n.set k (cond (fF b.op) (gW b.neg r) (cond (fF c.op) (gW c.neg q) 3)))):=by
 have a:k<n.length:=by omega
 have C:k<2^62:=by omega
 have h0:(decide ((k:Int)<(e.length:Int)))=true:=decide_eq_true (by omega)
 have I:Nat.ble (((0+(Int.toNat (k:Int)))*1)+1) (List.length (ai n))=true:=by rw [Nat.ble_eq,aA];simp [ai];omega
 have u:Nat.ble (((0+(Int.toNat (k:Int)))*1)+1) (List.length (jH k n))=true:=by rw [Nat.ble_eq,show (jH k n)=ai (n.set k 3) from aX (v:=3) a,aA];simp [ai];omega
 unfold eH
 dsimp only
 rw [List.length_set]
 rcases tf (((11:Nat):Int)==E) with b1|b1
 ·have B:=R
  have P:(x.name==g)=false:=by rcases O with h|h;rw [h] at b1;cases b1;exact h
  rcases tf (fF b.op) with c0|c0
  ·have K:=M c0
   rw [show (cond (fF b.op) (gW b.neg r) (cond (fF c.op) (gW c.neg q) 3))=(gW b.neg r) by rw [c0,K];rfl]
   rw [← dF a]
   exact pN 15 [2] 21 7171 (.k 11 (aB K) (.k 5 (aQ l) (.c (bK f) (.k 5 u (.c (aQ k) (.c (bK a) (.k 3 (aQ m) (.c (bK d) (.n 3 (.a (gZ [.int .i64] t rfl) (.c (aQ l) (.c (bK z) (.k 3 (aC c0) (.k 5 (aQ m) (.c (bK d) (.k 17 (aQ k) (.c (bK o) (.c I (.c (aQ k) (.c (bK a) (.c (aB F) (.c (aB P) (.k 1 (aC b1) (.k 7 (aQ k) (.c h0 (.c (aC h0) .nil)))))))))))))))))))))))))) (.v 41 (.eq (iZ C)) (.c p (.c (gU c) (.v 173 (.ppt j) (.c (uZ r b) (.v 160 (.ppt i) (.v 155 (.rd1 (.int .i64) t rfl) (.c (gU b) (.v 144 (.ppt i) (.v 87 (.ppt D) (.l B (.v 44 (.ppt G) .nil)))))))))))) H
  ·skip
   rcases tf (fF c.op) with c10|c10
   ·rw [show (cond (fF b.op) (gW b.neg r) (cond (fF c.op) (gW c.neg q) 3))=(gW c.neg q) by rw [c0,c10];rfl]
    rw [← dF a]
    exact pN 15 [2] 21 13315 (.k 11 u (.c (aQ k) (.c (bK a) (.k 3 (aQ l) (.c (bK f) (.n 3 (.a (gZ [.int .i64] s rfl) (.c (aQ m) (.c (bK y) (.k 3 (aC c10) (.k 5 (aQ l) (.c (bK f) (.k 5 (aB c0) (.k 5 (aQ m) (.c (bK d) (.k 17 (aQ k) (.c (bK o) (.c I (.c (aQ k) (.c (bK a) (.c (aB F) (.c (aB P) (.k 1 (aC b1) (.k 7 (aQ k) (.c h0 (.c (aC h0) .nil)))))))))))))))))))))))))) (.v 41 (.eq (iZ C)) (.c p (.c (uZ q c) (.v 189 (.ppt j) (.v 184 (.rd1 (.int .i64) s rfl) (.c (gU c) (.v 173 (.ppt j) (.c (gU b) (.v 144 (.ppt i) (.v 87 (.ppt D) (.l B (.v 44 (.ppt G) .nil)))))))))))) H
   ·rw [show (cond (fF b.op) (gW b.neg r) (cond (fF c.op) (gW c.neg q) 3))=3 by rw [c0,c10];rfl]
    rw [← aX a]
    exact pN 15 [2] 21 5123 (.k 11 (aB c10) (.k 5 (aQ l) (.c (bK f) (.k 5 (aB c0) (.k 5 (aQ m) (.c (bK d) (.k 17 (aQ k) (.c (bK o) (.c I (.c (aQ k) (.c (bK a) (.c (aB F) (.c (aB P) (.k 1 (aC b1) (.k 7 (aQ k) (.c h0 (.c (aC h0) .nil))))))))))))))))) (.v 41 (.eq (iZ C)) (.c p (.c (gU c) (.v 173 (.ppt j) (.c (gU b) (.v 144 (.ppt i) (.v 87 (.ppt D) (.l B (.v 44 (.ppt G) .nil))))))))) H
 ·have B:=W
  rcases tf (fF b.op) with c0|c0
  ·have K:=M c0
   rw [show (cond (fF b.op) (gW b.neg r) (cond (fF c.op) (gW c.neg q) 3))=(gW b.neg r) by rw [c0,K];rfl]
   rw [← dF a]
   exact pN 15 [2] 21 7169 (.k 11 (aB K) (.k 5 (aQ l) (.c (bK f) (.k 5 u (.c (aQ k) (.c (bK a) (.k 3 (aQ m) (.c (bK d) (.n 3 (.a (gZ [.int .i64] t rfl) (.c (aQ l) (.c (bK z) (.k 3 (aC c0) (.k 5 (aQ m) (.c (bK d) (.k 17 (aQ k) (.c (bK o) (.c I (.c (aQ k) (.c (bK a) (.c (aB F) (.k 1 (aB b1) (.k 7 (aQ k) (.c h0 (.c (aC h0) .nil))))))))))))))))))))))))) (.v 41 (.eq (iZ C)) (.c p (.c (gU c) (.v 173 (.ppt j) (.c (uZ r b) (.v 160 (.ppt i) (.v 155 (.rd1 (.int .i64) t rfl) (.c (gU b) (.v 144 (.ppt i) (.v 87 (.ppt D) (.l B (.v 44 (.ppt G) .nil)))))))))))) H
  ·skip
   rcases tf (fF c.op) with c10|c10
   ·rw [show (cond (fF b.op) (gW b.neg r) (cond (fF c.op) (gW c.neg q) 3))=(gW c.neg q) by rw [c0,c10];rfl]
    rw [← dF a]
    exact pN 15 [2] 21 13313 (.k 11 u (.c (aQ k) (.c (bK a) (.k 3 (aQ l) (.c (bK f) (.n 3 (.a (gZ [.int .i64] s rfl) (.c (aQ m) (.c (bK y) (.k 3 (aC c10) (.k 5 (aQ l) (.c (bK f) (.k 5 (aB c0) (.k 5 (aQ m) (.c (bK d) (.k 17 (aQ k) (.c (bK o) (.c I (.c (aQ k) (.c (bK a) (.c (aB F) (.k 1 (aB b1) (.k 7 (aQ k) (.c h0 (.c (aC h0) .nil))))))))))))))))))))))))) (.v 41 (.eq (iZ C)) (.c p (.c (uZ q c) (.v 189 (.ppt j) (.v 184 (.rd1 (.int .i64) s rfl) (.c (gU c) (.v 173 (.ppt j) (.c (gU b) (.v 144 (.ppt i) (.v 87 (.ppt D) (.l B (.v 44 (.ppt G) .nil)))))))))))) H
   ·rw [show (cond (fF b.op) (gW b.neg r) (cond (fF c.op) (gW c.neg q) 3))=3 by rw [c0,c10];rfl]
    rw [← aX a]
    exact pN 15 [2] 21 5121 (.k 11 (aB c10) (.k 5 (aQ l) (.c (bK f) (.k 5 (aB c0) (.k 5 (aQ m) (.c (bK d) (.k 17 (aQ k) (.c (bK o) (.c I (.c (aQ k) (.c (bK a) (.c (aB F) (.k 1 (aB b1) (.k 7 (aQ k) (.c h0 (.c (aC h0) .nil)))))))))))))))) (.v 41 (.eq (iZ C)) (.c p (.c (gU c) (.v 173 (.ppt j) (.c (gU b) (.v 144 (.ppt i) (.v 87 (.ppt D) (.l B (.v 44 (.ppt G) .nil))))))))) H
theorem alZ {nt:Nat} (B:282≤nt) (e:List Nd) (G:Bool) (A:List (List Nat)) (D:List Sc) (F:Bool) (i:List Nat) (u:Int) (f:List UInt8) (k:Nat) (Y:k<e.length) (M:e.length<2^40) (X:A.length=e.length) (W:i.length=e.length) (Q:List AV) (j:k<A.length) (x:Nd) (rA:List AV) (r:Nat) (m:Nat) (P:Nd) (S u0:List AV) (g:Nat) (V:Nat) (a:Nd) (O u1:List AV) (z:(List.drop ((Int.toNat (k:Int))*5) (aI e))= [.int .i64 12,.bool x.neg,.str x.num,.str x.den,.str x.name]++Q) (t:(List.drop ((Int.toNat (k:Int))*1) (bC A))= [.sl [.int .i64 (r:Int),.int .i64 (g:Int)] 2 false]++rA) (n:(List.drop ((0+(Int.toNat (r:Int)))*1) (jH k i))= [AV.int .i64 (m:Int)]++S) (L:(List.drop ((Int.toNat (r:Int))*5) (aI e))=iY P++u0) (R:(List.drop ((0+(Int.toNat (g:Int)))*1) (jH k i))= [AV.int .i64 (V:Int)]++O) (d:(List.drop ((Int.toNat (g:Int))*5) (aI e))=iY a++u1) (p:r<i.length) (J:r<e.length) (K:g<i.length) (b:g<e.length) (w:Nat) (T:Bool) (N:uz e G A D F i u f 12 x.neg x.num x.den x.name k (x.name==f) w) (U:uz e G A D F i u f 12 x.neg x.num x.den x.name k (false) w) (l:CO 46 [.sl (eX D) D.length F,.str x.name] (.ret (.bool T))) (o:CO 45 [.agg [.bool a.neg,.str a.num,.str a.den]] (.ret (.int .i64 (fV a.neg a.num a.den)))) (y:((w:Int)==((0:Nat):Int))=false) (H:(((12:Nat):Int)==u)=false∨(x.name==f)=false):aj prog ap [] nt (ae 0 (af f15)) (eH e G A D F u f (k,i)) .normal (eH e G A D F u f (k+1,i.set k (cond (fF a.op) (cond (fV a.neg a.num a.den==((0:Nat):Int)) 3 (gW a.neg m)) 3))):=by
 have c:k<i.length:=by omega
 have s:k<2^62:=by omega
 have h0:(decide ((k:Int)<(e.length:Int)))=true:=decide_eq_true (by omega)
 have C:Nat.ble (((0+(Int.toNat (k:Int)))*1)+1) (List.length (ai i))=true:=by rw [Nat.ble_eq,aA];simp [ai];omega
 have E:Nat.ble (((0+(Int.toNat (k:Int)))*1)+1) (List.length (jH k i))=true:=by rw [Nat.ble_eq,show (jH k i)=ai (i.set k 3) from aX (v:=3) c,aA];simp [ai];omega
 unfold eH
 dsimp only
 rw [List.length_set]
 rcases tf (((12:Nat):Int)==u) with b1|b1
 ·have q:=N
  have I:(x.name==f)=false:=by rcases H with h|h;rw [h] at b1;cases b1;exact h
  rcases tf (fF a.op) with d0|d0
  ·rcases tf ((fV a.neg a.num a.den)==((0:Nat):Int)) with d1|d1
   ·rw [show (cond (fF a.op) (cond (fV a.neg a.num a.den==((0:Nat):Int)) 3 (gW a.neg m)) 3)=3 by rw [d0,d1];rfl]
    rw [← aX c]
    exact pN 15 [2] 21 49155 (.k 7 (aS d1) (.k 3 (aQ g) (.c (bK b) (.k 3 (aC d0) (.k 5 (aQ g) (.c (bK b) (.k 23 (aQ k) (.c (bK j) (.c C (.c (aQ k) (.c (bK c) (.c (aB y) (.c (aB I) (.k 1 (aC b1) (.k 7 (aQ k) (.c h0 (.c (aC h0) .nil))))))))))))))))) (.v 41 (.eq (iZ s)) (.c l (.c o (.v 211 (.ppt d) (.c (gU a) (.v 202 (.ppt d) (.v 87 (.ppt t) (.l q (.v 44 (.ppt z) .nil))))))))) B
   ·rw [show (cond (fF a.op) (cond (fV a.neg a.num a.den==((0:Nat):Int)) 3 (gW a.neg m)) 3)=(gW a.neg m) by rw [d0,d1];rfl]
    rw [← dF c]
    exact pN 15 [2] 21 114691 (.k 7 E (.c (aQ k) (.c (bK c) (.k 3 (aQ g) (.c (bK b) (.n 3 (.a (gZ [.int .i64] n rfl) (.c (aQ r) (.c (bK p) (.k 3 (dJ d1) (.k 3 (aQ g) (.c (bK b) (.k 3 (aC d0) (.k 5 (aQ g) (.c (bK b) (.k 23 (aQ k) (.c (bK j) (.c C (.c (aQ k) (.c (bK c) (.c (aB y) (.c (aB I) (.k 1 (aC b1) (.k 7 (aQ k) (.c h0 (.c (aC h0) .nil)))))))))))))))))))))))))) (.v 41 (.eq (iZ s)) (.c l (.c (uZ m a) (.v 229 (.ppt d) (.v 224 (.rd1 (.int .i64) n rfl) (.c o (.v 211 (.ppt d) (.c (gU a) (.v 202 (.ppt d) (.v 87 (.ppt t) (.l q (.v 44 (.ppt z) .nil)))))))))))) B
  ·rw [show (cond (fF a.op) (cond (fV a.neg a.num a.den==((0:Nat):Int)) 3 (gW a.neg m)) 3)=3 by rw [d0];rfl]
   rw [← aX c]
   exact pN 15 [2] 21 16387 (.k 8 (aB d0) (.k 5 (aQ g) (.c (bK b) (.k 23 (aQ k) (.c (bK j) (.c C (.c (aQ k) (.c (bK c) (.c (aB y) (.c (aB I) (.k 1 (aC b1) (.k 7 (aQ k) (.c h0 (.c (aC h0) .nil)))))))))))))) (.v 41 (.eq (iZ s)) (.c l (.c (gU a) (.v 202 (.ppt d) (.v 87 (.ppt t) (.l q (.v 44 (.ppt z) .nil))))))) B
 ·have q:=U
  rcases tf (fF a.op) with d0|d0
  ·rcases tf ((fV a.neg a.num a.den)==((0:Nat):Int)) with d1|d1
   ·rw [show (cond (fF a.op) (cond (fV a.neg a.num a.den==((0:Nat):Int)) 3 (gW a.neg m)) 3)=3 by rw [d0,d1];rfl]
    rw [← aX c]
    exact pN 15 [2] 21 49153 (.k 7 (aS d1) (.k 3 (aQ g) (.c (bK b) (.k 3 (aC d0) (.k 5 (aQ g) (.c (bK b) (.k 23 (aQ k) (.c (bK j) (.c C (.c (aQ k) (.c (bK c) (.c (aB y) (.k 1 (aB b1) (.k 7 (aQ k) (.c h0 (.c (aC h0) .nil)))))))))))))))) (.v 41 (.eq (iZ s)) (.c l (.c o (.v 211 (.ppt d) (.c (gU a) (.v 202 (.ppt d) (.v 87 (.ppt t) (.l q (.v 44 (.ppt z) .nil))))))))) B
   ·rw [show (cond (fF a.op) (cond (fV a.neg a.num a.den==((0:Nat):Int)) 3 (gW a.neg m)) 3)=(gW a.neg m) by rw [d0,d1];rfl]
    rw [← dF c]
    exact pN 15 [2] 21 114689 (.k 7 E (.c (aQ k) (.c (bK c) (.k 3 (aQ g) (.c (bK b) (.n 3 (.a (gZ [.int .i64] n rfl) (.c (aQ r) (.c (bK p) (.k 3 (dJ d1) (.k 3 (aQ g) (.c (bK b) (.k 3 (aC d0) (.k 5 (aQ g) (.c (bK b) (.k 23 (aQ k) (.c (bK j) (.c C (.c (aQ k) (.c (bK c) (.c (aB y) (.k 1 (aB b1) (.k 7 (aQ k) (.c h0 (.c (aC h0) .nil))))))))))))))))))))))))) (.v 41 (.eq (iZ s)) (.c l (.c (uZ m a) (.v 229 (.ppt d) (.v 224 (.rd1 (.int .i64) n rfl) (.c o (.v 211 (.ppt d) (.c (gU a) (.v 202 (.ppt d) (.v 87 (.ppt t) (.l q (.v 44 (.ppt z) .nil)))))))))))) B
  ·rw [show (cond (fF a.op) (cond (fV a.neg a.num a.den==((0:Nat):Int)) 3 (gW a.neg m)) 3)=3 by rw [d0];rfl]
   rw [← aX c]
   exact pN 15 [2] 21 16385 (.k 8 (aB d0) (.k 5 (aQ g) (.c (bK b) (.k 23 (aQ k) (.c (bK j) (.c C (.c (aQ k) (.c (bK c) (.c (aB y) (.k 1 (aB b1) (.k 7 (aQ k) (.c h0 (.c (aC h0) .nil))))))))))))) (.v 41 (.eq (iZ s)) (.c l (.c (gU a) (.v 202 (.ppt d) (.v 87 (.ppt t) (.l q (.v 44 (.ppt z) .nil))))))) B
theorem al0 {nt:Nat} (D:282≤nt) (e:List Nd) (o:Bool) (A:List (List Nat)) (f:List Sc) (l:Bool) (c:List Nat) (d:Int) (a:List UInt8) (k:Nat) (X:k<e.length) (H:e.length<2^40) (W:A.length=e.length) (V:c.length=e.length) (N:List AV) (i:k<A.length) (x:Nd) (rA:List AV) (m:Nat) (G:Nat) (M:Nd) (Q u0:List AV) (g:Nat) (U:Nat) (R:Nd) (K u1:List AV) (C:(List.drop ((Int.toNat (k:Int))*5) (aI e))= [.int .i64 13,.bool x.neg,.str x.num,.str x.den,.str x.name]++N) (u:(List.drop ((Int.toNat (k:Int))*1) (bC A))= [.sl [.int .i64 (m:Int),.int .i64 (g:Int)] 2 false]++rA) (J:(List.drop ((0+(Int.toNat (m:Int)))*1) (jH k c))= [AV.int .i64 (G:Int)]++Q) (F:(List.drop ((Int.toNat (m:Int))*5) (aI e))=iY M++u0) (P:(List.drop ((0+(Int.toNat (g:Int)))*1) (jH k c))= [AV.int .i64 (U:Int)]++K) (O:(List.drop ((Int.toNat (g:Int))*5) (aI e))=iY R++u1) (y:m<c.length) (r:m<e.length) (B:g<c.length) (s:g<e.length) (w:Nat) (S:Bool) (I:uz e o A f l c d a 13 x.neg x.num x.den x.name k (x.name==a) w) (T:uz e o A f l c d a 13 x.neg x.num x.den x.name k (false) w) (n:CO 46 [.sl (eX f) f.length l,.str x.name] (.ret (.bool S))) (z:((w:Int)==((0:Nat):Int))=false) (p:(((13:Nat):Int)==d)=false∨(x.name==a)=false):aj prog ap [] nt (ae 0 (af f15)) (eH e o A f l d a (k,c)) .normal (eH e o A f l d a (k+1,c.set k (w))):=by
 have b:k<c.length:=by omega
 have t:k<2^62:=by omega
 have h0:(decide ((k:Int)<(e.length:Int)))=true:=decide_eq_true (by omega)
 have E:Nat.ble (((0+(Int.toNat (k:Int)))*1)+1) (List.length (ai c))=true:=by rw [Nat.ble_eq,aA];simp [ai];omega
 have j:Nat.ble (((0+(Int.toNat (k:Int)))*1)+1) (List.length (jH k c))=true:=by rw [Nat.ble_eq,show (jH k c)=ai (c.set k 3) from aX (v:=3) b,aA];simp [ai];omega
 unfold eH
 dsimp only
 rw [List.length_set]
 rcases tf (((13:Nat):Int)==d) with b1|b1
 ·have q:=I
  have L:(x.name==a)=false:=by rcases p with h|h;rw [h] at b1;cases b1;exact h
  rw [← dF b]
  exact pN 15 [2] 20 227 (.k 19 j (.c (aQ k) (.c (bK b) (.k 7 (aQ k) (.c (bK i) (.c E (.c (aQ k) (.c (bK b) (.c (aB z) (.c (aB L) (.k 1 (aC b1) (.k 7 (aQ k) (.c h0 (.c (aC h0) .nil)))))))))))))) (.v 41 (.eq (iZ t)) (.c n (.v 87 (.ppt u) (.l q (.v 44 (.ppt C) .nil))))) D
 ·have q:=T
  rw [← dF b]
  exact pN 15 [2] 20 225 (.k 19 j (.c (aQ k) (.c (bK b) (.k 7 (aQ k) (.c (bK i) (.c E (.c (aQ k) (.c (bK b) (.c (aB z) (.k 1 (aB b1) (.k 7 (aQ k) (.c h0 (.c (aC h0) .nil))))))))))))) (.v 41 (.eq (iZ t)) (.c n (.v 87 (.ppt u) (.l q (.v 44 (.ppt C) .nil))))) D
theorem al2 {nt:Nat} (D:282≤nt) (e:List Nd) (o:Bool) (A:List (List Nat)) (f:List Sc) (l:Bool) (c:List Nat) (d:Int) (a:List UInt8) (k:Nat) (X:k<e.length) (H:e.length<2^40) (W:A.length=e.length) (V:c.length=e.length) (N:List AV) (i:k<A.length) (x:Nd) (rA:List AV) (m:Nat) (G:Nat) (M:Nd) (Q u0:List AV) (g:Nat) (U:Nat) (R:Nd) (K u1:List AV) (C:(List.drop ((Int.toNat (k:Int))*5) (aI e))= [.int .i64 14,.bool x.neg,.str x.num,.str x.den,.str x.name]++N) (u:(List.drop ((Int.toNat (k:Int))*1) (bC A))= [.sl [.int .i64 (m:Int),.int .i64 (g:Int)] 2 false]++rA) (J:(List.drop ((0+(Int.toNat (m:Int)))*1) (jH k c))= [AV.int .i64 (G:Int)]++Q) (F:(List.drop ((Int.toNat (m:Int))*5) (aI e))=iY M++u0) (P:(List.drop ((0+(Int.toNat (g:Int)))*1) (jH k c))= [AV.int .i64 (U:Int)]++K) (O:(List.drop ((Int.toNat (g:Int))*5) (aI e))=iY R++u1) (y:m<c.length) (r:m<e.length) (B:g<c.length) (s:g<e.length) (w:Nat) (S:Bool) (I:uz e o A f l c d a 14 x.neg x.num x.den x.name k (x.name==a) w) (T:uz e o A f l c d a 14 x.neg x.num x.den x.name k (false) w) (n:CO 46 [.sl (eX f) f.length l,.str x.name] (.ret (.bool S))) (z:((w:Int)==((0:Nat):Int))=false) (p:(((14:Nat):Int)==d)=false∨(x.name==a)=false):aj prog ap [] nt (ae 0 (af f15)) (eH e o A f l d a (k,c)) .normal (eH e o A f l d a (k+1,c.set k (w))):=by
 have b:k<c.length:=by omega
 have t:k<2^62:=by omega
 have h0:(decide ((k:Int)<(e.length:Int)))=true:=decide_eq_true (by omega)
 have E:Nat.ble (((0+(Int.toNat (k:Int)))*1)+1) (List.length (ai c))=true:=by rw [Nat.ble_eq,aA];simp [ai];omega
 have j:Nat.ble (((0+(Int.toNat (k:Int)))*1)+1) (List.length (jH k c))=true:=by rw [Nat.ble_eq,show (jH k c)=ai (c.set k 3) from aX (v:=3) b,aA];simp [ai];omega
 unfold eH
 dsimp only
 rw [List.length_set]
 rcases tf (((14:Nat):Int)==d) with b1|b1
 ·have q:=I
  have L:(x.name==a)=false:=by rcases p with h|h;rw [h] at b1;cases b1;exact h
  rw [← dF b]
  exact pN 15 [2] 20 195 (.k 19 j (.c (aQ k) (.c (bK b) (.k 8 (aQ k) (.c (bK i) (.c E (.c (aQ k) (.c (bK b) (.c (aB z) (.c (aB L) (.k 1 (aC b1) (.k 7 (aQ k) (.c h0 (.c (aC h0) .nil)))))))))))))) (.v 41 (.eq (iZ t)) (.c n (.v 87 (.ppt u) (.l q (.v 44 (.ppt C) .nil))))) D
 ·have q:=T
  rw [← dF b]
  exact pN 15 [2] 20 193 (.k 19 j (.c (aQ k) (.c (bK b) (.k 8 (aQ k) (.c (bK i) (.c E (.c (aQ k) (.c (bK b) (.c (aB z) (.k 1 (aB b1) (.k 7 (aQ k) (.c h0 (.c (aC h0) .nil))))))))))))) (.v 41 (.eq (iZ t)) (.c n (.v 87 (.ppt u) (.l q (.v 44 (.ppt C) .nil))))) D
theorem al3 {nt:Nat} (I:282≤nt) (e:List Nd) (D:Bool) (A:List (List Nat)) (y:List Sc) (C:Bool) (d:List Nat) (u:Int) (a:List UInt8) (k:Nat) (hk:k<e.length) (R:e.length<2^40) (hA:A.length=e.length) (hS:d.length=e.length) (V:List AV) (l:k<A.length) (x:Nd) (rA:List AV) (n:Nat) (p:Nat) (U:Nd) (Y u0:List AV) (s:Nat) (i:Nat) (Z:Nd) (T u1:List AV) (t:Nat) (g:Nat) (x2:Nd) (W u2:List AV) (H:(List.drop ((Int.toNat (k:Int))*5) (aI e))= [.int .i64 15,.bool x.neg,.str x.num,.str x.den,.str x.name]++V) (F:(List.drop ((Int.toNat (k:Int))*1) (bC A))= [.sl [.int .i64 (n:Int),.int .i64 (s:Int),.int .i64 (t:Int)] 3 false]++rA) (c:(List.drop ((0+(Int.toNat (n:Int)))*1) (jH k d))= [AV.int .i64 (p:Int)]++Y) (Q:(List.drop ((Int.toNat (n:Int))*5) (aI e))=iY U++u0) (m:(List.drop ((0+(Int.toNat (s:Int)))*1) (jH k d))= [AV.int .i64 (i:Int)]++T) (X:(List.drop ((Int.toNat (s:Int))*5) (aI e))=iY Z++u1) (j:(List.drop ((0+(Int.toNat (t:Int)))*1) (jH k d))= [AV.int .i64 (g:Int)]++W) (P:(List.drop ((Int.toNat (t:Int))*5) (aI e))=iY x2++u2) (f:n<d.length) (N:n<e.length) (r:s<d.length) (O:s<e.length) (q:t<d.length) (L:t<e.length) (w:Nat) (rz:Bool) (S:uz e D A y C d u a 15 x.neg x.num x.den x.name k (x.name==a) w) (lF:uz e D A y C d u a 15 x.neg x.num x.den x.name k (false) w) (o:CO 46 [.sl (eX y) y.length C,.str x.name] (.ret (.bool rz))) (G:((w:Int)==((0:Nat):Int))=false) (K:(((15:Nat):Int)==u)=false∨(x.name==a)=false):aj prog ap [] nt (ae 0 (af f15)) (eH e D A y C u a (k,d)) .normal (eH e D A y C u a (k+1,d.set k (cond ((p:Int)==((0:Nat):Int)) (d_ i g) 3))):=by
 have b:k<d.length:=by omega
 have E:k<2^62:=by omega
 have h0:(decide ((k:Int)<(e.length:Int)))=true:=decide_eq_true (by omega)
 have J:Nat.ble (((0+(Int.toNat (k:Int)))*1)+1) (List.length (ai d))=true:=by rw [Nat.ble_eq,aA];simp [ai];omega
 have B:Nat.ble (((0+(Int.toNat (k:Int)))*1)+1) (List.length (jH k d))=true:=by rw [Nat.ble_eq,show (jH k d)=ai (d.set k 3) from aX (v:=3) b,aA];simp [ai];omega
 unfold eH
 dsimp only
 rw [List.length_set]
 rcases tf (((15:Nat):Int)==u) with b1|b1
 ·have z:=S
  have M:(x.name==a)=false:=by rcases K with h|h;rw [h] at b1;cases b1;exact h
  rcases tf ((p:Int)==((0:Nat):Int)) with d0|d0
  ·rw [show (cond ((p:Int)==((0:Nat):Int)) (d_ i g) 3)=(d_ i g) by rw [d0];rfl]
   rw [← dF b]
   exact pN 15 [2] 21 393219 (.k 4 B (.c (aQ k) (.c (bK b) (.a (gZ [.int .i64] j rfl) (.c (aQ t) (.c (bK q) (.n 3 (.a (gZ [.int .i64] m rfl) (.c (aQ s) (.c (bK r) (.k 3 (aC d0) (.a (gZ [.int .i64] c rfl) (.c (aQ n) (.c (bK f) (.k 27 (aQ k) (.c (bK l) (.c J (.c (aQ k) (.c (bK b) (.c (aB G) (.c (aB M) (.k 1 (aC b1) (.k 7 (aQ k) (.c h0 (.c (aC h0) .nil))))))))))))))))))))))))) (.v 41 (.eq (iZ E)) (.c o (.c (uy i g) (.v 259 (.rd1 (.int .i64) j rfl) (.v 253 (.rd1 (.int .i64) m rfl) (.v 243 (.rd1 (.int .i64) c rfl) (.v 87 (.ppt F) (.l z (.v 44 (.ppt H) .nil))))))))) I
  ·rw [show (cond ((p:Int)==((0:Nat):Int)) (d_ i g) 3)=3 by rw [d0];rfl]
   rw [← aX b]
   exact pN 15 [2] 21 131075 (.k 4 (aB d0) (.a (gZ [.int .i64] c rfl) (.c (aQ n) (.c (bK f) (.k 27 (aQ k) (.c (bK l) (.c J (.c (aQ k) (.c (bK b) (.c (aB G) (.c (aB M) (.k 1 (aC b1) (.k 7 (aQ k) (.c h0 (.c (aC h0) .nil))))))))))))))) (.v 41 (.eq (iZ E)) (.c o (.v 243 (.rd1 (.int .i64) c rfl) (.v 87 (.ppt F) (.l z (.v 44 (.ppt H) .nil)))))) I
 ·have z:=lF
  rcases tf ((p:Int)==((0:Nat):Int)) with d0|d0
  ·rw [show (cond ((p:Int)==((0:Nat):Int)) (d_ i g) 3)=(d_ i g) by rw [d0];rfl]
   rw [← dF b]
   exact pN 15 [2] 21 393217 (.k 4 B (.c (aQ k) (.c (bK b) (.a (gZ [.int .i64] j rfl) (.c (aQ t) (.c (bK q) (.n 3 (.a (gZ [.int .i64] m rfl) (.c (aQ s) (.c (bK r) (.k 3 (aC d0) (.a (gZ [.int .i64] c rfl) (.c (aQ n) (.c (bK f) (.k 27 (aQ k) (.c (bK l) (.c J (.c (aQ k) (.c (bK b) (.c (aB G) (.k 1 (aB b1) (.k 7 (aQ k) (.c h0 (.c (aC h0) .nil)))))))))))))))))))))))) (.v 41 (.eq (iZ E)) (.c o (.c (uy i g) (.v 259 (.rd1 (.int .i64) j rfl) (.v 253 (.rd1 (.int .i64) m rfl) (.v 243 (.rd1 (.int .i64) c rfl) (.v 87 (.ppt F) (.l z (.v 44 (.ppt H) .nil))))))))) I
  ·rw [show (cond ((p:Int)==((0:Nat):Int)) (d_ i g) 3)=3 by rw [d0];rfl]
   rw [← aX b]
   exact pN 15 [2] 21 131073 (.k 4 (aB d0) (.a (gZ [.int .i64] c rfl) (.c (aQ n) (.c (bK f) (.k 27 (aQ k) (.c (bK l) (.c J (.c (aQ k) (.c (bK b) (.c (aB G) (.k 1 (aB b1) (.k 7 (aQ k) (.c h0 (.c (aC h0) .nil)))))))))))))) (.v 41 (.eq (iZ E)) (.c o (.v 243 (.rd1 (.int .i64) c rfl) (.v 87 (.ppt F) (.l z (.v 44 (.ppt H) .nil)))))) I
theorem al4 {nt:Nat} (C:282≤nt) (e:List Nd) (n:Bool) (A:List (List Nat)) (f:List Sc) (j:Bool) (b:List Nat) (d:Int) (a:List UInt8) (k:Nat) (X:k<e.length) (G:e.length<2^40) (W:A.length=e.length) (V:b.length=e.length) (M:List AV) (i:k<A.length) (x:Nd) (rA:List AV) (l:Nat) (F:Nat) (L:Nd) (P u0:List AV) (g:Nat) (U:Nat) (Q:Nd) (J u1:List AV) (B:(List.drop ((Int.toNat (k:Int))*5) (aI e))= [.int .i64 16,.bool x.neg,.str x.num,.str x.den,.str x.name]++M) (t:(List.drop ((Int.toNat (k:Int))*1) (bC A))= [.sl [.int .i64 (l:Int),.int .i64 (g:Int)] 2 false]++rA) (I:(List.drop ((0+(Int.toNat (l:Int)))*1) (jH k b))= [AV.int .i64 (F:Int)]++P) (E:(List.drop ((Int.toNat (l:Int))*5) (aI e))=iY L++u0) (O:(List.drop ((0+(Int.toNat (g:Int)))*1) (jH k b))= [AV.int .i64 (U:Int)]++J) (N:(List.drop ((Int.toNat (g:Int))*5) (aI e))=iY Q++u1) (u:l<b.length) (q:l<e.length) (z:g<b.length) (r:g<e.length) (w:Nat) (R:Bool) (H:uz e n A f j b d a 16 x.neg x.num x.den x.name k (x.name==a) w) (S:uz e n A f j b d a 16 x.neg x.num x.den x.name k (false) w) (m:CO 46 [.sl (eX f) f.length j,.str x.name] (.ret (.bool R))) (y:((w:Int)==((0:Nat):Int))=false) (o:(((16:Nat):Int)==d)=false∨(x.name==a)=false):aj prog ap [] nt (ae 0 (af f15)) (eH e n A f j d a (k,b)) .normal (eH e n A f j d a (k+1,b.set k (3))):=by
 have c:k<b.length:=by omega
 have s:k<2^62:=by omega
 have h0:(decide ((k:Int)<(e.length:Int)))=true:=decide_eq_true (by omega)
 have D:Nat.ble (((0+(Int.toNat (k:Int)))*1)+1) (List.length (ai b))=true:=by rw [Nat.ble_eq,aA];simp [ai];omega
 have T:Nat.ble (((0+(Int.toNat (k:Int)))*1)+1) (List.length (jH k b))=true:=by rw [Nat.ble_eq,show (jH k b)=ai (b.set k 3) from aX (v:=3) c,aA];simp [ai];omega
 unfold eH
 dsimp only
 rw [List.length_set]
 rcases tf (((16:Nat):Int)==d) with b1|b1
 ·have p:=H
  have K:(x.name==a)=false:=by rcases o with h|h;rw [h] at b1;cases b1;exact h
  rw [← aX c]
  exact pN 15 [2] 21 3 (.k 29 (aQ k) (.c (bK i) (.c D (.c (aQ k) (.c (bK c) (.c (aB y) (.c (aB K) (.k 1 (aC b1) (.k 7 (aQ k) (.c h0 (.c (aC h0) .nil))))))))))) (.v 41 (.eq (iZ s)) (.c m (.v 87 (.ppt t) (.l p (.v 44 (.ppt B) .nil))))) C
 ·have p:=S
  rw [← aX c]
  exact pN 15 [2] 21 1 (.k 29 (aQ k) (.c (bK i) (.c D (.c (aQ k) (.c (bK c) (.c (aB y) (.k 1 (aB b1) (.k 7 (aQ k) (.c h0 (.c (aC h0) .nil)))))))))) (.v 41 (.eq (iZ s)) (.c m (.v 87 (.ppt t) (.l p (.v 44 (.ppt B) .nil))))) C
theorem al5 {nt:Nat} (C:282≤nt) (e:List Nd) (n:Bool) (A:List (List Nat)) (f:List Sc) (j:Bool) (b:List Nat) (d:Int) (a:List UInt8) (k:Nat) (X:k<e.length) (G:e.length<2^40) (W:A.length=e.length) (V:b.length=e.length) (M:List AV) (i:k<A.length) (x:Nd) (rA:List AV) (l:Nat) (F:Nat) (L:Nd) (P u0:List AV) (g:Nat) (U:Nat) (Q:Nd) (J u1:List AV) (B:(List.drop ((Int.toNat (k:Int))*5) (aI e))= [.int .i64 17,.bool x.neg,.str x.num,.str x.den,.str x.name]++M) (t:(List.drop ((Int.toNat (k:Int))*1) (bC A))= [.sl [.int .i64 (l:Int),.int .i64 (g:Int)] 2 false]++rA) (I:(List.drop ((0+(Int.toNat (l:Int)))*1) (jH k b))= [AV.int .i64 (F:Int)]++P) (E:(List.drop ((Int.toNat (l:Int))*5) (aI e))=iY L++u0) (O:(List.drop ((0+(Int.toNat (g:Int)))*1) (jH k b))= [AV.int .i64 (U:Int)]++J) (N:(List.drop ((Int.toNat (g:Int))*5) (aI e))=iY Q++u1) (u:l<b.length) (q:l<e.length) (z:g<b.length) (r:g<e.length) (w:Nat) (R:Bool) (H:uz e n A f j b d a 17 x.neg x.num x.den x.name k (x.name==a) w) (S:uz e n A f j b d a 17 x.neg x.num x.den x.name k (false) w) (m:CO 46 [.sl (eX f) f.length j,.str x.name] (.ret (.bool R))) (y:((w:Int)==((0:Nat):Int))=false) (o:(((17:Nat):Int)==d)=false∨(x.name==a)=false):aj prog ap [] nt (ae 0 (af f15)) (eH e n A f j d a (k,b)) .normal (eH e n A f j d a (k+1,b.set k (3))):=by
 have c:k<b.length:=by omega
 have s:k<2^62:=by omega
 have h0:(decide ((k:Int)<(e.length:Int)))=true:=decide_eq_true (by omega)
 have D:Nat.ble (((0+(Int.toNat (k:Int)))*1)+1) (List.length (ai b))=true:=by rw [Nat.ble_eq,aA];simp [ai];omega
 have T:Nat.ble (((0+(Int.toNat (k:Int)))*1)+1) (List.length (jH k b))=true:=by rw [Nat.ble_eq,show (jH k b)=ai (b.set k 3) from aX (v:=3) c,aA];simp [ai];omega
 unfold eH
 dsimp only
 rw [List.length_set]
 rcases tf (((17:Nat):Int)==d) with b1|b1
 ·have p:=H
  have K:(x.name==a)=false:=by rcases o with h|h;rw [h] at b1;cases b1;exact h
  rw [← aX c]
  exact pN 15 [2] 21 3 (.k 29 (aQ k) (.c (bK i) (.c D (.c (aQ k) (.c (bK c) (.c (aB y) (.c (aB K) (.k 1 (aC b1) (.k 7 (aQ k) (.c h0 (.c (aC h0) .nil))))))))))) (.v 41 (.eq (iZ s)) (.c m (.v 87 (.ppt t) (.l p (.v 44 (.ppt B) .nil))))) C
 ·have p:=S
  rw [← aX c]
  exact pN 15 [2] 21 1 (.k 29 (aQ k) (.c (bK i) (.c D (.c (aQ k) (.c (bK c) (.c (aB y) (.k 1 (aB b1) (.k 7 (aQ k) (.c h0 (.c (aC h0) .nil)))))))))) (.v 41 (.eq (iZ s)) (.c m (.v 87 (.ppt t) (.l p (.v 44 (.ppt B) .nil))))) C
theorem al6 {nt:Nat} (C:282≤nt) (e:List Nd) (n:Bool) (A:List (List Nat)) (f:List Sc) (j:Bool) (b:List Nat) (d:Int) (a:List UInt8) (k:Nat) (X:k<e.length) (G:e.length<2^40) (W:A.length=e.length) (V:b.length=e.length) (M:List AV) (i:k<A.length) (x:Nd) (rA:List AV) (l:Nat) (F:Nat) (L:Nd) (P u0:List AV) (g:Nat) (U:Nat) (Q:Nd) (J u1:List AV) (B:(List.drop ((Int.toNat (k:Int))*5) (aI e))= [.int .i64 18,.bool x.neg,.str x.num,.str x.den,.str x.name]++M) (t:(List.drop ((Int.toNat (k:Int))*1) (bC A))= [.sl [.int .i64 (l:Int),.int .i64 (g:Int)] 2 false]++rA) (I:(List.drop ((0+(Int.toNat (l:Int)))*1) (jH k b))= [AV.int .i64 (F:Int)]++P) (E:(List.drop ((Int.toNat (l:Int))*5) (aI e))=iY L++u0) (O:(List.drop ((0+(Int.toNat (g:Int)))*1) (jH k b))= [AV.int .i64 (U:Int)]++J) (N:(List.drop ((Int.toNat (g:Int))*5) (aI e))=iY Q++u1) (u:l<b.length) (q:l<e.length) (z:g<b.length) (r:g<e.length) (w:Nat) (R:Bool) (H:uz e n A f j b d a 18 x.neg x.num x.den x.name k (x.name==a) w) (S:uz e n A f j b d a 18 x.neg x.num x.den x.name k (false) w) (m:CO 46 [.sl (eX f) f.length j,.str x.name] (.ret (.bool R))) (y:((w:Int)==((0:Nat):Int))=false) (o:(((18:Nat):Int)==d)=false∨(x.name==a)=false):aj prog ap [] nt (ae 0 (af f15)) (eH e n A f j d a (k,b)) .normal (eH e n A f j d a (k+1,b.set k (3))):=by
 have c:k<b.length:=by omega
 have s:k<2^62:=by omega
 have h0:(decide ((k:Int)<(e.length:Int)))=true:=decide_eq_true (by omega)
 have D:Nat.ble (((0+(Int.toNat (k:Int)))*1)+1) (List.length (ai b))=true:=by rw [Nat.ble_eq,aA];simp [ai];omega
 have T:Nat.ble (((0+(Int.toNat (k:Int)))*1)+1) (List.length (jH k b))=true:=by rw [Nat.ble_eq,show (jH k b)=ai (b.set k 3) from aX (v:=3) c,aA];simp [ai];omega
 unfold eH
 dsimp only
 rw [List.length_set]
 rcases tf (((18:Nat):Int)==d) with b1|b1
 ·have p:=H
  have K:(x.name==a)=false:=by rcases o with h|h;rw [h] at b1;cases b1;exact h
  rw [← aX c]
  exact pN 15 [2] 21 3 (.k 29 (aQ k) (.c (bK i) (.c D (.c (aQ k) (.c (bK c) (.c (aB y) (.c (aB K) (.k 1 (aC b1) (.k 7 (aQ k) (.c h0 (.c (aC h0) .nil))))))))))) (.v 41 (.eq (iZ s)) (.c m (.v 87 (.ppt t) (.l p (.v 44 (.ppt B) .nil))))) C
 ·have p:=S
  rw [← aX c]
  exact pN 15 [2] 21 1 (.k 29 (aQ k) (.c (bK i) (.c D (.c (aQ k) (.c (bK c) (.c (aB y) (.k 1 (aB b1) (.k 7 (aQ k) (.c h0 (.c (aC h0) .nil)))))))))) (.v 41 (.eq (iZ s)) (.c m (.v 87 (.ppt t) (.l p (.v 44 (.ppt B) .nil))))) C
theorem al7 {nt:Nat} (C:282≤nt) (e:List Nd) (n:Bool) (A:List (List Nat)) (f:List Sc) (j:Bool) (b:List Nat) (d:Int) (a:List UInt8) (k:Nat) (X:k<e.length) (G:e.length<2^40) (W:A.length=e.length) (V:b.length=e.length) (M:List AV) (i:k<A.length) (x:Nd) (rA:List AV) (l:Nat) (F:Nat) (L:Nd) (P u0:List AV) (g:Nat) (U:Nat) (Q:Nd) (J u1:List AV) (B:(List.drop ((Int.toNat (k:Int))*5) (aI e))= [.int .i64 19,.bool x.neg,.str x.num,.str x.den,.str x.name]++M) (t:(List.drop ((Int.toNat (k:Int))*1) (bC A))= [.sl [.int .i64 (l:Int),.int .i64 (g:Int)] 2 false]++rA) (I:(List.drop ((0+(Int.toNat (l:Int)))*1) (jH k b))= [AV.int .i64 (F:Int)]++P) (E:(List.drop ((Int.toNat (l:Int))*5) (aI e))=iY L++u0) (O:(List.drop ((0+(Int.toNat (g:Int)))*1) (jH k b))= [AV.int .i64 (U:Int)]++J) (N:(List.drop ((Int.toNat (g:Int))*5) (aI e))=iY Q++u1) (u:l<b.length) (q:l<e.length) (z:g<b.length) (r:g<e.length) (w:Nat) (R:Bool) (H:uz e n A f j b d a 19 x.neg x.num x.den x.name k (x.name==a) w) (S:uz e n A f j b d a 19 x.neg x.num x.den x.name k (false) w) (m:CO 46 [.sl (eX f) f.length j,.str x.name] (.ret (.bool R))) (y:((w:Int)==((0:Nat):Int))=false) (o:(((19:Nat):Int)==d)=false∨(x.name==a)=false):aj prog ap [] nt (ae 0 (af f15)) (eH e n A f j d a (k,b)) .normal (eH e n A f j d a (k+1,b.set k (3))):=by
 have c:k<b.length:=by omega
 have s:k<2^62:=by omega
 have h0:(decide ((k:Int)<(e.length:Int)))=true:=decide_eq_true (by omega)
 have D:Nat.ble (((0+(Int.toNat (k:Int)))*1)+1) (List.length (ai b))=true:=by rw [Nat.ble_eq,aA];simp [ai];omega
 have T:Nat.ble (((0+(Int.toNat (k:Int)))*1)+1) (List.length (jH k b))=true:=by rw [Nat.ble_eq,show (jH k b)=ai (b.set k 3) from aX (v:=3) c,aA];simp [ai];omega
 unfold eH
 dsimp only
 rw [List.length_set]
 rcases tf (((19:Nat):Int)==d) with b1|b1
 ·have p:=H
  have K:(x.name==a)=false:=by rcases o with h|h;rw [h] at b1;cases b1;exact h
  rw [← aX c]
  exact pN 15 [2] 21 3 (.k 29 (aQ k) (.c (bK i) (.c D (.c (aQ k) (.c (bK c) (.c (aB y) (.c (aB K) (.k 1 (aC b1) (.k 7 (aQ k) (.c h0 (.c (aC h0) .nil))))))))))) (.v 41 (.eq (iZ s)) (.c m (.v 87 (.ppt t) (.l p (.v 44 (.ppt B) .nil))))) C
 ·have p:=S
  rw [← aX c]
  exact pN 15 [2] 21 1 (.k 29 (aQ k) (.c (bK i) (.c D (.c (aQ k) (.c (bK c) (.c (aB y) (.k 1 (aB b1) (.k 7 (aQ k) (.c h0 (.c (aC h0) .nil)))))))))) (.v 41 (.eq (iZ s)) (.c m (.v 87 (.ppt t) (.l p (.v 44 (.ppt B) .nil))))) C
theorem al8 {nt:Nat} (y:282≤nt) (e:List Nd) (m:Bool) (A:List (List Nat)) (f:List Sc) (i:Bool) (b:List Nat) (d:Int) (a:List UInt8) (k:Nat) (P:k<e.length) (D:e.length<2^40) (O:A.length=e.length) (N:b.length=e.length) (I:List AV) (g:k<A.length) (x:Nd) (rA:List AV) (j:Nat) (C:Nat) (H:Nd) (J u0:List AV) (u:(List.drop ((Int.toNat (k:Int))*5) (aI e))= [.int .i64 20,.bool x.neg,.str x.num,.str x.den,.str x.name]++I) (r:(List.drop ((Int.toNat (k:Int))*1) (bC A))= [.sl [.int .i64 (j:Int)] 1 false]++rA) (F:(List.drop ((0+(Int.toNat (j:Int)))*1) (jH k b))= [AV.int .i64 (C:Int)]++J) (B:(List.drop ((Int.toNat (j:Int))*5) (aI e))=iY H++u0) (s:j<b.length) (p:j<e.length) (w:Nat) (K:Bool) (E:uz e m A f i b d a 20 x.neg x.num x.den x.name k (x.name==a) w) (L:uz e m A f i b d a 20 x.neg x.num x.den x.name k (false) w) (l:CO 46 [.sl (eX f) f.length i,.str x.name] (.ret (.bool K))) (t:((w:Int)==((0:Nat):Int))=false) (n:(((20:Nat):Int)==d)=false∨(x.name==a)=false):aj prog ap [] nt (ae 0 (af f15)) (eH e m A f i d a (k,b)) .normal (eH e m A f i d a (k+1,b.set k (3))):=by
 have c:k<b.length:=by omega
 have q:k<2^62:=by omega
 have h0:(decide ((k:Int)<(e.length:Int)))=true:=decide_eq_true (by omega)
 have z:Nat.ble (((0+(Int.toNat (k:Int)))*1)+1) (List.length (ai b))=true:=by rw [Nat.ble_eq,aA];simp [ai];omega
 have M:Nat.ble (((0+(Int.toNat (k:Int)))*1)+1) (List.length (jH k b))=true:=by rw [Nat.ble_eq,show (jH k b)=ai (b.set k 3) from aX (v:=3) c,aA];simp [ai];omega
 unfold eH
 dsimp only
 rw [List.length_set]
 rcases tf (((20:Nat):Int)==d) with b1|b1
 ·have o:=E
  have G:(x.name==a)=false:=by rcases n with h|h;rw [h] at b1;cases b1;exact h
  rw [← aX c]
  exact pN 15 [2] 21 3 (.k 29 (aQ k) (.c (bK g) (.c z (.c (aQ k) (.c (bK c) (.c (aB t) (.c (aB G) (.k 1 (aC b1) (.k 7 (aQ k) (.c h0 (.c (aC h0) .nil))))))))))) (.v 41 (.eq (iZ q)) (.c l (.v 87 (.ppt r) (.l o (.v 44 (.ppt u) .nil))))) y
 ·have o:=L
  rw [← aX c]
  exact pN 15 [2] 21 1 (.k 29 (aQ k) (.c (bK g) (.c z (.c (aQ k) (.c (bK c) (.c (aB t) (.k 1 (aB b1) (.k 7 (aQ k) (.c h0 (.c (aC h0) .nil)))))))))) (.v 41 (.eq (iZ q)) (.c l (.v 87 (.ppt r) (.l o (.v 44 (.ppt u) .nil))))) y
theorem al9 {nt:Nat} (z:282≤nt) (e:List Nd) (n:Bool) (A:List (List Nat)) (f:List Sc) (j:Bool) (c:List Nat) (d:Int) (a:List UInt8) (k:Nat) (P:k<e.length) (E:e.length<2^40) (O:A.length=e.length) (N:c.length=e.length) (J:List AV) (g:k<A.length) (x:Nd) (rA:List AV) (l:Nat) (D:Nat) (I:Nd) (K u0:List AV) (y:(List.drop ((Int.toNat (k:Int))*5) (aI e))= [.int .i64 21,.bool x.neg,.str x.num,.str x.den,.str x.name]++J) (s:(List.drop ((Int.toNat (k:Int))*1) (bC A))= [.sl [.int .i64 (l:Int)] 1 false]++rA) (G:(List.drop ((0+(Int.toNat (l:Int)))*1) (jH k c))= [AV.int .i64 (D:Int)]++K) (C:(List.drop ((Int.toNat (l:Int))*5) (aI e))=iY I++u0) (t:l<c.length) (q:l<e.length) (w:Nat) (L:Bool) (F:uz e n A f j c d a 21 x.neg x.num x.den x.name k (x.name==a) w) (M:uz e n A f j c d a 21 x.neg x.num x.den x.name k (false) w) (m:CO 46 [.sl (eX f) f.length j,.str x.name] (.ret (.bool L))) (u:((w:Int)==((0:Nat):Int))=false) (o:(((21:Nat):Int)==d)=false∨(x.name==a)=false):aj prog ap [] nt (ae 0 (af f15)) (eH e n A f j d a (k,c)) .normal (eH e n A f j d a (k+1,c.set k (w))):=by
 have b:k<c.length:=by omega
 have r:k<2^62:=by omega
 have h0:(decide ((k:Int)<(e.length:Int)))=true:=decide_eq_true (by omega)
 have B:Nat.ble (((0+(Int.toNat (k:Int)))*1)+1) (List.length (ai c))=true:=by rw [Nat.ble_eq,aA];simp [ai];omega
 have i:Nat.ble (((0+(Int.toNat (k:Int)))*1)+1) (List.length (jH k c))=true:=by rw [Nat.ble_eq,show (jH k c)=ai (c.set k 3) from aX (v:=3) b,aA];simp [ai];omega
 unfold eH
 dsimp only
 rw [List.length_set]
 rcases tf (((21:Nat):Int)==d) with b1|b1
 ·have p:=F
  have H:(x.name==a)=false:=by rcases o with h|h;rw [h] at b1;cases b1;exact h
  rw [← dF b]
  exact pN 15 [2] 21 387 (.k 19 i (.c (aQ k) (.c (bK b) (.k 11 (aQ k) (.c (bK g) (.c B (.c (aQ k) (.c (bK b) (.c (aB u) (.c (aB H) (.k 1 (aC b1) (.k 7 (aQ k) (.c h0 (.c (aC h0) .nil)))))))))))))) (.v 41 (.eq (iZ r)) (.c m (.v 87 (.ppt s) (.l p (.v 44 (.ppt y) .nil))))) z
 ·have p:=M
  rw [← dF b]
  exact pN 15 [2] 21 385 (.k 19 i (.c (aQ k) (.c (bK b) (.k 11 (aQ k) (.c (bK g) (.c B (.c (aQ k) (.c (bK b) (.c (aB u) (.k 1 (aB b1) (.k 7 (aQ k) (.c h0 (.c (aC h0) .nil))))))))))))) (.v 41 (.eq (iZ r)) (.c m (.v 87 (.ppt s) (.l p (.v 44 (.ppt y) .nil))))) z
theorem al_ {nt:Nat} (z:282≤nt) (e:List Nd) (n:Bool) (A:List (List Nat)) (f:List Sc) (j:Bool) (c:List Nat) (d:Int) (a:List UInt8) (k:Nat) (P:k<e.length) (E:e.length<2^40) (O:A.length=e.length) (N:c.length=e.length) (J:List AV) (g:k<A.length) (x:Nd) (rA:List AV) (l:Nat) (D:Nat) (I:Nd) (K u0:List AV) (y:(List.drop ((Int.toNat (k:Int))*5) (aI e))= [.int .i64 22,.bool x.neg,.str x.num,.str x.den,.str x.name]++J) (s:(List.drop ((Int.toNat (k:Int))*1) (bC A))= [.sl [.int .i64 (l:Int)] 1 false]++rA) (G:(List.drop ((0+(Int.toNat (l:Int)))*1) (jH k c))= [AV.int .i64 (D:Int)]++K) (C:(List.drop ((Int.toNat (l:Int))*5) (aI e))=iY I++u0) (t:l<c.length) (q:l<e.length) (w:Nat) (L:Bool) (F:uz e n A f j c d a 22 x.neg x.num x.den x.name k (x.name==a) w) (M:uz e n A f j c d a 22 x.neg x.num x.den x.name k (false) w) (m:CO 46 [.sl (eX f) f.length j,.str x.name] (.ret (.bool L))) (u:((w:Int)==((0:Nat):Int))=false) (o:(((22:Nat):Int)==d)=false∨(x.name==a)=false):aj prog ap [] nt (ae 0 (af f15)) (eH e n A f j d a (k,c)) .normal (eH e n A f j d a (k+1,c.set k (w))):=by
 have b:k<c.length:=by omega
 have r:k<2^62:=by omega
 have h0:(decide ((k:Int)<(e.length:Int)))=true:=decide_eq_true (by omega)
 have B:Nat.ble (((0+(Int.toNat (k:Int)))*1)+1) (List.length (ai c))=true:=by rw [Nat.ble_eq,aA];simp [ai];omega
 have i:Nat.ble (((0+(Int.toNat (k:Int)))*1)+1) (List.length (jH k c))=true:=by rw [Nat.ble_eq,show (jH k c)=ai (c.set k 3) from aX (v:=3) b,aA];simp [ai];omega
 unfold eH
 dsimp only
 rw [List.length_set]
 rcases tf (((22:Nat):Int)==d) with b1|b1
 ·have p:=F
  have H:(x.name==a)=false:=by rcases o with h|h;rw [h] at b1;cases b1;exact h
  rw [← dF b]
  exact pN 15 [2] 21 387 (.k 19 i (.c (aQ k) (.c (bK b) (.k 11 (aQ k) (.c (bK g) (.c B (.c (aQ k) (.c (bK b) (.c (aB u) (.c (aB H) (.k 1 (aC b1) (.k 7 (aQ k) (.c h0 (.c (aC h0) .nil)))))))))))))) (.v 41 (.eq (iZ r)) (.c m (.v 87 (.ppt s) (.l p (.v 44 (.ppt y) .nil))))) z
 ·have p:=M
  rw [← dF b]
  exact pN 15 [2] 21 385 (.k 19 i (.c (aQ k) (.c (bK b) (.k 11 (aQ k) (.c (bK g) (.c B (.c (aQ k) (.c (bK b) (.c (aB u) (.k 1 (aB b1) (.k 7 (aQ k) (.c h0 (.c (aC h0) .nil))))))))))))) (.v 41 (.eq (iZ r)) (.c m (.v 87 (.ppt s) (.l p (.v 44 (.ppt y) .nil))))) z
theorem ama {nt:Nat} (z:282≤nt) (e:List Nd) (n:Bool) (A:List (List Nat)) (f:List Sc) (j:Bool) (c:List Nat) (d:Int) (a:List UInt8) (k:Nat) (P:k<e.length) (E:e.length<2^40) (O:A.length=e.length) (N:c.length=e.length) (J:List AV) (g:k<A.length) (x:Nd) (rA:List AV) (l:Nat) (D:Nat) (I:Nd) (K u0:List AV) (y:(List.drop ((Int.toNat (k:Int))*5) (aI e))= [.int .i64 23,.bool x.neg,.str x.num,.str x.den,.str x.name]++J) (s:(List.drop ((Int.toNat (k:Int))*1) (bC A))= [.sl [.int .i64 (l:Int)] 1 false]++rA) (G:(List.drop ((0+(Int.toNat (l:Int)))*1) (jH k c))= [AV.int .i64 (D:Int)]++K) (C:(List.drop ((Int.toNat (l:Int))*5) (aI e))=iY I++u0) (t:l<c.length) (q:l<e.length) (w:Nat) (L:Bool) (F:uz e n A f j c d a 23 x.neg x.num x.den x.name k (x.name==a) w) (M:uz e n A f j c d a 23 x.neg x.num x.den x.name k (false) w) (m:CO 46 [.sl (eX f) f.length j,.str x.name] (.ret (.bool L))) (u:((w:Int)==((0:Nat):Int))=false) (o:(((23:Nat):Int)==d)=false∨(x.name==a)=false):aj prog ap [] nt (ae 0 (af f15)) (eH e n A f j d a (k,c)) .normal (eH e n A f j d a (k+1,c.set k (w))):=by
 have b:k<c.length:=by omega
 have r:k<2^62:=by omega
 have h0:(decide ((k:Int)<(e.length:Int)))=true:=decide_eq_true (by omega)
 have B:Nat.ble (((0+(Int.toNat (k:Int)))*1)+1) (List.length (ai c))=true:=by rw [Nat.ble_eq,aA];simp [ai];omega
 have i:Nat.ble (((0+(Int.toNat (k:Int)))*1)+1) (List.length (jH k c))=true:=by rw [Nat.ble_eq,show (jH k c)=ai (c.set k 3) from aX (v:=3) b,aA];simp [ai];omega
 unfold eH
 dsimp only
 rw [List.length_set]
 rcases tf (((23:Nat):Int)==d) with b1|b1
 ·have p:=F
  have H:(x.name==a)=false:=by rcases o with h|h;rw [h] at b1;cases b1;exact h
  rw [← dF b]
  exact pN 15 [2] 21 387 (.k 19 i (.c (aQ k) (.c (bK b) (.k 11 (aQ k) (.c (bK g) (.c B (.c (aQ k) (.c (bK b) (.c (aB u) (.c (aB H) (.k 1 (aC b1) (.k 7 (aQ k) (.c h0 (.c (aC h0) .nil)))))))))))))) (.v 41 (.eq (iZ r)) (.c m (.v 87 (.ppt s) (.l p (.v 44 (.ppt y) .nil))))) z
 ·have p:=M
  rw [← dF b]
  exact pN 15 [2] 21 385 (.k 19 i (.c (aQ k) (.c (bK b) (.k 11 (aQ k) (.c (bK g) (.c B (.c (aQ k) (.c (bK b) (.c (aB u) (.k 1 (aB b1) (.k 7 (aQ k) (.c h0 (.c (aC h0) .nil))))))))))))) (.v 41 (.eq (iZ r)) (.c m (.v 87 (.ppt s) (.l p (.v 44 (.ppt y) .nil))))) z
theorem amb {nt:Nat} (u:282≤nt) (e:List Nd) (p:Bool) (A:List (List Nat)) (j:List Sc) (n:Bool) (c:List Nat) (i:Int) (b:List UInt8) (k:Nat) (P:k<e.length) (G:e.length<2^40) (O:A.length=e.length) (N:c.length=e.length) (K:List AV) (d:k<A.length) (x:Nd) (rA:List AV) (o:Nat) (F:Nat) (J:Nd) (L u0:List AV) (t:(List.drop ((Int.toNat (k:Int))*5) (aI e))= [.int .i64 24,.bool x.neg,.str x.num,.str x.den,.str x.name]++K) (r:(List.drop ((Int.toNat (k:Int))*1) (bC A))= [.sl [.int .i64 (o:Int)] 1 false]++rA) (I:(List.drop ((0+(Int.toNat (o:Int)))*1) (jH k c))= [AV.int .i64 (F:Int)]++L) (E:(List.drop ((Int.toNat (o:Int))*5) (aI e))=iY J++u0) (D:o<c.length) (C:o<e.length) (w:Nat) (g:Bool) (H:uz e p A j n c i b 24 x.neg x.num x.den x.name k (x.name==b) w) (M:uz e p A j n c i b 24 x.neg x.num x.den x.name k (false) w) (f:CO 46 [.sl (eX j) j.length n,.str x.name] (.ret (.bool g))) (s:((w:Int)==((0:Nat):Int))=false) (z:(((24:Nat):Int)==i)=false∨(x.name==b)=false):aj prog ap [] nt (ae 0 (af f15)) (eH e p A j n i b (k,c)) .normal (eH e p A j n i b (k+1,c.set k (cond g w 3))):=by
 have a:k<c.length:=by omega
 have q:k<2^62:=by omega
 have h0:(decide ((k:Int)<(e.length:Int)))=true:=decide_eq_true (by omega)
 have y:Nat.ble (((0+(Int.toNat (k:Int)))*1)+1) (List.length (ai c))=true:=by rw [Nat.ble_eq,aA];simp [ai];omega
 have m:Nat.ble (((0+(Int.toNat (k:Int)))*1)+1) (List.length (jH k c))=true:=by rw [Nat.ble_eq,show (jH k c)=ai (c.set k 3) from aX (v:=3) a,aA];simp [ai];omega
 unfold eH
 dsimp only
 rw [List.length_set]
 rcases tf (((24:Nat):Int)==i) with b1|b1
 ·have l:=H
  have B:(x.name==b)=false:=by rcases z with h|h;rw [h] at b1;cases b1;exact h
  rcases tf g with d0|d0
  ·rw [show (cond g w 3)=w by rw [d0];rfl]
   rw [← dF a]
   exact pN 15 [2] 21 1572995 (.c m (.c (aQ k) (.c (bK a) (.c (aC d0) (.k 29 (aQ k) (.c (bK d) (.c y (.c (aQ k) (.c (bK a) (.c (aB s) (.c (aB B) (.k 1 (aC b1) (.k 7 (aQ k) (.c h0 (.c (aC h0) .nil))))))))))))))) (.v 41 (.eq (iZ q)) (.c f (.v 87 (.ppt r) (.l l (.v 44 (.ppt t) .nil))))) u
  ·rw [show (cond g w 3)=3 by rw [d0];rfl]
   rw [← aX a]
   exact pN 15 [2] 21 524419 (.c (aB d0) (.k 29 (aQ k) (.c (bK d) (.c y (.c (aQ k) (.c (bK a) (.c (aB s) (.c (aB B) (.k 1 (aC b1) (.k 7 (aQ k) (.c h0 (.c (aC h0) .nil)))))))))))) (.v 41 (.eq (iZ q)) (.c f (.v 87 (.ppt r) (.l l (.v 44 (.ppt t) .nil))))) u
 ·have l:=M
  rcases tf g with d0|d0
  ·rw [show (cond g w 3)=w by rw [d0];rfl]
   rw [← dF a]
   exact pN 15 [2] 21 1572993 (.c m (.c (aQ k) (.c (bK a) (.c (aC d0) (.k 29 (aQ k) (.c (bK d) (.c y (.c (aQ k) (.c (bK a) (.c (aB s) (.k 1 (aB b1) (.k 7 (aQ k) (.c h0 (.c (aC h0) .nil)))))))))))))) (.v 41 (.eq (iZ q)) (.c f (.v 87 (.ppt r) (.l l (.v 44 (.ppt t) .nil))))) u
  ·rw [show (cond g w 3)=3 by rw [d0];rfl]
   rw [← aX a]
   exact pN 15 [2] 21 524417 (.c (aB d0) (.k 29 (aQ k) (.c (bK d) (.c y (.c (aQ k) (.c (bK a) (.c (aB s) (.k 1 (aB b1) (.k 7 (aQ k) (.c h0 (.c (aC h0) .nil))))))))))) (.v 41 (.eq (iZ q)) (.c f (.v 87 (.ppt r) (.l l (.v 44 (.ppt t) .nil))))) u
theorem pg {l:List Nat} (h:l.length=2):∃ a b,l= [a,b]:=match l,h with| [a,b],_=> ⟨a,b,rfl⟩
theorem BX {l:List Nat} (h:l.length=1):∃ a,l= [a]:=match l,h with| [a],_=> ⟨a,rfl⟩
theorem aaT {l:List Nat} (h:l.length=3):∃ a b c,l= [a,b,c]:=match l,h with| [a,b,c],_=> ⟨a,b,c,rfl⟩
theorem Q8 {a:List Nat} {k:Nat} (h:a.getD k 0=0):a.set k 0=a:=by
 by_cases hk:k<a.length
 ·rw [qW hk] at h
  conv=>lhs;rw [← h]
  exact List.set_getElem_self hk
 ·exact List.set_eq_of_length_le (by omega)
theorem t_ {a:List Nat} {k j v:Nat} (h:j ≠ k):(a.set k v).getD j 0=a.getD j 0:=by
 rw [List.getD_eq_getElem?_getD,List.getD_eq_getElem?_getD,List.getElem?_set_ne (Ne.symm h)]
theorem acj {a:List Nat} {k j:Nat} (b:k<a.length) (c:j<k):List.drop ((0+(Int.toNat (j:Int)))*1) (List.take ((0+(Int.toNat (k:Int)))*1) (ai a)++ [.int .i64 3]++List.drop (((0+(Int.toNat (k:Int)))*1)+1) (ai a))= [AV.int .i64 ((a.getD j 0:Nat):Int)]++ai ((a.set k 3).drop (j+1)):=by
 rw [show (List.take ((0+(Int.toNat (k:Int)))*1) (ai a)++ [.int .i64 3]++List.drop (((0+(Int.toNat (k:Int)))*1)+1) (ai a))=ai (a.set k 3) from aX (v:=3) b,Nat.zero_add,kE (by rw [List.length_set];omega),t_ (by omega)]
theorem YR {nt:Nat} (N:282≤nt) (e:List Nd) (H:Bool) (q:List Sc) (G:Bool) (d:List Nat) (ck:Sc→Int) (I:Sc→Bool) (E:Int) (i:List UInt8) (k:Nat) (x:Nd) (W:∀ y ∈ e,y.sm) (hq:dG e=0) (hx:e[k]? =some x) (r:e.length<2^40) (K:d.length=e.length) (Z:q.length<2^40) (hz:d.getD k 0=0) (P:∀ j,j<k→fF (e.getD j jc).op=true→d.getD j 0=0) (hc:∀ x ∈ q,CO 71 [.agg (xg x)] (.ret (.int .i64 (ck x)))∧(ck x=0→CO 72 [.agg (xg x)] (.ret (.bool (I x))))):
  aj prog ap [] nt (ae 0 (af f15)) (eH e H (bQ e) q G E i (k,d)) .normal (eH e H (bQ e) q G E i (k+1,d.set k (yE ck I e (bQ e) q E i d k x))):=by
 obtain ⟨L,hsp⟩:=m_ hq
 obtain ⟨s,l⟩:=hsp k x hx
 obtain ⟨J,hxe⟩:=List.getElem?_eq_some_iff.1 hx
 have V:e.getD k jc=x:=by rw [List.getD_eq_getElem?_getD,hx];rfl
 generalize hAA:bQ e=A at*
 have t:k<A.length:=by omega
 have hks:k<d.length:=by omega
 have m:∀ j ∈ A.getD k [],j<d.length:=fun j R=>by have:=l j R;omega
 have U:(A.getD k []).length<2^40:=by rw [s];unfold dL;split<;>(try split)<;>(try split)<;>omega
 have M:(List.drop ((Int.toNat (k:Int))*5) (aI e))=iY x++aI (e.drop (k+1)):=by rw [um J,V]
 have u:=fun b=>acJ e H A q G d E i x.op x.neg x.num x.den x.name k b t U m
 unfold yE
 by_cases hit:(x.op==E && x.name==i)=true
 ·rw [hit]
  rw [Bool.and_eq_true] at hit
  exact at7 N e H A q G d E i k J r L K _ x M hit.1 hit.2
 ·rw [Bool.not_eq_true] at hit
  rw [hit]
  have p:(x.op==E)=false∨(x.name==i)=false:=Bool.and_eq_false_iff.1 hit
  rcases tf ((((eF A d k):Nat):Int)==((0:Nat):Int)) with b3|b3
  ·rw [b3]
   dsimp only [cond]
   rw [Q8 hz]
   rcases tf (x.op==E) with b1|b1
   ·have b2:(x.name==i)=false:=by rcases p with h|h;rw [h] at b1;cases b1;exact h
    exact aua N e H A q G d E i k J r L K _ x M _ (u _) b1 b2 b3
   ·exact aub N e H A q G d E i k J r L K _ x M _ (u _) b1 b3
  ·rw [b3]
   dsimp only [cond]
   have w:=Vz q G x.name ck I Z hc
   have Y:A.getD k [] ≠ []:=by
    intro h
    have:eF A d k=0:=by unfold eF;rw [h];rfl
    rw [this] at b3
    exact absurd b3 (by decide)
   have g:=kZ t
   have o:∀ j ∈ A.getD k [],List.drop ((0+(Int.toNat (j:Int)))*1) (List.take ((0+(Int.toNat (k:Int)))*1) (ai d)++ [.int .i64 3]++List.drop (((0+(Int.toNat (k:Int)))*1)+1) (ai d))= [AV.int .i64 ((d.getD j 0:Nat):Int)]++ai ((d.set k 3).drop (j+1)):=fun j R=>acj hks (l j R)
   have n:∀ j ∈ A.getD k [],(List.drop ((Int.toNat (j:Int))*5) (aI e))=iY (e.getD j jc)++aI (e.drop (j+1)):=fun j R=>um (by have:=l j R;omega)
   rcases x with ⟨F,z,B,C,v⟩
   dsimp only at*
   have X:F=9∨F=10∨F=11∨F=12∨F=13∨F=14∨F=15∨F=16∨F=17∨F=18∨F=19∨F=20∨F=21∨F=22∨F=23∨F=24:=by
    have S:dL F ≠ 0:=by intro h;rw [h] at s;exact Y (List.length_eq_zero_iff.1 s)
    unfold dL at S
    by_cases g1:F=15
    ·omega
    ·rw [if_neg g1] at S
     by_cases g2:(9≤F∧F≤14)∨(16≤F∧F≤19)
     ·omega
     ·rw [if_neg g2] at S
      by_cases g3:20≤F∧F≤24
      ·omega
      ·rw [if_neg g3] at S;exact absurd rfl S
   have Q:∀ j,(e.getD j jc).num.length<2^33∧(e.getD j jc).den.length<2^33:=by
    intro j
    by_cases R:j<e.length
    ·exact W _ (by rw [List.getD_eq_getElem?_getD,List.getElem?_eq_getElem R];exact List.getElem_mem R)
    ·rw [List.getD_eq_getElem?_getD,List.getElem?_eq_none (by omega)];decide
   rcases X with hxo|hxo|hxo|hxo|hxo|hxo|hxo|hxo|hxo|hxo|hxo|hxo|hxo|hxo|hxo|hxo
   ·subst hxo
    obtain ⟨c,f,a⟩:=pg (show (A.getD k []).length=2 by rw [s];rfl)
    rw [a] at g
    have D:fU ck I e A q d k ⟨9,z,B,C,v⟩=eF A d k:=by
     unfold fU
     dsimp only
     rw [if_pos (by decide)]
    rw [D]
    exact at6 N e H A q G d E i k J r L K _ t ⟨9,z,B,C,v⟩ _ c (d.getD c 0) (e.getD c jc) _ _ f (d.getD f 0) (e.getD f jc) _ _ M g (o c (by rw [a];simp)) (n c (by rw [a];simp)) (o f (by rw [a];simp)) (n f (by rw [a];simp)) (m c (by rw [a];simp)) (by have:=l c (by rw [a];simp);omega) (m f (by rw [a];simp)) (by have:=l f (by rw [a];simp);omega) (eF A d k) _ (u _) (u _) w b3 p
   ·subst hxo
    obtain ⟨c,f,a⟩:=pg (show (A.getD k []).length=2 by rw [s];rfl)
    rw [a] at g
    have D:fU ck I e A q d k ⟨10,z,B,C,v⟩=d_ (d.getD c 0) (jK (d.getD f 0)):=by
     unfold fU
     dsimp only
     rw [if_neg (by decide)]
     rw [if_pos (by decide)]
     rw [show eU A d k 0=d.getD c 0 by unfold eU;rw [a];rfl,show eU A d k 1=d.getD f 0 by unfold eU;rw [a];rfl]
    rw [D]
    exact alX N e H A q G d E i k J r L K _ t ⟨10,z,B,C,v⟩ _ c (d.getD c 0) (e.getD c jc) _ _ f (d.getD f 0) (e.getD f jc) _ _ M g (o c (by rw [a];simp)) (n c (by rw [a];simp)) (o f (by rw [a];simp)) (n f (by rw [a];simp)) (m c (by rw [a];simp)) (by have:=l c (by rw [a];simp);omega) (m f (by rw [a];simp)) (by have:=l f (by rw [a];simp);omega) (eF A d k) _ (u _) (u _) w b3 p
   ·subst hxo
    obtain ⟨c,f,a⟩:=pg (show (A.getD k []).length=2 by rw [s];rfl)
    rw [a] at g
    have D:fU ck I e A q d k ⟨11,z,B,C,v⟩=cond (fF (e.getD c jc).op) (gW (e.getD c jc).neg (d.getD f 0)) (cond (fF (e.getD f jc).op) (gW (e.getD f jc).neg (d.getD c 0)) 3):=by
     unfold fU
     dsimp only
     rw [if_neg (by decide)]
     rw [if_neg (by decide)]
     rw [if_pos (by decide)]
     unfold DI
     rw [show eU A d k 0=d.getD c 0 by unfold eU;rw [a];rfl,show eU A d k 1=d.getD f 0 by unfold eU;rw [a];rfl,show rf e A k 0=e.getD c jc by unfold rf;rw [a];rfl,show rf e A k 1=e.getD f jc by unfold rf;rw [a];rfl]
    have hnb:fF (e.getD c jc).op=true→fF (e.getD f jc).op=false:=by
     intro S
     rcases tf (fF (e.getD f jc).op) with h2|h2
     ·exfalso
      have z0:=P c (l c (by rw [a];simp)) S
      have z1:=P f (l f (by rw [a];simp)) h2
      have:eF A d k=0:=by unfold eF;rw [a];show d_ (d_ 0 (d.getD c 0)) (d.getD f 0)=0;rw [z0,z1];rfl
      rw [this] at b3
      exact absurd b3 (by decide)
     ·exact h2
    rw [D]
    exact alY N e H A q G d E i k J r L K _ t ⟨11,z,B,C,v⟩ _ c (d.getD c 0) (e.getD c jc) _ _ f (d.getD f 0) (e.getD f jc) _ _ M g (o c (by rw [a];simp)) (n c (by rw [a];simp)) (o f (by rw [a];simp)) (n f (by rw [a];simp)) (m c (by rw [a];simp)) (by have:=l c (by rw [a];simp);omega) (m f (by rw [a];simp)) (by have:=l f (by rw [a];simp);omega) (eF A d k) _ (u _) (u _) w hnb b3 p
   ·subst hxo
    obtain ⟨c,f,a⟩:=pg (show (A.getD k []).length=2 by rw [s];rfl)
    rw [a] at g
    have D:fU ck I e A q d k ⟨12,z,B,C,v⟩=cond (fF (e.getD f jc).op) (cond (fV (e.getD f jc).neg (e.getD f jc).num (e.getD f jc).den==((0:Nat):Int)) 3 (gW (e.getD f jc).neg (d.getD c 0))) 3:=by
     unfold fU
     dsimp only
     rw [if_neg (by decide)]
     rw [if_neg (by decide)]
     rw [if_neg (by decide)]
     rw [if_pos (by decide)]
     unfold Cj
     rw [show eU A d k 0=d.getD c 0 by unfold eU;rw [a];rfl,show rf e A k 1=e.getD f jc by unfold rf;rw [a];rfl]
    have csg_:=fM (e.getD f jc).neg (e.getD f jc).num (e.getD f jc).den (Q f).1 (Q f).2
    rw [D]
    exact alZ N e H A q G d E i k J r L K _ t ⟨12,z,B,C,v⟩ _ c (d.getD c 0) (e.getD c jc) _ _ f (d.getD f 0) (e.getD f jc) _ _ M g (o c (by rw [a];simp)) (n c (by rw [a];simp)) (o f (by rw [a];simp)) (n f (by rw [a];simp)) (m c (by rw [a];simp)) (by have:=l c (by rw [a];simp);omega) (m f (by rw [a];simp)) (by have:=l f (by rw [a];simp);omega) (eF A d k) _ (u _) (u _) w csg_ b3 p
   ·subst hxo
    obtain ⟨c,f,a⟩:=pg (show (A.getD k []).length=2 by rw [s];rfl)
    rw [a] at g
    have D:fU ck I e A q d k ⟨13,z,B,C,v⟩=eF A d k:=by
     unfold fU
     dsimp only
     rw [if_pos (by decide)]
    rw [D]
    exact al0 N e H A q G d E i k J r L K _ t ⟨13,z,B,C,v⟩ _ c (d.getD c 0) (e.getD c jc) _ _ f (d.getD f 0) (e.getD f jc) _ _ M g (o c (by rw [a];simp)) (n c (by rw [a];simp)) (o f (by rw [a];simp)) (n f (by rw [a];simp)) (m c (by rw [a];simp)) (by have:=l c (by rw [a];simp);omega) (m f (by rw [a];simp)) (by have:=l f (by rw [a];simp);omega) (eF A d k) _ (u _) (u _) w b3 p
   ·subst hxo
    obtain ⟨c,f,a⟩:=pg (show (A.getD k []).length=2 by rw [s];rfl)
    rw [a] at g
    have D:fU ck I e A q d k ⟨14,z,B,C,v⟩=eF A d k:=by
     unfold fU
     dsimp only
     rw [if_pos (by decide)]
    rw [D]
    exact al2 N e H A q G d E i k J r L K _ t ⟨14,z,B,C,v⟩ _ c (d.getD c 0) (e.getD c jc) _ _ f (d.getD f 0) (e.getD f jc) _ _ M g (o c (by rw [a];simp)) (n c (by rw [a];simp)) (o f (by rw [a];simp)) (n f (by rw [a];simp)) (m c (by rw [a];simp)) (by have:=l c (by rw [a];simp);omega) (m f (by rw [a];simp)) (by have:=l f (by rw [a];simp);omega) (eF A d k) _ (u _) (u _) w b3 p
   ·subst hxo
    obtain ⟨c,f,O,a⟩:=aaT (show (A.getD k []).length=3 by rw [s];rfl)
    rw [a] at g
    have D:fU ck I e A q d k ⟨15,z,B,C,v⟩=cond (((d.getD c 0:Nat):Int)==((0:Nat):Int)) (d_ (d.getD f 0) (d.getD O 0)) 3:=by
     unfold fU
     dsimp only
     rw [if_neg (by decide)]
     rw [if_neg (by decide)]
     rw [if_neg (by decide)]
     rw [if_neg (by decide)]
     rw [if_pos (by decide)]
     unfold H9
     rw [show eU A d k 0=d.getD c 0 by unfold eU;rw [a];rfl,show eU A d k 1=d.getD f 0 by unfold eU;rw [a];rfl,show eU A d k 2=d.getD O 0 by unfold eU;rw [a];rfl]
    rw [D]
    exact al3 N e H A q G d E i k J r L K _ t ⟨15,z,B,C,v⟩ _ c (d.getD c 0) (e.getD c jc) _ _ f (d.getD f 0) (e.getD f jc) _ _ O (d.getD O 0) (e.getD O jc) _ _ M g (o c (by rw [a];simp)) (n c (by rw [a];simp)) (o f (by rw [a];simp)) (n f (by rw [a];simp)) (o O (by rw [a];simp)) (n O (by rw [a];simp)) (m c (by rw [a];simp)) (by have:=l c (by rw [a];simp);omega) (m f (by rw [a];simp)) (by have:=l f (by rw [a];simp);omega) (m O (by rw [a];simp)) (by have:=l O (by rw [a];simp);omega) (eF A d k) _ (u _) (u _) w b3 p
   ·subst hxo
    obtain ⟨c,f,a⟩:=pg (show (A.getD k []).length=2 by rw [s];rfl)
    rw [a] at g
    have D:fU ck I e A q d k ⟨16,z,B,C,v⟩=3:=by
     unfold fU
     dsimp only
     rw [if_neg (by decide)]
     rw [if_neg (by decide)]
     rw [if_neg (by decide)]
     rw [if_neg (by decide)]
     rw [if_neg (by decide)]
     rw [if_neg (by decide)]
    rw [D]
    exact al4 N e H A q G d E i k J r L K _ t ⟨16,z,B,C,v⟩ _ c (d.getD c 0) (e.getD c jc) _ _ f (d.getD f 0) (e.getD f jc) _ _ M g (o c (by rw [a];simp)) (n c (by rw [a];simp)) (o f (by rw [a];simp)) (n f (by rw [a];simp)) (m c (by rw [a];simp)) (by have:=l c (by rw [a];simp);omega) (m f (by rw [a];simp)) (by have:=l f (by rw [a];simp);omega) (eF A d k) _ (u _) (u _) w b3 p
   ·subst hxo
    obtain ⟨c,f,a⟩:=pg (show (A.getD k []).length=2 by rw [s];rfl)
    rw [a] at g
    have D:fU ck I e A q d k ⟨17,z,B,C,v⟩=3:=by
     unfold fU
     dsimp only
     rw [if_neg (by decide)]
     rw [if_neg (by decide)]
     rw [if_neg (by decide)]
     rw [if_neg (by decide)]
     rw [if_neg (by decide)]
     rw [if_neg (by decide)]
    rw [D]
    exact al5 N e H A q G d E i k J r L K _ t ⟨17,z,B,C,v⟩ _ c (d.getD c 0) (e.getD c jc) _ _ f (d.getD f 0) (e.getD f jc) _ _ M g (o c (by rw [a];simp)) (n c (by rw [a];simp)) (o f (by rw [a];simp)) (n f (by rw [a];simp)) (m c (by rw [a];simp)) (by have:=l c (by rw [a];simp);omega) (m f (by rw [a];simp)) (by have:=l f (by rw [a];simp);omega) (eF A d k) _ (u _) (u _) w b3 p
   ·subst hxo
    obtain ⟨c,f,a⟩:=pg (show (A.getD k []).length=2 by rw [s];rfl)
    rw [a] at g
    have D:fU ck I e A q d k ⟨18,z,B,C,v⟩=3:=by
     unfold fU
     dsimp only
     rw [if_neg (by decide)]
     rw [if_neg (by decide)]
     rw [if_neg (by decide)]
     rw [if_neg (by decide)]
     rw [if_neg (by decide)]
     rw [if_neg (by decide)]
    rw [D]
    exact al6 N e H A q G d E i k J r L K _ t ⟨18,z,B,C,v⟩ _ c (d.getD c 0) (e.getD c jc) _ _ f (d.getD f 0) (e.getD f jc) _ _ M g (o c (by rw [a];simp)) (n c (by rw [a];simp)) (o f (by rw [a];simp)) (n f (by rw [a];simp)) (m c (by rw [a];simp)) (by have:=l c (by rw [a];simp);omega) (m f (by rw [a];simp)) (by have:=l f (by rw [a];simp);omega) (eF A d k) _ (u _) (u _) w b3 p
   ·subst hxo
    obtain ⟨c,f,a⟩:=pg (show (A.getD k []).length=2 by rw [s];rfl)
    rw [a] at g
    have D:fU ck I e A q d k ⟨19,z,B,C,v⟩=3:=by
     unfold fU
     dsimp only
     rw [if_neg (by decide)]
     rw [if_neg (by decide)]
     rw [if_neg (by decide)]
     rw [if_neg (by decide)]
     rw [if_neg (by decide)]
     rw [if_neg (by decide)]
    rw [D]
    exact al7 N e H A q G d E i k J r L K _ t ⟨19,z,B,C,v⟩ _ c (d.getD c 0) (e.getD c jc) _ _ f (d.getD f 0) (e.getD f jc) _ _ M g (o c (by rw [a];simp)) (n c (by rw [a];simp)) (o f (by rw [a];simp)) (n f (by rw [a];simp)) (m c (by rw [a];simp)) (by have:=l c (by rw [a];simp);omega) (m f (by rw [a];simp)) (by have:=l f (by rw [a];simp);omega) (eF A d k) _ (u _) (u _) w b3 p
   ·subst hxo
    obtain ⟨c,a⟩:=BX (show (A.getD k []).length=1 by rw [s];rfl)
    rw [a] at g
    have D:fU ck I e A q d k ⟨20,z,B,C,v⟩=3:=by
     unfold fU
     dsimp only
     rw [if_neg (by decide)]
     rw [if_neg (by decide)]
     rw [if_neg (by decide)]
     rw [if_neg (by decide)]
     rw [if_neg (by decide)]
     rw [if_neg (by decide)]
    rw [D]
    exact al8 N e H A q G d E i k J r L K _ t ⟨20,z,B,C,v⟩ _ c (d.getD c 0) (e.getD c jc) _ _ M g (o c (by rw [a];simp)) (n c (by rw [a];simp)) (m c (by rw [a];simp)) (by have:=l c (by rw [a];simp);omega) (eF A d k) _ (u _) (u _) w b3 p
   ·subst hxo
    obtain ⟨c,a⟩:=BX (show (A.getD k []).length=1 by rw [s];rfl)
    rw [a] at g
    have D:fU ck I e A q d k ⟨21,z,B,C,v⟩=eF A d k:=by
     unfold fU
     dsimp only
     rw [if_pos (by decide)]
    rw [D]
    exact al9 N e H A q G d E i k J r L K _ t ⟨21,z,B,C,v⟩ _ c (d.getD c 0) (e.getD c jc) _ _ M g (o c (by rw [a];simp)) (n c (by rw [a];simp)) (m c (by rw [a];simp)) (by have:=l c (by rw [a];simp);omega) (eF A d k) _ (u _) (u _) w b3 p
   ·subst hxo
    obtain ⟨c,a⟩:=BX (show (A.getD k []).length=1 by rw [s];rfl)
    rw [a] at g
    have D:fU ck I e A q d k ⟨22,z,B,C,v⟩=eF A d k:=by
     unfold fU
     dsimp only
     rw [if_pos (by decide)]
    rw [D]
    exact al_ N e H A q G d E i k J r L K _ t ⟨22,z,B,C,v⟩ _ c (d.getD c 0) (e.getD c jc) _ _ M g (o c (by rw [a];simp)) (n c (by rw [a];simp)) (m c (by rw [a];simp)) (by have:=l c (by rw [a];simp);omega) (eF A d k) _ (u _) (u _) w b3 p
   ·subst hxo
    obtain ⟨c,a⟩:=BX (show (A.getD k []).length=1 by rw [s];rfl)
    rw [a] at g
    have D:fU ck I e A q d k ⟨23,z,B,C,v⟩=eF A d k:=by
     unfold fU
     dsimp only
     rw [if_pos (by decide)]
    rw [D]
    exact ama N e H A q G d E i k J r L K _ t ⟨23,z,B,C,v⟩ _ c (d.getD c 0) (e.getD c jc) _ _ M g (o c (by rw [a];simp)) (n c (by rw [a];simp)) (m c (by rw [a];simp)) (by have:=l c (by rw [a];simp);omega) (eF A d k) _ (u _) (u _) w b3 p
   ·subst hxo
    obtain ⟨c,a⟩:=BX (show (A.getD k []).length=1 by rw [s];rfl)
    rw [a] at g
    have D:fU ck I e A q d k ⟨24,z,B,C,v⟩=cond ((yx ck I v q).getD false) (eF A d k) 3:=by
     unfold fU
     dsimp only
     rw [if_neg (by decide)]
     rw [if_neg (by decide)]
     rw [if_neg (by decide)]
     rw [if_neg (by decide)]
     rw [if_neg (by decide)]
     rw [if_pos (by decide)]
     unfold GM
     rw [show eU A d k 0=d.getD c 0 by unfold eU;rw [a];rfl,Ee]
     have T:eF A d k=d.getD c 0:=by unfold eF;rw [a];show d_ 0 _=_;rfl
     rw [T]
     cases q.find? (fun x=>x.name==v) with
     |none=>rfl
     |some y=>show cond (ck y==0) (cond (I y) _ 3) 3=cond (ck y==0 && I y) _ 3;cases (ck y==0)<;>rfl
    rw [D]
    exact amb N e H A q G d E i k J r L K _ t ⟨24,z,B,C,v⟩ _ c (d.getD c 0) (e.getD c jc) _ _ M g (o c (by rw [a];simp)) (n c (by rw [a];simp)) (m c (by rw [a];simp)) (by have:=l c (by rw [a];simp);omega) (eF A d k) _ (u _) (u _) w b3 p
theorem FD {S:aW}:∀ (A:List (List Nat)) {vs:List Value},dK S (iQ A) vs→dK S (bC A) vs
 | [],[],_=>by simp only [bC,List.map_nil,dK]
 | [],_::_,h=>by simp [iQ,dK] at h
 |a::r,[],h=>by simp [iQ,dK] at h
 | a::r,v::vs,h=>by
  simp only [iQ,List.map_cons,dK] at h
  simp only [bC,List.map_cons,dK]
  refine ⟨?_,FD r h.2⟩
  have d:=h.1
  cases a with
  |nil=>simp only [Jw,PR] at d;subst d;simp only [yL,PR];exact ⟨none,0,rfl,Nat.le_refl _,.inl (by simp [ai])⟩
  |cons b l=>
   simp only [Jw,PR] at d
   obtain ⟨p,f,e,g,c⟩:=d
   simp only [yL,PR]
   refine ⟨p,f,e,g,.inr ?_⟩
   rcases c with ⟨_,c,_⟩|c
   ·cases c
   ·exact c
theorem wI (A:List (List Nat)):aZ (.sl (iQ A) A.length true) (.sl (bC A) A.length true):=by
 intro g m S v f
 simp only [VR,PR] at f ⊢
 obtain ⟨p,a,e,j,d⟩:=f
 refine ⟨p,a,e,j, ?_⟩
 rcases d with ⟨_,d,_⟩|⟨b,c,vs,k,i,h⟩
 ·cases d
 ·exact .inr ⟨b,c,vs,k,FD A i,h⟩
theorem GL (l:List Nd) (c:Bool) (a:∀ x ∈ l,x.sm) (b:dG l=0):CO 40 [.sl (aI l) l.length c] (.ret (.tup [.sl (iQ (bQ l)) (bQ l).length true,.bool true])):=by
 rw [(m_ b).1];exact Ve l c a b
theorem acO (e:List Nd) (b:Bool) (A:List (List Nat)) (c:List Sc) (d:Bool) (h:List Nat) (f:Int) (a:List UInt8) (g:CO 40 [.sl (aI e) e.length b] (.ret (.tup [.nilS,.bool false]))):CO 15 [.sl (aI e) e.length b,.sl (eX c) c.length d,.int .i64 f,.str a] (.ret (.int .i64 ((3:Nat):Int))):=pK [] 3 7 (.n 3 .nil) (.c g .nil)
theorem YT (e:List Nd) (c:Bool) (A:List (List Nat)) (f:List Sc) (g:Bool) (i:List Nat) (b:Int) (a:List UInt8) (d:CO 40 [.sl (aI e) e.length c] (.ret (.tup [.sl (iQ A) A.length true,.bool true]))) (j:b<5∨8<b):CO 15 [.sl (aI e) e.length c,.sl (eX f) f.length g,.int .i64 b,.str a] (.ret (.int .i64 ((3:Nat):Int))):=by
 rcases tf (decide (b<((5:Nat):Int))) with b0|b0
 ·exact pK [] 3 6 (.k 1 (aC b0) (.n 1 .nil)) (.v 21 (wI A) (.c d .nil))
 ·have h:(decide (((8:Nat):Int)<b))=true:=decide_eq_true (by have:=of_decide_eq_false b0;omega)
  exact pK [] 3 4 (.c (aC h) (.c (aB b0) (.n 1 .nil))) (.v 21 (wI A) (.c d .nil))
theorem acP (e:List Nd) (d:Bool) (A:List (List Nat)) (h:List Sc) (k:Bool) (g:List Nat) (c:Int) (a:List UInt8) (f s:Nat) (o:List AV) (n:CO 40 [.sl (aI e) e.length d] (.ret (.tup [.sl (iQ A) A.length true,.bool true]))) (l:(decide (c<((5:Nat):Int)))=false) (m:(decide (((8:Nat):Int)<c))=false) (i:e.length=f+1) (b:e.length<2^40) (j:f<g.length) (hs:(List.drop ((0+(Int.toNat (f:Int)))*1) (ai g))= [AV.int .i64 (s:Int)]++o)
  (m0:Nat) (Z:List AV) (hm0:m0=Int.toNat (e.length:Int)) (hZ:Z=iU (Int.toNat (e.length:Int)) [.int .i64 0])
  (l0:aH prog ap [] 282 (.block 0 (.loop (ae 0 (af f15)))) ⟨[(0,.sl (aI e) e.length d),(1,.sl (eX h) h.length k),(2,.int .i64 c),(3,.str a),(8,.int .i64 0),(9,.sl (bC A) A.length true),(10,.bool true),(11,.ref 0 0 0 m0),(12,.int .i64 0),(13,.dead),(14,.dead),(15,.dead),(16,.dead),(17,.dead),(32,.bool (decide (((8:Nat):Int)<c))),(39,.dead),(55,.dead),(65,.dead),(81,.dead),(111,.dead),(118,.dead),(147,.dead),(176,.dead),(216,.dead),(245,.dead),(271,.dead)],[(0,⟨Z,0,false,0,1,true⟩)],.dead,[]⟩ (.normal) ⟨[(0,.sl (aI e) e.length d),(11,.ref 0 0 0 g.length)],[(0,⟨(ai g),0,false,0,1,true⟩)],.dead,[]⟩):CO 15 [.sl (aI e) e.length d,.sl (eX h) h.length k,.int .i64 c,.str a] (.ret (.int .i64 (s:Int))):=by
 subst hm0 hZ
 exact pK [0] 3 0 (.a (gZ [.int .i64] hs rfl) (.c (aQ f) (.c (bK j) (.c (aQ e.length) (.c (deq e.length) (.c (dle b) (.c (aB m) (.c (aB l) (.n 1 .nil))))))))) (.v 281 (.rd1 (.int .i64) hs rfl) (.v 279 (.eq (wkn i b)) (.l l0 (.v 21 (wI A) (.c n .nil)))))
theorem Rh {ck:Sc→Int} {g:Sc→Bool} {e:List Nd} {o:List Sc} {b:Int} {a:List UInt8} {d:List Nat} {k:Nat} {x:Nd} (m:dG e=0) (i:e[k]? =some x) (p:5≤b∧b≤8) (c:fF x.op=true):yE ck g e (bQ e) o b a d k x=0:=by
 have j:x.op=1∨x.op=2∨x.op=3:=by
  unfold fF at c
  simp only [Bool.or_eq_true,beq_iff_eq] at c
  exact c
 have l:eF (bQ e) d k=0:=by
  have f:=((m_ m).2 k x i).1
  have n:(bQ e).getD k []= []:=List.length_eq_zero_iff.1 (by rw [f];rcases j with h|h|h<;>rw [h]<;>rfl)
  unfold eF;rw [n];rfl
 unfold yE
 rw [show (x.op==b)=false from beq_eq_false_iff_ne.2 (by omega),l]
 rfl
theorem YQ {nt:Nat} (v:282≤nt) (e:List Nd) (i:Bool) (f:List Sc) (n:Bool) (ck:Sc→Int) (k:Sc→Bool) (d:Int) (a:List UInt8) (m:∀ y ∈ e,y.sm) (w:dG e=0) (z:5≤d∧d≤8) (l:e.length<2^40) (o:f.length<2^40) (B:∀ x ∈ f,CO 71 [.agg (xg x)] (.ret (.int .i64 (ck x)))∧(ck x=0→CO 72 [.agg (xg x)] (.ret (.bool (k x))))):∀ (r p:List Nd) (b:List Nat),p++r=e→b.length=e.length→(∀ j,p.length≤j→b.getD j 0=0)→(∀ j,j<p.length→fF (e.getD j jc).op=true→b.getD j 0=0)→
  aF prog ap [] nt (ae 0 (af f15)) (fun _=> .exit 0) (eH e i (bQ e) f n d a) (Vu e i) (p.length,b) (sK ck k e (bQ e) f d a r p.length b):=by
 intro r
 induction r with
 |nil=>
  intro p b hp g _ _
  rw [List.append_nil] at hp
  rw [hp]
  exact .done (acK v e i (bQ e) f n b d a)
 | cons x r ih=>
  intro p b hp g u c
  have q:e[p.length]? =some x:=by rw [← hp];simp
  have A:e.getD p.length jc=x:=by rw [List.getD_eq_getElem?_getD,q];rfl
  have C:p.length<b.length:=by rw [g,← hp];simp
  have h:=ih (p++ [x]) (b.set p.length (yE ck k e (bQ e) f d a b p.length x)) (by rw [← hp];simp) (by rw [List.length_set];exact g)
   (by intro j t;rw [List.length_append,List.length_singleton] at t;rw [t_ (by omega)];exact u j (by omega))
   (by
    intro j t s
    rw [List.length_append,List.length_singleton] at t
    by_cases e1:j=p.length
    ·subst e1
     rw [A] at s
     rw [qW (by rw [List.length_set];exact C),List.getElem_set_self,Rh w q z s]
    ·rw [t_ e1];exact c j (by omega) s)
  rw [List.length_append,List.length_singleton] at h
  exact .next (YR v e i f n b ck k d a p.length x m w q l g o (u _ (Nat.le_refl _)) c B) h
theorem Q3 (e:List Nd) (d:Bool) (c:List Sc) (k:Bool) (ck:Sc→Int) (g:Sc→Bool) (b:Int) (a:List UInt8) (f:∀ y ∈ e,y.sm) (m:e.length<2^40) (o:c.length<2^40) (s:∀ x ∈ c,CO 71 [.agg (xg x)] (.ret (.int .i64 (ck x)))∧(ck x=0→CO 72 [.agg (xg x)] (.ret (.bool (g x))))) (n:dG e ≠ 0→CO 40 [.sl (aI e) e.length d] (.ret (.tup [.nilS,.bool false]))):
  CO 15 [.sl (aI e) e.length d,.sl (eX c) c.length k,.int .i64 b,.str a] (.ret (.int .i64 ((jD ck g e c b a:Nat):Int))):=by
 unfold jD
 by_cases hq:dG e=0
 ·by_cases ho:5≤b∧b≤8
  ·rw [if_pos ⟨hq,ho⟩]
   have h0:e ≠ []:=by intro h;rw [h] at hq;exact absurd hq (by decide)
   obtain ⟨i,q⟩:∃ i,e.length=i+1:=⟨e.length - 1,by have:=List.length_pos_iff.2 h0;omega⟩
   have r:(sK ck g e (bQ e) c b a e 0 (List.replicate e.length 0)).length=e.length:=by rw [zt,List.length_replicate]
   have p:∀ j,(List.replicate e.length 0).getD j 0=0:=by intro j;rw [List.getD_eq_getElem?_getD,List.getElem?_replicate];split<;>rfl
   have h:∀ nt,282≤nt→aF prog ap [] nt (ae 0 (af f15)) (fun _=> .exit 0) (eH e d (bQ e) c k b a) (Vu e d) (0,List.replicate e.length 0) (sK ck g e (bQ e) c b a e 0 (List.replicate e.length 0)):=fun nt t=>YQ t e d c k ck g b a f hq ho m o s e [] _ rfl (List.length_replicate ..) (fun j _=>p j) (fun j v=>by simp at v)
   generalize sK ck g e (bQ e) c b a e 0 (List.replicate e.length 0)=ss at*
   rw [show e.length - 1=i by omega]
   have l:i<ss.length:=by omega
   refine acP e d (bQ e) c k ss b a i (ss.getD i 0) _ (GL e d f hq) (decide_eq_false (by omega)) (decide_eq_false (by omega)) q m l (by rw [Nat.zero_add];exact kE l) (List.replicate e.length 0).length (ai (List.replicate e.length 0)) (by rw [List.length_replicate,aA]) (by rw [aA,Bd]) ?_
   have u:(decide (((8:Nat):Int)<b))=false:=decide_eq_false (by omega)
   rw [u]
   exact aF.blk h (by simp) rfl (aK.of ⟨rfl,rfl,rfl,rfl,rfl,rfl,rfl,trivial⟩) (aK.of ⟨rfl,rfl,trivial⟩)
  ·rw [if_neg (fun h=>ho h.2)]
   exact YT e d (bQ e) c k [] b a (GL e d f hq) (by omega)
 ·rw [if_neg (fun h=>hq h.1)]
  exact acO e d [] c k [] b a (n hq)
structure Br where
 fn:Bool
 fa:List UInt8
 fd:List UInt8
 rn:Bool
 ra:List UInt8
 rd:List UInt8
def FT (x:Br):List AV:= [.bool x.fn,.str x.fa,.str x.fd,.bool x.rn,.str x.ra,.str x.rd]
def eG (l:List Br):List AV:=l.flatMap FT
def Br.sm (x:Br):Prop:=(x.fa.length<2^33∧x.fd.length<2^33)∧(x.ra.length<2^33∧x.rd.length<2^33)
abbrev LZ (x:Br):AV:= .agg [.bool x.fn,.str x.fa,.str x.fd]
abbrev brR (x:Br):AV:= .agg [.bool x.rn,.str x.ra,.str x.rd]
theorem kR {l:List Br} {k:Nat} (h:k<l.length):List.drop (Int.toNat (k:Int)*6) (eG l)=FT l[k]++eG (l.drop (k+1)):=by
 rw [aA]
 induction l generalizing k with
 |nil=>simp at h
 | cons x r ih=>
  cases k with
  |zero=>simp [eG]
  |succ k=>
   have a:k<r.length:=by simpa using h
   show List.drop ((k+1)*6) (FT x++eG r)=_
   rw [show (k+1)*6=(FT x).length+k*6 by simp [FT];omega,List.drop_append,Nat.add_sub_cancel_left,ih a,List.drop_of_length_le (by omega)]
   rfl
def FP (cmp:Br→Br→Int):Option Br→List Br→Bool
 |_,[]=>true
 |none,x::r=>cond (jm x.fn x.fa x.fd) (cond (jm x.rn x.ra x.rd) (cond (fV x.fn x.fa x.fd==((0:Nat):Int)) (FP cmp (some x) r) false) false) false
 |some y,x::r=>cond (jm x.fn x.fa x.fd) (cond (jm x.rn x.ra x.rd) (cond (decide (((0:Nat):Int)≤cmp y x)) false (FP cmp (some x) r)) false) false
def aef (nm:List UInt8) (u1 u2:Int) (l:List Br) (k:Nat):St:=⟨[(1,.ptr 0 0 0),(3,.sl (eG l) l.length false),(16,.sl (eG l) l.length false),(17,.int .i64 (l.length:Int)),(18,.int .i64 (k:Int))],[(0,⟨[.str nm,.int .i64 u1,.int .i64 u2,.sl (eG l) l.length false],0,false,0,0,true⟩)],.dead,[]⟩
def ZJ (l:List Br):Bool→St
 |true=> ⟨[(3,.sl (eG l) l.length false)],[],.dead,[]⟩
 |false=> ⟨[(2,.int .i64 11)],[],.dead,[]⟩
def bkE:Bool→bM
 |true=> .exit 1
 |false=> .ret
def rZ (f:Nat) (cmp:Br→Br→Int) (l:List Br):Prop:=∀ i y x,l[i]? =some y→l[i+1]? =some x→jm x.fn x.fa x.fd=true→jm x.rn x.ra x.rd=true→CO f [LZ y,LZ x] (.ret (.int .i64 (cmp y x)))
theorem WV {nt:Nat} (f:60≤nt) (F:List UInt8) (u1 u2:Int) (l:List Br) (cmp:Br→Br→Int) (C:l.length<2^40) (u:∀ x ∈ l,x.sm) (H:rZ 129 cmp l):∀ (r p:List Br),p++r=l→
  aF prog ap [] nt (ae 1 (af f102)) bkE (aef F u1 u2 l) (ZJ l) p.length (FP cmp p.getLast? r):=by
 intro r
 induction r with
 |nil=>
  intro p hp
  rw [List.append_nil] at hp
  subst hp
  have h0:(decide ((p.length:Int)<(p.length:Int)))=false:=decide_eq_false (by omega)
  rw [show FP cmp p.getLast? []=true by cases p.getLast? <;>rfl]
  exact .done (pN 102 [] 1 0 (.c (aB h0) .nil) (.nil) f)
 | cons x r ih=>
  intro p hp
  have E:p.length<l.length:=by rw [← hp];simp
  have m:l[p.length]=x:=by subst hp;simp
  have d:=kR E
  rw [m] at d
  have e:=ih (p++ [x]) (by rw [← hp];simp)
  rw [List.getLast?_append,List.getLast?_singleton,List.length_append,List.length_singleton] at e
  simp only [Option.some_or] at e
  have hs:=u x (by rw [← hp];simp)
  have a:CO 115 [LZ x] (.ret (.bool (jm x.fn x.fa x.fd))):=dH x.fn x.fa x.fd (Nat.lt_trans hs.1.1 (by decide)) (Nat.lt_trans hs.1.2 (by decide))
  have c:CO 115 [brR x] (.ret (.bool (jm x.rn x.ra x.rd))):=dH x.rn x.ra x.rd (Nat.lt_trans hs.2.1 (by decide)) (Nat.lt_trans hs.2.2 (by decide))
  have B:CO 85 [LZ x] (.ret (.int .i64 (fV x.fn x.fa x.fd))):=fG x.fn x.fa x.fd (Nat.lt_trans hs.1.1 (by decide)) (Nat.lt_trans hs.1.2 (by decide))
  cases i:p.getLast? with
  | none=>
   have w:p= []:=List.getLast?_eq_none_iff.1 i
   subst w
   generalize G:([]:List Br).length=k at*
   have A:k=0:=by rw [← G];rfl
   generalize eG (l.drop (k+1))=rB at d
   have h0:(decide ((k:Int)<(l.length:Int)))=true:=decide_eq_true (by omega)
   have n:((k:Int)==((0:Nat):Int))=true:=by rw [A];rfl
   have t:(decide (((0:Nat):Int)<(k:Int)))=false:=decide_eq_false (by omega)
   have v:k<2^62:=by omega
   rcases tf (jm x.fn x.fa x.fd) with d0|d0
   ·rcases tf (jm x.rn x.ra x.rd) with d1|d1
    ·rcases tf ((fV x.fn x.fa x.fd)==((0:Nat):Int)) with d2|d2
     ·simp only [FP,d0,d1,d2,cond_true,cond_false]
      exact .next (pN 102 [] 7 9 (.k 1 (aB t) (.c (aS d2) (.k 3 (aC n) (.c (aS d1) (.k 3 (aS d0) (.k 10 (aQ k) (.c h0 (.c (aC h0) .nil)))))))) (.v 57 (.eq (iZ v)) (.c B (.c c (.c a (.v 21 (.ppt d) .nil))))) f) e
     ·simp only [FP,d0,d1,d2,cond_true,cond_false]
      exact .done (pN 102 [] 6 57 (.k 1 (dJ d2) (.k 3 (aC n) (.c (aS d1) (.k 3 (aS d0) (.k 10 (aQ k) (.c h0 (.c (aC h0) .nil))))))) (.c B (.c c (.c a (.v 21 (.ppt d) .nil)))) f)
    ·simp only [FP,d0,d1,cond_true,cond_false]
     exact .done (pN 102 [] 3 5 (.c (dJ d1) (.k 3 (aS d0) (.k 10 (aQ k) (.c h0 (.c (aC h0) .nil))))) (.c c (.c a (.v 21 (.ppt d) .nil))) f)
   ·simp only [FP,d0,cond_true,cond_false]
    exact .done (pN 102 [] 3 7 (.k 1 (dJ d0) (.k 10 (aQ k) (.c h0 (.c (aC h0) .nil)))) (.c a (.v 21 (.ppt d) .nil)) f)
  | some y=>
   obtain ⟨q,z⟩:∃ q,p=q++ [y]:=by
    obtain ⟨q,h⟩:=List.getLast?_eq_some_iff.1 i
    exact ⟨q,h⟩
   have g:p.length=q.length+1:=by rw [z];simp
   have b:q.length<l.length:=by omega
   have s:=kR b
   have j:l[q.length]=y:=by subst hp z;simp
   rw [j] at s
   have D:=H q.length y x (by rw [List.getElem?_eq_getElem b,j]) (by rw [← g,List.getElem?_eq_getElem E,m])
   clear z
   generalize p.length=k at*
   generalize q.length=k1 at*
   generalize eG (l.drop (k+1))=rB at d
   generalize eG (l.drop (k1+1))=rC at s
   have h0:(decide ((k:Int)<(l.length:Int)))=true:=decide_eq_true (by omega)
   have n:((k:Int)==((0:Nat):Int))=false:=beq_eq_false_iff_ne.2 (by omega)
   have t:(decide (((0:Nat):Int)<(k:Int)))=true:=decide_eq_true (by omega)
   have v:k<2^62:=by omega
   have o:k<2^40:=by omega
   rcases tf (jm x.fn x.fa x.fd) with d0|d0
   ·rcases tf (jm x.rn x.ra x.rd) with d1|d1
    ·rcases tf (decide (((0:Nat):Int)≤(cmp y x))) with d2|d2
     ·simp only [FP,d0,d1,d2,cond_true,cond_false]
      exact .done (pN 102 [] 7 97 (.c (aC d2) (.k 6 (aQ k1) (.c (bK b) (.c (aC t) (.k 1 (aB n) (.c (aS d1) (.k 3 (aS d0) (.k 10 (aQ k) (.c h0 (.c (aC h0) .nil)))))))))) (.c (D d0 d1) (.v 48 (.ppt s) (.v 47 (.eq (wkn g o)) (.c c (.c a (.v 21 (.ppt d) .nil)))))) f)
     ·simp only [FP,d0,d1,d2,cond_true,cond_false]
      exact .next (pN 102 [] 7 33 (.c (aB d2) (.k 6 (aQ k1) (.c (bK b) (.c (aC t) (.k 1 (aB n) (.c (aS d1) (.k 3 (aS d0) (.k 10 (aQ k) (.c h0 (.c (aC h0) .nil)))))))))) (.v 57 (.eq (iZ v)) (.c (D d0 d1) (.v 48 (.ppt s) (.v 47 (.eq (wkn g o)) (.c c (.c a (.v 21 (.ppt d) .nil))))))) f) e
    ·simp only [FP,d0,d1,cond_true,cond_false]
     exact .done (pN 102 [] 3 5 (.c (dJ d1) (.k 3 (aS d0) (.k 10 (aQ k) (.c h0 (.c (aC h0) .nil))))) (.c c (.c a (.v 21 (.ppt d) .nil))) f)
   ·simp only [FP,d0,cond_true,cond_false]
    exact .done (pN 102 [] 3 7 (.k 1 (dJ d0) (.k 10 (aQ k) (.c h0 (.c (aC h0) .nil)))) (.c a (.v 21 (.ppt d) .nil)) f)
def wP (P:Br→Bool):List Br→Nat→Option Nat
 | [],_=>none
 |x::r,i=>if P x then some i else wP P r (i+1)
theorem C_ (P:Br→Bool):∀ (r:List Br) (i:Nat),(wP P r i).isSome=r.any P
 | [],_=>rfl
 |x::r,i=>by
  unfold wP
  rw [List.any_cons]
  rcases tf (P x) with h|h
  ·rw [if_pos h,h];rfl
  ·rw [if_neg (by rw [h];decide),h,Bool.false_or];exact C_ P r (i+1)
def ZZ (l:List Br) (k:Nat):St:=⟨[(0,.sl (eG l) l.length false),(1,.fn 131 [] []),(7,.int .i64 (l.length:Int)),(8,.int .i64 (k:Int))],[],.dead,[]⟩
def Uh (l:List Br):Option Nat→St
 |none=> ⟨[(0,.sl (eG l) l.length false)],[],.dead,[]⟩
 |some i=> ⟨[(4,.int .i64 (i:Int))],[],.dead,[]⟩
theorem Uj {nt:Nat} (c:19≤nt) (l:List Br) (P:Br→Bool) (e:l.length<2^40) (g:∀ x ∈ l,CO 131 [.agg (FT x)] (.ret (.bool (P x)))):∀ (r p:List Br),p++r=l→
  aF prog ap [] nt (ae 0 (af f159)) Sv (ZZ l) (Uh l) p.length (wP P r p.length):=by
 intro r
 induction r with
 |nil=>
  intro p hp
  rw [List.append_nil] at hp
  subst hp
  have h0:(decide ((p.length:Int)<(p.length:Int)))=false:=decide_eq_false (by omega)
  exact .done (pN 159 [] 1 0 (.c (aB h0) .nil) (.nil) c)
 | cons x r ih=>
  intro p hp
  have h:p.length<l.length:=by rw [← hp];simp
  have d:l[p.length]=x:=by subst hp;simp
  have b:=kR h
  rw [d] at b
  have a:=ih (p++ [x]) (by rw [← hp];simp)
  rw [List.length_append,List.length_singleton] at a
  have f:=g x (by rw [← hp];simp)
  unfold wP
  generalize p.length=k at*
  generalize eG (l.drop (k+1))=rB at b
  have h0:(decide ((k:Int)<(l.length:Int)))=true:=decide_eq_true (by omega)
  have i:k<2^62:=by omega
  rcases tf (P x) with d0|d0
  ·rw [if_pos d0]
   exact .done (pN 159 [] 2 3 (.c (aC d0) (.k 6 (aQ k) (.c h0 (.c (aC h0) .nil)))) (.c f (.v 14 (.ppt b) .nil)) c)
  ·rw [if_neg (by rw [d0];decide)]
   exact .next (pN 159 [] 2 1 (.c (aB d0) (.k 6 (aQ k) (.c h0 (.c (aC h0) .nil)))) (.v 18 (.eq (iZ i)) (.c f (.v 14 (.ppt b) .nil))) c) a
theorem abp (l:List Br) (i:Nat) (a:aH prog ap [] 19 (.block 0 (.loop (ae 0 (af f159)))) ⟨[(0,.sl (eG l) l.length false),(1,.fn 131 [] []),(4,.int .i64 0),(5,.dead),(7,.int .i64 (l.length:Int)),(8,.int .i64 0),(9,.dead),(16,.dead)],[],.dead,[]⟩ (.ret) ⟨[(4,.int .i64 (i:Int))],[],.dead,[]⟩):CO 159 [.sl (eG l) l.length false,.fn 131 [] []] (.ret (.int .i64 (i:Int))):=pK [0] 0 0 .nil (.l a .nil)
theorem abn (l:List Br) (a:aH prog ap [] 19 (.block 0 (.loop (ae 0 (af f159)))) ⟨[(0,.sl (eG l) l.length false),(1,.fn 131 [] []),(4,.int .i64 0),(5,.dead),(7,.int .i64 (l.length:Int)),(8,.int .i64 0),(9,.dead),(16,.dead)],[],.dead,[]⟩ (.normal) ⟨[(0,.sl (eG l) l.length false)],[],.dead,[]⟩):CO 159 [.sl (eG l) l.length false,.fn 131 [] []] (.ret (.int .i64 (-1))):=pK [0] 0 0 .nil (.l a .nil)
theorem abl (l:List Br) (P:Br→Bool) (a:l.length<2^40) (d:∀ x ∈ l,CO 131 [.agg (FT x)] (.ret (.bool (P x)))):CO 159 [.sl (eG l) l.length false,.fn 131 [] []] (.ret (.int .i64 (ixI (wP P l 0)))):=by
 have h:∀ nt,19≤nt→aF prog ap [] nt (ae 0 (af f159)) Sv (ZZ l) (Uh l) 0 (wP P l 0):=fun nt c=>Uj c l P a d l [] rfl
 cases b:wP P l 0 with
 |none=>
  rw [b] at h
  exact abn l (aF.blk h (by simp [Sv]) rfl (aK.of ⟨rfl,rfl,rfl,rfl,trivial⟩) (aK.of ⟨rfl,trivial⟩))
 |some i=>
  rw [b] at h
  exact abp l i (aF.blk h (by simp [Sv]) rfl (aK.of ⟨rfl,rfl,rfl,rfl,trivial⟩) (aK.of ⟨rfl,trivial⟩))
theorem W_ (l:List Br) (a:Int) (b:CO 159 [.sl (eG l) l.length false,.fn 131 [] []] (.ret (.int .i64 a))):CO 130 [.sl (eG l) l.length false,.fn 131 [] []] (.ret (.bool (decide (((0:Nat):Int)≤a)))):=pK [] 0 0 .nil (.c b .nil)
theorem TF (l:List Br) (P:Br→Bool) (a:l.length<2^40) (c:∀ x ∈ l,CO 131 [.agg (FT x)] (.ret (.bool (P x)))):CO 130 [.sl (eG l) l.length false,.fn 131 [] []] (.ret (.bool (l.any P))):=by
 have h:=W_ l _ (abl l P a c)
 rw [← C_ P l 0]
 cases b:wP P l 0 with
 |none=>rw [b] at h;exact h
 |some i=>
  rw [b] at h
  rw [show (some i).isSome=decide (((0:Nat):Int)≤ixI (some i)) from (decide_eq_true (show ((0:Nat):Int)≤(i:Int) by omega)).symm]
  exact h
def Z4 (l:List Br) (k:Nat):St:=⟨[(0,.sl (eG l) l.length false),(1,.fn 160 [] []),(7,.int .i64 (l.length:Int)),(8,.int .i64 (k:Int))],[],.dead,[]⟩
def Ui (l:List Br):Option Nat→St
 |none=> ⟨[(0,.sl (eG l) l.length false)],[],.dead,[]⟩
 |some i=> ⟨[(4,.int .i64 (i:Int))],[],.dead,[]⟩
theorem Uk {nt:Nat} (c:19≤nt) (l:List Br) (P:Br→Bool) (e:l.length<2^40) (g:∀ x ∈ l,CO 160 [.agg (FT x)] (.ret (.bool (P x)))):∀ (r p:List Br),p++r=l→
  aF prog ap [] nt (ae 0 (af f159)) Sv (Z4 l) (Ui l) p.length (wP P r p.length):=by
 intro r
 induction r with
 |nil=>
  intro p hp
  rw [List.append_nil] at hp
  subst hp
  have h0:(decide ((p.length:Int)<(p.length:Int)))=false:=decide_eq_false (by omega)
  exact .done (pN 159 [] 1 0 (.c (aB h0) .nil) (.nil) c)
 | cons x r ih=>
  intro p hp
  have h:p.length<l.length:=by rw [← hp];simp
  have d:l[p.length]=x:=by subst hp;simp
  have b:=kR h
  rw [d] at b
  have a:=ih (p++ [x]) (by rw [← hp];simp)
  rw [List.length_append,List.length_singleton] at a
  have f:=g x (by rw [← hp];simp)
  unfold wP
  generalize p.length=k at*
  generalize eG (l.drop (k+1))=rB at b
  have h0:(decide ((k:Int)<(l.length:Int)))=true:=decide_eq_true (by omega)
  have i:k<2^62:=by omega
  rcases tf (P x) with d0|d0
  ·rw [if_pos d0]
   exact .done (pN 159 [] 2 3 (.c (aC d0) (.k 6 (aQ k) (.c h0 (.c (aC h0) .nil)))) (.c f (.v 14 (.ppt b) .nil)) c)
  ·rw [if_neg (by rw [d0];decide)]
   exact .next (pN 159 [] 2 1 (.c (aB d0) (.k 6 (aQ k) (.c h0 (.c (aC h0) .nil)))) (.v 18 (.eq (iZ i)) (.c f (.v 14 (.ppt b) .nil))) c) a
theorem abq (l:List Br) (i:Nat) (a:aH prog ap [] 19 (.block 0 (.loop (ae 0 (af f159)))) ⟨[(0,.sl (eG l) l.length false),(1,.fn 160 [] []),(4,.int .i64 0),(5,.dead),(7,.int .i64 (l.length:Int)),(8,.int .i64 0),(9,.dead),(16,.dead)],[],.dead,[]⟩ (.ret) ⟨[(4,.int .i64 (i:Int))],[],.dead,[]⟩):CO 159 [.sl (eG l) l.length false,.fn 160 [] []] (.ret (.int .i64 (i:Int))):=pK [0] 0 0 .nil (.l a .nil)
theorem abo (l:List Br) (a:aH prog ap [] 19 (.block 0 (.loop (ae 0 (af f159)))) ⟨[(0,.sl (eG l) l.length false),(1,.fn 160 [] []),(4,.int .i64 0),(5,.dead),(7,.int .i64 (l.length:Int)),(8,.int .i64 0),(9,.dead),(16,.dead)],[],.dead,[]⟩ (.normal) ⟨[(0,.sl (eG l) l.length false)],[],.dead,[]⟩):CO 159 [.sl (eG l) l.length false,.fn 160 [] []] (.ret (.int .i64 (-1))):=pK [0] 0 0 .nil (.l a .nil)
theorem abm (l:List Br) (P:Br→Bool) (a:l.length<2^40) (d:∀ x ∈ l,CO 160 [.agg (FT x)] (.ret (.bool (P x)))):CO 159 [.sl (eG l) l.length false,.fn 160 [] []] (.ret (.int .i64 (ixI (wP P l 0)))):=by
 have h:∀ nt,19≤nt→aF prog ap [] nt (ae 0 (af f159)) Sv (Z4 l) (Ui l) 0 (wP P l 0):=fun nt c=>Uk c l P a d l [] rfl
 cases b:wP P l 0 with
 |none=>
  rw [b] at h
  exact abo l (aF.blk h (by simp [Sv]) rfl (aK.of ⟨rfl,rfl,rfl,rfl,trivial⟩) (aK.of ⟨rfl,trivial⟩))
 |some i=>
  rw [b] at h
  exact abq l i (aF.blk h (by simp [Sv]) rfl (aK.of ⟨rfl,rfl,rfl,rfl,trivial⟩) (aK.of ⟨rfl,trivial⟩))
theorem Xa (l:List Br) (a:Int) (b:CO 159 [.sl (eG l) l.length false,.fn 160 [] []] (.ret (.int .i64 a))):CO 130 [.sl (eG l) l.length false,.fn 160 [] []] (.ret (.bool (decide (((0:Nat):Int)≤a)))):=pK [] 0 0 .nil (.c b .nil)
theorem TG (l:List Br) (P:Br→Bool) (a:l.length<2^40) (c:∀ x ∈ l,CO 160 [.agg (FT x)] (.ret (.bool (P x)))):CO 130 [.sl (eG l) l.length false,.fn 160 [] []] (.ret (.bool (l.any P))):=by
 have h:=Xa l _ (abm l P a c)
 rw [← C_ P l 0]
 cases b:wP P l 0 with
 |none=>rw [b] at h;exact h
 |some i=>
  rw [b] at h
  rw [show (some i).isSome=decide (((0:Nat):Int)≤ixI (some i)) from (decide_eq_true (show ((0:Nat):Int)≤(i:Int) by omega)).symm]
  exact h
def Hz (x:Br):Bool:= !(iW x.fn x.fa x.fd)|| !(iW x.rn x.ra x.rd)
def sG (x:Br):Bool:=decide (fV x.rn x.ra x.rd<((0:Nat):Int))
theorem aaL (x:Br) (hs:x.sm):CO 131 [.agg (FT x)] (.ret (.bool (Hz x))):=by
 rcases tf (iW x.fn x.fa x.fd) with b0|b0
 ·rw [show Hz x= !(iW x.rn x.ra x.rd) by unfold Hz;rw [b0];rfl]
  exact pK [] 1 0 (.k 3 (aS b0) (.n 3 .nil)) (.c (ja x.rn x.ra x.rd (Nat.lt_trans hs.2.1 (by decide)) (Nat.lt_trans hs.2.2 (by decide))) (.c (ja x.fn x.fa x.fd (Nat.lt_trans hs.1.1 (by decide)) (Nat.lt_trans hs.1.2 (by decide))) .nil))
 ·rw [show Hz x=true by unfold Hz;rw [b0];rfl]
  exact pK [] 1 1 (.c (dJ b0) (.n 3 .nil)) (.c (ja x.fn x.fa x.fd (Nat.lt_trans hs.1.1 (by decide)) (Nat.lt_trans hs.1.2 (by decide))) .nil)
theorem Xu (x:Br) (hs:x.sm):CO 160 [.agg (FT x)] (.ret (.bool (sG x))):=pK [] 0 0 (.n 3 .nil) (.c (fG x.rn x.ra x.rd (Nat.lt_trans hs.2.1 (by decide)) (Nat.lt_trans hs.2.2 (by decide))) .nil)
def ZL (cmp:Br→Br→Int) (l:List Br):Int:=cond (decide (((8:Nat):Int)<(l.length:Int))) 2 (cond ((l.length:Int)==((0:Nat):Int)) 11 (cond (FP cmp none l) (cond (l.any Hz) 3 0) 11))
theorem an5 (b:List UInt8) (u1 u2:Int) (l:List Br) (a:Bool) (c:(decide (((8:Nat):Int)<(l.length:Int)))=false) (d:((l.length:Int)==((0:Nat):Int))=false) (e:CO 130 [.sl (eG l) l.length false,.fn 131 [] []] (.ret (.bool a)))
  (l0:aH prog ap [] 60 (.block 1 (.loop (ae 1 (af f102)))) ⟨[(0,.agg [.str b,.int .i64 u1,.int .i64 u2,.sl (eG l) l.length false]),(1,.ptr 0 0 0),(2,.int .i64 0),(3,.sl (eG l) l.length false),(4,.dead),(5,.dead),(8,.bool (decide (((8:Nat):Int)<(l.length:Int)))),(12,.bool ((l.length:Int)==((0:Nat):Int))),(16,.sl (eG l) l.length false),(17,.int .i64 (l.length:Int)),(18,.int .i64 0),(19,.dead),(32,.dead),(56,.dead),(59,.dead)],[(0,⟨[.str b,.int .i64 u1,.int .i64 u2,.sl (eG l) l.length false],0,false,0,0,true⟩)],.dead,[]⟩ (.normal) ⟨[(3,.sl (eG l) l.length false)],[],.dead,[]⟩):CO 102 [.agg [.str b,.int .i64 u1,.int .i64 u2,.sl (eG l) l.length false]] (.ret (.int .i64 (cond a 3 0))):=by
 rcases tf a with b2|b2
 ·rw [show (cond a 3 0:Int)=3 by rw [b2];rfl]
  exact pK [1] 3 4 (.c (aC b2) (.c (aB d) (.c (aB c) (.n 1 .nil)))) (.c e (.l l0 .nil))
 ·rw [show (cond a 3 0:Int)=0 by rw [b2];rfl]
  exact pK [1] 3 0 (.c (aB b2) (.c (aB d) (.c (aB c) (.n 1 .nil)))) (.c e (.l l0 .nil))
theorem an4 (a:List UInt8) (u1 u2:Int) (l:List Br) (b:(decide (((8:Nat):Int)<(l.length:Int)))=false) (c:((l.length:Int)==((0:Nat):Int))=false)
  (l0:aH prog ap [] 60 (.block 1 (.loop (ae 1 (af f102)))) ⟨[(0,.agg [.str a,.int .i64 u1,.int .i64 u2,.sl (eG l) l.length false]),(1,.ptr 0 0 0),(2,.int .i64 0),(3,.sl (eG l) l.length false),(4,.dead),(5,.dead),(8,.bool (decide (((8:Nat):Int)<(l.length:Int)))),(12,.bool ((l.length:Int)==((0:Nat):Int))),(16,.sl (eG l) l.length false),(17,.int .i64 (l.length:Int)),(18,.int .i64 0),(19,.dead),(32,.dead),(56,.dead),(59,.dead)],[(0,⟨[.str a,.int .i64 u1,.int .i64 u2,.sl (eG l) l.length false],0,false,0,0,true⟩)],.dead,[]⟩ (.ret) ⟨[(2,.int .i64 11)],[],.dead,[]⟩):CO 102 [.agg [.str a,.int .i64 u1,.int .i64 u2,.sl (eG l) l.length false]] (.ret (.int .i64 11)):=pK [1] 2 0 (.c (aB c) (.c (aB b) (.n 1 .nil))) (.l l0 .nil)
theorem Eh (b:List UInt8) (u1 u2:Int) (l:List Br) (cmp:Br→Br→Int) (a:l.length<2^40) (c:∀ x ∈ l,x.sm) (g:rZ 129 cmp l):CO 102 [.agg [.str b,.int .i64 u1,.int .i64 u2,.sl (eG l) l.length false]] (.ret (.int .i64 (ZL cmp l))):=by
 unfold ZL
 rcases tf (decide (((8:Nat):Int)<(l.length:Int))) with d0|d0
 ·rw [d0]
  exact pK [] 1 1 (.c (aC d0) (.n 1 .nil)) (.nil)
 ·rw [d0]
  rcases tf ((l.length:Int)==((0:Nat):Int)) with d1|d1
  ·rw [d1]
   exact pK [] 2 2 (.c (aC d1) (.c (aB d0) (.n 1 .nil))) (.nil)
  ·rw [d1]
   have h:∀ nt,60≤nt→aF prog ap [] nt (ae 1 (af f102)) bkE (aef b u1 u2 l) (ZJ l) 0 (FP cmp none l):=fun nt f=>WV f b u1 u2 l cmp a c g l [] rfl
   cases d:FP cmp none l with
   |true=>
    rw [d] at h
    exact an5 b u1 u2 l _ d0 d1 (TF l Hz a fun x e=>aaL x (c x e)) (aF.blk h (by simp [bkE]) rfl (aK.of ⟨rfl,rfl,rfl,rfl,rfl,trivial⟩) (aK.of ⟨rfl,trivial⟩))
   |false=>
    rw [d] at h
    exact an4 b u1 u2 l d0 d1 (aF.blk h (by simp [bkE]) rfl (aK.of ⟨rfl,rfl,rfl,rfl,rfl,trivial⟩) (aK.of ⟨rfl,trivial⟩))
theorem Xv (b:List UInt8) (u1 u2:Int) (l:List Br) (a:Bool) (c:CO 130 [.sl (eG l) l.length false,.fn 160 [] []] (.ret (.bool a))):CO 132 [.agg [.str b,.int .i64 u1,.int .i64 u2,.sl (eG l) l.length false]] (.ret (.bool a)):=pK [] 0 0 (.n 1 .nil) (.c c .nil)
theorem TW (c:List UInt8) (u1 u2:Int) (l:List Br) (a:l.length<2^40) (b:∀ x ∈ l,x.sm):CO 132 [.agg [.str c,.int .i64 u1,.int .i64 u2,.sl (eG l) l.length false]] (.ret (.bool (l.any sG))):=Xv c u1 u2 l _ (TG l sG a fun x d=>Xu x (b x d))
theorem N7 (c:List UInt8) (u1 u2:Int) (l:List Br) (a:Int) (b:Bool) (cK_:CO 102 [.agg [.str c,.int .i64 u1,.int .i64 u2,.sl (eG l) l.length false]] (.ret (.int .i64 a))) (d:CO 132 [.agg [.str c,.int .i64 u1,.int .i64 u2,.sl (eG l) l.length false]] (.ret (.bool b))):CO 103 [.agg [.str c,.int .i64 u1,.int .i64 u2,.sl (eG l) l.length false]] (.ret (.bool (a==((0:Nat):Int) && !b))):=by
 rcases tf (a==((0:Nat):Int)) with b0|b0
 ·rw [b0,Bool.true_and]
  exact pK [] 1 1 (.k 4 (aC b0) (.n 4 .nil)) (.c d (.c cK_ .nil))
 ·rw [b0,Bool.false_and]
  exact pK [] 1 0 (.c (aB b0) (.n 4 .nil)) (.c cK_ .nil)
theorem Fh (c:List UInt8) (u1 u2:Int) (l:List Br) (cmp:Br→Br→Int) (a:l.length<2^40) (b:∀ x ∈ l,x.sm) (d:rZ 129 cmp l):CO 103 [.agg [.str c,.int .i64 u1,.int .i64 u2,.sl (eG l) l.length false]] (.ret (.bool (ZL cmp l==((0:Nat):Int) && !(l.any sG)))):=N7 c u1 u2 l _ _ (Eh c u1 u2 l cmp a b d) (TW c u1 u2 l a b)
def j_ (x:Br):Bool:=jm x.fn x.fa x.fd && jm x.rn x.ra x.rd
def Str (nm:List UInt8) (u1 u2:Int) (l:List Br) (k:Nat):St:=⟨[(1,.ptr 0 0 0),(3,.sl (eG l) l.length false),(4,.int .i64 (k:Int))],[(0,⟨[.str nm,.int .i64 u1,.int .i64 u2,.sl (eG l) l.length false],0,false,0,0,true⟩)],.dead,[]⟩
def adX (l:List Br):Bool→St
 |true=> ⟨[(3,.sl (eG l) l.length false)],[],.dead,[]⟩
 |false=> ⟨[(2,.int .i64 11)],[],.dead,[]⟩
def Er:Bool→bM
 |true=> .exit 0
 |false=> .ret
theorem akl {nt:Nat} (c:96≤nt) (i:List UInt8) (u1 u2:Int) (l:List Br) (h:l.length<2^40) (f:∀ x ∈ l,x.sm):∀ (r p:List Br),p++r=l→
  aF prog ap [] nt (ae 0 (af f71)) Er (Str i u1 u2 l) (adX l) p.length (r.all j_):=by
 intro r
 induction r with
 |nil=>
  intro p hp
  rw [List.append_nil] at hp
  subst hp
  have h0:(decide ((p.length:Int)<(p.length:Int)))=false:=decide_eq_false (by omega)
  exact .done (pN 71 [] 1 0 (.c (aB h0) .nil) (.nil) c)
 | cons x r ih=>
  intro p hp
  have j:p.length<l.length:=by rw [← hp];simp
  have g:l[p.length]=x:=by subst hp;simp
  have a:=kR j
  rw [g] at a
  have b:=ih (p++ [x]) (by rw [← hp];simp)
  rw [List.length_append,List.length_singleton] at b
  have hs:=f x (by rw [← hp];simp)
  have e:CO 104 [LZ x] (.ret (.bool (jm x.fn x.fa x.fd))):=ry x.fn x.fa x.fd hs.1.1 hs.1.2
  have d:CO 104 [brR x] (.ret (.bool (jm x.rn x.ra x.rd))):=ry x.rn x.ra x.rd hs.2.1 hs.2.2
  generalize p.length=k at*
  generalize eG (l.drop (k+1))=rB at a
  have h0:(decide ((k:Int)<(l.length:Int)))=true:=decide_eq_true (by omega)
  have m:k<2^62:=by omega
  rcases tf (jm x.fn x.fa x.fd) with d0|d0
  ·rcases tf (jm x.rn x.ra x.rd) with d1|d1
   ·simp only [List.all_cons,j_,d0,d1,Bool.true_and,Bool.false_and,Bool.and_true,Bool.and_false]
    exact .next (pN 71 [] 3 1 (.c (aS d1) (.c (aS d0) (.k 3 (aQ k) (.c h0 (.k 3 (aQ k) (.c h0 (.c (aC h0) .nil))))))) (.v 26 (.eq (iZ m)) (.c d (.v 35 (.ppt a) (.c e (.v 29 (.ppt a) .nil))))) c) b
   ·simp only [List.all_cons,j_,d0,d1,Bool.true_and,Bool.false_and,Bool.and_true,Bool.and_false]
    exact .done (pN 71 [] 3 5 (.c (dJ d1) (.c (aS d0) (.k 3 (aQ k) (.c h0 (.k 3 (aQ k) (.c h0 (.c (aC h0) .nil))))))) (.c d (.v 35 (.ppt a) (.c e (.v 29 (.ppt a) .nil)))) c)
  ·simp only [List.all_cons,j_,d0,Bool.true_and,Bool.false_and,Bool.and_true,Bool.and_false]
   exact .done (pN 71 [] 3 7 (.k 1 (dJ d0) (.k 3 (aQ k) (.c h0 (.k 3 (aQ k) (.c h0 (.c (aC h0) .nil)))))) (.c d (.v 35 (.ppt a) (.c e (.v 29 (.ppt a) .nil)))) c)
def zM (x:Br):Bool:=iW x.fn x.fa x.fd && iW x.rn x.ra x.rd
def Stf (l:List Br) (k:Nat):St:=⟨[(3,.sl (eG l) l.length false),(10,.int .i64 (k:Int))],[],.dead,[]⟩
def adV (l:List Br):Bool→St
 |true=> ⟨[(3,.sl (eG l) l.length false)],[],.dead,[]⟩
 |false=> ⟨[(2,.int .i64 3)],[],.dead,[]⟩
def Ef:Bool→bM
 |true=> .exit 4
 |false=> .ret
theorem akj {nt:Nat} (c:96≤nt) (l:List Br) (h:l.length<2^40) (f:∀ x ∈ l,x.sm):∀ (r p:List Br),p++r=l→
  aF prog ap [] nt (ae 4 (af f71)) Ef (Stf l) (adV l) p.length (r.all zM):=by
 intro r
 induction r with
 |nil=>
  intro p hp
  rw [List.append_nil] at hp
  subst hp
  have h0:(decide ((p.length:Int)<(p.length:Int)))=false:=decide_eq_false (by omega)
  exact .done (pN 71 [] 1 0 (.c (aB h0) .nil) (.nil) c)
 | cons x r ih=>
  intro p hp
  have i:p.length<l.length:=by rw [← hp];simp
  have g:l[p.length]=x:=by subst hp;simp
  have a:=kR i
  rw [g] at a
  have b:=ih (p++ [x]) (by rw [← hp];simp)
  rw [List.length_append,List.length_singleton] at b
  have hs:=f x (by rw [← hp];simp)
  have e:CO 105 [LZ x] (.ret (.bool (iW x.fn x.fa x.fd))):=iT x.fn x.fa x.fd hs.1.1 hs.1.2
  have d:CO 105 [brR x] (.ret (.bool (iW x.rn x.ra x.rd))):=iT x.rn x.ra x.rd hs.2.1 hs.2.2
  generalize p.length=k at*
  generalize eG (l.drop (k+1))=rB at a
  have h0:(decide ((k:Int)<(l.length:Int)))=true:=decide_eq_true (by omega)
  have j:k<2^62:=by omega
  rcases tf (iW x.fn x.fa x.fd) with d0|d0
  ·rcases tf (iW x.rn x.ra x.rd) with d1|d1
   ·simp only [List.all_cons,zM,d0,d1,Bool.true_and,Bool.false_and,Bool.and_true,Bool.and_false]
    exact .next (pN 71 [] 3 1 (.c (aS d1) (.c (aS d0) (.k 3 (aQ k) (.c h0 (.k 3 (aQ k) (.c h0 (.c (aC h0) .nil))))))) (.v 77 (.eq (iZ j)) (.c d (.v 86 (.ppt a) (.c e (.v 80 (.ppt a) .nil))))) c) b
   ·simp only [List.all_cons,zM,d0,d1,Bool.true_and,Bool.false_and,Bool.and_true,Bool.and_false]
    exact .done (pN 71 [] 3 5 (.c (dJ d1) (.c (aS d0) (.k 3 (aQ k) (.c h0 (.k 3 (aQ k) (.c h0 (.c (aC h0) .nil))))))) (.c d (.v 86 (.ppt a) (.c e (.v 80 (.ppt a) .nil)))) c)
  ·simp only [List.all_cons,zM,d0,Bool.true_and,Bool.false_and,Bool.and_true,Bool.and_false]
   exact .done (pN 71 [] 3 7 (.k 1 (dJ d0) (.k 3 (aQ k) (.c h0 (.k 3 (aQ k) (.c h0 (.c (aC h0) .nil)))))) (.c d (.v 86 (.ppt a) (.c e (.v 80 (.ppt a) .nil)))) c)
def Hq (cmp:Br→Br→Int):Br→List Br→Bool
 |_,[]=>true
 |y,x::r=>cond (decide (((0:Nat):Int)≤cmp y x)) false (Hq cmp x r)
def Sta (l:List Br) (k:Nat):St:=⟨[(3,.sl (eG l) l.length false),(8,.int .i64 (k:Int))],[],.dead,[]⟩
def adT (l:List Br):Bool→St
 |true=> ⟨[(3,.sl (eG l) l.length false)],[],.dead,[]⟩
 |false=> ⟨[(2,.int .i64 11)],[],.dead,[]⟩
def Ea:Bool→bM
 |true=> .exit 2
 |false=> .ret
theorem akh {nt:Nat} (j:96≤nt) (l:List Br) (cmp:Br→Br→Int) (n:l.length<2^40) (s:∀ x ∈ l,j_ x=true) (t:rZ 24 cmp l):∀ (r p:List Br) (y:Br),(p++ [y])++r=l→
  aF prog ap [] nt (ae 2 (af f71)) Ea (Sta l) (adT l) (p.length+1) (Hq cmp y r):=by
 intro r
 induction r with
 |nil=>
  intro p y hp
  rw [List.append_nil] at hp
  generalize m:p.length+1=k
  have v:l.length=k:=by rw [← hp,← m];simp
  have h0:(decide ((k:Int)<(l.length:Int)))=false:=decide_eq_false (by omega)
  exact .done (pN 71 [] 1 0 (.c (aB h0) .nil) (.nil) j)
 | cons x r ih=>
  intro p y hp
  have q:p.length+1<l.length:=by rw [← hp];simp
  have a:p.length<l.length:=by omega
  have d:l[p.length+1]=x:=by subst hp;simp
  have f:l[p.length]=y:=by subst hp;simp
  have i:=kR q
  have h:=kR a
  rw [d] at i
  rw [f] at h
  have e:=ih (p++ [y]) x (by rw [← hp];simp)
  rw [List.length_append,List.length_singleton] at e
  have b:=s x (by rw [← hp];simp)
  unfold j_ at b
  rw [Bool.and_eq_true] at b
  have o:=t p.length y x (by rw [List.getElem?_eq_getElem a,f]) (by rw [List.getElem?_eq_getElem q,d]) b.1 b.2
  unfold Hq
  have c:p.length+1=p.length+1:=rfl
  generalize m:p.length+1=k at*
  generalize w:p.length=k1 at*
  have c:k=k1+1:=m.symm
  generalize eG (l.drop (k+1))=rB at i
  generalize eG (l.drop k)=rC at h
  have h0:(decide ((k:Int)<(l.length:Int)))=true:=decide_eq_true (by omega)
  have u:k<2^62:=by omega
  have g:k<2^40:=by omega
  rcases tf (decide (((0:Nat):Int)≤(cmp y x))) with d0|d0
  ·rw [d0]
   exact .done (pN 71 [] 2 3 (.c (aC d0) (.k 3 (aQ k) (.c h0 (.k 3 (aQ k1) (.c (bK a) (.c (aC h0) .nil)))))) (.c o (.v 66 (.ppt i) (.v 61 (.ppt h) (.v 60 (.eq (wkn c g)) .nil)))) j)
  ·rw [d0]
   exact .next (pN 71 [] 2 1 (.c (aB d0) (.k 3 (aQ k) (.c h0 (.k 3 (aQ k1) (.c (bK a) (.c (aC h0) .nil)))))) (.v 57 (.eq (iZ u)) (.c o (.v 66 (.ppt i) (.v 61 (.ppt h) (.v 60 (.eq (wkn c g)) .nil))))) j) e
theorem atV (a:List UInt8) (u1 u2:Int) (l:List Br) (b:(decide (((8:Nat):Int)<(l.length:Int)))=false) (c:((l.length:Int)==((0:Nat):Int))=false) (d:aH prog ap [] 96 (.block 0 (.loop (ae 0 (af f71)))) ⟨[(0,.agg [.str a,.int .i64 u1,.int .i64 u2,.sl (eG l) l.length false]),(1,.ptr 0 0 0),(2,.int .i64 0),(3,.sl (eG l) l.length false),(4,.int .i64 0),(5,.dead),(6,.dead),(7,.dead),(8,.dead),(9,.dead),(10,.dead),(11,.dead),(12,.dead),(17,.bool (decide (((8:Nat):Int)<(l.length:Int)))),(20,.bool ((l.length:Int)==((0:Nat):Int))),(24,.dead),(44,.dead),(51,.dead),(55,.dead),(71,.dead),(75,.dead),(95,.dead)],[(0,⟨[.str a,.int .i64 u1,.int .i64 u2,.sl (eG l) l.length false],0,false,0,0,true⟩)],.dead,[]⟩ (.ret) ⟨[(2,.int .i64 11)],[],.dead,[]⟩):CO 71 [.agg [.str a,.int .i64 u1,.int .i64 u2,.sl (eG l) l.length false]] (.ret (.int .i64 11)):=pK [0,2,4] 2 0 (.c (aB c) (.c (aB b) (.n 1 .nil))) (.l d .nil)
theorem atY (c:List UInt8) (u1 u2:Int) (l:List Br) (e:(decide (((8:Nat):Int)<(l.length:Int)))=false) (g:((l.length:Int)==((0:Nat):Int))=false) (a:Br) (i:List AV) (d:List.drop 0 (eG l)=FT a++i) (b:(decide (((0:Nat):Int)<(l.length:Int)))=true) (f:CO 45 [LZ a] (.ret (.int .i64 (fV a.fn a.fa a.fd)))) (z:((fV a.fn a.fa a.fd)==((0:Nat):Int))=false) (h:aH prog ap [] 96 (.block 0 (.loop (ae 0 (af f71)))) ⟨[(0,.agg [.str c,.int .i64 u1,.int .i64 u2,.sl (eG l) l.length false]),(1,.ptr 0 0 0),(2,.int .i64 0),(3,.sl (eG l) l.length false),(4,.int .i64 0),(5,.dead),(6,.dead),(7,.dead),(8,.dead),(9,.dead),(10,.dead),(11,.dead),(12,.dead),(17,.bool (decide (((8:Nat):Int)<(l.length:Int)))),(20,.bool ((l.length:Int)==((0:Nat):Int))),(24,.dead),(44,.dead),(51,.dead),(55,.dead),(71,.dead),(75,.dead),(95,.dead)],[(0,⟨[.str c,.int .i64 u1,.int .i64 u2,.sl (eG l) l.length false],0,false,0,0,true⟩)],.dead,[]⟩ (.normal) ⟨[(3,.sl (eG l) l.length false)],[],.dead,[]⟩):CO 71 [.agg [.str c,.int .i64 u1,.int .i64 u2,.sl (eG l) l.length false]] (.ret (.int .i64 11)):=pK [0,2,4] 3 4 (.c (dJ z) (.k 4 b (.c (aB g) (.c (aB e) (.n 1 .nil))))) (.c f (.v 46 (.ppt d) (.l h .nil)))
theorem atW (c:List UInt8) (u1 u2:Int) (l:List Br) (e:(decide (((8:Nat):Int)<(l.length:Int)))=false) (g:((l.length:Int)==((0:Nat):Int))=false) (a:Br) (i:List AV) (d:List.drop 0 (eG l)=FT a++i) (b:(decide (((0:Nat):Int)<(l.length:Int)))=true) (f:CO 45 [LZ a] (.ret (.int .i64 (fV a.fn a.fa a.fd)))) (z:((fV a.fn a.fa a.fd)==((0:Nat):Int))=true) (h:aH prog ap [] 96 (.block 0 (.loop (ae 0 (af f71)))) ⟨[(0,.agg [.str c,.int .i64 u1,.int .i64 u2,.sl (eG l) l.length false]),(1,.ptr 0 0 0),(2,.int .i64 0),(3,.sl (eG l) l.length false),(4,.int .i64 0),(5,.dead),(6,.dead),(7,.dead),(8,.dead),(9,.dead),(10,.dead),(11,.dead),(12,.dead),(17,.bool (decide (((8:Nat):Int)<(l.length:Int)))),(20,.bool ((l.length:Int)==((0:Nat):Int))),(24,.dead),(44,.dead),(51,.dead),(55,.dead),(71,.dead),(75,.dead),(95,.dead)],[(0,⟨[.str c,.int .i64 u1,.int .i64 u2,.sl (eG l) l.length false],0,false,0,0,true⟩)],.dead,[]⟩ (.normal) ⟨[(3,.sl (eG l) l.length false)],[],.dead,[]⟩) (j:aH prog ap [] 96 (.block 2 (.loop (ae 2 (af f71)))) ⟨[(0,.dead),(1,.dead),(2,.dead),(3,.sl (eG l) l.length false),(4,.dead),(5,.dead),(6,.dead),(7,.int .i64 (fV a.fn a.fa a.fd)),(8,.int .i64 1),(9,.dead),(10,.dead),(11,.dead),(12,.dead),(17,.dead),(20,.dead),(24,.dead),(44,.dead),(51,.bool (!((fV a.fn a.fa a.fd)==((0:Nat):Int)))),(55,.dead),(71,.dead),(75,.dead),(95,.dead)],[],.dead,[]⟩ (.ret) ⟨[(2,.int .i64 11)],[],.dead,[]⟩):CO 71 [.agg [.str c,.int .i64 u1,.int .i64 u2,.sl (eG l) l.length false]] (.ret (.int .i64 11)):=pK [0,2,4] 3 0 (.c (aS z) (.k 4 b (.c (aB g) (.c (aB e) (.n 1 .nil))))) (.l j (.c f (.v 46 (.ppt d) (.l h .nil))))
theorem atX (c:List UInt8) (u1 u2:Int) (l:List Br) (e:(decide (((8:Nat):Int)<(l.length:Int)))=false) (g:((l.length:Int)==((0:Nat):Int))=false) (a:Br) (j:List AV) (d:List.drop 0 (eG l)=FT a++j) (b:(decide (((0:Nat):Int)<(l.length:Int)))=true) (f:CO 45 [LZ a] (.ret (.int .i64 (fV a.fn a.fa a.fd)))) (z:((fV a.fn a.fa a.fd)==((0:Nat):Int))=true) (i:aH prog ap [] 96 (.block 0 (.loop (ae 0 (af f71)))) ⟨[(0,.agg [.str c,.int .i64 u1,.int .i64 u2,.sl (eG l) l.length false]),(1,.ptr 0 0 0),(2,.int .i64 0),(3,.sl (eG l) l.length false),(4,.int .i64 0),(5,.dead),(6,.dead),(7,.dead),(8,.dead),(9,.dead),(10,.dead),(11,.dead),(12,.dead),(17,.bool (decide (((8:Nat):Int)<(l.length:Int)))),(20,.bool ((l.length:Int)==((0:Nat):Int))),(24,.dead),(44,.dead),(51,.dead),(55,.dead),(71,.dead),(75,.dead),(95,.dead)],[(0,⟨[.str c,.int .i64 u1,.int .i64 u2,.sl (eG l) l.length false],0,false,0,0,true⟩)],.dead,[]⟩ (.normal) ⟨[(3,.sl (eG l) l.length false)],[],.dead,[]⟩) (k:aH prog ap [] 96 (.block 2 (.loop (ae 2 (af f71)))) ⟨[(0,.dead),(1,.dead),(2,.dead),(3,.sl (eG l) l.length false),(4,.dead),(5,.dead),(6,.dead),(7,.int .i64 (fV a.fn a.fa a.fd)),(8,.int .i64 1),(9,.dead),(10,.dead),(11,.dead),(12,.dead),(17,.dead),(20,.dead),(24,.dead),(44,.dead),(51,.bool (!((fV a.fn a.fa a.fd)==((0:Nat):Int)))),(55,.dead),(71,.dead),(75,.dead),(95,.dead)],[],.dead,[]⟩ (.normal) ⟨[(3,.sl (eG l) l.length false)],[],.dead,[]⟩) (h:aH prog ap [] 96 (.block 4 (.loop (ae 4 (af f71)))) ⟨[(0,.dead),(1,.dead),(2,.dead),(3,.sl (eG l) l.length false),(4,.dead),(5,.dead),(6,.dead),(7,.dead),(8,.dead),(9,.dead),(10,.int .i64 0),(11,.dead),(12,.dead),(17,.dead),(20,.dead),(24,.dead),(44,.dead),(51,.dead),(55,.dead),(71,.dead),(75,.dead),(95,.dead)],[],.dead,[]⟩ (.ret) ⟨[(2,.int .i64 3)],[],.dead,[]⟩):CO 71 [.agg [.str c,.int .i64 u1,.int .i64 u2,.sl (eG l) l.length false]] (.ret (.int .i64 3)):=pK [0,2,4] 3 0 (.c (aS z) (.k 4 b (.c (aB g) (.c (aB e) (.n 1 .nil))))) (.l h (.l k (.c f (.v 46 (.ppt d) (.l i .nil)))))
theorem atZ (c:List UInt8) (u1 u2:Int) (l:List Br) (e:(decide (((8:Nat):Int)<(l.length:Int)))=false) (g:((l.length:Int)==((0:Nat):Int))=false) (a:Br) (j:List AV) (d:List.drop 0 (eG l)=FT a++j) (b:(decide (((0:Nat):Int)<(l.length:Int)))=true) (f:CO 45 [LZ a] (.ret (.int .i64 (fV a.fn a.fa a.fd)))) (z:((fV a.fn a.fa a.fd)==((0:Nat):Int))=true) (i:aH prog ap [] 96 (.block 0 (.loop (ae 0 (af f71)))) ⟨[(0,.agg [.str c,.int .i64 u1,.int .i64 u2,.sl (eG l) l.length false]),(1,.ptr 0 0 0),(2,.int .i64 0),(3,.sl (eG l) l.length false),(4,.int .i64 0),(5,.dead),(6,.dead),(7,.dead),(8,.dead),(9,.dead),(10,.dead),(11,.dead),(12,.dead),(17,.bool (decide (((8:Nat):Int)<(l.length:Int)))),(20,.bool ((l.length:Int)==((0:Nat):Int))),(24,.dead),(44,.dead),(51,.dead),(55,.dead),(71,.dead),(75,.dead),(95,.dead)],[(0,⟨[.str c,.int .i64 u1,.int .i64 u2,.sl (eG l) l.length false],0,false,0,0,true⟩)],.dead,[]⟩ (.normal) ⟨[(3,.sl (eG l) l.length false)],[],.dead,[]⟩) (k:aH prog ap [] 96 (.block 2 (.loop (ae 2 (af f71)))) ⟨[(0,.dead),(1,.dead),(2,.dead),(3,.sl (eG l) l.length false),(4,.dead),(5,.dead),(6,.dead),(7,.int .i64 (fV a.fn a.fa a.fd)),(8,.int .i64 1),(9,.dead),(10,.dead),(11,.dead),(12,.dead),(17,.dead),(20,.dead),(24,.dead),(44,.dead),(51,.bool (!((fV a.fn a.fa a.fd)==((0:Nat):Int)))),(55,.dead),(71,.dead),(75,.dead),(95,.dead)],[],.dead,[]⟩ (.normal) ⟨[(3,.sl (eG l) l.length false)],[],.dead,[]⟩) (h:aH prog ap [] 96 (.block 4 (.loop (ae 4 (af f71)))) ⟨[(0,.dead),(1,.dead),(2,.dead),(3,.sl (eG l) l.length false),(4,.dead),(5,.dead),(6,.dead),(7,.dead),(8,.dead),(9,.dead),(10,.int .i64 0),(11,.dead),(12,.dead),(17,.dead),(20,.dead),(24,.dead),(44,.dead),(51,.dead),(55,.dead),(71,.dead),(75,.dead),(95,.dead)],[],.dead,[]⟩ (.normal) ⟨[(3,.sl (eG l) l.length false)],[],.dead,[]⟩):CO 71 [.agg [.str c,.int .i64 u1,.int .i64 u2,.sl (eG l) l.length false]] (.ret (.int .i64 0)):=pK [0,2,4] 3 0 (.c (aS z) (.k 4 b (.c (aB g) (.c (aB e) (.n 1 .nil))))) (.l h (.l k (.c f (.v 46 (.ppt d) (.l i .nil)))))
theorem JA (cmp:Br→Br→Int):∀ (r:List Br) (y:Br),FP cmp (some y) r=(r.all j_ && Hq cmp y r)
 | [],_=>rfl
 |x::r,y=>by
  simp only [FP,List.all_cons,Hq,j_,JA cmp r x]
  cases jm x.fn x.fa x.fd<;>cases jm x.rn x.ra x.rd<;>cases decide (((0:Nat):Int)≤cmp y x)<;>cases r.all j_<;>simp
theorem SQ (cmp:Br→Br→Int) (x:Br) (r:List Br):FP cmp none (x::r)=((x::r).all j_ && ((fV x.fn x.fa x.fd==((0:Nat):Int)) && Hq cmp x r)):=by
 simp only [FP,List.all_cons,j_,JA cmp r x]
 cases jm x.fn x.fa x.fd<;>cases jm x.rn x.ra x.rd<;>cases (fV x.fn x.fa x.fd==((0:Nat):Int))<;>cases r.all j_<;>simp
theorem OC:∀ l:List Br,l.any Hz= !(l.all zM)
 | []=>rfl
 |x::r=>by
  rw [List.any_cons,List.all_cons,OC r]
  simp only [Hz,zM]
  cases iW x.fn x.fa x.fd<;>cases iW x.rn x.ra x.rd<;>simp
theorem D5 (e:List UInt8) (u1 u2:Int) (l:List Br) (cmp:Br→Br→Int) (c:l.length<2^40) (f:∀ x ∈ l,x.sm) (u:rZ 24 cmp l):CO 71 [.agg [.str e,.int .i64 u1,.int .i64 u2,.sl (eG l) l.length false]] (.ret (.int .i64 (ZL cmp l))):=by
 unfold ZL
 rcases tf (decide (((8:Nat):Int)<(l.length:Int))) with d0|d0
 ·rw [d0]
  exact pK [] 1 1 (.c (aC d0) (.n 1 .nil)) (.nil)
 ·rw [d0]
  rcases tf ((l.length:Int)==((0:Nat):Int)) with d1|d1
  ·rw [d1]
   exact pK [] 2 2 (.c (aC d1) (.c (aB d0) (.n 1 .nil))) (.nil)
  ·rw [d1]
   have o:l ≠ []:=by intro h;subst h;exact absurd d1 (by decide)
   obtain ⟨a,r,j⟩:=List.exists_cons_of_ne_nil o
   have b:(decide (((0:Nat):Int)<(l.length:Int)))=true:=decide_eq_true (by rw [j];simp only [List.length_cons];omega)
   have d:List.drop 0 (eG l)=FT a++eG r:=by rw [j];rfl
   have hs:=f a (by rw [j];simp)
   have m:CO 45 [LZ a] (.ret (.int .i64 (fV a.fn a.fa a.fd))):=fM a.fn a.fa a.fd hs.1.1 hs.1.2
   have t:FP cmp none l=(l.all j_ && ((fV a.fn a.fa a.fd==((0:Nat):Int)) && Hq cmp a r)):=by rw [j];exact SQ cmp a r
   have g:∀ nt,96≤nt→aF prog ap [] nt (ae 0 (af f71)) Er (Str e u1 u2 l) (adX l) 0 (l.all j_):=fun nt k=>akl k e u1 u2 l c f l [] rfl
   have n:∀ nt,96≤nt→aF prog ap [] nt (ae 4 (af f71)) Ef (Stf l) (adV l) 0 (l.all zM):=fun nt k=>akj k l c f l [] rfl
   rw [t,OC]
   cases p:l.all j_ with
   |false=>
    rw [p] at g
    rw [Bool.false_and]
    exact atV e u1 u2 l d0 d1 (aF.blk g (by simp [Er]) rfl (aK.of ⟨rfl,rfl,rfl,trivial⟩) (aK.of ⟨rfl,trivial⟩))
   | true=>
    have i:∀ nt,96≤nt→aF prog ap [] nt (ae 2 (af f71)) Ea (Sta l) (adT l) 1 (Hq cmp a r):=fun nt k=>akh k l cmp c (List.all_eq_true.1 p) u r [] a (by rw [j];rfl)
    rw [p] at g
    rw [Bool.true_and]
    rcases tf ((fV a.fn a.fa a.fd)==((0:Nat):Int)) with z|z
    ·rw [z,Bool.true_and]
     cases q:Hq cmp a r with
     |false=>
      rw [q] at i
      exact atW e u1 u2 l d0 d1 a _ d b m z (aF.blk g (by simp [Er]) rfl (aK.of ⟨rfl,rfl,rfl,trivial⟩) (aK.of ⟨rfl,trivial⟩)) (aF.blk i (by simp [Ea]) rfl (aK.of ⟨rfl,rfl,trivial⟩) (aK.of ⟨rfl,trivial⟩))
     | true=>
      rw [q] at i
      cases s:l.all zM with
      |false=>
       rw [s] at n
       exact atX e u1 u2 l d0 d1 a _ d b m z (aF.blk g (by simp [Er]) rfl (aK.of ⟨rfl,rfl,rfl,trivial⟩) (aK.of ⟨rfl,trivial⟩)) (aF.blk i (by simp [Ea]) rfl (aK.of ⟨rfl,rfl,trivial⟩) (aK.of ⟨rfl,trivial⟩)) (aF.blk n (by simp [Ef]) rfl (aK.of ⟨rfl,rfl,trivial⟩) (aK.of ⟨rfl,trivial⟩))
      |true=>
       rw [s] at n
       exact atZ e u1 u2 l d0 d1 a _ d b m z (aF.blk g (by simp [Er]) rfl (aK.of ⟨rfl,rfl,rfl,trivial⟩) (aK.of ⟨rfl,trivial⟩)) (aF.blk i (by simp [Ea]) rfl (aK.of ⟨rfl,rfl,trivial⟩) (aK.of ⟨rfl,trivial⟩)) (aF.blk n (by simp [Ef]) rfl (aK.of ⟨rfl,rfl,trivial⟩) (aK.of ⟨rfl,trivial⟩))
    ·rw [z,Bool.false_and]
     exact atY e u1 u2 l d0 d1 a _ d b m z (aF.blk g (by simp [Er]) rfl (aK.of ⟨rfl,rfl,rfl,trivial⟩) (aK.of ⟨rfl,trivial⟩))
def Stb (nm:List UInt8) (u1 u2:Int) (l:List Br) (k:Nat):St:=⟨[(0,.agg [.str nm,.int .i64 u1,.int .i64 u2,.sl (eG l) l.length false]),(1,.ptr 0 0 0),(3,.int .i64 (k:Int))],[(0,⟨[.str nm,.int .i64 u1,.int .i64 u2,.sl (eG l) l.length false],0,false,0,0,true⟩)],.dead,[]⟩
def adU (nm:List UInt8) (u1 u2:Int) (l:List Br):Bool→St
 |false=> ⟨[(0,.agg [.str nm,.int .i64 u1,.int .i64 u2,.sl (eG l) l.length false])],[],.dead,[]⟩
 |true=> ⟨[(2,.bool true)],[],.dead,[]⟩
def Eb:Bool→bM
 |false=> .exit 0
 |true=> .ret
theorem aki {nt:Nat} (e:19≤nt) (h:List UInt8) (u1 u2:Int) (l:List Br) (g:l.length<2^40) (c:∀ x ∈ l,x.sm):∀ (r p:List Br),p++r=l→
  aF prog ap [] nt (ae 0 (af f106)) Eb (Stb h u1 u2 l) (adU h u1 u2 l) p.length (r.any sG):=by
 intro r
 induction r with
 |nil=>
  intro p hp
  rw [List.append_nil] at hp
  subst hp
  have h0:(decide ((p.length:Int)<(p.length:Int)))=false:=decide_eq_false (by omega)
  exact .done (pN 106 [] 1 0 (.c (aB h0) (.n 1 .nil)) (.nil) e)
 | cons x r ih=>
  intro p hp
  have i:p.length<l.length:=by rw [← hp];simp
  have d:l[p.length]=x:=by subst hp;simp
  have b:=kR i
  rw [d] at b
  have a:=ih (p++ [x]) (by rw [← hp];simp)
  rw [List.length_append,List.length_singleton] at a
  have hs:=c x (by rw [← hp];simp)
  have f:CO 45 [brR x] (.ret (.int .i64 (fV x.rn x.ra x.rd))):=fM x.rn x.ra x.rd hs.2.1 hs.2.2
  rw [List.any_cons]
  generalize p.length=k at*
  generalize eG (l.drop (k+1))=rB at b
  have h0:(decide ((k:Int)<(l.length:Int)))=true:=decide_eq_true (by omega)
  have j:k<2^62:=by omega
  rcases tf (decide ((fV x.rn x.ra x.rd)<((0:Nat):Int))) with d0|d0
  ·rw [show sG x=true from d0,Bool.true_or]
   exact .done (pN 106 [] 2 3 (.c (aC d0) (.k 3 (aQ k) (.c h0 (.k 1 (aC h0) (.n 1 .nil))))) (.c f (.v 14 (.ppt b) .nil)) e)
  ·rw [show sG x=false from d0,Bool.false_or]
   exact .next (pN 106 [] 2 1 (.c (aB d0) (.k 3 (aQ k) (.c h0 (.k 1 (aC h0) (.n 1 .nil))))) (.v 10 (.eq (iZ j)) (.c f (.v 14 (.ppt b) .nil))) e) a
theorem aed (a:List UInt8) (u1 u2:Int) (l:List Br) (b:aH prog ap [] 19 (.block 0 (.loop (ae 0 (af f106)))) ⟨[(0,.agg [.str a,.int .i64 u1,.int .i64 u2,.sl (eG l) l.length false]),(1,.ptr 0 0 0),(2,.bool false),(3,.int .i64 0),(8,.dead),(18,.dead)],[(0,⟨[.str a,.int .i64 u1,.int .i64 u2,.sl (eG l) l.length false],0,false,0,0,true⟩)],.dead,[]⟩ (.ret) ⟨[(2,.bool true)],[],.dead,[]⟩):CO 106 [.agg [.str a,.int .i64 u1,.int .i64 u2,.sl (eG l) l.length false]] (.ret (.bool true)):=pK [0] 0 0 .nil (.l b .nil)
theorem aec (a:List UInt8) (u1 u2:Int) (l:List Br) (b:aH prog ap [] 19 (.block 0 (.loop (ae 0 (af f106)))) ⟨[(0,.agg [.str a,.int .i64 u1,.int .i64 u2,.sl (eG l) l.length false]),(1,.ptr 0 0 0),(2,.bool false),(3,.int .i64 0),(8,.dead),(18,.dead)],[(0,⟨[.str a,.int .i64 u1,.int .i64 u2,.sl (eG l) l.length false],0,false,0,0,true⟩)],.dead,[]⟩ (.normal) ⟨[(0,.agg [.str a,.int .i64 u1,.int .i64 u2,.sl (eG l) l.length false])],[],.dead,[]⟩):CO 106 [.agg [.str a,.int .i64 u1,.int .i64 u2,.sl (eG l) l.length false]] (.ret (.bool false)):=pK [0] 0 0 .nil (.l b .nil)
theorem aaM (a:List UInt8) (u1 u2:Int) (l:List Br) (b:l.length<2^40) (c:∀ x ∈ l,x.sm):CO 106 [.agg [.str a,.int .i64 u1,.int .i64 u2,.sl (eG l) l.length false]] (.ret (.bool (l.any sG))):=by
 have h:∀ nt,19≤nt→aF prog ap [] nt (ae 0 (af f106)) Eb (Stb a u1 u2 l) (adU a u1 u2 l) 0 (l.any sG):=fun nt e=>aki e a u1 u2 l b c l [] rfl
 cases d:l.any sG with
 |true=>rw [d] at h;exact aed a u1 u2 l (aF.blk h (by simp [Eb]) rfl (aK.of ⟨rfl,rfl,rfl,trivial⟩) (aK.of ⟨rfl,trivial⟩))
 |false=>rw [d] at h;exact aec a u1 u2 l (aF.blk h (by simp [Eb]) rfl (aK.of ⟨rfl,rfl,rfl,trivial⟩) (aK.of ⟨rfl,trivial⟩))
theorem NT (c:List UInt8) (u1 u2:Int) (l:List Br) (a:Int) (b:Bool) (cK_:CO 71 [.agg [.str c,.int .i64 u1,.int .i64 u2,.sl (eG l) l.length false]] (.ret (.int .i64 a))) (d:CO 106 [.agg [.str c,.int .i64 u1,.int .i64 u2,.sl (eG l) l.length false]] (.ret (.bool b))):CO 72 [.agg [.str c,.int .i64 u1,.int .i64 u2,.sl (eG l) l.length false]] (.ret (.bool (a==((0:Nat):Int) && !b))):=by
 rcases tf (a==((0:Nat):Int)) with b0|b0
 ·rw [b0,Bool.true_and]
  exact pK [] 1 1 (.k 4 (aC b0) (.n 4 .nil)) (.c d (.c cK_ .nil))
 ·rw [b0,Bool.false_and]
  exact pK [] 1 0 (.c (aB b0) (.n 4 .nil)) (.c cK_ .nil)
theorem KO (c:List UInt8) (u1 u2:Int) (l:List Br) (cmp:Br→Br→Int) (a:l.length<2^40) (b:∀ x ∈ l,x.sm) (d:rZ 24 cmp l):CO 72 [.agg [.str c,.int .i64 u1,.int .i64 u2,.sl (eG l) l.length false]] (.ret (.bool (ZL cmp l==((0:Nat):Int) && !(l.any sG)))):=NT c u1 u2 l _ _ (D5 c u1 u2 l cmp a b d) (aaM c u1 u2 l a b)
structure Sq where
 nm:List UInt8
 u1:Int
 u2:Int
 l:List Br
def Sq.c (q:Sq):Sc:=⟨q.nm,q.u1,q.u2,eG q.l,q.l.length⟩
def H5:List AV→List Br
 | .bool a::.str b::.str c::.bool d::.str e::.str f::r=> ⟨a,b,c,d,e,f⟩::H5 r
 |_=> []
theorem BP:∀ l:List Br,H5 (eG l)=l
 | []=>rfl
 |x::r=>by
  show H5 (FT x++eG r)=_
  simp only [FT,List.cons_append,List.nil_append,H5,BP r]
def JF (cmp:Br→Br→Int) (x:Sc):Int:=ZL cmp (H5 x.bx)
def LG (cmp:Br→Br→Int) (x:Sc):Bool:=(ZL cmp (H5 x.bx)==((0:Nat):Int)) && !((H5 x.bx).any sG)
def Hm (f:Nat) (cmp:Br→Br→Int) (qs:List Sq):Prop:=∀ q ∈ qs,q.l.length<2^40∧(∀ x ∈ q.l,x.sm)∧rZ f cmp q.l
theorem bZ (e:List Nd) (c:Bool) (qs:List Sq) (k:Bool) (cmp:Br→Br→Int) (f:Int) (a:List UInt8) (b:∀ y ∈ e,y.sm) (d:e.length<2^40) (g:qs.length<2^40) (o:Hm 129 cmp qs):
  CO 14 [.sl (aI e) e.length c,.sl (eX (qs.map Sq.c)) qs.length k,.int .i64 f,.str a] (.ret (.int .i64 ((jD (JF cmp) (LG cmp) e (qs.map Sq.c) f a:Nat):Int))):=by
 have h:=VE e c (qs.map Sq.c) k (JF cmp) (LG cmp) f a b d (by rw [List.length_map];exact g)
  (by
   intro x n
   obtain ⟨q,i,rfl⟩:=List.mem_map.1 n
   obtain ⟨j,m,l⟩:=o q i
   unfold JF LG
   rw [show H5 (Sq.c q).bx=q.l from BP q.l]
   exact ⟨Eh q.nm q.u1 q.u2 q.l cmp j m l,fun _=>Fh q.nm q.u1 q.u2 q.l cmp j m l⟩)
  (fun i=>ad2 e c (dG e) [] (by rw [show (dG e==((0:Nat):Int))=false from beq_eq_false_iff_ne.2 i];rfl) (B_ e c b))
 rw [List.length_map] at h
 exact h
theorem uu (e:List Nd) (c:Bool) (qs:List Sq) (k:Bool) (cmp:Br→Br→Int) (f:Int) (a:List UInt8) (b:∀ y ∈ e,y.sm) (d:e.length<2^40) (g:qs.length<2^40) (o:Hm 24 cmp qs):
  CO 15 [.sl (aI e) e.length c,.sl (eX (qs.map Sq.c)) qs.length k,.int .i64 f,.str a] (.ret (.int .i64 ((jD (JF cmp) (LG cmp) e (qs.map Sq.c) f a:Nat):Int))):=by
 have h:=Q3 e c (qs.map Sq.c) k (JF cmp) (LG cmp) f a b d (by rw [List.length_map];exact g)
  (by
   intro x n
   obtain ⟨q,i,rfl⟩:=List.mem_map.1 n
   obtain ⟨j,m,l⟩:=o q i
   unfold JF LG
   rw [show H5 (Sq.c q).bx=q.l from BP q.l]
   exact ⟨D5 q.nm q.u1 q.u2 q.l cmp j m l,fun _=>KO q.nm q.u1 q.u2 q.l cmp j m l⟩)
  (fun i=>abZ e c (dG e) [] 0 (by rw [show (dG e==((0:Nat):Int))=false from beq_eq_false_iff_ne.2 i];rfl) (zo e c b))
 rw [List.length_map] at h
 exact h
def Ed (so sp:List UInt8→Nat) (x:List UInt8):Bool:= !(decide (((1:Nat):Int)<((so x:Nat):Int))) && !(decide (((1:Nat):Int)<((sp x:Nat):Int)))
def Stn (e:List Nd) (ne:Bool) (sc:List Sc) (ns:Bool) (nl:List (List UInt8)) (nb:Bool) (k:Nat):St:=⟨[(0,.sl (aI e) e.length ne),(1,.sl (eX sc) sc.length ns),(2,.sl (List.map AV.str nl) nl.length nb),(7,.int .i64 (k:Int))],[],.dead,[]⟩
def adW (e:List Nd) (ne:Bool):Bool→St
 |true=> ⟨[(0,.sl (aI e) e.length ne)],[],.dead,[]⟩
 |false=> ⟨[(6,.bool false)],[],.dead,[]⟩
def En:Bool→bM
 |true=> .exit 0
 |false=> .ret
theorem Ri {a:List (List UInt8)} {k:Nat} (h:k<a.length):List.drop (Int.toNat (k:Int)*1) (List.map AV.str a)= [AV.str a[k]]++List.map AV.str (a.drop (k+1)):=by
 rw [aA,Nat.mul_one,← List.map_drop,List.drop_eq_getElem_cons h];rfl
theorem akk {nt:Nat} (g:39≤nt) (e:List Nd) (f:Bool) (d:List Sc) (n:Bool) (a:List (List UInt8)) (v:Bool) (i j:List UInt8→Nat) (s:a.length<2^40) (h:∀ x ∈ a,CO 15 [.sl (aI e) e.length f,.sl (eX d) d.length n,.int .i64 6,.str x] (.ret (.int .i64 ((i x:Nat):Int)))) (o:∀ x ∈ a,CO 15 [.sl (aI e) e.length f,.sl (eX d) d.length n,.int .i64 8,.str x] (.ret (.int .i64 ((j x:Nat):Int)))):∀ (r p:List (List UInt8)),p++r=a→
  aF prog ap [] nt (ae 0 (af f18)) En (Stn e f d n a v) (adW e f) p.length (r.all (Ed i j)):=by
 intro r
 induction r with
 |nil=>
  intro p hp
  rw [List.append_nil] at hp
  subst hp
  have h0:(decide ((p.length:Int)<(p.length:Int)))=false:=decide_eq_false (by omega)
  exact .done (pN 18 [] 1 0 (.c (aB h0) .nil) (.nil) g)
 | cons x r ih=>
  intro p hp
  have u:p.length<a.length:=by rw [← hp];simp
  have m:a[p.length]=x:=by subst hp;simp
  have b:=Ri u
  rw [m] at b
  have c:=ih (p++ [x]) (by rw [← hp];simp)
  rw [List.length_append,List.length_singleton] at c
  have l:=h x (by rw [← hp];simp)
  have q:=o x (by rw [← hp];simp)
  generalize p.length=k at*
  generalize List.map AV.str (a.drop (k+1))=rx at b
  have h0:(decide ((k:Int)<(a.length:Int)))=true:=decide_eq_true (by omega)
  have t:k<2^62:=by omega
  rcases tf (decide (((1:Nat):Int)<(((i x):Nat):Int))) with d0|d0
  ·simp only [List.all_cons,Ed,d0,Bool.not_true,Bool.not_false,Bool.true_and,Bool.false_and,Bool.and_true,Bool.and_false]
   exact .done (pN 18 [] 3 7 (.k 1 (aC d0) (.k 1 (aQ k) (.c h0 (.k 1 (aQ k) (.c h0 (.c (aC h0) .nil)))))) (.c q (.v 30 (.ppt b) (.c l (.v 23 (.ppt b) .nil)))) g)
  ·rcases tf (decide (((1:Nat):Int)<(((j x):Nat):Int))) with d1|d1
   ·simp only [List.all_cons,Ed,d0,d1,Bool.not_true,Bool.not_false,Bool.true_and,Bool.false_and,Bool.and_true,Bool.and_false]
    exact .done (pN 18 [] 3 5 (.c (aC d1) (.c (aB d0) (.k 1 (aQ k) (.c h0 (.k 1 (aQ k) (.c h0 (.c (aC h0) .nil))))))) (.c q (.v 30 (.ppt b) (.c l (.v 23 (.ppt b) .nil)))) g)
   ·simp only [List.all_cons,Ed,d0,d1,Bool.not_true,Bool.not_false,Bool.true_and,Bool.false_and,Bool.and_true,Bool.and_false]
    exact .next (pN 18 [] 3 1 (.c (aB d1) (.c (aB d0) (.k 1 (aQ k) (.c h0 (.k 1 (aQ k) (.c h0 (.c (aC h0) .nil))))))) (.v 18 (.eq (iZ t)) (.c q (.v 30 (.ppt b) (.c l (.v 23 (.ppt b) .nil))))) g) c
theorem acL (e:List Nd) (a:Bool) (c:List Sc) (d:Bool) (b:List (List UInt8)) (g:Bool) (w:Int) (z:(w==((0:Nat):Int))=false) (f:CO 48 [.sl (aI e) e.length a] (.ret (.int .i64 w))):CO 18 [.sl (aI e) e.length a,.sl (eX c) c.length d,.sl (List.map AV.str b) b.length g] (.ret (.bool false)):=pK [] 1 1 (.c (dJ z) .nil) (.c f .nil)
theorem acN (e:List Nd) (a:Bool) (c:List Sc) (d:Bool) (b:List (List UInt8)) (f:Bool) (w:Int) (z:(w==((0:Nat):Int))=true) (g:CO 48 [.sl (aI e) e.length a] (.ret (.int .i64 w))) (h:aH prog ap [] 39 (.block 0 (.loop (ae 0 (af f18)))) ⟨[(0,.sl (aI e) e.length a),(1,.sl (eX c) c.length d),(2,.sl (List.map AV.str b) b.length f),(6,.bool false),(7,.int .i64 0),(8,.dead),(9,.dead),(12,.bool (!(w==((0:Nat):Int)))),(16,.dead),(38,.dead)],[],.dead,[]⟩ (.normal) ⟨[(0,.sl (aI e) e.length a)],[],.dead,[]⟩):CO 18 [.sl (aI e) e.length a,.sl (eX c) c.length d,.sl (List.map AV.str b) b.length f] (.ret (.bool true)):=pK [0] 1 0 (.c (aS z) .nil) (.l h (.c g .nil))
theorem acM (e:List Nd) (c:Bool) (b:List Sc) (d:Bool) (a:List (List UInt8)) (f:Bool) (w:Int) (z:(w==((0:Nat):Int))=true) (g:CO 48 [.sl (aI e) e.length c] (.ret (.int .i64 w))) (h:aH prog ap [] 39 (.block 0 (.loop (ae 0 (af f18)))) ⟨[(0,.sl (aI e) e.length c),(1,.sl (eX b) b.length d),(2,.sl (List.map AV.str a) a.length f),(6,.bool false),(7,.int .i64 0),(8,.dead),(9,.dead),(12,.bool (!(w==((0:Nat):Int)))),(16,.dead),(38,.dead)],[],.dead,[]⟩ (.ret) ⟨[(6,.bool false)],[],.dead,[]⟩):CO 18 [.sl (aI e) e.length c,.sl (eX b) b.length d,.sl (List.map AV.str a) a.length f] (.ret (.bool false)):=pK [0] 1 0 (.c (aS z) .nil) (.l h (.c g .nil))
theorem IY (e:List Nd) (c:Bool) (b:List Sc) (d:Bool) (a:List (List UInt8)) (f:Bool) (g i:List UInt8→Nat) (n:∀ y ∈ e,y.sm) (j:a.length<2^40) (k:∀ x ∈ a,CO 15 [.sl (aI e) e.length c,.sl (eX b) b.length d,.int .i64 6,.str x] (.ret (.int .i64 ((g x:Nat):Int)))) (l:∀ x ∈ a,CO 15 [.sl (aI e) e.length c,.sl (eX b) b.length d,.int .i64 8,.str x] (.ret (.int .i64 ((i x:Nat):Int)))):
  CO 18 [.sl (aI e) e.length c,.sl (eX b) b.length d,.sl (List.map AV.str a) a.length f] (.ret (.bool ((dG e==((0:Nat):Int)) && a.all (Ed g i)))):=by
 have m:=zo e c n
 rcases tf (dG e==((0:Nat):Int)) with z|z
 ·rw [z,Bool.true_and]
  have h:∀ nt,39≤nt→aF prog ap [] nt (ae 0 (af f18)) En (Stn e c b d a f) (adW e c) 0 (a.all (Ed g i)):=fun nt p=>akk p e c b d a f g i j k l a [] rfl
  cases o:a.all (Ed g i) with
  |true=>rw [o] at h;exact acN e c b d a f _ z m (aF.blk h (by simp [En]) rfl (aK.of ⟨rfl,rfl,rfl,rfl,trivial⟩) (aK.of ⟨rfl,trivial⟩))
  |false=>rw [o] at h;exact acM e c b d a f _ z m (aF.blk h (by simp [En]) rfl (aK.of ⟨rfl,rfl,rfl,rfl,trivial⟩) (aK.of ⟨rfl,trivial⟩))
 ·rw [z,Bool.false_and]
  exact acL e c b d a f _ z m
end Go.Proofs.Tryz
open Go AM Go.RowKit Go.Shelf
namespace Go.Proofs.Tryz
attribute [local go_sem] Oper.semAt_some
theorem ng {W W':World} (h:Below W.heap.size W W'):mi (dW W) (dW W'):=by
 intro k o v a
 have b:=JC a
 rw [← a]
 unfold dW
 rw [h.block k b,World.cell?_of_block (h.block k b)]
theorem uf {W W':World} (h:Below W.heap.size W W') (d:lQ ap (dW W)):lQ ap (dW W'):=by
 intro k c f
 obtain ⟨vs,e,a⟩:=d k c f
 exact ⟨vs,bP (ng h) _ e,fun j u b=> ⟨ng h _ _ _ (a j u b).1,(a j u b).2⟩⟩
theorem amF {W:World} (a:lQ ap (dW W)) (m:bf):bY ap (bI []) m (dW W) W:=
 ⟨fun b c B B' h=>by simp [bI] at h,fun b B h=>by simp [bI] at h,fun k o v h=>h,fun b B h=>by simp [bI] at h,a⟩
theorem uS {f:Nat} {args:List AV} {d:IntKind} {x:Int} (l:CO f args (.ret (.int d x))) {W:World} (i:lQ ap (dW W)) {cargs:List Value} (j:dK (dW W) args cargs) {n:Nat}:
  CallsIn Fence.wide n prog f cargs.toArray W fun e W'=>e= .returned (.int d x)∧Below W.heap.size W W':=by
 refine callsIn_wide.2 ?_
 refine (l.calls (fun _=>(0,0)) (dW W) W cargs (amF i _) (bV _ j)).mono ?_
 rintro e W' ⟨m',S',hF⟩
 obtain ⟨_,a,c⟩:=hF
 obtain ⟨cv,rfl,g⟩:=c
 simp only [xq,VR,PR] at g
 subst g
 exact ⟨rfl,a.os,a.tape,a.output,a.size,fun k m=>a.rest k m fun b B h=>by simp [bI] at h⟩
theorem CV {W W':World} (h:Below W.heap.size W W') (a:Option Nat):W.grownBy W' a:=
 ⟨h.os,h.tape,h.output,h.size,fun k b _=>h.block k b⟩
def kV (f g:Nat→Int) (k:Nat):List Int:=(List.range k).flatMap fun j=> [f j,g j]
theorem rX (f g:Nat→Int) (k:Nat):kV f g (k+1)=kV f g k++ [f k]++ [g k]:=by simp [kV,List.range_succ]
theorem rW (f g:Nat→Int) (k:Nat):(kV f g k).length=2*k:=by
 induction k with
 |zero=>rfl
 |succ k ih=>rw [rX];simp [ih];omega
theorem RI (f g:Nat→Int) {k n:Nat} (h:k≤n):kV f g k<+:kV f g n:=by
 induction n with
 |zero=>obtain rfl:k=0:=by omega
      exact List.prefix_refl _
 |succ n ih=>
  by_cases hk:k=n+1
  ·subst hk;exact List.prefix_refl _
  ·exact (ih (by omega)).trans (by rw [rX,List.append_assoc];exact List.prefix_append _ _)
set_option maxRecDepth 100000 in
set_option maxHeartbeats 4000000 in
theorem N9 (n:Nat) (hn:2≤n) (l A L ks n₀ b q a G:Nat) (E SC:AV) (I H:Value) (s:Nat→List UInt8) (g m:Nat→Int) (hreach:a*16≤140737488351232)
  (hso:∀ k,k<a→CO 14 [E,SC,.int .i64 6,.str (s k)] (.ret (.int .i64 (g k)))) (hsp:∀ k,k<a→CO 14 [E,SC,.int .i64 8,.str (s k)] (.ret (.int .i64 (m k))))
  (J Jx:List Int→World→Prop) (W:World) (hAJ:AbidesFrom W.heap.size J)
  (hY:∀ pre x W1,J pre W1→pre.length<2*a→YieldAt Fence.wide (n - 1) prog l #[.int .i64 x] W1 fun e W'=>
   (e= .returned (.bool true)∧J (pre++ [x]) W'∧Below n₀ W1 W')∨(e= .returned (.bool false)∧Jx (pre++ [x]) W'))
  (hn0:n₀≤W.heap.size) (hbn:b<n₀) (hkn:A<n₀) (hke:L<n₀) (hks:ks<n₀)
  (w0:World) (hw0:w0.heap.size=n₀) (hW:Below n₀ w0 W) (hg:lQ ap (dW w0)) (hpr:dK (dW w0) [E,SC] [I,H])
  (cn:w0.cell? ⟨A,0,none⟩=some (.slice (some ⟨b,q,none⟩) a G)) (ce:w0.cell? ⟨L,0,none⟩=some I) (cs:w0.cell? ⟨ks,0,none⟩=some H)
  (hc:∀ j,j<a→w0.cell? ⟨b,q+j,none⟩=some (.string ⟨(s j).toArray⟩)) (h0:J [] W):
  CallsIn Fence.wide n prog 73 #[.func (.yield l) #[] #[],.pointer (some ⟨A,0,none⟩),.pointer (some ⟨L,0,none⟩),.pointer (some ⟨ks,0,none⟩)] W fun e W'=>(∃ v,e= .returned v)∧
   ((∃ ys,ys=kV g m a∧J ys W')∨(∃ pre,pre<+:kV g m a∧Jx pre W')):=by
 have d:∀ (w:World),Below n₀ w0 w→∀ (k j:Nat) (v:Value),k<n₀→w0.cell? ⟨k,j,none⟩=some v→w.cell? ⟨k,j,none⟩=some v:=fun w h k j v R hv=>(Below.cell h (p:=⟨k,j,none⟩) R).trans hv
 have X:=d _ hW _ _ _ hkn cn
 refine callsIn_of_wp Tryz.func73 rfl trivial ?_ rfl
 simp only [Tryz.ntmps73,List.size_toArray,List.length_cons,List.length_nil,Nat.reduceAdd,Nat.reduceSub,Array.replicate_succ,Array.replicate_zero,List.push_toArray,List.append_toArray,List.nil_append,List.cons_append]
 gi_wp2
 gi_loopw [9] (fun i z=> ∃ k:Nat,k≤a∧i= .int .i64 k∧J (kV g m k) z∧Below n₀ w0 z∧W.heap.size≤z.heap.size)
  (fun i _=>a - (intOf i).toNat)
 case atStart=>exact ⟨0,Nat.zero_le _,rfl,h0,hW,Nat.le_refl _⟩
 case round=>
  obtain ⟨k,R,rfl,t,f,Z⟩:=hrel
  have B:k<a→z.cell? ⟨b,q+k,none⟩=some (.string ⟨(s k).toArray⟩):=fun h=>d _ f _ _ _ hbn (hc k h)
  have ce1:=d _ f _ _ _ hke ce
  have Y:=d _ f _ _ _ hks cs
  by_cases hlt:k<a
  ·have N:=B hlt
   have o:∀ (w:World),Below n₀ w0 w→Below w0.heap.size w0 w:=fun w h=>by rw [hw0];exact h
   have PR4:∀ (w:World) (F:Int),Below n₀ w0 w→dK (dW w) [E,SC,.int .i64 F,.str (s k)] [I,H,.int .i64 F,.string ⟨(s k).toArray⟩]:=fun w F h=>by
    have M:=bP (ng (o w h)) _ hpr
    simp only [dK,PR] at M ⊢
    exact ⟨M.1,M.2.1,trivial,trivial,trivial⟩
   have LE1:kV g m a=kV g m k++ [g k]++ [m k]++(kV g m a).drop (2*(k+1)):=by
    rw [← rX]
    obtain ⟨r,P⟩:=RI g m (show k+1≤a by omega)
    conv=>rhs;rw [← P]
    rw [List.drop_left' (rW ..)]
    exact P.symm
   have Q:Fence.wide.fn 14:=trivial
   have V:1≤n:=by omega
   gi_wp2_with (gi_at_call 14;refine (uS (hso k hlt) (uf (o _ f) hg) (PR4 _ 6 f)).mono ?_;rintro e W1 ⟨rfl,hb1⟩;have C:=hAJ _ _ _ none t (CV hb1 none) (fun r e=>by cases e);have y:Below n₀ w0 W1:=f.trans (hb1.mono (by omega));obtain ⟨fn,tmps,assign,O,hy,hR⟩:=hY _ (g k) W1 C (by rw [rW];omega))
   refine hR.mono ?_
   rintro e W3 (⟨rfl,hJ3,hk3⟩|⟨rfl,hJx3⟩)
   ·have c:=y.trans hk3
    have ce3:=d _ c _ _ _ hke ce
    have U:=d _ c _ _ _ hks cs
    gi_wp2_with (gi_at_call 14;refine (uS (hsp k hlt) (uf (o _ c) hg) (PR4 _ 8 c)).mono ?_;rintro e W4 ⟨rfl,hb4⟩;have D:=hAJ _ _ _ none hJ3 (CV hb4 none) (fun r e=>by cases e);have u:Below n₀ w0 W4:=c.trans (hb4.mono (by rw [← hw0];exact c.size));obtain ⟨S,tmps4,assign4,body4,T,K⟩:=hY _ (m k) W4 D (by rw [List.length_append,rW,List.length_singleton];omega))
    refine K.mono ?_
    rintro e W5 (⟨rfl,hJ5,hk5⟩|⟨rfl,hJx5⟩)
    ·gi_wp2
     go_roundw
     case rel=>exact ⟨k+1,by omega,by simp,by rw [rX];exact hJ5,u.trans hk5,by have:=hb1.size;have:=hk3.size;have:=hb4.size;have:=hk5.size;omega⟩
     case measure=>simp [intOf];omega
    ·gi_wp2
     refine bodyPost_ret (results_none rfl _ _ _) rfl ?_
     exact ⟨⟨_,rfl⟩,.inr ⟨_,by rw [LE1];exact List.prefix_append _ _,hJx5⟩⟩
   ·gi_wp2_with (refine ⟨fun _ _=>trivial, ?_⟩)
    refine bodyPost_ret (results_none rfl _ _ _) rfl ?_
    exact ⟨⟨_,rfl⟩,.inr ⟨_,by rw [LE1,List.append_assoc];exact List.prefix_append _ _,hJx3⟩⟩
  ·obtain rfl:k=a:=by omega
   gi_wp2
   go_end0
   exact ⟨⟨_,rfl⟩,.inl ⟨_,rfl,t⟩⟩
attribute [local go_sem] Oper.semAt_some
theorem Q7 (b j i:Option Addr) (g h c a f d:Nat) (n:Nat) (w:World):
  CallsIn Fence.wide n prog 47 #[.slice b g a,.slice j h f,.slice i c d] w fun e w'=>e= .returned (.func (.func 73) #[] #[.pointer (some ⟨w.heap.size+2,0,none⟩),.pointer (some ⟨w.heap.size,0,none⟩),.pointer (some ⟨w.heap.size+1,0,none⟩)])∧w'=((w.alloc (.cells #[.slice b g a] 25)).alloc (.cells #[.slice j h f] 27)).alloc (.cells #[.slice i c d] 29):=by
 refine callsIn_of_wp Tryz.func47 rfl trivial ?_ rfl
 simp only [Tryz.ntmps47,List.size_toArray,List.length_cons,List.length_nil,Nat.reduceAdd,Nat.reduceSub,Array.replicate_succ,Array.replicate_zero,List.push_toArray,List.append_toArray,List.nil_append,List.cons_append]
 gi_wp2
 go_ret
 refine ⟨?_,rfl⟩
 simp
theorem Vl {w:World} {tmps:Array Value} {k:Nat} {b:Bool} (d:tmps.getD 6 undef= .pointer (some ⟨k,0,none⟩)) (e:w.cell? ⟨k,0,none⟩=some (.bool b)):(results f17 tmps).run prog w= .ok (.bool b) w:=by
 refine uA (vs:= [.bool b]) rfl ?_
 intro i r v c a
 match i with
 | 0=>
  simp only [List.getElem?_cons_zero,Option.some.injEq] at a
  subst a
  have:r= .cell 6 4:=by
   have h0:f17.results.toList[0]? =some (.cell 6 4):=rfl
   rw [h0] at c;exact (Option.some.inj c).symm
  subst this
  have f:prog.underlying 4=some .bool:=by kernel_rfl
  simp only [GV,d]
  simp [asAddr,loadVar,f,e,go_sem]
 |n+1=>simp at a
theorem QY (E:AV) (x:Int) (l:x ≠ 0) (d:CO 21 [E] (.ret (.int .i64 x))) (n:Nat) (q:3≤n) (f h g:Value) (w:World) (i:lQ ap (dW w)) (b:dK (dW w) [E] [f]):
  CallsIn Fence.wide n prog 17 #[f,h,g] w fun e w'=>e= .returned (.bool false)∧Below w.heap.size w w':=by
 have j:Fence.wide.fn 21:=trivial
 have k:1≤n:=by omega
 have a:Below w.heap.size w (w.alloc (.cells #[.bool false] 4)):=(Below.refl _ w).alloc (Nat.le_refl _) _
 have m:decide (x=0)=false:=decide_eq_false l
 refine callsIn_of_wp_marks Tryz.func17 rfl trivial ?_ rfl
 simp only [Tryz.ntmps17,List.size_toArray,List.length_cons,List.length_nil,Nat.reduceAdd,Nat.reduceSub,Array.replicate_succ,Array.replicate_zero,List.push_toArray,List.append_toArray,List.nil_append,List.cons_append]
 gi_wp2_with (gi_at_call 21;refine (uS d (uf a i) (bP (ng a) _ b)).mono ?_;rintro e W1 ⟨rfl,hb1⟩;have c:=(hb1.cell (p:=⟨w.heap.size,0,none⟩) (by simp)).trans (show (w.alloc (.cells #[.bool false] 4)).cell? ⟨w.heap.size,0,none⟩=some (.bool false) by simp);have o:=(hb1.frozen (p:=⟨w.heap.size,0,none⟩) (by simp)).trans (show (w.alloc (.cells #[.bool false] 4)).frozen? ⟨w.heap.size,0,none⟩=false by simp))
 exact ⟨_,Vl rfl (World.cell?_setCell_same' _ _ _ (by rw [c];rfl)),rfl,(a.trans (hb1.mono (by simp))).setCell (p:=⟨w.heap.size,0,none⟩) (Nat.le_refl _) _⟩
attribute [local go_sem] Oper.semAt_some
set_option maxRecDepth 100000 in
set_option maxHeartbeats 1000000 in
theorem La (n:Nat) (l f h ks a:Nat) (j:Option Addr) (c d:Nat→Int) (J Jx:List Int→World→Prop) (W:World) (k:W.cell? ⟨f,0,none⟩=some (.slice j 0 a)) (h0:J [] W):
  CallsIn Fence.wide n prog 73 #[.func (.yield l) #[] #[],.pointer (some ⟨f,0,none⟩),.pointer (some ⟨h,0,none⟩),.pointer (some ⟨ks,0,none⟩)] W fun e W'=>(∃ v,e= .returned v)∧
   ((∃ ys,ys=kV c d 0∧J ys W')∨(∃ pre,pre<+:kV c d 0∧Jx pre W')):=by
 refine callsIn_of_wp Tryz.func73 rfl trivial ?_ rfl
 simp only [Tryz.ntmps73,List.size_toArray,List.length_cons,List.length_nil,Nat.reduceAdd,Nat.reduceSub,Array.replicate_succ,Array.replicate_zero,List.push_toArray,List.append_toArray,List.nil_append,List.cons_append]
 gi_wp2
 gi_loopw [9] (fun i g=>i= .int .i64 0∧J [] g) (fun _ _=>0)
 case atStart=>exact ⟨rfl,h0⟩
 case round=>
  obtain ⟨rfl,b⟩:=hrel
  gi_wp2
  go_end0
  exact ⟨⟨_,rfl⟩,.inl ⟨_,rfl,b⟩⟩
theorem I9 (n:Nat) (C:2≤n) (f g ks b c d:Nat) (u:Option Addr) (E SC:AV) (r q:Value) (a:List (List UInt8)) (i m:List UInt8→Int) (hreach:a.length*16≤140737488351232)
  (hso:∀ s ∈ a,CO 14 [E,SC,.int .i64 6,.str s] (.ret (.int .i64 (i s)))) (hsp:∀ s ∈ a,CO 14 [E,SC,.int .i64 8,.str s] (.ret (.int .i64 (m s))))
  (w:World) (hg:lQ ap (dW w)) (hpr:dK (dW w) [E,SC] [r,q]) (hkn:f<w.heap.size) (hke:g<w.heap.size) (hks:ks<w.heap.size)
  (cn:w.cell? ⟨f,0,none⟩=some (.slice u a.length d)) (ce:w.cell? ⟨g,0,none⟩=some r) (cs:w.cell? ⟨ks,0,none⟩=some q)
  (hc:0<a.length→u=some ⟨b,c,none⟩∧b<w.heap.size∧∀ j,j<a.length→w.cell? ⟨b,c+j,none⟩=some (.string ⟨((a[j]?).getD []).toArray⟩)):
  SeqStopsK Fence.wide n prog 73 #[.pointer (some ⟨f,0,none⟩),.pointer (some ⟨g,0,none⟩),.pointer (some ⟨ks,0,none⟩)] (fun x:Int=> #[Value.int .i64 x]) (Below w.heap.size)
   (fun y=>y=kV (fun k=>i ((a[k]?).getD [])) (fun k=>m ((a[k]?).getD [])) a.length) (fun pre=>pre<+:kV (fun k=>i ((a[k]?).getD [])) (fun k=>m ((a[k]?).getD [])) a.length) (2*a.length) w:=by
 intro l J Jx W o z _ B h0
 have v:∀ k,k<a.length→(a[k]?).getD [] ∈ a:=fun k e=>by rw [List.getElem?_eq_getElem e];exact List.getElem_mem e
 by_cases h:0<a.length
 ·obtain ⟨rfl,D,t⟩:=hc h
  exact N9 n C l f g ks w.heap.size b c a.length d E SC r q (fun k=>(a[k]?).getD []) _ _ hreach (fun k e=>hso _ (v k e)) (fun k e=>hsp _ (v k e)) J Jx W z B o.size D hkn hke hks w rfl o hg hpr cn ce cs t h0
 ·have A:a.length=0:=by omega
  rw [A] at cn ⊢
  exact La n l f g ks d u _ _ J Jx W ((o.cell (p:=⟨f,0,none⟩) hkn).trans cn) h0
set_option maxRecDepth 100000 in
set_option maxHeartbeats 2000000 in
theorem NZ (E SC:AV) (M:CO 21 [E] (.ret (.int .i64 0))) (a:List (List UInt8)) (G H:List UInt8→Int) (hreach:a.length*16≤140737488351232)
  (hso:∀ s ∈ a,CO 14 [E,SC,.int .i64 6,.str s] (.ret (.int .i64 (G s)))) (hsp:∀ s ∈ a,CO 14 [E,SC,.int .i64 8,.str s] (.ret (.int .i64 (H s)))) (n:Nat) (hn:4≤n)
  (a1 a2 an:Option Addr) (l1 l2 c1 c2 cap b off:Nat) (w:World) (g:lQ ap (dW w)) (hpr:dK (dW w) [E,SC] [.slice a1 l1 c1,.slice a2 l2 c2])
  (J:0<a.length→an=some ⟨b,off,none⟩∧∀ j,j<a.length→w.cell? ⟨b,off+j,none⟩=some (.string ⟨((a[j]?).getD []).toArray⟩)):
  CallsIn Fence.wide n prog 17 #[.slice a1 l1 c1,.slice a2 l2 c2,.slice an a.length cap] w fun e w'=>e= .returned (.bool ((kV (fun k=>G ((a[k]?).getD [])) (fun k=>H ((a[k]?).getD [])) a.length).all fun x=>decide (x≤1)))∧Below w.heap.size w w':=by
 have h21:Fence.wide.fn 21:=trivial
 have h47:Fence.wide.fn 47:=trivial
 have I:1≤n:=by omega
 have O:Below w.heap.size w (w.alloc (.cells #[.bool false] 4)):=(Below.refl _ w).alloc (Nat.le_refl _) _
 have L:dK (dW w) [E] [.slice a1 l1 c1]:=by simp only [dK] at hpr ⊢;exact ⟨hpr.1,trivial⟩
 refine callsIn_of_wp_marks Tryz.func17 rfl trivial ?_ rfl
 simp only [Tryz.ntmps17,List.size_toArray,List.length_cons,List.length_nil,Nat.reduceAdd,Nat.reduceSub,Array.replicate_succ,Array.replicate_zero,List.push_toArray,List.append_toArray,List.nil_append,List.cons_append]
 gi_wp2_with (first
  |(gi_at_call 21;refine (uS M (uf O g) (bP (ng O) _ L)).mono ?_;rintro e W1 ⟨rfl,hb1⟩)
  |(gi_at_call 47;refine (Q7 a1 a2 an l1 l2 a.length c1 c2 cap _ _).mono ?_;rintro e W2 ⟨rfl,rfl⟩)
  |gi_in)
 obtain ⟨W3,d⟩:∃ W3,((W1.alloc (.cells #[.slice a1 l1 c1] 25)).alloc (.cells #[.slice a2 l2 c2] 27)).alloc (.cells #[.slice an a.length cap] 29)=W3:=⟨_,rfl⟩
 rw [d]
 have hs3:W3.heap.size=W1.heap.size+3:=by rw [← d];simp
 have q:Below W1.heap.size W1 W3:=by rw [← d];exact (((Below.refl _ W1).alloc (Nat.le_refl _) _).alloc (by simp) _).alloc (by simp;omega) _
 have F:w.heap.size+1≤W1.heap.size:=by have:=hb1.size;simpa using this
 have C:Below w.heap.size w W1:=O.trans (hb1.mono (by simp))
 have f:Below w.heap.size w W3:=C.trans (q.mono (by omega))
 have k1:W3.cell? ⟨W1.heap.size,0,none⟩=some (.slice a1 l1 c1):=by rw [← d];exact (((Boxed.new W1 25 (.slice a1 l1 c1)).alloc _).alloc _).cell
 have k2:W3.cell? ⟨W1.heap.size+1,0,none⟩=some (.slice a2 l2 c2):=by
  have:=((Boxed.new (W1.alloc (.cells #[.slice a1 l1 c1] 25)) 27 (.slice a2 l2 c2)).alloc (.cells #[.slice an a.length cap] 29)).cell
  rw [World.size_alloc] at this
  rw [← d];exact this
 have k3:W3.cell? ⟨W1.heap.size+2,0,none⟩=some (.slice an a.length cap):=by
  have:=(Boxed.new ((W1.alloc (.cells #[.slice a1 l1 c1] 25)).alloc (.cells #[.slice a2 l2 c2] 27)) 29 (.slice an a.length cap)).cell
  rw [World.size_alloc,World.size_alloc] at this
  rw [← d];exact this
 have V:W3.cell? ⟨w.heap.size,0,none⟩=some (.bool false):=((q.cell (p:=⟨w.heap.size,0,none⟩) F).trans (hb1.cell (p:=⟨w.heap.size,0,none⟩) (by simp))).trans (Boxed.new w 4 (.bool false)).cell
 have X:W3.frozen? ⟨w.heap.size,0,none⟩=false:=((q.frozen (p:=⟨w.heap.size,0,none⟩) F).trans (hb1.frozen (p:=⟨w.heap.size,0,none⟩) (by simp))).trans (Boxed.new w 4 (.bool false)).frozen
 have R:0<a.length→an=some ⟨b,off,none⟩∧b<W3.heap.size∧∀ j,j<a.length→W3.cell? ⟨b,off+j,none⟩=some (.string ⟨((a[j]?).getD []).toArray⟩):=by
  intro h
  obtain ⟨h1,Q⟩:=J h
  have N:b<w.heap.size:=World.block_lt_of_cell? w ⟨b,off+0,none⟩ (Q 0 h)
  exact ⟨h1,by omega,fun j hj=>(f.cell (p:=⟨b,off+j,none⟩) N).trans (Q j hj)⟩
 have S:∀ {A B:World} {m:Option Nat},Below w.heap.size w A→A.grownBy B m→(∀ r,m=some r→W3.heap.size≤r∧∃ o:Obj,A.heap[r]? =some o∧o.isCells=false)→Below w.heap.size w B:=
  fun h g i=>ownFrom_below (β:=Unit) (n₀:=w.heap.size) (B:=W3.heap.size) (w₀:=w) (Nat.le_refl _) f.size () _ _ _ h g i
 have T:∀ {A:World} {D:Nat} {o:Obj} {v:Value},W3.heap.size≤D→A.cell? ⟨w.heap.size,0,none⟩=some v→(A.putObj D o).cell? ⟨w.heap.size,0,none⟩=some v:=
  fun {A D o v} hD hv=>(World.cell?_of_block (World.putObj_heap_other (show w.heap.size ≠ D by omega))).trans hv
 have U:∀ {A:World} {D:Nat} {o:Obj},W3.heap.size≤D→Below w.heap.size w A→Below w.heap.size w (A.putObj D o):=
  fun {A D o} hD h=>h.trans ((Below.refl _ A).grown (grownBy_putObj' A D o) h.size (fun k e=>by cases e;omega))
 refine wpIn_rangeFunc_ownF rfl I (gf:=73) (lb:=#[.pointer (some ⟨W1.heap.size+2,0,none⟩),.pointer (some ⟨W1.heap.size,0,none⟩),.pointer (some ⟨W1.heap.size+1,0,none⟩)]) rfl trivial (qo Tryz.func73 (by kernel_rfl) rfl)
  (I9 (n - 1) (by omega) (W1.heap.size+2) W1.heap.size (W1.heap.size+1) b off cap an E SC _ _ a G H hreach hso hsp W3 (uf f g) (bP (ng f) _ hpr) (by omega) (by omega) (by omega) k3 k1 k2 R)
  (fun h k=>h.trans k) (fun W l o Z hl h J hw=>belowK_b (Nat.le_refl _) W l o Z hl h J hw) (Below.refl _ _) (fun _=>rfl)
  (fun pre W=>(∀ x ∈ pre,x≤1)∧W.cell? ⟨w.heap.size,0,none⟩=some (.bool false)∧W.frozen? ⟨w.heap.size,0,none⟩=false∧Below w.heap.size w W)
  (fun c pre W=>c= .ret∧(∃ x ∈ pre,¬ x≤1)∧W.cell? ⟨w.heap.size,0,none⟩=some (.bool false)∧Below w.heap.size w W)
  (fun s A B m hs g i=> ⟨hs.1,cell_kept hs.2.1 g (fun r e=>(i r e).2),(frozen_kept hs.2.1 g (fun r e=>(i r e).2)).trans hs.2.2.1,S hs.2.2.2 g i⟩)
  (fun c s A B m hs g i=> ⟨hs.1,hs.2.1,cell_kept hs.2.2.1 g (fun r e=>(i r e).2),S hs.2.2.2 g i⟩)
  ⟨by simp,V,X,f⟩
  (fun x=> {tmps:=#[.slice a1 l1 c1,.slice a2 l2 c2,.slice an a.length cap,undef,undef,undef,.pointer (some ⟨w.heap.size,0,none⟩),.int .i64 x,.slice a1 l1 c1,.int .i64 0,.bool false,.slice a1 l1 c1,.slice a2 l2 c2,.slice an a.length cap,.func (.func 73) #[] #[.pointer (some ⟨W1.heap.size+2,0,none⟩),.pointer (some ⟨W1.heap.size,0,none⟩),.pointer (some ⟨W1.heap.size+1,0,none⟩)],.int .i64 x,undef,undef],defers:= []}) ?assign ?body ?done ?stop
 case assign=>
  intro l x W K u
  gi_wp2
  exact u
 case body=>
  rintro l pre x W ⟨hp,hcW,hfW,hbW⟩ _
  by_cases t:x≤1
  ·have z:¬ (1<x):=by omega
   gi_wp2
   exact ⟨KeepsOthers.refl _,Below.refl _ _,(fun y Y=>by rcases List.mem_append.1 Y with h|h;exact hp y h;rw [List.mem_singleton.1 h];exact t),hcW,hfW,hbW⟩
  ·have z:1<x:=by omega
   gi_wp2
   exact ⟨KeepsOthers.setCell _ _ _,rfl,⟨x,by simp,t⟩,World.cell?_setCell_same' _ _ _ (by rw [hcW];rfl),hbW.setCell (p:=⟨w.heap.size,0,none⟩) (Nat.le_refl _) _⟩
 case done=>
  rintro D xs W hD rfl ⟨hp,hcW,hfW,hbW⟩ u
  gi_wp2
  have P:(W.setCell ⟨w.heap.size,0,none⟩ (.bool true)).heap[D]? =some (.deferred (some [])):=(Below.heap_setCell W ⟨w.heap.size,0,none⟩ (.bool true) D (by show D ≠ w.heap.size;omega)).trans u
  refine ⟨by simp,.inl ⟨_,_,rfl,run_takeDeferred P, ?_⟩⟩
  refine ⟨_,Vl rfl (T hD (World.cell?_setCell_same' _ _ _ (by rw [hcW];rfl))), ?_,U hD (hbW.setCell (p:=⟨w.heap.size,0,none⟩) (Nat.le_refl _) _)⟩
  congr 2
  exact (List.all_eq_true.2 fun x t=>decide_eq_true (hp x t)).symm
 case stop=>
  rintro D c pre W hD hSp ⟨rfl,⟨x,t,z⟩,hcW,hbW⟩ u
  gi_wp2
  refine ⟨by simp,.inl ⟨_,_,rfl,run_takeDeferred u, ?_⟩⟩
  refine ⟨_,Vl rfl (T hD hcW), ?_,U hD hbW⟩
  congr 2
  obtain ⟨r,i⟩:=hSp
  symm
  rw [Bool.eq_false_iff]
  intro h
  rw [← i] at h
  have Q:=of_decide_eq_true (List.all_eq_true.1 h x (List.mem_append.2 (.inl t)))
  omega
def XF (x:AV):Prop:=x= .nilS∨∃ l n b,x= .sl l n b
theorem XF.val {S:aW} {x:AV} {v:Value} (h:XF x) (d:PR S x v):∃ a l c,v= .slice a l c:=by
 rcases h with rfl|⟨l,n,b,rfl⟩
 ·simp only [PR] at d;exact ⟨_,_,_,d⟩
 ·simp only [PR] at d;obtain ⟨a,e,rfl,_⟩:=d;exact ⟨_,_,_,rfl⟩
def VM (ns:List (List UInt8)) (b:Bool):AV:= .sl (ns.map .str) ns.length b
theorem VN {S:aW} {e:List (List UInt8)} {b:Bool} {v:Value} (f:PR S (VM e b) v):∃ an c k d,v= .slice an e.length c∧(0<e.length→an=some ⟨k,d,none⟩∧∀ j,j<e.length→S k (d+j)=some (.string ⟨((e[j]?).getD []).toArray⟩)):=by
 simp only [VM,PR] at f
 obtain ⟨a,c,rfl,_,h⟩:=f
 rcases h with ⟨rfl,_,h,_⟩|⟨k,d,vs,rfl,i,n⟩
 ·exact ⟨none,c,0,0,rfl,fun l=>by have:=congrArg List.length h;simp at this;subst this;simp at l⟩
 ·refine ⟨_,c,k,d,rfl,fun _=> ⟨rfl,fun j m=> ?_⟩⟩
  obtain ⟨u,g,hp⟩:=Oz i j (x:= .str ((e[j]?).getD [])) (by rw [List.getElem?_map,List.getElem?_eq_getElem m];rfl)
  simp only [PR] at hp
  rw [← hp]
  exact (n j u g).1
theorem ajo:yJ prog 17:=qo Tryz.func17 (by kernel_rfl) rfl
theorem Eg {args:List AV} {b:Bool} (h:∀ w cargs,lQ ap (dW w)→dK (dW w) args cargs→CallsIn Fence.wide 9 prog 17 cargs.toArray w fun e w'=>e= .returned (.bool b)∧Below w.heap.size w w'):CO 17 args (.ret (.bool b)):=by
 refine ⟨Nat.le_refl _,ajo, ?_⟩
 intro m S w cargs d p
 have a:mi S (dW w):=fun k o v c=>d.sealed k o v c
 have l:lQ ap (dW w):=by
  intro k i c
  obtain ⟨vs,n,f⟩:=d.glob k i c
  exact ⟨vs,bP a _ n,fun j u g=> ⟨a _ _ _ (f j u g).1,(f j u g).2⟩⟩
 refine (callsIn_wide.1 (h w cargs l (bP a _ (kw (m:=m) _ p)))).mono ?_
 rintro e w' ⟨rfl,hb⟩
 refine ⟨m,S, ?_, ?_,⟨_,rfl, ?_⟩⟩
 ·exact ⟨fun b q B B' h=>by simp [bI,kT,jZ] at h,fun b B h=>by simp [bI,kT,jZ] at h,fun k o v h=>ng hb k o v (a k o v h),fun b B h=>by simp [bI,kT,jZ] at h,d.glob⟩
 ·exact ⟨Ge.refl _ _,mi.refl S,hb.os,hb.tape,hb.output,hb.size,fun k c _=>hb.block k c,fun _ B h=>by simp [bI,kT,jZ] at h,fun _ _ _ h=> .inl h⟩
 ·simp only [xq,VR,PR]
theorem Vo (E SC NM:AV) (x:Int) (d:x ≠ 0) (b:CO 21 [E] (.ret (.int .i64 x))):CO 17 [E,SC,NM] (.ret (.bool false)):=by
 refine Eg fun w cargs c a=> ?_
 match cargs,a with
 | [ue,us,un],a=>
  simp only [dK] at a
  exact QY E x d b 9 (by omega) ue us un w c (by simp only [dK];exact ⟨a.1,trivial⟩)
theorem Vp (E SC:AV) (b:Bool) (C:XF E) (l:XF SC) (m:CO 21 [E] (.ret (.int .i64 0))) (a:List (List UInt8)) (c d:List UInt8→Int) (hreach:a.length*16≤140737488351232)
  (hso:∀ s ∈ a,CO 14 [E,SC,.int .i64 6,.str s] (.ret (.int .i64 (c s)))) (hsp:∀ s ∈ a,CO 14 [E,SC,.int .i64 8,.str s] (.ret (.int .i64 (d s)))):
  CO 17 [E,SC,VM a b] (.ret (.bool (a.all fun s=>decide (c s≤1) && decide (d s≤1)))):=by
 have e:(a.all fun s=>decide (c s≤1) && decide (d s≤1))=(kV (fun k=>c ((a[k]?).getD [])) (fun k=>d ((a[k]?).getD [])) a.length).all fun x=>decide (x≤1):=by
  have:a=(List.range a.length).map fun k=>(a[k]?).getD []:=by
   apply List.ext_getElem
   ·simp
   ·intro i f p;simp [List.getElem?_eq_getElem f]
  conv=>lhs;rw [this]
  simp [kV,List.all_flatMap,List.all_map,Function.comp_def]
 rw [e]
 refine Eg fun w cargs B g=> ?_
 match cargs,g with
 | [ue,us,un],g=>
  simp only [dK] at g
  obtain ⟨f,p,t,_⟩:=g
  obtain ⟨r,F,A,rfl⟩:=C.val f
  obtain ⟨y,z,u,rfl⟩:=l.val p
  obtain ⟨v,n,k,o,rfl,q⟩:=VN t
  exact NZ E SC m a c d hreach hso hsp 9 (by omega) r y v F z A u n k o w B (by simp only [dK];exact ⟨f,p,trivial⟩) fun h=> ⟨(q h).1,fun j D=>uM ((q h).2 j D) rfl⟩
end Go.Proofs.Tryz
set_option maxRecDepth 100000
open Go AM
namespace Go.Proofs.Tryz
theorem YM (a b:List UInt8→Nat) (x:List UInt8):Ed a b x=(decide (((a x:Nat):Int)≤1) && decide (((b x:Nat):Int)≤1)):=by
 unfold Ed
 congr 1
 ·by_cases h:((a x:Nat):Int)≤1
  ·rw [decide_eq_true h,decide_eq_false (by omega)];rfl
  ·rw [decide_eq_false h,decide_eq_true (by omega)];rfl
 ·by_cases h:((b x:Nat):Int)≤1
  ·rw [decide_eq_true h,decide_eq_false (by omega)];rfl
  ·rw [decide_eq_false h,decide_eq_true (by omega)];rfl
def I8 (cmp:Br→Br→Int) (e:List Nd) (qs:List Sq) (nl:List (List UInt8)):Bool:=
 (dG e==((0:Nat):Int)) && nl.all (Ed (fun x=>jD (JF cmp) (LG cmp) e (qs.map Sq.c) 6 x) (fun x=>jD (JF cmp) (LG cmp) e (qs.map Sq.c) 8 x))
theorem lw (e:List Nd) (f:Bool) (qs:List Sq) (g:Bool) (cmp:Br→Br→Int) (b:List (List UInt8)) (j:Bool) (a:∀ y ∈ e,y.sm) (d:e.length<2^40) (c:qs.length<2^40) (i:Hm 129 cmp qs) (k:b.length<2^40):
  CO 17 [.sl (aI e) e.length f,.sl (eX (qs.map Sq.c)) qs.length g,.sl (List.map AV.str b) b.length j] (.ret (.bool (I8 cmp e qs b))):=by
 have ck:=B_ e f a
 unfold I8
 by_cases hq:dG e=0
 ·rw [hq] at ck
  have h:=Vp (.sl (aI e) e.length f) (.sl (eX (qs.map Sq.c)) qs.length g) j (.inr ⟨_,_,_,rfl⟩) (.inr ⟨_,_,_,rfl⟩) ck b
   (fun x=>((jD (JF cmp) (LG cmp) e (qs.map Sq.c) 6 x:Nat):Int)) (fun x=>((jD (JF cmp) (LG cmp) e (qs.map Sq.c) 8 x:Nat):Int)) (by omega)
   (fun x _=>bZ e f qs g cmp 6 x a d c i) (fun x _=>bZ e f qs g cmp 8 x a d c i)
  rw [hq,show ((0:Int)==((0:Nat):Int))=true from rfl,Bool.true_and]
  rw [show b.all (Ed (fun x=>jD (JF cmp) (LG cmp) e (qs.map Sq.c) 6 x) (fun x=>jD (JF cmp) (LG cmp) e (qs.map Sq.c) 8 x))=b.all fun s=>decide (((jD (JF cmp) (LG cmp) e (qs.map Sq.c) 6 s:Nat):Int)≤1) && decide (((jD (JF cmp) (LG cmp) e (qs.map Sq.c) 8 s:Nat):Int)≤1) from by congr 1;funext x;exact YM _ _ x]
  exact h
 ·rw [show (dG e==((0:Nat):Int))=false from beq_eq_false_iff_ne.2 hq,Bool.false_and]
  exact Vo _ _ _ (dG e) hq ck
theorem Wu (e:List Nd) (g:Bool) (qs:List Sq) (f:Bool) (cmp:Br→Br→Int) (d:List (List UInt8)) (j:Bool) (a:∀ y ∈ e,y.sm) (c:e.length<2^40) (b:qs.length<2^40) (i:Hm 24 cmp qs) (k:d.length<2^40):
  CO 18 [.sl (aI e) e.length g,.sl (eX (qs.map Sq.c)) qs.length f,.sl (List.map AV.str d) d.length j] (.ret (.bool (I8 cmp e qs d))):=by
 have h:=IY e g (qs.map Sq.c) f d j (fun x=>jD (JF cmp) (LG cmp) e (qs.map Sq.c) 6 x) (fun x=>jD (JF cmp) (LG cmp) e (qs.map Sq.c) 8 x) a k
  (fun x _=>by rw [List.length_map];exact uu e g qs f cmp 6 x a c b i) (fun x _=>by rw [List.length_map];exact uu e g qs f cmp 8 x a c b i)
 rw [List.length_map] at h
 exact h
theorem wd1 {k:Nat} (h:k<2^62):AV.int .i64 (IntKind.wrap .i64 ((k:Int)+((1:Nat):Int)))= .int .i64 ((k+1:Nat):Int):=by
 have e:IntKind.wrap .i64 ((k:Int)+((1:Nat):Int))=((k+1:Nat):Int):=by rw [dB]<;>omega
 rw [e]
theorem IJ (k:Nat):decide (((0:Nat):Int)≤(k:Int))=true:=decide_eq_true (by omega)
theorem iK {k n:Nat} (h:k<n):decide ((k:Int)<(n:Int))=true:=decide_eq_true (by omega)
theorem Qi {k n:Nat} (h:k≤n):decide ((k:Int)≤(n:Int))=true:=decide_eq_true (by omega)
def qQ (w:List UInt8):List UInt8→Nat
 | []=>0
 |c::r=>if w.any (fun b=>c==b) then qQ w r+1 else 0
theorem HY (w:List UInt8):∀ s,qQ w s≤s.length
 | []=>Nat.le_refl _
 |c::r=>by
  unfold qQ
  split
  ·have:=HY w r;simp only [List.length_cons];omega
  ·exact Nat.zero_le _
theorem ZI (a b:UInt8):((a.toNat:Int)==(b.toNat:Int))=(a==b):=by
 by_cases h:a=b
 ·subst h;simp
 ·have:a.toNat ≠ b.toNat:=fun e=>h (UInt8.toNat_inj.1 e)
  rw [beq_eq_false_iff_ne.2 h,beq_eq_false_iff_ne.2 (by omega)]
def wia (s w:List UInt8) (bg:Int) (bd:Bool) (n:Nat) (p:Nat × Bool):St:=⟨[(0,.ptr 0 0 0),(1,.str w),(5,.int .i64 (n:Int)),(6,.bool p.2),(7,.int .i64 (p.1:Int))],[(0,⟨[.str s,.nilS,.int .i64 bg,.bool bd],0,false,0,0,true⟩)],.dead,[]⟩
def woa (s w:List UInt8) (bg:Int) (bd:Bool) (n:Nat) (inn:Bool):St:=⟨[(0,.ptr 0 0 0),(1,.str w),(5,.int .i64 (n:Int)),(6,.bool inn)],[(0,⟨[.str s,.nilS,.int .i64 bg,.bool bd],0,false,0,0,true⟩)],.dead,[]⟩
theorem wla {nt:Nat} (i:55≤nt) (s w:List UInt8) (f:Int) (h:Bool) (n:Nat) (g:n<s.length) (j:w.length<2^40):∀ (d k:Nat) (a:Bool),k+d=w.length→
  aF prog ap [⟨[.str s,.nilS,.int .i64 f,.bool h],0,false,0,0,true⟩] nt (ae 2 (af f92)) (fun _=> .exit 2) (wia s w f h n) (woa s w f h n) (k,a) (a||(w.drop k).any (fun b=>s.getD n 0==b)):=by
 intro d
 induction d with
 |zero=>
  intro k a o
  have e:(decide ((k:Int)<(((List.length w):Nat):Int)))=false:=decide_eq_false (by omega)
  rw [List.drop_of_length_le (by omega),List.any_nil,Bool.or_false]
  exact .done (pN 92 [] 1 0 (.c (aB e) .nil) (.nil) i)
 | succ d ih=>
  intro k a o
  have e:(decide ((k:Int)<(((List.length w):Nat):Int)))=true:=decide_eq_true (by omega)
  have c:k<w.length:=by omega
  have j:k<2^62:=by omega
  have m:(w.drop k).any (fun b=>s.getD n 0==b)=(s.getD n 0==w.getD k 0||(w.drop (k+1)).any (fun b=>s.getD n 0==b)):=by
   rw [List.drop_eq_getElem_cons c,List.any_cons,List.getD_eq_getElem?_getD,List.getD_eq_getElem?_getD (l:=w),List.getElem?_eq_getElem c];rfl
  rw [m]
  rcases tf a with b1|b1
  ·have:=ih (k+1) true (by omega)
   rw [Bool.true_or] at this
   rw [show (a||(s.getD n 0==w.getD k 0||(w.drop (k+1)).any (fun b=>s.getD n 0==b)))=true by rw [b1,Bool.true_or]]
   exact .next (pN 92 [] 2 3 (.c (aC b1) (.c (aC e) .nil)) (.v 7 (.eq (wd1 j)) .nil) i) this
  ·have:=ih (k+1) (s.getD n 0==w.getD k 0) (by omega)
   rw [show (a||(s.getD n 0==w.getD k 0||(w.drop (k+1)).any (fun b=>s.getD n 0==b)))=(s.getD n 0==w.getD k 0||(w.drop (k+1)).any (fun b=>s.getD n 0==b)) by rw [b1,Bool.false_or]]
   rw [← ZI (s.getD n 0) (w.getD k 0)] at this ⊢
   exact .next (pN 92 [] 2 1 (.c (IJ k) (.c (iK c) (.c (IJ n) (.c (iK g) (.k 1 (aB b1) (.c (aC e) .nil)))))) (.v 7 (.eq (wd1 j)) .nil) i) this
def wsa (s w:List UInt8) (bg:Int) (bd:Bool) (n:Nat):St:=⟨[(0,.ptr 0 0 0),(1,.str w),(5,.int .i64 (n:Int))],[(0,⟨[.str s,.nilS,.int .i64 bg,.bool bd],0,false,0,0,true⟩)],.dead,[]⟩
def wra (s w:List UInt8) (bg:Int) (bd:Bool) (n:Nat):St:=⟨[(0,.ptr 0 0 0),(5,.int .i64 (n:Int))],[(0,⟨[.str s,.nilS,.int .i64 bg,.bool bd],0,false,0,0,true⟩)],.dead,[]⟩
theorem wma {nt:Nat} (j:55≤nt) (s w:List UInt8) (a:Int) (d:Bool) (hs:s.length<2^40) (m:w.length<2^40):∀ (r p:List UInt8),p++r=s→
  aF prog ap [⟨[.str s,.nilS,.int .i64 a,.bool d],0,false,0,0,true⟩] nt (ae 0 (af f92)) (fun _=> .exit 0) (wsa s w a d) (wra s w a d) p.length (p.length+qQ w r):=by
 intro r
 induction r with
 |nil=>
  intro p hp
  have o:p.length=s.length:=by rw [← hp];simp
  generalize p.length=n at*
  have k:(decide ((n:Int)<(((List.length s):Nat):Int)))=false:=decide_eq_false (by omega)
  exact .done (pN 92 [2] 1 0 (.c (aB k) (.n 1 .nil)) (.nil) j)
 | cons c r ih=>
  intro p hp
  have o:p.length<s.length:=by rw [← hp];simp
  have q:s.getD p.length 0=c:=by rw [← hp,List.getD_eq_getElem?_getD];simp
  have i:=ih (p++ [c]) (by rw [← hp];simp)
  rw [List.length_append,List.length_singleton] at i
  unfold qQ
  generalize p.length=n at*
  have k:(decide ((n:Int)<(((List.length s):Nat):Int)))=true:=decide_eq_true (by omega)
  have l:n<2^62:=by omega
  have f:∀ e,e=w.any (fun b=>c==b)→aH prog ap [⟨[.str s,.nilS,.int .i64 a,.bool d],0,false,0,0,true⟩] 55 (.block 2 (.loop (ae 2 (af f92)))) ⟨[(0,.ptr 0 0 0),(1,.str w),(4,.dead),(5,.int .i64 (n:Int)),(6,.bool false),(7,.int .i64 0),(8,.dead),(15,.bool (decide ((n:Int)<(((List.length s):Nat):Int)))),(19,.dead),(36,.dead)],[(0,⟨[.str s,.nilS,.int .i64 a,.bool d],0,false,0,0,true⟩)],.dead,[]⟩ (.normal) ⟨[(0,.ptr 0 0 0),(1,.str w),(5,.int .i64 (n:Int)),(6,.bool e)],[(0,⟨[.str s,.nilS,.int .i64 a,.bool d],0,false,0,0,true⟩)],.dead,[]⟩:=by
   intro e g
   have h:∀ nt,55≤nt→aF prog ap [⟨[.str s,.nilS,.int .i64 a,.bool d],0,false,0,0,true⟩] nt (ae 2 (af f92)) (fun _=> .exit 2) (wia s w a d n) (woa s w a d n) (0,false) e:=by
    intro nt j
    have:=wla j s w a d n o m w.length 0 false (Nat.zero_add _)
    rw [List.drop_zero,q,Bool.false_or,← g] at this
    exact this
   exact aF.blk h (by simp) rfl (aK.of ⟨rfl,rfl,rfl,rfl,rfl,trivial⟩) (aK.of ⟨rfl,rfl,rfl,rfl,trivial⟩)
  rcases tf (w.any (fun b=>c==b)) with b1|b1
  ·rw [if_pos b1]
   have g:(true:Bool)=w.any (fun b=>c==b):=b1.symm
   have f:=f true g
   rw [show n+(qQ w r+1)=n+1+qQ w r by omega]
   have m:=l
   exact .next (pN 92 [2] 2 1 (.k 1 (aC k) (.n 1 .nil)) (.v 38 (.eq (wd1 m)) (.l f .nil)) j) i
  ·rw [if_neg (by rw [b1];decide)]
   have g:(false:Bool)=w.any (fun b=>c==b):=b1.symm
   have f:=f false g
   exact .done (pN 92 [2] 2 3 (.k 1 (aC k) (.n 1 .nil)) (.l f .nil) j)
theorem wfa (s w:List UInt8) (b:Int) (a:Bool) (n:Nat) (c:n≤s.length) (d:aH prog ap [⟨[.str s,.nilS,.int .i64 b,.bool a],0,false,0,0,true⟩] 55 (.block 0 (.loop (ae 0 (af f92)))) ⟨[(0,.ptr 0 0 0),(1,.str w),(4,.str []),(5,.int .i64 0),(6,.dead),(7,.dead),(8,.dead),(15,.dead),(19,.dead),(36,.dead)],[(0,⟨[.str s,.nilS,.int .i64 b,.bool a],0,false,0,0,true⟩)],.dead,[]⟩ (.normal) ⟨[(0,.ptr 0 0 0),(5,.int .i64 (n:Int))],[(0,⟨[.str s,.nilS,.int .i64 b,.bool a],0,false,0,0,true⟩)],.dead,[]⟩):au prog ap 92 [.ptr 0 0 0,.str w] [⟨[.str s,.nilS,.int .i64 b,.bool a],0,false,0,0,true⟩] (.ret (.str (List.drop 0 (List.take (Int.toNat (n:Int)) s)))) [⟨[.str (List.drop (Int.toNat (n:Int)) (List.take (Int.toNat (((List.length s):Nat):Int)) s)),.nilS,.int .i64 b,.bool a],0,false,0,0,true⟩]:=pK [0] 0 0 (.k 1 (IJ n) (.c (Qi c) (.c (Qi (Nat.le_refl s.length)) (.k 2 (IJ n) (.c (Qi c) (.n 1 .nil)))))) (.l d .nil)
theorem gq (s w:List UInt8) (b:Int) (a:Bool) (hs:s.length<2^40) (c:w.length<2^40):au prog ap 92 [.ptr 0 0 0,.str w] [⟨[.str s,.nilS,.int .i64 b,.bool a],0,false,0,0,true⟩] (.ret (.str (List.drop 0 (List.take (Int.toNat ((qQ w s:Nat):Int)) s)))) [⟨[.str (List.drop (Int.toNat ((qQ w s:Nat):Int)) (List.take (Int.toNat (((List.length s):Nat):Int)) s)),.nilS,.int .i64 b,.bool a],0,false,0,0,true⟩]:=by
 have h:∀ nt,55≤nt→aF prog ap [⟨[.str s,.nilS,.int .i64 b,.bool a],0,false,0,0,true⟩] nt (ae 0 (af f92)) (fun _=> .exit 0) (wsa s w b a) (wra s w b a) 0 (qQ w s):=by
  intro nt d
  have:=wma d s w b a hs c s [] rfl
  rw [List.length_nil,Nat.zero_add] at this
  exact this
 exact wfa s w b a (qQ w s) (HY w s) (aF.blk h (by simp) rfl (aK.of ⟨rfl,rfl,rfl,trivial⟩) (aK.of ⟨rfl,rfl,trivial⟩))
def wib (s w:List UInt8) (bg:Int) (bd:Bool) (m:Nat) (os:List AV) (n:Nat) (p:Nat × Bool):St:=⟨[(0,.ptr 0 0 0),(1,.str w),(5,.int .i64 (n:Int)),(6,.bool p.2),(7,.int .i64 (p.1:Int))],[(0,⟨[.str s,.ref 1 0 0 m,.int .i64 bg,.bool bd],0,false,0,0,false⟩),(1,⟨os,0,false,0,5,true⟩)],.dead,[]⟩
def wob (s w:List UInt8) (bg:Int) (bd:Bool) (m:Nat) (os:List AV) (n:Nat) (inn:Bool):St:=⟨[(0,.ptr 0 0 0),(1,.str w),(5,.int .i64 (n:Int)),(6,.bool inn)],[(0,⟨[.str s,.ref 1 0 0 m,.int .i64 bg,.bool bd],0,false,0,0,false⟩),(1,⟨os,0,false,0,5,true⟩)],.dead,[]⟩
theorem wlb {nt:Nat} (i:55≤nt) (s w:List UInt8) (f:Int) (h:Bool) (m:Nat) (j:List AV) (n:Nat) (g:n<s.length) (o:w.length<2^40):∀ (d k:Nat) (a:Bool),k+d=w.length→
  aF prog ap [⟨[.str s,.ref 1 0 0 m,.int .i64 f,.bool h],0,false,0,0,false⟩,⟨j,0,false,0,5,true⟩] nt (ae 2 (af f92)) (fun _=> .exit 2) (wib s w f h m j n) (wob s w f h m j n) (k,a) (a||(w.drop k).any (fun b=>s.getD n 0==b)):=by
 intro d
 induction d with
 |zero=>
  intro k a q
  have e:(decide ((k:Int)<(((List.length w):Nat):Int)))=false:=decide_eq_false (by omega)
  rw [List.drop_of_length_le (by omega),List.any_nil,Bool.or_false]
  exact .done (pN 92 [] 1 0 (.c (aB e) .nil) (.nil) i)
 | succ d ih=>
  intro k a q
  have e:(decide ((k:Int)<(((List.length w):Nat):Int)))=true:=decide_eq_true (by omega)
  have c:k<w.length:=by omega
  have o:k<2^62:=by omega
  have p:(w.drop k).any (fun b=>s.getD n 0==b)=(s.getD n 0==w.getD k 0||(w.drop (k+1)).any (fun b=>s.getD n 0==b)):=by
   rw [List.drop_eq_getElem_cons c,List.any_cons,List.getD_eq_getElem?_getD,List.getD_eq_getElem?_getD (l:=w),List.getElem?_eq_getElem c];rfl
  rw [p]
  rcases tf a with b1|b1
  ·have:=ih (k+1) true (by omega)
   rw [Bool.true_or] at this
   rw [show (a||(s.getD n 0==w.getD k 0||(w.drop (k+1)).any (fun b=>s.getD n 0==b)))=true by rw [b1,Bool.true_or]]
   exact .next (pN 92 [] 2 3 (.c (aC b1) (.c (aC e) .nil)) (.v 7 (.eq (wd1 o)) .nil) i) this
  ·have:=ih (k+1) (s.getD n 0==w.getD k 0) (by omega)
   rw [show (a||(s.getD n 0==w.getD k 0||(w.drop (k+1)).any (fun b=>s.getD n 0==b)))=(s.getD n 0==w.getD k 0||(w.drop (k+1)).any (fun b=>s.getD n 0==b)) by rw [b1,Bool.false_or]]
   rw [← ZI (s.getD n 0) (w.getD k 0)] at this ⊢
   exact .next (pN 92 [] 2 1 (.c (IJ k) (.c (iK c) (.c (IJ n) (.c (iK g) (.k 1 (aB b1) (.c (aC e) .nil)))))) (.v 7 (.eq (wd1 o)) .nil) i) this
def wsb (s w:List UInt8) (bg:Int) (bd:Bool) (m:Nat) (os:List AV) (n:Nat):St:=⟨[(0,.ptr 0 0 0),(1,.str w),(5,.int .i64 (n:Int))],[(0,⟨[.str s,.ref 1 0 0 m,.int .i64 bg,.bool bd],0,false,0,0,false⟩),(1,⟨os,0,false,0,5,true⟩)],.dead,[]⟩
def wrb (s w:List UInt8) (bg:Int) (bd:Bool) (m:Nat) (os:List AV) (n:Nat):St:=⟨[(0,.ptr 0 0 0),(5,.int .i64 (n:Int))],[(0,⟨[.str s,.ref 1 0 0 m,.int .i64 bg,.bool bd],0,false,0,0,false⟩),(1,⟨os,0,false,0,5,true⟩)],.dead,[]⟩
theorem wmb {nt:Nat} (k:55≤nt) (s w:List UInt8) (a:Int) (d:Bool) (m:Nat) (e:List AV) (hs:s.length<2^40) (q:w.length<2^40):∀ (r p:List UInt8),p++r=s→
  aF prog ap [⟨[.str s,.ref 1 0 0 m,.int .i64 a,.bool d],0,false,0,0,false⟩,⟨e,0,false,0,5,true⟩] nt (ae 0 (af f92)) (fun _=> .exit 0) (wsb s w a d m e) (wrb s w a d m e) p.length (p.length+qQ w r):=by
 intro r
 induction r with
 |nil=>
  intro p hp
  have t:p.length=s.length:=by rw [← hp];simp
  generalize p.length=n at*
  have l:(decide ((n:Int)<(((List.length s):Nat):Int)))=false:=decide_eq_false (by omega)
  exact .done (pN 92 [2] 1 0 (.c (aB l) (.n 1 .nil)) (.nil) k)
 | cons c r ih=>
  intro p hp
  have t:p.length<s.length:=by rw [← hp];simp
  have u:s.getD p.length 0=c:=by rw [← hp,List.getD_eq_getElem?_getD];simp
  have j:=ih (p++ [c]) (by rw [← hp];simp)
  rw [List.length_append,List.length_singleton] at j
  unfold qQ
  generalize p.length=n at*
  have l:(decide ((n:Int)<(((List.length s):Nat):Int)))=true:=decide_eq_true (by omega)
  have o:n<2^62:=by omega
  have g:∀ f,f=w.any (fun b=>c==b)→aH prog ap [⟨[.str s,.ref 1 0 0 m,.int .i64 a,.bool d],0,false,0,0,false⟩,⟨e,0,false,0,5,true⟩] 55 (.block 2 (.loop (ae 2 (af f92)))) ⟨[(0,.ptr 0 0 0),(1,.str w),(4,.dead),(5,.int .i64 (n:Int)),(6,.bool false),(7,.int .i64 0),(8,.dead),(15,.bool (decide ((n:Int)<(((List.length s):Nat):Int)))),(19,.dead),(36,.dead)],[(0,⟨[.str s,.ref 1 0 0 m,.int .i64 a,.bool d],0,false,0,0,false⟩),(1,⟨e,0,false,0,5,true⟩)],.dead,[]⟩ (.normal) ⟨[(0,.ptr 0 0 0),(1,.str w),(5,.int .i64 (n:Int)),(6,.bool f)],[(0,⟨[.str s,.ref 1 0 0 m,.int .i64 a,.bool d],0,false,0,0,false⟩),(1,⟨e,0,false,0,5,true⟩)],.dead,[]⟩:=by
   intro f i
   have h:∀ nt,55≤nt→aF prog ap [⟨[.str s,.ref 1 0 0 m,.int .i64 a,.bool d],0,false,0,0,false⟩,⟨e,0,false,0,5,true⟩] nt (ae 2 (af f92)) (fun _=> .exit 2) (wib s w a d m e n) (wob s w a d m e n) (0,false) f:=by
    intro nt k
    have:=wlb k s w a d m e n t q w.length 0 false (Nat.zero_add _)
    rw [List.drop_zero,u,Bool.false_or,← i] at this
    exact this
   exact aF.blk h (by simp) rfl (aK.of ⟨rfl,rfl,rfl,rfl,rfl,trivial⟩) (aK.of ⟨rfl,rfl,rfl,rfl,trivial⟩)
  rcases tf (w.any (fun b=>c==b)) with b1|b1
  ·rw [if_pos b1]
   have i:(true:Bool)=w.any (fun b=>c==b):=b1.symm
   have g:=g true i
   rw [show n+(qQ w r+1)=n+1+qQ w r by omega]
   have q:=o
   exact .next (pN 92 [2] 2 1 (.k 1 (aC l) (.n 1 .nil)) (.v 38 (.eq (wd1 q)) (.l g .nil)) k) j
  ·rw [if_neg (by rw [b1];decide)]
   have i:(false:Bool)=w.any (fun b=>c==b):=b1.symm
   have g:=g false i
   exact .done (pN 92 [2] 2 3 (.k 1 (aC l) (.n 1 .nil)) (.l g .nil) k)
theorem wfb (s w:List UInt8) (c:Int) (b:Bool) (m:Nat) (a:List AV) (n:Nat) (d:n≤s.length) (e:aH prog ap [⟨[.str s,.ref 1 0 0 m,.int .i64 c,.bool b],0,false,0,0,false⟩,⟨a,0,false,0,5,true⟩] 55 (.block 0 (.loop (ae 0 (af f92)))) ⟨[(0,.ptr 0 0 0),(1,.str w),(4,.str []),(5,.int .i64 0),(6,.dead),(7,.dead),(8,.dead),(15,.dead),(19,.dead),(36,.dead)],[(0,⟨[.str s,.ref 1 0 0 m,.int .i64 c,.bool b],0,false,0,0,false⟩),(1,⟨a,0,false,0,5,true⟩)],.dead,[]⟩ (.normal) ⟨[(0,.ptr 0 0 0),(5,.int .i64 (n:Int))],[(0,⟨[.str s,.ref 1 0 0 m,.int .i64 c,.bool b],0,false,0,0,false⟩),(1,⟨a,0,false,0,5,true⟩)],.dead,[]⟩):au prog ap 92 [.ptr 0 0 0,.str w] [⟨[.str s,.ref 1 0 0 m,.int .i64 c,.bool b],0,false,0,0,false⟩,⟨a,0,false,0,5,true⟩] (.ret (.str (List.drop 0 (List.take (Int.toNat (n:Int)) s)))) [⟨[.str (List.drop (Int.toNat (n:Int)) (List.take (Int.toNat (((List.length s):Nat):Int)) s)),.ref 1 0 0 m,.int .i64 c,.bool b],0,false,0,0,false⟩,⟨a,0,false,0,5,true⟩]:=pK [0] 0 0 (.k 1 (IJ n) (.c (Qi d) (.c (Qi (Nat.le_refl s.length)) (.k 2 (IJ n) (.c (Qi d) (.n 1 .nil)))))) (.l e .nil)
theorem jM (s w:List UInt8) (c:Int) (b:Bool) (m:Nat) (a:List AV) (hs:s.length<2^40) (d:w.length<2^40):au prog ap 92 [.ptr 0 0 0,.str w] [⟨[.str s,.ref 1 0 0 m,.int .i64 c,.bool b],0,false,0,0,false⟩,⟨a,0,false,0,5,true⟩] (.ret (.str (List.drop 0 (List.take (Int.toNat ((qQ w s:Nat):Int)) s)))) [⟨[.str (List.drop (Int.toNat ((qQ w s:Nat):Int)) (List.take (Int.toNat (((List.length s):Nat):Int)) s)),.ref 1 0 0 m,.int .i64 c,.bool b],0,false,0,0,false⟩,⟨a,0,false,0,5,true⟩]:=by
 have h:∀ nt,55≤nt→aF prog ap [⟨[.str s,.ref 1 0 0 m,.int .i64 c,.bool b],0,false,0,0,false⟩,⟨a,0,false,0,5,true⟩] nt (ae 0 (af f92)) (fun _=> .exit 0) (wsb s w c b m a) (wrb s w c b m a) 0 (qQ w s):=by
  intro nt e
  have:=wmb e s w c b m a hs d s [] rfl
  rw [List.length_nil,Nat.zero_add] at this
  exact this
 exact wfb s w c b m a (qQ w s) (HY w s) (aF.blk h (by simp) rfl (aK.of ⟨rfl,rfl,rfl,trivial⟩) (aK.of ⟨rfl,rfl,trivial⟩))
theorem bT {p q:Prop} (h:p) (e:p=q):q:=e ▸ h
theorem aV {x:Nat} (h:x<2^128):(ag x).length<2^33:=Nat.lt_of_le_of_lt (iy (k:=16) h) (by decide)
theorem cm0:CO 115 [.agg [.bool false,.str [1],.str [1]]] (.ret (.bool true)):=bT (dH false [1] [1] (by decide) (by decide)) (by kernel_rfl)
theorem cm1:CO 174 [.agg [.bool false,.str [1],.str [1]]] (.ret (.agg [.bool false,.str [1],.str [1]])):=cK (.c cm0 .nil)
theorem cm2:CO 182 [.agg [.bool false,.str [1],.str [1]]] (.ret (.agg [.bool true,.str [1],.str [1]])):=cK (.c cm1 .nil)
theorem cm3:CO 115 [.agg [.bool false,.str [],.str [1]]] (.ret (.bool true)):=bT (dH false [] [1] (by decide) (by decide)) (by kernel_rfl)
theorem WZ:CO 174 [.agg [.bool false,.str [],.str [1]]] (.ret (.agg [.bool false,.str [],.str [1]])):=cK (.c cm3 .nil)
theorem cm5:CO 115 [.agg [.bool true,.str [1],.str [1]]] (.ret (.bool true)):=bT (dH true [1] [1] (by decide) (by decide)) (by kernel_rfl)
theorem cm6:CO 174 [.agg [.bool true,.str [1],.str [1]]] (.ret (.agg [.bool true,.str [1],.str [1]])):=cK (.c cm5 .nil)
theorem cm7:CO 161 [.sl [] 0 true] (.ret (.sl [] 0 true)):=cK (.nil)
theorem Ia:CO 136 [.str []] (.ret (.sl [] 0 true)):=cK (.c cm7 .nil)
theorem cm9:CO 161 [.sl [.int .u32 1] 1 true] (.ret (.sl [.int .u32 1] 1 true)):=cK (.nil)
theorem yN:CO 136 [.str [1]] (.ret (.sl [.int .u32 1] 1 true)):=cK (.c cm9 .nil)
theorem an6:CO 161 [.sl [.int .u32 0] 1 true] (.ret (.sl [] 0 true)):=cK (.nil)
theorem an7:CO 189 [.sl [] 0 true,.sl [.int .u32 1] 1 true] (.ret (.sl [] 0 true)):=cK (.c an6 .nil)
theorem an8:CO 162 [.str [],.str [0]] (.ret (.str [])):=cK (.nil)
theorem an9:CO 134 [.sl [] 0 true] (.ret (.str [])):=cK (.c an8 (.c cm7 .nil))
theorem H_:CO 175 [.str [],.str [1]] (.ret (.str [])):=cK (.c an9 (.c an7 (.c yN (.c Ia .nil))))
theorem an_:CO 161 [.sl [.int .u32 1,.int .u32 0] 2 true] (.ret (.sl [.int .u32 1] 1 true)):=cK (.nil)
theorem aoa:CO 189 [.sl [.int .u32 1] 1 true,.sl [.int .u32 1] 1 true] (.ret (.sl [.int .u32 1] 1 true)):=cK (.c an_ .nil)
theorem aob:CO 141 [.str [0,0,0,1],.int .u8 0] (.ret (.str [1])):=cK (.nil)
theorem aoc:CO 162 [.str [0,0,0,1],.str [0]] (.ret (.str [1])):=cK (.c aob .nil)
theorem afQ:CO 134 [.sl [.int .u32 1] 1 true] (.ret (.str [1])):=cK (.c aoc (.c cm9 .nil))
theorem Fa:CO 175 [.str [1],.str [1]] (.ret (.str [1])):=cK (.c afQ (.c aoa (.c yN (.c yN .nil))))
theorem aod:CO 183 [.sl [] 0 true,.sl [.int .u32 1] 1 true] (.ret (.int .i64 (-1))):=cK (.nil)
theorem aoe:CO 188 [.str [],.str [1]] (.ret (.tup [.str [],.bool false])):=cK (.c aod (.c yN (.c Ia .nil)))
theorem aof:CO 183 [.sl [.int .u32 1] 1 true,.sl [] 0 true] (.ret (.int .i64 1)):=cK (.nil)
theorem aog:CO 204 [.sl [.int .u32 1] 1 true,.sl [] 0 true] (.ret (.sl [.int .u32 1] 1 true)):=cK (.c cm9 .nil)
theorem aoh:CO 188 [.str [1],.str []] (.ret (.tup [.str [1],.bool true])):=cK (.c afQ (.c aog (.c aof (.c Ia (.c yN .nil)))))
theorem aoi:CO 139 [.bool true,.str [1],.str [1]] (.ret (.agg [.bool true,.str [1],.str [1]])):=bT (pF true [1] [1] (by decide) (by decide) (by decide)) (by kernel_rfl)
theorem aoj:CO 172 [.agg [.bool false,.str [],.str [1]],.agg [.bool true,.str [1],.str [1]]] (.ret (.agg [.bool true,.str [1],.str [1]])):=cK (.c aoi (.c aoh (.c aoe (.c Fa (.c Fa (.c H_ (.c cm6 (.c WZ .nil))))))))
theorem aok:CO 158 [.agg [.bool false,.str [],.str [1]],.agg [.bool false,.str [1],.str [1]]] (.ret (.agg [.bool true,.str [1],.str [1]])):=cK (.c aoj (.c cm2 .nil))
theorem aol:CO 85 [.agg [.bool true,.str [1],.str [1]]] (.ret (.int .i64 (-1))):=bT (fG true [1] [1] (by decide) (by decide)) (by kernel_rfl)
theorem aom:CO 129 [.agg [.bool false,.str [],.str [1]],.agg [.bool false,.str [1],.str [1]]] (.ret (.int .i64 (-1))):=cK (.c aol (.c aok .nil))
theorem aon:CO 115 [.agg [.bool false,.str [2],.str [1]]] (.ret (.bool true)):=bT (dH false [2] [1] (by decide) (by decide)) (by kernel_rfl)
theorem aoo:CO 174 [.agg [.bool false,.str [2],.str [1]]] (.ret (.agg [.bool false,.str [2],.str [1]])):=cK (.c aon .nil)
theorem aop:CO 182 [.agg [.bool false,.str [2],.str [1]]] (.ret (.agg [.bool true,.str [2],.str [1]])):=cK (.c aoo .nil)
theorem aoq:CO 115 [.agg [.bool true,.str [2],.str [1]]] (.ret (.bool true)):=bT (dH true [2] [1] (by decide) (by decide)) (by kernel_rfl)
theorem aor:CO 174 [.agg [.bool true,.str [2],.str [1]]] (.ret (.agg [.bool true,.str [2],.str [1]])):=cK (.c aoq .nil)
theorem aaV:CO 161 [.sl [.int .u32 2] 1 true] (.ret (.sl [.int .u32 2] 1 true)):=cK (.nil)
theorem aaW:CO 136 [.str [2]] (.ret (.sl [.int .u32 2] 1 true)):=cK (.c aaV .nil)
theorem aos:CO 161 [.sl [.int .u32 2,.int .u32 0] 2 true] (.ret (.sl [.int .u32 2] 1 true)):=cK (.nil)
theorem aot:CO 189 [.sl [.int .u32 2] 1 true,.sl [.int .u32 1] 1 true] (.ret (.sl [.int .u32 2] 1 true)):=cK (.c aos .nil)
theorem aou:CO 141 [.str [0,0,0,2],.int .u8 0] (.ret (.str [2])):=cK (.nil)
theorem aov:CO 162 [.str [0,0,0,2],.str [0]] (.ret (.str [2])):=cK (.c aou .nil)
theorem ai3:CO 134 [.sl [.int .u32 2] 1 true] (.ret (.str [2])):=cK (.c aov (.c aaV .nil))
theorem aow:CO 175 [.str [2],.str [1]] (.ret (.str [2])):=cK (.c ai3 (.c aot (.c yN (.c aaW .nil))))
theorem aox:CO 183 [.sl [] 0 true,.sl [.int .u32 2] 1 true] (.ret (.int .i64 (-1))):=cK (.nil)
theorem aoy:CO 188 [.str [],.str [2]] (.ret (.tup [.str [],.bool false])):=cK (.c aox (.c aaW (.c Ia .nil)))
theorem aoz:CO 183 [.sl [.int .u32 2] 1 true,.sl [] 0 true] (.ret (.int .i64 1)):=cK (.nil)
theorem aoA:CO 204 [.sl [.int .u32 2] 1 true,.sl [] 0 true] (.ret (.sl [.int .u32 2] 1 true)):=cK (.c aaV .nil)
theorem aoB:CO 188 [.str [2],.str []] (.ret (.tup [.str [2],.bool true])):=cK (.c ai3 (.c aoA (.c aoz (.c Ia (.c aaW .nil)))))
theorem aoC:CO 139 [.bool true,.str [2],.str [1]] (.ret (.agg [.bool true,.str [2],.str [1]])):=bT (pF true [2] [1] (by decide) (by decide) (by decide)) (by kernel_rfl)
theorem aoD:CO 172 [.agg [.bool false,.str [],.str [1]],.agg [.bool true,.str [2],.str [1]]] (.ret (.agg [.bool true,.str [2],.str [1]])):=cK (.c aoC (.c aoB (.c aoy (.c Fa (.c aow (.c H_ (.c aor (.c WZ .nil))))))))
theorem aoE:CO 158 [.agg [.bool false,.str [],.str [1]],.agg [.bool false,.str [2],.str [1]]] (.ret (.agg [.bool true,.str [2],.str [1]])):=cK (.c aoD (.c aop .nil))
theorem aoF:CO 85 [.agg [.bool true,.str [2],.str [1]]] (.ret (.int .i64 (-1))):=bT (fG true [2] [1] (by decide) (by decide)) (by kernel_rfl)
theorem aoG:CO 129 [.agg [.bool false,.str [],.str [1]],.agg [.bool false,.str [2],.str [1]]] (.ret (.int .i64 (-1))):=cK (.c aoF (.c aoE .nil))
theorem aoH:CO 115 [.agg [.bool false,.str [3],.str [1]]] (.ret (.bool true)):=bT (dH false [3] [1] (by decide) (by decide)) (by kernel_rfl)
theorem aoI:CO 174 [.agg [.bool false,.str [3],.str [1]]] (.ret (.agg [.bool false,.str [3],.str [1]])):=cK (.c aoH .nil)
theorem aoJ:CO 182 [.agg [.bool false,.str [3],.str [1]]] (.ret (.agg [.bool true,.str [3],.str [1]])):=cK (.c aoI .nil)
theorem aoK:CO 115 [.agg [.bool true,.str [3],.str [1]]] (.ret (.bool true)):=bT (dH true [3] [1] (by decide) (by decide)) (by kernel_rfl)
theorem aoL:CO 174 [.agg [.bool true,.str [3],.str [1]]] (.ret (.agg [.bool true,.str [3],.str [1]])):=cK (.c aoK .nil)
theorem aaX:CO 161 [.sl [.int .u32 3] 1 true] (.ret (.sl [.int .u32 3] 1 true)):=cK (.nil)
theorem aaY:CO 136 [.str [3]] (.ret (.sl [.int .u32 3] 1 true)):=cK (.c aaX .nil)
theorem aoM:CO 161 [.sl [.int .u32 3,.int .u32 0] 2 true] (.ret (.sl [.int .u32 3] 1 true)):=cK (.nil)
theorem aoN:CO 189 [.sl [.int .u32 3] 1 true,.sl [.int .u32 1] 1 true] (.ret (.sl [.int .u32 3] 1 true)):=cK (.c aoM .nil)
theorem aoO:CO 141 [.str [0,0,0,3],.int .u8 0] (.ret (.str [3])):=cK (.nil)
theorem aoP:CO 162 [.str [0,0,0,3],.str [0]] (.ret (.str [3])):=cK (.c aoO .nil)
theorem ai4:CO 134 [.sl [.int .u32 3] 1 true] (.ret (.str [3])):=cK (.c aoP (.c aaX .nil))
theorem aoQ:CO 175 [.str [3],.str [1]] (.ret (.str [3])):=cK (.c ai4 (.c aoN (.c yN (.c aaY .nil))))
theorem aoR:CO 183 [.sl [] 0 true,.sl [.int .u32 3] 1 true] (.ret (.int .i64 (-1))):=cK (.nil)
theorem aoS:CO 188 [.str [],.str [3]] (.ret (.tup [.str [],.bool false])):=cK (.c aoR (.c aaY (.c Ia .nil)))
theorem aoT:CO 183 [.sl [.int .u32 3] 1 true,.sl [] 0 true] (.ret (.int .i64 1)):=cK (.nil)
theorem aoU:CO 204 [.sl [.int .u32 3] 1 true,.sl [] 0 true] (.ret (.sl [.int .u32 3] 1 true)):=cK (.c aaX .nil)
theorem aoV:CO 188 [.str [3],.str []] (.ret (.tup [.str [3],.bool true])):=cK (.c ai4 (.c aoU (.c aoT (.c Ia (.c aaY .nil)))))
theorem aoW:CO 139 [.bool true,.str [3],.str [1]] (.ret (.agg [.bool true,.str [3],.str [1]])):=bT (pF true [3] [1] (by decide) (by decide) (by decide)) (by kernel_rfl)
theorem aoX:CO 172 [.agg [.bool false,.str [],.str [1]],.agg [.bool true,.str [3],.str [1]]] (.ret (.agg [.bool true,.str [3],.str [1]])):=cK (.c aoW (.c aoV (.c aoS (.c Fa (.c aoQ (.c H_ (.c aoL (.c WZ .nil))))))))
theorem aoY:CO 158 [.agg [.bool false,.str [],.str [1]],.agg [.bool false,.str [3],.str [1]]] (.ret (.agg [.bool true,.str [3],.str [1]])):=cK (.c aoX (.c aoJ .nil))
theorem aoZ:CO 85 [.agg [.bool true,.str [3],.str [1]]] (.ret (.int .i64 (-1))):=bT (fG true [3] [1] (by decide) (by decide)) (by kernel_rfl)
theorem ao0:CO 129 [.agg [.bool false,.str [],.str [1]],.agg [.bool false,.str [3],.str [1]]] (.ret (.int .i64 (-1))):=cK (.c aoZ (.c aoY .nil))
theorem ao1:CO 115 [.agg [.bool false,.str [4],.str [1]]] (.ret (.bool true)):=bT (dH false [4] [1] (by decide) (by decide)) (by kernel_rfl)
theorem ao2:CO 174 [.agg [.bool false,.str [4],.str [1]]] (.ret (.agg [.bool false,.str [4],.str [1]])):=cK (.c ao1 .nil)
theorem ao3:CO 182 [.agg [.bool false,.str [4],.str [1]]] (.ret (.agg [.bool true,.str [4],.str [1]])):=cK (.c ao2 .nil)
theorem ao4:CO 115 [.agg [.bool true,.str [4],.str [1]]] (.ret (.bool true)):=bT (dH true [4] [1] (by decide) (by decide)) (by kernel_rfl)
theorem ao5:CO 174 [.agg [.bool true,.str [4],.str [1]]] (.ret (.agg [.bool true,.str [4],.str [1]])):=cK (.c ao4 .nil)
theorem aaZ:CO 161 [.sl [.int .u32 4] 1 true] (.ret (.sl [.int .u32 4] 1 true)):=cK (.nil)
theorem aa0:CO 136 [.str [4]] (.ret (.sl [.int .u32 4] 1 true)):=cK (.c aaZ .nil)
theorem ao6:CO 161 [.sl [.int .u32 4,.int .u32 0] 2 true] (.ret (.sl [.int .u32 4] 1 true)):=cK (.nil)
theorem ao7:CO 189 [.sl [.int .u32 4] 1 true,.sl [.int .u32 1] 1 true] (.ret (.sl [.int .u32 4] 1 true)):=cK (.c ao6 .nil)
theorem ao8:CO 141 [.str [0,0,0,4],.int .u8 0] (.ret (.str [4])):=cK (.nil)
theorem ao9:CO 162 [.str [0,0,0,4],.str [0]] (.ret (.str [4])):=cK (.c ao8 .nil)
theorem ai5:CO 134 [.sl [.int .u32 4] 1 true] (.ret (.str [4])):=cK (.c ao9 (.c aaZ .nil))
theorem apa:CO 175 [.str [4],.str [1]] (.ret (.str [4])):=cK (.c ai5 (.c ao7 (.c yN (.c aa0 .nil))))
theorem apb:CO 183 [.sl [] 0 true,.sl [.int .u32 4] 1 true] (.ret (.int .i64 (-1))):=cK (.nil)
theorem apc:CO 188 [.str [],.str [4]] (.ret (.tup [.str [],.bool false])):=cK (.c apb (.c aa0 (.c Ia .nil)))
theorem apd:CO 183 [.sl [.int .u32 4] 1 true,.sl [] 0 true] (.ret (.int .i64 1)):=cK (.nil)
theorem ape:CO 204 [.sl [.int .u32 4] 1 true,.sl [] 0 true] (.ret (.sl [.int .u32 4] 1 true)):=cK (.c aaZ .nil)
theorem apf:CO 188 [.str [4],.str []] (.ret (.tup [.str [4],.bool true])):=cK (.c ai5 (.c ape (.c apd (.c Ia (.c aa0 .nil)))))
theorem apg:CO 139 [.bool true,.str [4],.str [1]] (.ret (.agg [.bool true,.str [4],.str [1]])):=bT (pF true [4] [1] (by decide) (by decide) (by decide)) (by kernel_rfl)
theorem aph:CO 172 [.agg [.bool false,.str [],.str [1]],.agg [.bool true,.str [4],.str [1]]] (.ret (.agg [.bool true,.str [4],.str [1]])):=cK (.c apg (.c apf (.c apc (.c Fa (.c apa (.c H_ (.c ao5 (.c WZ .nil))))))))
theorem api:CO 158 [.agg [.bool false,.str [],.str [1]],.agg [.bool false,.str [4],.str [1]]] (.ret (.agg [.bool true,.str [4],.str [1]])):=cK (.c aph (.c ao3 .nil))
theorem apj:CO 85 [.agg [.bool true,.str [4],.str [1]]] (.ret (.int .i64 (-1))):=bT (fG true [4] [1] (by decide) (by decide)) (by kernel_rfl)
theorem aet:CO 129 [.agg [.bool false,.str [],.str [1]],.agg [.bool false,.str [4],.str [1]]] (.ret (.int .i64 (-1))):=cK (.c apj (.c api .nil))
theorem aeu:CO 115 [.agg [.bool false,.str [5],.str [1]]] (.ret (.bool true)):=bT (dH false [5] [1] (by decide) (by decide)) (by kernel_rfl)
theorem aev:CO 174 [.agg [.bool false,.str [5],.str [1]]] (.ret (.agg [.bool false,.str [5],.str [1]])):=cK (.c aeu .nil)
theorem aew:CO 182 [.agg [.bool false,.str [5],.str [1]]] (.ret (.agg [.bool true,.str [5],.str [1]])):=cK (.c aev .nil)
theorem aex:CO 115 [.agg [.bool true,.str [5],.str [1]]] (.ret (.bool true)):=bT (dH true [5] [1] (by decide) (by decide)) (by kernel_rfl)
theorem aey:CO 174 [.agg [.bool true,.str [5],.str [1]]] (.ret (.agg [.bool true,.str [5],.str [1]])):=cK (.c aex .nil)
theorem Tj:CO 161 [.sl [.int .u32 5] 1 true] (.ret (.sl [.int .u32 5] 1 true)):=cK (.nil)
theorem Tm:CO 136 [.str [5]] (.ret (.sl [.int .u32 5] 1 true)):=cK (.c Tj .nil)
theorem aez:CO 161 [.sl [.int .u32 5,.int .u32 0] 2 true] (.ret (.sl [.int .u32 5] 1 true)):=cK (.nil)
theorem aeA:CO 189 [.sl [.int .u32 5] 1 true,.sl [.int .u32 1] 1 true] (.ret (.sl [.int .u32 5] 1 true)):=cK (.c aez .nil)
theorem aeB:CO 141 [.str [0,0,0,5],.int .u8 0] (.ret (.str [5])):=cK (.nil)
theorem aeC:CO 162 [.str [0,0,0,5],.str [0]] (.ret (.str [5])):=cK (.c aeB .nil)
theorem ZN:CO 134 [.sl [.int .u32 5] 1 true] (.ret (.str [5])):=cK (.c aeC (.c Tj .nil))
theorem aeD:CO 175 [.str [5],.str [1]] (.ret (.str [5])):=cK (.c ZN (.c aeA (.c yN (.c Tm .nil))))
theorem aeE:CO 183 [.sl [] 0 true,.sl [.int .u32 5] 1 true] (.ret (.int .i64 (-1))):=cK (.nil)
theorem aeF:CO 188 [.str [],.str [5]] (.ret (.tup [.str [],.bool false])):=cK (.c aeE (.c Tm (.c Ia .nil)))
theorem aeG:CO 183 [.sl [.int .u32 5] 1 true,.sl [] 0 true] (.ret (.int .i64 1)):=cK (.nil)
theorem aeH:CO 204 [.sl [.int .u32 5] 1 true,.sl [] 0 true] (.ret (.sl [.int .u32 5] 1 true)):=cK (.c Tj .nil)
theorem aeI:CO 188 [.str [5],.str []] (.ret (.tup [.str [5],.bool true])):=cK (.c ZN (.c aeH (.c aeG (.c Ia (.c Tm .nil)))))
theorem aeJ:CO 139 [.bool true,.str [5],.str [1]] (.ret (.agg [.bool true,.str [5],.str [1]])):=bT (pF true [5] [1] (by decide) (by decide) (by decide)) (by kernel_rfl)
theorem aeK:CO 172 [.agg [.bool false,.str [],.str [1]],.agg [.bool true,.str [5],.str [1]]] (.ret (.agg [.bool true,.str [5],.str [1]])):=cK (.c aeJ (.c aeI (.c aeF (.c Fa (.c aeD (.c H_ (.c aey (.c WZ .nil))))))))
theorem aeL:CO 158 [.agg [.bool false,.str [],.str [1]],.agg [.bool false,.str [5],.str [1]]] (.ret (.agg [.bool true,.str [5],.str [1]])):=cK (.c aeK (.c aew .nil))
theorem aeM:CO 85 [.agg [.bool true,.str [5],.str [1]]] (.ret (.int .i64 (-1))):=bT (fG true [5] [1] (by decide) (by decide)) (by kernel_rfl)
theorem aeN:CO 129 [.agg [.bool false,.str [],.str [1]],.agg [.bool false,.str [5],.str [1]]] (.ret (.int .i64 (-1))):=cK (.c aeM (.c aeL .nil))
theorem aeO:CO 115 [.agg [.bool false,.str [6],.str [1]]] (.ret (.bool true)):=bT (dH false [6] [1] (by decide) (by decide)) (by kernel_rfl)
theorem aeP:CO 174 [.agg [.bool false,.str [6],.str [1]]] (.ret (.agg [.bool false,.str [6],.str [1]])):=cK (.c aeO .nil)
theorem aeQ:CO 182 [.agg [.bool false,.str [6],.str [1]]] (.ret (.agg [.bool true,.str [6],.str [1]])):=cK (.c aeP .nil)
theorem aeR:CO 115 [.agg [.bool true,.str [6],.str [1]]] (.ret (.bool true)):=bT (dH true [6] [1] (by decide) (by decide)) (by kernel_rfl)
theorem aeS:CO 174 [.agg [.bool true,.str [6],.str [1]]] (.ret (.agg [.bool true,.str [6],.str [1]])):=cK (.c aeR .nil)
theorem Tn:CO 161 [.sl [.int .u32 6] 1 true] (.ret (.sl [.int .u32 6] 1 true)):=cK (.nil)
theorem Tq:CO 136 [.str [6]] (.ret (.sl [.int .u32 6] 1 true)):=cK (.c Tn .nil)
theorem aeT:CO 161 [.sl [.int .u32 6,.int .u32 0] 2 true] (.ret (.sl [.int .u32 6] 1 true)):=cK (.nil)
theorem aeU:CO 189 [.sl [.int .u32 6] 1 true,.sl [.int .u32 1] 1 true] (.ret (.sl [.int .u32 6] 1 true)):=cK (.c aeT .nil)
theorem aeV:CO 141 [.str [0,0,0,6],.int .u8 0] (.ret (.str [6])):=cK (.nil)
theorem aeW:CO 162 [.str [0,0,0,6],.str [0]] (.ret (.str [6])):=cK (.c aeV .nil)
theorem ZO:CO 134 [.sl [.int .u32 6] 1 true] (.ret (.str [6])):=cK (.c aeW (.c Tn .nil))
theorem aeX:CO 175 [.str [6],.str [1]] (.ret (.str [6])):=cK (.c ZO (.c aeU (.c yN (.c Tq .nil))))
theorem aeY:CO 183 [.sl [] 0 true,.sl [.int .u32 6] 1 true] (.ret (.int .i64 (-1))):=cK (.nil)
theorem aeZ:CO 188 [.str [],.str [6]] (.ret (.tup [.str [],.bool false])):=cK (.c aeY (.c Tq (.c Ia .nil)))
theorem ae0:CO 183 [.sl [.int .u32 6] 1 true,.sl [] 0 true] (.ret (.int .i64 1)):=cK (.nil)
theorem ae1:CO 204 [.sl [.int .u32 6] 1 true,.sl [] 0 true] (.ret (.sl [.int .u32 6] 1 true)):=cK (.c Tn .nil)
theorem ae2:CO 188 [.str [6],.str []] (.ret (.tup [.str [6],.bool true])):=cK (.c ZO (.c ae1 (.c ae0 (.c Ia (.c Tq .nil)))))
theorem ae3:CO 139 [.bool true,.str [6],.str [1]] (.ret (.agg [.bool true,.str [6],.str [1]])):=bT (pF true [6] [1] (by decide) (by decide) (by decide)) (by kernel_rfl)
theorem ae4:CO 172 [.agg [.bool false,.str [],.str [1]],.agg [.bool true,.str [6],.str [1]]] (.ret (.agg [.bool true,.str [6],.str [1]])):=cK (.c ae3 (.c ae2 (.c aeZ (.c Fa (.c aeX (.c H_ (.c aeS (.c WZ .nil))))))))
theorem ae5:CO 158 [.agg [.bool false,.str [],.str [1]],.agg [.bool false,.str [6],.str [1]]] (.ret (.agg [.bool true,.str [6],.str [1]])):=cK (.c ae4 (.c aeQ .nil))
theorem ae6:CO 85 [.agg [.bool true,.str [6],.str [1]]] (.ret (.int .i64 (-1))):=bT (fG true [6] [1] (by decide) (by decide)) (by kernel_rfl)
theorem ae7:CO 129 [.agg [.bool false,.str [],.str [1]],.agg [.bool false,.str [6],.str [1]]] (.ret (.int .i64 (-1))):=cK (.c ae6 (.c ae5 .nil))
theorem ae8:CO 115 [.agg [.bool false,.str [7],.str [1]]] (.ret (.bool true)):=bT (dH false [7] [1] (by decide) (by decide)) (by kernel_rfl)
theorem ae9:CO 174 [.agg [.bool false,.str [7],.str [1]]] (.ret (.agg [.bool false,.str [7],.str [1]])):=cK (.c ae8 .nil)
theorem ae_:CO 182 [.agg [.bool false,.str [7],.str [1]]] (.ret (.agg [.bool true,.str [7],.str [1]])):=cK (.c ae9 .nil)
theorem afa:CO 115 [.agg [.bool true,.str [7],.str [1]]] (.ret (.bool true)):=bT (dH true [7] [1] (by decide) (by decide)) (by kernel_rfl)
theorem afb:CO 174 [.agg [.bool true,.str [7],.str [1]]] (.ret (.agg [.bool true,.str [7],.str [1]])):=cK (.c afa .nil)
theorem Tt:CO 161 [.sl [.int .u32 7] 1 true] (.ret (.sl [.int .u32 7] 1 true)):=cK (.nil)
theorem Tu:CO 136 [.str [7]] (.ret (.sl [.int .u32 7] 1 true)):=cK (.c Tt .nil)
theorem afc:CO 161 [.sl [.int .u32 7,.int .u32 0] 2 true] (.ret (.sl [.int .u32 7] 1 true)):=cK (.nil)
theorem afd:CO 189 [.sl [.int .u32 7] 1 true,.sl [.int .u32 1] 1 true] (.ret (.sl [.int .u32 7] 1 true)):=cK (.c afc .nil)
theorem afe:CO 141 [.str [0,0,0,7],.int .u8 0] (.ret (.str [7])):=cK (.nil)
theorem aff:CO 162 [.str [0,0,0,7],.str [0]] (.ret (.str [7])):=cK (.c afe .nil)
theorem ZP:CO 134 [.sl [.int .u32 7] 1 true] (.ret (.str [7])):=cK (.c aff (.c Tt .nil))
theorem afg:CO 175 [.str [7],.str [1]] (.ret (.str [7])):=cK (.c ZP (.c afd (.c yN (.c Tu .nil))))
theorem afh:CO 183 [.sl [] 0 true,.sl [.int .u32 7] 1 true] (.ret (.int .i64 (-1))):=cK (.nil)
theorem afi:CO 188 [.str [],.str [7]] (.ret (.tup [.str [],.bool false])):=cK (.c afh (.c Tu (.c Ia .nil)))
theorem afj:CO 183 [.sl [.int .u32 7] 1 true,.sl [] 0 true] (.ret (.int .i64 1)):=cK (.nil)
theorem afk:CO 204 [.sl [.int .u32 7] 1 true,.sl [] 0 true] (.ret (.sl [.int .u32 7] 1 true)):=cK (.c Tt .nil)
theorem afl:CO 188 [.str [7],.str []] (.ret (.tup [.str [7],.bool true])):=cK (.c ZP (.c afk (.c afj (.c Ia (.c Tu .nil)))))
theorem afm:CO 139 [.bool true,.str [7],.str [1]] (.ret (.agg [.bool true,.str [7],.str [1]])):=bT (pF true [7] [1] (by decide) (by decide) (by decide)) (by kernel_rfl)
theorem afn:CO 172 [.agg [.bool false,.str [],.str [1]],.agg [.bool true,.str [7],.str [1]]] (.ret (.agg [.bool true,.str [7],.str [1]])):=cK (.c afm (.c afl (.c afi (.c Fa (.c afg (.c H_ (.c afb (.c WZ .nil))))))))
theorem afo:CO 158 [.agg [.bool false,.str [],.str [1]],.agg [.bool false,.str [7],.str [1]]] (.ret (.agg [.bool true,.str [7],.str [1]])):=cK (.c afn (.c ae_ .nil))
theorem afp:CO 85 [.agg [.bool true,.str [7],.str [1]]] (.ret (.int .i64 (-1))):=bT (fG true [7] [1] (by decide) (by decide)) (by kernel_rfl)
theorem afq:CO 129 [.agg [.bool false,.str [],.str [1]],.agg [.bool false,.str [7],.str [1]]] (.ret (.int .i64 (-1))):=cK (.c afp (.c afo .nil))
theorem afr:CO 115 [.agg [.bool false,.str [8],.str [1]]] (.ret (.bool true)):=bT (dH false [8] [1] (by decide) (by decide)) (by kernel_rfl)
theorem afs:CO 174 [.agg [.bool false,.str [8],.str [1]]] (.ret (.agg [.bool false,.str [8],.str [1]])):=cK (.c afr .nil)
theorem aft:CO 182 [.agg [.bool false,.str [8],.str [1]]] (.ret (.agg [.bool true,.str [8],.str [1]])):=cK (.c afs .nil)
theorem afu:CO 115 [.agg [.bool true,.str [8],.str [1]]] (.ret (.bool true)):=bT (dH true [8] [1] (by decide) (by decide)) (by kernel_rfl)
theorem afv:CO 174 [.agg [.bool true,.str [8],.str [1]]] (.ret (.agg [.bool true,.str [8],.str [1]])):=cK (.c afu .nil)
theorem Tv:CO 161 [.sl [.int .u32 8] 1 true] (.ret (.sl [.int .u32 8] 1 true)):=cK (.nil)
theorem Tz:CO 136 [.str [8]] (.ret (.sl [.int .u32 8] 1 true)):=cK (.c Tv .nil)
theorem afw:CO 161 [.sl [.int .u32 8,.int .u32 0] 2 true] (.ret (.sl [.int .u32 8] 1 true)):=cK (.nil)
theorem afx:CO 189 [.sl [.int .u32 8] 1 true,.sl [.int .u32 1] 1 true] (.ret (.sl [.int .u32 8] 1 true)):=cK (.c afw .nil)
theorem afy:CO 141 [.str [0,0,0,8],.int .u8 0] (.ret (.str [8])):=cK (.nil)
theorem afz:CO 162 [.str [0,0,0,8],.str [0]] (.ret (.str [8])):=cK (.c afy .nil)
theorem ZQ:CO 134 [.sl [.int .u32 8] 1 true] (.ret (.str [8])):=cK (.c afz (.c Tv .nil))
theorem afA:CO 175 [.str [8],.str [1]] (.ret (.str [8])):=cK (.c ZQ (.c afx (.c yN (.c Tz .nil))))
theorem afB:CO 183 [.sl [] 0 true,.sl [.int .u32 8] 1 true] (.ret (.int .i64 (-1))):=cK (.nil)
theorem afC:CO 188 [.str [],.str [8]] (.ret (.tup [.str [],.bool false])):=cK (.c afB (.c Tz (.c Ia .nil)))
theorem afD:CO 183 [.sl [.int .u32 8] 1 true,.sl [] 0 true] (.ret (.int .i64 1)):=cK (.nil)
theorem afE:CO 204 [.sl [.int .u32 8] 1 true,.sl [] 0 true] (.ret (.sl [.int .u32 8] 1 true)):=cK (.c Tv .nil)
theorem afF:CO 188 [.str [8],.str []] (.ret (.tup [.str [8],.bool true])):=cK (.c ZQ (.c afE (.c afD (.c Ia (.c Tz .nil)))))
theorem afG:CO 139 [.bool true,.str [8],.str [1]] (.ret (.agg [.bool true,.str [8],.str [1]])):=bT (pF true [8] [1] (by decide) (by decide) (by decide)) (by kernel_rfl)
theorem afH:CO 172 [.agg [.bool false,.str [],.str [1]],.agg [.bool true,.str [8],.str [1]]] (.ret (.agg [.bool true,.str [8],.str [1]])):=cK (.c afG (.c afF (.c afC (.c Fa (.c afA (.c H_ (.c afv (.c WZ .nil))))))))
theorem afI:CO 158 [.agg [.bool false,.str [],.str [1]],.agg [.bool false,.str [8],.str [1]]] (.ret (.agg [.bool true,.str [8],.str [1]])):=cK (.c afH (.c aft .nil))
theorem afJ:CO 85 [.agg [.bool true,.str [8],.str [1]]] (.ret (.int .i64 (-1))):=bT (fG true [8] [1] (by decide) (by decide)) (by kernel_rfl)
theorem afK:CO 129 [.agg [.bool false,.str [],.str [1]],.agg [.bool false,.str [8],.str [1]]] (.ret (.int .i64 (-1))):=cK (.c afJ (.c afI .nil))
theorem afL:CO 115 [.agg [.bool false,.str [9],.str [1]]] (.ret (.bool true)):=bT (dH false [9] [1] (by decide) (by decide)) (by kernel_rfl)
theorem afM:CO 174 [.agg [.bool false,.str [9],.str [1]]] (.ret (.agg [.bool false,.str [9],.str [1]])):=cK (.c afL .nil)
theorem afN:CO 182 [.agg [.bool false,.str [9],.str [1]]] (.ret (.agg [.bool true,.str [9],.str [1]])):=cK (.c afM .nil)
theorem afO:CO 115 [.agg [.bool true,.str [9],.str [1]]] (.ret (.bool true)):=bT (dH true [9] [1] (by decide) (by decide)) (by kernel_rfl)
theorem afP:CO 174 [.agg [.bool true,.str [9],.str [1]]] (.ret (.agg [.bool true,.str [9],.str [1]])):=cK (.c afO .nil)
theorem TA:CO 161 [.sl [.int .u32 9] 1 true] (.ret (.sl [.int .u32 9] 1 true)):=cK (.nil)
theorem TB:CO 136 [.str [9]] (.ret (.sl [.int .u32 9] 1 true)):=cK (.c TA .nil)
theorem afR:CO 161 [.sl [.int .u32 9,.int .u32 0] 2 true] (.ret (.sl [.int .u32 9] 1 true)):=cK (.nil)
theorem afS:CO 189 [.sl [.int .u32 9] 1 true,.sl [.int .u32 1] 1 true] (.ret (.sl [.int .u32 9] 1 true)):=cK (.c afR .nil)
theorem afT:CO 141 [.str [0,0,0,9],.int .u8 0] (.ret (.str [9])):=cK (.nil)
theorem afU:CO 162 [.str [0,0,0,9],.str [0]] (.ret (.str [9])):=cK (.c afT .nil)
theorem ZR:CO 134 [.sl [.int .u32 9] 1 true] (.ret (.str [9])):=cK (.c afU (.c TA .nil))
theorem afV:CO 175 [.str [9],.str [1]] (.ret (.str [9])):=cK (.c ZR (.c afS (.c yN (.c TB .nil))))
theorem afW:CO 183 [.sl [] 0 true,.sl [.int .u32 9] 1 true] (.ret (.int .i64 (-1))):=cK (.nil)
theorem afX:CO 188 [.str [],.str [9]] (.ret (.tup [.str [],.bool false])):=cK (.c afW (.c TB (.c Ia .nil)))
theorem afY:CO 183 [.sl [.int .u32 9] 1 true,.sl [] 0 true] (.ret (.int .i64 1)):=cK (.nil)
theorem afZ:CO 204 [.sl [.int .u32 9] 1 true,.sl [] 0 true] (.ret (.sl [.int .u32 9] 1 true)):=cK (.c TA .nil)
theorem af0:CO 188 [.str [9],.str []] (.ret (.tup [.str [9],.bool true])):=cK (.c ZR (.c afZ (.c afY (.c Ia (.c TB .nil)))))
theorem af1:CO 139 [.bool true,.str [9],.str [1]] (.ret (.agg [.bool true,.str [9],.str [1]])):=bT (pF true [9] [1] (by decide) (by decide) (by decide)) (by kernel_rfl)
theorem af2:CO 172 [.agg [.bool false,.str [],.str [1]],.agg [.bool true,.str [9],.str [1]]] (.ret (.agg [.bool true,.str [9],.str [1]])):=cK (.c af1 (.c af0 (.c afX (.c Fa (.c afV (.c H_ (.c afP (.c WZ .nil))))))))
theorem af4:CO 158 [.agg [.bool false,.str [],.str [1]],.agg [.bool false,.str [9],.str [1]]] (.ret (.agg [.bool true,.str [9],.str [1]])):=cK (.c af2 (.c afN .nil))
theorem af5:CO 85 [.agg [.bool true,.str [9],.str [1]]] (.ret (.int .i64 (-1))):=bT (fG true [9] [1] (by decide) (by decide)) (by kernel_rfl)
theorem af6:CO 129 [.agg [.bool false,.str [],.str [1]],.agg [.bool false,.str [9],.str [1]]] (.ret (.int .i64 (-1))):=cK (.c af5 (.c af4 .nil))
theorem af7:CO 70 [.agg [.bool false,.str [1],.str [1]]] (.ret (.agg [.bool false,.str [1],.str [1]])):=bT (bU false [1] [1] (by decide) (by decide)) (by kernel_rfl)
theorem af8:CO 59 [.agg [.bool false,.str [1],.str [1]]] (.ret (.agg [.bool true,.str [1],.str [1]])):=cK (.c af7 .nil)
theorem xG:CO 70 [.agg [.bool false,.str [],.str [1]]] (.ret (.agg [.bool false,.str [],.str [1]])):=bT (bU false [] [1] (by decide) (by decide)) (by kernel_rfl)
theorem af9:CO 70 [.agg [.bool true,.str [1],.str [1]]] (.ret (.agg [.bool true,.str [1],.str [1]])):=bT (bU true [1] [1] (by decide) (by decide)) (by kernel_rfl)
theorem jR:CO 76 [.str []] (.ret (.str [])):=cK (.nil)
theorem af_:CO 107 [.str []] (.ret (.tup [.int .i64 0,.bool true])):=cK (.c jR .nil)
theorem aga:CO 77 [.str [],.int .i64 3] (.ret (.tup [.int .i64 0,.bool true])):=cK (.c af_ (.c jR .nil))
theorem FY:CO 76 [.str [1]] (.ret (.str [1])):=cK (.nil)
theorem ZT:CO 107 [.str [1]] (.ret (.tup [.int .i64 1,.bool true])):=cK (.c FY .nil)
theorem vS:CO 77 [.str [1],.int .i64 4] (.ret (.tup [.int .i64 1,.bool true])):=cK (.c ZT (.c FY .nil))
theorem agb:CO 49 [.int .i64 0] (.ret (.str [])):=bT (dm 0 (by decide)) (by kernel_rfl)
theorem xH:CO 50 [.str [],.str [1]] (.ret (.str [])):=cK (.c agb (.c vS (.c aga .nil)))
theorem agc:CO 77 [.str [1],.int .i64 3] (.ret (.tup [.int .i64 1,.bool true])):=cK (.c ZT (.c FY .nil))
theorem agd:CO 49 [.int .i64 1] (.ret (.str [1])):=bT (dm 1 (by decide)) (by kernel_rfl)
theorem vT:CO 50 [.str [1],.str [1]] (.ret (.str [1])):=cK (.c agd (.c vS (.c agc .nil)))
theorem age:CO 118 [.str [],.str [1]] (.ret (.int .i64 (-1))):=cK (.c FY (.c jR .nil))
theorem agf:CO 118 [.str [1],.str []] (.ret (.int .i64 1)):=cK (.c jR (.c FY .nil))
theorem agh:CO 78 [.str [1]] (.ret (.own [.int .i64 1] 1 1)):=cK (.c FY .nil)
theorem xI:CO 78 [.str []] (.ret (.nilS)):=cK (.c jR .nil)
theorem agi:CO 108 [.sl [.int .i64 1] 1 true] (.ret (.sl [.int .i64 1] 1 true)):=cK (.nil)
theorem agj:CO 111 [.sl [.int .i64 1] 1 true,.nilS] (.ret (.sl [.int .i64 1] 1 true)):=cK (.c agi .nil)
theorem agk:CO 76 [.str [0,0,1]] (.ret (.str [1])):=cK (.nil)
theorem agl:CO 79 [.sl [.int .i64 1] 1 true] (.ret (.str [1])):=cK (.c agk .nil)
theorem agm:CO 119 [.str [1],.str []] (.ret (.tup [.str [1],.bool true])):=cK (.c agl (.c agj (.c xI (.c agh (.c agf .nil)))))
theorem agn:CO 51 [.bool true,.str [1],.str [1]] (.ret (.agg [.bool true,.str [1],.str [1]])):=bT (dO true 1 1 (aV (by decide)) (aV (by decide)) (by decide)) (by kernel_rfl)
theorem agp:CO 87 [.agg [.bool false,.str [],.str [1]],.agg [.bool true,.str [1],.str [1]]] (.ret (.agg [.bool true,.str [1],.str [1]])):=cK (.c agn (.c agm (.c age (.c vT (.c vT (.c xH (.c af9 (.c xG .nil))))))))
theorem agq:CO 53 [.agg [.bool false,.str [],.str [1]],.agg [.bool false,.str [1],.str [1]]] (.ret (.agg [.bool true,.str [1],.str [1]])):=cK (.c agp (.c af8 .nil))
theorem agr:CO 45 [.agg [.bool true,.str [1],.str [1]]] (.ret (.int .i64 (-1))):=bT (fM true [1] [1] (by decide) (by decide)) (by kernel_rfl)
theorem ags:CO 24 [.agg [.bool false,.str [],.str [1]],.agg [.bool false,.str [1],.str [1]]] (.ret (.int .i64 (-1))):=cK (.c agr (.c agq .nil))
theorem agt:CO 70 [.agg [.bool false,.str [2],.str [1]]] (.ret (.agg [.bool false,.str [2],.str [1]])):=bT (bU false [2] [1] (by decide) (by decide)) (by kernel_rfl)
theorem agu:CO 59 [.agg [.bool false,.str [2],.str [1]]] (.ret (.agg [.bool true,.str [2],.str [1]])):=cK (.c agt .nil)
theorem agv:CO 70 [.agg [.bool true,.str [2],.str [1]]] (.ret (.agg [.bool true,.str [2],.str [1]])):=bT (bU true [2] [1] (by decide) (by decide)) (by kernel_rfl)
theorem JH:CO 76 [.str [2]] (.ret (.str [2])):=cK (.nil)
theorem agw:CO 107 [.str [2]] (.ret (.tup [.int .i64 2,.bool true])):=cK (.c JH .nil)
theorem agx:CO 77 [.str [2],.int .i64 3] (.ret (.tup [.int .i64 2,.bool true])):=cK (.c agw (.c JH .nil))
theorem agy:CO 49 [.int .i64 2] (.ret (.str [2])):=bT (dm 2 (by decide)) (by kernel_rfl)
theorem agz:CO 50 [.str [2],.str [1]] (.ret (.str [2])):=cK (.c agy (.c vS (.c agx .nil)))
theorem agA:CO 118 [.str [],.str [2]] (.ret (.int .i64 (-1))):=cK (.c JH (.c jR .nil))
theorem agB:CO 118 [.str [2],.str []] (.ret (.int .i64 1)):=cK (.c jR (.c JH .nil))
theorem agC:CO 78 [.str [2]] (.ret (.own [.int .i64 2] 1 1)):=cK (.c JH .nil)
theorem agD:CO 108 [.sl [.int .i64 2] 1 true] (.ret (.sl [.int .i64 2] 1 true)):=cK (.nil)
theorem agF:CO 111 [.sl [.int .i64 2] 1 true,.nilS] (.ret (.sl [.int .i64 2] 1 true)):=cK (.c agD .nil)
theorem agG:CO 76 [.str [0,0,2]] (.ret (.str [2])):=cK (.nil)
theorem agI:CO 79 [.sl [.int .i64 2] 1 true] (.ret (.str [2])):=cK (.c agG .nil)
theorem agJ:CO 119 [.str [2],.str []] (.ret (.tup [.str [2],.bool true])):=cK (.c agI (.c agF (.c xI (.c agC (.c agB .nil)))))
theorem agK:CO 51 [.bool true,.str [2],.str [1]] (.ret (.agg [.bool true,.str [2],.str [1]])):=bT (dO true 2 1 (aV (by decide)) (aV (by decide)) (by decide)) (by kernel_rfl)
theorem agL:CO 87 [.agg [.bool false,.str [],.str [1]],.agg [.bool true,.str [2],.str [1]]] (.ret (.agg [.bool true,.str [2],.str [1]])):=cK (.c agK (.c agJ (.c agA (.c vT (.c agz (.c xH (.c agv (.c xG .nil))))))))
theorem agM:CO 53 [.agg [.bool false,.str [],.str [1]],.agg [.bool false,.str [2],.str [1]]] (.ret (.agg [.bool true,.str [2],.str [1]])):=cK (.c agL (.c agu .nil))
theorem agN:CO 45 [.agg [.bool true,.str [2],.str [1]]] (.ret (.int .i64 (-1))):=bT (fM true [2] [1] (by decide) (by decide)) (by kernel_rfl)
theorem agO:CO 24 [.agg [.bool false,.str [],.str [1]],.agg [.bool false,.str [2],.str [1]]] (.ret (.int .i64 (-1))):=cK (.c agN (.c agM .nil))
theorem agP:CO 70 [.agg [.bool false,.str [3],.str [1]]] (.ret (.agg [.bool false,.str [3],.str [1]])):=bT (bU false [3] [1] (by decide) (by decide)) (by kernel_rfl)
theorem agQ:CO 59 [.agg [.bool false,.str [3],.str [1]]] (.ret (.agg [.bool true,.str [3],.str [1]])):=cK (.c agP .nil)
theorem agR:CO 70 [.agg [.bool true,.str [3],.str [1]]] (.ret (.agg [.bool true,.str [3],.str [1]])):=bT (bU true [3] [1] (by decide) (by decide)) (by kernel_rfl)
theorem JI:CO 76 [.str [3]] (.ret (.str [3])):=cK (.nil)
theorem agS:CO 107 [.str [3]] (.ret (.tup [.int .i64 3,.bool true])):=cK (.c JI .nil)
theorem agT:CO 77 [.str [3],.int .i64 3] (.ret (.tup [.int .i64 3,.bool true])):=cK (.c agS (.c JI .nil))
theorem agU:CO 49 [.int .i64 3] (.ret (.str [3])):=bT (dm 3 (by decide)) (by kernel_rfl)
theorem agV:CO 50 [.str [3],.str [1]] (.ret (.str [3])):=cK (.c agU (.c vS (.c agT .nil)))
theorem agW:CO 118 [.str [],.str [3]] (.ret (.int .i64 (-1))):=cK (.c JI (.c jR .nil))
theorem agX:CO 118 [.str [3],.str []] (.ret (.int .i64 1)):=cK (.c jR (.c JI .nil))
theorem agY:CO 78 [.str [3]] (.ret (.own [.int .i64 3] 1 1)):=cK (.c JI .nil)
theorem agZ:CO 108 [.sl [.int .i64 3] 1 true] (.ret (.sl [.int .i64 3] 1 true)):=cK (.nil)
theorem ag0:CO 111 [.sl [.int .i64 3] 1 true,.nilS] (.ret (.sl [.int .i64 3] 1 true)):=cK (.c agZ .nil)
theorem ag1:CO 76 [.str [0,0,3]] (.ret (.str [3])):=cK (.nil)
theorem ag2:CO 79 [.sl [.int .i64 3] 1 true] (.ret (.str [3])):=cK (.c ag1 .nil)
theorem ag3:CO 119 [.str [3],.str []] (.ret (.tup [.str [3],.bool true])):=cK (.c ag2 (.c ag0 (.c xI (.c agY (.c agX .nil)))))
theorem ag4:CO 51 [.bool true,.str [3],.str [1]] (.ret (.agg [.bool true,.str [3],.str [1]])):=bT (dO true 3 1 (aV (by decide)) (aV (by decide)) (by decide)) (by kernel_rfl)
theorem ag5:CO 87 [.agg [.bool false,.str [],.str [1]],.agg [.bool true,.str [3],.str [1]]] (.ret (.agg [.bool true,.str [3],.str [1]])):=cK (.c ag4 (.c ag3 (.c agW (.c vT (.c agV (.c xH (.c agR (.c xG .nil))))))))
theorem ag6:CO 53 [.agg [.bool false,.str [],.str [1]],.agg [.bool false,.str [3],.str [1]]] (.ret (.agg [.bool true,.str [3],.str [1]])):=cK (.c ag5 (.c agQ .nil))
theorem ag7:CO 45 [.agg [.bool true,.str [3],.str [1]]] (.ret (.int .i64 (-1))):=bT (fM true [3] [1] (by decide) (by decide)) (by kernel_rfl)
theorem ag8:CO 24 [.agg [.bool false,.str [],.str [1]],.agg [.bool false,.str [3],.str [1]]] (.ret (.int .i64 (-1))):=cK (.c ag7 (.c ag6 .nil))
theorem ag9:CO 70 [.agg [.bool false,.str [4],.str [1]]] (.ret (.agg [.bool false,.str [4],.str [1]])):=bT (bU false [4] [1] (by decide) (by decide)) (by kernel_rfl)
theorem ag_:CO 59 [.agg [.bool false,.str [4],.str [1]]] (.ret (.agg [.bool true,.str [4],.str [1]])):=cK (.c ag9 .nil)
theorem aha:CO 70 [.agg [.bool true,.str [4],.str [1]]] (.ret (.agg [.bool true,.str [4],.str [1]])):=bT (bU true [4] [1] (by decide) (by decide)) (by kernel_rfl)
theorem JJ:CO 76 [.str [4]] (.ret (.str [4])):=cK (.nil)
theorem ahb:CO 107 [.str [4]] (.ret (.tup [.int .i64 4,.bool true])):=cK (.c JJ .nil)
theorem ahc:CO 77 [.str [4],.int .i64 3] (.ret (.tup [.int .i64 4,.bool true])):=cK (.c ahb (.c JJ .nil))
theorem ahd:CO 49 [.int .i64 4] (.ret (.str [4])):=bT (dm 4 (by decide)) (by kernel_rfl)
theorem ahe:CO 50 [.str [4],.str [1]] (.ret (.str [4])):=cK (.c ahd (.c vS (.c ahc .nil)))
theorem ahf:CO 118 [.str [],.str [4]] (.ret (.int .i64 (-1))):=cK (.c JJ (.c jR .nil))
theorem ahg:CO 118 [.str [4],.str []] (.ret (.int .i64 1)):=cK (.c jR (.c JJ .nil))
theorem ahh:CO 78 [.str [4]] (.ret (.own [.int .i64 4] 1 1)):=cK (.c JJ .nil)
theorem ahi:CO 108 [.sl [.int .i64 4] 1 true] (.ret (.sl [.int .i64 4] 1 true)):=cK (.nil)
theorem ahj:CO 111 [.sl [.int .i64 4] 1 true,.nilS] (.ret (.sl [.int .i64 4] 1 true)):=cK (.c ahi .nil)
theorem ahk:CO 76 [.str [0,0,4]] (.ret (.str [4])):=cK (.nil)
theorem ahl:CO 79 [.sl [.int .i64 4] 1 true] (.ret (.str [4])):=cK (.c ahk .nil)
theorem ahm:CO 119 [.str [4],.str []] (.ret (.tup [.str [4],.bool true])):=cK (.c ahl (.c ahj (.c xI (.c ahh (.c ahg .nil)))))
theorem ahn:CO 51 [.bool true,.str [4],.str [1]] (.ret (.agg [.bool true,.str [4],.str [1]])):=bT (dO true 4 1 (aV (by decide)) (aV (by decide)) (by decide)) (by kernel_rfl)
theorem aho:CO 87 [.agg [.bool false,.str [],.str [1]],.agg [.bool true,.str [4],.str [1]]] (.ret (.agg [.bool true,.str [4],.str [1]])):=cK (.c ahn (.c ahm (.c ahf (.c vT (.c ahe (.c xH (.c aha (.c xG .nil))))))))
theorem ahp:CO 53 [.agg [.bool false,.str [],.str [1]],.agg [.bool false,.str [4],.str [1]]] (.ret (.agg [.bool true,.str [4],.str [1]])):=cK (.c aho (.c ag_ .nil))
theorem ahq:CO 45 [.agg [.bool true,.str [4],.str [1]]] (.ret (.int .i64 (-1))):=bT (fM true [4] [1] (by decide) (by decide)) (by kernel_rfl)
theorem ahr:CO 24 [.agg [.bool false,.str [],.str [1]],.agg [.bool false,.str [4],.str [1]]] (.ret (.int .i64 (-1))):=cK (.c ahq (.c ahp .nil))
theorem ahs:CO 70 [.agg [.bool false,.str [5],.str [1]]] (.ret (.agg [.bool false,.str [5],.str [1]])):=bT (bU false [5] [1] (by decide) (by decide)) (by kernel_rfl)
theorem aht:CO 59 [.agg [.bool false,.str [5],.str [1]]] (.ret (.agg [.bool true,.str [5],.str [1]])):=cK (.c ahs .nil)
theorem ahu:CO 70 [.agg [.bool true,.str [5],.str [1]]] (.ret (.agg [.bool true,.str [5],.str [1]])):=bT (bU true [5] [1] (by decide) (by decide)) (by kernel_rfl)
theorem JK:CO 76 [.str [5]] (.ret (.str [5])):=cK (.nil)
theorem ahv:CO 107 [.str [5]] (.ret (.tup [.int .i64 5,.bool true])):=cK (.c JK .nil)
theorem ahw:CO 77 [.str [5],.int .i64 3] (.ret (.tup [.int .i64 5,.bool true])):=cK (.c ahv (.c JK .nil))
theorem ahx:CO 49 [.int .i64 5] (.ret (.str [5])):=bT (dm 5 (by decide)) (by kernel_rfl)
theorem ahy:CO 50 [.str [5],.str [1]] (.ret (.str [5])):=cK (.c ahx (.c vS (.c ahw .nil)))
theorem ahz:CO 118 [.str [],.str [5]] (.ret (.int .i64 (-1))):=cK (.c JK (.c jR .nil))
theorem ahA:CO 118 [.str [5],.str []] (.ret (.int .i64 1)):=cK (.c jR (.c JK .nil))
theorem ahB:CO 78 [.str [5]] (.ret (.own [.int .i64 5] 1 1)):=cK (.c JK .nil)
theorem ahC:CO 108 [.sl [.int .i64 5] 1 true] (.ret (.sl [.int .i64 5] 1 true)):=cK (.nil)
theorem ahD:CO 111 [.sl [.int .i64 5] 1 true,.nilS] (.ret (.sl [.int .i64 5] 1 true)):=cK (.c ahC .nil)
theorem ahE:CO 76 [.str [0,0,5]] (.ret (.str [5])):=cK (.nil)
theorem ahF:CO 79 [.sl [.int .i64 5] 1 true] (.ret (.str [5])):=cK (.c ahE .nil)
theorem ahG:CO 119 [.str [5],.str []] (.ret (.tup [.str [5],.bool true])):=cK (.c ahF (.c ahD (.c xI (.c ahB (.c ahA .nil)))))
theorem ahH:CO 51 [.bool true,.str [5],.str [1]] (.ret (.agg [.bool true,.str [5],.str [1]])):=bT (dO true 5 1 (aV (by decide)) (aV (by decide)) (by decide)) (by kernel_rfl)
theorem ahI:CO 87 [.agg [.bool false,.str [],.str [1]],.agg [.bool true,.str [5],.str [1]]] (.ret (.agg [.bool true,.str [5],.str [1]])):=cK (.c ahH (.c ahG (.c ahz (.c vT (.c ahy (.c xH (.c ahu (.c xG .nil))))))))
theorem ahJ:CO 53 [.agg [.bool false,.str [],.str [1]],.agg [.bool false,.str [5],.str [1]]] (.ret (.agg [.bool true,.str [5],.str [1]])):=cK (.c ahI (.c aht .nil))
theorem ahK:CO 45 [.agg [.bool true,.str [5],.str [1]]] (.ret (.int .i64 (-1))):=bT (fM true [5] [1] (by decide) (by decide)) (by kernel_rfl)
theorem ahL:CO 24 [.agg [.bool false,.str [],.str [1]],.agg [.bool false,.str [5],.str [1]]] (.ret (.int .i64 (-1))):=cK (.c ahK (.c ahJ .nil))
theorem ahM:CO 70 [.agg [.bool false,.str [6],.str [1]]] (.ret (.agg [.bool false,.str [6],.str [1]])):=bT (bU false [6] [1] (by decide) (by decide)) (by kernel_rfl)
theorem ahN:CO 59 [.agg [.bool false,.str [6],.str [1]]] (.ret (.agg [.bool true,.str [6],.str [1]])):=cK (.c ahM .nil)
theorem ahO:CO 70 [.agg [.bool true,.str [6],.str [1]]] (.ret (.agg [.bool true,.str [6],.str [1]])):=bT (bU true [6] [1] (by decide) (by decide)) (by kernel_rfl)
theorem JL:CO 76 [.str [6]] (.ret (.str [6])):=cK (.nil)
theorem ahP:CO 107 [.str [6]] (.ret (.tup [.int .i64 6,.bool true])):=cK (.c JL .nil)
theorem ahQ:CO 77 [.str [6],.int .i64 3] (.ret (.tup [.int .i64 6,.bool true])):=cK (.c ahP (.c JL .nil))
theorem ahR:CO 49 [.int .i64 6] (.ret (.str [6])):=bT (dm 6 (by decide)) (by kernel_rfl)
theorem ahS:CO 50 [.str [6],.str [1]] (.ret (.str [6])):=cK (.c ahR (.c vS (.c ahQ .nil)))
theorem ahT:CO 118 [.str [],.str [6]] (.ret (.int .i64 (-1))):=cK (.c JL (.c jR .nil))
theorem ahU:CO 118 [.str [6],.str []] (.ret (.int .i64 1)):=cK (.c jR (.c JL .nil))
theorem ahV:CO 78 [.str [6]] (.ret (.own [.int .i64 6] 1 1)):=cK (.c JL .nil)
theorem ahW:CO 108 [.sl [.int .i64 6] 1 true] (.ret (.sl [.int .i64 6] 1 true)):=cK (.nil)
theorem ahX:CO 111 [.sl [.int .i64 6] 1 true,.nilS] (.ret (.sl [.int .i64 6] 1 true)):=cK (.c ahW .nil)
theorem ahY:CO 76 [.str [0,0,6]] (.ret (.str [6])):=cK (.nil)
theorem ahZ:CO 79 [.sl [.int .i64 6] 1 true] (.ret (.str [6])):=cK (.c ahY .nil)
theorem ah0:CO 119 [.str [6],.str []] (.ret (.tup [.str [6],.bool true])):=cK (.c ahZ (.c ahX (.c xI (.c ahV (.c ahU .nil)))))
theorem ah1:CO 51 [.bool true,.str [6],.str [1]] (.ret (.agg [.bool true,.str [6],.str [1]])):=bT (dO true 6 1 (aV (by decide)) (aV (by decide)) (by decide)) (by kernel_rfl)
theorem ah2:CO 87 [.agg [.bool false,.str [],.str [1]],.agg [.bool true,.str [6],.str [1]]] (.ret (.agg [.bool true,.str [6],.str [1]])):=cK (.c ah1 (.c ah0 (.c ahT (.c vT (.c ahS (.c xH (.c ahO (.c xG .nil))))))))
theorem ah3:CO 53 [.agg [.bool false,.str [],.str [1]],.agg [.bool false,.str [6],.str [1]]] (.ret (.agg [.bool true,.str [6],.str [1]])):=cK (.c ah2 (.c ahN .nil))
theorem ah4:CO 45 [.agg [.bool true,.str [6],.str [1]]] (.ret (.int .i64 (-1))):=bT (fM true [6] [1] (by decide) (by decide)) (by kernel_rfl)
theorem ah5:CO 24 [.agg [.bool false,.str [],.str [1]],.agg [.bool false,.str [6],.str [1]]] (.ret (.int .i64 (-1))):=cK (.c ah4 (.c ah3 .nil))
theorem ah6:CO 70 [.agg [.bool false,.str [7],.str [1]]] (.ret (.agg [.bool false,.str [7],.str [1]])):=bT (bU false [7] [1] (by decide) (by decide)) (by kernel_rfl)
theorem ah7:CO 59 [.agg [.bool false,.str [7],.str [1]]] (.ret (.agg [.bool true,.str [7],.str [1]])):=cK (.c ah6 .nil)
theorem ah8:CO 70 [.agg [.bool true,.str [7],.str [1]]] (.ret (.agg [.bool true,.str [7],.str [1]])):=bT (bU true [7] [1] (by decide) (by decide)) (by kernel_rfl)
theorem JM:CO 76 [.str [7]] (.ret (.str [7])):=cK (.nil)
theorem ah9:CO 107 [.str [7]] (.ret (.tup [.int .i64 7,.bool true])):=cK (.c JM .nil)
theorem ah_:CO 77 [.str [7],.int .i64 3] (.ret (.tup [.int .i64 7,.bool true])):=cK (.c ah9 (.c JM .nil))
theorem aia:CO 49 [.int .i64 7] (.ret (.str [7])):=bT (dm 7 (by decide)) (by kernel_rfl)
theorem aib:CO 50 [.str [7],.str [1]] (.ret (.str [7])):=cK (.c aia (.c vS (.c ah_ .nil)))
theorem aic:CO 118 [.str [],.str [7]] (.ret (.int .i64 (-1))):=cK (.c JM (.c jR .nil))
theorem aid:CO 118 [.str [7],.str []] (.ret (.int .i64 1)):=cK (.c jR (.c JM .nil))
theorem aie:CO 78 [.str [7]] (.ret (.own [.int .i64 7] 1 1)):=cK (.c JM .nil)
theorem aif:CO 108 [.sl [.int .i64 7] 1 true] (.ret (.sl [.int .i64 7] 1 true)):=cK (.nil)
theorem aig:CO 111 [.sl [.int .i64 7] 1 true,.nilS] (.ret (.sl [.int .i64 7] 1 true)):=cK (.c aif .nil)
theorem aih:CO 76 [.str [0,0,7]] (.ret (.str [7])):=cK (.nil)
theorem aii:CO 79 [.sl [.int .i64 7] 1 true] (.ret (.str [7])):=cK (.c aih .nil)
theorem aij:CO 119 [.str [7],.str []] (.ret (.tup [.str [7],.bool true])):=cK (.c aii (.c aig (.c xI (.c aie (.c aid .nil)))))
theorem aik:CO 51 [.bool true,.str [7],.str [1]] (.ret (.agg [.bool true,.str [7],.str [1]])):=bT (dO true 7 1 (aV (by decide)) (aV (by decide)) (by decide)) (by kernel_rfl)
theorem ail:CO 87 [.agg [.bool false,.str [],.str [1]],.agg [.bool true,.str [7],.str [1]]] (.ret (.agg [.bool true,.str [7],.str [1]])):=cK (.c aik (.c aij (.c aic (.c vT (.c aib (.c xH (.c ah8 (.c xG .nil))))))))
theorem aim:CO 53 [.agg [.bool false,.str [],.str [1]],.agg [.bool false,.str [7],.str [1]]] (.ret (.agg [.bool true,.str [7],.str [1]])):=cK (.c ail (.c ah7 .nil))
theorem ain:CO 45 [.agg [.bool true,.str [7],.str [1]]] (.ret (.int .i64 (-1))):=bT (fM true [7] [1] (by decide) (by decide)) (by kernel_rfl)
theorem aio:CO 24 [.agg [.bool false,.str [],.str [1]],.agg [.bool false,.str [7],.str [1]]] (.ret (.int .i64 (-1))):=cK (.c ain (.c aim .nil))
theorem aip:CO 70 [.agg [.bool false,.str [8],.str [1]]] (.ret (.agg [.bool false,.str [8],.str [1]])):=bT (bU false [8] [1] (by decide) (by decide)) (by kernel_rfl)
theorem aiq:CO 59 [.agg [.bool false,.str [8],.str [1]]] (.ret (.agg [.bool true,.str [8],.str [1]])):=cK (.c aip .nil)
theorem air:CO 70 [.agg [.bool true,.str [8],.str [1]]] (.ret (.agg [.bool true,.str [8],.str [1]])):=bT (bU true [8] [1] (by decide) (by decide)) (by kernel_rfl)
theorem JO:CO 76 [.str [8]] (.ret (.str [8])):=cK (.nil)
theorem ais:CO 107 [.str [8]] (.ret (.tup [.int .i64 8,.bool true])):=cK (.c JO .nil)
theorem ait:CO 77 [.str [8],.int .i64 3] (.ret (.tup [.int .i64 8,.bool true])):=cK (.c ais (.c JO .nil))
theorem aiu:CO 49 [.int .i64 8] (.ret (.str [8])):=bT (dm 8 (by decide)) (by kernel_rfl)
theorem aiv:CO 50 [.str [8],.str [1]] (.ret (.str [8])):=cK (.c aiu (.c vS (.c ait .nil)))
theorem aiw:CO 118 [.str [],.str [8]] (.ret (.int .i64 (-1))):=cK (.c JO (.c jR .nil))
theorem aix:CO 118 [.str [8],.str []] (.ret (.int .i64 1)):=cK (.c jR (.c JO .nil))
theorem aiy:CO 78 [.str [8]] (.ret (.own [.int .i64 8] 1 1)):=cK (.c JO .nil)
theorem aiz:CO 108 [.sl [.int .i64 8] 1 true] (.ret (.sl [.int .i64 8] 1 true)):=cK (.nil)
theorem aiA:CO 111 [.sl [.int .i64 8] 1 true,.nilS] (.ret (.sl [.int .i64 8] 1 true)):=cK (.c aiz .nil)
theorem aiB:CO 76 [.str [0,0,8]] (.ret (.str [8])):=cK (.nil)
theorem aiC:CO 79 [.sl [.int .i64 8] 1 true] (.ret (.str [8])):=cK (.c aiB .nil)
theorem aiD:CO 119 [.str [8],.str []] (.ret (.tup [.str [8],.bool true])):=cK (.c aiC (.c aiA (.c xI (.c aiy (.c aix .nil)))))
theorem aiE:CO 51 [.bool true,.str [8],.str [1]] (.ret (.agg [.bool true,.str [8],.str [1]])):=bT (dO true 8 1 (aV (by decide)) (aV (by decide)) (by decide)) (by kernel_rfl)
theorem aiF:CO 87 [.agg [.bool false,.str [],.str [1]],.agg [.bool true,.str [8],.str [1]]] (.ret (.agg [.bool true,.str [8],.str [1]])):=cK (.c aiE (.c aiD (.c aiw (.c vT (.c aiv (.c xH (.c air (.c xG .nil))))))))
theorem aiG:CO 53 [.agg [.bool false,.str [],.str [1]],.agg [.bool false,.str [8],.str [1]]] (.ret (.agg [.bool true,.str [8],.str [1]])):=cK (.c aiF (.c aiq .nil))
theorem aiH:CO 45 [.agg [.bool true,.str [8],.str [1]]] (.ret (.int .i64 (-1))):=bT (fM true [8] [1] (by decide) (by decide)) (by kernel_rfl)
theorem aiI:CO 24 [.agg [.bool false,.str [],.str [1]],.agg [.bool false,.str [8],.str [1]]] (.ret (.int .i64 (-1))):=cK (.c aiH (.c aiG .nil))
theorem aiJ:CO 70 [.agg [.bool false,.str [9],.str [1]]] (.ret (.agg [.bool false,.str [9],.str [1]])):=bT (bU false [9] [1] (by decide) (by decide)) (by kernel_rfl)
theorem aiK:CO 59 [.agg [.bool false,.str [9],.str [1]]] (.ret (.agg [.bool true,.str [9],.str [1]])):=cK (.c aiJ .nil)
theorem aiL:CO 70 [.agg [.bool true,.str [9],.str [1]]] (.ret (.agg [.bool true,.str [9],.str [1]])):=bT (bU true [9] [1] (by decide) (by decide)) (by kernel_rfl)
theorem JP:CO 76 [.str [9]] (.ret (.str [9])):=cK (.nil)
theorem aiM:CO 107 [.str [9]] (.ret (.tup [.int .i64 9,.bool true])):=cK (.c JP .nil)
theorem aiN:CO 77 [.str [9],.int .i64 3] (.ret (.tup [.int .i64 9,.bool true])):=cK (.c aiM (.c JP .nil))
theorem aiO:CO 49 [.int .i64 9] (.ret (.str [9])):=bT (dm 9 (by decide)) (by kernel_rfl)
theorem aiP:CO 50 [.str [9],.str [1]] (.ret (.str [9])):=cK (.c aiO (.c vS (.c aiN .nil)))
theorem aiQ:CO 118 [.str [],.str [9]] (.ret (.int .i64 (-1))):=cK (.c JP (.c jR .nil))
theorem aiR:CO 118 [.str [9],.str []] (.ret (.int .i64 1)):=cK (.c jR (.c JP .nil))
theorem aiS:CO 78 [.str [9]] (.ret (.own [.int .i64 9] 1 1)):=cK (.c JP .nil)
theorem aiT:CO 108 [.sl [.int .i64 9] 1 true] (.ret (.sl [.int .i64 9] 1 true)):=cK (.nil)
theorem aiU:CO 111 [.sl [.int .i64 9] 1 true,.nilS] (.ret (.sl [.int .i64 9] 1 true)):=cK (.c aiT .nil)
theorem aiV:CO 76 [.str [0,0,9]] (.ret (.str [9])):=cK (.nil)
theorem aiW:CO 79 [.sl [.int .i64 9] 1 true] (.ret (.str [9])):=cK (.c aiV .nil)
theorem aiX:CO 119 [.str [9],.str []] (.ret (.tup [.str [9],.bool true])):=cK (.c aiW (.c aiU (.c xI (.c aiS (.c aiR .nil)))))
theorem aiY:CO 51 [.bool true,.str [9],.str [1]] (.ret (.agg [.bool true,.str [9],.str [1]])):=bT (dO true 9 1 (aV (by decide)) (aV (by decide)) (by decide)) (by kernel_rfl)
theorem aiZ:CO 87 [.agg [.bool false,.str [],.str [1]],.agg [.bool true,.str [9],.str [1]]] (.ret (.agg [.bool true,.str [9],.str [1]])):=cK (.c aiY (.c aiX (.c aiQ (.c vT (.c aiP (.c xH (.c aiL (.c xG .nil))))))))
theorem ai0:CO 53 [.agg [.bool false,.str [],.str [1]],.agg [.bool false,.str [9],.str [1]]] (.ret (.agg [.bool true,.str [9],.str [1]])):=cK (.c aiZ (.c aiK .nil))
theorem ai1:CO 45 [.agg [.bool true,.str [9],.str [1]]] (.ret (.int .i64 (-1))):=bT (fM true [9] [1] (by decide) (by decide)) (by kernel_rfl)
theorem ai2:CO 24 [.agg [.bool false,.str [],.str [1]],.agg [.bool false,.str [9],.str [1]]] (.ret (.int .i64 (-1))):=cK (.c ai1 (.c ai0 .nil))
theorem aa1 (n:Nat) (h:1≤n∧n≤9):CO 129 [.agg [.bool false,.str [],.str [1]],.agg [.bool false,.str [UInt8.ofNat n],.str [1]]] (.ret (.int .i64 (-1))):=by
 obtain ⟨a,b⟩:=h
 match n,a,b with
 |1,_,_=>exact aom
 |2,_,_=>exact aoG
 |3,_,_=>exact ao0
 |4,_,_=>exact aet
 |5,_,_=>exact aeN
 |6,_,_=>exact ae7
 |7,_,_=>exact afq
 |8,_,_=>exact afK
 |9,_,_=>exact af6
theorem alm (n:Nat) (h:1≤n∧n≤9):CO 24 [.agg [.bool false,.str [],.str [1]],.agg [.bool false,.str [UInt8.ofNat n],.str [1]]] (.ret (.int .i64 (-1))):=by
 obtain ⟨a,b⟩:=h
 match n,a,b with
 |1,_,_=>exact ags
 |2,_,_=>exact agO
 |3,_,_=>exact ag8
 |4,_,_=>exact ahr
 |5,_,_=>exact ahL
 |6,_,_=>exact ah5
 |7,_,_=>exact aio
 |8,_,_=>exact aiI
 |9,_,_=>exact ai2
theorem jE {a:List Nd} (h:a.all (fun x=>Nat.ble (x.num.length+1) 8589934592 && Nat.ble (x.den.length+1) 8589934592)=true):∀ x ∈ a,x.sm:=by
 intro x b
 have:=List.all_eq_true.1 h x b
 rw [Bool.and_eq_true] at this
 exact ⟨Nat.le_of_ble_eq_true this.1,Nat.le_of_ble_eq_true this.2⟩
def kW:Br→Br→Int:=fun _ _=> -1
theorem uB {f:Nat}:Hm f kW []:=fun q a=>by simp at a
theorem F6 {f:Nat} {a b:Br} (h:CO f [LZ a,LZ b] (.ret (.int .i64 (-1)))):rZ f kW [a,b]:=by
 intro i y x d c _ _
 match i with
 |0=>simp at d c;subst d c;exact h
 |i+1=>simp at c
theorem Qg {f:Nat} {a:Br}:rZ f kW [a]:=by
 intro i y x c b _ _
 simp at b
theorem Ld {f:Nat} {a b:Br} {e:List UInt8} {u1 u2:Int} (g:a.sm) (i:b.sm) (h:CO f [LZ a,LZ b] (.ret (.int .i64 (-1)))):Hm f kW [⟨e,u1,u2,[a,b]⟩]:=by
 intro q c
 rw [List.mem_singleton] at c
 subst c
 refine ⟨by simp, ?_,F6 h⟩
 intro x d
 simp only [List.mem_cons,List.not_mem_nil,or_false] at d
 rcases d with rfl|rfl
 ·exact g
 ·exact i
def Wl (q:Sq):Prop:=∃ b:Br,b.sm∧b.fn=false∧b.fa= []∧b.fd= [1]∧(q.l= [b]∨∃ (c:Br) (n:Nat),1≤n∧n≤9∧c.sm∧c.fn=false∧c.fa= [UInt8.ofNat n]∧c.fd= [1]∧q.l= [b,c])
theorem G5 {f:Nat} (r:∀ n:Nat,1≤n∧n≤9→CO f [.agg [.bool false,.str [],.str [1]],.agg [.bool false,.str [UInt8.ofNat n],.str [1]]] (.ret (.int .i64 (-1)))) {qs:List Sq} (h:∀ q ∈ qs,Wl q):Hm f kW qs:=by
 intro q s
 obtain ⟨b,i,t,p,l,a⟩:=h q s
 rcases a with a|⟨c,n,m,j,k,o,e,g,a⟩
 ·rw [a]
  refine ⟨by simp, ?_,Qg⟩
  intro x d
  rw [List.mem_singleton] at d
  exact d ▸ i
 ·rw [a]
  refine ⟨by simp, ?_,F6 ?_⟩
  ·intro x d
   simp only [List.mem_cons,List.not_mem_nil,or_false] at d
   rcases d with rfl|rfl
   ·exact i
   ·exact k
  ·have:=r n ⟨m,j⟩
   unfold LZ
   rw [t,p,l,o,e,g]
   exact this
end Go.Proofs.Tryz
