/- Contracts of functions that the law reaches, each by its own hypotheses; joined by a program of mine. -/
import Derived.Test.YtcjindbblhcopaaGreatDoorC2
import Derived.Test.YtcjindbblhcopaaGreatDoorC1
import Derived.RangeFuncBox
import Derived.RangeFuncCalls
import Derived.RangeFuncLeaves
import Derived.Shelf.Abstract
import Derived.WalkKit
import Derived.OwnWalkIn
import Derived.TacticsInMore
import Derived.LoopNIn
import Derived.LoopIn
set_option linter.unusedSimpArgs false
set_option linter.unusedVariables false
set_option maxRecDepth 100000
open Go AM
namespace Go.Proofs.Tryz
theorem wkn {n a:Nat} (h:n=a+1) (b:n<2^40):AV.int .i64 (IntKind.wrap .i64 ((n:Int) - ((1:Nat):Int)))= .int .i64 (a:Int):=by rw [dB]<;>first|(congr 1;omega)|omega
theorem deq (n:Nat):decide ((n:Int)=(n:Int))=true:=decide_eq_true rfl
theorem dle {n:Nat} (h:n<2^40):decide ((n:Int)≤((1099511627776:Nat):Int))=true:=decide_eq_true (by omega)
theorem VB:CO 38 [] (.ret (.mp [.int .i64 9,.int .i64 13,.int .i64 14,.int .i64 21,.int .i64 22,.int .i64 23,.int .i64 10,.int .i64 11,.int .i64 12,.int .i64 15,.int .i64 24] [.fn 39 [] [],.fn 39 [] [],.fn 39 [] [],.fn 39 [] [],.fn 39 [] [],.fn 39 [] [],.fn 63 [] [],.fn 64 [] [],.fn 65 [] [],.fn 66 [] [],.fn 67 [] []])):=cK .nil
theorem Jy (l:List Nd) (b:Bool) (a:∀ x ∈ l,x.sm) (c:dG l=0):CO 37 [.sl (aI l) l.length b] (.ret (.tup [.sl (bC (bQ l)) (bQ l).length true,.bool true])):=by
 rw [(m_ c).1];exact WL l b a c
theorem amu (e:List Nd) (b:Bool) (A:List (List Nat)) (c:List Sc) (g:Bool) (h:List Nat) (f:Int) (a:List UInt8) (d:CO 37 [.sl (aI e) e.length b] (.ret (.tup [.nilS,.bool false]))):CO 14 [.sl (aI e) e.length b,.sl (eX c) c.length g,.int .i64 f,.str a] (.ret (.int .i64 ((3:Nat):Int))):=pK [] 3 7 (.n 3 .nil) (.c d .nil)
theorem ac2 (e:List Nd) (c:Bool) (A:List (List Nat)) (f:List Sc) (g:Bool) (i:List Nat) (b:Int) (a:List UInt8) (d:CO 37 [.sl (aI e) e.length c] (.ret (.tup [.sl (bC A) A.length true,.bool true]))) (j:b<5∨8<b):CO 14 [.sl (aI e) e.length c,.sl (eX f) f.length g,.int .i64 b,.str a] (.ret (.int .i64 ((3:Nat):Int))):=by
 rcases tf (decide (b<((5:Nat):Int))) with b0|b0
 ·exact pK [] 3 6 (.k 1 (aC b0) (.n 1 .nil)) (.c d .nil)
 ·have h:(decide (((8:Nat):Int)<b))=true:=decide_eq_true (by have:=of_decide_eq_false b0;omega)
  exact pK [] 3 4 (.c (aC h) (.c (aB b0) (.n 1 .nil))) (.c d .nil)
theorem amv (e:List Nd) (c:Bool) (A:List (List Nat)) (b:List Sc) (i:Bool) (h:List Nat) (f:Int) (a:List UInt8) (g s:Nat) (m:List AV) (l:CO 37 [.sl (aI e) e.length c] (.ret (.tup [.sl (bC A) A.length true,.bool true]))) (o:(decide (f<((5:Nat):Int)))=false) (n:(decide (((8:Nat):Int)<f))=false) (j:e.length=g+1) (d:e.length<2^40) (k:g<h.length) (hs:(List.drop ((0+(Int.toNat (g:Int)))*1) (ai h))= [AV.int .i64 (s:Int)]++m)
  (m0:Nat) (Z:List AV) (hm0:m0=Int.toNat (e.length:Int)) (hZ:Z=iU (Int.toNat (e.length:Int)) [.int .i64 0])
  (l0:aH prog ap [] 111 (.block 0 (.loop (ae 0 (af f14)))) ⟨[(0,.sl (aI e) e.length c),(1,.sl (eX b) b.length i),(2,.int .i64 f),(3,.str a),(8,.int .i64 0),(9,.sl (bC A) A.length true),(10,.bool true),(11,.ptr 0 0 0),(12,.mp [.int .i64 9,.int .i64 13,.int .i64 14,.int .i64 21,.int .i64 22,.int .i64 23,.int .i64 10,.int .i64 11,.int .i64 12,.int .i64 15,.int .i64 24] [.fn 39 [] [],.fn 39 [] [],.fn 39 [] [],.fn 39 [] [],.fn 39 [] [],.fn 39 [] [],.fn 63 [] [],.fn 64 [] [],.fn 65 [] [],.fn 66 [] [],.fn 67 [] []]),(13,.dead),(14,.dead),(15,.dead),(16,.dead),(31,.bool (decide (((8:Nat):Int)<f))),(41,.sl (aI e) e.length c),(42,.int .i64 (e.length:Int)),(43,.int .i64 0),(44,.dead),(61,.dead),(78,.dead),(89,.dead)],[(0,⟨[.sl (aI e) e.length c,.sl (bC A) A.length true,.sl (eX b) b.length i,.ref 1 0 0 m0],0,false,0,0,false⟩),(1,⟨Z,0,false,0,1,true⟩)],.dead,[]⟩ (.normal) ⟨[(0,.sl (aI e) e.length c),(11,.ptr 0 0 0)],[(0,⟨[.sl (aI e) e.length c,.sl (bC A) A.length true,.sl (eX b) b.length i,.ref 1 0 0 h.length],0,false,0,0,false⟩),(1,⟨(ai h),0,false,0,1,true⟩)],.dead,[]⟩):CO 14 [.sl (aI e) e.length c,.sl (eX b) b.length i,.int .i64 f,.str a] (.ret (.int .i64 (s:Int))):=by
 subst hm0 hZ
 exact pK [0] 3 0 (.a (gZ [.int .i64] hs rfl) (.c (aQ g) (.c (bK k) (.k 1 (aQ e.length) (.c (deq e.length) (.c (dle d) (.c (aB n) (.c (aB o) (.n 1 .nil))))))))) (.v 110 (.rd1 (.int .i64) hs rfl) (.v 108 (.eq (wkn j d)) (.l l0 (.c VB (.c l .nil)))))
def sJ (ck:Sc→Int) (up:Sc→Bool) (e:List Nd) (A:List (List Nat)) (sc:List Sc) (op:Int) (name:List UInt8):List Nd→Nat→List Nat→List Nat
 | [],_,ss=>ss
 |x::r,k,ss=>sJ ck up e A sc op name r (k+1) (ss.set k (yD ck up e A sc op name ss k x))
theorem zt (ck:Sc→Int) (b:Sc→Bool) (e:List Nd) (A:List (List Nat)) (c:List Sc) (d:Int) (a:List UInt8):∀ (r:List Nd) (k:Nat) (ss:List Nat),(sJ ck b e A c d a r k ss).length=ss.length
 | [],_,_=>rfl
 |x::r,k,ss=>by simp only [sJ,zt ck b e A c d a r,List.length_set]
def jD (ck:Sc→Int) (up:Sc→Bool) (e:List Nd) (sc:List Sc) (op:Int) (name:List UInt8):Nat:=
 if dG e=0∧5≤op∧op≤8 then (sJ ck up e (bQ e) sc op name e 0 (List.replicate e.length 0)).getD (e.length - 1) 0 else 3
theorem Y4 {nt:Nat} (q:111≤nt) (e:List Nd) (m:Bool) (l:List Sc) (o:Bool) (g:List Nat) (ck:Sc→Int) (I:Sc→Bool) (p:Int) (a:List UInt8) (k:Nat) (x:Nd) (N:∀ y ∈ e,y.sm) (Q:dG e=0) (J:e[k]? =some x) (c:e.length<2^40) (v:g.length=e.length) (K:l.length<2^40) (R:∀ x ∈ l,CO 102 [.agg (xf x)] (.ret (.int .i64 (ck x)))∧(ck x=0→CO 103 [.agg (xf x)] (.ret (.bool (I x))))):
  aj prog ap [] nt (ae 0 (af f14)) (iD e m (bQ e) l o p a (k,g)) .normal (iD e m (bQ e) l o p a (k+1,g.set k (yD ck I e (bQ e) l p a g k x))):=by
 obtain ⟨t,L⟩:=m_ Q
 obtain ⟨H,F⟩:=L k x J
 obtain ⟨r,U⟩:=List.getElem?_eq_some_iff.1 J
 have b:e.getD k jc=x:=by rw [List.getD_eq_getElem?_getD,J];rfl
 generalize S:bQ e=A at*
 have z:k<A.length:=by omega
 have w:∀ j ∈ A.getD k [],j<g.length:=fun j D=>by have:=F j D;omega
 have B:∀ j ∈ A.getD k [],j<e.length:=fun j D=>by have:=F j D;omega
 have E:(A.getD k []).length<2^40:=by rw [H];unfold dL;split<;>(try split)<;>(try split)<;>omega
 have u:(List.drop ((Int.toNat (k:Int))*5) (aI e))=iY x++aI (e.drop (k+1)):=by rw [ul r,b]
 have call_:=aaw e m A l o g k z E w
 have M:∀ j,(e.getD j jc).num.length<2^36∧(e.getD j jc).den.length<2^36:=by
  intro j
  by_cases D:j<e.length
  ·have V:e.getD j jc ∈ e:=by rw [List.getD_eq_getElem?_getD,List.getElem?_eq_getElem D];exact List.getElem_mem D
   have:=N _ V
   exact ⟨Nat.lt_trans this.1 (by decide),Nat.lt_trans this.2 (by decide)⟩
  ·rw [List.getD_eq_getElem?_getD,List.getElem?_eq_none (by omega)];decide
 have C:(Du x.op= .tup [.nilF,.bool false])∨∃ f,Du x.op= .tup [.fn f [] [],.bool true]:=by
  by_cases h1:(x.op=9∨x.op=13∨x.op=14∨x.op=21∨x.op=22∨x.op=23)∨(x.op=10)∨(x.op=11)∨(x.op=12)∨(x.op=15)∨(x.op=24)
  ·rcases h1 with h|h|h|h|h|h
   ·exact .inr ⟨_,UA h⟩
   ·exact .inr ⟨_,UF h⟩
   ·exact .inr ⟨_,UD h⟩
   ·exact .inr ⟨_,UC h⟩
   ·exact .inr ⟨_,UB h⟩
   ·exact .inr ⟨_,O1 h⟩
  ·exact .inl (UE h1)
 unfold yD
 by_cases hit:(x.op==p && x.name==a)=true
 ·rw [hit]
  rw [Bool.and_eq_true] at hit
  rcases C with h|⟨f,h⟩
  ·exact amn q e m A l o g p a k x _ b u r c t v h hit.1 hit.2
  ·exact amm q e m A l o g p a k x _ b u r c t v f h hit.1 hit.2
 ·rw [Bool.not_eq_true] at hit
  rw [hit]
  have d:(x.op==p)=false∨(x.name==a)=false:=Bool.and_eq_false_iff.1 hit
  rcases tf ((((eF A g k):Nat):Int)==((0:Nat):Int)) with b3|b3
  ·rw [b3]
   rcases tf (x.op==p) with b1|b1
   ·have P:(x.name==a)=false:=by rcases d with h|h;rw [h] at b1;cases b1;exact h
    rcases C with h|⟨f,h⟩
    ·exact amq q e m A l o g p a k x _ b u r c t v h b1 P b3 call_
    ·exact amo q e m A l o g p a k x _ b u r c t v f h b1 P b3 call_
   ·rcases C with h|⟨f,h⟩
    ·exact ams q e m A l o g p a k x _ b u r c t v h b1 b3 call_
    ·exact amr q e m A l o g p a k x _ b u r c t v f h b1 b3 call_
  ·rw [b3]
   dsimp only [cond]
   unfold fU
   have G:∀ n,dL x.op=n→∀ i,i<n→i<(A.getD k []).length:=fun n q i T=>by rw [H,q];exact T
   by_cases g1:x.op=9∨x.op=13∨x.op=14∨x.op=21∨x.op=22∨x.op=23
   ·rw [if_pos g1];exact acV q e m A l o g p a k x _ b u r c t v (UA g1) d b3 call_
   rw [if_neg g1]
   by_cases g2:x.op=10
   ·rw [if_pos g2]
    have s:=G 2 (by rw [g2];rfl)
    exact ac1 q e m A l o g p a k x _ b u r c t v (UF g2) d b3 call_ (ade e m A l o g k z w B (s 0 (by omega)) (s 1 (by omega)))
   rw [if_neg g2]
   by_cases g3:x.op=11
   ·rw [if_pos g3]
    have s:=G 2 (by rw [g3];rfl)
    exact acZ q e m A l o g p a k x _ b u r c t v (UD g3) d b3 call_ (abK e m A l o g k z w B (s 0 (by omega)) (s 1 (by omega)))
   rw [if_neg g3]
   by_cases g4:x.op=12
   ·rw [if_pos g4]
    have s:=G 2 (by rw [g4];rfl)
    exact acX q e m A l o g p a k x _ b u r c t v (UC g4) d b3 call_ (aba e m A l o g k z w B (s 0 (by omega)) (s 1 (by omega)) (M _))
   rw [if_neg g4]
   by_cases g5:x.op=15
   ·rw [if_pos g5]
    have s:=G 3 (by rw [g5];rfl)
    exact acW q e m A l o g p a k x _ b u r c t v (UB g5) d b3 call_ (aaU e m A l o g k z w B (s 0 (by omega)) (s 1 (by omega)) (s 2 (by omega)))
   rw [if_neg g5]
   by_cases g6:x.op=24
   ·rw [if_pos g6]
    have s:=G 1 (by rw [g6];rfl)
    have O:=YC e m A l o g ck I k z r K w (s 0 (by omega)) R
    rw [b] at O
    exact Y3 q e m A l o g p a k x _ b u r c t v ck I (O1 g6) d b3 call_ O
   rw [if_neg g6]
   exact ac0 q e m A l o g p a k x _ b u r c t v (UE (by rintro (h|h|h|h|h|h);exact g1 h;exact g2 h;exact g3 h;exact g4 h;exact g5 h;exact g6 h)) d b3 call_
theorem Y2 {nt:Nat} (n:111≤nt) (e:List Nd) (g:Bool) (c:List Sc) (i:Bool) (ck:Sc→Int) (f:Sc→Bool) (d:Int) (a:List UInt8) (j:∀ y ∈ e,y.sm) (q:dG e=0) (m:e.length<2^40) (k:c.length<2^40) (s:∀ x ∈ c,CO 102 [.agg (xf x)] (.ret (.int .i64 (ck x)))∧(ck x=0→CO 103 [.agg (xf x)] (.ret (.bool (f x))))):∀ (r p:List Nd) (b:List Nat),p++r=e→b.length=e.length→
  aF prog ap [] nt (ae 0 (af f14)) (fun _=> .exit 0) (iD e g (bQ e) c i d a) (VD e g (bQ e) c i) (p.length,b) (sJ ck f e (bQ e) c d a r p.length b):=by
 intro r
 induction r with
 |nil=>
  intro p b hp l
  rw [List.append_nil] at hp
  rw [hp]
  exact .done (acY n e g (bQ e) c i b d a)
 |cons x r ih=>
  intro p b hp l
  have o:e[p.length]? =some x:=by rw [← hp];simp
  have h:=ih (p++ [x]) (b.set p.length (yD ck f e (bQ e) c d a b p.length x)) (by rw [← hp];simp) (by rw [List.length_set];exact l)
  rw [List.length_append,List.length_singleton] at h
  exact .next (Y4 n e g c i b ck f d a p.length x j q o m l k s) h
theorem VE (e:List Nd) (d:Bool) (b:List Sc) (g:Bool) (ck:Sc→Int) (i:Sc→Bool) (c:Int) (a:List UInt8) (f:∀ y ∈ e,y.sm) (l:e.length<2^40) (n:b.length<2^40) (r:∀ x ∈ b,CO 102 [.agg (xf x)] (.ret (.int .i64 (ck x)))∧(ck x=0→CO 103 [.agg (xf x)] (.ret (.bool (i x))))) (o:dG e ≠ 0→CO 37 [.sl (aI e) e.length d] (.ret (.tup [.nilS,.bool false]))):
  CO 14 [.sl (aI e) e.length d,.sl (eX b) b.length g,.int .i64 c,.str a] (.ret (.int .i64 ((jD ck i e b c a:Nat):Int))):=by
 unfold jD
 by_cases hq:dG e=0
 ·by_cases ho:5≤c∧c≤8
  ·rw [if_pos ⟨hq,ho⟩]
   have h0:e ≠ []:=by intro h;rw [h] at hq;exact absurd hq (by decide)
   obtain ⟨j,m⟩:∃ j,e.length=j+1:=⟨e.length - 1,by have:=List.length_pos_iff.2 h0;omega⟩
   have p:(sJ ck i e (bQ e) b c a e 0 (List.replicate e.length 0)).length=e.length:=by rw [zt,List.length_replicate]
   have h:∀ nt,111≤nt→aF prog ap [] nt (ae 0 (af f14)) (fun _=> .exit 0) (iD e d (bQ e) b g c a) (VD e d (bQ e) b g) (0,List.replicate e.length 0) (sJ ck i e (bQ e) b c a e 0 (List.replicate e.length 0)):=fun nt s=>Y2 s e d b g ck i c a f hq l n r e [] _ rfl (List.length_replicate ..)
   generalize sJ ck i e (bQ e) b c a e 0 (List.replicate e.length 0)=ss at*
   rw [show e.length - 1=j by omega]
   have k:j<ss.length:=by omega
   refine amv e d (bQ e) b g ss c a j (ss.getD j 0) _ (Jy e d f hq) (decide_eq_false (by omega)) (decide_eq_false (by omega)) m l k (by rw [Nat.zero_add];exact kE k) (List.replicate e.length 0).length (ai (List.replicate e.length 0)) (by rw [List.length_replicate,aA]) (by rw [aA,Bd]) ?_
   have q:(decide (((8:Nat):Int)<c))=false:=decide_eq_false (by omega)
   rw [q]
   exact aF.blk h (by simp) rfl (aK.of ⟨rfl,rfl,rfl,rfl,rfl,rfl,rfl,rfl,trivial⟩) (aK.of ⟨rfl,rfl,trivial⟩)
  ·rw [if_neg (fun h=>ho h.2)]
   exact ac2 e d (bQ e) b g [] c a (Jy e d f hq) (by omega)
 ·rw [if_neg (fun h=>hq h.1)]
  exact amu e d [] b g [] c a (o hq)
theorem uw (a b:Nat):CO 41 [.int .i64 (a:Int),.int .i64 (b:Int)] (.ret (.int .i64 ((d_ a b:Nat):Int))):=by
 rcases tf ((a:Int)==((0:Nat):Int)) with b0|b0
 ·rw [show d_ a b=b by unfold d_;simp only [ig,decide_eq_true_eq,decide_eq_false_iff_not] at b0;first|(simp [*];done)|(subst b0;simp [*];done)|(subst b1;simp [*];done)|(simp [*];omega)]
  exact pK [] 2 3 (.k 1 (aC b0) .nil) (.nil)
 ·rcases tf ((a:Int)==(b:Int)) with b1|b1
  ·rw [show d_ a b=b by unfold d_;simp only [ig,decide_eq_true_eq,decide_eq_false_iff_not] at b0 b1;first|(simp [*];done)|(subst b0;simp [*];done)|(subst b1;simp [*];done)|(simp [*];omega)]
   exact pK [] 2 2 (.c (aC b1) (.c (aB b0) .nil)) (.nil)
  ·rcases tf ((b:Int)==((0:Nat):Int)) with b2|b2
   ·rw [show d_ a b=a by unfold d_;simp only [ig,decide_eq_true_eq,decide_eq_false_iff_not] at b0 b1 b2;first|(simp [*];done)|(subst b0;simp [*];done)|(subst b1;simp [*];done)|(simp [*];omega)]
    exact pK [] 3 4 (.c (aC b2) (.c (aB b1) (.c (aB b0) .nil))) (.nil)
   ·rw [show d_ a b=3 by unfold d_;simp only [ig,decide_eq_true_eq,decide_eq_false_iff_not] at b0 b1 b2;first|(simp [*];done)|(subst b0;simp [*];done)|(subst b1;simp [*];done)|(simp [*];omega)]
    exact pK [] 3 0 (.c (aB b2) (.c (aB b1) (.c (aB b0) .nil))) (.nil)
theorem Ei (a:Nat):CO 42 [.int .i64 (a:Int)] (.ret (.int .i64 ((jK a:Nat):Int))):=by
 rcases tf ((a:Int)==((1:Nat):Int)) with b0|b0
 ·have e:((jK a:Nat):Int)=IntKind.wrap .i64 (((3:Nat):Int) - (a:Int)):=by
   simp only [ig,decide_eq_true_eq,decide_eq_false_iff_not] at b0
   subst b0
   decide
  rw [e]
  exact pK [] 2 3 (.k 1 (aC b0) .nil) (.nil)
 ·rcases tf ((a:Int)==((2:Nat):Int)) with b1|b1
  ·have e:((jK a:Nat):Int)=IntKind.wrap .i64 (((3:Nat):Int) - (a:Int)):=by
    simp only [ig,decide_eq_true_eq,decide_eq_false_iff_not] at b0 b1
    subst b1
    decide
   rw [e]
   exact pK [] 2 2 (.c (aC b1) (.c (aB b0) .nil)) (.nil)
  ·rw [show jK a=a by unfold jK;simp only [ig,decide_eq_true_eq,decide_eq_false_iff_not] at b0 b1;simp [*]]
   exact pK [] 2 0 (.c (aB b1) (.c (aB b0) .nil)) (.nil)
theorem uY (s:Nat) (x:Nd):CO 44 [.int .i64 (s:Int),.agg [.bool x.neg,.str x.num,.str x.den]] (.ret (.int .i64 ((gW x.neg s:Nat):Int))):=by
 rcases tf x.neg with b0|b0
 ·rw [show gW x.neg s=jK s by unfold gW;rw [b0];rfl]
  exact pK [] 1 1 (.c (aC b0) (.n 1 .nil)) (.c (Ei s) .nil)
 ·rw [show gW x.neg s=s by unfold gW;rw [b0];rfl]
  exact pK [] 1 0 (.c (aB b0) (.n 1 .nil)) (.nil)
theorem gU (x:Nd):CO 43 [.agg (iY x)] (.ret (.bool (fF x.op))):=by
 have e:fF x.op=(decide (((1:Nat):Int)≤x.op) && decide (x.op≤((3:Nat):Int))):=by
  unfold fF
  by_cases h1:x.op=1
  ·rw [h1];rfl
  ·by_cases h2:x.op=2
   ·rw [h2];rfl
   ·by_cases h3:x.op=3
    ·rw [h3];rfl
    ·rw [beq_eq_false_iff_ne.2 h1,beq_eq_false_iff_ne.2 h2,beq_eq_false_iff_ne.2 h3]
     symm
     rw [Bool.or_self,Bool.or_self,Bool.and_eq_false_iff]
     by_cases h4:((1:Nat):Int)≤x.op
     ·exact .inr (decide_eq_false (by omega))
     ·exact .inl (decide_eq_false (by omega))
 rw [e]
 rcases tf (decide (((1:Nat):Int)≤x.op)) with b0|b0
 ·rw [b0,Bool.true_and]
  exact pK [] 1 1 (.k 1 (aC b0) (.n 1 .nil)) (.nil)
 ·rw [b0];rw [Bool.false_and]
  exact pK [] 1 0 (.c (aB b0) (.n 1 .nil)) (.nil)
def yw (ck:Sc→Int) (up:Sc→Bool) (name:List UInt8):List Sc→Option Bool
 | []=>none
 |x::r=>if x.name==name then some (ck x==0 && up x) else yw ck up name r
theorem Ee (ck:Sc→Int) (b:Sc→Bool) (a:List UInt8):∀ r,yw ck b a r=(r.find? (fun x=>x.name==a)).map fun x=>ck x==0 && b x
 | []=>rfl
 |x::r=>by
  unfold yw;rw [List.find?_cons]
  rcases tf (x.name==a) with h|h
  ·rw [if_pos h,h];rfl
  ·rw [if_neg (by rw [h];decide),h];exact Ee ck b a r
def amc (sc:List Sc) (ns:Bool) (name:List UInt8) (p:Nat × Unit):St:=⟨[(0,.sl (eX sc) sc.length ns),(1,.str name),(5,.int .i64 (p.1:Int))],[],.dead,[]⟩
def aag (sc:List Sc) (ns:Bool) (name:List UInt8):Option Bool→St
 |none=> ⟨[(0,.sl (eX sc) sc.length ns)],[],.dead,[]⟩
 |some z=> ⟨[(4,.bool z)],[],.dead,[]⟩
def rrE:Option Bool→bM
 |none=> .exit 0
 |some _=> .ret
theorem YS {nt:Nat} (f:32≤nt) (c:List Sc) (j:Bool) (a:List UInt8) (ck:Sc→Int) (h:Sc→Bool) (t:c.length<2^40) (s:∀ x ∈ c,CO 71 [.agg (xf x)] (.ret (.int .i64 (ck x)))∧(ck x=0→CO 72 [.agg (xf x)] (.ret (.bool (h x))))):∀ (r p:List Sc),p++r=c→
  aF prog ap [] nt (ae 0 (af f46)) rrE (amc c j a) (aag c j a) (p.length,()) (yw ck h a r):=by
 intro r
 induction r with
 |nil=>
  intro p hp
  rw [List.append_nil] at hp
  subst hp
  generalize n:p.length=i
  have b:(decide ((i:Int)<(p.length:Int)))=false:=decide_eq_false (by omega)
  exact .done (pN 46 [] 1 0 (.c (aB b) .nil) (.nil) f)
 | cons x r ih=>
  intro p hp
  have q:p.length<c.length:=by rw [← hp];simp
  have d:(List.drop ((Int.toNat (p.length:Int))*4) (eX c))=xf x++eX r:=by
   rw [aA,Et q]
   have u:c[p.length]=x:=by subst hp;simp
   have l:c.drop (p.length+1)=r:=by rw [← hp];simp
   rw [u,l]
  have e:=ih (p++ [x]) (by rw [← hp];simp)
  rw [List.length_append,List.length_singleton] at e
  obtain ⟨k,o⟩:=s x (by rw [← hp];simp)
  unfold yw
  generalize n:p.length=i at*
  generalize eX r=rS at d
  have b:(decide ((i:Int)<(c.length:Int)))=true:=decide_eq_true (by omega)
  have m:i<2^62:=by omega
  rcases tf (x.name==a) with b1|b1
  ·rw [if_pos b1]
   rcases tf ((ck x)==((0:Nat):Int)) with b2|b2
   ·have g:ck x=0:=by simpa using b2
    rw [show (ck x==0)=true from b2,Bool.true_and]
    exact .done (pN 46 [] 3 7 (.k 4 (aQ i) (.c b (.c (aC b2) (.k 4 (aQ i) (.c b (.c (aC b1) (.k 1 (aQ i) (.c b (.c (aC b) .nil))))))))) (.c (o g) (.v 28 (.ppt d) (.c k (.v 21 (.ppt d) (.v 14 (.ppt d) .nil))))) f)
   ·rw [show (ck x==0)=false from b2,Bool.false_and]
    exact .done (pN 46 [] 3 3 (.c (aB b2) (.k 4 (aQ i) (.c b (.c (aC b1) (.k 1 (aQ i) (.c b (.c (aC b) .nil))))))) (.c k (.v 21 (.ppt d) (.v 14 (.ppt d) .nil))) f)
  ·rw [if_neg (by rw [b1];decide)]
   exact .next (pN 46 [] 2 1 (.c (aB b1) (.k 1 (aQ i) (.c b (.c (aC b) .nil)))) (.v 11 (.eq (iZ m)) (.v 14 (.ppt d) .nil)) f) e
theorem amg (b:List Sc) (c:Bool) (a:List UInt8) (z:Bool) (d:aH prog ap [] 32 (.block 0 (.loop (ae 0 (af f46)))) ⟨[(0,.sl (eX b) b.length c),(1,.str a),(4,.bool false),(5,.int .i64 0),(9,.dead),(18,.dead)],[],.dead,[]⟩ (.ret) ⟨[(4,.bool z)],[],.dead,[]⟩):CO 46 [.sl (eX b) b.length c,.str a] (.ret (.bool z)):=pK [0] 0 0 .nil (.l d .nil)
theorem amf (b:List Sc) (c:Bool) (a:List UInt8) (d:aH prog ap [] 32 (.block 0 (.loop (ae 0 (af f46)))) ⟨[(0,.sl (eX b) b.length c),(1,.str a),(4,.bool false),(5,.int .i64 0),(9,.dead),(18,.dead)],[],.dead,[]⟩ (.normal) ⟨[(0,.sl (eX b) b.length c)],[],.dead,[]⟩):CO 46 [.sl (eX b) b.length c,.str a] (.ret (.bool false)):=pK [0] 0 0 .nil (.l d .nil)
theorem Vz (b:List Sc) (c:Bool) (a:List UInt8) (ck:Sc→Int) (d:Sc→Bool) (e:b.length<2^40) (g:∀ x ∈ b,CO 71 [.agg (xf x)] (.ret (.int .i64 (ck x)))∧(ck x=0→CO 72 [.agg (xf x)] (.ret (.bool (d x))))):CO 46 [.sl (eX b) b.length c,.str a] (.ret (.bool ((yw ck d a b).getD false))):=by
 have h:∀ nt,32≤nt→aF prog ap [] nt (ae 0 (af f46)) rrE (amc b c a) (aag b c a) (0,()) (yw ck d a b):=fun nt i=>YS i b c a ck d e g b [] rfl
 cases f:yw ck d a b with
 |none=>
  rw [f] at h
  exact amf b c a (aF.blk h (by simp [rrE]) rfl (aK.of ⟨rfl,rfl,rfl,trivial⟩) (aK.of ⟨rfl,trivial⟩))
 |some z=>
  rw [f] at h
  exact amg b c a z (aF.blk h (by simp [rrE]) rfl (aK.of ⟨rfl,rfl,rfl,trivial⟩) (aK.of ⟨rfl,trivial⟩))
def KY (e:List Nd) (ne:Bool) (A:List (List Nat)) (sc:List Sc) (ns:Bool) (ss:List Nat) (op:Int) (name:List UInt8) (xo:Int) (xb:Bool) (xn xd xm:List UInt8) (k:Nat) (p:Nat × Nat):St:=⟨[(0,.sl (aI e) e.length ne),(1,.sl (eX sc) sc.length ns),(2,.int .i64 op),(3,.str name),(9,.sl (bC A) A.length true),(11,.ref 0 0 0 ss.length),(12,.int .i64 (k:Int)),(13,.ptr 1 0 0),(14,.int .i64 (p.2:Int)),(15,.int .i64 (p.1:Int))],[(0,⟨(ai ss),0,false,0,1,true⟩),(1,⟨[.int .i64 xo,.bool xb,.str xn,.str xd,.str xm],0,false,0,0,true⟩)],.dead,[]⟩
def NY (e:List Nd) (ne:Bool) (A:List (List Nat)) (sc:List Sc) (ns:Bool) (ss:List Nat) (op:Int) (name:List UInt8) (xo:Int) (xb:Bool) (xn xd xm:List UInt8) (k:Nat) (acc:Nat):St:=⟨[(0,.sl (aI e) e.length ne),(1,.sl (eX sc) sc.length ns),(2,.int .i64 op),(3,.str name),(9,.sl (bC A) A.length true),(11,.ref 0 0 0 ss.length),(12,.int .i64 (k:Int)),(13,.ptr 1 0 0),(14,.int .i64 (acc:Int))],[(0,⟨(ai ss),0,false,0,1,true⟩),(1,⟨[.int .i64 xo,.bool xb,.str xn,.str xd,.str xm],0,false,0,0,true⟩)],.dead,[]⟩
theorem alL {nt:Nat} (w:282≤nt) (e:List Nd) (h:Bool) (A:List (List Nat)) (n:List Sc) (t:Bool) (d:List Nat) (o:Int) (b:List UInt8) (q:Int) (u:Bool) (l f r:List UInt8) (k:Nat) (c i:Nat) (a:List Nat) (rA:List AV) (j:Nat) (x:List AV) (s:Nat) (B:List AV) (p:k<A.length) (m:(List.drop ((Int.toNat (k:Int))*1) (bC A))= [yL a]++rA) (g:(decide ((i:Int)<(a.length:Int)))=true) (z:(List.drop ((Int.toNat (i:Int))*1) (ai a))= [AV.int .i64 (j:Int)]++x) (v:j<d.length) (hs:(List.drop ((0+(Int.toNat (j:Int)))*1) (ai d))= [AV.int .i64 (s:Int)]++B) (y:i<2^62):
  aj prog ap [] nt (ae 2 (af f15)) (KY e h A n t d o b q u l f r k (i,c)) .normal (KY e h A n t d o b q u l f r k (i+1,d_ c s)):=pN 15 [] 1 1 (.a (gZ [.int .i64] hs rfl) (.c (aQ j) (.c (bK v) (.k 1 (aQ i) (.c g (.k 1 (aQ k) (.c (bK p) (.c (aC g) (.k 1 (aQ k) (.c (bK p) .nil)))))))))) (.v 67 (.eq (iZ y)) (.c (uw c s) (.v 78 (.rd1 (.int .i64) hs rfl) (.v 75 (.ppt z) (.v 72 (.ppt m) (.v 62 (.ppt m) .nil)))))) w
theorem alM {nt:Nat} (r:282≤nt) (e:List Nd) (g:Bool) (A:List (List Nat)) (j:List Sc) (o:Bool) (f:List Nat) (l:Int) (b:List UInt8) (m:Int) (p:Bool) (h d n:List UInt8) (k:Nat) (c i:Nat) (a:List Nat) (rA:List AV) (t:k<A.length) (s:(List.drop ((Int.toNat (k:Int))*1) (bC A))= [yL a]++rA) (q:(decide ((i:Int)<(a.length:Int)))=false):
  aj prog ap [] nt (ae 2 (af f15)) (KY e g A j o f l b m p h d n k (i,c)) (.exit 2) (NY e g A j o f l b m p h d n k c):=pN 15 [] 1 0 (.c (aB q) (.k 1 (aQ k) (.c (bK t) .nil))) (.v 62 (.ppt s) .nil) r
theorem Vm {nt:Nat} (v:282≤nt) (e:List Nd) (l:Bool) (A:List (List Nat)) (n:List Sc) (t:Bool) (f:List Nat) (o:Int) (a:List UInt8) (q:Int) (u:Bool) (m h r:List UInt8) (k:Nat) (p:k<A.length) (z:(A.getD k []).length<2^40) (y:∀ j ∈ A.getD k [],j<f.length):∀ (d i b:Nat),i+d=(A.getD k []).length→
  aF prog ap [] nt (ae 2 (af f15)) (fun _=> .exit 2) (KY e l A n t f o a q u m h r k) (NY e l A n t f o a q u m h r k) (i,b) (((A.getD k []).drop i).foldl (fun s j=>d_ s (f.getD j 0)) b):=by
 intro d
 induction d with
 |zero=>
  intro i b x
  rw [List.drop_of_length_le (by omega)]
  exact .done (alM v e l A n t f o a q u m h r k b i _ _ p (kZ p) (decide_eq_false (by omega)))
 |succ d ih=>
  intro i b x
  have c:i<(A.getD k []).length:=by omega
  have g:(A.getD k []).getD i 0<f.length:=by rw [qV c];exact y _ (List.getElem_mem c)
  rw [List.drop_eq_getElem_cons c]
  have w:(A.getD k [])[i]=(A.getD k []).getD i 0:=(qV c).symm
  rw [w]
  exact .next (alL v e l A n t f o a q u m h r k b i _ _ _ _ _ _ p (kZ p) (decide_eq_true (by omega)) (kE c) g (by rw [Nat.zero_add];exact kE g) (by omega)) (ih (i+1) _ (by omega))
def eH (e:List Nd) (ne:Bool) (A:List (List Nat)) (sc:List Sc) (ns:Bool) (op:Int) (name:List UInt8) (p:Nat × List Nat):St:=⟨[(0,.sl (aI e) e.length ne),(1,.sl (eX sc) sc.length ns),(2,.int .i64 op),(3,.str name),(9,.sl (bC A) A.length true),(11,.ref 0 0 0 p.2.length),(12,.int .i64 (p.1:Int))],[(0,⟨(ai p.2),0,false,0,1,true⟩)],.dead,[]⟩
def Vu (e:List Nd) (ne:Bool) (ss:List Nat):St:=⟨[(0,.sl (aI e) e.length ne),(11,.ref 0 0 0 ss.length)],[(0,⟨(ai ss),0,false,0,1,true⟩)],.dead,[]⟩
abbrev uy (e:List Nd) (ne:Bool) (A:List (List Nat)) (sc:List Sc) (ns:Bool) (ss:List Nat) (op:Int) (name:List UInt8) (xo:Int) (xb:Bool) (xn xd xm:List UInt8) (k:Nat) (b55:Bool) (w:Nat):Prop:=aH prog ap [] 282 (.block 2 (.loop (ae 2 (af f15)))) ⟨[(0,.sl (aI e) e.length ne),(1,.sl (eX sc) sc.length ns),(2,.int .i64 op),(3,.str name),(8,.dead),(9,.sl (bC A) A.length true),(10,.dead),(11,.ref 0 0 0 ss.length),(12,.int .i64 (k:Int)),(13,.ptr 1 0 0),(14,.int .i64 0),(15,.int .i64 0),(16,.dead),(17,.dead),(32,.dead),(39,.bool (decide ((k:Int)<(e.length:Int)))),(55,.bool b55),(65,.dead),(81,.dead),(111,.dead),(118,.dead),(147,.dead),(176,.dead),(216,.dead),(245,.dead),(271,.dead)],[(0,⟨(ai ss),0,false,0,1,true⟩),(1,⟨[.int .i64 xo,.bool xb,.str xn,.str xd,.str xm],0,false,0,0,true⟩)],.dead,[]⟩ (.normal) ⟨[(0,.sl (aI e) e.length ne),(1,.sl (eX sc) sc.length ns),(2,.int .i64 op),(3,.str name),(9,.sl (bC A) A.length true),(11,.ref 0 0 0 ss.length),(12,.int .i64 (k:Int)),(13,.ptr 1 0 0),(14,.int .i64 (w:Int))],[(0,⟨(ai ss),0,false,0,1,true⟩),(1,⟨[.int .i64 xo,.bool xb,.str xn,.str xd,.str xm],0,false,0,0,true⟩)],.dead,[]⟩
theorem acJ (e:List Nd) (i:Bool) (A:List (List Nat)) (c:List Sc) (n:Bool) (b:List Nat) (f:Int) (a:List UInt8) (g:Int) (o:Bool) (m d l:List UInt8) (k:Nat) (p:Bool) (q:k<A.length) (r:(A.getD k []).length<2^40) (s:∀ j ∈ A.getD k [],j<b.length):uy e i A c n b f a g o m d l k p (eF A b k):=by
 have h:∀ nt,282≤nt→aF prog ap [] nt (ae 2 (af f15)) (fun _=> .exit 2) (KY e i A c n b f a g o m d l k) (NY e i A c n b f a g o m d l k) (0,0) (eF A b k):=fun nt t=>Vm t e i A c n b f a g o m d l k q r s _ 0 0 (Nat.zero_add _)
 exact aF.blk h (by simp) rfl (aK.of ⟨rfl,rfl,rfl,rfl,rfl,rfl,rfl,rfl,rfl,rfl,trivial⟩) (aK.of ⟨rfl,rfl,rfl,rfl,rfl,rfl,rfl,rfl,rfl,trivial⟩)
abbrev jH (k:Nat) (ss:List Nat):List AV:=List.take ((0+(Int.toNat (k:Int)))*1) (ai ss)++ [.int .i64 3]++List.drop (((0+(Int.toNat (k:Int)))*1)+1) (ai ss)
theorem dF {a:List Nat} {k v:Nat} (h:k<a.length):List.take ((0+(Int.toNat (k:Int)))*1) (jH k a)++ [AV.int .i64 (v:Int)]++List.drop (((0+(Int.toNat (k:Int)))*1)+1) (jH k a)=ai (a.set k v):=by
 have b:(jH k a)=ai (a.set k 3):=aX (v:=3) h
 rw [b,aX (by rw [List.length_set];exact h),List.set_set]
theorem at7 {nt:Nat} (m:282≤nt) (e:List Nd) (f:Bool) (A:List (List Nat)) (g:List Sc) (h:Bool) (b:List Nat) (d:Int) (a:List UInt8) (k:Nat) (t:k<e.length) (r:e.length<2^40) (u:A.length=e.length) (s:b.length=e.length) (o:List AV) (x:Nd) (i:(List.drop ((Int.toNat (k:Int))*5) (aI e))=iY x++o) (j:(x.op==d)=true) (p:(x.name==a)=true):aj prog ap [] nt (ae 0 (af f15)) (eH e f A g h d a (k,b)) .normal (eH e f A g h d a (k+1,b.set k (1))):=by
 have c:k<b.length:=by omega
 have n:k<2^62:=by omega
 have h0:(decide ((k:Int)<(e.length:Int)))=true:=decide_eq_true (by omega)
 have q:Nat.ble (((0+(Int.toNat (k:Int)))*1)+1) (List.length (ai b))=true:=by rw [Nat.ble_eq,aA];simp [ai];omega
 have l:Nat.ble (((0+(Int.toNat (k:Int)))*1)+1) (List.length (jH k b))=true:=by rw [Nat.ble_eq,show (jH k b)=ai (b.set k 3) from aX (v:=3) c,aA];simp [ai];omega
 unfold eH
 dsimp only
 rw [List.length_set,← aX c]
 exact pN 15 [] 3 7 (.c q (.c (aQ k) (.c (bK c) (.c (aC p) (.k 1 (aC j) (.k 7 (aQ k) (.c h0 (.c (aC h0) .nil)))))))) (.v 41 (.eq (iZ n)) (.v 44 (.ppt i) .nil)) m
theorem aua {nt:Nat} (o:282≤nt) (e:List Nd) (f:Bool) (A:List (List Nat)) (g:List Sc) (h:Bool) (b:List Nat) (c:Int) (a:List UInt8) (k:Nat) (u:k<e.length) (s:e.length<2^40) (z:A.length=e.length) (t:b.length=e.length) (q:List AV) (x:Nd) (j:(List.drop ((Int.toNat (k:Int))*5) (aI e))=iY x++q) (w:Nat) (m:uy e f A g h b c a x.op x.neg x.num x.den x.name k (x.name==a) w) (l:(x.op==c)=true) (r:(x.name==a)=false) (i:((w:Int)==((0:Nat):Int))=true):aj prog ap [] nt (ae 0 (af f15)) (eH e f A g h c a (k,b)) .normal (eH e f A g h c a (k+1,b)):=by
 have d:k<b.length:=by omega
 have p:k<2^62:=by omega
 have h0:(decide ((k:Int)<(e.length:Int)))=true:=decide_eq_true (by omega)
 have y:Nat.ble (((0+(Int.toNat (k:Int)))*1)+1) (List.length (ai b))=true:=by rw [Nat.ble_eq,aA];simp [ai];omega
 have n:Nat.ble (((0+(Int.toNat (k:Int)))*1)+1) (List.length (jH k b))=true:=by rw [Nat.ble_eq,show (jH k b)=ai (b.set k 3) from aX (v:=3) d,aA];simp [ai];omega
 unfold eH
 exact pN 15 [2] 4 11 (.c (aC i) (.c (aB r) (.k 1 (aC l) (.k 7 (aQ k) (.c h0 (.c (aC h0) .nil)))))) (.v 41 (.eq (iZ p)) (.l m (.v 44 (.ppt j) .nil))) o
theorem aub {nt:Nat} (o:282≤nt) (e:List Nd) (f:Bool) (A:List (List Nat)) (g:List Sc) (h:Bool) (b:List Nat) (c:Int) (a:List UInt8) (k:Nat) (t:k<e.length) (r:e.length<2^40) (y:A.length=e.length) (s:b.length=e.length) (q:List AV) (x:Nd) (j:(List.drop ((Int.toNat (k:Int))*5) (aI e))=iY x++q) (w:Nat) (m:uy e f A g h b c a x.op x.neg x.num x.den x.name k (false) w) (l:(x.op==c)=false) (i:((w:Int)==((0:Nat):Int))=true):aj prog ap [] nt (ae 0 (af f15)) (eH e f A g h c a (k,b)) .normal (eH e f A g h c a (k+1,b)):=by
 have d:k<b.length:=by omega
 have p:k<2^62:=by omega
 have h0:(decide ((k:Int)<(e.length:Int)))=true:=decide_eq_true (by omega)
 have u:Nat.ble (((0+(Int.toNat (k:Int)))*1)+1) (List.length (ai b))=true:=by rw [Nat.ble_eq,aA];simp [ai];omega
 have n:Nat.ble (((0+(Int.toNat (k:Int)))*1)+1) (List.length (jH k b))=true:=by rw [Nat.ble_eq,show (jH k b)=ai (b.set k 3) from aX (v:=3) d,aA];simp [ai];omega
 unfold eH
 exact pN 15 [2] 4 9 (.c (aC i) (.k 1 (aB l) (.k 7 (aQ k) (.c h0 (.c (aC h0) .nil))))) (.v 41 (.eq (iZ p)) (.l m (.v 44 (.ppt j) .nil))) o
theorem acK {nt:Nat} (h:282≤nt) (e:List Nd) (c:Bool) (A:List (List Nat)) (d:List Sc) (g:Bool) (b:List Nat) (f:Int) (a:List UInt8):aj prog ap [] nt (ae 0 (af f15)) (eH e c A d g f a (e.length,b)) (.exit 0) (Vu e c b):=by
 have h0:(decide ((e.length:Int)<(e.length:Int)))=false:=decide_eq_false (by omega)
 exact pN 15 [] 1 0 (.c (aB h0) .nil) (.nil) h
theorem at6 {nt:Nat} (y:282≤nt) (e:List Nd) (o:Bool) (A:List (List Nat)) (d:List Sc) (m:Bool) (c:List Nat) (f:Int) (a:List UInt8) (k:Nat) (W:k<e.length) (U:e.length<2^40) (X:A.length=e.length) (V:c.length=e.length) (P:List AV) (l:k<A.length) (x:Nd) (rA:List AV) (g:Nat) (L:Nat) (Q:Nd) (M u0:List AV) (n:Nat) (N:Nat) (J:Nd) (G u1:List AV) (t:(List.drop ((Int.toNat (k:Int))*5) (aI e))= [.int .i64 9,.bool x.neg,.str x.num,.str x.den,.str x.name]++P) (B:(List.drop ((Int.toNat (k:Int))*1) (bC A))= [.sl [.int .i64 (g:Int),.int .i64 (n:Int)] 2 false]++rA) (O:(List.drop ((0+(Int.toNat (g:Int)))*1) (jH k c))= [AV.int .i64 (L:Int)]++M) (R:(List.drop ((Int.toNat (g:Int))*5) (aI e))=iY Q++u0) (T:(List.drop ((0+(Int.toNat (n:Int)))*1) (jH k c))= [AV.int .i64 (N:Int)]++G) (K:(List.drop ((Int.toNat (n:Int))*5) (aI e))=iY J++u1) (r:g<c.length) (u:g<e.length) (z:n<c.length) (E:n<e.length) (w:Nat) (I:Bool) (F:uy e o A d m c f a 9 x.neg x.num x.den x.name k (x.name==a) w) (H:uy e o A d m c f a 9 x.neg x.num x.den x.name k (false) w) (j:CO 46 [.sl (eX d) d.length m,.str x.name] (.ret (.bool I))) (s:((w:Int)==((0:Nat):Int))=false) (q:(((9:Nat):Int)==f)=false∨(x.name==a)=false):aj prog ap [] nt (ae 0 (af f15)) (eH e o A d m f a (k,c)) .normal (eH e o A d m f a (k+1,c.set k (w))):=by
 have b:k<c.length:=by omega
 have C:k<2^62:=by omega
 have h0:(decide ((k:Int)<(e.length:Int)))=true:=decide_eq_true (by omega)
 have D:Nat.ble (((0+(Int.toNat (k:Int)))*1)+1) (List.length (ai c))=true:=by rw [Nat.ble_eq,aA];simp [ai];omega
 have i:Nat.ble (((0+(Int.toNat (k:Int)))*1)+1) (List.length (jH k c))=true:=by rw [Nat.ble_eq,show (jH k c)=ai (c.set k 3) from aX (v:=3) b,aA];simp [ai];omega
 unfold eH
 dsimp only
 rw [List.length_set]
 rcases tf (((9:Nat):Int)==f) with b1|b1
 ·have p:=F
  have S:(x.name==a)=false:=by rcases q with h|h;rw [h] at b1;cases b1;exact h
  rw [← dF b]
  exact pN 15 [2] 20 243 (.k 19 i (.c (aQ k) (.c (bK b) (.k 6 (aQ k) (.c (bK l) (.c D (.c (aQ k) (.c (bK b) (.c (aB s) (.c (aB S) (.k 1 (aC b1) (.k 7 (aQ k) (.c h0 (.c (aC h0) .nil)))))))))))))) (.v 41 (.eq (iZ C)) (.c j (.v 87 (.ppt B) (.l p (.v 44 (.ppt t) .nil))))) y
 ·have p:=H
  rw [← dF b]
  exact pN 15 [2] 20 241 (.k 19 i (.c (aQ k) (.c (bK b) (.k 6 (aQ k) (.c (bK l) (.c D (.c (aQ k) (.c (bK b) (.c (aB s) (.k 1 (aB b1) (.k 7 (aQ k) (.c h0 (.c (aC h0) .nil))))))))))))) (.v 41 (.eq (iZ C)) (.c j (.v 87 (.ppt B) (.l p (.v 44 (.ppt t) .nil))))) y
theorem alX {nt:Nat} (E:282≤nt) (e:List Nd) (t:Bool) (A:List (List Nat)) (m:List Sc) (s:Bool) (c:List Nat) (n:Int) (a:List UInt8) (k:Nat) (W:k<e.length) (U:e.length<2^40) (X:A.length=e.length) (V:c.length=e.length) (Q:List AV) (r:k<A.length) (x:Nd) (rA:List AV) (j:Nat) (u:Nat) (R:Nd) (P u0:List AV) (l:Nat) (o:Nat) (N:Nd) (K u1:List AV) (C:(List.drop ((Int.toNat (k:Int))*5) (aI e))= [.int .i64 10,.bool x.neg,.str x.num,.str x.den,.str x.name]++Q) (F:(List.drop ((Int.toNat (k:Int))*1) (bC A))= [.sl [.int .i64 (j:Int),.int .i64 (l:Int)] 2 false]++rA) (d:(List.drop ((0+(Int.toNat (j:Int)))*1) (jH k c))= [AV.int .i64 (u:Int)]++P) (S:(List.drop ((Int.toNat (j:Int))*5) (aI e))=iY R++u0) (f:(List.drop ((0+(Int.toNat (l:Int)))*1) (jH k c))= [AV.int .i64 (o:Int)]++K) (O:(List.drop ((Int.toNat (l:Int))*5) (aI e))=iY N++u1) (g:j<c.length) (D:j<e.length) (i:l<c.length) (I:l<e.length) (w:Nat) (M:Bool) (J:uy e t A m s c n a 10 x.neg x.num x.den x.name k (x.name==a) w) (L:uy e t A m s c n a 10 x.neg x.num x.den x.name k (false) w) (q:CO 46 [.sl (eX m) m.length s,.str x.name] (.ret (.bool M))) (B:((w:Int)==((0:Nat):Int))=false) (z:(((10:Nat):Int)==n)=false∨(x.name==a)=false):aj prog ap [] nt (ae 0 (af f15)) (eH e t A m s n a (k,c)) .normal (eH e t A m s n a (k+1,c.set k (d_ u (jK o)))):=by
 have b:k<c.length:=by omega
 have G:k<2^62:=by omega
 have h0:(decide ((k:Int)<(e.length:Int)))=true:=decide_eq_true (by omega)
 have H:Nat.ble (((0+(Int.toNat (k:Int)))*1)+1) (List.length (ai c))=true:=by rw [Nat.ble_eq,aA];simp [ai];omega
 have p:Nat.ble (((0+(Int.toNat (k:Int)))*1)+1) (List.length (jH k c))=true:=by rw [Nat.ble_eq,show (jH k c)=ai (c.set k 3) from aX (v:=3) b,aA];simp [ai];omega
 unfold eH
 dsimp only
 rw [List.length_set]
 rcases tf (((10:Nat):Int)==n) with b1|b1
 ·have y:=J
  have T:(x.name==a)=false:=by rcases z with h|h;rw [h] at b1;cases b1;exact h
  rw [← dF b]
  exact pN 15 [2] 21 515 (.k 17 p (.c (aQ k) (.c (bK b) (.a (gZ [.int .i64] f rfl) (.c (aQ l) (.c (bK i) (.n 3 (.a (gZ [.int .i64] d rfl) (.c (aQ j) (.c (bK g) (.k 15 (aQ k) (.c (bK r) (.c H (.c (aQ k) (.c (bK b) (.c (aB B) (.c (aB T) (.k 1 (aC b1) (.k 7 (aQ k) (.c h0 (.c (aC h0) .nil))))))))))))))))))))) (.v 41 (.eq (iZ G)) (.c q (.c (uw u (jK o)) (.c (Ei o) (.v 132 (.rd1 (.int .i64) f rfl) (.v 126 (.rd1 (.int .i64) d rfl) (.v 87 (.ppt F) (.l y (.v 44 (.ppt C) .nil))))))))) E
 ·have y:=L
  rw [← dF b]
  exact pN 15 [2] 21 513 (.k 17 p (.c (aQ k) (.c (bK b) (.a (gZ [.int .i64] f rfl) (.c (aQ l) (.c (bK i) (.n 3 (.a (gZ [.int .i64] d rfl) (.c (aQ j) (.c (bK g) (.k 15 (aQ k) (.c (bK r) (.c H (.c (aQ k) (.c (bK b) (.c (aB B) (.k 1 (aB b1) (.k 7 (aQ k) (.c h0 (.c (aC h0) .nil)))))))))))))))))))) (.v 41 (.eq (iZ G)) (.c q (.c (uw u (jK o)) (.c (Ei o) (.v 132 (.rd1 (.int .i64) f rfl) (.v 126 (.rd1 (.int .i64) d rfl) (.v 87 (.ppt F) (.l y (.v 44 (.ppt C) .nil))))))))) E
theorem alY {nt:Nat} (E:282≤nt) (e:List Nd) (N:Bool) (A:List (List Nat)) (H:List Sc) (M:Bool) (n:List Nat) (I:Int) (g:List UInt8) (k:Nat) (Y:k<e.length) (W:e.length<2^40) (Z:A.length=e.length) (X:n.length=e.length) (V:List AV) (p:k<A.length) (x:Nd) (rA:List AV) (l:Nat) (q:Nat) (c:Nd) (U u0:List AV) (m:Nat) (r:Nat) (b:Nd) (R u1:List AV) (D:(List.drop ((Int.toNat (k:Int))*5) (aI e))= [.int .i64 11,.bool x.neg,.str x.num,.str x.den,.str x.name]++V) (F:(List.drop ((Int.toNat (k:Int))*1) (bC A))= [.sl [.int .i64 (l:Int),.int .i64 (m:Int)] 2 false]++rA) (t:(List.drop ((0+(Int.toNat (l:Int)))*1) (jH k n))= [AV.int .i64 (q:Int)]++U) (j:(List.drop ((Int.toNat (l:Int))*5) (aI e))=iY c++u0) (u:(List.drop ((0+(Int.toNat (m:Int)))*1) (jH k n))= [AV.int .i64 (r:Int)]++R) (i:(List.drop ((Int.toNat (m:Int))*5) (aI e))=iY b++u1) (y:l<n.length) (d:l<e.length) (z:m<n.length) (f:m<e.length) (w:Nat) (T:Bool) (Q:uy e N A H M n I g 11 x.neg x.num x.den x.name k (x.name==g) w) (S:uy e N A H M n I g 11 x.neg x.num x.den x.name k (false) w) (o:CO 46 [.sl (eX H) H.length M,.str x.name] (.ret (.bool T))) (K:fF c.op=true→fF b.op=false) (C:((w:Int)==((0:Nat):Int))=false) (O:(((11:Nat):Int)==I)=false∨(x.name==g)=false):aj prog ap [] nt (ae 0 (af f15)) (eH e N A H M I g (k,n)) .normal (eH e N A H M I g (k+1,n.set k (cond (fF c.op) (gW c.neg r) (cond (fF b.op) (gW b.neg q) 3)))):=by
 have a:k<n.length:=by omega
 have G:k<2^62:=by omega
 have h0:(decide ((k:Int)<(e.length:Int)))=true:=decide_eq_true (by omega)
 have J:Nat.ble (((0+(Int.toNat (k:Int)))*1)+1) (List.length (ai n))=true:=by rw [Nat.ble_eq,aA];simp [ai];omega
 have s:Nat.ble (((0+(Int.toNat (k:Int)))*1)+1) (List.length (jH k n))=true:=by rw [Nat.ble_eq,show (jH k n)=ai (n.set k 3) from aX (v:=3) a,aA];simp [ai];omega
 unfold eH
 dsimp only
 rw [List.length_set]
 rcases tf (((11:Nat):Int)==I) with b1|b1
 ·have B:=Q
  have P:(x.name==g)=false:=by rcases O with h|h;rw [h] at b1;cases b1;exact h
  rcases tf (fF c.op) with c0|c0
  ·have L:=K c0
   rw [show (cond (fF c.op) (gW c.neg r) (cond (fF b.op) (gW b.neg q) 3))=(gW c.neg r) by rw [c0,L];rfl]
   rw [← dF a]
   exact pN 15 [2] 21 7171 (.k 11 (aB L) (.k 5 (aQ m) (.c (bK f) (.k 5 s (.c (aQ k) (.c (bK a) (.k 3 (aQ l) (.c (bK d) (.n 3 (.a (gZ [.int .i64] u rfl) (.c (aQ m) (.c (bK z) (.k 3 (aC c0) (.k 5 (aQ l) (.c (bK d) (.k 17 (aQ k) (.c (bK p) (.c J (.c (aQ k) (.c (bK a) (.c (aB C) (.c (aB P) (.k 1 (aC b1) (.k 7 (aQ k) (.c h0 (.c (aC h0) .nil)))))))))))))))))))))))))) (.v 41 (.eq (iZ G)) (.c o (.c (gU b) (.v 173 (.ppt i) (.c (uY r c) (.v 160 (.ppt j) (.v 155 (.rd1 (.int .i64) u rfl) (.c (gU c) (.v 144 (.ppt j) (.v 87 (.ppt F) (.l B (.v 44 (.ppt D) .nil)))))))))))) E
  ·skip
   rcases tf (fF b.op) with c10|c10
   ·rw [show (cond (fF c.op) (gW c.neg r) (cond (fF b.op) (gW b.neg q) 3))=(gW b.neg q) by rw [c0,c10];rfl]
    rw [← dF a]
    exact pN 15 [2] 21 13315 (.k 11 s (.c (aQ k) (.c (bK a) (.k 3 (aQ m) (.c (bK f) (.n 3 (.a (gZ [.int .i64] t rfl) (.c (aQ l) (.c (bK y) (.k 3 (aC c10) (.k 5 (aQ m) (.c (bK f) (.k 5 (aB c0) (.k 5 (aQ l) (.c (bK d) (.k 17 (aQ k) (.c (bK p) (.c J (.c (aQ k) (.c (bK a) (.c (aB C) (.c (aB P) (.k 1 (aC b1) (.k 7 (aQ k) (.c h0 (.c (aC h0) .nil)))))))))))))))))))))))))) (.v 41 (.eq (iZ G)) (.c o (.c (uY q b) (.v 189 (.ppt i) (.v 184 (.rd1 (.int .i64) t rfl) (.c (gU b) (.v 173 (.ppt i) (.c (gU c) (.v 144 (.ppt j) (.v 87 (.ppt F) (.l B (.v 44 (.ppt D) .nil)))))))))))) E
   ·rw [show (cond (fF c.op) (gW c.neg r) (cond (fF b.op) (gW b.neg q) 3))=3 by rw [c0,c10];rfl]
    rw [← aX a]
    exact pN 15 [2] 21 5123 (.k 11 (aB c10) (.k 5 (aQ m) (.c (bK f) (.k 5 (aB c0) (.k 5 (aQ l) (.c (bK d) (.k 17 (aQ k) (.c (bK p) (.c J (.c (aQ k) (.c (bK a) (.c (aB C) (.c (aB P) (.k 1 (aC b1) (.k 7 (aQ k) (.c h0 (.c (aC h0) .nil))))))))))))))))) (.v 41 (.eq (iZ G)) (.c o (.c (gU b) (.v 173 (.ppt i) (.c (gU c) (.v 144 (.ppt j) (.v 87 (.ppt F) (.l B (.v 44 (.ppt D) .nil))))))))) E
 ·have B:=S
  rcases tf (fF c.op) with c0|c0
  ·have L:=K c0
   rw [show (cond (fF c.op) (gW c.neg r) (cond (fF b.op) (gW b.neg q) 3))=(gW c.neg r) by rw [c0,L];rfl]
   rw [← dF a]
   exact pN 15 [2] 21 7169 (.k 11 (aB L) (.k 5 (aQ m) (.c (bK f) (.k 5 s (.c (aQ k) (.c (bK a) (.k 3 (aQ l) (.c (bK d) (.n 3 (.a (gZ [.int .i64] u rfl) (.c (aQ m) (.c (bK z) (.k 3 (aC c0) (.k 5 (aQ l) (.c (bK d) (.k 17 (aQ k) (.c (bK p) (.c J (.c (aQ k) (.c (bK a) (.c (aB C) (.k 1 (aB b1) (.k 7 (aQ k) (.c h0 (.c (aC h0) .nil))))))))))))))))))))))))) (.v 41 (.eq (iZ G)) (.c o (.c (gU b) (.v 173 (.ppt i) (.c (uY r c) (.v 160 (.ppt j) (.v 155 (.rd1 (.int .i64) u rfl) (.c (gU c) (.v 144 (.ppt j) (.v 87 (.ppt F) (.l B (.v 44 (.ppt D) .nil)))))))))))) E
  ·skip
   rcases tf (fF b.op) with c10|c10
   ·rw [show (cond (fF c.op) (gW c.neg r) (cond (fF b.op) (gW b.neg q) 3))=(gW b.neg q) by rw [c0,c10];rfl]
    rw [← dF a]
    exact pN 15 [2] 21 13313 (.k 11 s (.c (aQ k) (.c (bK a) (.k 3 (aQ m) (.c (bK f) (.n 3 (.a (gZ [.int .i64] t rfl) (.c (aQ l) (.c (bK y) (.k 3 (aC c10) (.k 5 (aQ m) (.c (bK f) (.k 5 (aB c0) (.k 5 (aQ l) (.c (bK d) (.k 17 (aQ k) (.c (bK p) (.c J (.c (aQ k) (.c (bK a) (.c (aB C) (.k 1 (aB b1) (.k 7 (aQ k) (.c h0 (.c (aC h0) .nil))))))))))))))))))))))))) (.v 41 (.eq (iZ G)) (.c o (.c (uY q b) (.v 189 (.ppt i) (.v 184 (.rd1 (.int .i64) t rfl) (.c (gU b) (.v 173 (.ppt i) (.c (gU c) (.v 144 (.ppt j) (.v 87 (.ppt F) (.l B (.v 44 (.ppt D) .nil)))))))))))) E
   ·rw [show (cond (fF c.op) (gW c.neg r) (cond (fF b.op) (gW b.neg q) 3))=3 by rw [c0,c10];rfl]
    rw [← aX a]
    exact pN 15 [2] 21 5121 (.k 11 (aB c10) (.k 5 (aQ m) (.c (bK f) (.k 5 (aB c0) (.k 5 (aQ l) (.c (bK d) (.k 17 (aQ k) (.c (bK p) (.c J (.c (aQ k) (.c (bK a) (.c (aB C) (.k 1 (aB b1) (.k 7 (aQ k) (.c h0 (.c (aC h0) .nil)))))))))))))))) (.v 41 (.eq (iZ G)) (.c o (.c (gU b) (.v 173 (.ppt i) (.c (gU c) (.v 144 (.ppt j) (.v 87 (.ppt F) (.l B (.v 44 (.ppt D) .nil))))))))) E
theorem alZ {nt:Nat} (u:282≤nt) (e:List Nd) (G:Bool) (A:List (List Nat)) (B:List Sc) (F:Bool) (i:List Nat) (C:Int) (f:List UInt8) (k:Nat) (X:k<e.length) (V:e.length<2^40) (Y:A.length=e.length) (W:i.length=e.length) (R:List AV) (l:k<A.length) (x:Nd) (rA:List AV) (q:Nat) (m:Nat) (S:Nd) (P u0:List AV) (g:Nat) (Q:Nat) (a:Nd) (M u1:List AV) (t:(List.drop ((Int.toNat (k:Int))*5) (aI e))= [.int .i64 12,.bool x.neg,.str x.num,.str x.den,.str x.name]++R) (y:(List.drop ((Int.toNat (k:Int))*1) (bC A))= [.sl [.int .i64 (q:Int),.int .i64 (g:Int)] 2 false]++rA) (o:(List.drop ((0+(Int.toNat (q:Int)))*1) (jH k i))= [AV.int .i64 (m:Int)]++P) (T:(List.drop ((Int.toNat (q:Int))*5) (aI e))=iY S++u0) (U:(List.drop ((0+(Int.toNat (g:Int)))*1) (jH k i))= [AV.int .i64 (Q:Int)]++M) (d:(List.drop ((Int.toNat (g:Int))*5) (aI e))=iY a++u1) (p:q<i.length) (J:q<e.length) (K:g<i.length) (b:g<e.length) (w:Nat) (O:Bool) (L:uy e G A B F i C f 12 x.neg x.num x.den x.name k (x.name==f) w) (N:uy e G A B F i C f 12 x.neg x.num x.den x.name k (false) w) (j:CO 46 [.sl (eX B) B.length F,.str x.name] (.ret (.bool O))) (n:CO 45 [.agg [.bool a.neg,.str a.num,.str a.den]] (.ret (.int .i64 (fV a.neg a.num a.den)))) (s:((w:Int)==((0:Nat):Int))=false) (H:(((12:Nat):Int)==C)=false∨(x.name==f)=false):aj prog ap [] nt (ae 0 (af f15)) (eH e G A B F C f (k,i)) .normal (eH e G A B F C f (k+1,i.set k (cond (fF a.op) (cond (fV a.neg a.num a.den==((0:Nat):Int)) 3 (gW a.neg m)) 3))):=by
 have c:k<i.length:=by omega
 have z:k<2^62:=by omega
 have h0:(decide ((k:Int)<(e.length:Int)))=true:=decide_eq_true (by omega)
 have D:Nat.ble (((0+(Int.toNat (k:Int)))*1)+1) (List.length (ai i))=true:=by rw [Nat.ble_eq,aA];simp [ai];omega
 have E:Nat.ble (((0+(Int.toNat (k:Int)))*1)+1) (List.length (jH k i))=true:=by rw [Nat.ble_eq,show (jH k i)=ai (i.set k 3) from aX (v:=3) c,aA];simp [ai];omega
 unfold eH
 dsimp only
 rw [List.length_set]
 rcases tf (((12:Nat):Int)==C) with b1|b1
 ·have r:=L
  have I:(x.name==f)=false:=by rcases H with h|h;rw [h] at b1;cases b1;exact h
  rcases tf (fF a.op) with d0|d0
  ·rcases tf ((fV a.neg a.num a.den)==((0:Nat):Int)) with d1|d1
   ·rw [show (cond (fF a.op) (cond (fV a.neg a.num a.den==((0:Nat):Int)) 3 (gW a.neg m)) 3)=3 by rw [d0,d1];rfl]
    rw [← aX c]
    exact pN 15 [2] 21 49155 (.k 7 (aS d1) (.k 3 (aQ g) (.c (bK b) (.k 3 (aC d0) (.k 5 (aQ g) (.c (bK b) (.k 23 (aQ k) (.c (bK l) (.c D (.c (aQ k) (.c (bK c) (.c (aB s) (.c (aB I) (.k 1 (aC b1) (.k 7 (aQ k) (.c h0 (.c (aC h0) .nil))))))))))))))))) (.v 41 (.eq (iZ z)) (.c j (.c n (.v 211 (.ppt d) (.c (gU a) (.v 202 (.ppt d) (.v 87 (.ppt y) (.l r (.v 44 (.ppt t) .nil))))))))) u
   ·rw [show (cond (fF a.op) (cond (fV a.neg a.num a.den==((0:Nat):Int)) 3 (gW a.neg m)) 3)=(gW a.neg m) by rw [d0,d1];rfl]
    rw [← dF c]
    exact pN 15 [2] 21 114691 (.k 7 E (.c (aQ k) (.c (bK c) (.k 3 (aQ g) (.c (bK b) (.n 3 (.a (gZ [.int .i64] o rfl) (.c (aQ q) (.c (bK p) (.k 3 (dJ d1) (.k 3 (aQ g) (.c (bK b) (.k 3 (aC d0) (.k 5 (aQ g) (.c (bK b) (.k 23 (aQ k) (.c (bK l) (.c D (.c (aQ k) (.c (bK c) (.c (aB s) (.c (aB I) (.k 1 (aC b1) (.k 7 (aQ k) (.c h0 (.c (aC h0) .nil)))))))))))))))))))))))))) (.v 41 (.eq (iZ z)) (.c j (.c (uY m a) (.v 229 (.ppt d) (.v 224 (.rd1 (.int .i64) o rfl) (.c n (.v 211 (.ppt d) (.c (gU a) (.v 202 (.ppt d) (.v 87 (.ppt y) (.l r (.v 44 (.ppt t) .nil)))))))))))) u
  ·rw [show (cond (fF a.op) (cond (fV a.neg a.num a.den==((0:Nat):Int)) 3 (gW a.neg m)) 3)=3 by rw [d0];rfl]
   rw [← aX c]
   exact pN 15 [2] 21 16387 (.k 8 (aB d0) (.k 5 (aQ g) (.c (bK b) (.k 23 (aQ k) (.c (bK l) (.c D (.c (aQ k) (.c (bK c) (.c (aB s) (.c (aB I) (.k 1 (aC b1) (.k 7 (aQ k) (.c h0 (.c (aC h0) .nil)))))))))))))) (.v 41 (.eq (iZ z)) (.c j (.c (gU a) (.v 202 (.ppt d) (.v 87 (.ppt y) (.l r (.v 44 (.ppt t) .nil))))))) u
 ·have r:=N
  rcases tf (fF a.op) with d0|d0
  ·rcases tf ((fV a.neg a.num a.den)==((0:Nat):Int)) with d1|d1
   ·rw [show (cond (fF a.op) (cond (fV a.neg a.num a.den==((0:Nat):Int)) 3 (gW a.neg m)) 3)=3 by rw [d0,d1];rfl]
    rw [← aX c]
    exact pN 15 [2] 21 49153 (.k 7 (aS d1) (.k 3 (aQ g) (.c (bK b) (.k 3 (aC d0) (.k 5 (aQ g) (.c (bK b) (.k 23 (aQ k) (.c (bK l) (.c D (.c (aQ k) (.c (bK c) (.c (aB s) (.k 1 (aB b1) (.k 7 (aQ k) (.c h0 (.c (aC h0) .nil)))))))))))))))) (.v 41 (.eq (iZ z)) (.c j (.c n (.v 211 (.ppt d) (.c (gU a) (.v 202 (.ppt d) (.v 87 (.ppt y) (.l r (.v 44 (.ppt t) .nil))))))))) u
   ·rw [show (cond (fF a.op) (cond (fV a.neg a.num a.den==((0:Nat):Int)) 3 (gW a.neg m)) 3)=(gW a.neg m) by rw [d0,d1];rfl]
    rw [← dF c]
    exact pN 15 [2] 21 114689 (.k 7 E (.c (aQ k) (.c (bK c) (.k 3 (aQ g) (.c (bK b) (.n 3 (.a (gZ [.int .i64] o rfl) (.c (aQ q) (.c (bK p) (.k 3 (dJ d1) (.k 3 (aQ g) (.c (bK b) (.k 3 (aC d0) (.k 5 (aQ g) (.c (bK b) (.k 23 (aQ k) (.c (bK l) (.c D (.c (aQ k) (.c (bK c) (.c (aB s) (.k 1 (aB b1) (.k 7 (aQ k) (.c h0 (.c (aC h0) .nil))))))))))))))))))))))))) (.v 41 (.eq (iZ z)) (.c j (.c (uY m a) (.v 229 (.ppt d) (.v 224 (.rd1 (.int .i64) o rfl) (.c n (.v 211 (.ppt d) (.c (gU a) (.v 202 (.ppt d) (.v 87 (.ppt y) (.l r (.v 44 (.ppt t) .nil)))))))))))) u
  ·rw [show (cond (fF a.op) (cond (fV a.neg a.num a.den==((0:Nat):Int)) 3 (gW a.neg m)) 3)=3 by rw [d0];rfl]
   rw [← aX c]
   exact pN 15 [2] 21 16385 (.k 8 (aB d0) (.k 5 (aQ g) (.c (bK b) (.k 23 (aQ k) (.c (bK l) (.c D (.c (aQ k) (.c (bK c) (.c (aB s) (.k 1 (aB b1) (.k 7 (aQ k) (.c h0 (.c (aC h0) .nil))))))))))))) (.v 41 (.eq (iZ z)) (.c j (.c (gU a) (.v 202 (.ppt d) (.v 87 (.ppt y) (.l r (.v 44 (.ppt t) .nil))))))) u
theorem al0 {nt:Nat} (y:282≤nt) (e:List Nd) (o:Bool) (A:List (List Nat)) (d:List Sc) (m:Bool) (c:List Nat) (f:Int) (a:List UInt8) (k:Nat) (W:k<e.length) (U:e.length<2^40) (X:A.length=e.length) (V:c.length=e.length) (P:List AV) (l:k<A.length) (x:Nd) (rA:List AV) (g:Nat) (L:Nat) (Q:Nd) (M u0:List AV) (n:Nat) (N:Nat) (J:Nd) (G u1:List AV) (t:(List.drop ((Int.toNat (k:Int))*5) (aI e))= [.int .i64 13,.bool x.neg,.str x.num,.str x.den,.str x.name]++P) (B:(List.drop ((Int.toNat (k:Int))*1) (bC A))= [.sl [.int .i64 (g:Int),.int .i64 (n:Int)] 2 false]++rA) (O:(List.drop ((0+(Int.toNat (g:Int)))*1) (jH k c))= [AV.int .i64 (L:Int)]++M) (R:(List.drop ((Int.toNat (g:Int))*5) (aI e))=iY Q++u0) (T:(List.drop ((0+(Int.toNat (n:Int)))*1) (jH k c))= [AV.int .i64 (N:Int)]++G) (K:(List.drop ((Int.toNat (n:Int))*5) (aI e))=iY J++u1) (r:g<c.length) (u:g<e.length) (z:n<c.length) (E:n<e.length) (w:Nat) (I:Bool) (F:uy e o A d m c f a 13 x.neg x.num x.den x.name k (x.name==a) w) (H:uy e o A d m c f a 13 x.neg x.num x.den x.name k (false) w) (j:CO 46 [.sl (eX d) d.length m,.str x.name] (.ret (.bool I))) (s:((w:Int)==((0:Nat):Int))=false) (q:(((13:Nat):Int)==f)=false∨(x.name==a)=false):aj prog ap [] nt (ae 0 (af f15)) (eH e o A d m f a (k,c)) .normal (eH e o A d m f a (k+1,c.set k (w))):=by
 have b:k<c.length:=by omega
 have C:k<2^62:=by omega
 have h0:(decide ((k:Int)<(e.length:Int)))=true:=decide_eq_true (by omega)
 have D:Nat.ble (((0+(Int.toNat (k:Int)))*1)+1) (List.length (ai c))=true:=by rw [Nat.ble_eq,aA];simp [ai];omega
 have i:Nat.ble (((0+(Int.toNat (k:Int)))*1)+1) (List.length (jH k c))=true:=by rw [Nat.ble_eq,show (jH k c)=ai (c.set k 3) from aX (v:=3) b,aA];simp [ai];omega
 unfold eH
 dsimp only
 rw [List.length_set]
 rcases tf (((13:Nat):Int)==f) with b1|b1
 ·have p:=F
  have S:(x.name==a)=false:=by rcases q with h|h;rw [h] at b1;cases b1;exact h
  rw [← dF b]
  exact pN 15 [2] 20 227 (.k 19 i (.c (aQ k) (.c (bK b) (.k 7 (aQ k) (.c (bK l) (.c D (.c (aQ k) (.c (bK b) (.c (aB s) (.c (aB S) (.k 1 (aC b1) (.k 7 (aQ k) (.c h0 (.c (aC h0) .nil)))))))))))))) (.v 41 (.eq (iZ C)) (.c j (.v 87 (.ppt B) (.l p (.v 44 (.ppt t) .nil))))) y
 ·have p:=H
  rw [← dF b]
  exact pN 15 [2] 20 225 (.k 19 i (.c (aQ k) (.c (bK b) (.k 7 (aQ k) (.c (bK l) (.c D (.c (aQ k) (.c (bK b) (.c (aB s) (.k 1 (aB b1) (.k 7 (aQ k) (.c h0 (.c (aC h0) .nil))))))))))))) (.v 41 (.eq (iZ C)) (.c j (.v 87 (.ppt B) (.l p (.v 44 (.ppt t) .nil))))) y
theorem al2 {nt:Nat} (y:282≤nt) (e:List Nd) (o:Bool) (A:List (List Nat)) (d:List Sc) (m:Bool) (c:List Nat) (f:Int) (a:List UInt8) (k:Nat) (W:k<e.length) (U:e.length<2^40) (X:A.length=e.length) (V:c.length=e.length) (P:List AV) (l:k<A.length) (x:Nd) (rA:List AV) (g:Nat) (L:Nat) (Q:Nd) (M u0:List AV) (n:Nat) (N:Nat) (J:Nd) (G u1:List AV) (t:(List.drop ((Int.toNat (k:Int))*5) (aI e))= [.int .i64 14,.bool x.neg,.str x.num,.str x.den,.str x.name]++P) (B:(List.drop ((Int.toNat (k:Int))*1) (bC A))= [.sl [.int .i64 (g:Int),.int .i64 (n:Int)] 2 false]++rA) (O:(List.drop ((0+(Int.toNat (g:Int)))*1) (jH k c))= [AV.int .i64 (L:Int)]++M) (R:(List.drop ((Int.toNat (g:Int))*5) (aI e))=iY Q++u0) (T:(List.drop ((0+(Int.toNat (n:Int)))*1) (jH k c))= [AV.int .i64 (N:Int)]++G) (K:(List.drop ((Int.toNat (n:Int))*5) (aI e))=iY J++u1) (r:g<c.length) (u:g<e.length) (z:n<c.length) (E:n<e.length) (w:Nat) (I:Bool) (F:uy e o A d m c f a 14 x.neg x.num x.den x.name k (x.name==a) w) (H:uy e o A d m c f a 14 x.neg x.num x.den x.name k (false) w) (j:CO 46 [.sl (eX d) d.length m,.str x.name] (.ret (.bool I))) (s:((w:Int)==((0:Nat):Int))=false) (q:(((14:Nat):Int)==f)=false∨(x.name==a)=false):aj prog ap [] nt (ae 0 (af f15)) (eH e o A d m f a (k,c)) .normal (eH e o A d m f a (k+1,c.set k (w))):=by
 have b:k<c.length:=by omega
 have C:k<2^62:=by omega
 have h0:(decide ((k:Int)<(e.length:Int)))=true:=decide_eq_true (by omega)
 have D:Nat.ble (((0+(Int.toNat (k:Int)))*1)+1) (List.length (ai c))=true:=by rw [Nat.ble_eq,aA];simp [ai];omega
 have i:Nat.ble (((0+(Int.toNat (k:Int)))*1)+1) (List.length (jH k c))=true:=by rw [Nat.ble_eq,show (jH k c)=ai (c.set k 3) from aX (v:=3) b,aA];simp [ai];omega
 unfold eH
 dsimp only
 rw [List.length_set]
 rcases tf (((14:Nat):Int)==f) with b1|b1
 ·have p:=F
  have S:(x.name==a)=false:=by rcases q with h|h;rw [h] at b1;cases b1;exact h
  rw [← dF b]
  exact pN 15 [2] 20 195 (.k 19 i (.c (aQ k) (.c (bK b) (.k 8 (aQ k) (.c (bK l) (.c D (.c (aQ k) (.c (bK b) (.c (aB s) (.c (aB S) (.k 1 (aC b1) (.k 7 (aQ k) (.c h0 (.c (aC h0) .nil)))))))))))))) (.v 41 (.eq (iZ C)) (.c j (.v 87 (.ppt B) (.l p (.v 44 (.ppt t) .nil))))) y
 ·have p:=H
  rw [← dF b]
  exact pN 15 [2] 20 193 (.k 19 i (.c (aQ k) (.c (bK b) (.k 8 (aQ k) (.c (bK l) (.c D (.c (aQ k) (.c (bK b) (.c (aB s) (.k 1 (aB b1) (.k 7 (aQ k) (.c h0 (.c (aC h0) .nil))))))))))))) (.v 41 (.eq (iZ C)) (.c j (.v 87 (.ppt B) (.l p (.v 44 (.ppt t) .nil))))) y
theorem al3 {nt:Nat} (G:282≤nt) (e:List Nd) (F:Bool) (A:List (List Nat)) (u:List Sc) (C:Bool) (d:List Nat) (y:Int) (a:List UInt8) (k:Nat) (hk:k<e.length) (hke:e.length<2^40) (hA:A.length=e.length) (hS:d.length=e.length) (Y:List AV) (n:k<A.length) (x:Nd) (rA:List AV) (j:Nat) (r:Nat) (x0:Nd) (X u0:List AV) (t:Nat) (i:Nat) (V:Nd) (Q u1:List AV) (s:Nat) (g:Nat) (U:Nd) (S u2:List AV) (E:(List.drop ((Int.toNat (k:Int))*5) (aI e))= [.int .i64 15,.bool x.neg,.str x.num,.str x.den,.str x.name]++Y) (H:(List.drop ((Int.toNat (k:Int))*1) (bC A))= [.sl [.int .i64 (j:Int),.int .i64 (t:Int),.int .i64 (s:Int)] 3 false]++rA) (c:(List.drop ((0+(Int.toNat (j:Int)))*1) (jH k d))= [AV.int .i64 (r:Int)]++X) (hx0:(List.drop ((Int.toNat (j:Int))*5) (aI e))=iY x0++u0) (o:(List.drop ((0+(Int.toNat (t:Int)))*1) (jH k d))= [AV.int .i64 (i:Int)]++Q) (W:(List.drop ((Int.toNat (t:Int))*5) (aI e))=iY V++u1) (m:(List.drop ((0+(Int.toNat (s:Int)))*1) (jH k d))= [AV.int .i64 (g:Int)]++S) (Z:(List.drop ((Int.toNat (s:Int))*5) (aI e))=iY U++u2) (f:j<d.length) (L:j<e.length) (q:t<d.length) (O:t<e.length) (p:s<d.length) (M:s<e.length) (w:Nat) (T:Bool) (P:uy e F A u C d y a 15 x.neg x.num x.den x.name k (x.name==a) w) (R:uy e F A u C d y a 15 x.neg x.num x.den x.name k (false) w) (l:CO 46 [.sl (eX u) u.length C,.str x.name] (.ret (.bool T))) (D:((w:Int)==((0:Nat):Int))=false) (K:(((15:Nat):Int)==y)=false∨(x.name==a)=false):aj prog ap [] nt (ae 0 (af f15)) (eH e F A u C y a (k,d)) .normal (eH e F A u C y a (k+1,d.set k (cond ((r:Int)==((0:Nat):Int)) (d_ i g) 3))):=by
 have b:k<d.length:=by omega
 have I:k<2^62:=by omega
 have h0:(decide ((k:Int)<(e.length:Int)))=true:=decide_eq_true (by omega)
 have J:Nat.ble (((0+(Int.toNat (k:Int)))*1)+1) (List.length (ai d))=true:=by rw [Nat.ble_eq,aA];simp [ai];omega
 have B:Nat.ble (((0+(Int.toNat (k:Int)))*1)+1) (List.length (jH k d))=true:=by rw [Nat.ble_eq,show (jH k d)=ai (d.set k 3) from aX (v:=3) b,aA];simp [ai];omega
 unfold eH
 dsimp only
 rw [List.length_set]
 rcases tf (((15:Nat):Int)==y) with b1|b1
 ·have z:=P
  have N:(x.name==a)=false:=by rcases K with h|h;rw [h] at b1;cases b1;exact h
  rcases tf ((r:Int)==((0:Nat):Int)) with d0|d0
  ·rw [show (cond ((r:Int)==((0:Nat):Int)) (d_ i g) 3)=(d_ i g) by rw [d0];rfl]
   rw [← dF b]
   exact pN 15 [2] 21 393219 (.k 4 B (.c (aQ k) (.c (bK b) (.a (gZ [.int .i64] m rfl) (.c (aQ s) (.c (bK p) (.n 3 (.a (gZ [.int .i64] o rfl) (.c (aQ t) (.c (bK q) (.k 3 (aC d0) (.a (gZ [.int .i64] c rfl) (.c (aQ j) (.c (bK f) (.k 27 (aQ k) (.c (bK n) (.c J (.c (aQ k) (.c (bK b) (.c (aB D) (.c (aB N) (.k 1 (aC b1) (.k 7 (aQ k) (.c h0 (.c (aC h0) .nil))))))))))))))))))))))))) (.v 41 (.eq (iZ I)) (.c l (.c (uw i g) (.v 259 (.rd1 (.int .i64) m rfl) (.v 253 (.rd1 (.int .i64) o rfl) (.v 243 (.rd1 (.int .i64) c rfl) (.v 87 (.ppt H) (.l z (.v 44 (.ppt E) .nil))))))))) G
  ·rw [show (cond ((r:Int)==((0:Nat):Int)) (d_ i g) 3)=3 by rw [d0];rfl]
   rw [← aX b]
   exact pN 15 [2] 21 131075 (.k 4 (aB d0) (.a (gZ [.int .i64] c rfl) (.c (aQ j) (.c (bK f) (.k 27 (aQ k) (.c (bK n) (.c J (.c (aQ k) (.c (bK b) (.c (aB D) (.c (aB N) (.k 1 (aC b1) (.k 7 (aQ k) (.c h0 (.c (aC h0) .nil))))))))))))))) (.v 41 (.eq (iZ I)) (.c l (.v 243 (.rd1 (.int .i64) c rfl) (.v 87 (.ppt H) (.l z (.v 44 (.ppt E) .nil)))))) G
 ·have z:=R
  rcases tf ((r:Int)==((0:Nat):Int)) with d0|d0
  ·rw [show (cond ((r:Int)==((0:Nat):Int)) (d_ i g) 3)=(d_ i g) by rw [d0];rfl]
   rw [← dF b]
   exact pN 15 [2] 21 393217 (.k 4 B (.c (aQ k) (.c (bK b) (.a (gZ [.int .i64] m rfl) (.c (aQ s) (.c (bK p) (.n 3 (.a (gZ [.int .i64] o rfl) (.c (aQ t) (.c (bK q) (.k 3 (aC d0) (.a (gZ [.int .i64] c rfl) (.c (aQ j) (.c (bK f) (.k 27 (aQ k) (.c (bK n) (.c J (.c (aQ k) (.c (bK b) (.c (aB D) (.k 1 (aB b1) (.k 7 (aQ k) (.c h0 (.c (aC h0) .nil)))))))))))))))))))))))) (.v 41 (.eq (iZ I)) (.c l (.c (uw i g) (.v 259 (.rd1 (.int .i64) m rfl) (.v 253 (.rd1 (.int .i64) o rfl) (.v 243 (.rd1 (.int .i64) c rfl) (.v 87 (.ppt H) (.l z (.v 44 (.ppt E) .nil))))))))) G
  ·rw [show (cond ((r:Int)==((0:Nat):Int)) (d_ i g) 3)=3 by rw [d0];rfl]
   rw [← aX b]
   exact pN 15 [2] 21 131073 (.k 4 (aB d0) (.a (gZ [.int .i64] c rfl) (.c (aQ j) (.c (bK f) (.k 27 (aQ k) (.c (bK n) (.c J (.c (aQ k) (.c (bK b) (.c (aB D) (.k 1 (aB b1) (.k 7 (aQ k) (.c h0 (.c (aC h0) .nil)))))))))))))) (.v 41 (.eq (iZ I)) (.c l (.v 243 (.rd1 (.int .i64) c rfl) (.v 87 (.ppt H) (.l z (.v 44 (.ppt E) .nil)))))) G
theorem al4 {nt:Nat} (u:282≤nt) (e:List Nd) (n:Bool) (A:List (List Nat)) (d:List Sc) (l:Bool) (b:List Nat) (f:Int) (a:List UInt8) (k:Nat) (W:k<e.length) (U:e.length<2^40) (X:A.length=e.length) (V:b.length=e.length) (P:List AV) (j:k<A.length) (x:Nd) (rA:List AV) (g:Nat) (L:Nat) (Q:Nd) (M u0:List AV) (m:Nat) (N:Nat) (J:Nd) (F u1:List AV) (s:(List.drop ((Int.toNat (k:Int))*5) (aI e))= [.int .i64 16,.bool x.neg,.str x.num,.str x.den,.str x.name]++P) (z:(List.drop ((Int.toNat (k:Int))*1) (bC A))= [.sl [.int .i64 (g:Int),.int .i64 (m:Int)] 2 false]++rA) (O:(List.drop ((0+(Int.toNat (g:Int)))*1) (jH k b))= [AV.int .i64 (L:Int)]++M) (R:(List.drop ((Int.toNat (g:Int))*5) (aI e))=iY Q++u0) (T:(List.drop ((0+(Int.toNat (m:Int)))*1) (jH k b))= [AV.int .i64 (N:Int)]++F) (K:(List.drop ((Int.toNat (m:Int))*5) (aI e))=iY J++u1) (q:g<b.length) (t:g<e.length) (y:m<b.length) (D:m<e.length) (w:Nat) (H:Bool) (E:uy e n A d l b f a 16 x.neg x.num x.den x.name k (x.name==a) w) (G:uy e n A d l b f a 16 x.neg x.num x.den x.name k (false) w) (i:CO 46 [.sl (eX d) d.length l,.str x.name] (.ret (.bool H))) (r:((w:Int)==((0:Nat):Int))=false) (p:(((16:Nat):Int)==f)=false∨(x.name==a)=false):aj prog ap [] nt (ae 0 (af f15)) (eH e n A d l f a (k,b)) .normal (eH e n A d l f a (k+1,b.set k (3))):=by
 have c:k<b.length:=by omega
 have B:k<2^62:=by omega
 have h0:(decide ((k:Int)<(e.length:Int)))=true:=decide_eq_true (by omega)
 have C:Nat.ble (((0+(Int.toNat (k:Int)))*1)+1) (List.length (ai b))=true:=by rw [Nat.ble_eq,aA];simp [ai];omega
 have I:Nat.ble (((0+(Int.toNat (k:Int)))*1)+1) (List.length (jH k b))=true:=by rw [Nat.ble_eq,show (jH k b)=ai (b.set k 3) from aX (v:=3) c,aA];simp [ai];omega
 unfold eH
 dsimp only
 rw [List.length_set]
 rcases tf (((16:Nat):Int)==f) with b1|b1
 ·have o:=E
  have S:(x.name==a)=false:=by rcases p with h|h;rw [h] at b1;cases b1;exact h
  rw [← aX c]
  exact pN 15 [2] 21 3 (.k 29 (aQ k) (.c (bK j) (.c C (.c (aQ k) (.c (bK c) (.c (aB r) (.c (aB S) (.k 1 (aC b1) (.k 7 (aQ k) (.c h0 (.c (aC h0) .nil))))))))))) (.v 41 (.eq (iZ B)) (.c i (.v 87 (.ppt z) (.l o (.v 44 (.ppt s) .nil))))) u
 ·have o:=G
  rw [← aX c]
  exact pN 15 [2] 21 1 (.k 29 (aQ k) (.c (bK j) (.c C (.c (aQ k) (.c (bK c) (.c (aB r) (.k 1 (aB b1) (.k 7 (aQ k) (.c h0 (.c (aC h0) .nil)))))))))) (.v 41 (.eq (iZ B)) (.c i (.v 87 (.ppt z) (.l o (.v 44 (.ppt s) .nil))))) u
theorem al5 {nt:Nat} (u:282≤nt) (e:List Nd) (n:Bool) (A:List (List Nat)) (d:List Sc) (l:Bool) (b:List Nat) (f:Int) (a:List UInt8) (k:Nat) (W:k<e.length) (U:e.length<2^40) (X:A.length=e.length) (V:b.length=e.length) (P:List AV) (j:k<A.length) (x:Nd) (rA:List AV) (g:Nat) (L:Nat) (Q:Nd) (M u0:List AV) (m:Nat) (N:Nat) (J:Nd) (F u1:List AV) (s:(List.drop ((Int.toNat (k:Int))*5) (aI e))= [.int .i64 17,.bool x.neg,.str x.num,.str x.den,.str x.name]++P) (z:(List.drop ((Int.toNat (k:Int))*1) (bC A))= [.sl [.int .i64 (g:Int),.int .i64 (m:Int)] 2 false]++rA) (O:(List.drop ((0+(Int.toNat (g:Int)))*1) (jH k b))= [AV.int .i64 (L:Int)]++M) (R:(List.drop ((Int.toNat (g:Int))*5) (aI e))=iY Q++u0) (T:(List.drop ((0+(Int.toNat (m:Int)))*1) (jH k b))= [AV.int .i64 (N:Int)]++F) (K:(List.drop ((Int.toNat (m:Int))*5) (aI e))=iY J++u1) (q:g<b.length) (t:g<e.length) (y:m<b.length) (D:m<e.length) (w:Nat) (H:Bool) (E:uy e n A d l b f a 17 x.neg x.num x.den x.name k (x.name==a) w) (G:uy e n A d l b f a 17 x.neg x.num x.den x.name k (false) w) (i:CO 46 [.sl (eX d) d.length l,.str x.name] (.ret (.bool H))) (r:((w:Int)==((0:Nat):Int))=false) (p:(((17:Nat):Int)==f)=false∨(x.name==a)=false):aj prog ap [] nt (ae 0 (af f15)) (eH e n A d l f a (k,b)) .normal (eH e n A d l f a (k+1,b.set k (3))):=by
 have c:k<b.length:=by omega
 have B:k<2^62:=by omega
 have h0:(decide ((k:Int)<(e.length:Int)))=true:=decide_eq_true (by omega)
 have C:Nat.ble (((0+(Int.toNat (k:Int)))*1)+1) (List.length (ai b))=true:=by rw [Nat.ble_eq,aA];simp [ai];omega
 have I:Nat.ble (((0+(Int.toNat (k:Int)))*1)+1) (List.length (jH k b))=true:=by rw [Nat.ble_eq,show (jH k b)=ai (b.set k 3) from aX (v:=3) c,aA];simp [ai];omega
 unfold eH
 dsimp only
 rw [List.length_set]
 rcases tf (((17:Nat):Int)==f) with b1|b1
 ·have o:=E
  have S:(x.name==a)=false:=by rcases p with h|h;rw [h] at b1;cases b1;exact h
  rw [← aX c]
  exact pN 15 [2] 21 3 (.k 29 (aQ k) (.c (bK j) (.c C (.c (aQ k) (.c (bK c) (.c (aB r) (.c (aB S) (.k 1 (aC b1) (.k 7 (aQ k) (.c h0 (.c (aC h0) .nil))))))))))) (.v 41 (.eq (iZ B)) (.c i (.v 87 (.ppt z) (.l o (.v 44 (.ppt s) .nil))))) u
 ·have o:=G
  rw [← aX c]
  exact pN 15 [2] 21 1 (.k 29 (aQ k) (.c (bK j) (.c C (.c (aQ k) (.c (bK c) (.c (aB r) (.k 1 (aB b1) (.k 7 (aQ k) (.c h0 (.c (aC h0) .nil)))))))))) (.v 41 (.eq (iZ B)) (.c i (.v 87 (.ppt z) (.l o (.v 44 (.ppt s) .nil))))) u
theorem al6 {nt:Nat} (u:282≤nt) (e:List Nd) (n:Bool) (A:List (List Nat)) (d:List Sc) (l:Bool) (b:List Nat) (f:Int) (a:List UInt8) (k:Nat) (W:k<e.length) (U:e.length<2^40) (X:A.length=e.length) (V:b.length=e.length) (P:List AV) (j:k<A.length) (x:Nd) (rA:List AV) (g:Nat) (L:Nat) (Q:Nd) (M u0:List AV) (m:Nat) (N:Nat) (J:Nd) (F u1:List AV) (s:(List.drop ((Int.toNat (k:Int))*5) (aI e))= [.int .i64 18,.bool x.neg,.str x.num,.str x.den,.str x.name]++P) (z:(List.drop ((Int.toNat (k:Int))*1) (bC A))= [.sl [.int .i64 (g:Int),.int .i64 (m:Int)] 2 false]++rA) (O:(List.drop ((0+(Int.toNat (g:Int)))*1) (jH k b))= [AV.int .i64 (L:Int)]++M) (R:(List.drop ((Int.toNat (g:Int))*5) (aI e))=iY Q++u0) (T:(List.drop ((0+(Int.toNat (m:Int)))*1) (jH k b))= [AV.int .i64 (N:Int)]++F) (K:(List.drop ((Int.toNat (m:Int))*5) (aI e))=iY J++u1) (q:g<b.length) (t:g<e.length) (y:m<b.length) (D:m<e.length) (w:Nat) (H:Bool) (E:uy e n A d l b f a 18 x.neg x.num x.den x.name k (x.name==a) w) (G:uy e n A d l b f a 18 x.neg x.num x.den x.name k (false) w) (i:CO 46 [.sl (eX d) d.length l,.str x.name] (.ret (.bool H))) (r:((w:Int)==((0:Nat):Int))=false) (p:(((18:Nat):Int)==f)=false∨(x.name==a)=false):aj prog ap [] nt (ae 0 (af f15)) (eH e n A d l f a (k,b)) .normal (eH e n A d l f a (k+1,b.set k (3))):=by
 have c:k<b.length:=by omega
 have B:k<2^62:=by omega
 have h0:(decide ((k:Int)<(e.length:Int)))=true:=decide_eq_true (by omega)
 have C:Nat.ble (((0+(Int.toNat (k:Int)))*1)+1) (List.length (ai b))=true:=by rw [Nat.ble_eq,aA];simp [ai];omega
 have I:Nat.ble (((0+(Int.toNat (k:Int)))*1)+1) (List.length (jH k b))=true:=by rw [Nat.ble_eq,show (jH k b)=ai (b.set k 3) from aX (v:=3) c,aA];simp [ai];omega
 unfold eH
 dsimp only
 rw [List.length_set]
 rcases tf (((18:Nat):Int)==f) with b1|b1
 ·have o:=E
  have S:(x.name==a)=false:=by rcases p with h|h;rw [h] at b1;cases b1;exact h
  rw [← aX c]
  exact pN 15 [2] 21 3 (.k 29 (aQ k) (.c (bK j) (.c C (.c (aQ k) (.c (bK c) (.c (aB r) (.c (aB S) (.k 1 (aC b1) (.k 7 (aQ k) (.c h0 (.c (aC h0) .nil))))))))))) (.v 41 (.eq (iZ B)) (.c i (.v 87 (.ppt z) (.l o (.v 44 (.ppt s) .nil))))) u
 ·have o:=G
  rw [← aX c]
  exact pN 15 [2] 21 1 (.k 29 (aQ k) (.c (bK j) (.c C (.c (aQ k) (.c (bK c) (.c (aB r) (.k 1 (aB b1) (.k 7 (aQ k) (.c h0 (.c (aC h0) .nil)))))))))) (.v 41 (.eq (iZ B)) (.c i (.v 87 (.ppt z) (.l o (.v 44 (.ppt s) .nil))))) u
theorem al7 {nt:Nat} (u:282≤nt) (e:List Nd) (n:Bool) (A:List (List Nat)) (d:List Sc) (l:Bool) (b:List Nat) (f:Int) (a:List UInt8) (k:Nat) (W:k<e.length) (U:e.length<2^40) (X:A.length=e.length) (V:b.length=e.length) (P:List AV) (j:k<A.length) (x:Nd) (rA:List AV) (g:Nat) (L:Nat) (Q:Nd) (M u0:List AV) (m:Nat) (N:Nat) (J:Nd) (F u1:List AV) (s:(List.drop ((Int.toNat (k:Int))*5) (aI e))= [.int .i64 19,.bool x.neg,.str x.num,.str x.den,.str x.name]++P) (z:(List.drop ((Int.toNat (k:Int))*1) (bC A))= [.sl [.int .i64 (g:Int),.int .i64 (m:Int)] 2 false]++rA) (O:(List.drop ((0+(Int.toNat (g:Int)))*1) (jH k b))= [AV.int .i64 (L:Int)]++M) (R:(List.drop ((Int.toNat (g:Int))*5) (aI e))=iY Q++u0) (T:(List.drop ((0+(Int.toNat (m:Int)))*1) (jH k b))= [AV.int .i64 (N:Int)]++F) (K:(List.drop ((Int.toNat (m:Int))*5) (aI e))=iY J++u1) (q:g<b.length) (t:g<e.length) (y:m<b.length) (D:m<e.length) (w:Nat) (H:Bool) (E:uy e n A d l b f a 19 x.neg x.num x.den x.name k (x.name==a) w) (G:uy e n A d l b f a 19 x.neg x.num x.den x.name k (false) w) (i:CO 46 [.sl (eX d) d.length l,.str x.name] (.ret (.bool H))) (r:((w:Int)==((0:Nat):Int))=false) (p:(((19:Nat):Int)==f)=false∨(x.name==a)=false):aj prog ap [] nt (ae 0 (af f15)) (eH e n A d l f a (k,b)) .normal (eH e n A d l f a (k+1,b.set k (3))):=by
 have c:k<b.length:=by omega
 have B:k<2^62:=by omega
 have h0:(decide ((k:Int)<(e.length:Int)))=true:=decide_eq_true (by omega)
 have C:Nat.ble (((0+(Int.toNat (k:Int)))*1)+1) (List.length (ai b))=true:=by rw [Nat.ble_eq,aA];simp [ai];omega
 have I:Nat.ble (((0+(Int.toNat (k:Int)))*1)+1) (List.length (jH k b))=true:=by rw [Nat.ble_eq,show (jH k b)=ai (b.set k 3) from aX (v:=3) c,aA];simp [ai];omega
 unfold eH
 dsimp only
 rw [List.length_set]
 rcases tf (((19:Nat):Int)==f) with b1|b1
 ·have o:=E
  have S:(x.name==a)=false:=by rcases p with h|h;rw [h] at b1;cases b1;exact h
  rw [← aX c]
  exact pN 15 [2] 21 3 (.k 29 (aQ k) (.c (bK j) (.c C (.c (aQ k) (.c (bK c) (.c (aB r) (.c (aB S) (.k 1 (aC b1) (.k 7 (aQ k) (.c h0 (.c (aC h0) .nil))))))))))) (.v 41 (.eq (iZ B)) (.c i (.v 87 (.ppt z) (.l o (.v 44 (.ppt s) .nil))))) u
 ·have o:=G
  rw [← aX c]
  exact pN 15 [2] 21 1 (.k 29 (aQ k) (.c (bK j) (.c C (.c (aQ k) (.c (bK c) (.c (aB r) (.k 1 (aB b1) (.k 7 (aQ k) (.c h0 (.c (aC h0) .nil)))))))))) (.v 41 (.eq (iZ B)) (.c i (.v 87 (.ppt z) (.l o (.v 44 (.ppt s) .nil))))) u
theorem al8 {nt:Nat} (t:282≤nt) (e:List Nd) (m:Bool) (A:List (List Nat)) (d:List Sc) (l:Bool) (b:List Nat) (f:Int) (a:List UInt8) (k:Nat) (O:k<e.length) (M:e.length<2^40) (P:A.length=e.length) (N:b.length=e.length) (I:List AV) (j:k<A.length) (x:Nd) (rA:List AV) (g:Nat) (F:Nat) (J:Nd) (G u0:List AV) (r:(List.drop ((Int.toNat (k:Int))*5) (aI e))= [.int .i64 20,.bool x.neg,.str x.num,.str x.den,.str x.name]++I) (u:(List.drop ((Int.toNat (k:Int))*1) (bC A))= [.sl [.int .i64 (g:Int)] 1 false]++rA) (H:(List.drop ((0+(Int.toNat (g:Int)))*1) (jH k b))= [AV.int .i64 (F:Int)]++G) (K:(List.drop ((Int.toNat (g:Int))*5) (aI e))=iY J++u0) (p:g<b.length) (s:g<e.length) (w:Nat) (D:Bool) (B:uy e m A d l b f a 20 x.neg x.num x.den x.name k (x.name==a) w) (C:uy e m A d l b f a 20 x.neg x.num x.den x.name k (false) w) (i:CO 46 [.sl (eX d) d.length l,.str x.name] (.ret (.bool D))) (q:((w:Int)==((0:Nat):Int))=false) (o:(((20:Nat):Int)==f)=false∨(x.name==a)=false):aj prog ap [] nt (ae 0 (af f15)) (eH e m A d l f a (k,b)) .normal (eH e m A d l f a (k+1,b.set k (3))):=by
 have c:k<b.length:=by omega
 have y:k<2^62:=by omega
 have h0:(decide ((k:Int)<(e.length:Int)))=true:=decide_eq_true (by omega)
 have z:Nat.ble (((0+(Int.toNat (k:Int)))*1)+1) (List.length (ai b))=true:=by rw [Nat.ble_eq,aA];simp [ai];omega
 have E:Nat.ble (((0+(Int.toNat (k:Int)))*1)+1) (List.length (jH k b))=true:=by rw [Nat.ble_eq,show (jH k b)=ai (b.set k 3) from aX (v:=3) c,aA];simp [ai];omega
 unfold eH
 dsimp only
 rw [List.length_set]
 rcases tf (((20:Nat):Int)==f) with b1|b1
 ·have n:=B
  have L:(x.name==a)=false:=by rcases o with h|h;rw [h] at b1;cases b1;exact h
  rw [← aX c]
  exact pN 15 [2] 21 3 (.k 29 (aQ k) (.c (bK j) (.c z (.c (aQ k) (.c (bK c) (.c (aB q) (.c (aB L) (.k 1 (aC b1) (.k 7 (aQ k) (.c h0 (.c (aC h0) .nil))))))))))) (.v 41 (.eq (iZ y)) (.c i (.v 87 (.ppt u) (.l n (.v 44 (.ppt r) .nil))))) t
 ·have n:=C
  rw [← aX c]
  exact pN 15 [2] 21 1 (.k 29 (aQ k) (.c (bK j) (.c z (.c (aQ k) (.c (bK c) (.c (aB q) (.k 1 (aB b1) (.k 7 (aQ k) (.c h0 (.c (aC h0) .nil)))))))))) (.v 41 (.eq (iZ y)) (.c i (.v 87 (.ppt u) (.l n (.v 44 (.ppt r) .nil))))) t
theorem al9 {nt:Nat} (u:282≤nt) (e:List Nd) (n:Bool) (A:List (List Nat)) (d:List Sc) (m:Bool) (c:List Nat) (f:Int) (a:List UInt8) (k:Nat) (O:k<e.length) (M:e.length<2^40) (P:A.length=e.length) (N:c.length=e.length) (I:List AV) (l:k<A.length) (x:Nd) (rA:List AV) (g:Nat) (F:Nat) (J:Nd) (G u0:List AV) (s:(List.drop ((Int.toNat (k:Int))*5) (aI e))= [.int .i64 21,.bool x.neg,.str x.num,.str x.den,.str x.name]++I) (y:(List.drop ((Int.toNat (k:Int))*1) (bC A))= [.sl [.int .i64 (g:Int)] 1 false]++rA) (H:(List.drop ((0+(Int.toNat (g:Int)))*1) (jH k c))= [AV.int .i64 (F:Int)]++G) (K:(List.drop ((Int.toNat (g:Int))*5) (aI e))=iY J++u0) (q:g<c.length) (t:g<e.length) (w:Nat) (E:Bool) (C:uy e n A d m c f a 21 x.neg x.num x.den x.name k (x.name==a) w) (D:uy e n A d m c f a 21 x.neg x.num x.den x.name k (false) w) (j:CO 46 [.sl (eX d) d.length m,.str x.name] (.ret (.bool E))) (r:((w:Int)==((0:Nat):Int))=false) (p:(((21:Nat):Int)==f)=false∨(x.name==a)=false):aj prog ap [] nt (ae 0 (af f15)) (eH e n A d m f a (k,c)) .normal (eH e n A d m f a (k+1,c.set k (w))):=by
 have b:k<c.length:=by omega
 have z:k<2^62:=by omega
 have h0:(decide ((k:Int)<(e.length:Int)))=true:=decide_eq_true (by omega)
 have B:Nat.ble (((0+(Int.toNat (k:Int)))*1)+1) (List.length (ai c))=true:=by rw [Nat.ble_eq,aA];simp [ai];omega
 have i:Nat.ble (((0+(Int.toNat (k:Int)))*1)+1) (List.length (jH k c))=true:=by rw [Nat.ble_eq,show (jH k c)=ai (c.set k 3) from aX (v:=3) b,aA];simp [ai];omega
 unfold eH
 dsimp only
 rw [List.length_set]
 rcases tf (((21:Nat):Int)==f) with b1|b1
 ·have o:=C
  have L:(x.name==a)=false:=by rcases p with h|h;rw [h] at b1;cases b1;exact h
  rw [← dF b]
  exact pN 15 [2] 21 387 (.k 19 i (.c (aQ k) (.c (bK b) (.k 11 (aQ k) (.c (bK l) (.c B (.c (aQ k) (.c (bK b) (.c (aB r) (.c (aB L) (.k 1 (aC b1) (.k 7 (aQ k) (.c h0 (.c (aC h0) .nil)))))))))))))) (.v 41 (.eq (iZ z)) (.c j (.v 87 (.ppt y) (.l o (.v 44 (.ppt s) .nil))))) u
 ·have o:=D
  rw [← dF b]
  exact pN 15 [2] 21 385 (.k 19 i (.c (aQ k) (.c (bK b) (.k 11 (aQ k) (.c (bK l) (.c B (.c (aQ k) (.c (bK b) (.c (aB r) (.k 1 (aB b1) (.k 7 (aQ k) (.c h0 (.c (aC h0) .nil))))))))))))) (.v 41 (.eq (iZ z)) (.c j (.v 87 (.ppt y) (.l o (.v 44 (.ppt s) .nil))))) u
theorem al_ {nt:Nat} (u:282≤nt) (e:List Nd) (n:Bool) (A:List (List Nat)) (d:List Sc) (m:Bool) (c:List Nat) (f:Int) (a:List UInt8) (k:Nat) (O:k<e.length) (M:e.length<2^40) (P:A.length=e.length) (N:c.length=e.length) (I:List AV) (l:k<A.length) (x:Nd) (rA:List AV) (g:Nat) (F:Nat) (J:Nd) (G u0:List AV) (s:(List.drop ((Int.toNat (k:Int))*5) (aI e))= [.int .i64 22,.bool x.neg,.str x.num,.str x.den,.str x.name]++I) (y:(List.drop ((Int.toNat (k:Int))*1) (bC A))= [.sl [.int .i64 (g:Int)] 1 false]++rA) (H:(List.drop ((0+(Int.toNat (g:Int)))*1) (jH k c))= [AV.int .i64 (F:Int)]++G) (K:(List.drop ((Int.toNat (g:Int))*5) (aI e))=iY J++u0) (q:g<c.length) (t:g<e.length) (w:Nat) (E:Bool) (C:uy e n A d m c f a 22 x.neg x.num x.den x.name k (x.name==a) w) (D:uy e n A d m c f a 22 x.neg x.num x.den x.name k (false) w) (j:CO 46 [.sl (eX d) d.length m,.str x.name] (.ret (.bool E))) (r:((w:Int)==((0:Nat):Int))=false) (p:(((22:Nat):Int)==f)=false∨(x.name==a)=false):aj prog ap [] nt (ae 0 (af f15)) (eH e n A d m f a (k,c)) .normal (eH e n A d m f a (k+1,c.set k (w))):=by
 have b:k<c.length:=by omega
 have z:k<2^62:=by omega
 have h0:(decide ((k:Int)<(e.length:Int)))=true:=decide_eq_true (by omega)
 have B:Nat.ble (((0+(Int.toNat (k:Int)))*1)+1) (List.length (ai c))=true:=by rw [Nat.ble_eq,aA];simp [ai];omega
 have i:Nat.ble (((0+(Int.toNat (k:Int)))*1)+1) (List.length (jH k c))=true:=by rw [Nat.ble_eq,show (jH k c)=ai (c.set k 3) from aX (v:=3) b,aA];simp [ai];omega
 unfold eH
 dsimp only
 rw [List.length_set]
 rcases tf (((22:Nat):Int)==f) with b1|b1
 ·have o:=C
  have L:(x.name==a)=false:=by rcases p with h|h;rw [h] at b1;cases b1;exact h
  rw [← dF b]
  exact pN 15 [2] 21 387 (.k 19 i (.c (aQ k) (.c (bK b) (.k 11 (aQ k) (.c (bK l) (.c B (.c (aQ k) (.c (bK b) (.c (aB r) (.c (aB L) (.k 1 (aC b1) (.k 7 (aQ k) (.c h0 (.c (aC h0) .nil)))))))))))))) (.v 41 (.eq (iZ z)) (.c j (.v 87 (.ppt y) (.l o (.v 44 (.ppt s) .nil))))) u
 ·have o:=D
  rw [← dF b]
  exact pN 15 [2] 21 385 (.k 19 i (.c (aQ k) (.c (bK b) (.k 11 (aQ k) (.c (bK l) (.c B (.c (aQ k) (.c (bK b) (.c (aB r) (.k 1 (aB b1) (.k 7 (aQ k) (.c h0 (.c (aC h0) .nil))))))))))))) (.v 41 (.eq (iZ z)) (.c j (.v 87 (.ppt y) (.l o (.v 44 (.ppt s) .nil))))) u
theorem ama {nt:Nat} (u:282≤nt) (e:List Nd) (n:Bool) (A:List (List Nat)) (d:List Sc) (m:Bool) (c:List Nat) (f:Int) (a:List UInt8) (k:Nat) (O:k<e.length) (M:e.length<2^40) (P:A.length=e.length) (N:c.length=e.length) (I:List AV) (l:k<A.length) (x:Nd) (rA:List AV) (g:Nat) (F:Nat) (J:Nd) (G u0:List AV) (s:(List.drop ((Int.toNat (k:Int))*5) (aI e))= [.int .i64 23,.bool x.neg,.str x.num,.str x.den,.str x.name]++I) (y:(List.drop ((Int.toNat (k:Int))*1) (bC A))= [.sl [.int .i64 (g:Int)] 1 false]++rA) (H:(List.drop ((0+(Int.toNat (g:Int)))*1) (jH k c))= [AV.int .i64 (F:Int)]++G) (K:(List.drop ((Int.toNat (g:Int))*5) (aI e))=iY J++u0) (q:g<c.length) (t:g<e.length) (w:Nat) (E:Bool) (C:uy e n A d m c f a 23 x.neg x.num x.den x.name k (x.name==a) w) (D:uy e n A d m c f a 23 x.neg x.num x.den x.name k (false) w) (j:CO 46 [.sl (eX d) d.length m,.str x.name] (.ret (.bool E))) (r:((w:Int)==((0:Nat):Int))=false) (p:(((23:Nat):Int)==f)=false∨(x.name==a)=false):aj prog ap [] nt (ae 0 (af f15)) (eH e n A d m f a (k,c)) .normal (eH e n A d m f a (k+1,c.set k (w))):=by
 have b:k<c.length:=by omega
 have z:k<2^62:=by omega
 have h0:(decide ((k:Int)<(e.length:Int)))=true:=decide_eq_true (by omega)
 have B:Nat.ble (((0+(Int.toNat (k:Int)))*1)+1) (List.length (ai c))=true:=by rw [Nat.ble_eq,aA];simp [ai];omega
 have i:Nat.ble (((0+(Int.toNat (k:Int)))*1)+1) (List.length (jH k c))=true:=by rw [Nat.ble_eq,show (jH k c)=ai (c.set k 3) from aX (v:=3) b,aA];simp [ai];omega
 unfold eH
 dsimp only
 rw [List.length_set]
 rcases tf (((23:Nat):Int)==f) with b1|b1
 ·have o:=C
  have L:(x.name==a)=false:=by rcases p with h|h;rw [h] at b1;cases b1;exact h
  rw [← dF b]
  exact pN 15 [2] 21 387 (.k 19 i (.c (aQ k) (.c (bK b) (.k 11 (aQ k) (.c (bK l) (.c B (.c (aQ k) (.c (bK b) (.c (aB r) (.c (aB L) (.k 1 (aC b1) (.k 7 (aQ k) (.c h0 (.c (aC h0) .nil)))))))))))))) (.v 41 (.eq (iZ z)) (.c j (.v 87 (.ppt y) (.l o (.v 44 (.ppt s) .nil))))) u
 ·have o:=D
  rw [← dF b]
  exact pN 15 [2] 21 385 (.k 19 i (.c (aQ k) (.c (bK b) (.k 11 (aQ k) (.c (bK l) (.c B (.c (aQ k) (.c (bK b) (.c (aB r) (.k 1 (aB b1) (.k 7 (aQ k) (.c h0 (.c (aC h0) .nil))))))))))))) (.v 41 (.eq (iZ z)) (.c j (.v 87 (.ppt y) (.l o (.v 44 (.ppt s) .nil))))) u
theorem amb {nt:Nat} (s:282≤nt) (e:List Nd) (r:Bool) (A:List (List Nat)) (i:List Sc) (o:Bool) (c:List Nat) (j:Int) (a:List UInt8) (k:Nat) (O:k<e.length) (M:e.length<2^40) (P:A.length=e.length) (N:c.length=e.length) (J:List AV) (f:k<A.length) (x:Nd) (rA:List AV) (l:Nat) (G:Nat) (K:Nd) (H u0:List AV) (q:(List.drop ((Int.toNat (k:Int))*5) (aI e))= [.int .i64 24,.bool x.neg,.str x.num,.str x.den,.str x.name]++J) (t:(List.drop ((Int.toNat (k:Int))*1) (bC A))= [.sl [.int .i64 (l:Int)] 1 false]++rA) (I:(List.drop ((0+(Int.toNat (l:Int)))*1) (jH k c))= [AV.int .i64 (G:Int)]++H) (L:(List.drop ((Int.toNat (l:Int))*5) (aI e))=iY K++u0) (B:l<c.length) (C:l<e.length) (w:Nat) (g:Bool) (E:uy e r A i o c j a 24 x.neg x.num x.den x.name k (x.name==a) w) (F:uy e r A i o c j a 24 x.neg x.num x.den x.name k (false) w) (d:CO 46 [.sl (eX i) i.length o,.str x.name] (.ret (.bool g))) (p:((w:Int)==((0:Nat):Int))=false) (z:(((24:Nat):Int)==j)=false∨(x.name==a)=false):aj prog ap [] nt (ae 0 (af f15)) (eH e r A i o j a (k,c)) .normal (eH e r A i o j a (k+1,c.set k (cond g w 3))):=by
 have b:k<c.length:=by omega
 have u:k<2^62:=by omega
 have h0:(decide ((k:Int)<(e.length:Int)))=true:=decide_eq_true (by omega)
 have y:Nat.ble (((0+(Int.toNat (k:Int)))*1)+1) (List.length (ai c))=true:=by rw [Nat.ble_eq,aA];simp [ai];omega
 have n:Nat.ble (((0+(Int.toNat (k:Int)))*1)+1) (List.length (jH k c))=true:=by rw [Nat.ble_eq,show (jH k c)=ai (c.set k 3) from aX (v:=3) b,aA];simp [ai];omega
 unfold eH
 dsimp only
 rw [List.length_set]
 rcases tf (((24:Nat):Int)==j) with b1|b1
 ·have m:=E
  have D:(x.name==a)=false:=by rcases z with h|h;rw [h] at b1;cases b1;exact h
  rcases tf g with d0|d0
  ·rw [show (cond g w 3)=w by rw [d0];rfl]
   rw [← dF b]
   exact pN 15 [2] 21 1572995 (.c n (.c (aQ k) (.c (bK b) (.c (aC d0) (.k 29 (aQ k) (.c (bK f) (.c y (.c (aQ k) (.c (bK b) (.c (aB p) (.c (aB D) (.k 1 (aC b1) (.k 7 (aQ k) (.c h0 (.c (aC h0) .nil))))))))))))))) (.v 41 (.eq (iZ u)) (.c d (.v 87 (.ppt t) (.l m (.v 44 (.ppt q) .nil))))) s
  ·rw [show (cond g w 3)=3 by rw [d0];rfl]
   rw [← aX b]
   exact pN 15 [2] 21 524419 (.c (aB d0) (.k 29 (aQ k) (.c (bK f) (.c y (.c (aQ k) (.c (bK b) (.c (aB p) (.c (aB D) (.k 1 (aC b1) (.k 7 (aQ k) (.c h0 (.c (aC h0) .nil)))))))))))) (.v 41 (.eq (iZ u)) (.c d (.v 87 (.ppt t) (.l m (.v 44 (.ppt q) .nil))))) s
 ·have m:=F
  rcases tf g with d0|d0
  ·rw [show (cond g w 3)=w by rw [d0];rfl]
   rw [← dF b]
   exact pN 15 [2] 21 1572993 (.c n (.c (aQ k) (.c (bK b) (.c (aC d0) (.k 29 (aQ k) (.c (bK f) (.c y (.c (aQ k) (.c (bK b) (.c (aB p) (.k 1 (aB b1) (.k 7 (aQ k) (.c h0 (.c (aC h0) .nil)))))))))))))) (.v 41 (.eq (iZ u)) (.c d (.v 87 (.ppt t) (.l m (.v 44 (.ppt q) .nil))))) s
  ·rw [show (cond g w 3)=3 by rw [d0];rfl]
   rw [← aX b]
   exact pN 15 [2] 21 524417 (.c (aB d0) (.k 29 (aQ k) (.c (bK f) (.c y (.c (aQ k) (.c (bK b) (.c (aB p) (.k 1 (aB b1) (.k 7 (aQ k) (.c h0 (.c (aC h0) .nil))))))))))) (.v 41 (.eq (iZ u)) (.c d (.v 87 (.ppt t) (.l m (.v 44 (.ppt q) .nil))))) s
theorem pg {l:List Nat} (h:l.length=2):∃ a b,l= [a,b]:=match l,h with| [a,b],_=> ⟨a,b,rfl⟩
theorem BX {l:List Nat} (h:l.length=1):∃ a,l= [a]:=match l,h with| [a],_=> ⟨a,rfl⟩
theorem aaT {l:List Nat} (h:l.length=3):∃ a b c,l= [a,b,c]:=match l,h with| [a,b,c],_=> ⟨a,b,c,rfl⟩
theorem Q8 {a:List Nat} {k:Nat} (h:a.getD k 0=0):a.set k 0=a:=by
 by_cases hk:k<a.length
 ·rw [qV hk] at h
  conv=>lhs;rw [← h]
  exact List.set_getElem_self hk
 ·exact List.set_eq_of_length_le (by omega)
theorem tZ {a:List Nat} {k j v:Nat} (h:j ≠ k):(a.set k v).getD j 0=a.getD j 0:=by
 rw [List.getD_eq_getElem?_getD,List.getD_eq_getElem?_getD,List.getElem?_set_ne (Ne.symm h)]
theorem acj {a:List Nat} {k j:Nat} (b:k<a.length) (c:j<k):List.drop ((0+(Int.toNat (j:Int)))*1) (List.take ((0+(Int.toNat (k:Int)))*1) (ai a)++ [.int .i64 3]++List.drop (((0+(Int.toNat (k:Int)))*1)+1) (ai a))= [AV.int .i64 ((a.getD j 0:Nat):Int)]++ai ((a.set k 3).drop (j+1)):=by
 rw [show (List.take ((0+(Int.toNat (k:Int)))*1) (ai a)++ [.int .i64 3]++List.drop (((0+(Int.toNat (k:Int)))*1)+1) (ai a))=ai (a.set k 3) from aX (v:=3) b,Nat.zero_add,kE (by rw [List.length_set];omega),tZ (by omega)]
theorem YR {nt:Nat} (N:282≤nt) (e:List Nd) (I:Bool) (q:List Sc) (G:Bool) (d:List Nat) (ck:Sc→Int) (H:Sc→Bool) (E:Int) (i:List UInt8) (k:Nat) (x:Nd) (hsm:∀ y ∈ e,y.sm) (hq:dG e=0) (X:e[k]? =some x) (s:e.length<2^40) (M:d.length=e.length) (Z:q.length<2^40) (hz:d.getD k 0=0) (Q:∀ j,j<k→fF (e.getD j jc).op=true→d.getD j 0=0) (hc:∀ x ∈ q,CO 71 [.agg (xf x)] (.ret (.int .i64 (ck x)))∧(ck x=0→CO 72 [.agg (xf x)] (.ret (.bool (H x))))):
  aj prog ap [] nt (ae 0 (af f15)) (eH e I (bQ e) q G E i (k,d)) .normal (eH e I (bQ e) q G E i (k+1,d.set k (yD ck H e (bQ e) q E i d k x))):=by
 obtain ⟨K,hsp⟩:=m_ hq
 obtain ⟨r,l⟩:=hsp k x X
 obtain ⟨J,hxe⟩:=List.getElem?_eq_some_iff.1 X
 have hgx:e.getD k jc=x:=by rw [List.getD_eq_getElem?_getD,X];rfl
 generalize hAA:bQ e=A at*
 have t:k<A.length:=by omega
 have W:k<d.length:=by omega
 have m:∀ j ∈ A.getD k [],j<d.length:=fun j P=>by have:=l j P;omega
 have T:(A.getD k []).length<2^40:=by rw [r];unfold dL;split<;>(try split)<;>(try split)<;>omega
 have L:(List.drop ((Int.toNat (k:Int))*5) (aI e))=iY x++aI (e.drop (k+1)):=by rw [ul J,hgx]
 have u:=fun b=>acJ e I A q G d E i x.op x.neg x.num x.den x.name k b t T m
 unfold yD
 by_cases hit:(x.op==E && x.name==i)=true
 ·rw [hit]
  rw [Bool.and_eq_true] at hit
  exact at7 N e I A q G d E i k J s K M _ x L hit.1 hit.2
 ·rw [Bool.not_eq_true] at hit
  rw [hit]
  have p:(x.op==E)=false∨(x.name==i)=false:=Bool.and_eq_false_iff.1 hit
  rcases tf ((((eF A d k):Nat):Int)==((0:Nat):Int)) with b3|b3
  ·rw [b3]
   dsimp only [cond]
   rw [Q8 hz]
   rcases tf (x.op==E) with b1|b1
   ·have b2:(x.name==i)=false:=by rcases p with h|h;rw [h] at b1;cases b1;exact h
    exact aua N e I A q G d E i k J s K M _ x L _ (u _) b1 b2 b3
   ·exact aub N e I A q G d E i k J s K M _ x L _ (u _) b1 b3
  ·rw [b3]
   dsimp only [cond]
   have w:=Vz q G x.name ck H Z hc
   have V:A.getD k [] ≠ []:=by
    intro h
    have:eF A d k=0:=by unfold eF;rw [h];rfl
    rw [this] at b3
    exact absurd b3 (by decide)
   have g:=kZ t
   have o:∀ j ∈ A.getD k [],List.drop ((0+(Int.toNat (j:Int)))*1) (List.take ((0+(Int.toNat (k:Int)))*1) (ai d)++ [.int .i64 3]++List.drop (((0+(Int.toNat (k:Int)))*1)+1) (ai d))= [AV.int .i64 ((d.getD j 0:Nat):Int)]++ai ((d.set k 3).drop (j+1)):=fun j P=>acj W (l j P)
   have n:∀ j ∈ A.getD k [],(List.drop ((Int.toNat (j:Int))*5) (aI e))=iY (e.getD j jc)++aI (e.drop (j+1)):=fun j P=>ul (by have:=l j P;omega)
   rcases x with ⟨F,C,B,z,v⟩
   dsimp only at*
   have hop:F=9∨F=10∨F=11∨F=12∨F=13∨F=14∨F=15∨F=16∨F=17∨F=18∨F=19∨F=20∨F=21∨F=22∨F=23∨F=24:=by
    have S:dL F ≠ 0:=by intro h;rw [h] at r;exact V (List.length_eq_zero_iff.1 r)
    unfold dL at S
    by_cases g1:F=15
    ·omega
    ·rw [if_neg g1] at S
     by_cases g2:(9≤F∧F≤14)∨(16≤F∧F≤19)
     ·omega
     ·rw [if_neg g2] at S
      by_cases g3:20≤F∧F≤24
      ·omega
      ·rw [if_neg g3] at S;exact absurd rfl S
   have R:∀ j,(e.getD j jc).num.length<2^33∧(e.getD j jc).den.length<2^33:=by
    intro j
    by_cases P:j<e.length
    ·exact hsm _ (by rw [List.getD_eq_getElem?_getD,List.getElem?_eq_getElem P];exact List.getElem_mem P)
    ·rw [List.getD_eq_getElem?_getD,List.getElem?_eq_none (by omega)];decide
   rcases hop with hxo|hxo|hxo|hxo|hxo|hxo|hxo|hxo|hxo|hxo|hxo|hxo|hxo|hxo|hxo|hxo
   ·subst hxo
    obtain ⟨c,f,a⟩:=pg (show (A.getD k []).length=2 by rw [r];rfl)
    rw [a] at g
    have D:fU ck H e A q d k ⟨9,C,B,z,v⟩=eF A d k:=by
     unfold fU
     dsimp only
     rw [if_pos (by decide)]
    rw [D]
    exact at6 N e I A q G d E i k J s K M _ t ⟨9,C,B,z,v⟩ _ c (d.getD c 0) (e.getD c jc) _ _ f (d.getD f 0) (e.getD f jc) _ _ L g (o c (by rw [a];simp)) (n c (by rw [a];simp)) (o f (by rw [a];simp)) (n f (by rw [a];simp)) (m c (by rw [a];simp)) (by have:=l c (by rw [a];simp);omega) (m f (by rw [a];simp)) (by have:=l f (by rw [a];simp);omega) (eF A d k) _ (u _) (u _) w b3 p
   ·subst hxo
    obtain ⟨c,f,a⟩:=pg (show (A.getD k []).length=2 by rw [r];rfl)
    rw [a] at g
    have D:fU ck H e A q d k ⟨10,C,B,z,v⟩=d_ (d.getD c 0) (jK (d.getD f 0)):=by
     unfold fU
     dsimp only
     rw [if_neg (by decide)]
     rw [if_pos (by decide)]
     rw [show eU A d k 0=d.getD c 0 by unfold eU;rw [a];rfl,show eU A d k 1=d.getD f 0 by unfold eU;rw [a];rfl]
    rw [D]
    exact alX N e I A q G d E i k J s K M _ t ⟨10,C,B,z,v⟩ _ c (d.getD c 0) (e.getD c jc) _ _ f (d.getD f 0) (e.getD f jc) _ _ L g (o c (by rw [a];simp)) (n c (by rw [a];simp)) (o f (by rw [a];simp)) (n f (by rw [a];simp)) (m c (by rw [a];simp)) (by have:=l c (by rw [a];simp);omega) (m f (by rw [a];simp)) (by have:=l f (by rw [a];simp);omega) (eF A d k) _ (u _) (u _) w b3 p
   ·subst hxo
    obtain ⟨c,f,a⟩:=pg (show (A.getD k []).length=2 by rw [r];rfl)
    rw [a] at g
    have D:fU ck H e A q d k ⟨11,C,B,z,v⟩=cond (fF (e.getD c jc).op) (gW (e.getD c jc).neg (d.getD f 0)) (cond (fF (e.getD f jc).op) (gW (e.getD f jc).neg (d.getD c 0)) 3):=by
     unfold fU
     dsimp only
     rw [if_neg (by decide)]
     rw [if_neg (by decide)]
     rw [if_pos (by decide)]
     unfold DI
     rw [show eU A d k 0=d.getD c 0 by unfold eU;rw [a];rfl,show eU A d k 1=d.getD f 0 by unfold eU;rw [a];rfl,show qZ e A k 0=e.getD c jc by unfold qZ;rw [a];rfl,show qZ e A k 1=e.getD f jc by unfold qZ;rw [a];rfl]
    have Y:fF (e.getD c jc).op=true→fF (e.getD f jc).op=false:=by
     intro S
     rcases tf (fF (e.getD f jc).op) with h2|h2
     ·exfalso
      have z0:=Q c (l c (by rw [a];simp)) S
      have z1:=Q f (l f (by rw [a];simp)) h2
      have:eF A d k=0:=by unfold eF;rw [a];show d_ (d_ 0 (d.getD c 0)) (d.getD f 0)=0;rw [z0,z1];rfl
      rw [this] at b3
      exact absurd b3 (by decide)
     ·exact h2
    rw [D]
    exact alY N e I A q G d E i k J s K M _ t ⟨11,C,B,z,v⟩ _ c (d.getD c 0) (e.getD c jc) _ _ f (d.getD f 0) (e.getD f jc) _ _ L g (o c (by rw [a];simp)) (n c (by rw [a];simp)) (o f (by rw [a];simp)) (n f (by rw [a];simp)) (m c (by rw [a];simp)) (by have:=l c (by rw [a];simp);omega) (m f (by rw [a];simp)) (by have:=l f (by rw [a];simp);omega) (eF A d k) _ (u _) (u _) w Y b3 p
   ·subst hxo
    obtain ⟨c,f,a⟩:=pg (show (A.getD k []).length=2 by rw [r];rfl)
    rw [a] at g
    have D:fU ck H e A q d k ⟨12,C,B,z,v⟩=cond (fF (e.getD f jc).op) (cond (fV (e.getD f jc).neg (e.getD f jc).num (e.getD f jc).den==((0:Nat):Int)) 3 (gW (e.getD f jc).neg (d.getD c 0))) 3:=by
     unfold fU
     dsimp only
     rw [if_neg (by decide)]
     rw [if_neg (by decide)]
     rw [if_neg (by decide)]
     rw [if_pos (by decide)]
     unfold Cj
     rw [show eU A d k 0=d.getD c 0 by unfold eU;rw [a];rfl,show qZ e A k 1=e.getD f jc by unfold qZ;rw [a];rfl]
    have csg_:=fM (e.getD f jc).neg (e.getD f jc).num (e.getD f jc).den (R f).1 (R f).2
    rw [D]
    exact alZ N e I A q G d E i k J s K M _ t ⟨12,C,B,z,v⟩ _ c (d.getD c 0) (e.getD c jc) _ _ f (d.getD f 0) (e.getD f jc) _ _ L g (o c (by rw [a];simp)) (n c (by rw [a];simp)) (o f (by rw [a];simp)) (n f (by rw [a];simp)) (m c (by rw [a];simp)) (by have:=l c (by rw [a];simp);omega) (m f (by rw [a];simp)) (by have:=l f (by rw [a];simp);omega) (eF A d k) _ (u _) (u _) w csg_ b3 p
   ·subst hxo
    obtain ⟨c,f,a⟩:=pg (show (A.getD k []).length=2 by rw [r];rfl)
    rw [a] at g
    have D:fU ck H e A q d k ⟨13,C,B,z,v⟩=eF A d k:=by
     unfold fU
     dsimp only
     rw [if_pos (by decide)]
    rw [D]
    exact al0 N e I A q G d E i k J s K M _ t ⟨13,C,B,z,v⟩ _ c (d.getD c 0) (e.getD c jc) _ _ f (d.getD f 0) (e.getD f jc) _ _ L g (o c (by rw [a];simp)) (n c (by rw [a];simp)) (o f (by rw [a];simp)) (n f (by rw [a];simp)) (m c (by rw [a];simp)) (by have:=l c (by rw [a];simp);omega) (m f (by rw [a];simp)) (by have:=l f (by rw [a];simp);omega) (eF A d k) _ (u _) (u _) w b3 p
   ·subst hxo
    obtain ⟨c,f,a⟩:=pg (show (A.getD k []).length=2 by rw [r];rfl)
    rw [a] at g
    have D:fU ck H e A q d k ⟨14,C,B,z,v⟩=eF A d k:=by
     unfold fU
     dsimp only
     rw [if_pos (by decide)]
    rw [D]
    exact al2 N e I A q G d E i k J s K M _ t ⟨14,C,B,z,v⟩ _ c (d.getD c 0) (e.getD c jc) _ _ f (d.getD f 0) (e.getD f jc) _ _ L g (o c (by rw [a];simp)) (n c (by rw [a];simp)) (o f (by rw [a];simp)) (n f (by rw [a];simp)) (m c (by rw [a];simp)) (by have:=l c (by rw [a];simp);omega) (m f (by rw [a];simp)) (by have:=l f (by rw [a];simp);omega) (eF A d k) _ (u _) (u _) w b3 p
   ·subst hxo
    obtain ⟨c,f,O,a⟩:=aaT (show (A.getD k []).length=3 by rw [r];rfl)
    rw [a] at g
    have D:fU ck H e A q d k ⟨15,C,B,z,v⟩=cond (((d.getD c 0:Nat):Int)==((0:Nat):Int)) (d_ (d.getD f 0) (d.getD O 0)) 3:=by
     unfold fU
     dsimp only
     rw [if_neg (by decide)]
     rw [if_neg (by decide)]
     rw [if_neg (by decide)]
     rw [if_neg (by decide)]
     rw [if_pos (by decide)]
     unfold H9
     rw [show eU A d k 0=d.getD c 0 by unfold eU;rw [a];rfl,show eU A d k 1=d.getD f 0 by unfold eU;rw [a];rfl,show eU A d k 2=d.getD O 0 by unfold eU;rw [a];rfl]
    rw [D]
    exact al3 N e I A q G d E i k J s K M _ t ⟨15,C,B,z,v⟩ _ c (d.getD c 0) (e.getD c jc) _ _ f (d.getD f 0) (e.getD f jc) _ _ O (d.getD O 0) (e.getD O jc) _ _ L g (o c (by rw [a];simp)) (n c (by rw [a];simp)) (o f (by rw [a];simp)) (n f (by rw [a];simp)) (o O (by rw [a];simp)) (n O (by rw [a];simp)) (m c (by rw [a];simp)) (by have:=l c (by rw [a];simp);omega) (m f (by rw [a];simp)) (by have:=l f (by rw [a];simp);omega) (m O (by rw [a];simp)) (by have:=l O (by rw [a];simp);omega) (eF A d k) _ (u _) (u _) w b3 p
   ·subst hxo
    obtain ⟨c,f,a⟩:=pg (show (A.getD k []).length=2 by rw [r];rfl)
    rw [a] at g
    have D:fU ck H e A q d k ⟨16,C,B,z,v⟩=3:=by
     unfold fU
     dsimp only
     rw [if_neg (by decide)]
     rw [if_neg (by decide)]
     rw [if_neg (by decide)]
     rw [if_neg (by decide)]
     rw [if_neg (by decide)]
     rw [if_neg (by decide)]
    rw [D]
    exact al4 N e I A q G d E i k J s K M _ t ⟨16,C,B,z,v⟩ _ c (d.getD c 0) (e.getD c jc) _ _ f (d.getD f 0) (e.getD f jc) _ _ L g (o c (by rw [a];simp)) (n c (by rw [a];simp)) (o f (by rw [a];simp)) (n f (by rw [a];simp)) (m c (by rw [a];simp)) (by have:=l c (by rw [a];simp);omega) (m f (by rw [a];simp)) (by have:=l f (by rw [a];simp);omega) (eF A d k) _ (u _) (u _) w b3 p
   ·subst hxo
    obtain ⟨c,f,a⟩:=pg (show (A.getD k []).length=2 by rw [r];rfl)
    rw [a] at g
    have D:fU ck H e A q d k ⟨17,C,B,z,v⟩=3:=by
     unfold fU
     dsimp only
     rw [if_neg (by decide)]
     rw [if_neg (by decide)]
     rw [if_neg (by decide)]
     rw [if_neg (by decide)]
     rw [if_neg (by decide)]
     rw [if_neg (by decide)]
    rw [D]
    exact al5 N e I A q G d E i k J s K M _ t ⟨17,C,B,z,v⟩ _ c (d.getD c 0) (e.getD c jc) _ _ f (d.getD f 0) (e.getD f jc) _ _ L g (o c (by rw [a];simp)) (n c (by rw [a];simp)) (o f (by rw [a];simp)) (n f (by rw [a];simp)) (m c (by rw [a];simp)) (by have:=l c (by rw [a];simp);omega) (m f (by rw [a];simp)) (by have:=l f (by rw [a];simp);omega) (eF A d k) _ (u _) (u _) w b3 p
   ·subst hxo
    obtain ⟨c,f,a⟩:=pg (show (A.getD k []).length=2 by rw [r];rfl)
    rw [a] at g
    have D:fU ck H e A q d k ⟨18,C,B,z,v⟩=3:=by
     unfold fU
     dsimp only
     rw [if_neg (by decide)]
     rw [if_neg (by decide)]
     rw [if_neg (by decide)]
     rw [if_neg (by decide)]
     rw [if_neg (by decide)]
     rw [if_neg (by decide)]
    rw [D]
    exact al6 N e I A q G d E i k J s K M _ t ⟨18,C,B,z,v⟩ _ c (d.getD c 0) (e.getD c jc) _ _ f (d.getD f 0) (e.getD f jc) _ _ L g (o c (by rw [a];simp)) (n c (by rw [a];simp)) (o f (by rw [a];simp)) (n f (by rw [a];simp)) (m c (by rw [a];simp)) (by have:=l c (by rw [a];simp);omega) (m f (by rw [a];simp)) (by have:=l f (by rw [a];simp);omega) (eF A d k) _ (u _) (u _) w b3 p
   ·subst hxo
    obtain ⟨c,f,a⟩:=pg (show (A.getD k []).length=2 by rw [r];rfl)
    rw [a] at g
    have D:fU ck H e A q d k ⟨19,C,B,z,v⟩=3:=by
     unfold fU
     dsimp only
     rw [if_neg (by decide)]
     rw [if_neg (by decide)]
     rw [if_neg (by decide)]
     rw [if_neg (by decide)]
     rw [if_neg (by decide)]
     rw [if_neg (by decide)]
    rw [D]
    exact al7 N e I A q G d E i k J s K M _ t ⟨19,C,B,z,v⟩ _ c (d.getD c 0) (e.getD c jc) _ _ f (d.getD f 0) (e.getD f jc) _ _ L g (o c (by rw [a];simp)) (n c (by rw [a];simp)) (o f (by rw [a];simp)) (n f (by rw [a];simp)) (m c (by rw [a];simp)) (by have:=l c (by rw [a];simp);omega) (m f (by rw [a];simp)) (by have:=l f (by rw [a];simp);omega) (eF A d k) _ (u _) (u _) w b3 p
   ·subst hxo
    obtain ⟨c,a⟩:=BX (show (A.getD k []).length=1 by rw [r];rfl)
    rw [a] at g
    have D:fU ck H e A q d k ⟨20,C,B,z,v⟩=3:=by
     unfold fU
     dsimp only
     rw [if_neg (by decide)]
     rw [if_neg (by decide)]
     rw [if_neg (by decide)]
     rw [if_neg (by decide)]
     rw [if_neg (by decide)]
     rw [if_neg (by decide)]
    rw [D]
    exact al8 N e I A q G d E i k J s K M _ t ⟨20,C,B,z,v⟩ _ c (d.getD c 0) (e.getD c jc) _ _ L g (o c (by rw [a];simp)) (n c (by rw [a];simp)) (m c (by rw [a];simp)) (by have:=l c (by rw [a];simp);omega) (eF A d k) _ (u _) (u _) w b3 p
   ·subst hxo
    obtain ⟨c,a⟩:=BX (show (A.getD k []).length=1 by rw [r];rfl)
    rw [a] at g
    have D:fU ck H e A q d k ⟨21,C,B,z,v⟩=eF A d k:=by
     unfold fU
     dsimp only
     rw [if_pos (by decide)]
    rw [D]
    exact al9 N e I A q G d E i k J s K M _ t ⟨21,C,B,z,v⟩ _ c (d.getD c 0) (e.getD c jc) _ _ L g (o c (by rw [a];simp)) (n c (by rw [a];simp)) (m c (by rw [a];simp)) (by have:=l c (by rw [a];simp);omega) (eF A d k) _ (u _) (u _) w b3 p
   ·subst hxo
    obtain ⟨c,a⟩:=BX (show (A.getD k []).length=1 by rw [r];rfl)
    rw [a] at g
    have D:fU ck H e A q d k ⟨22,C,B,z,v⟩=eF A d k:=by
     unfold fU
     dsimp only
     rw [if_pos (by decide)]
    rw [D]
    exact al_ N e I A q G d E i k J s K M _ t ⟨22,C,B,z,v⟩ _ c (d.getD c 0) (e.getD c jc) _ _ L g (o c (by rw [a];simp)) (n c (by rw [a];simp)) (m c (by rw [a];simp)) (by have:=l c (by rw [a];simp);omega) (eF A d k) _ (u _) (u _) w b3 p
   ·subst hxo
    obtain ⟨c,a⟩:=BX (show (A.getD k []).length=1 by rw [r];rfl)
    rw [a] at g
    have D:fU ck H e A q d k ⟨23,C,B,z,v⟩=eF A d k:=by
     unfold fU
     dsimp only
     rw [if_pos (by decide)]
    rw [D]
    exact ama N e I A q G d E i k J s K M _ t ⟨23,C,B,z,v⟩ _ c (d.getD c 0) (e.getD c jc) _ _ L g (o c (by rw [a];simp)) (n c (by rw [a];simp)) (m c (by rw [a];simp)) (by have:=l c (by rw [a];simp);omega) (eF A d k) _ (u _) (u _) w b3 p
   ·subst hxo
    obtain ⟨c,a⟩:=BX (show (A.getD k []).length=1 by rw [r];rfl)
    rw [a] at g
    have D:fU ck H e A q d k ⟨24,C,B,z,v⟩=cond ((yw ck H v q).getD false) (eF A d k) 3:=by
     unfold fU
     dsimp only
     rw [if_neg (by decide)]
     rw [if_neg (by decide)]
     rw [if_neg (by decide)]
     rw [if_neg (by decide)]
     rw [if_neg (by decide)]
     rw [if_pos (by decide)]
     unfold GM
     rw [show eU A d k 0=d.getD c 0 by unfold eU;rw [a];rfl,Ee]
     have U:eF A d k=d.getD c 0:=by unfold eF;rw [a];show d_ 0 _=_;rfl
     rw [U]
     cases q.find? (fun x=>x.name==v) with
     |none=>rfl
     |some y=>show cond (ck y==0) (cond (H y) _ 3) 3=cond (ck y==0 && H y) _ 3;cases (ck y==0)<;>rfl
    rw [D]
    exact amb N e I A q G d E i k J s K M _ t ⟨24,C,B,z,v⟩ _ c (d.getD c 0) (e.getD c jc) _ _ L g (o c (by rw [a];simp)) (n c (by rw [a];simp)) (m c (by rw [a];simp)) (by have:=l c (by rw [a];simp);omega) (eF A d k) _ (u _) (u _) w b3 p
theorem FD {S:aW}:∀ (A:List (List Nat)) {vs:List Value},dK S (iQ A) vs→dK S (bC A) vs
 | [],[],_=>by simp only [bC,List.map_nil,dK]
 | [],_::_,h=>by simp [iQ,dK] at h
 |a::r,[],h=>by simp [iQ,dK] at h
 | a::r,v::vs,h=>by
  simp only [iQ,List.map_cons,dK] at h
  simp only [bC,List.map_cons,dK]
  refine ⟨?_,FD r h.2⟩
  have d:=h.1
  cases a with
  |nil=>simp only [Jw,PR] at d;subst d;simp only [yL,PR];exact ⟨none,0,rfl,Nat.le_refl _,.inl (by simp [ai])⟩
  |cons b l=>
   simp only [Jw,PR] at d
   obtain ⟨p,f,e,g,c⟩:=d
   simp only [yL,PR]
   refine ⟨p,f,e,g,.inr ?_⟩
   rcases c with ⟨_,c,_⟩|c
   ·cases c
   ·exact c
theorem wG (A:List (List Nat)):aZ (.sl (iQ A) A.length true) (.sl (bC A) A.length true):=by
 intro g m S v f
 simp only [VR,PR] at f ⊢
 obtain ⟨p,d,e,j,a⟩:=f
 refine ⟨p,d,e,j, ?_⟩
 rcases a with ⟨_,a,_⟩|⟨b,c,vs,h,i,k⟩
 ·cases a
 ·exact .inr ⟨b,c,vs,h,FD A i,k⟩
theorem GL (l:List Nd) (b:Bool) (a:∀ x ∈ l,x.sm) (c:dG l=0):CO 40 [.sl (aI l) l.length b] (.ret (.tup [.sl (iQ (bQ l)) (bQ l).length true,.bool true])):=by
 rw [(m_ c).1];exact Ve l b a c
theorem acO (e:List Nd) (b:Bool) (A:List (List Nat)) (c:List Sc) (g:Bool) (h:List Nat) (f:Int) (a:List UInt8) (d:CO 40 [.sl (aI e) e.length b] (.ret (.tup [.nilS,.bool false]))):CO 15 [.sl (aI e) e.length b,.sl (eX c) c.length g,.int .i64 f,.str a] (.ret (.int .i64 ((3:Nat):Int))):=pK [] 3 7 (.n 3 .nil) (.c d .nil)
theorem YT (e:List Nd) (c:Bool) (A:List (List Nat)) (f:List Sc) (g:Bool) (i:List Nat) (b:Int) (a:List UInt8) (d:CO 40 [.sl (aI e) e.length c] (.ret (.tup [.sl (iQ A) A.length true,.bool true]))) (j:b<5∨8<b):CO 15 [.sl (aI e) e.length c,.sl (eX f) f.length g,.int .i64 b,.str a] (.ret (.int .i64 ((3:Nat):Int))):=by
 rcases tf (decide (b<((5:Nat):Int))) with b0|b0
 ·exact pK [] 3 6 (.k 1 (aC b0) (.n 1 .nil)) (.v 21 (wG A) (.c d .nil))
 ·have h:(decide (((8:Nat):Int)<b))=true:=decide_eq_true (by have:=of_decide_eq_false b0;omega)
  exact pK [] 3 4 (.c (aC h) (.c (aB b0) (.n 1 .nil))) (.v 21 (wG A) (.c d .nil))
theorem acP (e:List Nd) (g:Bool) (A:List (List Nat)) (h:List Sc) (k:Bool) (f:List Nat) (c:Int) (a:List UInt8) (d s:Nat) (m:List AV) (l:CO 40 [.sl (aI e) e.length g] (.ret (.tup [.sl (iQ A) A.length true,.bool true]))) (o:(decide (c<((5:Nat):Int)))=false) (n:(decide (((8:Nat):Int)<c))=false) (i:e.length=d+1) (b:e.length<2^40) (j:d<f.length) (hs:(List.drop ((0+(Int.toNat (d:Int)))*1) (ai f))= [AV.int .i64 (s:Int)]++m)
  (m0:Nat) (Z:List AV) (hm0:m0=Int.toNat (e.length:Int)) (hZ:Z=iU (Int.toNat (e.length:Int)) [.int .i64 0])
  (l0:aH prog ap [] 282 (.block 0 (.loop (ae 0 (af f15)))) ⟨[(0,.sl (aI e) e.length g),(1,.sl (eX h) h.length k),(2,.int .i64 c),(3,.str a),(8,.int .i64 0),(9,.sl (bC A) A.length true),(10,.bool true),(11,.ref 0 0 0 m0),(12,.int .i64 0),(13,.dead),(14,.dead),(15,.dead),(16,.dead),(17,.dead),(32,.bool (decide (((8:Nat):Int)<c))),(39,.dead),(55,.dead),(65,.dead),(81,.dead),(111,.dead),(118,.dead),(147,.dead),(176,.dead),(216,.dead),(245,.dead),(271,.dead)],[(0,⟨Z,0,false,0,1,true⟩)],.dead,[]⟩ (.normal) ⟨[(0,.sl (aI e) e.length g),(11,.ref 0 0 0 f.length)],[(0,⟨(ai f),0,false,0,1,true⟩)],.dead,[]⟩):CO 15 [.sl (aI e) e.length g,.sl (eX h) h.length k,.int .i64 c,.str a] (.ret (.int .i64 (s:Int))):=by
 subst hm0 hZ
 exact pK [0] 3 0 (.a (gZ [.int .i64] hs rfl) (.c (aQ d) (.c (bK j) (.c (aQ e.length) (.c (deq e.length) (.c (dle b) (.c (aB n) (.c (aB o) (.n 1 .nil))))))))) (.v 281 (.rd1 (.int .i64) hs rfl) (.v 279 (.eq (wkn i b)) (.l l0 (.v 21 (wG A) (.c l .nil)))))
theorem Rh {ck:Sc→Int} {j:Sc→Bool} {e:List Nd} {m:List Sc} {b:Int} {a:List UInt8} {d:List Nat} {k:Nat} {x:Nd} (i:dG e=0) (l:e[k]? =some x) (p:5≤b∧b≤8) (c:fF x.op=true):yD ck j e (bQ e) m b a d k x=0:=by
 have f:x.op=1∨x.op=2∨x.op=3:=by
  unfold fF at c
  simp only [Bool.or_eq_true,beq_iff_eq] at c
  exact c
 have o:eF (bQ e) d k=0:=by
  have n:=((m_ i).2 k x l).1
  have g:(bQ e).getD k []= []:=List.length_eq_zero_iff.1 (by rw [n];rcases f with h|h|h<;>rw [h]<;>rfl)
  unfold eF;rw [g];rfl
 unfold yD
 rw [show (x.op==b)=false from beq_eq_false_iff_ne.2 (by omega),o]
 rfl
theorem YQ {nt:Nat} (w:282≤nt) (e:List Nd) (i:Bool) (d:List Sc) (q:Bool) (ck:Sc→Int) (g:Sc→Bool) (f:Int) (a:List UInt8) (o:∀ y ∈ e,y.sm) (v:dG e=0) (B:5≤f∧f≤8) (t:e.length<2^40) (s:d.length<2^40) (C:∀ x ∈ d,CO 71 [.agg (xf x)] (.ret (.int .i64 (ck x)))∧(ck x=0→CO 72 [.agg (xf x)] (.ret (.bool (g x))))):∀ (r p:List Nd) (b:List Nat),p++r=e→b.length=e.length→(∀ j,p.length≤j→b.getD j 0=0)→(∀ j,j<p.length→fF (e.getD j jc).op=true→b.getD j 0=0)→
  aF prog ap [] nt (ae 0 (af f15)) (fun _=> .exit 0) (eH e i (bQ e) d q f a) (Vu e i) (p.length,b) (sJ ck g e (bQ e) d f a r p.length b):=by
 intro r
 induction r with
 |nil=>
  intro p b hp k _ _
  rw [List.append_nil] at hp
  rw [hp]
  exact .done (acK w e i (bQ e) d q b f a)
 | cons x r ih=>
  intro p b hp k u c
  have l:e[p.length]? =some x:=by rw [← hp];simp
  have z:e.getD p.length jc=x:=by rw [List.getD_eq_getElem?_getD,l];rfl
  have A:p.length<b.length:=by rw [k,← hp];simp
  have h:=ih (p++ [x]) (b.set p.length (yD ck g e (bQ e) d f a b p.length x)) (by rw [← hp];simp) (by rw [List.length_set];exact k)
   (by intro j n;rw [List.length_append,List.length_singleton] at n;rw [tZ (by omega)];exact u j (by omega))
   (by
    intro j n m
    rw [List.length_append,List.length_singleton] at n
    by_cases e1:j=p.length
    ·subst e1
     rw [z] at m
     rw [qV (by rw [List.length_set];exact A),List.getElem_set_self,Rh v l B m]
    ·rw [tZ e1];exact c j (by omega) m)
  rw [List.length_append,List.length_singleton] at h
  exact .next (YR w e i d q b ck g f a p.length x o v l t k s (u _ (Nat.le_refl _)) c C) h
theorem Q3 (e:List Nd) (d:Bool) (b:List Sc) (k:Bool) (ck:Sc→Int) (g:Sc→Bool) (c:Int) (a:List UInt8) (f:∀ y ∈ e,y.sm) (m:e.length<2^40) (p:b.length<2^40) (t:∀ x ∈ b,CO 71 [.agg (xf x)] (.ret (.int .i64 (ck x)))∧(ck x=0→CO 72 [.agg (xf x)] (.ret (.bool (g x))))) (q:dG e ≠ 0→CO 40 [.sl (aI e) e.length d] (.ret (.tup [.nilS,.bool false]))):
  CO 15 [.sl (aI e) e.length d,.sl (eX b) b.length k,.int .i64 c,.str a] (.ret (.int .i64 ((jD ck g e b c a:Nat):Int))):=by
 unfold jD
 by_cases hq:dG e=0
 ·by_cases ho:5≤c∧c≤8
  ·rw [if_pos ⟨hq,ho⟩]
   have h0:e ≠ []:=by intro h;rw [h] at hq;exact absurd hq (by decide)
   obtain ⟨i,o⟩:∃ i,e.length=i+1:=⟨e.length - 1,by have:=List.length_pos_iff.2 h0;omega⟩
   have r:(sJ ck g e (bQ e) b c a e 0 (List.replicate e.length 0)).length=e.length:=by rw [zt,List.length_replicate]
   have n:∀ j,(List.replicate e.length 0).getD j 0=0:=by intro j;rw [List.getD_eq_getElem?_getD,List.getElem?_replicate];split<;>rfl
   have h:∀ nt,282≤nt→aF prog ap [] nt (ae 0 (af f15)) (fun _=> .exit 0) (eH e d (bQ e) b k c a) (Vu e d) (0,List.replicate e.length 0) (sJ ck g e (bQ e) b c a e 0 (List.replicate e.length 0)):=fun nt v=>YQ v e d b k ck g c a f hq ho m p t e [] _ rfl (List.length_replicate ..) (fun j _=>n j) (fun j u=>by simp at u)
   generalize sJ ck g e (bQ e) b c a e 0 (List.replicate e.length 0)=ss at*
   rw [show e.length - 1=i by omega]
   have l:i<ss.length:=by omega
   refine acP e d (bQ e) b k ss c a i (ss.getD i 0) _ (GL e d f hq) (decide_eq_false (by omega)) (decide_eq_false (by omega)) o m l (by rw [Nat.zero_add];exact kE l) (List.replicate e.length 0).length (ai (List.replicate e.length 0)) (by rw [List.length_replicate,aA]) (by rw [aA,Bd]) ?_
   have s:(decide (((8:Nat):Int)<c))=false:=decide_eq_false (by omega)
   rw [s]
   exact aF.blk h (by simp) rfl (aK.of ⟨rfl,rfl,rfl,rfl,rfl,rfl,rfl,trivial⟩) (aK.of ⟨rfl,rfl,trivial⟩)
  ·rw [if_neg (fun h=>ho h.2)]
   exact YT e d (bQ e) b k [] c a (GL e d f hq) (by omega)
 ·rw [if_neg (fun h=>hq h.1)]
  exact acO e d [] b k [] c a (q hq)
structure Br where
 fn:Bool
 fa:List UInt8
 fd:List UInt8
 rn:Bool
 ra:List UInt8
 rd:List UInt8
def FT (x:Br):List AV:= [.bool x.fn,.str x.fa,.str x.fd,.bool x.rn,.str x.ra,.str x.rd]
def eG (l:List Br):List AV:=l.flatMap FT
def Br.sm (x:Br):Prop:=(x.fa.length<2^33∧x.fd.length<2^33)∧(x.ra.length<2^33∧x.rd.length<2^33)
abbrev LZ (x:Br):AV:= .agg [.bool x.fn,.str x.fa,.str x.fd]
abbrev brR (x:Br):AV:= .agg [.bool x.rn,.str x.ra,.str x.rd]
theorem kR {l:List Br} {k:Nat} (h:k<l.length):List.drop (Int.toNat (k:Int)*6) (eG l)=FT l[k]++eG (l.drop (k+1)):=by
 rw [aA]
 induction l generalizing k with
 |nil=>simp at h
 | cons x r ih=>
  cases k with
  |zero=>simp [eG]
  |succ k=>
   have a:k<r.length:=by simpa using h
   show List.drop ((k+1)*6) (FT x++eG r)=_
   rw [show (k+1)*6=(FT x).length+k*6 by simp [FT];omega,List.drop_append,Nat.add_sub_cancel_left,ih a,List.drop_of_length_le (by omega)]
   rfl
def FP (cmp:Br→Br→Int):Option Br→List Br→Bool
 |_,[]=>true
 |none,x::r=>cond (jm x.fn x.fa x.fd) (cond (jm x.rn x.ra x.rd) (cond (fV x.fn x.fa x.fd==((0:Nat):Int)) (FP cmp (some x) r) false) false) false
 |some y,x::r=>cond (jm x.fn x.fa x.fd) (cond (jm x.rn x.ra x.rd) (cond (decide (((0:Nat):Int)≤cmp y x)) false (FP cmp (some x) r)) false) false
def aef (nm:List UInt8) (u1 u2:Int) (l:List Br) (k:Nat):St:=⟨[(1,.ptr 0 0 0),(3,.sl (eG l) l.length false),(16,.sl (eG l) l.length false),(17,.int .i64 (l.length:Int)),(18,.int .i64 (k:Int))],[(0,⟨[.str nm,.int .i64 u1,.int .i64 u2,.sl (eG l) l.length false],0,false,0,0,true⟩)],.dead,[]⟩
def ZJ (l:List Br):Bool→St
 |true=> ⟨[(3,.sl (eG l) l.length false)],[],.dead,[]⟩
 |false=> ⟨[(2,.int .i64 11)],[],.dead,[]⟩
def bkE:Bool→bM
 |true=> .exit 1
 |false=> .ret
def rY (f:Nat) (cmp:Br→Br→Int) (l:List Br):Prop:=∀ i y x,l[i]? =some y→l[i+1]? =some x→jm x.fn x.fa x.fd=true→jm x.rn x.ra x.rd=true→CO f [LZ y,LZ x] (.ret (.int .i64 (cmp y x)))
theorem WV {nt:Nat} (e:60≤nt) (F:List UInt8) (u1 u2:Int) (l:List Br) (cmp:Br→Br→Int) (C:l.length<2^40) (A:∀ x ∈ l,x.sm) (H:rY 129 cmp l):∀ (r p:List Br),p++r=l→
  aF prog ap [] nt (ae 1 (af f102)) bkE (aef F u1 u2 l) (ZJ l) p.length (FP cmp p.getLast? r):=by
 intro r
 induction r with
 |nil=>
  intro p hp
  rw [List.append_nil] at hp
  subst hp
  have h0:(decide ((p.length:Int)<(p.length:Int)))=false:=decide_eq_false (by omega)
  rw [show FP cmp p.getLast? []=true by cases p.getLast? <;>rfl]
  exact .done (pN 102 [] 1 0 (.c (aB h0) .nil) (.nil) e)
 | cons x r ih=>
  intro p hp
  have E:p.length<l.length:=by rw [← hp];simp
  have o:l[p.length]=x:=by subst hp;simp
  have d:=kR E
  rw [o] at d
  have f:=ih (p++ [x]) (by rw [← hp];simp)
  rw [List.getLast?_append,List.getLast?_singleton,List.length_append,List.length_singleton] at f
  simp only [Option.some_or] at f
  have hs:=A x (by rw [← hp];simp)
  have a:CO 115 [LZ x] (.ret (.bool (jm x.fn x.fa x.fd))):=dH x.fn x.fa x.fd (Nat.lt_trans hs.1.1 (by decide)) (Nat.lt_trans hs.1.2 (by decide))
  have c:CO 115 [brR x] (.ret (.bool (jm x.rn x.ra x.rd))):=dH x.rn x.ra x.rd (Nat.lt_trans hs.2.1 (by decide)) (Nat.lt_trans hs.2.2 (by decide))
  have D:CO 85 [LZ x] (.ret (.int .i64 (fV x.fn x.fa x.fd))):=fG x.fn x.fa x.fd (Nat.lt_trans hs.1.1 (by decide)) (Nat.lt_trans hs.1.2 (by decide))
  cases j:p.getLast? with
  | none=>
   have w:p= []:=List.getLast?_eq_none_iff.1 j
   subst w
   generalize G:([]:List Br).length=k at*
   have u:k=0:=by rw [← G];rfl
   generalize eG (l.drop (k+1))=rB at d
   have h0:(decide ((k:Int)<(l.length:Int)))=true:=decide_eq_true (by omega)
   have i:((k:Int)==((0:Nat):Int))=true:=by rw [u];rfl
   have t:(decide (((0:Nat):Int)<(k:Int)))=false:=decide_eq_false (by omega)
   have z:k<2^62:=by omega
   rcases tf (jm x.fn x.fa x.fd) with d0|d0
   ·rcases tf (jm x.rn x.ra x.rd) with d1|d1
    ·rcases tf ((fV x.fn x.fa x.fd)==((0:Nat):Int)) with d2|d2
     ·simp only [FP,d0,d1,d2,cond_true,cond_false]
      exact .next (pN 102 [] 7 9 (.k 1 (aB t) (.c (aS d2) (.k 3 (aC i) (.c (aS d1) (.k 3 (aS d0) (.k 10 (aQ k) (.c h0 (.c (aC h0) .nil)))))))) (.v 57 (.eq (iZ z)) (.c D (.c c (.c a (.v 21 (.ppt d) .nil))))) e) f
     ·simp only [FP,d0,d1,d2,cond_true,cond_false]
      exact .done (pN 102 [] 6 57 (.k 1 (dJ d2) (.k 3 (aC i) (.c (aS d1) (.k 3 (aS d0) (.k 10 (aQ k) (.c h0 (.c (aC h0) .nil))))))) (.c D (.c c (.c a (.v 21 (.ppt d) .nil)))) e)
    ·simp only [FP,d0,d1,cond_true,cond_false]
     exact .done (pN 102 [] 3 5 (.c (dJ d1) (.k 3 (aS d0) (.k 10 (aQ k) (.c h0 (.c (aC h0) .nil))))) (.c c (.c a (.v 21 (.ppt d) .nil))) e)
   ·simp only [FP,d0,cond_true,cond_false]
    exact .done (pN 102 [] 3 7 (.k 1 (dJ d0) (.k 10 (aQ k) (.c h0 (.c (aC h0) .nil)))) (.c a (.v 21 (.ppt d) .nil)) e)
  | some y=>
   obtain ⟨q,v⟩:∃ q,p=q++ [y]:=by
    obtain ⟨q,h⟩:=List.getLast?_eq_some_iff.1 j
    exact ⟨q,h⟩
   have g:p.length=q.length+1:=by rw [v];simp
   have b:q.length<l.length:=by omega
   have s:=kR b
   have m:l[q.length]=y:=by subst hp v;simp
   rw [m] at s
   have B:=H q.length y x (by rw [List.getElem?_eq_getElem b,m]) (by rw [← g,List.getElem?_eq_getElem E,o])
   clear v
   generalize p.length=k at*
   generalize q.length=k1 at*
   generalize eG (l.drop (k+1))=rB at d
   generalize eG (l.drop (k1+1))=rC at s
   have h0:(decide ((k:Int)<(l.length:Int)))=true:=decide_eq_true (by omega)
   have i:((k:Int)==((0:Nat):Int))=false:=beq_eq_false_iff_ne.2 (by omega)
   have t:(decide (((0:Nat):Int)<(k:Int)))=true:=decide_eq_true (by omega)
   have z:k<2^62:=by omega
   have n:k<2^40:=by omega
   rcases tf (jm x.fn x.fa x.fd) with d0|d0
   ·rcases tf (jm x.rn x.ra x.rd) with d1|d1
    ·rcases tf (decide (((0:Nat):Int)≤(cmp y x))) with d2|d2
     ·simp only [FP,d0,d1,d2,cond_true,cond_false]
      exact .done (pN 102 [] 7 97 (.c (aC d2) (.k 6 (aQ k1) (.c (bK b) (.c (aC t) (.k 1 (aB i) (.c (aS d1) (.k 3 (aS d0) (.k 10 (aQ k) (.c h0 (.c (aC h0) .nil)))))))))) (.c (B d0 d1) (.v 48 (.ppt s) (.v 47 (.eq (wkn g n)) (.c c (.c a (.v 21 (.ppt d) .nil)))))) e)
     ·simp only [FP,d0,d1,d2,cond_true,cond_false]
      exact .next (pN 102 [] 7 33 (.c (aB d2) (.k 6 (aQ k1) (.c (bK b) (.c (aC t) (.k 1 (aB i) (.c (aS d1) (.k 3 (aS d0) (.k 10 (aQ k) (.c h0 (.c (aC h0) .nil)))))))))) (.v 57 (.eq (iZ z)) (.c (B d0 d1) (.v 48 (.ppt s) (.v 47 (.eq (wkn g n)) (.c c (.c a (.v 21 (.ppt d) .nil))))))) e) f
    ·simp only [FP,d0,d1,cond_true,cond_false]
     exact .done (pN 102 [] 3 5 (.c (dJ d1) (.k 3 (aS d0) (.k 10 (aQ k) (.c h0 (.c (aC h0) .nil))))) (.c c (.c a (.v 21 (.ppt d) .nil))) e)
   ·simp only [FP,d0,cond_true,cond_false]
    exact .done (pN 102 [] 3 7 (.k 1 (dJ d0) (.k 10 (aQ k) (.c h0 (.c (aC h0) .nil)))) (.c a (.v 21 (.ppt d) .nil)) e)
def wO (P:Br→Bool):List Br→Nat→Option Nat
 | [],_=>none
 |x::r,i=>if P x then some i else wO P r (i+1)
theorem C_ (P:Br→Bool):∀ (r:List Br) (i:Nat),(wO P r i).isSome=r.any P
 | [],_=>rfl
 |x::r,i=>by
  unfold wO
  rw [List.any_cons]
  rcases tf (P x) with h|h
  ·rw [if_pos h,h];rfl
  ·rw [if_neg (by rw [h];decide),h,Bool.false_or];exact C_ P r (i+1)
def ZZ (l:List Br) (k:Nat):St:=⟨[(0,.sl (eG l) l.length false),(1,.fn 131 [] []),(7,.int .i64 (l.length:Int)),(8,.int .i64 (k:Int))],[],.dead,[]⟩
def Uh (l:List Br):Option Nat→St
 |none=> ⟨[(0,.sl (eG l) l.length false)],[],.dead,[]⟩
 |some i=> ⟨[(4,.int .i64 (i:Int))],[],.dead,[]⟩
theorem Uj {nt:Nat} (d:19≤nt) (l:List Br) (P:Br→Bool) (f:l.length<2^40) (h:∀ x ∈ l,CO 131 [.agg (FT x)] (.ret (.bool (P x)))):∀ (r p:List Br),p++r=l→
  aF prog ap [] nt (ae 0 (af f159)) Sv (ZZ l) (Uh l) p.length (wO P r p.length):=by
 intro r
 induction r with
 |nil=>
  intro p hp
  rw [List.append_nil] at hp
  subst hp
  have h0:(decide ((p.length:Int)<(p.length:Int)))=false:=decide_eq_false (by omega)
  exact .done (pN 159 [] 1 0 (.c (aB h0) .nil) (.nil) d)
 | cons x r ih=>
  intro p hp
  have g:p.length<l.length:=by rw [← hp];simp
  have c:l[p.length]=x:=by subst hp;simp
  have b:=kR g
  rw [c] at b
  have a:=ih (p++ [x]) (by rw [← hp];simp)
  rw [List.length_append,List.length_singleton] at a
  have e:=h x (by rw [← hp];simp)
  unfold wO
  generalize p.length=k at*
  generalize eG (l.drop (k+1))=rB at b
  have h0:(decide ((k:Int)<(l.length:Int)))=true:=decide_eq_true (by omega)
  have i:k<2^62:=by omega
  rcases tf (P x) with d0|d0
  ·rw [if_pos d0]
   exact .done (pN 159 [] 2 3 (.c (aC d0) (.k 6 (aQ k) (.c h0 (.c (aC h0) .nil)))) (.c e (.v 14 (.ppt b) .nil)) d)
  ·rw [if_neg (by rw [d0];decide)]
   exact .next (pN 159 [] 2 1 (.c (aB d0) (.k 6 (aQ k) (.c h0 (.c (aC h0) .nil)))) (.v 18 (.eq (iZ i)) (.c e (.v 14 (.ppt b) .nil))) d) a
theorem abp (l:List Br) (i:Nat) (a:aH prog ap [] 19 (.block 0 (.loop (ae 0 (af f159)))) ⟨[(0,.sl (eG l) l.length false),(1,.fn 131 [] []),(4,.int .i64 0),(5,.dead),(7,.int .i64 (l.length:Int)),(8,.int .i64 0),(9,.dead),(16,.dead)],[],.dead,[]⟩ (.ret) ⟨[(4,.int .i64 (i:Int))],[],.dead,[]⟩):CO 159 [.sl (eG l) l.length false,.fn 131 [] []] (.ret (.int .i64 (i:Int))):=pK [0] 0 0 .nil (.l a .nil)
theorem abn (l:List Br) (a:aH prog ap [] 19 (.block 0 (.loop (ae 0 (af f159)))) ⟨[(0,.sl (eG l) l.length false),(1,.fn 131 [] []),(4,.int .i64 0),(5,.dead),(7,.int .i64 (l.length:Int)),(8,.int .i64 0),(9,.dead),(16,.dead)],[],.dead,[]⟩ (.normal) ⟨[(0,.sl (eG l) l.length false)],[],.dead,[]⟩):CO 159 [.sl (eG l) l.length false,.fn 131 [] []] (.ret (.int .i64 (-1))):=pK [0] 0 0 .nil (.l a .nil)
theorem abl (l:List Br) (P:Br→Bool) (a:l.length<2^40) (d:∀ x ∈ l,CO 131 [.agg (FT x)] (.ret (.bool (P x)))):CO 159 [.sl (eG l) l.length false,.fn 131 [] []] (.ret (.int .i64 (ixI (wO P l 0)))):=by
 have h:∀ nt,19≤nt→aF prog ap [] nt (ae 0 (af f159)) Sv (ZZ l) (Uh l) 0 (wO P l 0):=fun nt c=>Uj c l P a d l [] rfl
 cases b:wO P l 0 with
 |none=>
  rw [b] at h
  exact abn l (aF.blk h (by simp [Sv]) rfl (aK.of ⟨rfl,rfl,rfl,rfl,trivial⟩) (aK.of ⟨rfl,trivial⟩))
 |some i=>
  rw [b] at h
  exact abp l i (aF.blk h (by simp [Sv]) rfl (aK.of ⟨rfl,rfl,rfl,rfl,trivial⟩) (aK.of ⟨rfl,trivial⟩))
theorem W_ (l:List Br) (a:Int) (b:CO 159 [.sl (eG l) l.length false,.fn 131 [] []] (.ret (.int .i64 a))):CO 130 [.sl (eG l) l.length false,.fn 131 [] []] (.ret (.bool (decide (((0:Nat):Int)≤a)))):=pK [] 0 0 .nil (.c b .nil)
theorem TF (l:List Br) (P:Br→Bool) (a:l.length<2^40) (c:∀ x ∈ l,CO 131 [.agg (FT x)] (.ret (.bool (P x)))):CO 130 [.sl (eG l) l.length false,.fn 131 [] []] (.ret (.bool (l.any P))):=by
 have h:=W_ l _ (abl l P a c)
 rw [← C_ P l 0]
 cases b:wO P l 0 with
 |none=>rw [b] at h;exact h
 |some i=>
  rw [b] at h
  rw [show (some i).isSome=decide (((0:Nat):Int)≤ixI (some i)) from (decide_eq_true (show ((0:Nat):Int)≤(i:Int) by omega)).symm]
  exact h
def Z4 (l:List Br) (k:Nat):St:=⟨[(0,.sl (eG l) l.length false),(1,.fn 160 [] []),(7,.int .i64 (l.length:Int)),(8,.int .i64 (k:Int))],[],.dead,[]⟩
def Ui (l:List Br):Option Nat→St
 |none=> ⟨[(0,.sl (eG l) l.length false)],[],.dead,[]⟩
 |some i=> ⟨[(4,.int .i64 (i:Int))],[],.dead,[]⟩
theorem Uk {nt:Nat} (d:19≤nt) (l:List Br) (P:Br→Bool) (f:l.length<2^40) (h:∀ x ∈ l,CO 160 [.agg (FT x)] (.ret (.bool (P x)))):∀ (r p:List Br),p++r=l→
  aF prog ap [] nt (ae 0 (af f159)) Sv (Z4 l) (Ui l) p.length (wO P r p.length):=by
 intro r
 induction r with
 |nil=>
  intro p hp
  rw [List.append_nil] at hp
  subst hp
  have h0:(decide ((p.length:Int)<(p.length:Int)))=false:=decide_eq_false (by omega)
  exact .done (pN 159 [] 1 0 (.c (aB h0) .nil) (.nil) d)
 | cons x r ih=>
  intro p hp
  have g:p.length<l.length:=by rw [← hp];simp
  have c:l[p.length]=x:=by subst hp;simp
  have b:=kR g
  rw [c] at b
  have a:=ih (p++ [x]) (by rw [← hp];simp)
  rw [List.length_append,List.length_singleton] at a
  have e:=h x (by rw [← hp];simp)
  unfold wO
  generalize p.length=k at*
  generalize eG (l.drop (k+1))=rB at b
  have h0:(decide ((k:Int)<(l.length:Int)))=true:=decide_eq_true (by omega)
  have i:k<2^62:=by omega
  rcases tf (P x) with d0|d0
  ·rw [if_pos d0]
   exact .done (pN 159 [] 2 3 (.c (aC d0) (.k 6 (aQ k) (.c h0 (.c (aC h0) .nil)))) (.c e (.v 14 (.ppt b) .nil)) d)
  ·rw [if_neg (by rw [d0];decide)]
   exact .next (pN 159 [] 2 1 (.c (aB d0) (.k 6 (aQ k) (.c h0 (.c (aC h0) .nil)))) (.v 18 (.eq (iZ i)) (.c e (.v 14 (.ppt b) .nil))) d) a
theorem abq (l:List Br) (i:Nat) (a:aH prog ap [] 19 (.block 0 (.loop (ae 0 (af f159)))) ⟨[(0,.sl (eG l) l.length false),(1,.fn 160 [] []),(4,.int .i64 0),(5,.dead),(7,.int .i64 (l.length:Int)),(8,.int .i64 0),(9,.dead),(16,.dead)],[],.dead,[]⟩ (.ret) ⟨[(4,.int .i64 (i:Int))],[],.dead,[]⟩):CO 159 [.sl (eG l) l.length false,.fn 160 [] []] (.ret (.int .i64 (i:Int))):=pK [0] 0 0 .nil (.l a .nil)
theorem abo (l:List Br) (a:aH prog ap [] 19 (.block 0 (.loop (ae 0 (af f159)))) ⟨[(0,.sl (eG l) l.length false),(1,.fn 160 [] []),(4,.int .i64 0),(5,.dead),(7,.int .i64 (l.length:Int)),(8,.int .i64 0),(9,.dead),(16,.dead)],[],.dead,[]⟩ (.normal) ⟨[(0,.sl (eG l) l.length false)],[],.dead,[]⟩):CO 159 [.sl (eG l) l.length false,.fn 160 [] []] (.ret (.int .i64 (-1))):=pK [0] 0 0 .nil (.l a .nil)
theorem abm (l:List Br) (P:Br→Bool) (a:l.length<2^40) (d:∀ x ∈ l,CO 160 [.agg (FT x)] (.ret (.bool (P x)))):CO 159 [.sl (eG l) l.length false,.fn 160 [] []] (.ret (.int .i64 (ixI (wO P l 0)))):=by
 have h:∀ nt,19≤nt→aF prog ap [] nt (ae 0 (af f159)) Sv (Z4 l) (Ui l) 0 (wO P l 0):=fun nt c=>Uk c l P a d l [] rfl
 cases b:wO P l 0 with
 |none=>
  rw [b] at h
  exact abo l (aF.blk h (by simp [Sv]) rfl (aK.of ⟨rfl,rfl,rfl,rfl,trivial⟩) (aK.of ⟨rfl,trivial⟩))
 |some i=>
  rw [b] at h
  exact abq l i (aF.blk h (by simp [Sv]) rfl (aK.of ⟨rfl,rfl,rfl,rfl,trivial⟩) (aK.of ⟨rfl,trivial⟩))
theorem Xa (l:List Br) (a:Int) (b:CO 159 [.sl (eG l) l.length false,.fn 160 [] []] (.ret (.int .i64 a))):CO 130 [.sl (eG l) l.length false,.fn 160 [] []] (.ret (.bool (decide (((0:Nat):Int)≤a)))):=pK [] 0 0 .nil (.c b .nil)
theorem TG (l:List Br) (P:Br→Bool) (a:l.length<2^40) (c:∀ x ∈ l,CO 160 [.agg (FT x)] (.ret (.bool (P x)))):CO 130 [.sl (eG l) l.length false,.fn 160 [] []] (.ret (.bool (l.any P))):=by
 have h:=Xa l _ (abm l P a c)
 rw [← C_ P l 0]
 cases b:wO P l 0 with
 |none=>rw [b] at h;exact h
 |some i=>
  rw [b] at h
  rw [show (some i).isSome=decide (((0:Nat):Int)≤ixI (some i)) from (decide_eq_true (show ((0:Nat):Int)≤(i:Int) by omega)).symm]
  exact h
def Hz (x:Br):Bool:= !(iW x.fn x.fa x.fd)|| !(iW x.rn x.ra x.rd)
def sD (x:Br):Bool:=decide (fV x.rn x.ra x.rd<((0:Nat):Int))
theorem aaL (x:Br) (hs:x.sm):CO 131 [.agg (FT x)] (.ret (.bool (Hz x))):=by
 rcases tf (iW x.fn x.fa x.fd) with b0|b0
 ·rw [show Hz x= !(iW x.rn x.ra x.rd) by unfold Hz;rw [b0];rfl]
  exact pK [] 1 0 (.k 3 (aS b0) (.n 3 .nil)) (.c (ja x.rn x.ra x.rd (Nat.lt_trans hs.2.1 (by decide)) (Nat.lt_trans hs.2.2 (by decide))) (.c (ja x.fn x.fa x.fd (Nat.lt_trans hs.1.1 (by decide)) (Nat.lt_trans hs.1.2 (by decide))) .nil))
 ·rw [show Hz x=true by unfold Hz;rw [b0];rfl]
  exact pK [] 1 1 (.c (dJ b0) (.n 3 .nil)) (.c (ja x.fn x.fa x.fd (Nat.lt_trans hs.1.1 (by decide)) (Nat.lt_trans hs.1.2 (by decide))) .nil)
theorem Xu (x:Br) (hs:x.sm):CO 160 [.agg (FT x)] (.ret (.bool (sD x))):=pK [] 0 0 (.n 3 .nil) (.c (fG x.rn x.ra x.rd (Nat.lt_trans hs.2.1 (by decide)) (Nat.lt_trans hs.2.2 (by decide))) .nil)
def ZL (cmp:Br→Br→Int) (l:List Br):Int:=cond (decide (((8:Nat):Int)<(l.length:Int))) 2 (cond ((l.length:Int)==((0:Nat):Int)) 11 (cond (FP cmp none l) (cond (l.any Hz) 3 0) 11))
theorem an5 (b:List UInt8) (u1 u2:Int) (l:List Br) (a:Bool) (e:(decide (((8:Nat):Int)<(l.length:Int)))=false) (c:((l.length:Int)==((0:Nat):Int))=false) (d:CO 130 [.sl (eG l) l.length false,.fn 131 [] []] (.ret (.bool a)))
  (l0:aH prog ap [] 60 (.block 1 (.loop (ae 1 (af f102)))) ⟨[(0,.agg [.str b,.int .i64 u1,.int .i64 u2,.sl (eG l) l.length false]),(1,.ptr 0 0 0),(2,.int .i64 0),(3,.sl (eG l) l.length false),(4,.dead),(5,.dead),(8,.bool (decide (((8:Nat):Int)<(l.length:Int)))),(12,.bool ((l.length:Int)==((0:Nat):Int))),(16,.sl (eG l) l.length false),(17,.int .i64 (l.length:Int)),(18,.int .i64 0),(19,.dead),(32,.dead),(56,.dead),(59,.dead)],[(0,⟨[.str b,.int .i64 u1,.int .i64 u2,.sl (eG l) l.length false],0,false,0,0,true⟩)],.dead,[]⟩ (.normal) ⟨[(3,.sl (eG l) l.length false)],[],.dead,[]⟩):CO 102 [.agg [.str b,.int .i64 u1,.int .i64 u2,.sl (eG l) l.length false]] (.ret (.int .i64 (cond a 3 0))):=by
 rcases tf a with b2|b2
 ·rw [show (cond a 3 0:Int)=3 by rw [b2];rfl]
  exact pK [1] 3 4 (.c (aC b2) (.c (aB c) (.c (aB e) (.n 1 .nil)))) (.c d (.l l0 .nil))
 ·rw [show (cond a 3 0:Int)=0 by rw [b2];rfl]
  exact pK [1] 3 0 (.c (aB b2) (.c (aB c) (.c (aB e) (.n 1 .nil)))) (.c d (.l l0 .nil))
theorem an4 (a:List UInt8) (u1 u2:Int) (l:List Br) (c:(decide (((8:Nat):Int)<(l.length:Int)))=false) (b:((l.length:Int)==((0:Nat):Int))=false)
  (l0:aH prog ap [] 60 (.block 1 (.loop (ae 1 (af f102)))) ⟨[(0,.agg [.str a,.int .i64 u1,.int .i64 u2,.sl (eG l) l.length false]),(1,.ptr 0 0 0),(2,.int .i64 0),(3,.sl (eG l) l.length false),(4,.dead),(5,.dead),(8,.bool (decide (((8:Nat):Int)<(l.length:Int)))),(12,.bool ((l.length:Int)==((0:Nat):Int))),(16,.sl (eG l) l.length false),(17,.int .i64 (l.length:Int)),(18,.int .i64 0),(19,.dead),(32,.dead),(56,.dead),(59,.dead)],[(0,⟨[.str a,.int .i64 u1,.int .i64 u2,.sl (eG l) l.length false],0,false,0,0,true⟩)],.dead,[]⟩ (.ret) ⟨[(2,.int .i64 11)],[],.dead,[]⟩):CO 102 [.agg [.str a,.int .i64 u1,.int .i64 u2,.sl (eG l) l.length false]] (.ret (.int .i64 11)):=pK [1] 2 0 (.c (aB b) (.c (aB c) (.n 1 .nil))) (.l l0 .nil)
theorem Eh (c:List UInt8) (u1 u2:Int) (l:List Br) (cmp:Br→Br→Int) (a:l.length<2^40) (b:∀ x ∈ l,x.sm) (g:rY 129 cmp l):CO 102 [.agg [.str c,.int .i64 u1,.int .i64 u2,.sl (eG l) l.length false]] (.ret (.int .i64 (ZL cmp l))):=by
 unfold ZL
 rcases tf (decide (((8:Nat):Int)<(l.length:Int))) with d0|d0
 ·rw [d0]
  exact pK [] 1 1 (.c (aC d0) (.n 1 .nil)) (.nil)
 ·rw [d0]
  rcases tf ((l.length:Int)==((0:Nat):Int)) with d1|d1
  ·rw [d1]
   exact pK [] 2 2 (.c (aC d1) (.c (aB d0) (.n 1 .nil))) (.nil)
  ·rw [d1]
   have h:∀ nt,60≤nt→aF prog ap [] nt (ae 1 (af f102)) bkE (aef c u1 u2 l) (ZJ l) 0 (FP cmp none l):=fun nt f=>WV f c u1 u2 l cmp a b g l [] rfl
   cases d:FP cmp none l with
   |true=>
    rw [d] at h
    exact an5 c u1 u2 l _ d0 d1 (TF l Hz a fun x e=>aaL x (b x e)) (aF.blk h (by simp [bkE]) rfl (aK.of ⟨rfl,rfl,rfl,rfl,rfl,trivial⟩) (aK.of ⟨rfl,trivial⟩))
   |false=>
    rw [d] at h
    exact an4 c u1 u2 l d0 d1 (aF.blk h (by simp [bkE]) rfl (aK.of ⟨rfl,rfl,rfl,rfl,rfl,trivial⟩) (aK.of ⟨rfl,trivial⟩))
theorem Xv (c:List UInt8) (u1 u2:Int) (l:List Br) (a:Bool) (b:CO 130 [.sl (eG l) l.length false,.fn 160 [] []] (.ret (.bool a))):CO 132 [.agg [.str c,.int .i64 u1,.int .i64 u2,.sl (eG l) l.length false]] (.ret (.bool a)):=pK [] 0 0 (.n 1 .nil) (.c b .nil)
theorem TW (c:List UInt8) (u1 u2:Int) (l:List Br) (a:l.length<2^40) (b:∀ x ∈ l,x.sm):CO 132 [.agg [.str c,.int .i64 u1,.int .i64 u2,.sl (eG l) l.length false]] (.ret (.bool (l.any sD))):=Xv c u1 u2 l _ (TG l sD a fun x d=>Xu x (b x d))
theorem N7 (c:List UInt8) (u1 u2:Int) (l:List Br) (a:Int) (b:Bool) (cK_:CO 102 [.agg [.str c,.int .i64 u1,.int .i64 u2,.sl (eG l) l.length false]] (.ret (.int .i64 a))) (d:CO 132 [.agg [.str c,.int .i64 u1,.int .i64 u2,.sl (eG l) l.length false]] (.ret (.bool b))):CO 103 [.agg [.str c,.int .i64 u1,.int .i64 u2,.sl (eG l) l.length false]] (.ret (.bool (a==((0:Nat):Int) && !b))):=by
 rcases tf (a==((0:Nat):Int)) with b0|b0
 ·rw [b0,Bool.true_and]
  exact pK [] 1 1 (.k 4 (aC b0) (.n 4 .nil)) (.c d (.c cK_ .nil))
 ·rw [b0,Bool.false_and]
  exact pK [] 1 0 (.c (aB b0) (.n 4 .nil)) (.c cK_ .nil)
theorem Fh (c:List UInt8) (u1 u2:Int) (l:List Br) (cmp:Br→Br→Int) (a:l.length<2^40) (b:∀ x ∈ l,x.sm) (d:rY 129 cmp l):CO 103 [.agg [.str c,.int .i64 u1,.int .i64 u2,.sl (eG l) l.length false]] (.ret (.bool (ZL cmp l==((0:Nat):Int) && !(l.any sD)))):=N7 c u1 u2 l _ _ (Eh c u1 u2 l cmp a b d) (TW c u1 u2 l a b)
def j_ (x:Br):Bool:=jm x.fn x.fa x.fd && jm x.rn x.ra x.rd
def Str (nm:List UInt8) (u1 u2:Int) (l:List Br) (k:Nat):St:=⟨[(1,.ptr 0 0 0),(3,.sl (eG l) l.length false),(4,.int .i64 (k:Int))],[(0,⟨[.str nm,.int .i64 u1,.int .i64 u2,.sl (eG l) l.length false],0,false,0,0,true⟩)],.dead,[]⟩
def adX (l:List Br):Bool→St
 |true=> ⟨[(3,.sl (eG l) l.length false)],[],.dead,[]⟩
 |false=> ⟨[(2,.int .i64 11)],[],.dead,[]⟩
def Er:Bool→bM
 |true=> .exit 0
 |false=> .ret
theorem akl {nt:Nat} (c:96≤nt) (m:List UInt8) (u1 u2:Int) (l:List Br) (h:l.length<2^40) (f:∀ x ∈ l,x.sm):∀ (r p:List Br),p++r=l→
  aF prog ap [] nt (ae 0 (af f71)) Er (Str m u1 u2 l) (adX l) p.length (r.all j_):=by
 intro r
 induction r with
 |nil=>
  intro p hp
  rw [List.append_nil] at hp
  subst hp
  have h0:(decide ((p.length:Int)<(p.length:Int)))=false:=decide_eq_false (by omega)
  exact .done (pN 71 [] 1 0 (.c (aB h0) .nil) (.nil) c)
 | cons x r ih=>
  intro p hp
  have j:p.length<l.length:=by rw [← hp];simp
  have e:l[p.length]=x:=by subst hp;simp
  have a:=kR j
  rw [e] at a
  have b:=ih (p++ [x]) (by rw [← hp];simp)
  rw [List.length_append,List.length_singleton] at b
  have hs:=f x (by rw [← hp];simp)
  have d:CO 104 [LZ x] (.ret (.bool (jm x.fn x.fa x.fd))):=ru x.fn x.fa x.fd hs.1.1 hs.1.2
  have g:CO 104 [brR x] (.ret (.bool (jm x.rn x.ra x.rd))):=ru x.rn x.ra x.rd hs.2.1 hs.2.2
  generalize p.length=k at*
  generalize eG (l.drop (k+1))=rB at a
  have h0:(decide ((k:Int)<(l.length:Int)))=true:=decide_eq_true (by omega)
  have i:k<2^62:=by omega
  rcases tf (jm x.fn x.fa x.fd) with d0|d0
  ·rcases tf (jm x.rn x.ra x.rd) with d1|d1
   ·simp only [List.all_cons,j_,d0,d1,Bool.true_and,Bool.false_and,Bool.and_true,Bool.and_false]
    exact .next (pN 71 [] 3 1 (.c (aS d1) (.c (aS d0) (.k 3 (aQ k) (.c h0 (.k 3 (aQ k) (.c h0 (.c (aC h0) .nil))))))) (.v 26 (.eq (iZ i)) (.c g (.v 35 (.ppt a) (.c d (.v 29 (.ppt a) .nil))))) c) b
   ·simp only [List.all_cons,j_,d0,d1,Bool.true_and,Bool.false_and,Bool.and_true,Bool.and_false]
    exact .done (pN 71 [] 3 5 (.c (dJ d1) (.c (aS d0) (.k 3 (aQ k) (.c h0 (.k 3 (aQ k) (.c h0 (.c (aC h0) .nil))))))) (.c g (.v 35 (.ppt a) (.c d (.v 29 (.ppt a) .nil)))) c)
  ·simp only [List.all_cons,j_,d0,Bool.true_and,Bool.false_and,Bool.and_true,Bool.and_false]
   exact .done (pN 71 [] 3 7 (.k 1 (dJ d0) (.k 3 (aQ k) (.c h0 (.k 3 (aQ k) (.c h0 (.c (aC h0) .nil)))))) (.c g (.v 35 (.ppt a) (.c d (.v 29 (.ppt a) .nil)))) c)
def zM (x:Br):Bool:=iW x.fn x.fa x.fd && iW x.rn x.ra x.rd
def Stf (l:List Br) (k:Nat):St:=⟨[(3,.sl (eG l) l.length false),(10,.int .i64 (k:Int))],[],.dead,[]⟩
def adV (l:List Br):Bool→St
 |true=> ⟨[(3,.sl (eG l) l.length false)],[],.dead,[]⟩
 |false=> ⟨[(2,.int .i64 3)],[],.dead,[]⟩
def Ef:Bool→bM
 |true=> .exit 4
 |false=> .ret
theorem akj {nt:Nat} (c:96≤nt) (l:List Br) (h:l.length<2^40) (f:∀ x ∈ l,x.sm):∀ (r p:List Br),p++r=l→
  aF prog ap [] nt (ae 4 (af f71)) Ef (Stf l) (adV l) p.length (r.all zM):=by
 intro r
 induction r with
 |nil=>
  intro p hp
  rw [List.append_nil] at hp
  subst hp
  have h0:(decide ((p.length:Int)<(p.length:Int)))=false:=decide_eq_false (by omega)
  exact .done (pN 71 [] 1 0 (.c (aB h0) .nil) (.nil) c)
 | cons x r ih=>
  intro p hp
  have j:p.length<l.length:=by rw [← hp];simp
  have e:l[p.length]=x:=by subst hp;simp
  have a:=kR j
  rw [e] at a
  have b:=ih (p++ [x]) (by rw [← hp];simp)
  rw [List.length_append,List.length_singleton] at b
  have hs:=f x (by rw [← hp];simp)
  have d:CO 105 [LZ x] (.ret (.bool (iW x.fn x.fa x.fd))):=iT x.fn x.fa x.fd hs.1.1 hs.1.2
  have g:CO 105 [brR x] (.ret (.bool (iW x.rn x.ra x.rd))):=iT x.rn x.ra x.rd hs.2.1 hs.2.2
  generalize p.length=k at*
  generalize eG (l.drop (k+1))=rB at a
  have h0:(decide ((k:Int)<(l.length:Int)))=true:=decide_eq_true (by omega)
  have i:k<2^62:=by omega
  rcases tf (iW x.fn x.fa x.fd) with d0|d0
  ·rcases tf (iW x.rn x.ra x.rd) with d1|d1
   ·simp only [List.all_cons,zM,d0,d1,Bool.true_and,Bool.false_and,Bool.and_true,Bool.and_false]
    exact .next (pN 71 [] 3 1 (.c (aS d1) (.c (aS d0) (.k 3 (aQ k) (.c h0 (.k 3 (aQ k) (.c h0 (.c (aC h0) .nil))))))) (.v 77 (.eq (iZ i)) (.c g (.v 86 (.ppt a) (.c d (.v 80 (.ppt a) .nil))))) c) b
   ·simp only [List.all_cons,zM,d0,d1,Bool.true_and,Bool.false_and,Bool.and_true,Bool.and_false]
    exact .done (pN 71 [] 3 5 (.c (dJ d1) (.c (aS d0) (.k 3 (aQ k) (.c h0 (.k 3 (aQ k) (.c h0 (.c (aC h0) .nil))))))) (.c g (.v 86 (.ppt a) (.c d (.v 80 (.ppt a) .nil)))) c)
  ·simp only [List.all_cons,zM,d0,Bool.true_and,Bool.false_and,Bool.and_true,Bool.and_false]
   exact .done (pN 71 [] 3 7 (.k 1 (dJ d0) (.k 3 (aQ k) (.c h0 (.k 3 (aQ k) (.c h0 (.c (aC h0) .nil)))))) (.c g (.v 86 (.ppt a) (.c d (.v 80 (.ppt a) .nil)))) c)
def Hq (cmp:Br→Br→Int):Br→List Br→Bool
 |_,[]=>true
 |y,x::r=>cond (decide (((0:Nat):Int)≤cmp y x)) false (Hq cmp x r)
def Sta (l:List Br) (k:Nat):St:=⟨[(3,.sl (eG l) l.length false),(8,.int .i64 (k:Int))],[],.dead,[]⟩
def adT (l:List Br):Bool→St
 |true=> ⟨[(3,.sl (eG l) l.length false)],[],.dead,[]⟩
 |false=> ⟨[(2,.int .i64 11)],[],.dead,[]⟩
def Ea:Bool→bM
 |true=> .exit 2
 |false=> .ret
theorem akh {nt:Nat} (m:96≤nt) (l:List Br) (cmp:Br→Br→Int) (o:l.length<2^40) (v:∀ x ∈ l,j_ x=true) (t:rY 24 cmp l):∀ (r p:List Br) (y:Br),(p++ [y])++r=l→
  aF prog ap [] nt (ae 2 (af f71)) Ea (Sta l) (adT l) (p.length+1) (Hq cmp y r):=by
 intro r
 induction r with
 |nil=>
  intro p y hp
  rw [List.append_nil] at hp
  generalize j:p.length+1=k
  have u:l.length=k:=by rw [← hp,← j];simp
  have h0:(decide ((k:Int)<(l.length:Int)))=false:=decide_eq_false (by omega)
  exact .done (pN 71 [] 1 0 (.c (aB h0) .nil) (.nil) m)
 | cons x r ih=>
  intro p y hp
  have q:p.length+1<l.length:=by rw [← hp];simp
  have a:p.length<l.length:=by omega
  have e:l[p.length+1]=x:=by subst hp;simp
  have d:l[p.length]=y:=by subst hp;simp
  have h:=kR q
  have i:=kR a
  rw [e] at h
  rw [d] at i
  have g:=ih (p++ [y]) x (by rw [← hp];simp)
  rw [List.length_append,List.length_singleton] at g
  have b:=v x (by rw [← hp];simp)
  unfold j_ at b
  rw [Bool.and_eq_true] at b
  have n:=t p.length y x (by rw [List.getElem?_eq_getElem a,d]) (by rw [List.getElem?_eq_getElem q,e]) b.1 b.2
  unfold Hq
  have c:p.length+1=p.length+1:=rfl
  generalize j:p.length+1=k at*
  generalize w:p.length=k1 at*
  have c:k=k1+1:=j.symm
  generalize eG (l.drop (k+1))=rB at h
  generalize eG (l.drop k)=rC at i
  have h0:(decide ((k:Int)<(l.length:Int)))=true:=decide_eq_true (by omega)
  have s:k<2^62:=by omega
  have f:k<2^40:=by omega
  rcases tf (decide (((0:Nat):Int)≤(cmp y x))) with d0|d0
  ·rw [d0]
   exact .done (pN 71 [] 2 3 (.c (aC d0) (.k 3 (aQ k) (.c h0 (.k 3 (aQ k1) (.c (bK a) (.c (aC h0) .nil)))))) (.c n (.v 66 (.ppt h) (.v 61 (.ppt i) (.v 60 (.eq (wkn c f)) .nil)))) m)
  ·rw [d0]
   exact .next (pN 71 [] 2 1 (.c (aB d0) (.k 3 (aQ k) (.c h0 (.k 3 (aQ k1) (.c (bK a) (.c (aC h0) .nil)))))) (.v 57 (.eq (iZ s)) (.c n (.v 66 (.ppt h) (.v 61 (.ppt i) (.v 60 (.eq (wkn c f)) .nil))))) m) g
theorem atV (a:List UInt8) (u1 u2:Int) (l:List Br) (c:(decide (((8:Nat):Int)<(l.length:Int)))=false) (b:((l.length:Int)==((0:Nat):Int))=false) (d:aH prog ap [] 96 (.block 0 (.loop (ae 0 (af f71)))) ⟨[(0,.agg [.str a,.int .i64 u1,.int .i64 u2,.sl (eG l) l.length false]),(1,.ptr 0 0 0),(2,.int .i64 0),(3,.sl (eG l) l.length false),(4,.int .i64 0),(5,.dead),(6,.dead),(7,.dead),(8,.dead),(9,.dead),(10,.dead),(11,.dead),(12,.dead),(17,.bool (decide (((8:Nat):Int)<(l.length:Int)))),(20,.bool ((l.length:Int)==((0:Nat):Int))),(24,.dead),(44,.dead),(51,.dead),(55,.dead),(71,.dead),(75,.dead),(95,.dead)],[(0,⟨[.str a,.int .i64 u1,.int .i64 u2,.sl (eG l) l.length false],0,false,0,0,true⟩)],.dead,[]⟩ (.ret) ⟨[(2,.int .i64 11)],[],.dead,[]⟩):CO 71 [.agg [.str a,.int .i64 u1,.int .i64 u2,.sl (eG l) l.length false]] (.ret (.int .i64 11)):=pK [0,2,4] 2 0 (.c (aB b) (.c (aB c) (.n 1 .nil))) (.l d .nil)
theorem atY (d:List UInt8) (u1 u2:Int) (l:List Br) (g:(decide (((8:Nat):Int)<(l.length:Int)))=false) (e:((l.length:Int)==((0:Nat):Int))=false) (a:Br) (h:List AV) (c:List.drop 0 (eG l)=FT a++h) (b:(decide (((0:Nat):Int)<(l.length:Int)))=true) (i:CO 45 [LZ a] (.ret (.int .i64 (fV a.fn a.fa a.fd)))) (z:((fV a.fn a.fa a.fd)==((0:Nat):Int))=false) (f:aH prog ap [] 96 (.block 0 (.loop (ae 0 (af f71)))) ⟨[(0,.agg [.str d,.int .i64 u1,.int .i64 u2,.sl (eG l) l.length false]),(1,.ptr 0 0 0),(2,.int .i64 0),(3,.sl (eG l) l.length false),(4,.int .i64 0),(5,.dead),(6,.dead),(7,.dead),(8,.dead),(9,.dead),(10,.dead),(11,.dead),(12,.dead),(17,.bool (decide (((8:Nat):Int)<(l.length:Int)))),(20,.bool ((l.length:Int)==((0:Nat):Int))),(24,.dead),(44,.dead),(51,.dead),(55,.dead),(71,.dead),(75,.dead),(95,.dead)],[(0,⟨[.str d,.int .i64 u1,.int .i64 u2,.sl (eG l) l.length false],0,false,0,0,true⟩)],.dead,[]⟩ (.normal) ⟨[(3,.sl (eG l) l.length false)],[],.dead,[]⟩):CO 71 [.agg [.str d,.int .i64 u1,.int .i64 u2,.sl (eG l) l.length false]] (.ret (.int .i64 11)):=pK [0,2,4] 3 4 (.c (dJ z) (.k 4 b (.c (aB e) (.c (aB g) (.n 1 .nil))))) (.c i (.v 46 (.ppt c) (.l f .nil)))
theorem atW (d:List UInt8) (u1 u2:Int) (l:List Br) (h:(decide (((8:Nat):Int)<(l.length:Int)))=false) (e:((l.length:Int)==((0:Nat):Int))=false) (a:Br) (i:List AV) (c:List.drop 0 (eG l)=FT a++i) (b:(decide (((0:Nat):Int)<(l.length:Int)))=true) (j:CO 45 [LZ a] (.ret (.int .i64 (fV a.fn a.fa a.fd)))) (z:((fV a.fn a.fa a.fd)==((0:Nat):Int))=true) (f:aH prog ap [] 96 (.block 0 (.loop (ae 0 (af f71)))) ⟨[(0,.agg [.str d,.int .i64 u1,.int .i64 u2,.sl (eG l) l.length false]),(1,.ptr 0 0 0),(2,.int .i64 0),(3,.sl (eG l) l.length false),(4,.int .i64 0),(5,.dead),(6,.dead),(7,.dead),(8,.dead),(9,.dead),(10,.dead),(11,.dead),(12,.dead),(17,.bool (decide (((8:Nat):Int)<(l.length:Int)))),(20,.bool ((l.length:Int)==((0:Nat):Int))),(24,.dead),(44,.dead),(51,.dead),(55,.dead),(71,.dead),(75,.dead),(95,.dead)],[(0,⟨[.str d,.int .i64 u1,.int .i64 u2,.sl (eG l) l.length false],0,false,0,0,true⟩)],.dead,[]⟩ (.normal) ⟨[(3,.sl (eG l) l.length false)],[],.dead,[]⟩) (g:aH prog ap [] 96 (.block 2 (.loop (ae 2 (af f71)))) ⟨[(0,.dead),(1,.dead),(2,.dead),(3,.sl (eG l) l.length false),(4,.dead),(5,.dead),(6,.dead),(7,.int .i64 (fV a.fn a.fa a.fd)),(8,.int .i64 1),(9,.dead),(10,.dead),(11,.dead),(12,.dead),(17,.dead),(20,.dead),(24,.dead),(44,.dead),(51,.bool (!((fV a.fn a.fa a.fd)==((0:Nat):Int)))),(55,.dead),(71,.dead),(75,.dead),(95,.dead)],[],.dead,[]⟩ (.ret) ⟨[(2,.int .i64 11)],[],.dead,[]⟩):CO 71 [.agg [.str d,.int .i64 u1,.int .i64 u2,.sl (eG l) l.length false]] (.ret (.int .i64 11)):=pK [0,2,4] 3 0 (.c (aS z) (.k 4 b (.c (aB e) (.c (aB h) (.n 1 .nil))))) (.l g (.c j (.v 46 (.ppt c) (.l f .nil))))
theorem atX (d:List UInt8) (u1 u2:Int) (l:List Br) (i:(decide (((8:Nat):Int)<(l.length:Int)))=false) (e:((l.length:Int)==((0:Nat):Int))=false) (a:Br) (j:List AV) (c:List.drop 0 (eG l)=FT a++j) (b:(decide (((0:Nat):Int)<(l.length:Int)))=true) (k:CO 45 [LZ a] (.ret (.int .i64 (fV a.fn a.fa a.fd)))) (z:((fV a.fn a.fa a.fd)==((0:Nat):Int))=true) (f:aH prog ap [] 96 (.block 0 (.loop (ae 0 (af f71)))) ⟨[(0,.agg [.str d,.int .i64 u1,.int .i64 u2,.sl (eG l) l.length false]),(1,.ptr 0 0 0),(2,.int .i64 0),(3,.sl (eG l) l.length false),(4,.int .i64 0),(5,.dead),(6,.dead),(7,.dead),(8,.dead),(9,.dead),(10,.dead),(11,.dead),(12,.dead),(17,.bool (decide (((8:Nat):Int)<(l.length:Int)))),(20,.bool ((l.length:Int)==((0:Nat):Int))),(24,.dead),(44,.dead),(51,.dead),(55,.dead),(71,.dead),(75,.dead),(95,.dead)],[(0,⟨[.str d,.int .i64 u1,.int .i64 u2,.sl (eG l) l.length false],0,false,0,0,true⟩)],.dead,[]⟩ (.normal) ⟨[(3,.sl (eG l) l.length false)],[],.dead,[]⟩) (g:aH prog ap [] 96 (.block 2 (.loop (ae 2 (af f71)))) ⟨[(0,.dead),(1,.dead),(2,.dead),(3,.sl (eG l) l.length false),(4,.dead),(5,.dead),(6,.dead),(7,.int .i64 (fV a.fn a.fa a.fd)),(8,.int .i64 1),(9,.dead),(10,.dead),(11,.dead),(12,.dead),(17,.dead),(20,.dead),(24,.dead),(44,.dead),(51,.bool (!((fV a.fn a.fa a.fd)==((0:Nat):Int)))),(55,.dead),(71,.dead),(75,.dead),(95,.dead)],[],.dead,[]⟩ (.normal) ⟨[(3,.sl (eG l) l.length false)],[],.dead,[]⟩) (h:aH prog ap [] 96 (.block 4 (.loop (ae 4 (af f71)))) ⟨[(0,.dead),(1,.dead),(2,.dead),(3,.sl (eG l) l.length false),(4,.dead),(5,.dead),(6,.dead),(7,.dead),(8,.dead),(9,.dead),(10,.int .i64 0),(11,.dead),(12,.dead),(17,.dead),(20,.dead),(24,.dead),(44,.dead),(51,.dead),(55,.dead),(71,.dead),(75,.dead),(95,.dead)],[],.dead,[]⟩ (.ret) ⟨[(2,.int .i64 3)],[],.dead,[]⟩):CO 71 [.agg [.str d,.int .i64 u1,.int .i64 u2,.sl (eG l) l.length false]] (.ret (.int .i64 3)):=pK [0,2,4] 3 0 (.c (aS z) (.k 4 b (.c (aB e) (.c (aB i) (.n 1 .nil))))) (.l h (.l g (.c k (.v 46 (.ppt c) (.l f .nil)))))
theorem atZ (d:List UInt8) (u1 u2:Int) (l:List Br) (i:(decide (((8:Nat):Int)<(l.length:Int)))=false) (e:((l.length:Int)==((0:Nat):Int))=false) (a:Br) (j:List AV) (c:List.drop 0 (eG l)=FT a++j) (b:(decide (((0:Nat):Int)<(l.length:Int)))=true) (k:CO 45 [LZ a] (.ret (.int .i64 (fV a.fn a.fa a.fd)))) (z:((fV a.fn a.fa a.fd)==((0:Nat):Int))=true) (f:aH prog ap [] 96 (.block 0 (.loop (ae 0 (af f71)))) ⟨[(0,.agg [.str d,.int .i64 u1,.int .i64 u2,.sl (eG l) l.length false]),(1,.ptr 0 0 0),(2,.int .i64 0),(3,.sl (eG l) l.length false),(4,.int .i64 0),(5,.dead),(6,.dead),(7,.dead),(8,.dead),(9,.dead),(10,.dead),(11,.dead),(12,.dead),(17,.bool (decide (((8:Nat):Int)<(l.length:Int)))),(20,.bool ((l.length:Int)==((0:Nat):Int))),(24,.dead),(44,.dead),(51,.dead),(55,.dead),(71,.dead),(75,.dead),(95,.dead)],[(0,⟨[.str d,.int .i64 u1,.int .i64 u2,.sl (eG l) l.length false],0,false,0,0,true⟩)],.dead,[]⟩ (.normal) ⟨[(3,.sl (eG l) l.length false)],[],.dead,[]⟩) (g:aH prog ap [] 96 (.block 2 (.loop (ae 2 (af f71)))) ⟨[(0,.dead),(1,.dead),(2,.dead),(3,.sl (eG l) l.length false),(4,.dead),(5,.dead),(6,.dead),(7,.int .i64 (fV a.fn a.fa a.fd)),(8,.int .i64 1),(9,.dead),(10,.dead),(11,.dead),(12,.dead),(17,.dead),(20,.dead),(24,.dead),(44,.dead),(51,.bool (!((fV a.fn a.fa a.fd)==((0:Nat):Int)))),(55,.dead),(71,.dead),(75,.dead),(95,.dead)],[],.dead,[]⟩ (.normal) ⟨[(3,.sl (eG l) l.length false)],[],.dead,[]⟩) (h:aH prog ap [] 96 (.block 4 (.loop (ae 4 (af f71)))) ⟨[(0,.dead),(1,.dead),(2,.dead),(3,.sl (eG l) l.length false),(4,.dead),(5,.dead),(6,.dead),(7,.dead),(8,.dead),(9,.dead),(10,.int .i64 0),(11,.dead),(12,.dead),(17,.dead),(20,.dead),(24,.dead),(44,.dead),(51,.dead),(55,.dead),(71,.dead),(75,.dead),(95,.dead)],[],.dead,[]⟩ (.normal) ⟨[(3,.sl (eG l) l.length false)],[],.dead,[]⟩):CO 71 [.agg [.str d,.int .i64 u1,.int .i64 u2,.sl (eG l) l.length false]] (.ret (.int .i64 0)):=pK [0,2,4] 3 0 (.c (aS z) (.k 4 b (.c (aB e) (.c (aB i) (.n 1 .nil))))) (.l h (.l g (.c k (.v 46 (.ppt c) (.l f .nil)))))
theorem JA (cmp:Br→Br→Int):∀ (r:List Br) (y:Br),FP cmp (some y) r=(r.all j_ && Hq cmp y r)
 | [],_=>rfl
 |x::r,y=>by
  simp only [FP,List.all_cons,Hq,j_,JA cmp r x]
  cases jm x.fn x.fa x.fd<;>cases jm x.rn x.ra x.rd<;>cases decide (((0:Nat):Int)≤cmp y x)<;>cases r.all j_<;>simp
theorem SQ (cmp:Br→Br→Int) (x:Br) (r:List Br):FP cmp none (x::r)=((x::r).all j_ && ((fV x.fn x.fa x.fd==((0:Nat):Int)) && Hq cmp x r)):=by
 simp only [FP,List.all_cons,j_,JA cmp r x]
 cases jm x.fn x.fa x.fd<;>cases jm x.rn x.ra x.rd<;>cases (fV x.fn x.fa x.fd==((0:Nat):Int))<;>cases r.all j_<;>simp
theorem OC:∀ l:List Br,l.any Hz= !(l.all zM)
 | []=>rfl
 |x::r=>by
  rw [List.any_cons,List.all_cons,OC r]
  simp only [Hz,zM]
  cases iW x.fn x.fa x.fd<;>cases iW x.rn x.ra x.rd<;>simp
theorem D5 (e:List UInt8) (u1 u2:Int) (l:List Br) (cmp:Br→Br→Int) (c:l.length<2^40) (g:∀ x ∈ l,x.sm) (t:rY 24 cmp l):CO 71 [.agg [.str e,.int .i64 u1,.int .i64 u2,.sl (eG l) l.length false]] (.ret (.int .i64 (ZL cmp l))):=by
 unfold ZL
 rcases tf (decide (((8:Nat):Int)<(l.length:Int))) with d0|d0
 ·rw [d0]
  exact pK [] 1 1 (.c (aC d0) (.n 1 .nil)) (.nil)
 ·rw [d0]
  rcases tf ((l.length:Int)==((0:Nat):Int)) with d1|d1
  ·rw [d1]
   exact pK [] 2 2 (.c (aC d1) (.c (aB d0) (.n 1 .nil))) (.nil)
  ·rw [d1]
   have o:l ≠ []:=by intro h;subst h;exact absurd d1 (by decide)
   obtain ⟨a,r,i⟩:=List.exists_cons_of_ne_nil o
   have b:(decide (((0:Nat):Int)<(l.length:Int)))=true:=decide_eq_true (by rw [i];simp only [List.length_cons];omega)
   have d:List.drop 0 (eG l)=FT a++eG r:=by rw [i];rfl
   have hs:=g a (by rw [i];simp)
   have m:CO 45 [LZ a] (.ret (.int .i64 (fV a.fn a.fa a.fd))):=fM a.fn a.fa a.fd hs.1.1 hs.1.2
   have u:FP cmp none l=(l.all j_ && ((fV a.fn a.fa a.fd==((0:Nat):Int)) && Hq cmp a r)):=by rw [i];exact SQ cmp a r
   have f:∀ nt,96≤nt→aF prog ap [] nt (ae 0 (af f71)) Er (Str e u1 u2 l) (adX l) 0 (l.all j_):=fun nt j=>akl j e u1 u2 l c g l [] rfl
   have n:∀ nt,96≤nt→aF prog ap [] nt (ae 4 (af f71)) Ef (Stf l) (adV l) 0 (l.all zM):=fun nt j=>akj j l c g l [] rfl
   rw [u,OC]
   cases p:l.all j_ with
   |false=>
    rw [p] at f
    rw [Bool.false_and]
    exact atV e u1 u2 l d0 d1 (aF.blk f (by simp [Er]) rfl (aK.of ⟨rfl,rfl,rfl,trivial⟩) (aK.of ⟨rfl,trivial⟩))
   | true=>
    have k:∀ nt,96≤nt→aF prog ap [] nt (ae 2 (af f71)) Ea (Sta l) (adT l) 1 (Hq cmp a r):=fun nt j=>akh j l cmp c (List.all_eq_true.1 p) t r [] a (by rw [i];rfl)
    rw [p] at f
    rw [Bool.true_and]
    rcases tf ((fV a.fn a.fa a.fd)==((0:Nat):Int)) with z|z
    ·rw [z,Bool.true_and]
     cases s:Hq cmp a r with
     |false=>
      rw [s] at k
      exact atW e u1 u2 l d0 d1 a _ d b m z (aF.blk f (by simp [Er]) rfl (aK.of ⟨rfl,rfl,rfl,trivial⟩) (aK.of ⟨rfl,trivial⟩)) (aF.blk k (by simp [Ea]) rfl (aK.of ⟨rfl,rfl,trivial⟩) (aK.of ⟨rfl,trivial⟩))
     | true=>
      rw [s] at k
      cases q:l.all zM with
      |false=>
       rw [q] at n
       exact atX e u1 u2 l d0 d1 a _ d b m z (aF.blk f (by simp [Er]) rfl (aK.of ⟨rfl,rfl,rfl,trivial⟩) (aK.of ⟨rfl,trivial⟩)) (aF.blk k (by simp [Ea]) rfl (aK.of ⟨rfl,rfl,trivial⟩) (aK.of ⟨rfl,trivial⟩)) (aF.blk n (by simp [Ef]) rfl (aK.of ⟨rfl,rfl,trivial⟩) (aK.of ⟨rfl,trivial⟩))
      |true=>
       rw [q] at n
       exact atZ e u1 u2 l d0 d1 a _ d b m z (aF.blk f (by simp [Er]) rfl (aK.of ⟨rfl,rfl,rfl,trivial⟩) (aK.of ⟨rfl,trivial⟩)) (aF.blk k (by simp [Ea]) rfl (aK.of ⟨rfl,rfl,trivial⟩) (aK.of ⟨rfl,trivial⟩)) (aF.blk n (by simp [Ef]) rfl (aK.of ⟨rfl,rfl,trivial⟩) (aK.of ⟨rfl,trivial⟩))
    ·rw [z,Bool.false_and]
     exact atY e u1 u2 l d0 d1 a _ d b m z (aF.blk f (by simp [Er]) rfl (aK.of ⟨rfl,rfl,rfl,trivial⟩) (aK.of ⟨rfl,trivial⟩))
def Stb (nm:List UInt8) (u1 u2:Int) (l:List Br) (k:Nat):St:=⟨[(0,.agg [.str nm,.int .i64 u1,.int .i64 u2,.sl (eG l) l.length false]),(1,.ptr 0 0 0),(3,.int .i64 (k:Int))],[(0,⟨[.str nm,.int .i64 u1,.int .i64 u2,.sl (eG l) l.length false],0,false,0,0,true⟩)],.dead,[]⟩
def adU (nm:List UInt8) (u1 u2:Int) (l:List Br):Bool→St
 |false=> ⟨[(0,.agg [.str nm,.int .i64 u1,.int .i64 u2,.sl (eG l) l.length false])],[],.dead,[]⟩
 |true=> ⟨[(2,.bool true)],[],.dead,[]⟩
def Eb:Bool→bM
 |false=> .exit 0
 |true=> .ret
theorem aki {nt:Nat} (e:19≤nt) (h:List UInt8) (u1 u2:Int) (l:List Br) (f:l.length<2^40) (d:∀ x ∈ l,x.sm):∀ (r p:List Br),p++r=l→
  aF prog ap [] nt (ae 0 (af f106)) Eb (Stb h u1 u2 l) (adU h u1 u2 l) p.length (r.any sD):=by
 intro r
 induction r with
 |nil=>
  intro p hp
  rw [List.append_nil] at hp
  subst hp
  have h0:(decide ((p.length:Int)<(p.length:Int)))=false:=decide_eq_false (by omega)
  exact .done (pN 106 [] 1 0 (.c (aB h0) (.n 1 .nil)) (.nil) e)
 | cons x r ih=>
  intro p hp
  have j:p.length<l.length:=by rw [← hp];simp
  have c:l[p.length]=x:=by subst hp;simp
  have b:=kR j
  rw [c] at b
  have a:=ih (p++ [x]) (by rw [← hp];simp)
  rw [List.length_append,List.length_singleton] at a
  have hs:=d x (by rw [← hp];simp)
  have g:CO 45 [brR x] (.ret (.int .i64 (fV x.rn x.ra x.rd))):=fM x.rn x.ra x.rd hs.2.1 hs.2.2
  rw [List.any_cons]
  generalize p.length=k at*
  generalize eG (l.drop (k+1))=rB at b
  have h0:(decide ((k:Int)<(l.length:Int)))=true:=decide_eq_true (by omega)
  have i:k<2^62:=by omega
  rcases tf (decide ((fV x.rn x.ra x.rd)<((0:Nat):Int))) with d0|d0
  ·rw [show sD x=true from d0,Bool.true_or]
   exact .done (pN 106 [] 2 3 (.c (aC d0) (.k 3 (aQ k) (.c h0 (.k 1 (aC h0) (.n 1 .nil))))) (.c g (.v 14 (.ppt b) .nil)) e)
  ·rw [show sD x=false from d0,Bool.false_or]
   exact .next (pN 106 [] 2 1 (.c (aB d0) (.k 3 (aQ k) (.c h0 (.k 1 (aC h0) (.n 1 .nil))))) (.v 10 (.eq (iZ i)) (.c g (.v 14 (.ppt b) .nil))) e) a
theorem aed (a:List UInt8) (u1 u2:Int) (l:List Br) (b:aH prog ap [] 19 (.block 0 (.loop (ae 0 (af f106)))) ⟨[(0,.agg [.str a,.int .i64 u1,.int .i64 u2,.sl (eG l) l.length false]),(1,.ptr 0 0 0),(2,.bool false),(3,.int .i64 0),(8,.dead),(18,.dead)],[(0,⟨[.str a,.int .i64 u1,.int .i64 u2,.sl (eG l) l.length false],0,false,0,0,true⟩)],.dead,[]⟩ (.ret) ⟨[(2,.bool true)],[],.dead,[]⟩):CO 106 [.agg [.str a,.int .i64 u1,.int .i64 u2,.sl (eG l) l.length false]] (.ret (.bool true)):=pK [0] 0 0 .nil (.l b .nil)
theorem aec (a:List UInt8) (u1 u2:Int) (l:List Br) (b:aH prog ap [] 19 (.block 0 (.loop (ae 0 (af f106)))) ⟨[(0,.agg [.str a,.int .i64 u1,.int .i64 u2,.sl (eG l) l.length false]),(1,.ptr 0 0 0),(2,.bool false),(3,.int .i64 0),(8,.dead),(18,.dead)],[(0,⟨[.str a,.int .i64 u1,.int .i64 u2,.sl (eG l) l.length false],0,false,0,0,true⟩)],.dead,[]⟩ (.normal) ⟨[(0,.agg [.str a,.int .i64 u1,.int .i64 u2,.sl (eG l) l.length false])],[],.dead,[]⟩):CO 106 [.agg [.str a,.int .i64 u1,.int .i64 u2,.sl (eG l) l.length false]] (.ret (.bool false)):=pK [0] 0 0 .nil (.l b .nil)
theorem aaM (a:List UInt8) (u1 u2:Int) (l:List Br) (b:l.length<2^40) (c:∀ x ∈ l,x.sm):CO 106 [.agg [.str a,.int .i64 u1,.int .i64 u2,.sl (eG l) l.length false]] (.ret (.bool (l.any sD))):=by
 have h:∀ nt,19≤nt→aF prog ap [] nt (ae 0 (af f106)) Eb (Stb a u1 u2 l) (adU a u1 u2 l) 0 (l.any sD):=fun nt e=>aki e a u1 u2 l b c l [] rfl
 cases d:l.any sD with
 |true=>rw [d] at h;exact aed a u1 u2 l (aF.blk h (by simp [Eb]) rfl (aK.of ⟨rfl,rfl,rfl,trivial⟩) (aK.of ⟨rfl,trivial⟩))
 |false=>rw [d] at h;exact aec a u1 u2 l (aF.blk h (by simp [Eb]) rfl (aK.of ⟨rfl,rfl,rfl,trivial⟩) (aK.of ⟨rfl,trivial⟩))
theorem NT (c:List UInt8) (u1 u2:Int) (l:List Br) (a:Int) (b:Bool) (cK_:CO 71 [.agg [.str c,.int .i64 u1,.int .i64 u2,.sl (eG l) l.length false]] (.ret (.int .i64 a))) (d:CO 106 [.agg [.str c,.int .i64 u1,.int .i64 u2,.sl (eG l) l.length false]] (.ret (.bool b))):CO 72 [.agg [.str c,.int .i64 u1,.int .i64 u2,.sl (eG l) l.length false]] (.ret (.bool (a==((0:Nat):Int) && !b))):=by
 rcases tf (a==((0:Nat):Int)) with b0|b0
 ·rw [b0,Bool.true_and]
  exact pK [] 1 1 (.k 4 (aC b0) (.n 4 .nil)) (.c d (.c cK_ .nil))
 ·rw [b0,Bool.false_and]
  exact pK [] 1 0 (.c (aB b0) (.n 4 .nil)) (.c cK_ .nil)
theorem KO (c:List UInt8) (u1 u2:Int) (l:List Br) (cmp:Br→Br→Int) (a:l.length<2^40) (b:∀ x ∈ l,x.sm) (d:rY 24 cmp l):CO 72 [.agg [.str c,.int .i64 u1,.int .i64 u2,.sl (eG l) l.length false]] (.ret (.bool (ZL cmp l==((0:Nat):Int) && !(l.any sD)))):=NT c u1 u2 l _ _ (D5 c u1 u2 l cmp a b d) (aaM c u1 u2 l a b)
structure Sq where
 nm:List UInt8
 u1:Int
 u2:Int
 l:List Br
def Sq.c (q:Sq):Sc:=⟨q.nm,q.u1,q.u2,eG q.l,q.l.length⟩
def H5:List AV→List Br
 | .bool a::.str b::.str c::.bool d::.str e::.str f::r=> ⟨a,b,c,d,e,f⟩::H5 r
 |_=> []
theorem BP:∀ l:List Br,H5 (eG l)=l
 | []=>rfl
 |x::r=>by
  show H5 (FT x++eG r)=_
  simp only [FT,List.cons_append,List.nil_append,H5,BP r]
def JF (cmp:Br→Br→Int) (x:Sc):Int:=ZL cmp (H5 x.bx)
def LG (cmp:Br→Br→Int) (x:Sc):Bool:=(ZL cmp (H5 x.bx)==((0:Nat):Int)) && !((H5 x.bx).any sD)
def Hm (f:Nat) (cmp:Br→Br→Int) (qs:List Sq):Prop:=∀ q ∈ qs,q.l.length<2^40∧(∀ x ∈ q.l,x.sm)∧rY f cmp q.l
theorem bZ (e:List Nd) (c:Bool) (qs:List Sq) (l:Bool) (cmp:Br→Br→Int) (f:Int) (a:List UInt8) (b:∀ y ∈ e,y.sm) (i:e.length<2^40) (d:qs.length<2^40) (o:Hm 129 cmp qs):
  CO 14 [.sl (aI e) e.length c,.sl (eX (qs.map Sq.c)) qs.length l,.int .i64 f,.str a] (.ret (.int .i64 ((jD (JF cmp) (LG cmp) e (qs.map Sq.c) f a:Nat):Int))):=by
 have h:=VE e c (qs.map Sq.c) l (JF cmp) (LG cmp) f a b i (by rw [List.length_map];exact d)
  (by
   intro x n
   obtain ⟨q,g,rfl⟩:=List.mem_map.1 n
   obtain ⟨m,j,k⟩:=o q g
   unfold JF LG
   rw [show H5 (Sq.c q).bx=q.l from BP q.l]
   exact ⟨Eh q.nm q.u1 q.u2 q.l cmp m j k,fun _=>Fh q.nm q.u1 q.u2 q.l cmp m j k⟩)
  (fun g=>ad2 e c (dG e) [] (by rw [show (dG e==((0:Nat):Int))=false from beq_eq_false_iff_ne.2 g];rfl) (B_ e c b))
 rw [List.length_map] at h
 exact h
theorem ut (e:List Nd) (c:Bool) (qs:List Sq) (l:Bool) (cmp:Br→Br→Int) (f:Int) (a:List UInt8) (b:∀ y ∈ e,y.sm) (i:e.length<2^40) (d:qs.length<2^40) (o:Hm 24 cmp qs):
  CO 15 [.sl (aI e) e.length c,.sl (eX (qs.map Sq.c)) qs.length l,.int .i64 f,.str a] (.ret (.int .i64 ((jD (JF cmp) (LG cmp) e (qs.map Sq.c) f a:Nat):Int))):=by
 have h:=Q3 e c (qs.map Sq.c) l (JF cmp) (LG cmp) f a b i (by rw [List.length_map];exact d)
  (by
   intro x n
   obtain ⟨q,g,rfl⟩:=List.mem_map.1 n
   obtain ⟨m,j,k⟩:=o q g
   unfold JF LG
   rw [show H5 (Sq.c q).bx=q.l from BP q.l]
   exact ⟨D5 q.nm q.u1 q.u2 q.l cmp m j k,fun _=>KO q.nm q.u1 q.u2 q.l cmp m j k⟩)
  (fun g=>abZ e c (dG e) [] 0 (by rw [show (dG e==((0:Nat):Int))=false from beq_eq_false_iff_ne.2 g];rfl) (zo e c b))
 rw [List.length_map] at h
 exact h
def Ed (so sp:List UInt8→Nat) (x:List UInt8):Bool:= !(decide (((1:Nat):Int)<((so x:Nat):Int))) && !(decide (((1:Nat):Int)<((sp x:Nat):Int)))
def Stn (e:List Nd) (ne:Bool) (sc:List Sc) (ns:Bool) (nl:List (List UInt8)) (nb:Bool) (k:Nat):St:=⟨[(0,.sl (aI e) e.length ne),(1,.sl (eX sc) sc.length ns),(2,.sl (List.map AV.str nl) nl.length nb),(7,.int .i64 (k:Int))],[],.dead,[]⟩
def adW (e:List Nd) (ne:Bool):Bool→St
 |true=> ⟨[(0,.sl (aI e) e.length ne)],[],.dead,[]⟩
 |false=> ⟨[(6,.bool false)],[],.dead,[]⟩
def En:Bool→bM
 |true=> .exit 0
 |false=> .ret
theorem Ri {a:List (List UInt8)} {k:Nat} (h:k<a.length):List.drop (Int.toNat (k:Int)*1) (List.map AV.str a)= [AV.str a[k]]++List.map AV.str (a.drop (k+1)):=by
 rw [aA,Nat.mul_one,← List.map_drop,List.drop_eq_getElem_cons h];rfl
theorem akk {nt:Nat} (g:39≤nt) (e:List Nd) (f:Bool) (c:List Sc) (q:Bool) (a:List (List UInt8)) (u:Bool) (i j:List UInt8→Nat) (s:a.length<2^40) (l:∀ x ∈ a,CO 15 [.sl (aI e) e.length f,.sl (eX c) c.length q,.int .i64 6,.str x] (.ret (.int .i64 ((i x:Nat):Int)))) (h:∀ x ∈ a,CO 15 [.sl (aI e) e.length f,.sl (eX c) c.length q,.int .i64 8,.str x] (.ret (.int .i64 ((j x:Nat):Int)))):∀ (r p:List (List UInt8)),p++r=a→
  aF prog ap [] nt (ae 0 (af f18)) En (Stn e f c q a u) (adW e f) p.length (r.all (Ed i j)):=by
 intro r
 induction r with
 |nil=>
  intro p hp
  rw [List.append_nil] at hp
  subst hp
  have h0:(decide ((p.length:Int)<(p.length:Int)))=false:=decide_eq_false (by omega)
  exact .done (pN 18 [] 1 0 (.c (aB h0) .nil) (.nil) g)
 | cons x r ih=>
  intro p hp
  have t:p.length<a.length:=by rw [← hp];simp
  have m:a[p.length]=x:=by subst hp;simp
  have b:=Ri t
  rw [m] at b
  have d:=ih (p++ [x]) (by rw [← hp];simp)
  rw [List.length_append,List.length_singleton] at d
  have n:=l x (by rw [← hp];simp)
  have o:=h x (by rw [← hp];simp)
  generalize p.length=k at*
  generalize List.map AV.str (a.drop (k+1))=rx at b
  have h0:(decide ((k:Int)<(a.length:Int)))=true:=decide_eq_true (by omega)
  have v:k<2^62:=by omega
  rcases tf (decide (((1:Nat):Int)<(((i x):Nat):Int))) with d0|d0
  ·simp only [List.all_cons,Ed,d0,Bool.not_true,Bool.not_false,Bool.true_and,Bool.false_and,Bool.and_true,Bool.and_false]
   exact .done (pN 18 [] 3 7 (.k 1 (aC d0) (.k 1 (aQ k) (.c h0 (.k 1 (aQ k) (.c h0 (.c (aC h0) .nil)))))) (.c o (.v 30 (.ppt b) (.c n (.v 23 (.ppt b) .nil)))) g)
  ·rcases tf (decide (((1:Nat):Int)<(((j x):Nat):Int))) with d1|d1
   ·simp only [List.all_cons,Ed,d0,d1,Bool.not_true,Bool.not_false,Bool.true_and,Bool.false_and,Bool.and_true,Bool.and_false]
    exact .done (pN 18 [] 3 5 (.c (aC d1) (.c (aB d0) (.k 1 (aQ k) (.c h0 (.k 1 (aQ k) (.c h0 (.c (aC h0) .nil))))))) (.c o (.v 30 (.ppt b) (.c n (.v 23 (.ppt b) .nil)))) g)
   ·simp only [List.all_cons,Ed,d0,d1,Bool.not_true,Bool.not_false,Bool.true_and,Bool.false_and,Bool.and_true,Bool.and_false]
    exact .next (pN 18 [] 3 1 (.c (aB d1) (.c (aB d0) (.k 1 (aQ k) (.c h0 (.k 1 (aQ k) (.c h0 (.c (aC h0) .nil))))))) (.v 18 (.eq (iZ v)) (.c o (.v 30 (.ppt b) (.c n (.v 23 (.ppt b) .nil))))) g) d
theorem acL (e:List Nd) (a:Bool) (b:List Sc) (f:Bool) (c:List (List UInt8)) (g:Bool) (w:Int) (z:(w==((0:Nat):Int))=false) (d:CO 48 [.sl (aI e) e.length a] (.ret (.int .i64 w))):CO 18 [.sl (aI e) e.length a,.sl (eX b) b.length f,.sl (List.map AV.str c) c.length g] (.ret (.bool false)):=pK [] 1 1 (.c (dJ z) .nil) (.c d .nil)
theorem acN (e:List Nd) (a:Bool) (b:List Sc) (d:Bool) (c:List (List UInt8)) (f:Bool) (w:Int) (z:(w==((0:Nat):Int))=true) (g:CO 48 [.sl (aI e) e.length a] (.ret (.int .i64 w))) (h:aH prog ap [] 39 (.block 0 (.loop (ae 0 (af f18)))) ⟨[(0,.sl (aI e) e.length a),(1,.sl (eX b) b.length d),(2,.sl (List.map AV.str c) c.length f),(6,.bool false),(7,.int .i64 0),(8,.dead),(9,.dead),(12,.bool (!(w==((0:Nat):Int)))),(16,.dead),(38,.dead)],[],.dead,[]⟩ (.normal) ⟨[(0,.sl (aI e) e.length a)],[],.dead,[]⟩):CO 18 [.sl (aI e) e.length a,.sl (eX b) b.length d,.sl (List.map AV.str c) c.length f] (.ret (.bool true)):=pK [0] 1 0 (.c (aS z) .nil) (.l h (.c g .nil))
theorem acM (e:List Nd) (c:Bool) (a:List Sc) (d:Bool) (b:List (List UInt8)) (f:Bool) (w:Int) (z:(w==((0:Nat):Int))=true) (g:CO 48 [.sl (aI e) e.length c] (.ret (.int .i64 w))) (h:aH prog ap [] 39 (.block 0 (.loop (ae 0 (af f18)))) ⟨[(0,.sl (aI e) e.length c),(1,.sl (eX a) a.length d),(2,.sl (List.map AV.str b) b.length f),(6,.bool false),(7,.int .i64 0),(8,.dead),(9,.dead),(12,.bool (!(w==((0:Nat):Int)))),(16,.dead),(38,.dead)],[],.dead,[]⟩ (.ret) ⟨[(6,.bool false)],[],.dead,[]⟩):CO 18 [.sl (aI e) e.length c,.sl (eX a) a.length d,.sl (List.map AV.str b) b.length f] (.ret (.bool false)):=pK [0] 1 0 (.c (aS z) .nil) (.l h (.c g .nil))
theorem IY (e:List Nd) (c:Bool) (b:List Sc) (d:Bool) (a:List (List UInt8)) (f:Bool) (g i:List UInt8→Nat) (m:∀ y ∈ e,y.sm) (j:a.length<2^40) (n:∀ x ∈ a,CO 15 [.sl (aI e) e.length c,.sl (eX b) b.length d,.int .i64 6,.str x] (.ret (.int .i64 ((g x:Nat):Int)))) (k:∀ x ∈ a,CO 15 [.sl (aI e) e.length c,.sl (eX b) b.length d,.int .i64 8,.str x] (.ret (.int .i64 ((i x:Nat):Int)))):
  CO 18 [.sl (aI e) e.length c,.sl (eX b) b.length d,.sl (List.map AV.str a) a.length f] (.ret (.bool ((dG e==((0:Nat):Int)) && a.all (Ed g i)))):=by
 have l:=zo e c m
 rcases tf (dG e==((0:Nat):Int)) with z|z
 ·rw [z,Bool.true_and]
  have h:∀ nt,39≤nt→aF prog ap [] nt (ae 0 (af f18)) En (Stn e c b d a f) (adW e c) 0 (a.all (Ed g i)):=fun nt p=>akk p e c b d a f g i j n k a [] rfl
  cases o:a.all (Ed g i) with
  |true=>rw [o] at h;exact acN e c b d a f _ z l (aF.blk h (by simp [En]) rfl (aK.of ⟨rfl,rfl,rfl,rfl,trivial⟩) (aK.of ⟨rfl,trivial⟩))
  |false=>rw [o] at h;exact acM e c b d a f _ z l (aF.blk h (by simp [En]) rfl (aK.of ⟨rfl,rfl,rfl,rfl,trivial⟩) (aK.of ⟨rfl,trivial⟩))
 ·rw [z,Bool.false_and]
  exact acL e c b d a f _ z l
end Go.Proofs.Tryz
open Go AM Go.RowKit Go.Shelf
namespace Go.Proofs.Tryz
attribute [local go_sem] Oper.semAt_some
theorem ng {W W':World} (h:Below W.heap.size W W'):mi (dW W) (dW W'):=by
 intro k o v a
 have b:=JC a
 rw [← a]
 unfold dW
 rw [h.block k b,World.cell?_of_block (h.block k b)]
theorem t_ {W W':World} (h:Below W.heap.size W W') (d:lQ ap (dW W)):lQ ap (dW W'):=by
 intro k c e
 obtain ⟨vs,f,a⟩:=d k c e
 exact ⟨vs,bP (ng h) _ f,fun j u b=> ⟨ng h _ _ _ (a j u b).1,(a j u b).2⟩⟩
theorem amF {W:World} (a:lQ ap (dW W)) (m:bf):bY ap (bI []) m (dW W) W:=
 ⟨fun b c B B' h=>by simp [bI] at h,fun b B h=>by simp [bI] at h,fun k o v h=>h,fun b B h=>by simp [bI] at h,a⟩
theorem uQ {f:Nat} {args:List AV} {d:IntKind} {x:Int} (m:CO f args (.ret (.int d x))) {W:World} (i:lQ ap (dW W)) {cargs:List Value} (l:dK (dW W) args cargs) {n:Nat}:
  CallsIn Fence.wide n prog f cargs.toArray W fun e W'=>e= .returned (.int d x)∧Below W.heap.size W W':=by
 refine callsIn_wide.2 ?_
 refine (m.calls (fun _=>(0,0)) (dW W) W cargs (amF i _) (bV _ l)).mono ?_
 rintro e W' ⟨m',S',hF⟩
 obtain ⟨_,a,c⟩:=hF
 obtain ⟨cv,rfl,g⟩:=c
 simp only [xk,VR,PR] at g
 subst g
 exact ⟨rfl,a.os,a.tape,a.output,a.size,fun k j=>a.rest k j fun b B h=>by simp [bI] at h⟩
theorem CV {W W':World} (h:Below W.heap.size W W') (a:Option Nat):W.grownBy W' a:=
 ⟨h.os,h.tape,h.output,h.size,fun k b _=>h.block k b⟩
def kV (f g:Nat→Int) (k:Nat):List Int:=(List.range k).flatMap fun j=> [f j,g j]
theorem rW (f g:Nat→Int) (k:Nat):kV f g (k+1)=kV f g k++ [f k]++ [g k]:=by simp [kV,List.range_succ]
theorem rV (f g:Nat→Int) (k:Nat):(kV f g k).length=2*k:=by
 induction k with
 |zero=>rfl
 |succ k ih=>rw [rW];simp [ih];omega
theorem RI (f g:Nat→Int) {k n:Nat} (h:k≤n):kV f g k<+:kV f g n:=by
 induction n with
 |zero=>
  obtain rfl:k=0:=by omega
  exact List.prefix_refl _
 |succ n ih=>
  by_cases hk:k=n+1
  ·subst hk;exact List.prefix_refl _
  ·exact (ih (by omega)).trans (by rw [rW,List.append_assoc];exact List.prefix_append _ _)
set_option maxRecDepth 100000 in
set_option maxHeartbeats 4000000 in
theorem N9 (n:Nat) (hn:2≤n) (l kn ke ks n₀ b off len cap:Nat) (E SC:AV) (ue us:Value) (ns:Nat→List UInt8) (so sp:Nat→Int) (hreach:len*16≤140737488351232)
  (hso:∀ k,k<len→CO 14 [E,SC,.int .i64 6,.str (ns k)] (.ret (.int .i64 (so k)))) (hsp:∀ k,k<len→CO 14 [E,SC,.int .i64 8,.str (ns k)] (.ret (.int .i64 (sp k))))
  (J Jx:List Int→World→Prop) (W:World) (hAJ:AbidesFrom W.heap.size J)
  (hY:∀ pre x W1,J pre W1→pre.length<2*len→YieldAt Fence.wide (n - 1) prog l #[.int .i64 x] W1 fun e W'=>
   (e= .returned (.bool true)∧J (pre++ [x]) W'∧Below n₀ W1 W')∨(e= .returned (.bool false)∧Jx (pre++ [x]) W'))
  (hn0:n₀≤W.heap.size) (hbn:b<n₀) (hkn:kn<n₀) (hke:ke<n₀) (hks:ks<n₀)
  (w0:World) (hw0:w0.heap.size=n₀) (hW:Below n₀ w0 W) (hg:lQ ap (dW w0)) (hpr:dK (dW w0) [E,SC] [ue,us])
  (cn:w0.cell? ⟨kn,0,none⟩=some (.slice (some ⟨b,off,none⟩) len cap)) (ce:w0.cell? ⟨ke,0,none⟩=some ue) (cs:w0.cell? ⟨ks,0,none⟩=some us)
  (hc:∀ j,j<len→w0.cell? ⟨b,off+j,none⟩=some (.string ⟨(ns j).toArray⟩)) (h0:J [] W):
  CallsIn Fence.wide n prog 73 #[.func (.yield l) #[] #[],.pointer (some ⟨kn,0,none⟩),.pointer (some ⟨ke,0,none⟩),.pointer (some ⟨ks,0,none⟩)] W fun e W'=>(∃ v,e= .returned v)∧
   ((∃ ys,ys=kV so sp len∧J ys W')∨(∃ pre,pre<+:kV so sp len∧Jx pre W')):=by
 have kee:∀ (w:World),Below n₀ w0 w→∀ (k j:Nat) (v:Value),k<n₀→w0.cell? ⟨k,j,none⟩=some v→w.cell? ⟨k,j,none⟩=some v:=fun w h k j v hk hv=>(Below.cell h (p:=⟨k,j,none⟩) hk).trans hv
 have cn':=kee _ hW _ _ _ hkn cn
 refine callsIn_of_wp Tryz.func73 rfl trivial ?_ rfl
 simp only [Tryz.ntmps73,List.size_toArray,List.length_cons,List.length_nil,Nat.reduceAdd,Nat.reduceSub,Array.replicate_succ,Array.replicate_zero,List.push_toArray,List.append_toArray,List.nil_append,List.cons_append]
 gi_wp2
 gi_loopw [9] (fun i wr=> ∃ k:Nat,k≤len∧i= .int .i64 k∧J (kV so sp k) wr∧Below n₀ w0 wr∧W.heap.size≤wr.heap.size)
  (fun i _=>len - (intOf i).toNat)
 case atStart=>exact ⟨0,Nat.zero_le _,rfl,h0,hW,Nat.le_refl _⟩
 case round=>
  obtain ⟨k,hk,rfl,hJs,hnx,hsz⟩:=hrel
  have hcx:k<len→wr.cell? ⟨b,off+k,none⟩=some (.string ⟨(ns k).toArray⟩):=fun h=>kee _ hnx _ _ _ hbn (hc k h)
  have ce1:=kee _ hnx _ _ _ hke ce
  have cs1:=kee _ hnx _ _ _ hks cs
  by_cases hlt:k<len
  ·have hcx':=hcx hlt
   have bW1:∀ (w:World),Below n₀ w0 w→Below w0.heap.size w0 w:=fun w h=>by rw [hw0];exact h
   have PR4:∀ (w:World) (op:Int),Below n₀ w0 w→dK (dW w) [E,SC,.int .i64 op,.str (ns k)] [ue,us,.int .i64 op,.string ⟨(ns k).toArray⟩]:=fun w op h=>by
    have h2:=bP (ng (bW1 w h)) _ hpr
    simp only [dK,PR] at h2 ⊢
    exact ⟨h2.1,h2.2.1,trivial,trivial,trivial⟩
   have LE1:kV so sp len=kV so sp k++ [so k]++ [sp k]++(kV so sp len).drop (2*(k+1)):=by
    rw [← rW]
    obtain ⟨r,hr⟩:=RI so sp (show k+1≤len by omega)
    conv=>rhs;rw [← hr]
    rw [List.drop_left' (rV ..)]
    exact hr.symm
   have hf14:Fence.wide.fn 14:=trivial
   have h1n:1≤n:=by omega
   gi_wp2_with (gi_at_call 14;refine (uQ (hso k hlt) (t_ (bW1 _ hnx) hg) (PR4 _ 6 hnx)).mono ?_;rintro e W1 ⟨rfl,hb1⟩;have hJ1:=hAJ _ _ _ none hJs (CV hb1 none) (fun r e=>by cases e);have hnx1:Below n₀ w0 W1:=hnx.trans (hb1.mono (by omega));obtain ⟨fn,tmps,assign,body,hy,hR⟩:=hY _ (so k) W1 hJ1 (by rw [rV];omega))
   refine hR.mono ?_
   rintro e W3 (⟨rfl,hJ3,hk3⟩|⟨rfl,hJx3⟩)
   ·have hnx3:=hnx1.trans hk3
    have ce3:=kee _ hnx3 _ _ _ hke ce
    have cs3:=kee _ hnx3 _ _ _ hks cs
    gi_wp2_with (gi_at_call 14;refine (uQ (hsp k hlt) (t_ (bW1 _ hnx3) hg) (PR4 _ 8 hnx3)).mono ?_;rintro e W4 ⟨rfl,hb4⟩;have hJ4:=hAJ _ _ _ none hJ3 (CV hb4 none) (fun r e=>by cases e);have hnx4:Below n₀ w0 W4:=hnx3.trans (hb4.mono (by rw [← hw0];exact hnx3.size));obtain ⟨fn4,tmps4,assign4,body4,hy4,hR4⟩:=hY _ (sp k) W4 hJ4 (by rw [List.length_append,rV,List.length_singleton];omega))
    refine hR4.mono ?_
    rintro e W5 (⟨rfl,hJ5,hk5⟩|⟨rfl,hJx5⟩)
    ·gi_wp2
     go_roundw
     case rel=>exact ⟨k+1,by omega,by simp,by rw [rW];exact hJ5,hnx4.trans hk5,by have:=hb1.size;have:=hk3.size;have:=hb4.size;have:=hk5.size;omega⟩
     case measure=>simp [intOf];omega
    ·gi_wp2
     refine bodyPost_ret (results_none rfl _ _ _) rfl ?_
     exact ⟨⟨_,rfl⟩,.inr ⟨_,by rw [LE1];exact List.prefix_append _ _,hJx5⟩⟩
   ·gi_wp2_with (refine ⟨fun _ _=>trivial, ?_⟩)
    refine bodyPost_ret (results_none rfl _ _ _) rfl ?_
    exact ⟨⟨_,rfl⟩,.inr ⟨_,by rw [LE1,List.append_assoc];exact List.prefix_append _ _,hJx3⟩⟩
  ·obtain rfl:k=len:=by omega
   gi_wp2
   go_end0
   exact ⟨⟨_,rfl⟩,.inl ⟨_,rfl,hJs⟩⟩
attribute [local go_sem] Oper.semAt_some
theorem Q7 (a1 a2 a3:Option Addr) (l1 l2 l3 c1 c2 c3:Nat) (n:Nat) (w:World):
  CallsIn Fence.wide n prog 47 #[.slice a1 l1 c1,.slice a2 l2 c2,.slice a3 l3 c3] w fun e w'=>e= .returned (.func (.func 73) #[] #[.pointer (some ⟨w.heap.size+2,0,none⟩),.pointer (some ⟨w.heap.size,0,none⟩),.pointer (some ⟨w.heap.size+1,0,none⟩)])∧w'=((w.alloc (.cells #[.slice a1 l1 c1] 25)).alloc (.cells #[.slice a2 l2 c2] 27)).alloc (.cells #[.slice a3 l3 c3] 29):=by
 refine callsIn_of_wp Tryz.func47 rfl trivial ?_ rfl
 simp only [Tryz.ntmps47,List.size_toArray,List.length_cons,List.length_nil,Nat.reduceAdd,Nat.reduceSub,Array.replicate_succ,Array.replicate_zero,List.push_toArray,List.append_toArray,List.nil_append,List.cons_append]
 gi_wp2
 go_ret
 refine ⟨?_,rfl⟩
 simp
theorem Vl {w:World} {tmps:Array Value} {k:Nat} {b:Bool} (f:tmps.getD 6 undef= .pointer (some ⟨k,0,none⟩)) (d:w.cell? ⟨k,0,none⟩=some (.bool b)):(results f17 tmps).run prog w= .ok (.bool b) w:=by
 refine uz (vs:= [.bool b]) rfl ?_
 intro i r v c a
 match i with
 | 0=>
  simp only [List.getElem?_cons_zero,Option.some.injEq] at a
  subst a
  have:r= .cell 6 4:=by
   have h0:f17.results.toList[0]? =some (.cell 6 4):=rfl
   rw [h0] at c;exact (Option.some.inj c).symm
  subst this
  have e:prog.underlying 4=some .bool:=by kernel_rfl
  simp only [GV,f]
  simp [asAddr,loadVar,e,d,go_sem]
 |n+1=>simp at a
theorem QY (E:AV) (x:Int) (hx:x ≠ 0) (hck:CO 21 [E] (.ret (.int .i64 x))) (n:Nat) (hn:3≤n) (ue us un:Value) (w:World) (hg:lQ ap (dW w)) (hpr:dK (dW w) [E] [ue]):
  CallsIn Fence.wide n prog 17 #[ue,us,un] w fun e w'=>e= .returned (.bool false)∧Below w.heap.size w w':=by
 have h21:Fence.wide.fn 21:=trivial
 have h1n:1≤n:=by omega
 have ha:Below w.heap.size w (w.alloc (.cells #[.bool false] 4)):=(Below.refl _ w).alloc (Nat.le_refl _) _
 have hx':decide (x=0)=false:=decide_eq_false hx
 refine callsIn_of_wp_marks Tryz.func17 rfl trivial ?_ rfl
 simp only [Tryz.ntmps17,List.size_toArray,List.length_cons,List.length_nil,Nat.reduceAdd,Nat.reduceSub,Array.replicate_succ,Array.replicate_zero,List.push_toArray,List.append_toArray,List.nil_append,List.cons_append]
 gi_wp2_with (gi_at_call 21;refine (uQ hck (t_ ha hg) (bP (ng ha) _ hpr)).mono ?_;rintro e W1 ⟨rfl,hb1⟩;have hc1:=(hb1.cell (p:=⟨w.heap.size,0,none⟩) (by simp)).trans (show (w.alloc (.cells #[.bool false] 4)).cell? ⟨w.heap.size,0,none⟩=some (.bool false) by simp);have hf1:=(hb1.frozen (p:=⟨w.heap.size,0,none⟩) (by simp)).trans (show (w.alloc (.cells #[.bool false] 4)).frozen? ⟨w.heap.size,0,none⟩=false by simp))
 exact ⟨_,Vl rfl (World.cell?_setCell_same' _ _ _ (by rw [hc1];rfl)),rfl,(ha.trans (hb1.mono (by simp))).setCell (p:=⟨w.heap.size,0,none⟩) (Nat.le_refl _) _⟩
attribute [local go_sem] Oper.semAt_some
set_option maxRecDepth 100000 in
set_option maxHeartbeats 1000000 in
theorem La (n:Nat) (l kn ke ks cap:Nat) (an:Option Addr) (so sp:Nat→Int) (J Jx:List Int→World→Prop) (W:World) (cn:W.cell? ⟨kn,0,none⟩=some (.slice an 0 cap)) (h0:J [] W):
  CallsIn Fence.wide n prog 73 #[.func (.yield l) #[] #[],.pointer (some ⟨kn,0,none⟩),.pointer (some ⟨ke,0,none⟩),.pointer (some ⟨ks,0,none⟩)] W fun e W'=>(∃ v,e= .returned v)∧
   ((∃ ys,ys=kV so sp 0∧J ys W')∨(∃ pre,pre<+:kV so sp 0∧Jx pre W')):=by
 refine callsIn_of_wp Tryz.func73 rfl trivial ?_ rfl
 simp only [Tryz.ntmps73,List.size_toArray,List.length_cons,List.length_nil,Nat.reduceAdd,Nat.reduceSub,Array.replicate_succ,Array.replicate_zero,List.push_toArray,List.append_toArray,List.nil_append,List.cons_append]
 gi_wp2
 gi_loopw [9] (fun i wr=>i= .int .i64 0∧J [] wr) (fun _ _=>0)
 case atStart=>exact ⟨rfl,h0⟩
 case round=>
  obtain ⟨rfl,hJs⟩:=hrel
  gi_wp2
  go_end0
  exact ⟨⟨_,rfl⟩,.inl ⟨_,rfl,hJs⟩⟩
theorem I9 (n:Nat) (C:2≤n) (f g ks b c d:Nat) (t:Option Addr) (E SC:AV) (u q:Value) (a:List (List UInt8)) (i o:List UInt8→Int) (hreach:a.length*16≤140737488351232)
  (hso:∀ s ∈ a,CO 14 [E,SC,.int .i64 6,.str s] (.ret (.int .i64 (i s)))) (hsp:∀ s ∈ a,CO 14 [E,SC,.int .i64 8,.str s] (.ret (.int .i64 (o s))))
  (w:World) (hg:lQ ap (dW w)) (hpr:dK (dW w) [E,SC] [u,q]) (hkn:f<w.heap.size) (hke:g<w.heap.size) (hks:ks<w.heap.size)
  (cn:w.cell? ⟨f,0,none⟩=some (.slice t a.length d)) (ce:w.cell? ⟨g,0,none⟩=some u) (cs:w.cell? ⟨ks,0,none⟩=some q)
  (hc:0<a.length→t=some ⟨b,c,none⟩∧b<w.heap.size∧∀ j,j<a.length→w.cell? ⟨b,c+j,none⟩=some (.string ⟨((a[j]?).getD []).toArray⟩)):
  SeqStopsK Fence.wide n prog 73 #[.pointer (some ⟨f,0,none⟩),.pointer (some ⟨g,0,none⟩),.pointer (some ⟨ks,0,none⟩)] (fun x:Int=> #[Value.int .i64 x]) (Below w.heap.size)
   (fun A=>A=kV (fun k=>i ((a[k]?).getD [])) (fun k=>o ((a[k]?).getD [])) a.length) (fun pre=>pre<+:kV (fun k=>i ((a[k]?).getD [])) (fun k=>o ((a[k]?).getD [])) a.length) (2*a.length) w:=by
 intro l J Jx W m y _ B h0
 have v:∀ k,k<a.length→(a[k]?).getD [] ∈ a:=fun k e=>by rw [List.getElem?_eq_getElem e];exact List.getElem_mem e
 by_cases h:0<a.length
 ·obtain ⟨rfl,z,r⟩:=hc h
  exact N9 n C l f g ks w.heap.size b c a.length d E SC u q (fun k=>(a[k]?).getD []) _ _ hreach (fun k e=>hso _ (v k e)) (fun k e=>hsp _ (v k e)) J Jx W y B m.size z hkn hke hks w rfl m hg hpr cn ce cs r h0
 ·have D:a.length=0:=by omega
  rw [D] at cn ⊢
  exact La n l f g ks d t _ _ J Jx W ((m.cell (p:=⟨f,0,none⟩) hkn).trans cn) h0
set_option maxRecDepth 100000 in
set_option maxHeartbeats 2000000 in
theorem NZ (E SC:AV) (hck:CO 21 [E] (.ret (.int .i64 0))) (ns:List (List UInt8)) (so sp:List UInt8→Int) (hreach:ns.length*16≤140737488351232)
  (hso:∀ s ∈ ns,CO 14 [E,SC,.int .i64 6,.str s] (.ret (.int .i64 (so s)))) (hsp:∀ s ∈ ns,CO 14 [E,SC,.int .i64 8,.str s] (.ret (.int .i64 (sp s)))) (n:Nat) (hn:4≤n)
  (a1 a2 an:Option Addr) (l1 l2 c1 c2 cap b off:Nat) (w:World) (hg:lQ ap (dW w)) (hpr:dK (dW w) [E,SC] [.slice a1 l1 c1,.slice a2 l2 c2])
  (hc:0<ns.length→an=some ⟨b,off,none⟩∧∀ j,j<ns.length→w.cell? ⟨b,off+j,none⟩=some (.string ⟨((ns[j]?).getD []).toArray⟩)):
  CallsIn Fence.wide n prog 17 #[.slice a1 l1 c1,.slice a2 l2 c2,.slice an ns.length cap] w fun e w'=>e= .returned (.bool ((kV (fun k=>so ((ns[k]?).getD [])) (fun k=>sp ((ns[k]?).getD [])) ns.length).all fun x=>decide (x≤1)))∧Below w.heap.size w w':=by
 have h21:Fence.wide.fn 21:=trivial
 have h47:Fence.wide.fn 47:=trivial
 have h1n:1≤n:=by omega
 have ha:Below w.heap.size w (w.alloc (.cells #[.bool false] 4)):=(Below.refl _ w).alloc (Nat.le_refl _) _
 have hpe:dK (dW w) [E] [.slice a1 l1 c1]:=by simp only [dK] at hpr ⊢;exact ⟨hpr.1,trivial⟩
 refine callsIn_of_wp_marks Tryz.func17 rfl trivial ?_ rfl
 simp only [Tryz.ntmps17,List.size_toArray,List.length_cons,List.length_nil,Nat.reduceAdd,Nat.reduceSub,Array.replicate_succ,Array.replicate_zero,List.push_toArray,List.append_toArray,List.nil_append,List.cons_append]
 gi_wp2_with (first
  |(gi_at_call 21;refine (uQ hck (t_ ha hg) (bP (ng ha) _ hpe)).mono ?_;rintro e W1 ⟨rfl,hb1⟩)
  |(gi_at_call 47;refine (Q7 a1 a2 an l1 l2 ns.length c1 c2 cap _ _).mono ?_;rintro e W2 ⟨rfl,rfl⟩)
  |gi_in)
 obtain ⟨W3,hW3⟩:∃ W3,((W1.alloc (.cells #[.slice a1 l1 c1] 25)).alloc (.cells #[.slice a2 l2 c2] 27)).alloc (.cells #[.slice an ns.length cap] 29)=W3:=⟨_,rfl⟩
 rw [hW3]
 have hs3:W3.heap.size=W1.heap.size+3:=by rw [← hW3];simp
 have hb3:Below W1.heap.size W1 W3:=by rw [← hW3];exact (((Below.refl _ W1).alloc (Nat.le_refl _) _).alloc (by simp) _).alloc (by simp;omega) _
 have hs1:w.heap.size+1≤W1.heap.size:=by have:=hb1.size;simpa using this
 have hwW1:Below w.heap.size w W1:=ha.trans (hb1.mono (by simp))
 have hw3:Below w.heap.size w W3:=hwW1.trans (hb3.mono (by omega))
 have k1:W3.cell? ⟨W1.heap.size,0,none⟩=some (.slice a1 l1 c1):=by rw [← hW3];exact (((Boxed.new W1 25 (.slice a1 l1 c1)).alloc _).alloc _).cell
 have k2:W3.cell? ⟨W1.heap.size+1,0,none⟩=some (.slice a2 l2 c2):=by
  have:=((Boxed.new (W1.alloc (.cells #[.slice a1 l1 c1] 25)) 27 (.slice a2 l2 c2)).alloc (.cells #[.slice an ns.length cap] 29)).cell
  rw [World.size_alloc] at this
  rw [← hW3];exact this
 have k3:W3.cell? ⟨W1.heap.size+2,0,none⟩=some (.slice an ns.length cap):=by
  have:=(Boxed.new ((W1.alloc (.cells #[.slice a1 l1 c1] 25)).alloc (.cells #[.slice a2 l2 c2] 27)) 29 (.slice an ns.length cap)).cell
  rw [World.size_alloc,World.size_alloc] at this
  rw [← hW3];exact this
 have kc:W3.cell? ⟨w.heap.size,0,none⟩=some (.bool false):=((hb3.cell (p:=⟨w.heap.size,0,none⟩) hs1).trans (hb1.cell (p:=⟨w.heap.size,0,none⟩) (by simp))).trans (Boxed.new w 4 (.bool false)).cell
 have kf:W3.frozen? ⟨w.heap.size,0,none⟩=false:=((hb3.frozen (p:=⟨w.heap.size,0,none⟩) hs1).trans (hb1.frozen (p:=⟨w.heap.size,0,none⟩) (by simp))).trans (Boxed.new w 4 (.bool false)).frozen
 have hc3:0<ns.length→an=some ⟨b,off,none⟩∧b<W3.heap.size∧∀ j,j<ns.length→W3.cell? ⟨b,off+j,none⟩=some (.string ⟨((ns[j]?).getD []).toArray⟩):=by
  intro h
  obtain ⟨h1,h2⟩:=hc h
  have hbl:b<w.heap.size:=World.block_lt_of_cell? w ⟨b,off+0,none⟩ (h2 0 h)
  exact ⟨h1,by omega,fun j hj=>(hw3.cell (p:=⟨b,off+j,none⟩) hbl).trans (h2 j hj)⟩
 have oB:∀ {A B:World} {row:Option Nat},Below w.heap.size w A→A.grownBy B row→(∀ r,row=some r→W3.heap.size≤r∧∃ o:Obj,A.heap[r]? =some o∧o.isCells=false)→Below w.heap.size w B:=
  fun h hg hr=>ownFrom_below (β:=Unit) (n₀:=w.heap.size) (B:=W3.heap.size) (w₀:=w) (Nat.le_refl _) hw3.size () _ _ _ h hg hr
 have oC:∀ {A:World} {D:Nat} {o:Obj} {v:Value},W3.heap.size≤D→A.cell? ⟨w.heap.size,0,none⟩=some v→(A.putObj D o).cell? ⟨w.heap.size,0,none⟩=some v:=
  fun {A D o v} hD hv=>(World.cell?_of_block (World.putObj_heap_other (show w.heap.size ≠ D by omega))).trans hv
 have pB:∀ {A:World} {D:Nat} {o:Obj},W3.heap.size≤D→Below w.heap.size w A→Below w.heap.size w (A.putObj D o):=
  fun {A D o} hD h=>h.trans ((Below.refl _ A).grown (grownBy_putObj' A D o) h.size (fun k e=>by cases e;omega))
 refine wpIn_rangeFunc_ownF rfl h1n (gf:=73) (lb:=#[.pointer (some ⟨W1.heap.size+2,0,none⟩),.pointer (some ⟨W1.heap.size,0,none⟩),.pointer (some ⟨W1.heap.size+1,0,none⟩)]) rfl trivial (enters_of Tryz.func73 (by kernel_rfl) rfl)
  (I9 (n - 1) (by omega) (W1.heap.size+2) W1.heap.size (W1.heap.size+1) b off cap an E SC _ _ ns so sp hreach hso hsp W3 (t_ hw3 hg) (bP (ng hw3) _ hpr) (by omega) (by omega) (by omega) k3 k1 k2 hc3)
  (fun h k=>h.trans k) (fun W l o o' hl h hc hw=>belowK_b (Nat.le_refl _) W l o o' hl h hc hw) (Below.refl _ _) (fun _=>rfl)
  (fun pre W=>(∀ x ∈ pre,x≤1)∧W.cell? ⟨w.heap.size,0,none⟩=some (.bool false)∧W.frozen? ⟨w.heap.size,0,none⟩=false∧Below w.heap.size w W)
  (fun c pre W=>c= .ret∧(∃ x ∈ pre,¬ x≤1)∧W.cell? ⟨w.heap.size,0,none⟩=some (.bool false)∧Below w.heap.size w W)
  (fun s A B row hs hg hr=> ⟨hs.1,cell_kept hs.2.1 hg (fun r e=>(hr r e).2),(frozen_kept hs.2.1 hg (fun r e=>(hr r e).2)).trans hs.2.2.1,oB hs.2.2.2 hg hr⟩)
  (fun c s A B row hs hg hr=> ⟨hs.1,hs.2.1,cell_kept hs.2.2.1 hg (fun r e=>(hr r e).2),oB hs.2.2.2 hg hr⟩)
  ⟨by simp,kc,kf,hw3⟩
  (fun x=> {tmps:=#[.slice a1 l1 c1,.slice a2 l2 c2,.slice an ns.length cap,undef,undef,undef,.pointer (some ⟨w.heap.size,0,none⟩),.int .i64 x,.slice a1 l1 c1,.int .i64 0,.bool false,.slice a1 l1 c1,.slice a2 l2 c2,.slice an ns.length cap,.func (.func 73) #[] #[.pointer (some ⟨W1.heap.size+2,0,none⟩),.pointer (some ⟨W1.heap.size,0,none⟩),.pointer (some ⟨W1.heap.size+1,0,none⟩)],.int .i64 x,undef,undef],defers:= []}) ?assign ?body ?done ?stop
 case assign=>
  intro l x W K hK
  gi_wp2
  exact hK
 case body=>
  rintro l pre x W ⟨hp,hcW,hfW,hbW⟩ _
  by_cases hx:x≤1
  ·have hx1:¬ (1<x):=by omega
   gi_wp2
   exact ⟨KeepsOthers.refl _,Below.refl _ _,(fun y hy=>by rcases List.mem_append.1 hy with h|h;exact hp y h;rw [List.mem_singleton.1 h];exact hx),hcW,hfW,hbW⟩
  ·have hx1:1<x:=by omega
   gi_wp2
   exact ⟨KeepsOthers.setCell _ _ _,rfl,⟨x,by simp,hx⟩,World.cell?_setCell_same' _ _ _ (by rw [hcW];rfl),hbW.setCell (p:=⟨w.heap.size,0,none⟩) (Nat.le_refl _) _⟩
 case done=>
  rintro D xs W hD rfl ⟨hp,hcW,hfW,hbW⟩ hK
  gi_wp2
  have hK':(W.setCell ⟨w.heap.size,0,none⟩ (.bool true)).heap[D]? =some (.deferred (some [])):=(Below.heap_setCell W ⟨w.heap.size,0,none⟩ (.bool true) D (by show D ≠ w.heap.size;omega)).trans hK
  refine ⟨by simp,.inl ⟨_,_,rfl,run_takeDeferred hK', ?_⟩⟩
  refine ⟨_,Vl rfl (oC hD (World.cell?_setCell_same' _ _ _ (by rw [hcW];rfl))), ?_,pB hD (hbW.setCell (p:=⟨w.heap.size,0,none⟩) (Nat.le_refl _) _)⟩
  congr 2
  exact (List.all_eq_true.2 fun x hx=>decide_eq_true (hp x hx)).symm
 case stop=>
  rintro D c pre W hD hSp ⟨rfl,⟨x,hx,hx1⟩,hcW,hbW⟩ hK
  gi_wp2
  refine ⟨by simp,.inl ⟨_,_,rfl,run_takeDeferred hK, ?_⟩⟩
  refine ⟨_,Vl rfl (oC hD hcW), ?_,pB hD hbW⟩
  congr 2
  obtain ⟨r,hr⟩:=hSp
  symm
  rw [Bool.eq_false_iff]
  intro h
  rw [← hr] at h
  have h2:=of_decide_eq_true (List.all_eq_true.1 h x (List.mem_append.2 (.inl hx)))
  omega
def XF (x:AV):Prop:=x= .nilS∨∃ l n b,x= .sl l n b
theorem XF.val {S:aW} {x:AV} {v:Value} (h:XF x) (d:PR S x v):∃ a l c,v= .slice a l c:=by
 rcases h with rfl|⟨l,n,b,rfl⟩
 ·simp only [PR] at d;exact ⟨_,_,_,d⟩
 ·simp only [PR] at d;obtain ⟨a,e,rfl,_⟩:=d;exact ⟨_,_,_,rfl⟩
def VM (ns:List (List UInt8)) (b:Bool):AV:= .sl (ns.map .str) ns.length b
theorem VN {S:aW} {e:List (List UInt8)} {b:Bool} {v:Value} (f:PR S (VM e b) v):∃ an d k c,v= .slice an e.length d∧(0<e.length→an=some ⟨k,c,none⟩∧∀ j,j<e.length→S k (c+j)=some (.string ⟨((e[j]?).getD []).toArray⟩)):=by
 simp only [VM,PR] at f
 obtain ⟨a,d,rfl,_,h⟩:=f
 rcases h with ⟨rfl,_,h,_⟩|⟨k,c,vs,rfl,n,g⟩
 ·exact ⟨none,d,0,0,rfl,fun m=>by have:=congrArg List.length h;simp at this;subst this;simp at m⟩
 ·refine ⟨_,d,k,c,rfl,fun _=> ⟨rfl,fun j l=> ?_⟩⟩
  obtain ⟨u,i,hp⟩:=Oz n j (x:= .str ((e[j]?).getD [])) (by rw [List.getElem?_map,List.getElem?_eq_getElem l];rfl)
  simp only [PR] at hp
  rw [← hp]
  exact (g j u i).1
theorem ajo:yI prog 17:=enters_of Tryz.func17 (by kernel_rfl) rfl
theorem Eg {args:List AV} {b:Bool} (h:∀ w cargs,lQ ap (dW w)→dK (dW w) args cargs→CallsIn Fence.wide 9 prog 17 cargs.toArray w fun e w'=>e= .returned (.bool b)∧Below w.heap.size w w'):CO 17 args (.ret (.bool b)):=by
 refine ⟨Nat.le_refl _,ajo, ?_⟩
 intro m S w cargs d n
 have a:mi S (dW w):=fun k o v c=>d.sealed k o v c
 have l:lQ ap (dW w):=by
  intro k i c
  obtain ⟨vs,p,f⟩:=d.glob k i c
  exact ⟨vs,bP a _ p,fun j u g=> ⟨a _ _ _ (f j u g).1,(f j u g).2⟩⟩
 refine (callsIn_wide.1 (h w cargs l (bP a _ (kw (m:=m) _ n)))).mono ?_
 rintro e w' ⟨rfl,hb⟩
 refine ⟨m,S, ?_, ?_,⟨_,rfl, ?_⟩⟩
 ·exact ⟨fun b q B B' h=>by simp [bI,kT,jZ] at h,fun b B h=>by simp [bI,kT,jZ] at h,fun k o v h=>ng hb k o v (a k o v h),fun b B h=>by simp [bI,kT,jZ] at h,d.glob⟩
 ·exact ⟨Ge.refl _ _,mi.refl S,hb.os,hb.tape,hb.output,hb.size,fun k c _=>hb.block k c,fun _ B h=>by simp [bI,kT,jZ] at h,fun _ _ _ h=> .inl h⟩
 ·simp only [xk,VR,PR]
theorem Vo (E SC NM:AV) (x:Int) (c:x ≠ 0) (b:CO 21 [E] (.ret (.int .i64 x))):CO 17 [E,SC,NM] (.ret (.bool false)):=by
 refine Eg fun w cargs d a=> ?_
 match cargs,a with
 | [ue,us,un],a=>
  simp only [dK] at a
  exact QY E x c b 9 (by omega) ue us un w d (by simp only [dK];exact ⟨a.1,trivial⟩)
theorem Vp (E SC:AV) (b:Bool) (t:XF E) (n:XF SC) (m:CO 21 [E] (.ret (.int .i64 0))) (a:List (List UInt8)) (d c:List UInt8→Int) (hreach:a.length*16≤140737488351232)
  (hso:∀ s ∈ a,CO 14 [E,SC,.int .i64 6,.str s] (.ret (.int .i64 (d s)))) (hsp:∀ s ∈ a,CO 14 [E,SC,.int .i64 8,.str s] (.ret (.int .i64 (c s)))):
  CO 17 [E,SC,VM a b] (.ret (.bool (a.all fun s=>decide (d s≤1) && decide (c s≤1)))):=by
 have e:(a.all fun s=>decide (d s≤1) && decide (c s≤1))=(kV (fun k=>d ((a[k]?).getD [])) (fun k=>c ((a[k]?).getD [])) a.length).all fun x=>decide (x≤1):=by
  have:a=(List.range a.length).map fun k=>(a[k]?).getD []:=by
   apply List.ext_getElem
   ·simp
   ·intro i g l;simp [List.getElem?_eq_getElem g]
  conv=>lhs;rw [this]
  simp [kV,List.all_flatMap,List.all_map,Function.comp_def]
 rw [e]
 refine Eg fun w cargs A f=> ?_
 match cargs,f with
 | [ue,us,un],f=>
  simp only [dK] at f
  obtain ⟨g,l,r,_⟩:=f
  obtain ⟨D,B,z,rfl⟩:=t.val g
  obtain ⟨F,v,C,rfl⟩:=n.val l
  obtain ⟨u,p,k,o,rfl,q⟩:=VN r
  exact NZ E SC m a d c hreach hso hsp 9 (by omega) D F u B v z C p k o w A (by simp only [dK];exact ⟨g,l,trivial⟩) fun h=> ⟨(q h).1,fun j y=>uK ((q h).2 j y) rfl⟩
end Go.Proofs.Tryz
set_option maxRecDepth 100000
open Go AM
namespace Go.Proofs.Tryz
theorem YM (b a:List UInt8→Nat) (x:List UInt8):Ed b a x=(decide (((b x:Nat):Int)≤1) && decide (((a x:Nat):Int)≤1)):=by
 unfold Ed
 congr 1
 ·by_cases h:((b x:Nat):Int)≤1
  ·rw [decide_eq_true h,decide_eq_false (by omega)];rfl
  ·rw [decide_eq_false h,decide_eq_true (by omega)];rfl
 ·by_cases h:((a x:Nat):Int)≤1
  ·rw [decide_eq_true h,decide_eq_false (by omega)];rfl
  ·rw [decide_eq_false h,decide_eq_true (by omega)];rfl
def I8 (cmp:Br→Br→Int) (e:List Nd) (qs:List Sq) (nl:List (List UInt8)):Bool:=
 (dG e==((0:Nat):Int)) && nl.all (Ed (fun x=>jD (JF cmp) (LG cmp) e (qs.map Sq.c) 6 x) (fun x=>jD (JF cmp) (LG cmp) e (qs.map Sq.c) 8 x))
theorem lw (e:List Nd) (c:Bool) (qs:List Sq) (g:Bool) (cmp:Br→Br→Int) (a:List (List UInt8)) (j:Bool) (b:∀ y ∈ e,y.sm) (f:e.length<2^40) (d:qs.length<2^40) (i:Hm 129 cmp qs) (k:a.length<2^40):
  CO 17 [.sl (aI e) e.length c,.sl (eX (qs.map Sq.c)) qs.length g,.sl (List.map AV.str a) a.length j] (.ret (.bool (I8 cmp e qs a))):=by
 have ck:=B_ e c b
 unfold I8
 by_cases hq:dG e=0
 ·rw [hq] at ck
  have h:=Vp (.sl (aI e) e.length c) (.sl (eX (qs.map Sq.c)) qs.length g) j (.inr ⟨_,_,_,rfl⟩) (.inr ⟨_,_,_,rfl⟩) ck a
   (fun x=>((jD (JF cmp) (LG cmp) e (qs.map Sq.c) 6 x:Nat):Int)) (fun x=>((jD (JF cmp) (LG cmp) e (qs.map Sq.c) 8 x:Nat):Int)) (by omega)
   (fun x _=>bZ e c qs g cmp 6 x b f d i) (fun x _=>bZ e c qs g cmp 8 x b f d i)
  rw [hq,show ((0:Int)==((0:Nat):Int))=true from rfl,Bool.true_and]
  rw [show a.all (Ed (fun x=>jD (JF cmp) (LG cmp) e (qs.map Sq.c) 6 x) (fun x=>jD (JF cmp) (LG cmp) e (qs.map Sq.c) 8 x))=a.all fun s=>decide (((jD (JF cmp) (LG cmp) e (qs.map Sq.c) 6 s:Nat):Int)≤1) && decide (((jD (JF cmp) (LG cmp) e (qs.map Sq.c) 8 s:Nat):Int)≤1) from by congr 1;funext x;exact YM _ _ x]
  exact h
 ·rw [show (dG e==((0:Nat):Int))=false from beq_eq_false_iff_ne.2 hq,Bool.false_and]
  exact Vo _ _ _ (dG e) hq ck
theorem Wu (e:List Nd) (f:Bool) (qs:List Sq) (g:Bool) (cmp:Br→Br→Int) (c:List (List UInt8)) (j:Bool) (a:∀ y ∈ e,y.sm) (d:e.length<2^40) (b:qs.length<2^40) (i:Hm 24 cmp qs) (k:c.length<2^40):
  CO 18 [.sl (aI e) e.length f,.sl (eX (qs.map Sq.c)) qs.length g,.sl (List.map AV.str c) c.length j] (.ret (.bool (I8 cmp e qs c))):=by
 have h:=IY e f (qs.map Sq.c) g c j (fun x=>jD (JF cmp) (LG cmp) e (qs.map Sq.c) 6 x) (fun x=>jD (JF cmp) (LG cmp) e (qs.map Sq.c) 8 x) a k
  (fun x _=>by rw [List.length_map];exact ut e f qs g cmp 6 x a d b i) (fun x _=>by rw [List.length_map];exact ut e f qs g cmp 8 x a d b i)
 rw [List.length_map] at h
 exact h
theorem wd1 {k:Nat} (h:k<2^62):AV.int .i64 (IntKind.wrap .i64 ((k:Int)+((1:Nat):Int)))= .int .i64 ((k+1:Nat):Int):=by
 have e:IntKind.wrap .i64 ((k:Int)+((1:Nat):Int))=((k+1:Nat):Int):=by rw [dB]<;>omega
 rw [e]
theorem IJ (k:Nat):decide (((0:Nat):Int)≤(k:Int))=true:=decide_eq_true (by omega)
theorem iK {k n:Nat} (h:k<n):decide ((k:Int)<(n:Int))=true:=decide_eq_true (by omega)
theorem Qi {k n:Nat} (h:k≤n):decide ((k:Int)≤(n:Int))=true:=decide_eq_true (by omega)
def qP (w:List UInt8):List UInt8→Nat
 | []=>0
 |c::r=>if w.any (fun b=>c==b) then qP w r+1 else 0
theorem HY (w:List UInt8):∀ s,qP w s≤s.length
 | []=>Nat.le_refl _
 |c::r=>by
  unfold qP
  split
  ·have:=HY w r;simp only [List.length_cons];omega
  ·exact Nat.zero_le _
theorem ZI (a b:UInt8):((a.toNat:Int)==(b.toNat:Int))=(a==b):=by
 by_cases h:a=b
 ·subst h;simp
 ·have:a.toNat ≠ b.toNat:=fun e=>h (UInt8.toNat_inj.1 e)
  rw [beq_eq_false_iff_ne.2 h,beq_eq_false_iff_ne.2 (by omega)]
def wia (s w:List UInt8) (bg:Int) (bd:Bool) (n:Nat) (p:Nat × Bool):St:=⟨[(0,.ptr 0 0 0),(1,.str w),(5,.int .i64 (n:Int)),(6,.bool p.2),(7,.int .i64 (p.1:Int))],[(0,⟨[.str s,.nilS,.int .i64 bg,.bool bd],0,false,0,0,true⟩)],.dead,[]⟩
def woa (s w:List UInt8) (bg:Int) (bd:Bool) (n:Nat) (inn:Bool):St:=⟨[(0,.ptr 0 0 0),(1,.str w),(5,.int .i64 (n:Int)),(6,.bool inn)],[(0,⟨[.str s,.nilS,.int .i64 bg,.bool bd],0,false,0,0,true⟩)],.dead,[]⟩
theorem wla {nt:Nat} (h:55≤nt) (s w:List UInt8) (f:Int) (i:Bool) (n:Nat) (g:n<s.length) (j:w.length<2^40):∀ (d k:Nat) (a:Bool),k+d=w.length→
  aF prog ap [⟨[.str s,.nilS,.int .i64 f,.bool i],0,false,0,0,true⟩] nt (ae 2 (af f92)) (fun _=> .exit 2) (wia s w f i n) (woa s w f i n) (k,a) (a||(w.drop k).any (fun b=>s.getD n 0==b)):=by
 intro d
 induction d with
 |zero=>
  intro k a o
  have e:(decide ((k:Int)<(((List.length w):Nat):Int)))=false:=decide_eq_false (by omega)
  rw [List.drop_of_length_le (by omega),List.any_nil,Bool.or_false]
  exact .done (pN 92 [] 1 0 (.c (aB e) .nil) (.nil) h)
 | succ d ih=>
  intro k a o
  have e:(decide ((k:Int)<(((List.length w):Nat):Int)))=true:=decide_eq_true (by omega)
  have c:k<w.length:=by omega
  have j:k<2^62:=by omega
  have m:(w.drop k).any (fun b=>s.getD n 0==b)=(s.getD n 0==w.getD k 0||(w.drop (k+1)).any (fun b=>s.getD n 0==b)):=by
   rw [List.drop_eq_getElem_cons c,List.any_cons,List.getD_eq_getElem?_getD,List.getD_eq_getElem?_getD (l:=w),List.getElem?_eq_getElem c];rfl
  rw [m]
  rcases tf a with b1|b1
  ·have:=ih (k+1) true (by omega)
   rw [Bool.true_or] at this
   rw [show (a||(s.getD n 0==w.getD k 0||(w.drop (k+1)).any (fun b=>s.getD n 0==b)))=true by rw [b1,Bool.true_or]]
   exact .next (pN 92 [] 2 3 (.c (aC b1) (.c (aC e) .nil)) (.v 7 (.eq (wd1 j)) .nil) h) this
  ·have:=ih (k+1) (s.getD n 0==w.getD k 0) (by omega)
   rw [show (a||(s.getD n 0==w.getD k 0||(w.drop (k+1)).any (fun b=>s.getD n 0==b)))=(s.getD n 0==w.getD k 0||(w.drop (k+1)).any (fun b=>s.getD n 0==b)) by rw [b1,Bool.false_or]]
   rw [← ZI (s.getD n 0) (w.getD k 0)] at this ⊢
   exact .next (pN 92 [] 2 1 (.c (IJ k) (.c (iK c) (.c (IJ n) (.c (iK g) (.k 1 (aB b1) (.c (aC e) .nil)))))) (.v 7 (.eq (wd1 j)) .nil) h) this
def wsa (s w:List UInt8) (bg:Int) (bd:Bool) (n:Nat):St:=⟨[(0,.ptr 0 0 0),(1,.str w),(5,.int .i64 (n:Int))],[(0,⟨[.str s,.nilS,.int .i64 bg,.bool bd],0,false,0,0,true⟩)],.dead,[]⟩
def wra (s w:List UInt8) (bg:Int) (bd:Bool) (n:Nat):St:=⟨[(0,.ptr 0 0 0),(5,.int .i64 (n:Int))],[(0,⟨[.str s,.nilS,.int .i64 bg,.bool bd],0,false,0,0,true⟩)],.dead,[]⟩
theorem wma {nt:Nat} (i:55≤nt) (s w:List UInt8) (a:Int) (d:Bool) (hs:s.length<2^40) (m:w.length<2^40):∀ (r p:List UInt8),p++r=s→
  aF prog ap [⟨[.str s,.nilS,.int .i64 a,.bool d],0,false,0,0,true⟩] nt (ae 0 (af f92)) (fun _=> .exit 0) (wsa s w a d) (wra s w a d) p.length (p.length+qP w r):=by
 intro r
 induction r with
 |nil=>
  intro p hp
  have o:p.length=s.length:=by rw [← hp];simp
  generalize p.length=n at*
  have k:(decide ((n:Int)<(((List.length s):Nat):Int)))=false:=decide_eq_false (by omega)
  exact .done (pN 92 [2] 1 0 (.c (aB k) (.n 1 .nil)) (.nil) i)
 | cons c r ih=>
  intro p hp
  have o:p.length<s.length:=by rw [← hp];simp
  have q:s.getD p.length 0=c:=by rw [← hp,List.getD_eq_getElem?_getD];simp
  have j:=ih (p++ [c]) (by rw [← hp];simp)
  rw [List.length_append,List.length_singleton] at j
  unfold qP
  generalize p.length=n at*
  have k:(decide ((n:Int)<(((List.length s):Nat):Int)))=true:=decide_eq_true (by omega)
  have l:n<2^62:=by omega
  have f:∀ e,e=w.any (fun b=>c==b)→aH prog ap [⟨[.str s,.nilS,.int .i64 a,.bool d],0,false,0,0,true⟩] 55 (.block 2 (.loop (ae 2 (af f92)))) ⟨[(0,.ptr 0 0 0),(1,.str w),(4,.dead),(5,.int .i64 (n:Int)),(6,.bool false),(7,.int .i64 0),(8,.dead),(15,.bool (decide ((n:Int)<(((List.length s):Nat):Int)))),(19,.dead),(36,.dead)],[(0,⟨[.str s,.nilS,.int .i64 a,.bool d],0,false,0,0,true⟩)],.dead,[]⟩ (.normal) ⟨[(0,.ptr 0 0 0),(1,.str w),(5,.int .i64 (n:Int)),(6,.bool e)],[(0,⟨[.str s,.nilS,.int .i64 a,.bool d],0,false,0,0,true⟩)],.dead,[]⟩:=by
   intro e g
   have h:∀ nt,55≤nt→aF prog ap [⟨[.str s,.nilS,.int .i64 a,.bool d],0,false,0,0,true⟩] nt (ae 2 (af f92)) (fun _=> .exit 2) (wia s w a d n) (woa s w a d n) (0,false) e:=by
    intro nt i
    have:=wla i s w a d n o m w.length 0 false (Nat.zero_add _)
    rw [List.drop_zero,q,Bool.false_or,← g] at this
    exact this
   exact aF.blk h (by simp) rfl (aK.of ⟨rfl,rfl,rfl,rfl,rfl,trivial⟩) (aK.of ⟨rfl,rfl,rfl,rfl,trivial⟩)
  rcases tf (w.any (fun b=>c==b)) with b1|b1
  ·rw [if_pos b1]
   have g:(true:Bool)=w.any (fun b=>c==b):=b1.symm
   have f:=f true g
   rw [show n+(qP w r+1)=n+1+qP w r by omega]
   have m:=l
   exact .next (pN 92 [2] 2 1 (.k 1 (aC k) (.n 1 .nil)) (.v 38 (.eq (wd1 m)) (.l f .nil)) i) j
  ·rw [if_neg (by rw [b1];decide)]
   have g:(false:Bool)=w.any (fun b=>c==b):=b1.symm
   have f:=f false g
   exact .done (pN 92 [2] 2 3 (.k 1 (aC k) (.n 1 .nil)) (.l f .nil) i)
theorem wfa (s w:List UInt8) (b:Int) (c:Bool) (n:Nat) (a:n≤s.length) (d:aH prog ap [⟨[.str s,.nilS,.int .i64 b,.bool c],0,false,0,0,true⟩] 55 (.block 0 (.loop (ae 0 (af f92)))) ⟨[(0,.ptr 0 0 0),(1,.str w),(4,.str []),(5,.int .i64 0),(6,.dead),(7,.dead),(8,.dead),(15,.dead),(19,.dead),(36,.dead)],[(0,⟨[.str s,.nilS,.int .i64 b,.bool c],0,false,0,0,true⟩)],.dead,[]⟩ (.normal) ⟨[(0,.ptr 0 0 0),(5,.int .i64 (n:Int))],[(0,⟨[.str s,.nilS,.int .i64 b,.bool c],0,false,0,0,true⟩)],.dead,[]⟩):au prog ap 92 [.ptr 0 0 0,.str w] [⟨[.str s,.nilS,.int .i64 b,.bool c],0,false,0,0,true⟩] (.ret (.str (List.drop 0 (List.take (Int.toNat (n:Int)) s)))) [⟨[.str (List.drop (Int.toNat (n:Int)) (List.take (Int.toNat (((List.length s):Nat):Int)) s)),.nilS,.int .i64 b,.bool c],0,false,0,0,true⟩]:=pK [0] 0 0 (.k 1 (IJ n) (.c (Qi a) (.c (Qi (Nat.le_refl s.length)) (.k 2 (IJ n) (.c (Qi a) (.n 1 .nil)))))) (.l d .nil)
theorem gq (s w:List UInt8) (a:Int) (b:Bool) (hs:s.length<2^40) (d:w.length<2^40):au prog ap 92 [.ptr 0 0 0,.str w] [⟨[.str s,.nilS,.int .i64 a,.bool b],0,false,0,0,true⟩] (.ret (.str (List.drop 0 (List.take (Int.toNat ((qP w s:Nat):Int)) s)))) [⟨[.str (List.drop (Int.toNat ((qP w s:Nat):Int)) (List.take (Int.toNat (((List.length s):Nat):Int)) s)),.nilS,.int .i64 a,.bool b],0,false,0,0,true⟩]:=by
 have h:∀ nt,55≤nt→aF prog ap [⟨[.str s,.nilS,.int .i64 a,.bool b],0,false,0,0,true⟩] nt (ae 0 (af f92)) (fun _=> .exit 0) (wsa s w a b) (wra s w a b) 0 (qP w s):=by
  intro nt c
  have:=wma c s w a b hs d s [] rfl
  rw [List.length_nil,Nat.zero_add] at this
  exact this
 exact wfa s w a b (qP w s) (HY w s) (aF.blk h (by simp) rfl (aK.of ⟨rfl,rfl,rfl,trivial⟩) (aK.of ⟨rfl,rfl,trivial⟩))
def wib (s w:List UInt8) (bg:Int) (bd:Bool) (m:Nat) (os:List AV) (n:Nat) (p:Nat × Bool):St:=⟨[(0,.ptr 0 0 0),(1,.str w),(5,.int .i64 (n:Int)),(6,.bool p.2),(7,.int .i64 (p.1:Int))],[(0,⟨[.str s,.ref 1 0 0 m,.int .i64 bg,.bool bd],0,false,0,0,false⟩),(1,⟨os,0,false,0,5,true⟩)],.dead,[]⟩
def wob (s w:List UInt8) (bg:Int) (bd:Bool) (m:Nat) (os:List AV) (n:Nat) (inn:Bool):St:=⟨[(0,.ptr 0 0 0),(1,.str w),(5,.int .i64 (n:Int)),(6,.bool inn)],[(0,⟨[.str s,.ref 1 0 0 m,.int .i64 bg,.bool bd],0,false,0,0,false⟩),(1,⟨os,0,false,0,5,true⟩)],.dead,[]⟩
theorem wlb {nt:Nat} (i:55≤nt) (s w:List UInt8) (f:Int) (j:Bool) (m:Nat) (g:List AV) (n:Nat) (h:n<s.length) (o:w.length<2^40):∀ (d k:Nat) (a:Bool),k+d=w.length→
  aF prog ap [⟨[.str s,.ref 1 0 0 m,.int .i64 f,.bool j],0,false,0,0,false⟩,⟨g,0,false,0,5,true⟩] nt (ae 2 (af f92)) (fun _=> .exit 2) (wib s w f j m g n) (wob s w f j m g n) (k,a) (a||(w.drop k).any (fun b=>s.getD n 0==b)):=by
 intro d
 induction d with
 |zero=>
  intro k a q
  have e:(decide ((k:Int)<(((List.length w):Nat):Int)))=false:=decide_eq_false (by omega)
  rw [List.drop_of_length_le (by omega),List.any_nil,Bool.or_false]
  exact .done (pN 92 [] 1 0 (.c (aB e) .nil) (.nil) i)
 | succ d ih=>
  intro k a q
  have e:(decide ((k:Int)<(((List.length w):Nat):Int)))=true:=decide_eq_true (by omega)
  have c:k<w.length:=by omega
  have o:k<2^62:=by omega
  have p:(w.drop k).any (fun b=>s.getD n 0==b)=(s.getD n 0==w.getD k 0||(w.drop (k+1)).any (fun b=>s.getD n 0==b)):=by
   rw [List.drop_eq_getElem_cons c,List.any_cons,List.getD_eq_getElem?_getD,List.getD_eq_getElem?_getD (l:=w),List.getElem?_eq_getElem c];rfl
  rw [p]
  rcases tf a with b1|b1
  ·have:=ih (k+1) true (by omega)
   rw [Bool.true_or] at this
   rw [show (a||(s.getD n 0==w.getD k 0||(w.drop (k+1)).any (fun b=>s.getD n 0==b)))=true by rw [b1,Bool.true_or]]
   exact .next (pN 92 [] 2 3 (.c (aC b1) (.c (aC e) .nil)) (.v 7 (.eq (wd1 o)) .nil) i) this
  ·have:=ih (k+1) (s.getD n 0==w.getD k 0) (by omega)
   rw [show (a||(s.getD n 0==w.getD k 0||(w.drop (k+1)).any (fun b=>s.getD n 0==b)))=(s.getD n 0==w.getD k 0||(w.drop (k+1)).any (fun b=>s.getD n 0==b)) by rw [b1,Bool.false_or]]
   rw [← ZI (s.getD n 0) (w.getD k 0)] at this ⊢
   exact .next (pN 92 [] 2 1 (.c (IJ k) (.c (iK c) (.c (IJ n) (.c (iK h) (.k 1 (aB b1) (.c (aC e) .nil)))))) (.v 7 (.eq (wd1 o)) .nil) i) this
def wsb (s w:List UInt8) (bg:Int) (bd:Bool) (m:Nat) (os:List AV) (n:Nat):St:=⟨[(0,.ptr 0 0 0),(1,.str w),(5,.int .i64 (n:Int))],[(0,⟨[.str s,.ref 1 0 0 m,.int .i64 bg,.bool bd],0,false,0,0,false⟩),(1,⟨os,0,false,0,5,true⟩)],.dead,[]⟩
def wrb (s w:List UInt8) (bg:Int) (bd:Bool) (m:Nat) (os:List AV) (n:Nat):St:=⟨[(0,.ptr 0 0 0),(5,.int .i64 (n:Int))],[(0,⟨[.str s,.ref 1 0 0 m,.int .i64 bg,.bool bd],0,false,0,0,false⟩),(1,⟨os,0,false,0,5,true⟩)],.dead,[]⟩
theorem wmb {nt:Nat} (k:55≤nt) (s w:List UInt8) (a:Int) (e:Bool) (m:Nat) (d:List AV) (hs:s.length<2^40) (q:w.length<2^40):∀ (r p:List UInt8),p++r=s→
  aF prog ap [⟨[.str s,.ref 1 0 0 m,.int .i64 a,.bool e],0,false,0,0,false⟩,⟨d,0,false,0,5,true⟩] nt (ae 0 (af f92)) (fun _=> .exit 0) (wsb s w a e m d) (wrb s w a e m d) p.length (p.length+qP w r):=by
 intro r
 induction r with
 |nil=>
  intro p hp
  have t:p.length=s.length:=by rw [← hp];simp
  generalize p.length=n at*
  have l:(decide ((n:Int)<(((List.length s):Nat):Int)))=false:=decide_eq_false (by omega)
  exact .done (pN 92 [2] 1 0 (.c (aB l) (.n 1 .nil)) (.nil) k)
 | cons c r ih=>
  intro p hp
  have t:p.length<s.length:=by rw [← hp];simp
  have u:s.getD p.length 0=c:=by rw [← hp,List.getD_eq_getElem?_getD];simp
  have i:=ih (p++ [c]) (by rw [← hp];simp)
  rw [List.length_append,List.length_singleton] at i
  unfold qP
  generalize p.length=n at*
  have l:(decide ((n:Int)<(((List.length s):Nat):Int)))=true:=decide_eq_true (by omega)
  have o:n<2^62:=by omega
  have g:∀ f,f=w.any (fun b=>c==b)→aH prog ap [⟨[.str s,.ref 1 0 0 m,.int .i64 a,.bool e],0,false,0,0,false⟩,⟨d,0,false,0,5,true⟩] 55 (.block 2 (.loop (ae 2 (af f92)))) ⟨[(0,.ptr 0 0 0),(1,.str w),(4,.dead),(5,.int .i64 (n:Int)),(6,.bool false),(7,.int .i64 0),(8,.dead),(15,.bool (decide ((n:Int)<(((List.length s):Nat):Int)))),(19,.dead),(36,.dead)],[(0,⟨[.str s,.ref 1 0 0 m,.int .i64 a,.bool e],0,false,0,0,false⟩),(1,⟨d,0,false,0,5,true⟩)],.dead,[]⟩ (.normal) ⟨[(0,.ptr 0 0 0),(1,.str w),(5,.int .i64 (n:Int)),(6,.bool f)],[(0,⟨[.str s,.ref 1 0 0 m,.int .i64 a,.bool e],0,false,0,0,false⟩),(1,⟨d,0,false,0,5,true⟩)],.dead,[]⟩:=by
   intro f j
   have h:∀ nt,55≤nt→aF prog ap [⟨[.str s,.ref 1 0 0 m,.int .i64 a,.bool e],0,false,0,0,false⟩,⟨d,0,false,0,5,true⟩] nt (ae 2 (af f92)) (fun _=> .exit 2) (wib s w a e m d n) (wob s w a e m d n) (0,false) f:=by
    intro nt k
    have:=wlb k s w a e m d n t q w.length 0 false (Nat.zero_add _)
    rw [List.drop_zero,u,Bool.false_or,← j] at this
    exact this
   exact aF.blk h (by simp) rfl (aK.of ⟨rfl,rfl,rfl,rfl,rfl,trivial⟩) (aK.of ⟨rfl,rfl,rfl,rfl,trivial⟩)
  rcases tf (w.any (fun b=>c==b)) with b1|b1
  ·rw [if_pos b1]
   have j:(true:Bool)=w.any (fun b=>c==b):=b1.symm
   have g:=g true j
   rw [show n+(qP w r+1)=n+1+qP w r by omega]
   have q:=o
   exact .next (pN 92 [2] 2 1 (.k 1 (aC l) (.n 1 .nil)) (.v 38 (.eq (wd1 q)) (.l g .nil)) k) i
  ·rw [if_neg (by rw [b1];decide)]
   have j:(false:Bool)=w.any (fun b=>c==b):=b1.symm
   have g:=g false j
   exact .done (pN 92 [2] 2 3 (.k 1 (aC l) (.n 1 .nil)) (.l g .nil) k)
theorem wfb (s w:List UInt8) (c:Int) (d:Bool) (m:Nat) (a:List AV) (n:Nat) (b:n≤s.length) (e:aH prog ap [⟨[.str s,.ref 1 0 0 m,.int .i64 c,.bool d],0,false,0,0,false⟩,⟨a,0,false,0,5,true⟩] 55 (.block 0 (.loop (ae 0 (af f92)))) ⟨[(0,.ptr 0 0 0),(1,.str w),(4,.str []),(5,.int .i64 0),(6,.dead),(7,.dead),(8,.dead),(15,.dead),(19,.dead),(36,.dead)],[(0,⟨[.str s,.ref 1 0 0 m,.int .i64 c,.bool d],0,false,0,0,false⟩),(1,⟨a,0,false,0,5,true⟩)],.dead,[]⟩ (.normal) ⟨[(0,.ptr 0 0 0),(5,.int .i64 (n:Int))],[(0,⟨[.str s,.ref 1 0 0 m,.int .i64 c,.bool d],0,false,0,0,false⟩),(1,⟨a,0,false,0,5,true⟩)],.dead,[]⟩):au prog ap 92 [.ptr 0 0 0,.str w] [⟨[.str s,.ref 1 0 0 m,.int .i64 c,.bool d],0,false,0,0,false⟩,⟨a,0,false,0,5,true⟩] (.ret (.str (List.drop 0 (List.take (Int.toNat (n:Int)) s)))) [⟨[.str (List.drop (Int.toNat (n:Int)) (List.take (Int.toNat (((List.length s):Nat):Int)) s)),.ref 1 0 0 m,.int .i64 c,.bool d],0,false,0,0,false⟩,⟨a,0,false,0,5,true⟩]:=pK [0] 0 0 (.k 1 (IJ n) (.c (Qi b) (.c (Qi (Nat.le_refl s.length)) (.k 2 (IJ n) (.c (Qi b) (.n 1 .nil)))))) (.l e .nil)
theorem jM (s w:List UInt8) (b:Int) (c:Bool) (m:Nat) (a:List AV) (hs:s.length<2^40) (e:w.length<2^40):au prog ap 92 [.ptr 0 0 0,.str w] [⟨[.str s,.ref 1 0 0 m,.int .i64 b,.bool c],0,false,0,0,false⟩,⟨a,0,false,0,5,true⟩] (.ret (.str (List.drop 0 (List.take (Int.toNat ((qP w s:Nat):Int)) s)))) [⟨[.str (List.drop (Int.toNat ((qP w s:Nat):Int)) (List.take (Int.toNat (((List.length s):Nat):Int)) s)),.ref 1 0 0 m,.int .i64 b,.bool c],0,false,0,0,false⟩,⟨a,0,false,0,5,true⟩]:=by
 have h:∀ nt,55≤nt→aF prog ap [⟨[.str s,.ref 1 0 0 m,.int .i64 b,.bool c],0,false,0,0,false⟩,⟨a,0,false,0,5,true⟩] nt (ae 0 (af f92)) (fun _=> .exit 0) (wsb s w b c m a) (wrb s w b c m a) 0 (qP w s):=by
  intro nt d
  have:=wmb d s w b c m a hs e s [] rfl
  rw [List.length_nil,Nat.zero_add] at this
  exact this
 exact wfb s w b c m a (qP w s) (HY w s) (aF.blk h (by simp) rfl (aK.of ⟨rfl,rfl,rfl,trivial⟩) (aK.of ⟨rfl,rfl,trivial⟩))
theorem bT {p q:Prop} (h:p) (e:p=q):q:=e ▸ h
theorem aV {x:Nat} (h:x<2^128):(ag x).length<2^33:=Nat.lt_of_le_of_lt (iy (k:=16) h) (by decide)
theorem cm0:CO 115 [.agg [.bool false,.str [1],.str [1]]] (.ret (.bool true)):=bT (dH false [1] [1] (by decide) (by decide)) (by kernel_rfl)
theorem cm1:CO 174 [.agg [.bool false,.str [1],.str [1]]] (.ret (.agg [.bool false,.str [1],.str [1]])):=cK (.c cm0 .nil)
theorem cm2:CO 182 [.agg [.bool false,.str [1],.str [1]]] (.ret (.agg [.bool true,.str [1],.str [1]])):=cK (.c cm1 .nil)
theorem cm3:CO 115 [.agg [.bool false,.str [],.str [1]]] (.ret (.bool true)):=bT (dH false [] [1] (by decide) (by decide)) (by kernel_rfl)
theorem WZ:CO 174 [.agg [.bool false,.str [],.str [1]]] (.ret (.agg [.bool false,.str [],.str [1]])):=cK (.c cm3 .nil)
theorem cm5:CO 115 [.agg [.bool true,.str [1],.str [1]]] (.ret (.bool true)):=bT (dH true [1] [1] (by decide) (by decide)) (by kernel_rfl)
theorem cm6:CO 174 [.agg [.bool true,.str [1],.str [1]]] (.ret (.agg [.bool true,.str [1],.str [1]])):=cK (.c cm5 .nil)
theorem cm7:CO 161 [.sl [] 0 true] (.ret (.sl [] 0 true)):=cK (.nil)
theorem Ia:CO 136 [.str []] (.ret (.sl [] 0 true)):=cK (.c cm7 .nil)
theorem cm9:CO 161 [.sl [.int .u32 1] 1 true] (.ret (.sl [.int .u32 1] 1 true)):=cK (.nil)
theorem yN:CO 136 [.str [1]] (.ret (.sl [.int .u32 1] 1 true)):=cK (.c cm9 .nil)
theorem an6:CO 161 [.sl [.int .u32 0] 1 true] (.ret (.sl [] 0 true)):=cK (.nil)
theorem an7:CO 189 [.sl [] 0 true,.sl [.int .u32 1] 1 true] (.ret (.sl [] 0 true)):=cK (.c an6 .nil)
theorem an8:CO 162 [.str [],.str [0]] (.ret (.str [])):=cK (.nil)
theorem an9:CO 134 [.sl [] 0 true] (.ret (.str [])):=cK (.c an8 (.c cm7 .nil))
theorem H_:CO 175 [.str [],.str [1]] (.ret (.str [])):=cK (.c an9 (.c an7 (.c yN (.c Ia .nil))))
theorem an_:CO 161 [.sl [.int .u32 1,.int .u32 0] 2 true] (.ret (.sl [.int .u32 1] 1 true)):=cK (.nil)
theorem aoa:CO 189 [.sl [.int .u32 1] 1 true,.sl [.int .u32 1] 1 true] (.ret (.sl [.int .u32 1] 1 true)):=cK (.c an_ .nil)
theorem aob:CO 141 [.str [0,0,0,1],.int .u8 0] (.ret (.str [1])):=cK (.nil)
theorem aoc:CO 162 [.str [0,0,0,1],.str [0]] (.ret (.str [1])):=cK (.c aob .nil)
theorem afQ:CO 134 [.sl [.int .u32 1] 1 true] (.ret (.str [1])):=cK (.c aoc (.c cm9 .nil))
theorem Fa:CO 175 [.str [1],.str [1]] (.ret (.str [1])):=cK (.c afQ (.c aoa (.c yN (.c yN .nil))))
theorem aod:CO 183 [.sl [] 0 true,.sl [.int .u32 1] 1 true] (.ret (.int .i64 (-1))):=cK (.nil)
theorem aoe:CO 188 [.str [],.str [1]] (.ret (.tup [.str [],.bool false])):=cK (.c aod (.c yN (.c Ia .nil)))
theorem aof:CO 183 [.sl [.int .u32 1] 1 true,.sl [] 0 true] (.ret (.int .i64 1)):=cK (.nil)
theorem aog:CO 204 [.sl [.int .u32 1] 1 true,.sl [] 0 true] (.ret (.sl [.int .u32 1] 1 true)):=cK (.c cm9 .nil)
theorem aoh:CO 188 [.str [1],.str []] (.ret (.tup [.str [1],.bool true])):=cK (.c afQ (.c aog (.c aof (.c Ia (.c yN .nil)))))
theorem aoi:CO 139 [.bool true,.str [1],.str [1]] (.ret (.agg [.bool true,.str [1],.str [1]])):=bT (pF true [1] [1] (by decide) (by decide) (by decide)) (by kernel_rfl)
theorem aoj:CO 172 [.agg [.bool false,.str [],.str [1]],.agg [.bool true,.str [1],.str [1]]] (.ret (.agg [.bool true,.str [1],.str [1]])):=cK (.c aoi (.c aoh (.c aoe (.c Fa (.c Fa (.c H_ (.c cm6 (.c WZ .nil))))))))
theorem aok:CO 158 [.agg [.bool false,.str [],.str [1]],.agg [.bool false,.str [1],.str [1]]] (.ret (.agg [.bool true,.str [1],.str [1]])):=cK (.c aoj (.c cm2 .nil))
theorem aol:CO 85 [.agg [.bool true,.str [1],.str [1]]] (.ret (.int .i64 (-1))):=bT (fG true [1] [1] (by decide) (by decide)) (by kernel_rfl)
theorem aom:CO 129 [.agg [.bool false,.str [],.str [1]],.agg [.bool false,.str [1],.str [1]]] (.ret (.int .i64 (-1))):=cK (.c aol (.c aok .nil))
theorem aon:CO 115 [.agg [.bool false,.str [2],.str [1]]] (.ret (.bool true)):=bT (dH false [2] [1] (by decide) (by decide)) (by kernel_rfl)
theorem aoo:CO 174 [.agg [.bool false,.str [2],.str [1]]] (.ret (.agg [.bool false,.str [2],.str [1]])):=cK (.c aon .nil)
theorem aop:CO 182 [.agg [.bool false,.str [2],.str [1]]] (.ret (.agg [.bool true,.str [2],.str [1]])):=cK (.c aoo .nil)
theorem aoq:CO 115 [.agg [.bool true,.str [2],.str [1]]] (.ret (.bool true)):=bT (dH true [2] [1] (by decide) (by decide)) (by kernel_rfl)
theorem aor:CO 174 [.agg [.bool true,.str [2],.str [1]]] (.ret (.agg [.bool true,.str [2],.str [1]])):=cK (.c aoq .nil)
theorem aaV:CO 161 [.sl [.int .u32 2] 1 true] (.ret (.sl [.int .u32 2] 1 true)):=cK (.nil)
theorem aaW:CO 136 [.str [2]] (.ret (.sl [.int .u32 2] 1 true)):=cK (.c aaV .nil)
theorem aos:CO 161 [.sl [.int .u32 2,.int .u32 0] 2 true] (.ret (.sl [.int .u32 2] 1 true)):=cK (.nil)
theorem aot:CO 189 [.sl [.int .u32 2] 1 true,.sl [.int .u32 1] 1 true] (.ret (.sl [.int .u32 2] 1 true)):=cK (.c aos .nil)
theorem aou:CO 141 [.str [0,0,0,2],.int .u8 0] (.ret (.str [2])):=cK (.nil)
theorem aov:CO 162 [.str [0,0,0,2],.str [0]] (.ret (.str [2])):=cK (.c aou .nil)
theorem ai3:CO 134 [.sl [.int .u32 2] 1 true] (.ret (.str [2])):=cK (.c aov (.c aaV .nil))
theorem aow:CO 175 [.str [2],.str [1]] (.ret (.str [2])):=cK (.c ai3 (.c aot (.c yN (.c aaW .nil))))
theorem aox:CO 183 [.sl [] 0 true,.sl [.int .u32 2] 1 true] (.ret (.int .i64 (-1))):=cK (.nil)
theorem aoy:CO 188 [.str [],.str [2]] (.ret (.tup [.str [],.bool false])):=cK (.c aox (.c aaW (.c Ia .nil)))
theorem aoz:CO 183 [.sl [.int .u32 2] 1 true,.sl [] 0 true] (.ret (.int .i64 1)):=cK (.nil)
theorem aoA:CO 204 [.sl [.int .u32 2] 1 true,.sl [] 0 true] (.ret (.sl [.int .u32 2] 1 true)):=cK (.c aaV .nil)
theorem aoB:CO 188 [.str [2],.str []] (.ret (.tup [.str [2],.bool true])):=cK (.c ai3 (.c aoA (.c aoz (.c Ia (.c aaW .nil)))))
theorem aoC:CO 139 [.bool true,.str [2],.str [1]] (.ret (.agg [.bool true,.str [2],.str [1]])):=bT (pF true [2] [1] (by decide) (by decide) (by decide)) (by kernel_rfl)
theorem aoD:CO 172 [.agg [.bool false,.str [],.str [1]],.agg [.bool true,.str [2],.str [1]]] (.ret (.agg [.bool true,.str [2],.str [1]])):=cK (.c aoC (.c aoB (.c aoy (.c Fa (.c aow (.c H_ (.c aor (.c WZ .nil))))))))
theorem aoE:CO 158 [.agg [.bool false,.str [],.str [1]],.agg [.bool false,.str [2],.str [1]]] (.ret (.agg [.bool true,.str [2],.str [1]])):=cK (.c aoD (.c aop .nil))
theorem aoF:CO 85 [.agg [.bool true,.str [2],.str [1]]] (.ret (.int .i64 (-1))):=bT (fG true [2] [1] (by decide) (by decide)) (by kernel_rfl)
theorem aoG:CO 129 [.agg [.bool false,.str [],.str [1]],.agg [.bool false,.str [2],.str [1]]] (.ret (.int .i64 (-1))):=cK (.c aoF (.c aoE .nil))
theorem aoH:CO 115 [.agg [.bool false,.str [3],.str [1]]] (.ret (.bool true)):=bT (dH false [3] [1] (by decide) (by decide)) (by kernel_rfl)
theorem aoI:CO 174 [.agg [.bool false,.str [3],.str [1]]] (.ret (.agg [.bool false,.str [3],.str [1]])):=cK (.c aoH .nil)
theorem aoJ:CO 182 [.agg [.bool false,.str [3],.str [1]]] (.ret (.agg [.bool true,.str [3],.str [1]])):=cK (.c aoI .nil)
theorem aoK:CO 115 [.agg [.bool true,.str [3],.str [1]]] (.ret (.bool true)):=bT (dH true [3] [1] (by decide) (by decide)) (by kernel_rfl)
theorem aoL:CO 174 [.agg [.bool true,.str [3],.str [1]]] (.ret (.agg [.bool true,.str [3],.str [1]])):=cK (.c aoK .nil)
theorem aaX:CO 161 [.sl [.int .u32 3] 1 true] (.ret (.sl [.int .u32 3] 1 true)):=cK (.nil)
theorem aaY:CO 136 [.str [3]] (.ret (.sl [.int .u32 3] 1 true)):=cK (.c aaX .nil)
theorem aoM:CO 161 [.sl [.int .u32 3,.int .u32 0] 2 true] (.ret (.sl [.int .u32 3] 1 true)):=cK (.nil)
theorem aoN:CO 189 [.sl [.int .u32 3] 1 true,.sl [.int .u32 1] 1 true] (.ret (.sl [.int .u32 3] 1 true)):=cK (.c aoM .nil)
theorem aoO:CO 141 [.str [0,0,0,3],.int .u8 0] (.ret (.str [3])):=cK (.nil)
theorem aoP:CO 162 [.str [0,0,0,3],.str [0]] (.ret (.str [3])):=cK (.c aoO .nil)
theorem ai4:CO 134 [.sl [.int .u32 3] 1 true] (.ret (.str [3])):=cK (.c aoP (.c aaX .nil))
theorem aoQ:CO 175 [.str [3],.str [1]] (.ret (.str [3])):=cK (.c ai4 (.c aoN (.c yN (.c aaY .nil))))
theorem aoR:CO 183 [.sl [] 0 true,.sl [.int .u32 3] 1 true] (.ret (.int .i64 (-1))):=cK (.nil)
theorem aoS:CO 188 [.str [],.str [3]] (.ret (.tup [.str [],.bool false])):=cK (.c aoR (.c aaY (.c Ia .nil)))
theorem aoT:CO 183 [.sl [.int .u32 3] 1 true,.sl [] 0 true] (.ret (.int .i64 1)):=cK (.nil)
theorem aoU:CO 204 [.sl [.int .u32 3] 1 true,.sl [] 0 true] (.ret (.sl [.int .u32 3] 1 true)):=cK (.c aaX .nil)
theorem aoV:CO 188 [.str [3],.str []] (.ret (.tup [.str [3],.bool true])):=cK (.c ai4 (.c aoU (.c aoT (.c Ia (.c aaY .nil)))))
theorem aoW:CO 139 [.bool true,.str [3],.str [1]] (.ret (.agg [.bool true,.str [3],.str [1]])):=bT (pF true [3] [1] (by decide) (by decide) (by decide)) (by kernel_rfl)
theorem aoX:CO 172 [.agg [.bool false,.str [],.str [1]],.agg [.bool true,.str [3],.str [1]]] (.ret (.agg [.bool true,.str [3],.str [1]])):=cK (.c aoW (.c aoV (.c aoS (.c Fa (.c aoQ (.c H_ (.c aoL (.c WZ .nil))))))))
theorem aoY:CO 158 [.agg [.bool false,.str [],.str [1]],.agg [.bool false,.str [3],.str [1]]] (.ret (.agg [.bool true,.str [3],.str [1]])):=cK (.c aoX (.c aoJ .nil))
theorem aoZ:CO 85 [.agg [.bool true,.str [3],.str [1]]] (.ret (.int .i64 (-1))):=bT (fG true [3] [1] (by decide) (by decide)) (by kernel_rfl)
theorem ao0:CO 129 [.agg [.bool false,.str [],.str [1]],.agg [.bool false,.str [3],.str [1]]] (.ret (.int .i64 (-1))):=cK (.c aoZ (.c aoY .nil))
theorem ao1:CO 115 [.agg [.bool false,.str [4],.str [1]]] (.ret (.bool true)):=bT (dH false [4] [1] (by decide) (by decide)) (by kernel_rfl)
theorem ao2:CO 174 [.agg [.bool false,.str [4],.str [1]]] (.ret (.agg [.bool false,.str [4],.str [1]])):=cK (.c ao1 .nil)
theorem ao3:CO 182 [.agg [.bool false,.str [4],.str [1]]] (.ret (.agg [.bool true,.str [4],.str [1]])):=cK (.c ao2 .nil)
theorem ao4:CO 115 [.agg [.bool true,.str [4],.str [1]]] (.ret (.bool true)):=bT (dH true [4] [1] (by decide) (by decide)) (by kernel_rfl)
theorem ao5:CO 174 [.agg [.bool true,.str [4],.str [1]]] (.ret (.agg [.bool true,.str [4],.str [1]])):=cK (.c ao4 .nil)
theorem aaZ:CO 161 [.sl [.int .u32 4] 1 true] (.ret (.sl [.int .u32 4] 1 true)):=cK (.nil)
theorem aa0:CO 136 [.str [4]] (.ret (.sl [.int .u32 4] 1 true)):=cK (.c aaZ .nil)
theorem ao6:CO 161 [.sl [.int .u32 4,.int .u32 0] 2 true] (.ret (.sl [.int .u32 4] 1 true)):=cK (.nil)
theorem ao7:CO 189 [.sl [.int .u32 4] 1 true,.sl [.int .u32 1] 1 true] (.ret (.sl [.int .u32 4] 1 true)):=cK (.c ao6 .nil)
theorem ao8:CO 141 [.str [0,0,0,4],.int .u8 0] (.ret (.str [4])):=cK (.nil)
theorem ao9:CO 162 [.str [0,0,0,4],.str [0]] (.ret (.str [4])):=cK (.c ao8 .nil)
theorem ai5:CO 134 [.sl [.int .u32 4] 1 true] (.ret (.str [4])):=cK (.c ao9 (.c aaZ .nil))
theorem apa:CO 175 [.str [4],.str [1]] (.ret (.str [4])):=cK (.c ai5 (.c ao7 (.c yN (.c aa0 .nil))))
theorem apb:CO 183 [.sl [] 0 true,.sl [.int .u32 4] 1 true] (.ret (.int .i64 (-1))):=cK (.nil)
theorem apc:CO 188 [.str [],.str [4]] (.ret (.tup [.str [],.bool false])):=cK (.c apb (.c aa0 (.c Ia .nil)))
theorem apd:CO 183 [.sl [.int .u32 4] 1 true,.sl [] 0 true] (.ret (.int .i64 1)):=cK (.nil)
theorem ape:CO 204 [.sl [.int .u32 4] 1 true,.sl [] 0 true] (.ret (.sl [.int .u32 4] 1 true)):=cK (.c aaZ .nil)
theorem apf:CO 188 [.str [4],.str []] (.ret (.tup [.str [4],.bool true])):=cK (.c ai5 (.c ape (.c apd (.c Ia (.c aa0 .nil)))))
theorem apg:CO 139 [.bool true,.str [4],.str [1]] (.ret (.agg [.bool true,.str [4],.str [1]])):=bT (pF true [4] [1] (by decide) (by decide) (by decide)) (by kernel_rfl)
theorem aph:CO 172 [.agg [.bool false,.str [],.str [1]],.agg [.bool true,.str [4],.str [1]]] (.ret (.agg [.bool true,.str [4],.str [1]])):=cK (.c apg (.c apf (.c apc (.c Fa (.c apa (.c H_ (.c ao5 (.c WZ .nil))))))))
theorem api:CO 158 [.agg [.bool false,.str [],.str [1]],.agg [.bool false,.str [4],.str [1]]] (.ret (.agg [.bool true,.str [4],.str [1]])):=cK (.c aph (.c ao3 .nil))
theorem apj:CO 85 [.agg [.bool true,.str [4],.str [1]]] (.ret (.int .i64 (-1))):=bT (fG true [4] [1] (by decide) (by decide)) (by kernel_rfl)
theorem aet:CO 129 [.agg [.bool false,.str [],.str [1]],.agg [.bool false,.str [4],.str [1]]] (.ret (.int .i64 (-1))):=cK (.c apj (.c api .nil))
theorem aeu:CO 115 [.agg [.bool false,.str [5],.str [1]]] (.ret (.bool true)):=bT (dH false [5] [1] (by decide) (by decide)) (by kernel_rfl)
theorem aev:CO 174 [.agg [.bool false,.str [5],.str [1]]] (.ret (.agg [.bool false,.str [5],.str [1]])):=cK (.c aeu .nil)
theorem aew:CO 182 [.agg [.bool false,.str [5],.str [1]]] (.ret (.agg [.bool true,.str [5],.str [1]])):=cK (.c aev .nil)
theorem aex:CO 115 [.agg [.bool true,.str [5],.str [1]]] (.ret (.bool true)):=bT (dH true [5] [1] (by decide) (by decide)) (by kernel_rfl)
theorem aey:CO 174 [.agg [.bool true,.str [5],.str [1]]] (.ret (.agg [.bool true,.str [5],.str [1]])):=cK (.c aex .nil)
theorem Tj:CO 161 [.sl [.int .u32 5] 1 true] (.ret (.sl [.int .u32 5] 1 true)):=cK (.nil)
theorem Tm:CO 136 [.str [5]] (.ret (.sl [.int .u32 5] 1 true)):=cK (.c Tj .nil)
theorem aez:CO 161 [.sl [.int .u32 5,.int .u32 0] 2 true] (.ret (.sl [.int .u32 5] 1 true)):=cK (.nil)
theorem aeA:CO 189 [.sl [.int .u32 5] 1 true,.sl [.int .u32 1] 1 true] (.ret (.sl [.int .u32 5] 1 true)):=cK (.c aez .nil)
theorem aeB:CO 141 [.str [0,0,0,5],.int .u8 0] (.ret (.str [5])):=cK (.nil)
theorem aeC:CO 162 [.str [0,0,0,5],.str [0]] (.ret (.str [5])):=cK (.c aeB .nil)
theorem ZN:CO 134 [.sl [.int .u32 5] 1 true] (.ret (.str [5])):=cK (.c aeC (.c Tj .nil))
theorem aeD:CO 175 [.str [5],.str [1]] (.ret (.str [5])):=cK (.c ZN (.c aeA (.c yN (.c Tm .nil))))
theorem aeE:CO 183 [.sl [] 0 true,.sl [.int .u32 5] 1 true] (.ret (.int .i64 (-1))):=cK (.nil)
theorem aeF:CO 188 [.str [],.str [5]] (.ret (.tup [.str [],.bool false])):=cK (.c aeE (.c Tm (.c Ia .nil)))
theorem aeG:CO 183 [.sl [.int .u32 5] 1 true,.sl [] 0 true] (.ret (.int .i64 1)):=cK (.nil)
theorem aeH:CO 204 [.sl [.int .u32 5] 1 true,.sl [] 0 true] (.ret (.sl [.int .u32 5] 1 true)):=cK (.c Tj .nil)
theorem aeI:CO 188 [.str [5],.str []] (.ret (.tup [.str [5],.bool true])):=cK (.c ZN (.c aeH (.c aeG (.c Ia (.c Tm .nil)))))
theorem aeJ:CO 139 [.bool true,.str [5],.str [1]] (.ret (.agg [.bool true,.str [5],.str [1]])):=bT (pF true [5] [1] (by decide) (by decide) (by decide)) (by kernel_rfl)
theorem aeK:CO 172 [.agg [.bool false,.str [],.str [1]],.agg [.bool true,.str [5],.str [1]]] (.ret (.agg [.bool true,.str [5],.str [1]])):=cK (.c aeJ (.c aeI (.c aeF (.c Fa (.c aeD (.c H_ (.c aey (.c WZ .nil))))))))
theorem aeL:CO 158 [.agg [.bool false,.str [],.str [1]],.agg [.bool false,.str [5],.str [1]]] (.ret (.agg [.bool true,.str [5],.str [1]])):=cK (.c aeK (.c aew .nil))
theorem aeM:CO 85 [.agg [.bool true,.str [5],.str [1]]] (.ret (.int .i64 (-1))):=bT (fG true [5] [1] (by decide) (by decide)) (by kernel_rfl)
theorem aeN:CO 129 [.agg [.bool false,.str [],.str [1]],.agg [.bool false,.str [5],.str [1]]] (.ret (.int .i64 (-1))):=cK (.c aeM (.c aeL .nil))
theorem aeO:CO 115 [.agg [.bool false,.str [6],.str [1]]] (.ret (.bool true)):=bT (dH false [6] [1] (by decide) (by decide)) (by kernel_rfl)
theorem aeP:CO 174 [.agg [.bool false,.str [6],.str [1]]] (.ret (.agg [.bool false,.str [6],.str [1]])):=cK (.c aeO .nil)
theorem aeQ:CO 182 [.agg [.bool false,.str [6],.str [1]]] (.ret (.agg [.bool true,.str [6],.str [1]])):=cK (.c aeP .nil)
theorem aeR:CO 115 [.agg [.bool true,.str [6],.str [1]]] (.ret (.bool true)):=bT (dH true [6] [1] (by decide) (by decide)) (by kernel_rfl)
theorem aeS:CO 174 [.agg [.bool true,.str [6],.str [1]]] (.ret (.agg [.bool true,.str [6],.str [1]])):=cK (.c aeR .nil)
theorem Tn:CO 161 [.sl [.int .u32 6] 1 true] (.ret (.sl [.int .u32 6] 1 true)):=cK (.nil)
theorem Tq:CO 136 [.str [6]] (.ret (.sl [.int .u32 6] 1 true)):=cK (.c Tn .nil)
theorem aeT:CO 161 [.sl [.int .u32 6,.int .u32 0] 2 true] (.ret (.sl [.int .u32 6] 1 true)):=cK (.nil)
theorem aeU:CO 189 [.sl [.int .u32 6] 1 true,.sl [.int .u32 1] 1 true] (.ret (.sl [.int .u32 6] 1 true)):=cK (.c aeT .nil)
theorem aeV:CO 141 [.str [0,0,0,6],.int .u8 0] (.ret (.str [6])):=cK (.nil)
theorem aeW:CO 162 [.str [0,0,0,6],.str [0]] (.ret (.str [6])):=cK (.c aeV .nil)
theorem ZO:CO 134 [.sl [.int .u32 6] 1 true] (.ret (.str [6])):=cK (.c aeW (.c Tn .nil))
theorem aeX:CO 175 [.str [6],.str [1]] (.ret (.str [6])):=cK (.c ZO (.c aeU (.c yN (.c Tq .nil))))
theorem aeY:CO 183 [.sl [] 0 true,.sl [.int .u32 6] 1 true] (.ret (.int .i64 (-1))):=cK (.nil)
theorem aeZ:CO 188 [.str [],.str [6]] (.ret (.tup [.str [],.bool false])):=cK (.c aeY (.c Tq (.c Ia .nil)))
theorem ae0:CO 183 [.sl [.int .u32 6] 1 true,.sl [] 0 true] (.ret (.int .i64 1)):=cK (.nil)
theorem ae1:CO 204 [.sl [.int .u32 6] 1 true,.sl [] 0 true] (.ret (.sl [.int .u32 6] 1 true)):=cK (.c Tn .nil)
theorem ae2:CO 188 [.str [6],.str []] (.ret (.tup [.str [6],.bool true])):=cK (.c ZO (.c ae1 (.c ae0 (.c Ia (.c Tq .nil)))))
theorem ae3:CO 139 [.bool true,.str [6],.str [1]] (.ret (.agg [.bool true,.str [6],.str [1]])):=bT (pF true [6] [1] (by decide) (by decide) (by decide)) (by kernel_rfl)
theorem ae4:CO 172 [.agg [.bool false,.str [],.str [1]],.agg [.bool true,.str [6],.str [1]]] (.ret (.agg [.bool true,.str [6],.str [1]])):=cK (.c ae3 (.c ae2 (.c aeZ (.c Fa (.c aeX (.c H_ (.c aeS (.c WZ .nil))))))))
theorem ae5:CO 158 [.agg [.bool false,.str [],.str [1]],.agg [.bool false,.str [6],.str [1]]] (.ret (.agg [.bool true,.str [6],.str [1]])):=cK (.c ae4 (.c aeQ .nil))
theorem ae6:CO 85 [.agg [.bool true,.str [6],.str [1]]] (.ret (.int .i64 (-1))):=bT (fG true [6] [1] (by decide) (by decide)) (by kernel_rfl)
theorem ae7:CO 129 [.agg [.bool false,.str [],.str [1]],.agg [.bool false,.str [6],.str [1]]] (.ret (.int .i64 (-1))):=cK (.c ae6 (.c ae5 .nil))
theorem ae8:CO 115 [.agg [.bool false,.str [7],.str [1]]] (.ret (.bool true)):=bT (dH false [7] [1] (by decide) (by decide)) (by kernel_rfl)
theorem ae9:CO 174 [.agg [.bool false,.str [7],.str [1]]] (.ret (.agg [.bool false,.str [7],.str [1]])):=cK (.c ae8 .nil)
theorem ae_:CO 182 [.agg [.bool false,.str [7],.str [1]]] (.ret (.agg [.bool true,.str [7],.str [1]])):=cK (.c ae9 .nil)
theorem afa:CO 115 [.agg [.bool true,.str [7],.str [1]]] (.ret (.bool true)):=bT (dH true [7] [1] (by decide) (by decide)) (by kernel_rfl)
theorem afb:CO 174 [.agg [.bool true,.str [7],.str [1]]] (.ret (.agg [.bool true,.str [7],.str [1]])):=cK (.c afa .nil)
theorem Tt:CO 161 [.sl [.int .u32 7] 1 true] (.ret (.sl [.int .u32 7] 1 true)):=cK (.nil)
theorem Tu:CO 136 [.str [7]] (.ret (.sl [.int .u32 7] 1 true)):=cK (.c Tt .nil)
theorem afc:CO 161 [.sl [.int .u32 7,.int .u32 0] 2 true] (.ret (.sl [.int .u32 7] 1 true)):=cK (.nil)
theorem afd:CO 189 [.sl [.int .u32 7] 1 true,.sl [.int .u32 1] 1 true] (.ret (.sl [.int .u32 7] 1 true)):=cK (.c afc .nil)
theorem afe:CO 141 [.str [0,0,0,7],.int .u8 0] (.ret (.str [7])):=cK (.nil)
theorem aff:CO 162 [.str [0,0,0,7],.str [0]] (.ret (.str [7])):=cK (.c afe .nil)
theorem ZP:CO 134 [.sl [.int .u32 7] 1 true] (.ret (.str [7])):=cK (.c aff (.c Tt .nil))
theorem afg:CO 175 [.str [7],.str [1]] (.ret (.str [7])):=cK (.c ZP (.c afd (.c yN (.c Tu .nil))))
theorem afh:CO 183 [.sl [] 0 true,.sl [.int .u32 7] 1 true] (.ret (.int .i64 (-1))):=cK (.nil)
theorem afi:CO 188 [.str [],.str [7]] (.ret (.tup [.str [],.bool false])):=cK (.c afh (.c Tu (.c Ia .nil)))
theorem afj:CO 183 [.sl [.int .u32 7] 1 true,.sl [] 0 true] (.ret (.int .i64 1)):=cK (.nil)
theorem afk:CO 204 [.sl [.int .u32 7] 1 true,.sl [] 0 true] (.ret (.sl [.int .u32 7] 1 true)):=cK (.c Tt .nil)
theorem afl:CO 188 [.str [7],.str []] (.ret (.tup [.str [7],.bool true])):=cK (.c ZP (.c afk (.c afj (.c Ia (.c Tu .nil)))))
theorem afm:CO 139 [.bool true,.str [7],.str [1]] (.ret (.agg [.bool true,.str [7],.str [1]])):=bT (pF true [7] [1] (by decide) (by decide) (by decide)) (by kernel_rfl)
theorem afn:CO 172 [.agg [.bool false,.str [],.str [1]],.agg [.bool true,.str [7],.str [1]]] (.ret (.agg [.bool true,.str [7],.str [1]])):=cK (.c afm (.c afl (.c afi (.c Fa (.c afg (.c H_ (.c afb (.c WZ .nil))))))))
theorem afo:CO 158 [.agg [.bool false,.str [],.str [1]],.agg [.bool false,.str [7],.str [1]]] (.ret (.agg [.bool true,.str [7],.str [1]])):=cK (.c afn (.c ae_ .nil))
theorem afp:CO 85 [.agg [.bool true,.str [7],.str [1]]] (.ret (.int .i64 (-1))):=bT (fG true [7] [1] (by decide) (by decide)) (by kernel_rfl)
theorem afq:CO 129 [.agg [.bool false,.str [],.str [1]],.agg [.bool false,.str [7],.str [1]]] (.ret (.int .i64 (-1))):=cK (.c afp (.c afo .nil))
theorem afr:CO 115 [.agg [.bool false,.str [8],.str [1]]] (.ret (.bool true)):=bT (dH false [8] [1] (by decide) (by decide)) (by kernel_rfl)
theorem afs:CO 174 [.agg [.bool false,.str [8],.str [1]]] (.ret (.agg [.bool false,.str [8],.str [1]])):=cK (.c afr .nil)
theorem aft:CO 182 [.agg [.bool false,.str [8],.str [1]]] (.ret (.agg [.bool true,.str [8],.str [1]])):=cK (.c afs .nil)
theorem afu:CO 115 [.agg [.bool true,.str [8],.str [1]]] (.ret (.bool true)):=bT (dH true [8] [1] (by decide) (by decide)) (by kernel_rfl)
theorem afv:CO 174 [.agg [.bool true,.str [8],.str [1]]] (.ret (.agg [.bool true,.str [8],.str [1]])):=cK (.c afu .nil)
theorem Tv:CO 161 [.sl [.int .u32 8] 1 true] (.ret (.sl [.int .u32 8] 1 true)):=cK (.nil)
theorem Tz:CO 136 [.str [8]] (.ret (.sl [.int .u32 8] 1 true)):=cK (.c Tv .nil)
theorem afw:CO 161 [.sl [.int .u32 8,.int .u32 0] 2 true] (.ret (.sl [.int .u32 8] 1 true)):=cK (.nil)
theorem afx:CO 189 [.sl [.int .u32 8] 1 true,.sl [.int .u32 1] 1 true] (.ret (.sl [.int .u32 8] 1 true)):=cK (.c afw .nil)
theorem afy:CO 141 [.str [0,0,0,8],.int .u8 0] (.ret (.str [8])):=cK (.nil)
theorem afz:CO 162 [.str [0,0,0,8],.str [0]] (.ret (.str [8])):=cK (.c afy .nil)
theorem ZQ:CO 134 [.sl [.int .u32 8] 1 true] (.ret (.str [8])):=cK (.c afz (.c Tv .nil))
theorem afA:CO 175 [.str [8],.str [1]] (.ret (.str [8])):=cK (.c ZQ (.c afx (.c yN (.c Tz .nil))))
theorem afB:CO 183 [.sl [] 0 true,.sl [.int .u32 8] 1 true] (.ret (.int .i64 (-1))):=cK (.nil)
theorem afC:CO 188 [.str [],.str [8]] (.ret (.tup [.str [],.bool false])):=cK (.c afB (.c Tz (.c Ia .nil)))
theorem afD:CO 183 [.sl [.int .u32 8] 1 true,.sl [] 0 true] (.ret (.int .i64 1)):=cK (.nil)
theorem afE:CO 204 [.sl [.int .u32 8] 1 true,.sl [] 0 true] (.ret (.sl [.int .u32 8] 1 true)):=cK (.c Tv .nil)
theorem afF:CO 188 [.str [8],.str []] (.ret (.tup [.str [8],.bool true])):=cK (.c ZQ (.c afE (.c afD (.c Ia (.c Tz .nil)))))
theorem afG:CO 139 [.bool true,.str [8],.str [1]] (.ret (.agg [.bool true,.str [8],.str [1]])):=bT (pF true [8] [1] (by decide) (by decide) (by decide)) (by kernel_rfl)
theorem afH:CO 172 [.agg [.bool false,.str [],.str [1]],.agg [.bool true,.str [8],.str [1]]] (.ret (.agg [.bool true,.str [8],.str [1]])):=cK (.c afG (.c afF (.c afC (.c Fa (.c afA (.c H_ (.c afv (.c WZ .nil))))))))
theorem afI:CO 158 [.agg [.bool false,.str [],.str [1]],.agg [.bool false,.str [8],.str [1]]] (.ret (.agg [.bool true,.str [8],.str [1]])):=cK (.c afH (.c aft .nil))
theorem afJ:CO 85 [.agg [.bool true,.str [8],.str [1]]] (.ret (.int .i64 (-1))):=bT (fG true [8] [1] (by decide) (by decide)) (by kernel_rfl)
theorem afK:CO 129 [.agg [.bool false,.str [],.str [1]],.agg [.bool false,.str [8],.str [1]]] (.ret (.int .i64 (-1))):=cK (.c afJ (.c afI .nil))
theorem afL:CO 115 [.agg [.bool false,.str [9],.str [1]]] (.ret (.bool true)):=bT (dH false [9] [1] (by decide) (by decide)) (by kernel_rfl)
theorem afM:CO 174 [.agg [.bool false,.str [9],.str [1]]] (.ret (.agg [.bool false,.str [9],.str [1]])):=cK (.c afL .nil)
theorem afN:CO 182 [.agg [.bool false,.str [9],.str [1]]] (.ret (.agg [.bool true,.str [9],.str [1]])):=cK (.c afM .nil)
theorem afO:CO 115 [.agg [.bool true,.str [9],.str [1]]] (.ret (.bool true)):=bT (dH true [9] [1] (by decide) (by decide)) (by kernel_rfl)
theorem afP:CO 174 [.agg [.bool true,.str [9],.str [1]]] (.ret (.agg [.bool true,.str [9],.str [1]])):=cK (.c afO .nil)
theorem TA:CO 161 [.sl [.int .u32 9] 1 true] (.ret (.sl [.int .u32 9] 1 true)):=cK (.nil)
theorem TB:CO 136 [.str [9]] (.ret (.sl [.int .u32 9] 1 true)):=cK (.c TA .nil)
theorem afR:CO 161 [.sl [.int .u32 9,.int .u32 0] 2 true] (.ret (.sl [.int .u32 9] 1 true)):=cK (.nil)
theorem afS:CO 189 [.sl [.int .u32 9] 1 true,.sl [.int .u32 1] 1 true] (.ret (.sl [.int .u32 9] 1 true)):=cK (.c afR .nil)
theorem afT:CO 141 [.str [0,0,0,9],.int .u8 0] (.ret (.str [9])):=cK (.nil)
theorem afU:CO 162 [.str [0,0,0,9],.str [0]] (.ret (.str [9])):=cK (.c afT .nil)
theorem ZR:CO 134 [.sl [.int .u32 9] 1 true] (.ret (.str [9])):=cK (.c afU (.c TA .nil))
theorem afV:CO 175 [.str [9],.str [1]] (.ret (.str [9])):=cK (.c ZR (.c afS (.c yN (.c TB .nil))))
theorem afW:CO 183 [.sl [] 0 true,.sl [.int .u32 9] 1 true] (.ret (.int .i64 (-1))):=cK (.nil)
theorem afX:CO 188 [.str [],.str [9]] (.ret (.tup [.str [],.bool false])):=cK (.c afW (.c TB (.c Ia .nil)))
theorem afY:CO 183 [.sl [.int .u32 9] 1 true,.sl [] 0 true] (.ret (.int .i64 1)):=cK (.nil)
theorem afZ:CO 204 [.sl [.int .u32 9] 1 true,.sl [] 0 true] (.ret (.sl [.int .u32 9] 1 true)):=cK (.c TA .nil)
theorem af0:CO 188 [.str [9],.str []] (.ret (.tup [.str [9],.bool true])):=cK (.c ZR (.c afZ (.c afY (.c Ia (.c TB .nil)))))
theorem af1:CO 139 [.bool true,.str [9],.str [1]] (.ret (.agg [.bool true,.str [9],.str [1]])):=bT (pF true [9] [1] (by decide) (by decide) (by decide)) (by kernel_rfl)
theorem af2:CO 172 [.agg [.bool false,.str [],.str [1]],.agg [.bool true,.str [9],.str [1]]] (.ret (.agg [.bool true,.str [9],.str [1]])):=cK (.c af1 (.c af0 (.c afX (.c Fa (.c afV (.c H_ (.c afP (.c WZ .nil))))))))
theorem af4:CO 158 [.agg [.bool false,.str [],.str [1]],.agg [.bool false,.str [9],.str [1]]] (.ret (.agg [.bool true,.str [9],.str [1]])):=cK (.c af2 (.c afN .nil))
theorem af5:CO 85 [.agg [.bool true,.str [9],.str [1]]] (.ret (.int .i64 (-1))):=bT (fG true [9] [1] (by decide) (by decide)) (by kernel_rfl)
theorem af6:CO 129 [.agg [.bool false,.str [],.str [1]],.agg [.bool false,.str [9],.str [1]]] (.ret (.int .i64 (-1))):=cK (.c af5 (.c af4 .nil))
theorem af7:CO 70 [.agg [.bool false,.str [1],.str [1]]] (.ret (.agg [.bool false,.str [1],.str [1]])):=bT (bU false [1] [1] (by decide) (by decide)) (by kernel_rfl)
theorem af8:CO 59 [.agg [.bool false,.str [1],.str [1]]] (.ret (.agg [.bool true,.str [1],.str [1]])):=cK (.c af7 .nil)
theorem xF:CO 70 [.agg [.bool false,.str [],.str [1]]] (.ret (.agg [.bool false,.str [],.str [1]])):=bT (bU false [] [1] (by decide) (by decide)) (by kernel_rfl)
theorem af9:CO 70 [.agg [.bool true,.str [1],.str [1]]] (.ret (.agg [.bool true,.str [1],.str [1]])):=bT (bU true [1] [1] (by decide) (by decide)) (by kernel_rfl)
theorem jR:CO 76 [.str []] (.ret (.str [])):=cK (.nil)
theorem af_:CO 107 [.str []] (.ret (.tup [.int .i64 0,.bool true])):=cK (.c jR .nil)
theorem aga:CO 77 [.str [],.int .i64 3] (.ret (.tup [.int .i64 0,.bool true])):=cK (.c af_ (.c jR .nil))
theorem FY:CO 76 [.str [1]] (.ret (.str [1])):=cK (.nil)
theorem ZT:CO 107 [.str [1]] (.ret (.tup [.int .i64 1,.bool true])):=cK (.c FY .nil)
theorem vP:CO 77 [.str [1],.int .i64 4] (.ret (.tup [.int .i64 1,.bool true])):=cK (.c ZT (.c FY .nil))
theorem agb:CO 49 [.int .i64 0] (.ret (.str [])):=bT (dm 0 (by decide)) (by kernel_rfl)
theorem xG:CO 50 [.str [],.str [1]] (.ret (.str [])):=cK (.c agb (.c vP (.c aga .nil)))
theorem agc:CO 77 [.str [1],.int .i64 3] (.ret (.tup [.int .i64 1,.bool true])):=cK (.c ZT (.c FY .nil))
theorem agd:CO 49 [.int .i64 1] (.ret (.str [1])):=bT (dm 1 (by decide)) (by kernel_rfl)
theorem vS:CO 50 [.str [1],.str [1]] (.ret (.str [1])):=cK (.c agd (.c vP (.c agc .nil)))
theorem age:CO 118 [.str [],.str [1]] (.ret (.int .i64 (-1))):=cK (.c FY (.c jR .nil))
theorem agf:CO 118 [.str [1],.str []] (.ret (.int .i64 1)):=cK (.c jR (.c FY .nil))
theorem agh:CO 78 [.str [1]] (.ret (.own [.int .i64 1] 1 1)):=cK (.c FY .nil)
theorem xH:CO 78 [.str []] (.ret (.nilS)):=cK (.c jR .nil)
theorem agi:CO 108 [.sl [.int .i64 1] 1 true] (.ret (.sl [.int .i64 1] 1 true)):=cK (.nil)
theorem agj:CO 111 [.sl [.int .i64 1] 1 true,.nilS] (.ret (.sl [.int .i64 1] 1 true)):=cK (.c agi .nil)
theorem agk:CO 76 [.str [0,0,1]] (.ret (.str [1])):=cK (.nil)
theorem agl:CO 79 [.sl [.int .i64 1] 1 true] (.ret (.str [1])):=cK (.c agk .nil)
theorem agm:CO 119 [.str [1],.str []] (.ret (.tup [.str [1],.bool true])):=cK (.c agl (.c agj (.c xH (.c agh (.c agf .nil)))))
theorem agn:CO 51 [.bool true,.str [1],.str [1]] (.ret (.agg [.bool true,.str [1],.str [1]])):=bT (dO true 1 1 (aV (by decide)) (aV (by decide)) (by decide)) (by kernel_rfl)
theorem agp:CO 87 [.agg [.bool false,.str [],.str [1]],.agg [.bool true,.str [1],.str [1]]] (.ret (.agg [.bool true,.str [1],.str [1]])):=cK (.c agn (.c agm (.c age (.c vS (.c vS (.c xG (.c af9 (.c xF .nil))))))))
theorem agq:CO 53 [.agg [.bool false,.str [],.str [1]],.agg [.bool false,.str [1],.str [1]]] (.ret (.agg [.bool true,.str [1],.str [1]])):=cK (.c agp (.c af8 .nil))
theorem agr:CO 45 [.agg [.bool true,.str [1],.str [1]]] (.ret (.int .i64 (-1))):=bT (fM true [1] [1] (by decide) (by decide)) (by kernel_rfl)
theorem ags:CO 24 [.agg [.bool false,.str [],.str [1]],.agg [.bool false,.str [1],.str [1]]] (.ret (.int .i64 (-1))):=cK (.c agr (.c agq .nil))
theorem agt:CO 70 [.agg [.bool false,.str [2],.str [1]]] (.ret (.agg [.bool false,.str [2],.str [1]])):=bT (bU false [2] [1] (by decide) (by decide)) (by kernel_rfl)
theorem agu:CO 59 [.agg [.bool false,.str [2],.str [1]]] (.ret (.agg [.bool true,.str [2],.str [1]])):=cK (.c agt .nil)
theorem agv:CO 70 [.agg [.bool true,.str [2],.str [1]]] (.ret (.agg [.bool true,.str [2],.str [1]])):=bT (bU true [2] [1] (by decide) (by decide)) (by kernel_rfl)
theorem JH:CO 76 [.str [2]] (.ret (.str [2])):=cK (.nil)
theorem agw:CO 107 [.str [2]] (.ret (.tup [.int .i64 2,.bool true])):=cK (.c JH .nil)
theorem agx:CO 77 [.str [2],.int .i64 3] (.ret (.tup [.int .i64 2,.bool true])):=cK (.c agw (.c JH .nil))
theorem agy:CO 49 [.int .i64 2] (.ret (.str [2])):=bT (dm 2 (by decide)) (by kernel_rfl)
theorem agz:CO 50 [.str [2],.str [1]] (.ret (.str [2])):=cK (.c agy (.c vP (.c agx .nil)))
theorem agA:CO 118 [.str [],.str [2]] (.ret (.int .i64 (-1))):=cK (.c JH (.c jR .nil))
theorem agB:CO 118 [.str [2],.str []] (.ret (.int .i64 1)):=cK (.c jR (.c JH .nil))
theorem agC:CO 78 [.str [2]] (.ret (.own [.int .i64 2] 1 1)):=cK (.c JH .nil)
theorem agD:CO 108 [.sl [.int .i64 2] 1 true] (.ret (.sl [.int .i64 2] 1 true)):=cK (.nil)
theorem agF:CO 111 [.sl [.int .i64 2] 1 true,.nilS] (.ret (.sl [.int .i64 2] 1 true)):=cK (.c agD .nil)
theorem agG:CO 76 [.str [0,0,2]] (.ret (.str [2])):=cK (.nil)
theorem agI:CO 79 [.sl [.int .i64 2] 1 true] (.ret (.str [2])):=cK (.c agG .nil)
theorem agJ:CO 119 [.str [2],.str []] (.ret (.tup [.str [2],.bool true])):=cK (.c agI (.c agF (.c xH (.c agC (.c agB .nil)))))
theorem agK:CO 51 [.bool true,.str [2],.str [1]] (.ret (.agg [.bool true,.str [2],.str [1]])):=bT (dO true 2 1 (aV (by decide)) (aV (by decide)) (by decide)) (by kernel_rfl)
theorem agL:CO 87 [.agg [.bool false,.str [],.str [1]],.agg [.bool true,.str [2],.str [1]]] (.ret (.agg [.bool true,.str [2],.str [1]])):=cK (.c agK (.c agJ (.c agA (.c vS (.c agz (.c xG (.c agv (.c xF .nil))))))))
theorem agM:CO 53 [.agg [.bool false,.str [],.str [1]],.agg [.bool false,.str [2],.str [1]]] (.ret (.agg [.bool true,.str [2],.str [1]])):=cK (.c agL (.c agu .nil))
theorem agN:CO 45 [.agg [.bool true,.str [2],.str [1]]] (.ret (.int .i64 (-1))):=bT (fM true [2] [1] (by decide) (by decide)) (by kernel_rfl)
theorem agO:CO 24 [.agg [.bool false,.str [],.str [1]],.agg [.bool false,.str [2],.str [1]]] (.ret (.int .i64 (-1))):=cK (.c agN (.c agM .nil))
theorem agP:CO 70 [.agg [.bool false,.str [3],.str [1]]] (.ret (.agg [.bool false,.str [3],.str [1]])):=bT (bU false [3] [1] (by decide) (by decide)) (by kernel_rfl)
theorem agQ:CO 59 [.agg [.bool false,.str [3],.str [1]]] (.ret (.agg [.bool true,.str [3],.str [1]])):=cK (.c agP .nil)
theorem agR:CO 70 [.agg [.bool true,.str [3],.str [1]]] (.ret (.agg [.bool true,.str [3],.str [1]])):=bT (bU true [3] [1] (by decide) (by decide)) (by kernel_rfl)
theorem JI:CO 76 [.str [3]] (.ret (.str [3])):=cK (.nil)
theorem agS:CO 107 [.str [3]] (.ret (.tup [.int .i64 3,.bool true])):=cK (.c JI .nil)
theorem agT:CO 77 [.str [3],.int .i64 3] (.ret (.tup [.int .i64 3,.bool true])):=cK (.c agS (.c JI .nil))
theorem agU:CO 49 [.int .i64 3] (.ret (.str [3])):=bT (dm 3 (by decide)) (by kernel_rfl)
theorem agV:CO 50 [.str [3],.str [1]] (.ret (.str [3])):=cK (.c agU (.c vP (.c agT .nil)))
theorem agW:CO 118 [.str [],.str [3]] (.ret (.int .i64 (-1))):=cK (.c JI (.c jR .nil))
theorem agX:CO 118 [.str [3],.str []] (.ret (.int .i64 1)):=cK (.c jR (.c JI .nil))
theorem agY:CO 78 [.str [3]] (.ret (.own [.int .i64 3] 1 1)):=cK (.c JI .nil)
theorem agZ:CO 108 [.sl [.int .i64 3] 1 true] (.ret (.sl [.int .i64 3] 1 true)):=cK (.nil)
theorem ag0:CO 111 [.sl [.int .i64 3] 1 true,.nilS] (.ret (.sl [.int .i64 3] 1 true)):=cK (.c agZ .nil)
theorem ag1:CO 76 [.str [0,0,3]] (.ret (.str [3])):=cK (.nil)
theorem ag2:CO 79 [.sl [.int .i64 3] 1 true] (.ret (.str [3])):=cK (.c ag1 .nil)
theorem ag3:CO 119 [.str [3],.str []] (.ret (.tup [.str [3],.bool true])):=cK (.c ag2 (.c ag0 (.c xH (.c agY (.c agX .nil)))))
theorem ag4:CO 51 [.bool true,.str [3],.str [1]] (.ret (.agg [.bool true,.str [3],.str [1]])):=bT (dO true 3 1 (aV (by decide)) (aV (by decide)) (by decide)) (by kernel_rfl)
theorem ag5:CO 87 [.agg [.bool false,.str [],.str [1]],.agg [.bool true,.str [3],.str [1]]] (.ret (.agg [.bool true,.str [3],.str [1]])):=cK (.c ag4 (.c ag3 (.c agW (.c vS (.c agV (.c xG (.c agR (.c xF .nil))))))))
theorem ag6:CO 53 [.agg [.bool false,.str [],.str [1]],.agg [.bool false,.str [3],.str [1]]] (.ret (.agg [.bool true,.str [3],.str [1]])):=cK (.c ag5 (.c agQ .nil))
theorem ag7:CO 45 [.agg [.bool true,.str [3],.str [1]]] (.ret (.int .i64 (-1))):=bT (fM true [3] [1] (by decide) (by decide)) (by kernel_rfl)
theorem ag8:CO 24 [.agg [.bool false,.str [],.str [1]],.agg [.bool false,.str [3],.str [1]]] (.ret (.int .i64 (-1))):=cK (.c ag7 (.c ag6 .nil))
theorem ag9:CO 70 [.agg [.bool false,.str [4],.str [1]]] (.ret (.agg [.bool false,.str [4],.str [1]])):=bT (bU false [4] [1] (by decide) (by decide)) (by kernel_rfl)
theorem ag_:CO 59 [.agg [.bool false,.str [4],.str [1]]] (.ret (.agg [.bool true,.str [4],.str [1]])):=cK (.c ag9 .nil)
theorem aha:CO 70 [.agg [.bool true,.str [4],.str [1]]] (.ret (.agg [.bool true,.str [4],.str [1]])):=bT (bU true [4] [1] (by decide) (by decide)) (by kernel_rfl)
theorem JJ:CO 76 [.str [4]] (.ret (.str [4])):=cK (.nil)
theorem ahb:CO 107 [.str [4]] (.ret (.tup [.int .i64 4,.bool true])):=cK (.c JJ .nil)
theorem ahc:CO 77 [.str [4],.int .i64 3] (.ret (.tup [.int .i64 4,.bool true])):=cK (.c ahb (.c JJ .nil))
theorem ahd:CO 49 [.int .i64 4] (.ret (.str [4])):=bT (dm 4 (by decide)) (by kernel_rfl)
theorem ahe:CO 50 [.str [4],.str [1]] (.ret (.str [4])):=cK (.c ahd (.c vP (.c ahc .nil)))
theorem ahf:CO 118 [.str [],.str [4]] (.ret (.int .i64 (-1))):=cK (.c JJ (.c jR .nil))
theorem ahg:CO 118 [.str [4],.str []] (.ret (.int .i64 1)):=cK (.c jR (.c JJ .nil))
theorem ahh:CO 78 [.str [4]] (.ret (.own [.int .i64 4] 1 1)):=cK (.c JJ .nil)
theorem ahi:CO 108 [.sl [.int .i64 4] 1 true] (.ret (.sl [.int .i64 4] 1 true)):=cK (.nil)
theorem ahj:CO 111 [.sl [.int .i64 4] 1 true,.nilS] (.ret (.sl [.int .i64 4] 1 true)):=cK (.c ahi .nil)
theorem ahk:CO 76 [.str [0,0,4]] (.ret (.str [4])):=cK (.nil)
theorem ahl:CO 79 [.sl [.int .i64 4] 1 true] (.ret (.str [4])):=cK (.c ahk .nil)
theorem ahm:CO 119 [.str [4],.str []] (.ret (.tup [.str [4],.bool true])):=cK (.c ahl (.c ahj (.c xH (.c ahh (.c ahg .nil)))))
theorem ahn:CO 51 [.bool true,.str [4],.str [1]] (.ret (.agg [.bool true,.str [4],.str [1]])):=bT (dO true 4 1 (aV (by decide)) (aV (by decide)) (by decide)) (by kernel_rfl)
theorem aho:CO 87 [.agg [.bool false,.str [],.str [1]],.agg [.bool true,.str [4],.str [1]]] (.ret (.agg [.bool true,.str [4],.str [1]])):=cK (.c ahn (.c ahm (.c ahf (.c vS (.c ahe (.c xG (.c aha (.c xF .nil))))))))
theorem ahp:CO 53 [.agg [.bool false,.str [],.str [1]],.agg [.bool false,.str [4],.str [1]]] (.ret (.agg [.bool true,.str [4],.str [1]])):=cK (.c aho (.c ag_ .nil))
theorem ahq:CO 45 [.agg [.bool true,.str [4],.str [1]]] (.ret (.int .i64 (-1))):=bT (fM true [4] [1] (by decide) (by decide)) (by kernel_rfl)
theorem ahr:CO 24 [.agg [.bool false,.str [],.str [1]],.agg [.bool false,.str [4],.str [1]]] (.ret (.int .i64 (-1))):=cK (.c ahq (.c ahp .nil))
theorem ahs:CO 70 [.agg [.bool false,.str [5],.str [1]]] (.ret (.agg [.bool false,.str [5],.str [1]])):=bT (bU false [5] [1] (by decide) (by decide)) (by kernel_rfl)
theorem aht:CO 59 [.agg [.bool false,.str [5],.str [1]]] (.ret (.agg [.bool true,.str [5],.str [1]])):=cK (.c ahs .nil)
theorem ahu:CO 70 [.agg [.bool true,.str [5],.str [1]]] (.ret (.agg [.bool true,.str [5],.str [1]])):=bT (bU true [5] [1] (by decide) (by decide)) (by kernel_rfl)
theorem JK:CO 76 [.str [5]] (.ret (.str [5])):=cK (.nil)
theorem ahv:CO 107 [.str [5]] (.ret (.tup [.int .i64 5,.bool true])):=cK (.c JK .nil)
theorem ahw:CO 77 [.str [5],.int .i64 3] (.ret (.tup [.int .i64 5,.bool true])):=cK (.c ahv (.c JK .nil))
theorem ahx:CO 49 [.int .i64 5] (.ret (.str [5])):=bT (dm 5 (by decide)) (by kernel_rfl)
theorem ahy:CO 50 [.str [5],.str [1]] (.ret (.str [5])):=cK (.c ahx (.c vP (.c ahw .nil)))
theorem ahz:CO 118 [.str [],.str [5]] (.ret (.int .i64 (-1))):=cK (.c JK (.c jR .nil))
theorem ahA:CO 118 [.str [5],.str []] (.ret (.int .i64 1)):=cK (.c jR (.c JK .nil))
theorem ahB:CO 78 [.str [5]] (.ret (.own [.int .i64 5] 1 1)):=cK (.c JK .nil)
theorem ahC:CO 108 [.sl [.int .i64 5] 1 true] (.ret (.sl [.int .i64 5] 1 true)):=cK (.nil)
theorem ahD:CO 111 [.sl [.int .i64 5] 1 true,.nilS] (.ret (.sl [.int .i64 5] 1 true)):=cK (.c ahC .nil)
theorem ahE:CO 76 [.str [0,0,5]] (.ret (.str [5])):=cK (.nil)
theorem ahF:CO 79 [.sl [.int .i64 5] 1 true] (.ret (.str [5])):=cK (.c ahE .nil)
theorem ahG:CO 119 [.str [5],.str []] (.ret (.tup [.str [5],.bool true])):=cK (.c ahF (.c ahD (.c xH (.c ahB (.c ahA .nil)))))
theorem ahH:CO 51 [.bool true,.str [5],.str [1]] (.ret (.agg [.bool true,.str [5],.str [1]])):=bT (dO true 5 1 (aV (by decide)) (aV (by decide)) (by decide)) (by kernel_rfl)
theorem ahI:CO 87 [.agg [.bool false,.str [],.str [1]],.agg [.bool true,.str [5],.str [1]]] (.ret (.agg [.bool true,.str [5],.str [1]])):=cK (.c ahH (.c ahG (.c ahz (.c vS (.c ahy (.c xG (.c ahu (.c xF .nil))))))))
theorem ahJ:CO 53 [.agg [.bool false,.str [],.str [1]],.agg [.bool false,.str [5],.str [1]]] (.ret (.agg [.bool true,.str [5],.str [1]])):=cK (.c ahI (.c aht .nil))
theorem ahK:CO 45 [.agg [.bool true,.str [5],.str [1]]] (.ret (.int .i64 (-1))):=bT (fM true [5] [1] (by decide) (by decide)) (by kernel_rfl)
theorem ahL:CO 24 [.agg [.bool false,.str [],.str [1]],.agg [.bool false,.str [5],.str [1]]] (.ret (.int .i64 (-1))):=cK (.c ahK (.c ahJ .nil))
theorem ahM:CO 70 [.agg [.bool false,.str [6],.str [1]]] (.ret (.agg [.bool false,.str [6],.str [1]])):=bT (bU false [6] [1] (by decide) (by decide)) (by kernel_rfl)
theorem ahN:CO 59 [.agg [.bool false,.str [6],.str [1]]] (.ret (.agg [.bool true,.str [6],.str [1]])):=cK (.c ahM .nil)
theorem ahO:CO 70 [.agg [.bool true,.str [6],.str [1]]] (.ret (.agg [.bool true,.str [6],.str [1]])):=bT (bU true [6] [1] (by decide) (by decide)) (by kernel_rfl)
theorem JL:CO 76 [.str [6]] (.ret (.str [6])):=cK (.nil)
theorem ahP:CO 107 [.str [6]] (.ret (.tup [.int .i64 6,.bool true])):=cK (.c JL .nil)
theorem ahQ:CO 77 [.str [6],.int .i64 3] (.ret (.tup [.int .i64 6,.bool true])):=cK (.c ahP (.c JL .nil))
theorem ahR:CO 49 [.int .i64 6] (.ret (.str [6])):=bT (dm 6 (by decide)) (by kernel_rfl)
theorem ahS:CO 50 [.str [6],.str [1]] (.ret (.str [6])):=cK (.c ahR (.c vP (.c ahQ .nil)))
theorem ahT:CO 118 [.str [],.str [6]] (.ret (.int .i64 (-1))):=cK (.c JL (.c jR .nil))
theorem ahU:CO 118 [.str [6],.str []] (.ret (.int .i64 1)):=cK (.c jR (.c JL .nil))
theorem ahV:CO 78 [.str [6]] (.ret (.own [.int .i64 6] 1 1)):=cK (.c JL .nil)
theorem ahW:CO 108 [.sl [.int .i64 6] 1 true] (.ret (.sl [.int .i64 6] 1 true)):=cK (.nil)
theorem ahX:CO 111 [.sl [.int .i64 6] 1 true,.nilS] (.ret (.sl [.int .i64 6] 1 true)):=cK (.c ahW .nil)
theorem ahY:CO 76 [.str [0,0,6]] (.ret (.str [6])):=cK (.nil)
theorem ahZ:CO 79 [.sl [.int .i64 6] 1 true] (.ret (.str [6])):=cK (.c ahY .nil)
theorem ah0:CO 119 [.str [6],.str []] (.ret (.tup [.str [6],.bool true])):=cK (.c ahZ (.c ahX (.c xH (.c ahV (.c ahU .nil)))))
theorem ah1:CO 51 [.bool true,.str [6],.str [1]] (.ret (.agg [.bool true,.str [6],.str [1]])):=bT (dO true 6 1 (aV (by decide)) (aV (by decide)) (by decide)) (by kernel_rfl)
theorem ah2:CO 87 [.agg [.bool false,.str [],.str [1]],.agg [.bool true,.str [6],.str [1]]] (.ret (.agg [.bool true,.str [6],.str [1]])):=cK (.c ah1 (.c ah0 (.c ahT (.c vS (.c ahS (.c xG (.c ahO (.c xF .nil))))))))
theorem ah3:CO 53 [.agg [.bool false,.str [],.str [1]],.agg [.bool false,.str [6],.str [1]]] (.ret (.agg [.bool true,.str [6],.str [1]])):=cK (.c ah2 (.c ahN .nil))
theorem ah4:CO 45 [.agg [.bool true,.str [6],.str [1]]] (.ret (.int .i64 (-1))):=bT (fM true [6] [1] (by decide) (by decide)) (by kernel_rfl)
theorem ah5:CO 24 [.agg [.bool false,.str [],.str [1]],.agg [.bool false,.str [6],.str [1]]] (.ret (.int .i64 (-1))):=cK (.c ah4 (.c ah3 .nil))
theorem ah6:CO 70 [.agg [.bool false,.str [7],.str [1]]] (.ret (.agg [.bool false,.str [7],.str [1]])):=bT (bU false [7] [1] (by decide) (by decide)) (by kernel_rfl)
theorem ah7:CO 59 [.agg [.bool false,.str [7],.str [1]]] (.ret (.agg [.bool true,.str [7],.str [1]])):=cK (.c ah6 .nil)
theorem ah8:CO 70 [.agg [.bool true,.str [7],.str [1]]] (.ret (.agg [.bool true,.str [7],.str [1]])):=bT (bU true [7] [1] (by decide) (by decide)) (by kernel_rfl)
theorem JM:CO 76 [.str [7]] (.ret (.str [7])):=cK (.nil)
theorem ah9:CO 107 [.str [7]] (.ret (.tup [.int .i64 7,.bool true])):=cK (.c JM .nil)
theorem ah_:CO 77 [.str [7],.int .i64 3] (.ret (.tup [.int .i64 7,.bool true])):=cK (.c ah9 (.c JM .nil))
theorem aia:CO 49 [.int .i64 7] (.ret (.str [7])):=bT (dm 7 (by decide)) (by kernel_rfl)
theorem aib:CO 50 [.str [7],.str [1]] (.ret (.str [7])):=cK (.c aia (.c vP (.c ah_ .nil)))
theorem aic:CO 118 [.str [],.str [7]] (.ret (.int .i64 (-1))):=cK (.c JM (.c jR .nil))
theorem aid:CO 118 [.str [7],.str []] (.ret (.int .i64 1)):=cK (.c jR (.c JM .nil))
theorem aie:CO 78 [.str [7]] (.ret (.own [.int .i64 7] 1 1)):=cK (.c JM .nil)
theorem aif:CO 108 [.sl [.int .i64 7] 1 true] (.ret (.sl [.int .i64 7] 1 true)):=cK (.nil)
theorem aig:CO 111 [.sl [.int .i64 7] 1 true,.nilS] (.ret (.sl [.int .i64 7] 1 true)):=cK (.c aif .nil)
theorem aih:CO 76 [.str [0,0,7]] (.ret (.str [7])):=cK (.nil)
theorem aii:CO 79 [.sl [.int .i64 7] 1 true] (.ret (.str [7])):=cK (.c aih .nil)
theorem aij:CO 119 [.str [7],.str []] (.ret (.tup [.str [7],.bool true])):=cK (.c aii (.c aig (.c xH (.c aie (.c aid .nil)))))
theorem aik:CO 51 [.bool true,.str [7],.str [1]] (.ret (.agg [.bool true,.str [7],.str [1]])):=bT (dO true 7 1 (aV (by decide)) (aV (by decide)) (by decide)) (by kernel_rfl)
theorem ail:CO 87 [.agg [.bool false,.str [],.str [1]],.agg [.bool true,.str [7],.str [1]]] (.ret (.agg [.bool true,.str [7],.str [1]])):=cK (.c aik (.c aij (.c aic (.c vS (.c aib (.c xG (.c ah8 (.c xF .nil))))))))
theorem aim:CO 53 [.agg [.bool false,.str [],.str [1]],.agg [.bool false,.str [7],.str [1]]] (.ret (.agg [.bool true,.str [7],.str [1]])):=cK (.c ail (.c ah7 .nil))
theorem ain:CO 45 [.agg [.bool true,.str [7],.str [1]]] (.ret (.int .i64 (-1))):=bT (fM true [7] [1] (by decide) (by decide)) (by kernel_rfl)
theorem aio:CO 24 [.agg [.bool false,.str [],.str [1]],.agg [.bool false,.str [7],.str [1]]] (.ret (.int .i64 (-1))):=cK (.c ain (.c aim .nil))
theorem aip:CO 70 [.agg [.bool false,.str [8],.str [1]]] (.ret (.agg [.bool false,.str [8],.str [1]])):=bT (bU false [8] [1] (by decide) (by decide)) (by kernel_rfl)
theorem aiq:CO 59 [.agg [.bool false,.str [8],.str [1]]] (.ret (.agg [.bool true,.str [8],.str [1]])):=cK (.c aip .nil)
theorem air:CO 70 [.agg [.bool true,.str [8],.str [1]]] (.ret (.agg [.bool true,.str [8],.str [1]])):=bT (bU true [8] [1] (by decide) (by decide)) (by kernel_rfl)
theorem JO:CO 76 [.str [8]] (.ret (.str [8])):=cK (.nil)
theorem ais:CO 107 [.str [8]] (.ret (.tup [.int .i64 8,.bool true])):=cK (.c JO .nil)
theorem ait:CO 77 [.str [8],.int .i64 3] (.ret (.tup [.int .i64 8,.bool true])):=cK (.c ais (.c JO .nil))
theorem aiu:CO 49 [.int .i64 8] (.ret (.str [8])):=bT (dm 8 (by decide)) (by kernel_rfl)
theorem aiv:CO 50 [.str [8],.str [1]] (.ret (.str [8])):=cK (.c aiu (.c vP (.c ait .nil)))
theorem aiw:CO 118 [.str [],.str [8]] (.ret (.int .i64 (-1))):=cK (.c JO (.c jR .nil))
theorem aix:CO 118 [.str [8],.str []] (.ret (.int .i64 1)):=cK (.c jR (.c JO .nil))
theorem aiy:CO 78 [.str [8]] (.ret (.own [.int .i64 8] 1 1)):=cK (.c JO .nil)
theorem aiz:CO 108 [.sl [.int .i64 8] 1 true] (.ret (.sl [.int .i64 8] 1 true)):=cK (.nil)
theorem aiA:CO 111 [.sl [.int .i64 8] 1 true,.nilS] (.ret (.sl [.int .i64 8] 1 true)):=cK (.c aiz .nil)
theorem aiB:CO 76 [.str [0,0,8]] (.ret (.str [8])):=cK (.nil)
theorem aiC:CO 79 [.sl [.int .i64 8] 1 true] (.ret (.str [8])):=cK (.c aiB .nil)
theorem aiD:CO 119 [.str [8],.str []] (.ret (.tup [.str [8],.bool true])):=cK (.c aiC (.c aiA (.c xH (.c aiy (.c aix .nil)))))
theorem aiE:CO 51 [.bool true,.str [8],.str [1]] (.ret (.agg [.bool true,.str [8],.str [1]])):=bT (dO true 8 1 (aV (by decide)) (aV (by decide)) (by decide)) (by kernel_rfl)
theorem aiF:CO 87 [.agg [.bool false,.str [],.str [1]],.agg [.bool true,.str [8],.str [1]]] (.ret (.agg [.bool true,.str [8],.str [1]])):=cK (.c aiE (.c aiD (.c aiw (.c vS (.c aiv (.c xG (.c air (.c xF .nil))))))))
theorem aiG:CO 53 [.agg [.bool false,.str [],.str [1]],.agg [.bool false,.str [8],.str [1]]] (.ret (.agg [.bool true,.str [8],.str [1]])):=cK (.c aiF (.c aiq .nil))
theorem aiH:CO 45 [.agg [.bool true,.str [8],.str [1]]] (.ret (.int .i64 (-1))):=bT (fM true [8] [1] (by decide) (by decide)) (by kernel_rfl)
theorem aiI:CO 24 [.agg [.bool false,.str [],.str [1]],.agg [.bool false,.str [8],.str [1]]] (.ret (.int .i64 (-1))):=cK (.c aiH (.c aiG .nil))
theorem aiJ:CO 70 [.agg [.bool false,.str [9],.str [1]]] (.ret (.agg [.bool false,.str [9],.str [1]])):=bT (bU false [9] [1] (by decide) (by decide)) (by kernel_rfl)
theorem aiK:CO 59 [.agg [.bool false,.str [9],.str [1]]] (.ret (.agg [.bool true,.str [9],.str [1]])):=cK (.c aiJ .nil)
theorem aiL:CO 70 [.agg [.bool true,.str [9],.str [1]]] (.ret (.agg [.bool true,.str [9],.str [1]])):=bT (bU true [9] [1] (by decide) (by decide)) (by kernel_rfl)
theorem JP:CO 76 [.str [9]] (.ret (.str [9])):=cK (.nil)
theorem aiM:CO 107 [.str [9]] (.ret (.tup [.int .i64 9,.bool true])):=cK (.c JP .nil)
theorem aiN:CO 77 [.str [9],.int .i64 3] (.ret (.tup [.int .i64 9,.bool true])):=cK (.c aiM (.c JP .nil))
theorem aiO:CO 49 [.int .i64 9] (.ret (.str [9])):=bT (dm 9 (by decide)) (by kernel_rfl)
theorem aiP:CO 50 [.str [9],.str [1]] (.ret (.str [9])):=cK (.c aiO (.c vP (.c aiN .nil)))
theorem aiQ:CO 118 [.str [],.str [9]] (.ret (.int .i64 (-1))):=cK (.c JP (.c jR .nil))
theorem aiR:CO 118 [.str [9],.str []] (.ret (.int .i64 1)):=cK (.c jR (.c JP .nil))
theorem aiS:CO 78 [.str [9]] (.ret (.own [.int .i64 9] 1 1)):=cK (.c JP .nil)
theorem aiT:CO 108 [.sl [.int .i64 9] 1 true] (.ret (.sl [.int .i64 9] 1 true)):=cK (.nil)
theorem aiU:CO 111 [.sl [.int .i64 9] 1 true,.nilS] (.ret (.sl [.int .i64 9] 1 true)):=cK (.c aiT .nil)
theorem aiV:CO 76 [.str [0,0,9]] (.ret (.str [9])):=cK (.nil)
theorem aiW:CO 79 [.sl [.int .i64 9] 1 true] (.ret (.str [9])):=cK (.c aiV .nil)
theorem aiX:CO 119 [.str [9],.str []] (.ret (.tup [.str [9],.bool true])):=cK (.c aiW (.c aiU (.c xH (.c aiS (.c aiR .nil)))))
theorem aiY:CO 51 [.bool true,.str [9],.str [1]] (.ret (.agg [.bool true,.str [9],.str [1]])):=bT (dO true 9 1 (aV (by decide)) (aV (by decide)) (by decide)) (by kernel_rfl)
theorem aiZ:CO 87 [.agg [.bool false,.str [],.str [1]],.agg [.bool true,.str [9],.str [1]]] (.ret (.agg [.bool true,.str [9],.str [1]])):=cK (.c aiY (.c aiX (.c aiQ (.c vS (.c aiP (.c xG (.c aiL (.c xF .nil))))))))
theorem ai0:CO 53 [.agg [.bool false,.str [],.str [1]],.agg [.bool false,.str [9],.str [1]]] (.ret (.agg [.bool true,.str [9],.str [1]])):=cK (.c aiZ (.c aiK .nil))
theorem ai1:CO 45 [.agg [.bool true,.str [9],.str [1]]] (.ret (.int .i64 (-1))):=bT (fM true [9] [1] (by decide) (by decide)) (by kernel_rfl)
theorem ai2:CO 24 [.agg [.bool false,.str [],.str [1]],.agg [.bool false,.str [9],.str [1]]] (.ret (.int .i64 (-1))):=cK (.c ai1 (.c ai0 .nil))
theorem aa1 (n:Nat) (h:1≤n∧n≤9):CO 129 [.agg [.bool false,.str [],.str [1]],.agg [.bool false,.str [UInt8.ofNat n],.str [1]]] (.ret (.int .i64 (-1))):=by
 obtain ⟨a,b⟩:=h
 match n,a,b with
 |1,_,_=>exact aom
 |2,_,_=>exact aoG
 |3,_,_=>exact ao0
 |4,_,_=>exact aet
 |5,_,_=>exact aeN
 |6,_,_=>exact ae7
 |7,_,_=>exact afq
 |8,_,_=>exact afK
 |9,_,_=>exact af6
theorem alm (n:Nat) (h:1≤n∧n≤9):CO 24 [.agg [.bool false,.str [],.str [1]],.agg [.bool false,.str [UInt8.ofNat n],.str [1]]] (.ret (.int .i64 (-1))):=by
 obtain ⟨a,b⟩:=h
 match n,a,b with
 |1,_,_=>exact ags
 |2,_,_=>exact agO
 |3,_,_=>exact ag8
 |4,_,_=>exact ahr
 |5,_,_=>exact ahL
 |6,_,_=>exact ah5
 |7,_,_=>exact aio
 |8,_,_=>exact aiI
 |9,_,_=>exact ai2
theorem jE {a:List Nd} (h:a.all (fun x=>Nat.ble (x.num.length+1) 8589934592 && Nat.ble (x.den.length+1) 8589934592)=true):∀ x ∈ a,x.sm:=by
 intro x b
 have:=List.all_eq_true.1 h x b
 rw [Bool.and_eq_true] at this
 exact ⟨Nat.le_of_ble_eq_true this.1,Nat.le_of_ble_eq_true this.2⟩
def kW:Br→Br→Int:=fun _ _=> -1
theorem uA {f:Nat}:Hm f kW []:=fun q a=>by simp at a
theorem F6 {f:Nat} {a b:Br} (h:CO f [LZ a,LZ b] (.ret (.int .i64 (-1)))):rY f kW [a,b]:=by
 intro i y x d c _ _
 match i with
 |0=>simp at d c;subst d c;exact h
 |i+1=>simp at c
theorem Qg {f:Nat} {a:Br}:rY f kW [a]:=by
 intro i y x c b _ _
 simp at b
theorem Ld {f:Nat} {a b:Br} {g:List UInt8} {u1 u2:Int} (i:a.sm) (e:b.sm) (h:CO f [LZ a,LZ b] (.ret (.int .i64 (-1)))):Hm f kW [⟨g,u1,u2,[a,b]⟩]:=by
 intro q c
 rw [List.mem_singleton] at c
 subst c
 refine ⟨by simp, ?_,F6 h⟩
 intro x d
 simp only [List.mem_cons,List.not_mem_nil,or_false] at d
 rcases d with rfl|rfl
 ·exact i
 ·exact e
def Wl (q:Sq):Prop:=∃ b:Br,b.sm∧b.fn=false∧b.fa= []∧b.fd= [1]∧(q.l= [b]∨∃ (c:Br) (n:Nat),1≤n∧n≤9∧c.sm∧c.fn=false∧c.fa= [UInt8.ofNat n]∧c.fd= [1]∧q.l= [b,c])
theorem G5 {f:Nat} (o:∀ n:Nat,1≤n∧n≤9→CO f [.agg [.bool false,.str [],.str [1]],.agg [.bool false,.str [UInt8.ofNat n],.str [1]]] (.ret (.int .i64 (-1)))) {qs:List Sq} (h:∀ q ∈ qs,Wl q):Hm f kW qs:=by
 intro q r
 obtain ⟨b,i,j,k,t,d⟩:=h q r
 rcases d with d|⟨c,n,p,s,l,m,e,g,d⟩
 ·rw [d]
  refine ⟨by simp, ?_,Qg⟩
  intro x a
  rw [List.mem_singleton] at a
  exact a ▸ i
 ·rw [d]
  refine ⟨by simp, ?_,F6 ?_⟩
  ·intro x a
   simp only [List.mem_cons,List.not_mem_nil,or_false] at a
   rcases a with rfl|rfl
   ·exact i
   ·exact l
  ·have:=o n ⟨p,s⟩
   unfold LZ
   rw [j,k,t,m,e,g]
   exact this
end Go.Proofs.Tryz
