/- Contracts of functions that the law reaches, each by its own hypotheses; joined by a program of mine. -/
import Derived.Test.YtcjindbblhcopaaGreatDoorC2
import Derived.Test.YtcjindbblhcopaaGreatDoorC1
import Derived.RangeFuncBox
import Derived.RangeFuncCalls
import Derived.RangeFuncLeaves
import Derived.Shelf.Abstract
import Derived.WalkKit
import Derived.OwnWalkIn
import Derived.TacticsInMore
import Derived.LoopNIn
import Derived.LoopIn
set_option linter.unusedSimpArgs false
set_option linter.unusedVariables false
set_option maxRecDepth 100000
open Go AM
namespace Go.Proofs.Tryz
theorem wkn {n a:Nat} (h:n=a+1) (b:n<2^40):AV.int .i64 (IntKind.wrap .i64 ((n:Int) - ((1:Nat):Int)))= .int .i64 (a:Int):=by rw [dC]<;>first|(congr 1;omega)|omega
theorem deq (n:Nat):decide ((n:Int)=(n:Int))=true:=decide_eq_true rfl
theorem dle {n:Nat} (h:n<2^40):decide ((n:Int)≤((1099511627776:Nat):Int))=true:=decide_eq_true (by omega)
theorem VT:CO 38 [] (.ret (.mp [.int .i64 9,.int .i64 13,.int .i64 14,.int .i64 21,.int .i64 22,.int .i64 23,.int .i64 10,.int .i64 11,.int .i64 12,.int .i64 15,.int .i64 24] [.fn 39 [] [],.fn 39 [] [],.fn 39 [] [],.fn 39 [] [],.fn 39 [] [],.fn 39 [] [],.fn 63 [] [],.fn 64 [] [],.fn 65 [] [],.fn 66 [] [],.fn 67 [] []])):=cK .nil
theorem JF (l:List Nd) (b:Bool) (a:∀ x ∈ l,x.sm) (c:dH l=0):CO 37 [.sl (aH l) l.length b] (.ret (.tup [.sl (bC (bQ l)) (bQ l).length true,.bool true])):=by
 rw [(ni c).1];exact Xa l b a c
theorem amX (e:List Nd) (b:Bool) (A:List (List Nat)) (c:List Sc) (g:Bool) (h:List Nat) (f:Int) (a:List UInt8) (d:CO 37 [.sl (aH e) e.length b] (.ret (.tup [.nilS,.bool false]))):CO 14 [.sl (aH e) e.length b,.sl (bZ c) c.length g,.int .i64 f,.str a] (.ret (.int .i64 ((3:Nat):Int))):=pK [] 3 7 (.n 3 .nil) (.c d .nil)
theorem adl (e:List Nd) (d:Bool) (A:List (List Nat)) (f:List Sc) (h:Bool) (j:List Nat) (b:Int) (a:List UInt8) (c:CO 37 [.sl (aH e) e.length d] (.ret (.tup [.sl (bC A) A.length true,.bool true]))) (i:b<5∨8<b):CO 14 [.sl (aH e) e.length d,.sl (bZ f) f.length h,.int .i64 b,.str a] (.ret (.int .i64 ((3:Nat):Int))):=by
 rcases tf (decide (b<((5:Nat):Int))) with b0|b0
 ·exact pK [] 3 6 (.k 1 (aC b0) (.n 1 .nil)) (.c c .nil)
 ·have g:(decide (((8:Nat):Int)<b))=true:=decide_eq_true (by have:=of_decide_eq_false b0;omega)
  exact pK [] 3 4 (.c (aC g) (.c (aB b0) (.n 1 .nil))) (.c c .nil)
theorem amY (e:List Nd) (c:Bool) (A:List (List Nat)) (b:List Sc) (i:Bool) (g:List Nat) (f:Int) (a:List UInt8) (h s:Nat) (o:List AV) (l:CO 37 [.sl (aH e) e.length c] (.ret (.tup [.sl (bC A) A.length true,.bool true]))) (m:(decide (f<((5:Nat):Int)))=false) (n:(decide (((8:Nat):Int)<f))=false) (k:e.length=h+1) (d:e.length<2^40) (j:h<g.length) (hs:(List.drop ((0+(Int.toNat (h:Int)))*1) (aj g))= [AV.int .i64 (s:Int)]++o)
  (m0:Nat) (Z:List AV) (hm0:m0=Int.toNat (e.length:Int)) (hZ:Z=iV (Int.toNat (e.length:Int)) [.int .i64 0])
  (l0:aI prog ap [] 111 (.block 0 (.loop (ae 0 (af f14)))) ⟨[(0,.sl (aH e) e.length c),(1,.sl (bZ b) b.length i),(2,.int .i64 f),(3,.str a),(8,.int .i64 0),(9,.sl (bC A) A.length true),(10,.bool true),(11,.ptr 0 0 0),(12,.mp [.int .i64 9,.int .i64 13,.int .i64 14,.int .i64 21,.int .i64 22,.int .i64 23,.int .i64 10,.int .i64 11,.int .i64 12,.int .i64 15,.int .i64 24] [.fn 39 [] [],.fn 39 [] [],.fn 39 [] [],.fn 39 [] [],.fn 39 [] [],.fn 39 [] [],.fn 63 [] [],.fn 64 [] [],.fn 65 [] [],.fn 66 [] [],.fn 67 [] []]),(13,.dead),(14,.dead),(15,.dead),(16,.dead),(31,.bool (decide (((8:Nat):Int)<f))),(41,.sl (aH e) e.length c),(42,.int .i64 (e.length:Int)),(43,.int .i64 0),(44,.dead),(61,.dead),(78,.dead),(89,.dead)],[(0,⟨[.sl (aH e) e.length c,.sl (bC A) A.length true,.sl (bZ b) b.length i,.ref 1 0 0 m0],0,false,0,0,false⟩),(1,⟨Z,0,false,0,1,true⟩)],.dead,[]⟩ (.normal) ⟨[(0,.sl (aH e) e.length c),(11,.ptr 0 0 0)],[(0,⟨[.sl (aH e) e.length c,.sl (bC A) A.length true,.sl (bZ b) b.length i,.ref 1 0 0 g.length],0,false,0,0,false⟩),(1,⟨(aj g),0,false,0,1,true⟩)],.dead,[]⟩):CO 14 [.sl (aH e) e.length c,.sl (bZ b) b.length i,.int .i64 f,.str a] (.ret (.int .i64 (s:Int))):=by
 subst hm0 hZ
 exact pK [0] 3 0 (.a (g_ [.int .i64] hs rfl) (.c (aQ h) (.c (bK j) (.k 1 (aQ e.length) (.c (deq e.length) (.c (dle d) (.c (aB n) (.c (aB m) (.n 1 .nil))))))))) (.v 110 (.rd1 (.int .i64) hs rfl) (.v 108 (.eq (wkn k d)) (.l l0 (.c VT (.c l .nil)))))
def sQ (ck:Sc→Int) (up:Sc→Bool) (e:List Nd) (A:List (List Nat)) (sc:List Sc) (op:Int) (name:List UInt8):List Nd→Nat→List Nat→List Nat
 | [],_,ss=>ss
 |x::r,k,ss=>sQ ck up e A sc op name r (k+1) (ss.set k (yJ ck up e A sc op name ss k x))
theorem zF (ck:Sc→Int) (b:Sc→Bool) (e:List Nd) (A:List (List Nat)) (d:List Sc) (c:Int) (a:List UInt8):∀ (r:List Nd) (k:Nat) (ss:List Nat),(sQ ck b e A d c a r k ss).length=ss.length
 | [],_,_=>rfl
 |x::r,k,ss=>by simp only [sQ,zF ck b e A d c a r,List.length_set]
def jF (ck:Sc→Int) (up:Sc→Bool) (e:List Nd) (sc:List Sc) (op:Int) (name:List UInt8):Nat:=
 if dH e=0∧5≤op∧op≤8 then (sQ ck up e (bQ e) sc op name e 0 (List.replicate e.length 0)).getD (e.length - 1) 0 else 3
theorem Zl {nt:Nat} (q:111≤nt) (e:List Nd) (m:Bool) (l:List Sc) (o:Bool) (g:List Nat) (ck:Sc→Int) (I:Sc→Bool) (p:Int) (a:List UInt8) (k:Nat) (x:Nd) (M:∀ y ∈ e,y.sm) (T:dH e=0) (N:e[k]? =some x) (c:e.length<2^40) (w:g.length=e.length) (J:l.length<2^40) (V:∀ x ∈ l,CO 102 [.agg (xw x)] (.ret (.int .i64 (ck x)))∧(ck x=0→CO 103 [.agg (xw x)] (.ret (.bool (I x))))):
  ah prog ap [] nt (ae 0 (af f14)) (iE e m (bQ e) l o p a (k,g)) .normal (iE e m (bQ e) l o p a (k+1,g.set k (yJ ck I e (bQ e) l p a g k x))):=by
 obtain ⟨u,L⟩:=ni T
 obtain ⟨F,G⟩:=L k x N
 obtain ⟨r,R⟩:=List.getElem?_eq_some_iff.1 N
 have b:e.getD k jd=x:=by rw [List.getD_eq_getElem?_getD,N];rfl
 generalize S:bQ e=A at*
 have t:k<A.length:=by omega
 have v:∀ j ∈ A.getD k [],j<g.length:=fun j D=>by have:=G j D;omega
 have B:∀ j ∈ A.getD k [],j<e.length:=fun j D=>by have:=G j D;omega
 have H:(A.getD k []).length<2^40:=by rw [F];unfold dM;split<;>(try split)<;>(try split)<;>omega
 have z:(List.drop ((Int.toNat (k:Int))*5) (aH e))=iZ x++aH (e.drop (k+1)):=by rw [ut r,b]
 have call_:=aaP e m A l o g k t H v
 have K:∀ j,(e.getD j jd).num.length<2^36∧(e.getD j jd).den.length<2^36:=by
  intro j
  by_cases D:j<e.length
  ·have U:e.getD j jd ∈ e:=by rw [List.getD_eq_getElem?_getD,List.getElem?_eq_getElem D];exact List.getElem_mem D
   have:=M _ U
   exact ⟨Nat.lt_trans this.1 (by decide),Nat.lt_trans this.2 (by decide)⟩
  ·rw [List.getD_eq_getElem?_getD,List.getElem?_eq_none (by omega)];decide
 have C:(DJ x.op= .tup [.nilF,.bool false])∨∃ f,DJ x.op= .tup [.fn f [] [],.bool true]:=by
  by_cases h1:(x.op=9∨x.op=13∨x.op=14∨x.op=21∨x.op=22∨x.op=23)∨(x.op=10)∨(x.op=11)∨(x.op=12)∨(x.op=15)∨(x.op=24)
  ·rcases h1 with h|h|h|h|h|h
   ·exact .inr ⟨_,UM h⟩
   ·exact .inr ⟨_,UT h⟩
   ·exact .inr ⟨_,UQ h⟩
   ·exact .inr ⟨_,UO h⟩
   ·exact .inr ⟨_,UN h⟩
   ·exact .inr ⟨_,O_ h⟩
  ·exact .inl (UR h1)
 unfold yJ
 by_cases hit:(x.op==p && x.name==a)=true
 ·rw [hit]
  rw [Bool.and_eq_true] at hit
  rcases C with h|⟨f,h⟩
  ·exact amS q e m A l o g p a k x _ b z r c u w h hit.1 hit.2
  ·exact amR q e m A l o g p a k x _ b z r c u w f h hit.1 hit.2
 ·rw [Bool.not_eq_true] at hit
  rw [hit]
  have d:(x.op==p)=false∨(x.name==a)=false:=Bool.and_eq_false_iff.1 hit
  rcases tf ((((eG A g k):Nat):Int)==((0:Nat):Int)) with b3|b3
  ·rw [b3]
   rcases tf (x.op==p) with b1|b1
   ·have O:(x.name==a)=false:=by rcases d with h|h;rw [h] at b1;cases b1;exact h
    rcases C with h|⟨f,h⟩
    ·exact amU q e m A l o g p a k x _ b z r c u w h b1 O b3 call_
    ·exact amT q e m A l o g p a k x _ b z r c u w f h b1 O b3 call_
   ·rcases C with h|⟨f,h⟩
    ·exact amW q e m A l o g p a k x _ b z r c u w h b1 b3 call_
    ·exact amV q e m A l o g p a k x _ b z r c u w f h b1 b3 call_
  ·rw [b3]
   dsimp only [cond]
   unfold fU
   have E:∀ n,dM x.op=n→∀ i,i<n→i<(A.getD k []).length:=fun n q i Q=>by rw [F,q];exact Q
   by_cases g1:x.op=9∨x.op=13∨x.op=14∨x.op=21∨x.op=22∨x.op=23
   ·rw [if_pos g1];exact adc q e m A l o g p a k x _ b z r c u w (UM g1) d b3 call_
   rw [if_neg g1]
   by_cases g2:x.op=10
   ·rw [if_pos g2]
    have s:=E 2 (by rw [g2];rfl)
    exact adk q e m A l o g p a k x _ b z r c u w (UT g2) d b3 call_ (adx e m A l o g k t v B (s 0 (by omega)) (s 1 (by omega)))
   rw [if_neg g2]
   by_cases g3:x.op=11
   ·rw [if_pos g3]
    have s:=E 2 (by rw [g3];rfl)
    exact adh q e m A l o g p a k x _ b z r c u w (UQ g3) d b3 call_ (ab3 e m A l o g k t v B (s 0 (by omega)) (s 1 (by omega)))
   rw [if_neg g3]
   by_cases g4:x.op=12
   ·rw [if_pos g4]
    have s:=E 2 (by rw [g4];rfl)
    exact adf q e m A l o g p a k x _ b z r c u w (UO g4) d b3 call_ (abv e m A l o g k t v B (s 0 (by omega)) (s 1 (by omega)) (K _))
   rw [if_neg g4]
   by_cases g5:x.op=15
   ·rw [if_pos g5]
    have s:=E 3 (by rw [g5];rfl)
    exact ade q e m A l o g p a k x _ b z r c u w (UN g5) d b3 call_ (abd e m A l o g k t v B (s 0 (by omega)) (s 1 (by omega)) (s 2 (by omega)))
   rw [if_neg g5]
   by_cases g6:x.op=24
   ·rw [if_pos g6]
    have s:=E 1 (by rw [g6];rfl)
    have P:=YU e m A l o g ck I k t r J v (s 0 (by omega)) V
    rw [b] at P
    exact Zk q e m A l o g p a k x _ b z r c u w ck I (O_ g6) d b3 call_ P
   rw [if_neg g6]
   exact adi q e m A l o g p a k x _ b z r c u w (UR (by rintro (h|h|h|h|h|h);exact g1 h;exact g2 h;exact g3 h;exact g4 h;exact g5 h;exact g6 h)) d b3 call_
theorem Zj {nt:Nat} (n:111≤nt) (e:List Nd) (f:Bool) (c:List Sc) (g:Bool) (ck:Sc→Int) (i:Sc→Bool) (d:Int) (a:List UInt8) (j:∀ y ∈ e,y.sm) (o:dH e=0) (m:e.length<2^40) (k:c.length<2^40) (s:∀ x ∈ c,CO 102 [.agg (xw x)] (.ret (.int .i64 (ck x)))∧(ck x=0→CO 103 [.agg (xw x)] (.ret (.bool (i x))))):∀ (r p:List Nd) (b:List Nat),p++r=e→b.length=e.length→
  aF prog ap [] nt (ae 0 (af f14)) (fun _=> .exit 0) (iE e f (bQ e) c g d a) (VV e f (bQ e) c g) (p.length,b) (sQ ck i e (bQ e) c d a r p.length b):=by
 intro r
 induction r with
 |nil=>
  intro p b hp l
  rw [List.append_nil] at hp
  rw [hp]
  exact .done (adg n e f (bQ e) c g b d a)
 |cons x r ih=>
  intro p b hp l
  have q:e[p.length]? =some x:=by rw [← hp];simp
  have h:=ih (p++ [x]) (b.set p.length (yJ ck i e (bQ e) c d a b p.length x)) (by rw [← hp];simp) (by rw [List.length_set];exact l)
  rw [List.length_append,List.length_singleton] at h
  exact .next (Zl n e f c g b ck i d a p.length x j o q m l k s) h
theorem VW (e:List Nd) (d:Bool) (b:List Sc) (f:Bool) (ck:Sc→Int) (j:Sc→Bool) (c:Int) (a:List UInt8) (g:∀ y ∈ e,y.sm) (l:e.length<2^40) (o:b.length<2^40) (s:∀ x ∈ b,CO 102 [.agg (xw x)] (.ret (.int .i64 (ck x)))∧(ck x=0→CO 103 [.agg (xw x)] (.ret (.bool (j x))))) (m:dH e ≠ 0→CO 37 [.sl (aH e) e.length d] (.ret (.tup [.nilS,.bool false]))):
  CO 14 [.sl (aH e) e.length d,.sl (bZ b) b.length f,.int .i64 c,.str a] (.ret (.int .i64 ((jF ck j e b c a:Nat):Int))):=by
 unfold jF
 by_cases hq:dH e=0
 ·by_cases ho:5≤c∧c≤8
  ·rw [if_pos ⟨hq,ho⟩]
   have h0:e ≠ []:=by intro h;rw [h] at hq;exact absurd hq (by decide)
   obtain ⟨i,n⟩:∃ i,e.length=i+1:=⟨e.length - 1,by have:=List.length_pos_iff.2 h0;omega⟩
   have p:(sQ ck j e (bQ e) b c a e 0 (List.replicate e.length 0)).length=e.length:=by rw [zF,List.length_replicate]
   have h:∀ nt,111≤nt→aF prog ap [] nt (ae 0 (af f14)) (fun _=> .exit 0) (iE e d (bQ e) b f c a) (VV e d (bQ e) b f) (0,List.replicate e.length 0) (sQ ck j e (bQ e) b c a e 0 (List.replicate e.length 0)):=fun nt q=>Zj q e d b f ck j c a g hq l o s e [] _ rfl (List.length_replicate ..)
   generalize sQ ck j e (bQ e) b c a e 0 (List.replicate e.length 0)=ss at*
   rw [show e.length - 1=i by omega]
   have k:i<ss.length:=by omega
   refine amY e d (bQ e) b f ss c a i (ss.getD i 0) _ (JF e d g hq) (decide_eq_false (by omega)) (decide_eq_false (by omega)) n l k (by rw [Nat.zero_add];exact kG k) (List.replicate e.length 0).length (aj (List.replicate e.length 0)) (by rw [List.length_replicate,aA]) (by rw [aA,BA]) ?_
   have r:(decide (((8:Nat):Int)<c))=false:=decide_eq_false (by omega)
   rw [r]
   exact aF.blk h (by simp) rfl (aK.of ⟨rfl,rfl,rfl,rfl,rfl,rfl,rfl,rfl,trivial⟩) (aK.of ⟨rfl,rfl,trivial⟩)
  ·rw [if_neg (fun h=>ho h.2)]
   exact adl e d (bQ e) b f [] c a (JF e d g hq) (by omega)
 ·rw [if_neg (fun h=>hq h.1)]
  exact amX e d [] b f [] c a (m hq)
theorem uC (a b:Nat):CO 41 [.int .i64 (a:Int),.int .i64 (b:Int)] (.ret (.int .i64 ((eu a b:Nat):Int))):=by
 rcases tf ((a:Int)==((0:Nat):Int)) with b0|b0
 ·rw [show eu a b=b by unfold eu;simp only [iq,decide_eq_true_eq,decide_eq_false_iff_not] at b0;first|(simp [*];done)|(subst b0;simp [*];done)|(subst b1;simp [*];done)|(simp [*];omega)]
  exact pK [] 2 3 (.k 1 (aC b0) .nil) (.nil)
 ·rcases tf ((a:Int)==(b:Int)) with b1|b1
  ·rw [show eu a b=b by unfold eu;simp only [iq,decide_eq_true_eq,decide_eq_false_iff_not] at b0 b1;first|(simp [*];done)|(subst b0;simp [*];done)|(subst b1;simp [*];done)|(simp [*];omega)]
   exact pK [] 2 2 (.c (aC b1) (.c (aB b0) .nil)) (.nil)
  ·rcases tf ((b:Int)==((0:Nat):Int)) with b2|b2
   ·rw [show eu a b=a by unfold eu;simp only [iq,decide_eq_true_eq,decide_eq_false_iff_not] at b0 b1 b2;first|(simp [*];done)|(subst b0;simp [*];done)|(subst b1;simp [*];done)|(simp [*];omega)]
    exact pK [] 3 4 (.c (aC b2) (.c (aB b1) (.c (aB b0) .nil))) (.nil)
   ·rw [show eu a b=3 by unfold eu;simp only [iq,decide_eq_true_eq,decide_eq_false_iff_not] at b0 b1 b2;first|(simp [*];done)|(subst b0;simp [*];done)|(subst b1;simp [*];done)|(simp [*];omega)]
    exact pK [] 3 0 (.c (aB b2) (.c (aB b1) (.c (aB b0) .nil))) (.nil)
theorem Ez (a:Nat):CO 42 [.int .i64 (a:Int)] (.ret (.int .i64 ((jM a:Nat):Int))):=by
 rcases tf ((a:Int)==((1:Nat):Int)) with b0|b0
 ·have e:((jM a:Nat):Int)=IntKind.wrap .i64 (((3:Nat):Int) - (a:Int)):=by
   simp only [iq,decide_eq_true_eq,decide_eq_false_iff_not] at b0
   subst b0
   decide
  rw [e]
  exact pK [] 2 3 (.k 1 (aC b0) .nil) (.nil)
 ·rcases tf ((a:Int)==((2:Nat):Int)) with b1|b1
  ·have e:((jM a:Nat):Int)=IntKind.wrap .i64 (((3:Nat):Int) - (a:Int)):=by
    simp only [iq,decide_eq_true_eq,decide_eq_false_iff_not] at b0 b1
    subst b1
    decide
   rw [e]
   exact pK [] 2 2 (.c (aC b1) (.c (aB b0) .nil)) (.nil)
  ·rw [show jM a=a by unfold jM;simp only [iq,decide_eq_true_eq,decide_eq_false_iff_not] at b0 b1;simp [*]]
   exact pK [] 2 0 (.c (aB b1) (.c (aB b0) .nil)) (.nil)
theorem vw (s:Nat) (x:Nd):CO 44 [.int .i64 (s:Int),.agg [.bool x.neg,.str x.num,.str x.den]] (.ret (.int .i64 ((gX x.neg s:Nat):Int))):=by
 rcases tf x.neg with b0|b0
 ·rw [show gX x.neg s=jM s by unfold gX;rw [b0];rfl]
  exact pK [] 1 1 (.c (aC b0) (.n 1 .nil)) (.c (Ez s) .nil)
 ·rw [show gX x.neg s=s by unfold gX;rw [b0];rfl]
  exact pK [] 1 0 (.c (aB b0) (.n 1 .nil)) (.nil)
theorem gV (x:Nd):CO 43 [.agg (iZ x)] (.ret (.bool (fF x.op))):=by
 have e:fF x.op=(decide (((1:Nat):Int)≤x.op) && decide (x.op≤((3:Nat):Int))):=by
  unfold fF
  by_cases h1:x.op=1
  ·rw [h1];rfl
  ·by_cases h2:x.op=2
   ·rw [h2];rfl
   ·by_cases h3:x.op=3
    ·rw [h3];rfl
    ·rw [beq_eq_false_iff_ne.2 h1,beq_eq_false_iff_ne.2 h2,beq_eq_false_iff_ne.2 h3]
     symm
     rw [Bool.or_self,Bool.or_self,Bool.and_eq_false_iff]
     by_cases h4:((1:Nat):Int)≤x.op
     ·exact .inr (decide_eq_false (by omega))
     ·exact .inl (decide_eq_false (by omega))
 rw [e]
 rcases tf (decide (((1:Nat):Int)≤x.op)) with b0|b0
 ·rw [b0,Bool.true_and]
  exact pK [] 1 1 (.k 1 (aC b0) (.n 1 .nil)) (.nil)
 ·rw [b0];rw [Bool.false_and]
  exact pK [] 1 0 (.c (aB b0) (.n 1 .nil)) (.nil)
def yD (ck:Sc→Int) (up:Sc→Bool) (name:List UInt8):List Sc→Option Bool
 | []=>none
 |x::r=>if x.name==name then some (ck x==0 && up x) else yD ck up name r
theorem Eu (ck:Sc→Int) (b:Sc→Bool) (a:List UInt8):∀ r,yD ck b a r=(r.find? (fun x=>x.name==a)).map fun x=>ck x==0 && b x
 | []=>rfl
 |x::r=>by
  unfold yD;rw [List.find?_cons]
  rcases tf (x.name==a) with h|h
  ·rw [if_pos h,h];rfl
  ·rw [if_neg (by rw [h];decide),h];exact Eu ck b a r
def amH (sc:List Sc) (ns:Bool) (name:List UInt8) (p:Nat × Unit):St:=⟨[(0,.sl (bZ sc) sc.length ns),(1,.str name),(5,.int .i64 (p.1:Int))],[],.dead,[]⟩
def aaz (sc:List Sc) (ns:Bool) (name:List UInt8):Option Bool→St
 |none=> ⟨[(0,.sl (bZ sc) sc.length ns)],[],.dead,[]⟩
 |some z=> ⟨[(4,.bool z)],[],.dead,[]⟩
def rrE:Option Bool→bM
 |none=> .exit 0
 |some _=> .ret
theorem Y_ {nt:Nat} (f:32≤nt) (c:List Sc) (h:Bool) (a:List UInt8) (ck:Sc→Int) (k:Sc→Bool) (n:c.length<2^40) (q:∀ x ∈ c,CO 71 [.agg (xw x)] (.ret (.int .i64 (ck x)))∧(ck x=0→CO 72 [.agg (xw x)] (.ret (.bool (k x))))):∀ (r p:List Sc),p++r=c→
  aF prog ap [] nt (ae 0 (af f46)) rrE (amH c h a) (aaz c h a) (p.length,()) (yD ck k a r):=by
 intro r
 induction r with
 |nil=>
  intro p hp
  rw [List.append_nil] at hp
  subst hp
  generalize o:p.length=i
  have b:(decide ((i:Int)<(p.length:Int)))=false:=decide_eq_false (by omega)
  exact .done (pN 46 [] 1 0 (.c (aB b) .nil) (.nil) f)
 | cons x r ih=>
  intro p hp
  have l:p.length<c.length:=by rw [← hp];simp
  have d:(List.drop ((Int.toNat (p.length:Int))*4) (bZ c))=xw x++bZ r:=by
   rw [aA,EH l]
   have u:c[p.length]=x:=by subst hp;simp
   have s:c.drop (p.length+1)=r:=by rw [← hp];simp
   rw [u,s]
  have e:=ih (p++ [x]) (by rw [← hp];simp)
  rw [List.length_append,List.length_singleton] at e
  obtain ⟨j,t⟩:=q x (by rw [← hp];simp)
  unfold yD
  generalize o:p.length=i at*
  generalize bZ r=rS at d
  have b:(decide ((i:Int)<(c.length:Int)))=true:=decide_eq_true (by omega)
  have m:i<2^62:=by omega
  rcases tf (x.name==a) with b1|b1
  ·rw [if_pos b1]
   rcases tf ((ck x)==((0:Nat):Int)) with b2|b2
   ·have g:ck x=0:=by simpa using b2
    rw [show (ck x==0)=true from b2,Bool.true_and]
    exact .done (pN 46 [] 3 7 (.k 4 (aQ i) (.c b (.c (aC b2) (.k 4 (aQ i) (.c b (.c (aC b1) (.k 1 (aQ i) (.c b (.c (aC b) .nil))))))))) (.c (t g) (.v 28 (.ppt d) (.c j (.v 21 (.ppt d) (.v 14 (.ppt d) .nil))))) f)
   ·rw [show (ck x==0)=false from b2,Bool.false_and]
    exact .done (pN 46 [] 3 3 (.c (aB b2) (.k 4 (aQ i) (.c b (.c (aC b1) (.k 1 (aQ i) (.c b (.c (aC b) .nil))))))) (.c j (.v 21 (.ppt d) (.v 14 (.ppt d) .nil))) f)
  ·rw [if_neg (by rw [b1];decide)]
   exact .next (pN 46 [] 2 1 (.c (aB b1) (.k 1 (aQ i) (.c b (.c (aC b) .nil)))) (.v 11 (.eq (ja m)) (.v 14 (.ppt d) .nil)) f) e
theorem amL (b:List Sc) (c:Bool) (a:List UInt8) (z:Bool) (d:aI prog ap [] 32 (.block 0 (.loop (ae 0 (af f46)))) ⟨[(0,.sl (bZ b) b.length c),(1,.str a),(4,.bool false),(5,.int .i64 0),(9,.dead),(18,.dead)],[],.dead,[]⟩ (.ret) ⟨[(4,.bool z)],[],.dead,[]⟩):CO 46 [.sl (bZ b) b.length c,.str a] (.ret (.bool z)):=pK [0] 0 0 .nil (.l d .nil)
theorem amK (b:List Sc) (c:Bool) (a:List UInt8) (d:aI prog ap [] 32 (.block 0 (.loop (ae 0 (af f46)))) ⟨[(0,.sl (bZ b) b.length c),(1,.str a),(4,.bool false),(5,.int .i64 0),(9,.dead),(18,.dead)],[],.dead,[]⟩ (.normal) ⟨[(0,.sl (bZ b) b.length c)],[],.dead,[]⟩):CO 46 [.sl (bZ b) b.length c,.str a] (.ret (.bool false)):=pK [0] 0 0 .nil (.l d .nil)
theorem VQ (b:List Sc) (c:Bool) (a:List UInt8) (ck:Sc→Int) (d:Sc→Bool) (e:b.length<2^40) (g:∀ x ∈ b,CO 71 [.agg (xw x)] (.ret (.int .i64 (ck x)))∧(ck x=0→CO 72 [.agg (xw x)] (.ret (.bool (d x))))):CO 46 [.sl (bZ b) b.length c,.str a] (.ret (.bool ((yD ck d a b).getD false))):=by
 have h:∀ nt,32≤nt→aF prog ap [] nt (ae 0 (af f46)) rrE (amH b c a) (aaz b c a) (0,()) (yD ck d a b):=fun nt i=>Y_ i b c a ck d e g b [] rfl
 cases f:yD ck d a b with
 |none=>
  rw [f] at h
  exact amK b c a (aF.blk h (by simp [rrE]) rfl (aK.of ⟨rfl,rfl,rfl,trivial⟩) (aK.of ⟨rfl,trivial⟩))
 |some z=>
  rw [f] at h
  exact amL b c a z (aF.blk h (by simp [rrE]) rfl (aK.of ⟨rfl,rfl,rfl,trivial⟩) (aK.of ⟨rfl,trivial⟩))
def Lj (e:List Nd) (ne:Bool) (A:List (List Nat)) (sc:List Sc) (ns:Bool) (ss:List Nat) (op:Int) (name:List UInt8) (xo:Int) (xb:Bool) (xn xd xm:List UInt8) (k:Nat) (p:Nat × Nat):St:=⟨[(0,.sl (aH e) e.length ne),(1,.sl (bZ sc) sc.length ns),(2,.int .i64 op),(3,.str name),(9,.sl (bC A) A.length true),(11,.ref 0 0 0 ss.length),(12,.int .i64 (k:Int)),(13,.ptr 1 0 0),(14,.int .i64 (p.2:Int)),(15,.int .i64 (p.1:Int))],[(0,⟨(aj ss),0,false,0,1,true⟩),(1,⟨[.int .i64 xo,.bool xb,.str xn,.str xd,.str xm],0,false,0,0,true⟩)],.dead,[]⟩
def Oc (e:List Nd) (ne:Bool) (A:List (List Nat)) (sc:List Sc) (ns:Bool) (ss:List Nat) (op:Int) (name:List UInt8) (xo:Int) (xb:Bool) (xn xd xm:List UInt8) (k:Nat) (acc:Nat):St:=⟨[(0,.sl (aH e) e.length ne),(1,.sl (bZ sc) sc.length ns),(2,.int .i64 op),(3,.str name),(9,.sl (bC A) A.length true),(11,.ref 0 0 0 ss.length),(12,.int .i64 (k:Int)),(13,.ptr 1 0 0),(14,.int .i64 (acc:Int))],[(0,⟨(aj ss),0,false,0,1,true⟩),(1,⟨[.int .i64 xo,.bool xb,.str xn,.str xd,.str xm],0,false,0,0,true⟩)],.dead,[]⟩
theorem al4 {nt:Nat} (v:282≤nt) (e:List Nd) (g:Bool) (A:List (List Nat)) (u:List Sc) (h:Bool) (d:List Nat) (q:Int) (b:List UInt8) (l:Int) (p:Bool) (r t f:List UInt8) (k:Nat) (c i:Nat) (a:List Nat) (rA:List AV) (j:Nat) (B:List AV) (s:Nat) (y:List AV) (o:k<A.length) (m:(List.drop ((Int.toNat (k:Int))*1) (bC A))= [yR a]++rA) (n:(decide ((i:Int)<(a.length:Int)))=true) (w:(List.drop ((Int.toNat (i:Int))*1) (aj a))= [AV.int .i64 (j:Int)]++B) (x:j<d.length) (hs:(List.drop ((0+(Int.toNat (j:Int)))*1) (aj d))= [AV.int .i64 (s:Int)]++y) (z:i<2^62):
  ah prog ap [] nt (ae 2 (af f15)) (Lj e g A u h d q b l p r t f k (i,c)) .normal (Lj e g A u h d q b l p r t f k (i+1,eu c s)):=pN 15 [] 1 1 (.a (g_ [.int .i64] hs rfl) (.c (aQ j) (.c (bK x) (.k 1 (aQ i) (.c n (.k 1 (aQ k) (.c (bK o) (.c (aC n) (.k 1 (aQ k) (.c (bK o) .nil)))))))))) (.v 67 (.eq (ja z)) (.c (uC c s) (.v 78 (.rd1 (.int .i64) hs rfl) (.v 75 (.ppt w) (.v 72 (.ppt m) (.v 62 (.ppt m) .nil)))))) v
theorem al5 {nt:Nat} (q:282≤nt) (e:List Nd) (f:Bool) (A:List (List Nat)) (p:List Sc) (g:Bool) (h:List Nat) (m:Int) (b:List UInt8) (j:Int) (l:Bool) (n o d:List UInt8) (k:Nat) (c i:Nat) (a:List Nat) (rA:List AV) (t:k<A.length) (r:(List.drop ((Int.toNat (k:Int))*1) (bC A))= [yR a]++rA) (s:(decide ((i:Int)<(a.length:Int)))=false):
  ah prog ap [] nt (ae 2 (af f15)) (Lj e f A p g h m b j l n o d k (i,c)) (.exit 2) (Oc e f A p g h m b j l n o d k c):=pN 15 [] 1 0 (.c (aB s) (.k 1 (aQ k) (.c (bK t) .nil))) (.v 62 (.ppt r) .nil) q
theorem VA {nt:Nat} (v:282≤nt) (e:List Nd) (l:Bool) (A:List (List Nat)) (u:List Sc) (m:Bool) (f:List Nat) (q:Int) (a:List UInt8) (n:Int) (p:Bool) (r t h:List UInt8) (k:Nat) (o:k<A.length) (z:(A.getD k []).length<2^40) (y:∀ j ∈ A.getD k [],j<f.length):∀ (d i b:Nat),i+d=(A.getD k []).length→
  aF prog ap [] nt (ae 2 (af f15)) (fun _=> .exit 2) (Lj e l A u m f q a n p r t h k) (Oc e l A u m f q a n p r t h k) (i,b) (((A.getD k []).drop i).foldl (fun s j=>eu s (f.getD j 0)) b):=by
 intro d
 induction d with
 |zero=>
  intro i b w
  rw [List.drop_of_length_le (by omega)]
  exact .done (al5 v e l A u m f q a n p r t h k b i _ _ o (lh o) (decide_eq_false (by omega)))
 |succ d ih=>
  intro i b w
  have c:i<(A.getD k []).length:=by omega
  have g:(A.getD k []).getD i 0<f.length:=by rw [qX c];exact y _ (List.getElem_mem c)
  rw [List.drop_eq_getElem_cons c]
  have x:(A.getD k [])[i]=(A.getD k []).getD i 0:=(qX c).symm
  rw [x]
  exact .next (al4 v e l A u m f q a n p r t h k b i _ _ _ _ _ _ o (lh o) (decide_eq_true (by omega)) (kG c) g (by rw [Nat.zero_add];exact kG g) (by omega)) (ih (i+1) _ (by omega))
def eP (e:List Nd) (ne:Bool) (A:List (List Nat)) (sc:List Sc) (ns:Bool) (op:Int) (name:List UInt8) (p:Nat × List Nat):St:=⟨[(0,.sl (aH e) e.length ne),(1,.sl (bZ sc) sc.length ns),(2,.int .i64 op),(3,.str name),(9,.sl (bC A) A.length true),(11,.ref 0 0 0 p.2.length),(12,.int .i64 (p.1:Int))],[(0,⟨(aj p.2),0,false,0,1,true⟩)],.dead,[]⟩
def VM (e:List Nd) (ne:Bool) (ss:List Nat):St:=⟨[(0,.sl (aH e) e.length ne),(11,.ref 0 0 0 ss.length)],[(0,⟨(aj ss),0,false,0,1,true⟩)],.dead,[]⟩
abbrev uD (e:List Nd) (ne:Bool) (A:List (List Nat)) (sc:List Sc) (ns:Bool) (ss:List Nat) (op:Int) (name:List UInt8) (xo:Int) (xb:Bool) (xn xd xm:List UInt8) (k:Nat) (b55:Bool) (w:Nat):Prop:=aI prog ap [] 282 (.block 2 (.loop (ae 2 (af f15)))) ⟨[(0,.sl (aH e) e.length ne),(1,.sl (bZ sc) sc.length ns),(2,.int .i64 op),(3,.str name),(8,.dead),(9,.sl (bC A) A.length true),(10,.dead),(11,.ref 0 0 0 ss.length),(12,.int .i64 (k:Int)),(13,.ptr 1 0 0),(14,.int .i64 0),(15,.int .i64 0),(16,.dead),(17,.dead),(32,.dead),(39,.bool (decide ((k:Int)<(e.length:Int)))),(55,.bool b55),(65,.dead),(81,.dead),(111,.dead),(118,.dead),(147,.dead),(176,.dead),(216,.dead),(245,.dead),(271,.dead)],[(0,⟨(aj ss),0,false,0,1,true⟩),(1,⟨[.int .i64 xo,.bool xb,.str xn,.str xd,.str xm],0,false,0,0,true⟩)],.dead,[]⟩ (.normal) ⟨[(0,.sl (aH e) e.length ne),(1,.sl (bZ sc) sc.length ns),(2,.int .i64 op),(3,.str name),(9,.sl (bC A) A.length true),(11,.ref 0 0 0 ss.length),(12,.int .i64 (k:Int)),(13,.ptr 1 0 0),(14,.int .i64 (w:Int))],[(0,⟨(aj ss),0,false,0,1,true⟩),(1,⟨[.int .i64 xo,.bool xb,.str xn,.str xd,.str xm],0,false,0,0,true⟩)],.dead,[]⟩
theorem ac1 (e:List Nd) (f:Bool) (A:List (List Nat)) (c:List Sc) (l:Bool) (b:List Nat) (i:Int) (a:List UInt8) (m:Int) (g:Bool) (n o d:List UInt8) (k:Nat) (p:Bool) (t:k<A.length) (q:(A.getD k []).length<2^40) (r:∀ j ∈ A.getD k [],j<b.length):uD e f A c l b i a m g n o d k p (eG A b k):=by
 have h:∀ nt,282≤nt→aF prog ap [] nt (ae 2 (af f15)) (fun _=> .exit 2) (Lj e f A c l b i a m g n o d k) (Oc e f A c l b i a m g n o d k) (0,0) (eG A b k):=fun nt s=>VA s e f A c l b i a m g n o d k t q r _ 0 0 (Nat.zero_add _)
 exact aF.blk h (by simp) rfl (aK.of ⟨rfl,rfl,rfl,rfl,rfl,rfl,rfl,rfl,rfl,rfl,trivial⟩) (aK.of ⟨rfl,rfl,rfl,rfl,rfl,rfl,rfl,rfl,rfl,trivial⟩)
abbrev jJ (k:Nat) (ss:List Nat):List AV:=List.take ((0+(Int.toNat (k:Int)))*1) (aj ss)++ [.int .i64 3]++List.drop (((0+(Int.toNat (k:Int)))*1)+1) (aj ss)
theorem dG {a:List Nat} {k v:Nat} (h:k<a.length):List.take ((0+(Int.toNat (k:Int)))*1) (jJ k a)++ [AV.int .i64 (v:Int)]++List.drop (((0+(Int.toNat (k:Int)))*1)+1) (jJ k a)=aj (a.set k v):=by
 have b:(jJ k a)=aj (a.set k 3):=aY (v:=3) h
 rw [b,aY (by rw [List.length_set];exact h),List.set_set]
theorem auE {nt:Nat} (i:282≤nt) (e:List Nd) (f:Bool) (A:List (List Nat)) (h:List Sc) (g:Bool) (b:List Nat) (d:Int) (a:List UInt8) (k:Nat) (t:k<e.length) (p:e.length<2^40) (s:A.length=e.length) (u:b.length=e.length) (r:List AV) (x:Nd) (o:(List.drop ((Int.toNat (k:Int))*5) (aH e))=iZ x++r) (j:(x.op==d)=true) (m:(x.name==a)=true):ah prog ap [] nt (ae 0 (af f15)) (eP e f A h g d a (k,b)) .normal (eP e f A h g d a (k+1,b.set k (1))):=by
 have c:k<b.length:=by omega
 have n:k<2^62:=by omega
 have h0:(decide ((k:Int)<(e.length:Int)))=true:=decide_eq_true (by omega)
 have l:Nat.ble (((0+(Int.toNat (k:Int)))*1)+1) (List.length (aj b))=true:=by rw [Nat.ble_eq,aA];simp [aj];omega
 have q:Nat.ble (((0+(Int.toNat (k:Int)))*1)+1) (List.length (jJ k b))=true:=by rw [Nat.ble_eq,show (jJ k b)=aj (b.set k 3) from aY (v:=3) c,aA];simp [aj];omega
 unfold eP
 dsimp only
 rw [List.length_set,← aY c]
 exact pN 15 [] 3 7 (.c l (.c (aQ k) (.c (bK c) (.c (aC m) (.k 1 (aC j) (.k 7 (aQ k) (.c h0 (.c (aC h0) .nil)))))))) (.v 41 (.eq (ja n)) (.v 44 (.ppt o) .nil)) i
theorem auF {nt:Nat} (i:282≤nt) (e:List Nd) (d:Bool) (A:List (List Nat)) (h:List Sc) (g:Bool) (b:List Nat) (c:Int) (a:List UInt8) (k:Nat) (y:k<e.length) (q:e.length<2^40) (t:A.length=e.length) (z:b.length=e.length) (s:List AV) (x:Nd) (p:(List.drop ((Int.toNat (k:Int))*5) (aH e))=iZ x++s) (w:Nat) (l:uD e d A h g b c a x.op x.neg x.num x.den x.name k (x.name==a) w) (j:(x.op==c)=true) (n:(x.name==a)=false) (m:((w:Int)==((0:Nat):Int))=true):ah prog ap [] nt (ae 0 (af f15)) (eP e d A h g c a (k,b)) .normal (eP e d A h g c a (k+1,b)):=by
 have f:k<b.length:=by omega
 have o:k<2^62:=by omega
 have h0:(decide ((k:Int)<(e.length:Int)))=true:=decide_eq_true (by omega)
 have u:Nat.ble (((0+(Int.toNat (k:Int)))*1)+1) (List.length (aj b))=true:=by rw [Nat.ble_eq,aA];simp [aj];omega
 have r:Nat.ble (((0+(Int.toNat (k:Int)))*1)+1) (List.length (jJ k b))=true:=by rw [Nat.ble_eq,show (jJ k b)=aj (b.set k 3) from aY (v:=3) f,aA];simp [aj];omega
 unfold eP
 exact pN 15 [2] 4 11 (.c (aC m) (.c (aB n) (.k 1 (aC j) (.k 7 (aQ k) (.c h0 (.c (aC h0) .nil)))))) (.v 41 (.eq (ja o)) (.l l (.v 44 (.ppt p) .nil))) i
theorem auG {nt:Nat} (i:282≤nt) (e:List Nd) (d:Bool) (A:List (List Nat)) (h:List Sc) (g:Bool) (b:List Nat) (c:Int) (a:List UInt8) (k:Nat) (u:k<e.length) (p:e.length<2^40) (s:A.length=e.length) (y:b.length=e.length) (r:List AV) (x:Nd) (o:(List.drop ((Int.toNat (k:Int))*5) (aH e))=iZ x++r) (w:Nat) (l:uD e d A h g b c a x.op x.neg x.num x.den x.name k (false) w) (j:(x.op==c)=false) (m:((w:Int)==((0:Nat):Int))=true):ah prog ap [] nt (ae 0 (af f15)) (eP e d A h g c a (k,b)) .normal (eP e d A h g c a (k+1,b)):=by
 have f:k<b.length:=by omega
 have n:k<2^62:=by omega
 have h0:(decide ((k:Int)<(e.length:Int)))=true:=decide_eq_true (by omega)
 have t:Nat.ble (((0+(Int.toNat (k:Int)))*1)+1) (List.length (aj b))=true:=by rw [Nat.ble_eq,aA];simp [aj];omega
 have q:Nat.ble (((0+(Int.toNat (k:Int)))*1)+1) (List.length (jJ k b))=true:=by rw [Nat.ble_eq,show (jJ k b)=aj (b.set k 3) from aY (v:=3) f,aA];simp [aj];omega
 unfold eP
 exact pN 15 [2] 4 9 (.c (aC m) (.k 1 (aB j) (.k 7 (aQ k) (.c h0 (.c (aC h0) .nil))))) (.v 41 (.eq (ja n)) (.l l (.v 44 (.ppt o) .nil))) i
theorem ac2 {nt:Nat} (d:282≤nt) (e:List Nd) (c:Bool) (A:List (List Nat)) (f:List Sc) (h:Bool) (b:List Nat) (g:Int) (a:List UInt8):ah prog ap [] nt (ae 0 (af f15)) (eP e c A f h g a (e.length,b)) (.exit 0) (VM e c b):=by
 have h0:(decide ((e.length:Int)<(e.length:Int)))=false:=decide_eq_false (by omega)
 exact pN 15 [] 1 0 (.c (aB h0) .nil) (.nil) d
theorem auD {nt:Nat} (r:282≤nt) (e:List Nd) (o:Bool) (A:List (List Nat)) (f:List Sc) (g:Bool) (c:List Nat) (d:Int) (a:List UInt8) (k:Nat) (W:k<e.length) (S:e.length<2^40) (V:A.length=e.length) (X:c.length=e.length) (U:List AV) (i:k<A.length) (x:Nd) (rA:List AV) (j:Nat) (F:Nat) (N:Nd) (P u0:List AV) (l:Nat) (I:Nat) (J:Nd) (G u1:List AV) (C:(List.drop ((Int.toNat (k:Int))*5) (aH e))= [.int .i64 9,.bool x.neg,.str x.num,.str x.den,.str x.name]++U) (s:(List.drop ((Int.toNat (k:Int))*1) (bC A))= [.sl [.int .i64 (j:Int),.int .i64 (l:Int)] 2 false]++rA) (H:(List.drop ((0+(Int.toNat (j:Int)))*1) (jJ k c))= [AV.int .i64 (F:Int)]++P) (Q:(List.drop ((Int.toNat (j:Int))*5) (aH e))=iZ N++u0) (T:(List.drop ((0+(Int.toNat (l:Int)))*1) (jJ k c))= [AV.int .i64 (I:Int)]++G) (L:(List.drop ((Int.toNat (l:Int))*5) (aH e))=iZ J++u1) (B:j<c.length) (E:j<e.length) (y:l<c.length) (D:l<e.length) (w:Nat) (K:Bool) (M:uD e o A f g c d a 9 x.neg x.num x.den x.name k (x.name==a) w) (R:uD e o A f g c d a 9 x.neg x.num x.den x.name k (false) w) (m:CO 46 [.sl (bZ f) f.length g,.str x.name] (.ret (.bool K))) (t:((w:Int)==((0:Nat):Int))=false) (p:(((9:Nat):Int)==d)=false∨(x.name==a)=false):ah prog ap [] nt (ae 0 (af f15)) (eP e o A f g d a (k,c)) .normal (eP e o A f g d a (k+1,c.set k (w))):=by
 have b:k<c.length:=by omega
 have z:k<2^62:=by omega
 have h0:(decide ((k:Int)<(e.length:Int)))=true:=decide_eq_true (by omega)
 have u:Nat.ble (((0+(Int.toNat (k:Int)))*1)+1) (List.length (aj c))=true:=by rw [Nat.ble_eq,aA];simp [aj];omega
 have n:Nat.ble (((0+(Int.toNat (k:Int)))*1)+1) (List.length (jJ k c))=true:=by rw [Nat.ble_eq,show (jJ k c)=aj (c.set k 3) from aY (v:=3) b,aA];simp [aj];omega
 unfold eP
 dsimp only
 rw [List.length_set]
 rcases tf (((9:Nat):Int)==d) with b1|b1
 ·have q:=M
  have O:(x.name==a)=false:=by rcases p with h|h;rw [h] at b1;cases b1;exact h
  rw [← dG b]
  exact pN 15 [2] 20 243 (.k 19 n (.c (aQ k) (.c (bK b) (.k 6 (aQ k) (.c (bK i) (.c u (.c (aQ k) (.c (bK b) (.c (aB t) (.c (aB O) (.k 1 (aC b1) (.k 7 (aQ k) (.c h0 (.c (aC h0) .nil)))))))))))))) (.v 41 (.eq (ja z)) (.c m (.v 87 (.ppt s) (.l q (.v 44 (.ppt C) .nil))))) r
 ·have q:=R
  rw [← dG b]
  exact pN 15 [2] 20 241 (.k 19 n (.c (aQ k) (.c (bK b) (.k 6 (aQ k) (.c (bK i) (.c u (.c (aQ k) (.c (bK b) (.c (aB t) (.k 1 (aB b1) (.k 7 (aQ k) (.c h0 (.c (aC h0) .nil))))))))))))) (.v 41 (.eq (ja z)) (.c m (.v 87 (.ppt s) (.l q (.v 44 (.ppt C) .nil))))) r
theorem amr {nt:Nat} (B:282≤nt) (e:List Nd) (u:Bool) (A:List (List Nat)) (o:List Sc) (p:Bool) (c:List Nat) (n:Int) (a:List UInt8) (k:Nat) (W:k<e.length) (T:e.length<2^40) (V:A.length=e.length) (X:c.length=e.length) (U:List AV) (q:k<A.length) (x:Nd) (rA:List AV) (j:Nat) (t:Nat) (O:Nd) (Q u0:List AV) (l:Nat) (m:Nat) (K:Nd) (J u1:List AV) (G:(List.drop ((Int.toNat (k:Int))*5) (aH e))= [.int .i64 10,.bool x.neg,.str x.num,.str x.den,.str x.name]++U) (C:(List.drop ((Int.toNat (k:Int))*1) (bC A))= [.sl [.int .i64 (j:Int),.int .i64 (l:Int)] 2 false]++rA) (d:(List.drop ((0+(Int.toNat (j:Int)))*1) (jJ k c))= [AV.int .i64 (t:Int)]++Q) (R:(List.drop ((Int.toNat (j:Int))*5) (aH e))=iZ O++u0) (f:(List.drop ((0+(Int.toNat (l:Int)))*1) (jJ k c))= [AV.int .i64 (m:Int)]++J) (M:(List.drop ((Int.toNat (l:Int))*5) (aH e))=iZ K++u1) (i:j<c.length) (I:j<e.length) (g:l<c.length) (H:l<e.length) (w:Nat) (L:Bool) (N:uD e u A o p c n a 10 x.neg x.num x.den x.name k (x.name==a) w) (S:uD e u A o p c n a 10 x.neg x.num x.den x.name k (false) w) (r:CO 46 [.sl (bZ o) o.length p,.str x.name] (.ret (.bool L))) (D:((w:Int)==((0:Nat):Int))=false) (y:(((10:Nat):Int)==n)=false∨(x.name==a)=false):ah prog ap [] nt (ae 0 (af f15)) (eP e u A o p n a (k,c)) .normal (eP e u A o p n a (k+1,c.set k (eu t (jM m)))):=by
 have b:k<c.length:=by omega
 have F:k<2^62:=by omega
 have h0:(decide ((k:Int)<(e.length:Int)))=true:=decide_eq_true (by omega)
 have E:Nat.ble (((0+(Int.toNat (k:Int)))*1)+1) (List.length (aj c))=true:=by rw [Nat.ble_eq,aA];simp [aj];omega
 have s:Nat.ble (((0+(Int.toNat (k:Int)))*1)+1) (List.length (jJ k c))=true:=by rw [Nat.ble_eq,show (jJ k c)=aj (c.set k 3) from aY (v:=3) b,aA];simp [aj];omega
 unfold eP
 dsimp only
 rw [List.length_set]
 rcases tf (((10:Nat):Int)==n) with b1|b1
 ·have z:=N
  have P:(x.name==a)=false:=by rcases y with h|h;rw [h] at b1;cases b1;exact h
  rw [← dG b]
  exact pN 15 [2] 21 515 (.k 17 s (.c (aQ k) (.c (bK b) (.a (g_ [.int .i64] f rfl) (.c (aQ l) (.c (bK g) (.n 3 (.a (g_ [.int .i64] d rfl) (.c (aQ j) (.c (bK i) (.k 15 (aQ k) (.c (bK q) (.c E (.c (aQ k) (.c (bK b) (.c (aB D) (.c (aB P) (.k 1 (aC b1) (.k 7 (aQ k) (.c h0 (.c (aC h0) .nil))))))))))))))))))))) (.v 41 (.eq (ja F)) (.c r (.c (uC t (jM m)) (.c (Ez m) (.v 132 (.rd1 (.int .i64) f rfl) (.v 126 (.rd1 (.int .i64) d rfl) (.v 87 (.ppt C) (.l z (.v 44 (.ppt G) .nil))))))))) B
 ·have z:=S
  rw [← dG b]
  exact pN 15 [2] 21 513 (.k 17 s (.c (aQ k) (.c (bK b) (.a (g_ [.int .i64] f rfl) (.c (aQ l) (.c (bK g) (.n 3 (.a (g_ [.int .i64] d rfl) (.c (aQ j) (.c (bK i) (.k 15 (aQ k) (.c (bK q) (.c E (.c (aQ k) (.c (bK b) (.c (aB D) (.k 1 (aB b1) (.k 7 (aQ k) (.c h0 (.c (aC h0) .nil)))))))))))))))))))) (.v 41 (.eq (ja F)) (.c r (.c (uC t (jM m)) (.c (Ez m) (.v 132 (.rd1 (.int .i64) f rfl) (.v 126 (.rd1 (.int .i64) d rfl) (.v 87 (.ppt C) (.l z (.v 44 (.ppt G) .nil))))))))) B
theorem ams {nt:Nat} (C:282≤nt) (e:List Nd) (N:Bool) (A:List (List Nat)) (J:List Sc) (K:Bool) (n:List Nat) (G:Int) (g:List UInt8) (k:Nat) (Y:k<e.length) (V:e.length<2^40) (X:A.length=e.length) (Z:n.length=e.length) (W:List AV) (o:k<A.length) (x:Nd) (rA:List AV) (l:Nat) (q:Nat) (c:Nd) (T u0:List AV) (m:Nat) (r:Nat) (b:Nd) (Q u1:List AV) (I:(List.drop ((Int.toNat (k:Int))*5) (aH e))= [.int .i64 11,.bool x.neg,.str x.num,.str x.den,.str x.name]++W) (D:(List.drop ((Int.toNat (k:Int))*1) (bC A))= [.sl [.int .i64 (l:Int),.int .i64 (m:Int)] 2 false]++rA) (s:(List.drop ((0+(Int.toNat (l:Int)))*1) (jJ k n))= [AV.int .i64 (q:Int)]++T) (j:(List.drop ((Int.toNat (l:Int))*5) (aH e))=iZ c++u0) (t:(List.drop ((0+(Int.toNat (m:Int)))*1) (jJ k n))= [AV.int .i64 (r:Int)]++Q) (i:(List.drop ((Int.toNat (m:Int))*5) (aH e))=iZ b++u1) (z:l<n.length) (f:l<e.length) (y:m<n.length) (d:m<e.length) (w:Nat) (R:Bool) (S:uD e N A J K n G g 11 x.neg x.num x.den x.name k (x.name==g) w) (U:uD e N A J K n G g 11 x.neg x.num x.den x.name k (false) w) (p:CO 46 [.sl (bZ J) J.length K,.str x.name] (.ret (.bool R))) (L:fF c.op=true→fF b.op=false) (E:((w:Int)==((0:Nat):Int))=false) (O:(((11:Nat):Int)==G)=false∨(x.name==g)=false):ah prog ap [] nt (ae 0 (af f15)) (eP e N A J K G g (k,n)) .normal (eP e N A J K G g (k+1,n.set k (cond (fF c.op) (gX c.neg r) (cond (fF b.op) (gX b.neg q) 3)))):=by
 have a:k<n.length:=by omega
 have H:k<2^62:=by omega
 have h0:(decide ((k:Int)<(e.length:Int)))=true:=decide_eq_true (by omega)
 have F:Nat.ble (((0+(Int.toNat (k:Int)))*1)+1) (List.length (aj n))=true:=by rw [Nat.ble_eq,aA];simp [aj];omega
 have u:Nat.ble (((0+(Int.toNat (k:Int)))*1)+1) (List.length (jJ k n))=true:=by rw [Nat.ble_eq,show (jJ k n)=aj (n.set k 3) from aY (v:=3) a,aA];simp [aj];omega
 unfold eP
 dsimp only
 rw [List.length_set]
 rcases tf (((11:Nat):Int)==G) with b1|b1
 ·have B:=S
  have P:(x.name==g)=false:=by rcases O with h|h;rw [h] at b1;cases b1;exact h
  rcases tf (fF c.op) with c0|c0
  ·have M:=L c0
   rw [show (cond (fF c.op) (gX c.neg r) (cond (fF b.op) (gX b.neg q) 3))=(gX c.neg r) by rw [c0,M];rfl]
   rw [← dG a]
   exact pN 15 [2] 21 7171 (.k 11 (aB M) (.k 5 (aQ m) (.c (bK d) (.k 5 u (.c (aQ k) (.c (bK a) (.k 3 (aQ l) (.c (bK f) (.n 3 (.a (g_ [.int .i64] t rfl) (.c (aQ m) (.c (bK y) (.k 3 (aC c0) (.k 5 (aQ l) (.c (bK f) (.k 17 (aQ k) (.c (bK o) (.c F (.c (aQ k) (.c (bK a) (.c (aB E) (.c (aB P) (.k 1 (aC b1) (.k 7 (aQ k) (.c h0 (.c (aC h0) .nil)))))))))))))))))))))))))) (.v 41 (.eq (ja H)) (.c p (.c (gV b) (.v 173 (.ppt i) (.c (vw r c) (.v 160 (.ppt j) (.v 155 (.rd1 (.int .i64) t rfl) (.c (gV c) (.v 144 (.ppt j) (.v 87 (.ppt D) (.l B (.v 44 (.ppt I) .nil)))))))))))) C
  ·skip
   rcases tf (fF b.op) with c10|c10
   ·rw [show (cond (fF c.op) (gX c.neg r) (cond (fF b.op) (gX b.neg q) 3))=(gX b.neg q) by rw [c0,c10];rfl]
    rw [← dG a]
    exact pN 15 [2] 21 13315 (.k 11 u (.c (aQ k) (.c (bK a) (.k 3 (aQ m) (.c (bK d) (.n 3 (.a (g_ [.int .i64] s rfl) (.c (aQ l) (.c (bK z) (.k 3 (aC c10) (.k 5 (aQ m) (.c (bK d) (.k 5 (aB c0) (.k 5 (aQ l) (.c (bK f) (.k 17 (aQ k) (.c (bK o) (.c F (.c (aQ k) (.c (bK a) (.c (aB E) (.c (aB P) (.k 1 (aC b1) (.k 7 (aQ k) (.c h0 (.c (aC h0) .nil)))))))))))))))))))))))))) (.v 41 (.eq (ja H)) (.c p (.c (vw q b) (.v 189 (.ppt i) (.v 184 (.rd1 (.int .i64) s rfl) (.c (gV b) (.v 173 (.ppt i) (.c (gV c) (.v 144 (.ppt j) (.v 87 (.ppt D) (.l B (.v 44 (.ppt I) .nil)))))))))))) C
   ·rw [show (cond (fF c.op) (gX c.neg r) (cond (fF b.op) (gX b.neg q) 3))=3 by rw [c0,c10];rfl]
    rw [← aY a]
    exact pN 15 [2] 21 5123 (.k 11 (aB c10) (.k 5 (aQ m) (.c (bK d) (.k 5 (aB c0) (.k 5 (aQ l) (.c (bK f) (.k 17 (aQ k) (.c (bK o) (.c F (.c (aQ k) (.c (bK a) (.c (aB E) (.c (aB P) (.k 1 (aC b1) (.k 7 (aQ k) (.c h0 (.c (aC h0) .nil))))))))))))))))) (.v 41 (.eq (ja H)) (.c p (.c (gV b) (.v 173 (.ppt i) (.c (gV c) (.v 144 (.ppt j) (.v 87 (.ppt D) (.l B (.v 44 (.ppt I) .nil))))))))) C
 ·have B:=U
  rcases tf (fF c.op) with c0|c0
  ·have M:=L c0
   rw [show (cond (fF c.op) (gX c.neg r) (cond (fF b.op) (gX b.neg q) 3))=(gX c.neg r) by rw [c0,M];rfl]
   rw [← dG a]
   exact pN 15 [2] 21 7169 (.k 11 (aB M) (.k 5 (aQ m) (.c (bK d) (.k 5 u (.c (aQ k) (.c (bK a) (.k 3 (aQ l) (.c (bK f) (.n 3 (.a (g_ [.int .i64] t rfl) (.c (aQ m) (.c (bK y) (.k 3 (aC c0) (.k 5 (aQ l) (.c (bK f) (.k 17 (aQ k) (.c (bK o) (.c F (.c (aQ k) (.c (bK a) (.c (aB E) (.k 1 (aB b1) (.k 7 (aQ k) (.c h0 (.c (aC h0) .nil))))))))))))))))))))))))) (.v 41 (.eq (ja H)) (.c p (.c (gV b) (.v 173 (.ppt i) (.c (vw r c) (.v 160 (.ppt j) (.v 155 (.rd1 (.int .i64) t rfl) (.c (gV c) (.v 144 (.ppt j) (.v 87 (.ppt D) (.l B (.v 44 (.ppt I) .nil)))))))))))) C
  ·skip
   rcases tf (fF b.op) with c10|c10
   ·rw [show (cond (fF c.op) (gX c.neg r) (cond (fF b.op) (gX b.neg q) 3))=(gX b.neg q) by rw [c0,c10];rfl]
    rw [← dG a]
    exact pN 15 [2] 21 13313 (.k 11 u (.c (aQ k) (.c (bK a) (.k 3 (aQ m) (.c (bK d) (.n 3 (.a (g_ [.int .i64] s rfl) (.c (aQ l) (.c (bK z) (.k 3 (aC c10) (.k 5 (aQ m) (.c (bK d) (.k 5 (aB c0) (.k 5 (aQ l) (.c (bK f) (.k 17 (aQ k) (.c (bK o) (.c F (.c (aQ k) (.c (bK a) (.c (aB E) (.k 1 (aB b1) (.k 7 (aQ k) (.c h0 (.c (aC h0) .nil))))))))))))))))))))))))) (.v 41 (.eq (ja H)) (.c p (.c (vw q b) (.v 189 (.ppt i) (.v 184 (.rd1 (.int .i64) s rfl) (.c (gV b) (.v 173 (.ppt i) (.c (gV c) (.v 144 (.ppt j) (.v 87 (.ppt D) (.l B (.v 44 (.ppt I) .nil)))))))))))) C
   ·rw [show (cond (fF c.op) (gX c.neg r) (cond (fF b.op) (gX b.neg q) 3))=3 by rw [c0,c10];rfl]
    rw [← aY a]
    exact pN 15 [2] 21 5121 (.k 11 (aB c10) (.k 5 (aQ m) (.c (bK d) (.k 5 (aB c0) (.k 5 (aQ l) (.c (bK f) (.k 17 (aQ k) (.c (bK o) (.c F (.c (aQ k) (.c (bK a) (.c (aB E) (.k 1 (aB b1) (.k 7 (aQ k) (.c h0 (.c (aC h0) .nil)))))))))))))))) (.v 41 (.eq (ja H)) (.c p (.c (gV b) (.v 173 (.ppt i) (.c (gV c) (.v 144 (.ppt j) (.v 87 (.ppt D) (.l B (.v 44 (.ppt I) .nil))))))))) C
theorem amu {nt:Nat} (s:282≤nt) (e:List Nd) (G:Bool) (A:List (List Nat)) (D:List Sc) (E:Bool) (i:List Nat) (z:Int) (f:List UInt8) (k:Nat) (X:k<e.length) (T:e.length<2^40) (W:A.length=e.length) (Y:i.length=e.length) (V:List AV) (j:k<A.length) (x:Nd) (rA:List AV) (r:Nat) (m:Nat) (P:Nd) (Q u0:List AV) (g:Nat) (M:Nat) (a:Nd) (L u1:List AV) (C:(List.drop ((Int.toNat (k:Int))*5) (aH e))= [.int .i64 12,.bool x.neg,.str x.num,.str x.den,.str x.name]++V) (t:(List.drop ((Int.toNat (k:Int))*1) (bC A))= [.sl [.int .i64 (r:Int),.int .i64 (g:Int)] 2 false]++rA) (n:(List.drop ((0+(Int.toNat (r:Int)))*1) (jJ k i))= [AV.int .i64 (m:Int)]++Q) (R:(List.drop ((Int.toNat (r:Int))*5) (aH e))=iZ P++u0) (U:(List.drop ((0+(Int.toNat (g:Int)))*1) (jJ k i))= [AV.int .i64 (M:Int)]++L) (d:(List.drop ((Int.toNat (g:Int))*5) (aH e))=iZ a++u1) (p:r<i.length) (K:r<e.length) (J:g<i.length) (b:g<e.length) (w:Nat) (N:Bool) (O:uD e G A D E i z f 12 x.neg x.num x.den x.name k (x.name==f) w) (S:uD e G A D E i z f 12 x.neg x.num x.den x.name k (false) w) (l:CO 46 [.sl (bZ D) D.length E,.str x.name] (.ret (.bool N))) (o:CO 45 [.agg [.bool a.neg,.str a.num,.str a.den]] (.ret (.int .i64 (fZ a.neg a.num a.den)))) (u:((w:Int)==((0:Nat):Int))=false) (H:(((12:Nat):Int)==z)=false∨(x.name==f)=false):ah prog ap [] nt (ae 0 (af f15)) (eP e G A D E z f (k,i)) .normal (eP e G A D E z f (k+1,i.set k (cond (fF a.op) (cond (fZ a.neg a.num a.den==((0:Nat):Int)) 3 (gX a.neg m)) 3))):=by
 have c:k<i.length:=by omega
 have B:k<2^62:=by omega
 have h0:(decide ((k:Int)<(e.length:Int)))=true:=decide_eq_true (by omega)
 have y:Nat.ble (((0+(Int.toNat (k:Int)))*1)+1) (List.length (aj i))=true:=by rw [Nat.ble_eq,aA];simp [aj];omega
 have F:Nat.ble (((0+(Int.toNat (k:Int)))*1)+1) (List.length (jJ k i))=true:=by rw [Nat.ble_eq,show (jJ k i)=aj (i.set k 3) from aY (v:=3) c,aA];simp [aj];omega
 unfold eP
 dsimp only
 rw [List.length_set]
 rcases tf (((12:Nat):Int)==z) with b1|b1
 ·have q:=O
  have I:(x.name==f)=false:=by rcases H with h|h;rw [h] at b1;cases b1;exact h
  rcases tf (fF a.op) with d0|d0
  ·rcases tf ((fZ a.neg a.num a.den)==((0:Nat):Int)) with d1|d1
   ·rw [show (cond (fF a.op) (cond (fZ a.neg a.num a.den==((0:Nat):Int)) 3 (gX a.neg m)) 3)=3 by rw [d0,d1];rfl]
    rw [← aY c]
    exact pN 15 [2] 21 49155 (.k 7 (aS d1) (.k 3 (aQ g) (.c (bK b) (.k 3 (aC d0) (.k 5 (aQ g) (.c (bK b) (.k 23 (aQ k) (.c (bK j) (.c y (.c (aQ k) (.c (bK c) (.c (aB u) (.c (aB I) (.k 1 (aC b1) (.k 7 (aQ k) (.c h0 (.c (aC h0) .nil))))))))))))))))) (.v 41 (.eq (ja B)) (.c l (.c o (.v 211 (.ppt d) (.c (gV a) (.v 202 (.ppt d) (.v 87 (.ppt t) (.l q (.v 44 (.ppt C) .nil))))))))) s
   ·rw [show (cond (fF a.op) (cond (fZ a.neg a.num a.den==((0:Nat):Int)) 3 (gX a.neg m)) 3)=(gX a.neg m) by rw [d0,d1];rfl]
    rw [← dG c]
    exact pN 15 [2] 21 114691 (.k 7 F (.c (aQ k) (.c (bK c) (.k 3 (aQ g) (.c (bK b) (.n 3 (.a (g_ [.int .i64] n rfl) (.c (aQ r) (.c (bK p) (.k 3 (dK d1) (.k 3 (aQ g) (.c (bK b) (.k 3 (aC d0) (.k 5 (aQ g) (.c (bK b) (.k 23 (aQ k) (.c (bK j) (.c y (.c (aQ k) (.c (bK c) (.c (aB u) (.c (aB I) (.k 1 (aC b1) (.k 7 (aQ k) (.c h0 (.c (aC h0) .nil)))))))))))))))))))))))))) (.v 41 (.eq (ja B)) (.c l (.c (vw m a) (.v 229 (.ppt d) (.v 224 (.rd1 (.int .i64) n rfl) (.c o (.v 211 (.ppt d) (.c (gV a) (.v 202 (.ppt d) (.v 87 (.ppt t) (.l q (.v 44 (.ppt C) .nil)))))))))))) s
  ·rw [show (cond (fF a.op) (cond (fZ a.neg a.num a.den==((0:Nat):Int)) 3 (gX a.neg m)) 3)=3 by rw [d0];rfl]
   rw [← aY c]
   exact pN 15 [2] 21 16387 (.k 8 (aB d0) (.k 5 (aQ g) (.c (bK b) (.k 23 (aQ k) (.c (bK j) (.c y (.c (aQ k) (.c (bK c) (.c (aB u) (.c (aB I) (.k 1 (aC b1) (.k 7 (aQ k) (.c h0 (.c (aC h0) .nil)))))))))))))) (.v 41 (.eq (ja B)) (.c l (.c (gV a) (.v 202 (.ppt d) (.v 87 (.ppt t) (.l q (.v 44 (.ppt C) .nil))))))) s
 ·have q:=S
  rcases tf (fF a.op) with d0|d0
  ·rcases tf ((fZ a.neg a.num a.den)==((0:Nat):Int)) with d1|d1
   ·rw [show (cond (fF a.op) (cond (fZ a.neg a.num a.den==((0:Nat):Int)) 3 (gX a.neg m)) 3)=3 by rw [d0,d1];rfl]
    rw [← aY c]
    exact pN 15 [2] 21 49153 (.k 7 (aS d1) (.k 3 (aQ g) (.c (bK b) (.k 3 (aC d0) (.k 5 (aQ g) (.c (bK b) (.k 23 (aQ k) (.c (bK j) (.c y (.c (aQ k) (.c (bK c) (.c (aB u) (.k 1 (aB b1) (.k 7 (aQ k) (.c h0 (.c (aC h0) .nil)))))))))))))))) (.v 41 (.eq (ja B)) (.c l (.c o (.v 211 (.ppt d) (.c (gV a) (.v 202 (.ppt d) (.v 87 (.ppt t) (.l q (.v 44 (.ppt C) .nil))))))))) s
   ·rw [show (cond (fF a.op) (cond (fZ a.neg a.num a.den==((0:Nat):Int)) 3 (gX a.neg m)) 3)=(gX a.neg m) by rw [d0,d1];rfl]
    rw [← dG c]
    exact pN 15 [2] 21 114689 (.k 7 F (.c (aQ k) (.c (bK c) (.k 3 (aQ g) (.c (bK b) (.n 3 (.a (g_ [.int .i64] n rfl) (.c (aQ r) (.c (bK p) (.k 3 (dK d1) (.k 3 (aQ g) (.c (bK b) (.k 3 (aC d0) (.k 5 (aQ g) (.c (bK b) (.k 23 (aQ k) (.c (bK j) (.c y (.c (aQ k) (.c (bK c) (.c (aB u) (.k 1 (aB b1) (.k 7 (aQ k) (.c h0 (.c (aC h0) .nil))))))))))))))))))))))))) (.v 41 (.eq (ja B)) (.c l (.c (vw m a) (.v 229 (.ppt d) (.v 224 (.rd1 (.int .i64) n rfl) (.c o (.v 211 (.ppt d) (.c (gV a) (.v 202 (.ppt d) (.v 87 (.ppt t) (.l q (.v 44 (.ppt C) .nil)))))))))))) s
  ·rw [show (cond (fF a.op) (cond (fZ a.neg a.num a.den==((0:Nat):Int)) 3 (gX a.neg m)) 3)=3 by rw [d0];rfl]
   rw [← aY c]
   exact pN 15 [2] 21 16385 (.k 8 (aB d0) (.k 5 (aQ g) (.c (bK b) (.k 23 (aQ k) (.c (bK j) (.c y (.c (aQ k) (.c (bK c) (.c (aB u) (.k 1 (aB b1) (.k 7 (aQ k) (.c h0 (.c (aC h0) .nil))))))))))))) (.v 41 (.eq (ja B)) (.c l (.c (gV a) (.v 202 (.ppt d) (.v 87 (.ppt t) (.l q (.v 44 (.ppt C) .nil))))))) s
theorem amv {nt:Nat} (r:282≤nt) (e:List Nd) (o:Bool) (A:List (List Nat)) (f:List Sc) (g:Bool) (c:List Nat) (d:Int) (a:List UInt8) (k:Nat) (W:k<e.length) (S:e.length<2^40) (V:A.length=e.length) (X:c.length=e.length) (U:List AV) (i:k<A.length) (x:Nd) (rA:List AV) (j:Nat) (F:Nat) (N:Nd) (P u0:List AV) (l:Nat) (I:Nat) (J:Nd) (G u1:List AV) (C:(List.drop ((Int.toNat (k:Int))*5) (aH e))= [.int .i64 13,.bool x.neg,.str x.num,.str x.den,.str x.name]++U) (s:(List.drop ((Int.toNat (k:Int))*1) (bC A))= [.sl [.int .i64 (j:Int),.int .i64 (l:Int)] 2 false]++rA) (H:(List.drop ((0+(Int.toNat (j:Int)))*1) (jJ k c))= [AV.int .i64 (F:Int)]++P) (Q:(List.drop ((Int.toNat (j:Int))*5) (aH e))=iZ N++u0) (T:(List.drop ((0+(Int.toNat (l:Int)))*1) (jJ k c))= [AV.int .i64 (I:Int)]++G) (L:(List.drop ((Int.toNat (l:Int))*5) (aH e))=iZ J++u1) (B:j<c.length) (E:j<e.length) (y:l<c.length) (D:l<e.length) (w:Nat) (K:Bool) (M:uD e o A f g c d a 13 x.neg x.num x.den x.name k (x.name==a) w) (R:uD e o A f g c d a 13 x.neg x.num x.den x.name k (false) w) (m:CO 46 [.sl (bZ f) f.length g,.str x.name] (.ret (.bool K))) (t:((w:Int)==((0:Nat):Int))=false) (p:(((13:Nat):Int)==d)=false∨(x.name==a)=false):ah prog ap [] nt (ae 0 (af f15)) (eP e o A f g d a (k,c)) .normal (eP e o A f g d a (k+1,c.set k (w))):=by
 have b:k<c.length:=by omega
 have z:k<2^62:=by omega
 have h0:(decide ((k:Int)<(e.length:Int)))=true:=decide_eq_true (by omega)
 have u:Nat.ble (((0+(Int.toNat (k:Int)))*1)+1) (List.length (aj c))=true:=by rw [Nat.ble_eq,aA];simp [aj];omega
 have n:Nat.ble (((0+(Int.toNat (k:Int)))*1)+1) (List.length (jJ k c))=true:=by rw [Nat.ble_eq,show (jJ k c)=aj (c.set k 3) from aY (v:=3) b,aA];simp [aj];omega
 unfold eP
 dsimp only
 rw [List.length_set]
 rcases tf (((13:Nat):Int)==d) with b1|b1
 ·have q:=M
  have O:(x.name==a)=false:=by rcases p with h|h;rw [h] at b1;cases b1;exact h
  rw [← dG b]
  exact pN 15 [2] 20 227 (.k 19 n (.c (aQ k) (.c (bK b) (.k 7 (aQ k) (.c (bK i) (.c u (.c (aQ k) (.c (bK b) (.c (aB t) (.c (aB O) (.k 1 (aC b1) (.k 7 (aQ k) (.c h0 (.c (aC h0) .nil)))))))))))))) (.v 41 (.eq (ja z)) (.c m (.v 87 (.ppt s) (.l q (.v 44 (.ppt C) .nil))))) r
 ·have q:=R
  rw [← dG b]
  exact pN 15 [2] 20 225 (.k 19 n (.c (aQ k) (.c (bK b) (.k 7 (aQ k) (.c (bK i) (.c u (.c (aQ k) (.c (bK b) (.c (aB t) (.k 1 (aB b1) (.k 7 (aQ k) (.c h0 (.c (aC h0) .nil))))))))))))) (.v 41 (.eq (ja z)) (.c m (.v 87 (.ppt s) (.l q (.v 44 (.ppt C) .nil))))) r
theorem amw {nt:Nat} (r:282≤nt) (e:List Nd) (o:Bool) (A:List (List Nat)) (f:List Sc) (g:Bool) (c:List Nat) (d:Int) (a:List UInt8) (k:Nat) (W:k<e.length) (S:e.length<2^40) (V:A.length=e.length) (X:c.length=e.length) (U:List AV) (i:k<A.length) (x:Nd) (rA:List AV) (j:Nat) (F:Nat) (N:Nd) (P u0:List AV) (l:Nat) (I:Nat) (J:Nd) (G u1:List AV) (C:(List.drop ((Int.toNat (k:Int))*5) (aH e))= [.int .i64 14,.bool x.neg,.str x.num,.str x.den,.str x.name]++U) (s:(List.drop ((Int.toNat (k:Int))*1) (bC A))= [.sl [.int .i64 (j:Int),.int .i64 (l:Int)] 2 false]++rA) (H:(List.drop ((0+(Int.toNat (j:Int)))*1) (jJ k c))= [AV.int .i64 (F:Int)]++P) (Q:(List.drop ((Int.toNat (j:Int))*5) (aH e))=iZ N++u0) (T:(List.drop ((0+(Int.toNat (l:Int)))*1) (jJ k c))= [AV.int .i64 (I:Int)]++G) (L:(List.drop ((Int.toNat (l:Int))*5) (aH e))=iZ J++u1) (B:j<c.length) (E:j<e.length) (y:l<c.length) (D:l<e.length) (w:Nat) (K:Bool) (M:uD e o A f g c d a 14 x.neg x.num x.den x.name k (x.name==a) w) (R:uD e o A f g c d a 14 x.neg x.num x.den x.name k (false) w) (m:CO 46 [.sl (bZ f) f.length g,.str x.name] (.ret (.bool K))) (t:((w:Int)==((0:Nat):Int))=false) (p:(((14:Nat):Int)==d)=false∨(x.name==a)=false):ah prog ap [] nt (ae 0 (af f15)) (eP e o A f g d a (k,c)) .normal (eP e o A f g d a (k+1,c.set k (w))):=by
 have b:k<c.length:=by omega
 have z:k<2^62:=by omega
 have h0:(decide ((k:Int)<(e.length:Int)))=true:=decide_eq_true (by omega)
 have u:Nat.ble (((0+(Int.toNat (k:Int)))*1)+1) (List.length (aj c))=true:=by rw [Nat.ble_eq,aA];simp [aj];omega
 have n:Nat.ble (((0+(Int.toNat (k:Int)))*1)+1) (List.length (jJ k c))=true:=by rw [Nat.ble_eq,show (jJ k c)=aj (c.set k 3) from aY (v:=3) b,aA];simp [aj];omega
 unfold eP
 dsimp only
 rw [List.length_set]
 rcases tf (((14:Nat):Int)==d) with b1|b1
 ·have q:=M
  have O:(x.name==a)=false:=by rcases p with h|h;rw [h] at b1;cases b1;exact h
  rw [← dG b]
  exact pN 15 [2] 20 195 (.k 19 n (.c (aQ k) (.c (bK b) (.k 8 (aQ k) (.c (bK i) (.c u (.c (aQ k) (.c (bK b) (.c (aB t) (.c (aB O) (.k 1 (aC b1) (.k 7 (aQ k) (.c h0 (.c (aC h0) .nil)))))))))))))) (.v 41 (.eq (ja z)) (.c m (.v 87 (.ppt s) (.l q (.v 44 (.ppt C) .nil))))) r
 ·have q:=R
  rw [← dG b]
  exact pN 15 [2] 20 193 (.k 19 n (.c (aQ k) (.c (bK b) (.k 8 (aQ k) (.c (bK i) (.c u (.c (aQ k) (.c (bK b) (.c (aB t) (.k 1 (aB b1) (.k 7 (aQ k) (.c h0 (.c (aC h0) .nil))))))))))))) (.v 41 (.eq (ja z)) (.c m (.v 87 (.ppt s) (.l q (.v 44 (.ppt C) .nil))))) r
theorem amx {nt:Nat} (D:282≤nt) (e:List Nd) (E:Bool) (A:List (List Nat)) (y:List Sc) (z:Bool) (d:List Nat) (u:Int) (b:List UInt8) (k:Nat) (hk:k<e.length) (hke:e.length<2^40) (hA:A.length=e.length) (hS:d.length=e.length) (rE:List AV) (l:k<A.length) (x:Nd) (rA:List AV) (m:Nat) (p:Nat) (W:Nd) (Y u0:List AV) (s:Nat) (i:Nat) (R:Nd) (P u1:List AV) (t:Nat) (g:Nat) (Q:Nd) (X u2:List AV) (J:(List.drop ((Int.toNat (k:Int))*5) (aH e))= [.int .i64 15,.bool x.neg,.str x.num,.str x.den,.str x.name]++rE) (F:(List.drop ((Int.toNat (k:Int))*1) (bC A))= [.sl [.int .i64 (m:Int),.int .i64 (s:Int),.int .i64 (t:Int)] 3 false]++rA) (c:(List.drop ((0+(Int.toNat (m:Int)))*1) (jJ k d))= [AV.int .i64 (p:Int)]++Y) (Z:(List.drop ((Int.toNat (m:Int))*5) (aH e))=iZ W++u0) (n:(List.drop ((0+(Int.toNat (s:Int)))*1) (jJ k d))= [AV.int .i64 (i:Int)]++P) (U:(List.drop ((Int.toNat (s:Int))*5) (aH e))=iZ R++u1) (j:(List.drop ((0+(Int.toNat (t:Int)))*1) (jJ k d))= [AV.int .i64 (g:Int)]++X) (S:(List.drop ((Int.toNat (t:Int))*5) (aH e))=iZ Q++u2) (f:m<d.length) (O:m<e.length) (r:s<d.length) (N:s<e.length) (q:t<d.length) (L:t<e.length) (w:Nat) (T:Bool) (V:uD e E A y z d u b 15 x.neg x.num x.den x.name k (x.name==b) w) (lF:uD e E A y z d u b 15 x.neg x.num x.den x.name k (false) w) (o:CO 46 [.sl (bZ y) y.length z,.str x.name] (.ret (.bool T))) (G:((w:Int)==((0:Nat):Int))=false) (K:(((15:Nat):Int)==u)=false∨(x.name==b)=false):ah prog ap [] nt (ae 0 (af f15)) (eP e E A y z u b (k,d)) .normal (eP e E A y z u b (k+1,d.set k (cond ((p:Int)==((0:Nat):Int)) (eu i g) 3))):=by
 have a:k<d.length:=by omega
 have I:k<2^62:=by omega
 have h0:(decide ((k:Int)<(e.length:Int)))=true:=decide_eq_true (by omega)
 have H:Nat.ble (((0+(Int.toNat (k:Int)))*1)+1) (List.length (aj d))=true:=by rw [Nat.ble_eq,aA];simp [aj];omega
 have C:Nat.ble (((0+(Int.toNat (k:Int)))*1)+1) (List.length (jJ k d))=true:=by rw [Nat.ble_eq,show (jJ k d)=aj (d.set k 3) from aY (v:=3) a,aA];simp [aj];omega
 unfold eP
 dsimp only
 rw [List.length_set]
 rcases tf (((15:Nat):Int)==u) with b1|b1
 ·have B:=V
  have M:(x.name==b)=false:=by rcases K with h|h;rw [h] at b1;cases b1;exact h
  rcases tf ((p:Int)==((0:Nat):Int)) with d0|d0
  ·rw [show (cond ((p:Int)==((0:Nat):Int)) (eu i g) 3)=(eu i g) by rw [d0];rfl]
   rw [← dG a]
   exact pN 15 [2] 21 393219 (.k 4 C (.c (aQ k) (.c (bK a) (.a (g_ [.int .i64] j rfl) (.c (aQ t) (.c (bK q) (.n 3 (.a (g_ [.int .i64] n rfl) (.c (aQ s) (.c (bK r) (.k 3 (aC d0) (.a (g_ [.int .i64] c rfl) (.c (aQ m) (.c (bK f) (.k 27 (aQ k) (.c (bK l) (.c H (.c (aQ k) (.c (bK a) (.c (aB G) (.c (aB M) (.k 1 (aC b1) (.k 7 (aQ k) (.c h0 (.c (aC h0) .nil))))))))))))))))))))))))) (.v 41 (.eq (ja I)) (.c o (.c (uC i g) (.v 259 (.rd1 (.int .i64) j rfl) (.v 253 (.rd1 (.int .i64) n rfl) (.v 243 (.rd1 (.int .i64) c rfl) (.v 87 (.ppt F) (.l B (.v 44 (.ppt J) .nil))))))))) D
  ·rw [show (cond ((p:Int)==((0:Nat):Int)) (eu i g) 3)=3 by rw [d0];rfl]
   rw [← aY a]
   exact pN 15 [2] 21 131075 (.k 4 (aB d0) (.a (g_ [.int .i64] c rfl) (.c (aQ m) (.c (bK f) (.k 27 (aQ k) (.c (bK l) (.c H (.c (aQ k) (.c (bK a) (.c (aB G) (.c (aB M) (.k 1 (aC b1) (.k 7 (aQ k) (.c h0 (.c (aC h0) .nil))))))))))))))) (.v 41 (.eq (ja I)) (.c o (.v 243 (.rd1 (.int .i64) c rfl) (.v 87 (.ppt F) (.l B (.v 44 (.ppt J) .nil)))))) D
 ·have B:=lF
  rcases tf ((p:Int)==((0:Nat):Int)) with d0|d0
  ·rw [show (cond ((p:Int)==((0:Nat):Int)) (eu i g) 3)=(eu i g) by rw [d0];rfl]
   rw [← dG a]
   exact pN 15 [2] 21 393217 (.k 4 C (.c (aQ k) (.c (bK a) (.a (g_ [.int .i64] j rfl) (.c (aQ t) (.c (bK q) (.n 3 (.a (g_ [.int .i64] n rfl) (.c (aQ s) (.c (bK r) (.k 3 (aC d0) (.a (g_ [.int .i64] c rfl) (.c (aQ m) (.c (bK f) (.k 27 (aQ k) (.c (bK l) (.c H (.c (aQ k) (.c (bK a) (.c (aB G) (.k 1 (aB b1) (.k 7 (aQ k) (.c h0 (.c (aC h0) .nil)))))))))))))))))))))))) (.v 41 (.eq (ja I)) (.c o (.c (uC i g) (.v 259 (.rd1 (.int .i64) j rfl) (.v 253 (.rd1 (.int .i64) n rfl) (.v 243 (.rd1 (.int .i64) c rfl) (.v 87 (.ppt F) (.l B (.v 44 (.ppt J) .nil))))))))) D
  ·rw [show (cond ((p:Int)==((0:Nat):Int)) (eu i g) 3)=3 by rw [d0];rfl]
   rw [← aY a]
   exact pN 15 [2] 21 131073 (.k 4 (aB d0) (.a (g_ [.int .i64] c rfl) (.c (aQ m) (.c (bK f) (.k 27 (aQ k) (.c (bK l) (.c H (.c (aQ k) (.c (bK a) (.c (aB G) (.k 1 (aB b1) (.k 7 (aQ k) (.c h0 (.c (aC h0) .nil)))))))))))))) (.v 41 (.eq (ja I)) (.c o (.v 243 (.rd1 (.int .i64) c rfl) (.v 87 (.ppt F) (.l B (.v 44 (.ppt J) .nil)))))) D
theorem amy {nt:Nat} (q:282≤nt) (e:List Nd) (n:Bool) (A:List (List Nat)) (f:List Sc) (g:Bool) (b:List Nat) (d:Int) (a:List UInt8) (k:Nat) (W:k<e.length) (R:e.length<2^40) (V:A.length=e.length) (X:b.length=e.length) (U:List AV) (i:k<A.length) (x:Nd) (rA:List AV) (j:Nat) (E:Nat) (M:Nd) (O u0:List AV) (l:Nat) (H:Nat) (I:Nd) (F u1:List AV) (B:(List.drop ((Int.toNat (k:Int))*5) (aH e))= [.int .i64 16,.bool x.neg,.str x.num,.str x.den,.str x.name]++U) (r:(List.drop ((Int.toNat (k:Int))*1) (bC A))= [.sl [.int .i64 (j:Int),.int .i64 (l:Int)] 2 false]++rA) (G:(List.drop ((0+(Int.toNat (j:Int)))*1) (jJ k b))= [AV.int .i64 (E:Int)]++O) (P:(List.drop ((Int.toNat (j:Int))*5) (aH e))=iZ M++u0) (S:(List.drop ((0+(Int.toNat (l:Int)))*1) (jJ k b))= [AV.int .i64 (H:Int)]++F) (K:(List.drop ((Int.toNat (l:Int))*5) (aH e))=iZ I++u1) (z:j<b.length) (D:j<e.length) (u:l<b.length) (C:l<e.length) (w:Nat) (J:Bool) (L:uD e n A f g b d a 16 x.neg x.num x.den x.name k (x.name==a) w) (Q:uD e n A f g b d a 16 x.neg x.num x.den x.name k (false) w) (m:CO 46 [.sl (bZ f) f.length g,.str x.name] (.ret (.bool J))) (s:((w:Int)==((0:Nat):Int))=false) (o:(((16:Nat):Int)==d)=false∨(x.name==a)=false):ah prog ap [] nt (ae 0 (af f15)) (eP e n A f g d a (k,b)) .normal (eP e n A f g d a (k+1,b.set k (3))):=by
 have c:k<b.length:=by omega
 have y:k<2^62:=by omega
 have h0:(decide ((k:Int)<(e.length:Int)))=true:=decide_eq_true (by omega)
 have t:Nat.ble (((0+(Int.toNat (k:Int)))*1)+1) (List.length (aj b))=true:=by rw [Nat.ble_eq,aA];simp [aj];omega
 have T:Nat.ble (((0+(Int.toNat (k:Int)))*1)+1) (List.length (jJ k b))=true:=by rw [Nat.ble_eq,show (jJ k b)=aj (b.set k 3) from aY (v:=3) c,aA];simp [aj];omega
 unfold eP
 dsimp only
 rw [List.length_set]
 rcases tf (((16:Nat):Int)==d) with b1|b1
 ·have p:=L
  have N:(x.name==a)=false:=by rcases o with h|h;rw [h] at b1;cases b1;exact h
  rw [← aY c]
  exact pN 15 [2] 21 3 (.k 29 (aQ k) (.c (bK i) (.c t (.c (aQ k) (.c (bK c) (.c (aB s) (.c (aB N) (.k 1 (aC b1) (.k 7 (aQ k) (.c h0 (.c (aC h0) .nil))))))))))) (.v 41 (.eq (ja y)) (.c m (.v 87 (.ppt r) (.l p (.v 44 (.ppt B) .nil))))) q
 ·have p:=Q
  rw [← aY c]
  exact pN 15 [2] 21 1 (.k 29 (aQ k) (.c (bK i) (.c t (.c (aQ k) (.c (bK c) (.c (aB s) (.k 1 (aB b1) (.k 7 (aQ k) (.c h0 (.c (aC h0) .nil)))))))))) (.v 41 (.eq (ja y)) (.c m (.v 87 (.ppt r) (.l p (.v 44 (.ppt B) .nil))))) q
theorem amz {nt:Nat} (q:282≤nt) (e:List Nd) (n:Bool) (A:List (List Nat)) (f:List Sc) (g:Bool) (b:List Nat) (d:Int) (a:List UInt8) (k:Nat) (W:k<e.length) (R:e.length<2^40) (V:A.length=e.length) (X:b.length=e.length) (U:List AV) (i:k<A.length) (x:Nd) (rA:List AV) (j:Nat) (E:Nat) (M:Nd) (O u0:List AV) (l:Nat) (H:Nat) (I:Nd) (F u1:List AV) (B:(List.drop ((Int.toNat (k:Int))*5) (aH e))= [.int .i64 17,.bool x.neg,.str x.num,.str x.den,.str x.name]++U) (r:(List.drop ((Int.toNat (k:Int))*1) (bC A))= [.sl [.int .i64 (j:Int),.int .i64 (l:Int)] 2 false]++rA) (G:(List.drop ((0+(Int.toNat (j:Int)))*1) (jJ k b))= [AV.int .i64 (E:Int)]++O) (P:(List.drop ((Int.toNat (j:Int))*5) (aH e))=iZ M++u0) (S:(List.drop ((0+(Int.toNat (l:Int)))*1) (jJ k b))= [AV.int .i64 (H:Int)]++F) (K:(List.drop ((Int.toNat (l:Int))*5) (aH e))=iZ I++u1) (z:j<b.length) (D:j<e.length) (u:l<b.length) (C:l<e.length) (w:Nat) (J:Bool) (L:uD e n A f g b d a 17 x.neg x.num x.den x.name k (x.name==a) w) (Q:uD e n A f g b d a 17 x.neg x.num x.den x.name k (false) w) (m:CO 46 [.sl (bZ f) f.length g,.str x.name] (.ret (.bool J))) (s:((w:Int)==((0:Nat):Int))=false) (o:(((17:Nat):Int)==d)=false∨(x.name==a)=false):ah prog ap [] nt (ae 0 (af f15)) (eP e n A f g d a (k,b)) .normal (eP e n A f g d a (k+1,b.set k (3))):=by
 have c:k<b.length:=by omega
 have y:k<2^62:=by omega
 have h0:(decide ((k:Int)<(e.length:Int)))=true:=decide_eq_true (by omega)
 have t:Nat.ble (((0+(Int.toNat (k:Int)))*1)+1) (List.length (aj b))=true:=by rw [Nat.ble_eq,aA];simp [aj];omega
 have T:Nat.ble (((0+(Int.toNat (k:Int)))*1)+1) (List.length (jJ k b))=true:=by rw [Nat.ble_eq,show (jJ k b)=aj (b.set k 3) from aY (v:=3) c,aA];simp [aj];omega
 unfold eP
 dsimp only
 rw [List.length_set]
 rcases tf (((17:Nat):Int)==d) with b1|b1
 ·have p:=L
  have N:(x.name==a)=false:=by rcases o with h|h;rw [h] at b1;cases b1;exact h
  rw [← aY c]
  exact pN 15 [2] 21 3 (.k 29 (aQ k) (.c (bK i) (.c t (.c (aQ k) (.c (bK c) (.c (aB s) (.c (aB N) (.k 1 (aC b1) (.k 7 (aQ k) (.c h0 (.c (aC h0) .nil))))))))))) (.v 41 (.eq (ja y)) (.c m (.v 87 (.ppt r) (.l p (.v 44 (.ppt B) .nil))))) q
 ·have p:=Q
  rw [← aY c]
  exact pN 15 [2] 21 1 (.k 29 (aQ k) (.c (bK i) (.c t (.c (aQ k) (.c (bK c) (.c (aB s) (.k 1 (aB b1) (.k 7 (aQ k) (.c h0 (.c (aC h0) .nil)))))))))) (.v 41 (.eq (ja y)) (.c m (.v 87 (.ppt r) (.l p (.v 44 (.ppt B) .nil))))) q
theorem amA {nt:Nat} (q:282≤nt) (e:List Nd) (n:Bool) (A:List (List Nat)) (f:List Sc) (g:Bool) (b:List Nat) (d:Int) (a:List UInt8) (k:Nat) (W:k<e.length) (R:e.length<2^40) (V:A.length=e.length) (X:b.length=e.length) (U:List AV) (i:k<A.length) (x:Nd) (rA:List AV) (j:Nat) (E:Nat) (M:Nd) (O u0:List AV) (l:Nat) (H:Nat) (I:Nd) (F u1:List AV) (B:(List.drop ((Int.toNat (k:Int))*5) (aH e))= [.int .i64 18,.bool x.neg,.str x.num,.str x.den,.str x.name]++U) (r:(List.drop ((Int.toNat (k:Int))*1) (bC A))= [.sl [.int .i64 (j:Int),.int .i64 (l:Int)] 2 false]++rA) (G:(List.drop ((0+(Int.toNat (j:Int)))*1) (jJ k b))= [AV.int .i64 (E:Int)]++O) (P:(List.drop ((Int.toNat (j:Int))*5) (aH e))=iZ M++u0) (S:(List.drop ((0+(Int.toNat (l:Int)))*1) (jJ k b))= [AV.int .i64 (H:Int)]++F) (K:(List.drop ((Int.toNat (l:Int))*5) (aH e))=iZ I++u1) (z:j<b.length) (D:j<e.length) (u:l<b.length) (C:l<e.length) (w:Nat) (J:Bool) (L:uD e n A f g b d a 18 x.neg x.num x.den x.name k (x.name==a) w) (Q:uD e n A f g b d a 18 x.neg x.num x.den x.name k (false) w) (m:CO 46 [.sl (bZ f) f.length g,.str x.name] (.ret (.bool J))) (s:((w:Int)==((0:Nat):Int))=false) (o:(((18:Nat):Int)==d)=false∨(x.name==a)=false):ah prog ap [] nt (ae 0 (af f15)) (eP e n A f g d a (k,b)) .normal (eP e n A f g d a (k+1,b.set k (3))):=by
 have c:k<b.length:=by omega
 have y:k<2^62:=by omega
 have h0:(decide ((k:Int)<(e.length:Int)))=true:=decide_eq_true (by omega)
 have t:Nat.ble (((0+(Int.toNat (k:Int)))*1)+1) (List.length (aj b))=true:=by rw [Nat.ble_eq,aA];simp [aj];omega
 have T:Nat.ble (((0+(Int.toNat (k:Int)))*1)+1) (List.length (jJ k b))=true:=by rw [Nat.ble_eq,show (jJ k b)=aj (b.set k 3) from aY (v:=3) c,aA];simp [aj];omega
 unfold eP
 dsimp only
 rw [List.length_set]
 rcases tf (((18:Nat):Int)==d) with b1|b1
 ·have p:=L
  have N:(x.name==a)=false:=by rcases o with h|h;rw [h] at b1;cases b1;exact h
  rw [← aY c]
  exact pN 15 [2] 21 3 (.k 29 (aQ k) (.c (bK i) (.c t (.c (aQ k) (.c (bK c) (.c (aB s) (.c (aB N) (.k 1 (aC b1) (.k 7 (aQ k) (.c h0 (.c (aC h0) .nil))))))))))) (.v 41 (.eq (ja y)) (.c m (.v 87 (.ppt r) (.l p (.v 44 (.ppt B) .nil))))) q
 ·have p:=Q
  rw [← aY c]
  exact pN 15 [2] 21 1 (.k 29 (aQ k) (.c (bK i) (.c t (.c (aQ k) (.c (bK c) (.c (aB s) (.k 1 (aB b1) (.k 7 (aQ k) (.c h0 (.c (aC h0) .nil)))))))))) (.v 41 (.eq (ja y)) (.c m (.v 87 (.ppt r) (.l p (.v 44 (.ppt B) .nil))))) q
theorem amB {nt:Nat} (q:282≤nt) (e:List Nd) (n:Bool) (A:List (List Nat)) (f:List Sc) (g:Bool) (b:List Nat) (d:Int) (a:List UInt8) (k:Nat) (W:k<e.length) (R:e.length<2^40) (V:A.length=e.length) (X:b.length=e.length) (U:List AV) (i:k<A.length) (x:Nd) (rA:List AV) (j:Nat) (E:Nat) (M:Nd) (O u0:List AV) (l:Nat) (H:Nat) (I:Nd) (F u1:List AV) (B:(List.drop ((Int.toNat (k:Int))*5) (aH e))= [.int .i64 19,.bool x.neg,.str x.num,.str x.den,.str x.name]++U) (r:(List.drop ((Int.toNat (k:Int))*1) (bC A))= [.sl [.int .i64 (j:Int),.int .i64 (l:Int)] 2 false]++rA) (G:(List.drop ((0+(Int.toNat (j:Int)))*1) (jJ k b))= [AV.int .i64 (E:Int)]++O) (P:(List.drop ((Int.toNat (j:Int))*5) (aH e))=iZ M++u0) (S:(List.drop ((0+(Int.toNat (l:Int)))*1) (jJ k b))= [AV.int .i64 (H:Int)]++F) (K:(List.drop ((Int.toNat (l:Int))*5) (aH e))=iZ I++u1) (z:j<b.length) (D:j<e.length) (u:l<b.length) (C:l<e.length) (w:Nat) (J:Bool) (L:uD e n A f g b d a 19 x.neg x.num x.den x.name k (x.name==a) w) (Q:uD e n A f g b d a 19 x.neg x.num x.den x.name k (false) w) (m:CO 46 [.sl (bZ f) f.length g,.str x.name] (.ret (.bool J))) (s:((w:Int)==((0:Nat):Int))=false) (o:(((19:Nat):Int)==d)=false∨(x.name==a)=false):ah prog ap [] nt (ae 0 (af f15)) (eP e n A f g d a (k,b)) .normal (eP e n A f g d a (k+1,b.set k (3))):=by
 have c:k<b.length:=by omega
 have y:k<2^62:=by omega
 have h0:(decide ((k:Int)<(e.length:Int)))=true:=decide_eq_true (by omega)
 have t:Nat.ble (((0+(Int.toNat (k:Int)))*1)+1) (List.length (aj b))=true:=by rw [Nat.ble_eq,aA];simp [aj];omega
 have T:Nat.ble (((0+(Int.toNat (k:Int)))*1)+1) (List.length (jJ k b))=true:=by rw [Nat.ble_eq,show (jJ k b)=aj (b.set k 3) from aY (v:=3) c,aA];simp [aj];omega
 unfold eP
 dsimp only
 rw [List.length_set]
 rcases tf (((19:Nat):Int)==d) with b1|b1
 ·have p:=L
  have N:(x.name==a)=false:=by rcases o with h|h;rw [h] at b1;cases b1;exact h
  rw [← aY c]
  exact pN 15 [2] 21 3 (.k 29 (aQ k) (.c (bK i) (.c t (.c (aQ k) (.c (bK c) (.c (aB s) (.c (aB N) (.k 1 (aC b1) (.k 7 (aQ k) (.c h0 (.c (aC h0) .nil))))))))))) (.v 41 (.eq (ja y)) (.c m (.v 87 (.ppt r) (.l p (.v 44 (.ppt B) .nil))))) q
 ·have p:=Q
  rw [← aY c]
  exact pN 15 [2] 21 1 (.k 29 (aQ k) (.c (bK i) (.c t (.c (aQ k) (.c (bK c) (.c (aB s) (.k 1 (aB b1) (.k 7 (aQ k) (.c h0 (.c (aC h0) .nil)))))))))) (.v 41 (.eq (ja y)) (.c m (.v 87 (.ppt r) (.l p (.v 44 (.ppt B) .nil))))) q
theorem amC {nt:Nat} (p:282≤nt) (e:List Nd) (m:Bool) (A:List (List Nat)) (f:List Sc) (g:Bool) (b:List Nat) (d:Int) (a:List UInt8) (k:Nat) (O:k<e.length) (K:e.length<2^40) (N:A.length=e.length) (P:b.length=e.length) (M:List AV) (i:k<A.length) (x:Nd) (rA:List AV) (j:Nat) (B:Nat) (F:Nd) (H u0:List AV) (y:(List.drop ((Int.toNat (k:Int))*5) (aH e))= [.int .i64 20,.bool x.neg,.str x.num,.str x.den,.str x.name]++M) (q:(List.drop ((Int.toNat (k:Int))*1) (bC A))= [.sl [.int .i64 (j:Int)] 1 false]++rA) (C:(List.drop ((0+(Int.toNat (j:Int)))*1) (jJ k b))= [AV.int .i64 (B:Int)]++H) (I:(List.drop ((Int.toNat (j:Int))*5) (aH e))=iZ F++u0) (u:j<b.length) (z:j<e.length) (w:Nat) (D:Bool) (E:uD e m A f g b d a 20 x.neg x.num x.den x.name k (x.name==a) w) (J:uD e m A f g b d a 20 x.neg x.num x.den x.name k (false) w) (l:CO 46 [.sl (bZ f) f.length g,.str x.name] (.ret (.bool D))) (r:((w:Int)==((0:Nat):Int))=false) (n:(((20:Nat):Int)==d)=false∨(x.name==a)=false):ah prog ap [] nt (ae 0 (af f15)) (eP e m A f g d a (k,b)) .normal (eP e m A f g d a (k+1,b.set k (3))):=by
 have c:k<b.length:=by omega
 have t:k<2^62:=by omega
 have h0:(decide ((k:Int)<(e.length:Int)))=true:=decide_eq_true (by omega)
 have s:Nat.ble (((0+(Int.toNat (k:Int)))*1)+1) (List.length (aj b))=true:=by rw [Nat.ble_eq,aA];simp [aj];omega
 have L:Nat.ble (((0+(Int.toNat (k:Int)))*1)+1) (List.length (jJ k b))=true:=by rw [Nat.ble_eq,show (jJ k b)=aj (b.set k 3) from aY (v:=3) c,aA];simp [aj];omega
 unfold eP
 dsimp only
 rw [List.length_set]
 rcases tf (((20:Nat):Int)==d) with b1|b1
 ·have o:=E
  have G:(x.name==a)=false:=by rcases n with h|h;rw [h] at b1;cases b1;exact h
  rw [← aY c]
  exact pN 15 [2] 21 3 (.k 29 (aQ k) (.c (bK i) (.c s (.c (aQ k) (.c (bK c) (.c (aB r) (.c (aB G) (.k 1 (aC b1) (.k 7 (aQ k) (.c h0 (.c (aC h0) .nil))))))))))) (.v 41 (.eq (ja t)) (.c l (.v 87 (.ppt q) (.l o (.v 44 (.ppt y) .nil))))) p
 ·have o:=J
  rw [← aY c]
  exact pN 15 [2] 21 1 (.k 29 (aQ k) (.c (bK i) (.c s (.c (aQ k) (.c (bK c) (.c (aB r) (.k 1 (aB b1) (.k 7 (aQ k) (.c h0 (.c (aC h0) .nil)))))))))) (.v 41 (.eq (ja t)) (.c l (.v 87 (.ppt q) (.l o (.v 44 (.ppt y) .nil))))) p
theorem amD {nt:Nat} (q:282≤nt) (e:List Nd) (n:Bool) (A:List (List Nat)) (f:List Sc) (g:Bool) (c:List Nat) (d:Int) (a:List UInt8) (k:Nat) (O:k<e.length) (L:e.length<2^40) (N:A.length=e.length) (P:c.length=e.length) (M:List AV) (i:k<A.length) (x:Nd) (rA:List AV) (j:Nat) (C:Nat) (G:Nd) (I u0:List AV) (z:(List.drop ((Int.toNat (k:Int))*5) (aH e))= [.int .i64 21,.bool x.neg,.str x.num,.str x.den,.str x.name]++M) (r:(List.drop ((Int.toNat (k:Int))*1) (bC A))= [.sl [.int .i64 (j:Int)] 1 false]++rA) (D:(List.drop ((0+(Int.toNat (j:Int)))*1) (jJ k c))= [AV.int .i64 (C:Int)]++I) (J:(List.drop ((Int.toNat (j:Int))*5) (aH e))=iZ G++u0) (y:j<c.length) (B:j<e.length) (w:Nat) (E:Bool) (F:uD e n A f g c d a 21 x.neg x.num x.den x.name k (x.name==a) w) (K:uD e n A f g c d a 21 x.neg x.num x.den x.name k (false) w) (l:CO 46 [.sl (bZ f) f.length g,.str x.name] (.ret (.bool E))) (s:((w:Int)==((0:Nat):Int))=false) (o:(((21:Nat):Int)==d)=false∨(x.name==a)=false):ah prog ap [] nt (ae 0 (af f15)) (eP e n A f g d a (k,c)) .normal (eP e n A f g d a (k+1,c.set k (w))):=by
 have b:k<c.length:=by omega
 have u:k<2^62:=by omega
 have h0:(decide ((k:Int)<(e.length:Int)))=true:=decide_eq_true (by omega)
 have t:Nat.ble (((0+(Int.toNat (k:Int)))*1)+1) (List.length (aj c))=true:=by rw [Nat.ble_eq,aA];simp [aj];omega
 have m:Nat.ble (((0+(Int.toNat (k:Int)))*1)+1) (List.length (jJ k c))=true:=by rw [Nat.ble_eq,show (jJ k c)=aj (c.set k 3) from aY (v:=3) b,aA];simp [aj];omega
 unfold eP
 dsimp only
 rw [List.length_set]
 rcases tf (((21:Nat):Int)==d) with b1|b1
 ·have p:=F
  have H:(x.name==a)=false:=by rcases o with h|h;rw [h] at b1;cases b1;exact h
  rw [← dG b]
  exact pN 15 [2] 21 387 (.k 19 m (.c (aQ k) (.c (bK b) (.k 11 (aQ k) (.c (bK i) (.c t (.c (aQ k) (.c (bK b) (.c (aB s) (.c (aB H) (.k 1 (aC b1) (.k 7 (aQ k) (.c h0 (.c (aC h0) .nil)))))))))))))) (.v 41 (.eq (ja u)) (.c l (.v 87 (.ppt r) (.l p (.v 44 (.ppt z) .nil))))) q
 ·have p:=K
  rw [← dG b]
  exact pN 15 [2] 21 385 (.k 19 m (.c (aQ k) (.c (bK b) (.k 11 (aQ k) (.c (bK i) (.c t (.c (aQ k) (.c (bK b) (.c (aB s) (.k 1 (aB b1) (.k 7 (aQ k) (.c h0 (.c (aC h0) .nil))))))))))))) (.v 41 (.eq (ja u)) (.c l (.v 87 (.ppt r) (.l p (.v 44 (.ppt z) .nil))))) q
theorem amE {nt:Nat} (q:282≤nt) (e:List Nd) (n:Bool) (A:List (List Nat)) (f:List Sc) (g:Bool) (c:List Nat) (d:Int) (a:List UInt8) (k:Nat) (O:k<e.length) (L:e.length<2^40) (N:A.length=e.length) (P:c.length=e.length) (M:List AV) (i:k<A.length) (x:Nd) (rA:List AV) (j:Nat) (C:Nat) (G:Nd) (I u0:List AV) (z:(List.drop ((Int.toNat (k:Int))*5) (aH e))= [.int .i64 22,.bool x.neg,.str x.num,.str x.den,.str x.name]++M) (r:(List.drop ((Int.toNat (k:Int))*1) (bC A))= [.sl [.int .i64 (j:Int)] 1 false]++rA) (D:(List.drop ((0+(Int.toNat (j:Int)))*1) (jJ k c))= [AV.int .i64 (C:Int)]++I) (J:(List.drop ((Int.toNat (j:Int))*5) (aH e))=iZ G++u0) (y:j<c.length) (B:j<e.length) (w:Nat) (E:Bool) (F:uD e n A f g c d a 22 x.neg x.num x.den x.name k (x.name==a) w) (K:uD e n A f g c d a 22 x.neg x.num x.den x.name k (false) w) (l:CO 46 [.sl (bZ f) f.length g,.str x.name] (.ret (.bool E))) (s:((w:Int)==((0:Nat):Int))=false) (o:(((22:Nat):Int)==d)=false∨(x.name==a)=false):ah prog ap [] nt (ae 0 (af f15)) (eP e n A f g d a (k,c)) .normal (eP e n A f g d a (k+1,c.set k (w))):=by
 have b:k<c.length:=by omega
 have u:k<2^62:=by omega
 have h0:(decide ((k:Int)<(e.length:Int)))=true:=decide_eq_true (by omega)
 have t:Nat.ble (((0+(Int.toNat (k:Int)))*1)+1) (List.length (aj c))=true:=by rw [Nat.ble_eq,aA];simp [aj];omega
 have m:Nat.ble (((0+(Int.toNat (k:Int)))*1)+1) (List.length (jJ k c))=true:=by rw [Nat.ble_eq,show (jJ k c)=aj (c.set k 3) from aY (v:=3) b,aA];simp [aj];omega
 unfold eP
 dsimp only
 rw [List.length_set]
 rcases tf (((22:Nat):Int)==d) with b1|b1
 ·have p:=F
  have H:(x.name==a)=false:=by rcases o with h|h;rw [h] at b1;cases b1;exact h
  rw [← dG b]
  exact pN 15 [2] 21 387 (.k 19 m (.c (aQ k) (.c (bK b) (.k 11 (aQ k) (.c (bK i) (.c t (.c (aQ k) (.c (bK b) (.c (aB s) (.c (aB H) (.k 1 (aC b1) (.k 7 (aQ k) (.c h0 (.c (aC h0) .nil)))))))))))))) (.v 41 (.eq (ja u)) (.c l (.v 87 (.ppt r) (.l p (.v 44 (.ppt z) .nil))))) q
 ·have p:=K
  rw [← dG b]
  exact pN 15 [2] 21 385 (.k 19 m (.c (aQ k) (.c (bK b) (.k 11 (aQ k) (.c (bK i) (.c t (.c (aQ k) (.c (bK b) (.c (aB s) (.k 1 (aB b1) (.k 7 (aQ k) (.c h0 (.c (aC h0) .nil))))))))))))) (.v 41 (.eq (ja u)) (.c l (.v 87 (.ppt r) (.l p (.v 44 (.ppt z) .nil))))) q
theorem amF {nt:Nat} (q:282≤nt) (e:List Nd) (n:Bool) (A:List (List Nat)) (f:List Sc) (g:Bool) (c:List Nat) (d:Int) (a:List UInt8) (k:Nat) (O:k<e.length) (L:e.length<2^40) (N:A.length=e.length) (P:c.length=e.length) (M:List AV) (i:k<A.length) (x:Nd) (rA:List AV) (j:Nat) (C:Nat) (G:Nd) (I u0:List AV) (z:(List.drop ((Int.toNat (k:Int))*5) (aH e))= [.int .i64 23,.bool x.neg,.str x.num,.str x.den,.str x.name]++M) (r:(List.drop ((Int.toNat (k:Int))*1) (bC A))= [.sl [.int .i64 (j:Int)] 1 false]++rA) (D:(List.drop ((0+(Int.toNat (j:Int)))*1) (jJ k c))= [AV.int .i64 (C:Int)]++I) (J:(List.drop ((Int.toNat (j:Int))*5) (aH e))=iZ G++u0) (y:j<c.length) (B:j<e.length) (w:Nat) (E:Bool) (F:uD e n A f g c d a 23 x.neg x.num x.den x.name k (x.name==a) w) (K:uD e n A f g c d a 23 x.neg x.num x.den x.name k (false) w) (l:CO 46 [.sl (bZ f) f.length g,.str x.name] (.ret (.bool E))) (s:((w:Int)==((0:Nat):Int))=false) (o:(((23:Nat):Int)==d)=false∨(x.name==a)=false):ah prog ap [] nt (ae 0 (af f15)) (eP e n A f g d a (k,c)) .normal (eP e n A f g d a (k+1,c.set k (w))):=by
 have b:k<c.length:=by omega
 have u:k<2^62:=by omega
 have h0:(decide ((k:Int)<(e.length:Int)))=true:=decide_eq_true (by omega)
 have t:Nat.ble (((0+(Int.toNat (k:Int)))*1)+1) (List.length (aj c))=true:=by rw [Nat.ble_eq,aA];simp [aj];omega
 have m:Nat.ble (((0+(Int.toNat (k:Int)))*1)+1) (List.length (jJ k c))=true:=by rw [Nat.ble_eq,show (jJ k c)=aj (c.set k 3) from aY (v:=3) b,aA];simp [aj];omega
 unfold eP
 dsimp only
 rw [List.length_set]
 rcases tf (((23:Nat):Int)==d) with b1|b1
 ·have p:=F
  have H:(x.name==a)=false:=by rcases o with h|h;rw [h] at b1;cases b1;exact h
  rw [← dG b]
  exact pN 15 [2] 21 387 (.k 19 m (.c (aQ k) (.c (bK b) (.k 11 (aQ k) (.c (bK i) (.c t (.c (aQ k) (.c (bK b) (.c (aB s) (.c (aB H) (.k 1 (aC b1) (.k 7 (aQ k) (.c h0 (.c (aC h0) .nil)))))))))))))) (.v 41 (.eq (ja u)) (.c l (.v 87 (.ppt r) (.l p (.v 44 (.ppt z) .nil))))) q
 ·have p:=K
  rw [← dG b]
  exact pN 15 [2] 21 385 (.k 19 m (.c (aQ k) (.c (bK b) (.k 11 (aQ k) (.c (bK i) (.c t (.c (aQ k) (.c (bK b) (.c (aB s) (.k 1 (aB b1) (.k 7 (aQ k) (.c h0 (.c (aC h0) .nil))))))))))))) (.v 41 (.eq (ja u)) (.c l (.v 87 (.ppt r) (.l p (.v 44 (.ppt z) .nil))))) q
theorem amG {nt:Nat} (p:282≤nt) (e:List Nd) (q:Bool) (A:List (List Nat)) (j:List Sc) (l:Bool) (c:List Nat) (i:Int) (b:List UInt8) (k:Nat) (O:k<e.length) (L:e.length<2^40) (N:A.length=e.length) (P:c.length=e.length) (M:List AV) (d:k<A.length) (x:Nd) (rA:List AV) (n:Nat) (E:Nat) (H:Nd) (I u0:List AV) (y:(List.drop ((Int.toNat (k:Int))*5) (aH e))= [.int .i64 24,.bool x.neg,.str x.num,.str x.den,.str x.name]++M) (r:(List.drop ((Int.toNat (k:Int))*1) (bC A))= [.sl [.int .i64 (n:Int)] 1 false]++rA) (F:(List.drop ((0+(Int.toNat (n:Int)))*1) (jJ k c))= [AV.int .i64 (E:Int)]++I) (J:(List.drop ((Int.toNat (n:Int))*5) (aH e))=iZ H++u0) (C:n<c.length) (D:n<e.length) (w:Nat) (g:Bool) (G:uD e q A j l c i b 24 x.neg x.num x.den x.name k (x.name==b) w) (K:uD e q A j l c i b 24 x.neg x.num x.den x.name k (false) w) (f:CO 46 [.sl (bZ j) j.length l,.str x.name] (.ret (.bool g))) (s:((w:Int)==((0:Nat):Int))=false) (z:(((24:Nat):Int)==i)=false∨(x.name==b)=false):ah prog ap [] nt (ae 0 (af f15)) (eP e q A j l i b (k,c)) .normal (eP e q A j l i b (k+1,c.set k (cond g w 3))):=by
 have a:k<c.length:=by omega
 have u:k<2^62:=by omega
 have h0:(decide ((k:Int)<(e.length:Int)))=true:=decide_eq_true (by omega)
 have t:Nat.ble (((0+(Int.toNat (k:Int)))*1)+1) (List.length (aj c))=true:=by rw [Nat.ble_eq,aA];simp [aj];omega
 have o:Nat.ble (((0+(Int.toNat (k:Int)))*1)+1) (List.length (jJ k c))=true:=by rw [Nat.ble_eq,show (jJ k c)=aj (c.set k 3) from aY (v:=3) a,aA];simp [aj];omega
 unfold eP
 dsimp only
 rw [List.length_set]
 rcases tf (((24:Nat):Int)==i) with b1|b1
 ·have m:=G
  have B:(x.name==b)=false:=by rcases z with h|h;rw [h] at b1;cases b1;exact h
  rcases tf g with d0|d0
  ·rw [show (cond g w 3)=w by rw [d0];rfl]
   rw [← dG a]
   exact pN 15 [2] 21 1572995 (.c o (.c (aQ k) (.c (bK a) (.c (aC d0) (.k 29 (aQ k) (.c (bK d) (.c t (.c (aQ k) (.c (bK a) (.c (aB s) (.c (aB B) (.k 1 (aC b1) (.k 7 (aQ k) (.c h0 (.c (aC h0) .nil))))))))))))))) (.v 41 (.eq (ja u)) (.c f (.v 87 (.ppt r) (.l m (.v 44 (.ppt y) .nil))))) p
  ·rw [show (cond g w 3)=3 by rw [d0];rfl]
   rw [← aY a]
   exact pN 15 [2] 21 524419 (.c (aB d0) (.k 29 (aQ k) (.c (bK d) (.c t (.c (aQ k) (.c (bK a) (.c (aB s) (.c (aB B) (.k 1 (aC b1) (.k 7 (aQ k) (.c h0 (.c (aC h0) .nil)))))))))))) (.v 41 (.eq (ja u)) (.c f (.v 87 (.ppt r) (.l m (.v 44 (.ppt y) .nil))))) p
 ·have m:=K
  rcases tf g with d0|d0
  ·rw [show (cond g w 3)=w by rw [d0];rfl]
   rw [← dG a]
   exact pN 15 [2] 21 1572993 (.c o (.c (aQ k) (.c (bK a) (.c (aC d0) (.k 29 (aQ k) (.c (bK d) (.c t (.c (aQ k) (.c (bK a) (.c (aB s) (.k 1 (aB b1) (.k 7 (aQ k) (.c h0 (.c (aC h0) .nil)))))))))))))) (.v 41 (.eq (ja u)) (.c f (.v 87 (.ppt r) (.l m (.v 44 (.ppt y) .nil))))) p
  ·rw [show (cond g w 3)=3 by rw [d0];rfl]
   rw [← aY a]
   exact pN 15 [2] 21 524417 (.c (aB d0) (.k 29 (aQ k) (.c (bK d) (.c t (.c (aQ k) (.c (bK a) (.c (aB s) (.k 1 (aB b1) (.k 7 (aQ k) (.c h0 (.c (aC h0) .nil))))))))))) (.v 41 (.eq (ja u)) (.c f (.v 87 (.ppt r) (.l m (.v 44 (.ppt y) .nil))))) p
theorem pz {l:List Nat} (h:l.length=2):∃ a b,l= [a,b]:=match l,h with| [a,b],_=> ⟨a,b,rfl⟩
theorem Cj {l:List Nat} (h:l.length=1):∃ a,l= [a]:=match l,h with| [a],_=> ⟨a,rfl⟩
theorem abb {l:List Nat} (h:l.length=3):∃ a b c,l= [a,b,c]:=match l,h with| [a,b,c],_=> ⟨a,b,c,rfl⟩
theorem Rq {a:List Nat} {k:Nat} (h:a.getD k 0=0):a.set k 0=a:=by
 by_cases hk:k<a.length
 ·rw [qX hk] at h
  conv=>lhs;rw [← h]
  exact List.set_getElem_self hk
 ·exact List.set_eq_of_length_le (by omega)
theorem uh {a:List Nat} {k j v:Nat} (h:j ≠ k):(a.set k v).getD j 0=a.getD j 0:=by
 rw [List.getD_eq_getElem?_getD,List.getD_eq_getElem?_getD,List.getElem?_set_ne (Ne.symm h)]
theorem acD {a:List Nat} {k j:Nat} (b:k<a.length) (c:j<k):List.drop ((0+(Int.toNat (j:Int)))*1) (List.take ((0+(Int.toNat (k:Int)))*1) (aj a)++ [.int .i64 3]++List.drop (((0+(Int.toNat (k:Int)))*1)+1) (aj a))= [AV.int .i64 ((a.getD j 0:Nat):Int)]++aj ((a.set k 3).drop (j+1)):=by
 rw [show (List.take ((0+(Int.toNat (k:Int)))*1) (aj a)++ [.int .i64 3]++List.drop (((0+(Int.toNat (k:Int)))*1)+1) (aj a))=aj (a.set k 3) from aY (v:=3) b,Nat.zero_add,kG (by rw [List.length_set];omega),uh (by omega)]
theorem Y9 {nt:Nat} (K:282≤nt) (e:List Nd) (H:Bool) (q:List Sc) (G:Bool) (d:List Nat) (ck:Sc→Int) (I:Sc→Bool) (E:Int) (i:List UInt8) (k:Nat) (x:Nd) (hsm:∀ y ∈ e,y.sm) (hq:dH e=0) (hx:e[k]? =some x) (s:e.length<2^40) (M:d.length=e.length) (X:q.length<2^40) (hz:d.getD k 0=0) (P:∀ j,j<k→fF (e.getD j jd).op=true→d.getD j 0=0) (hc:∀ x ∈ q,CO 71 [.agg (xw x)] (.ret (.int .i64 (ck x)))∧(ck x=0→CO 72 [.agg (xw x)] (.ret (.bool (I x))))):
  ah prog ap [] nt (ae 0 (af f15)) (eP e H (bQ e) q G E i (k,d)) .normal (eP e H (bQ e) q G E i (k+1,d.set k (yJ ck I e (bQ e) q E i d k x))):=by
 obtain ⟨L,hsp⟩:=ni hq
 obtain ⟨r,l⟩:=hsp k x hx
 obtain ⟨J,hxe⟩:=List.getElem?_eq_some_iff.1 hx
 have Z:e.getD k jd=x:=by rw [List.getD_eq_getElem?_getD,hx];rfl
 generalize hAA:bQ e=A at*
 have t:k<A.length:=by omega
 have W:k<d.length:=by omega
 have m:∀ j ∈ A.getD k [],j<d.length:=fun j R=>by have:=l j R;omega
 have U:(A.getD k []).length<2^40:=by rw [r];unfold dM;split<;>(try split)<;>(try split)<;>omega
 have N:(List.drop ((Int.toNat (k:Int))*5) (aH e))=iZ x++aH (e.drop (k+1)):=by rw [ut J,Z]
 have v:=fun b=>ac1 e H A q G d E i x.op x.neg x.num x.den x.name k b t U m
 unfold yJ
 by_cases hit:(x.op==E && x.name==i)=true
 ·rw [hit]
  rw [Bool.and_eq_true] at hit
  exact auE K e H A q G d E i k J s L M _ x N hit.1 hit.2
 ·rw [Bool.not_eq_true] at hit
  rw [hit]
  have p:(x.op==E)=false∨(x.name==i)=false:=Bool.and_eq_false_iff.1 hit
  rcases tf ((((eG A d k):Nat):Int)==((0:Nat):Int)) with b3|b3
  ·rw [b3]
   dsimp only [cond]
   rw [Rq hz]
   rcases tf (x.op==E) with b1|b1
   ·have b2:(x.name==i)=false:=by rcases p with h|h;rw [h] at b1;cases b1;exact h
    exact auF K e H A q G d E i k J s L M _ x N _ (v _) b1 b2 b3
   ·exact auG K e H A q G d E i k J s L M _ x N _ (v _) b1 b3
  ·rw [b3]
   dsimp only [cond]
   have w:=VQ q G x.name ck I X hc
   have V:A.getD k [] ≠ []:=by
    intro h
    have:eG A d k=0:=by unfold eG;rw [h];rfl
    rw [this] at b3
    exact absurd b3 (by decide)
   have g:=lh t
   have n:∀ j ∈ A.getD k [],List.drop ((0+(Int.toNat (j:Int)))*1) (List.take ((0+(Int.toNat (k:Int)))*1) (aj d)++ [.int .i64 3]++List.drop (((0+(Int.toNat (k:Int)))*1)+1) (aj d))= [AV.int .i64 ((d.getD j 0:Nat):Int)]++aj ((d.set k 3).drop (j+1)):=fun j R=>acD W (l j R)
   have o:∀ j ∈ A.getD k [],(List.drop ((Int.toNat (j:Int))*5) (aH e))=iZ (e.getD j jd)++aH (e.drop (j+1)):=fun j R=>ut (by have:=l j R;omega)
   rcases x with ⟨F,z,B,C,u⟩
   dsimp only at*
   have hop:F=9∨F=10∨F=11∨F=12∨F=13∨F=14∨F=15∨F=16∨F=17∨F=18∨F=19∨F=20∨F=21∨F=22∨F=23∨F=24:=by
    have S:dM F ≠ 0:=by intro h;rw [h] at r;exact V (List.length_eq_zero_iff.1 r)
    unfold dM at S
    by_cases g1:F=15
    ·omega
    ·rw [if_neg g1] at S
     by_cases g2:(9≤F∧F≤14)∨(16≤F∧F≤19)
     ·omega
     ·rw [if_neg g2] at S
      by_cases g3:20≤F∧F≤24
      ·omega
      ·rw [if_neg g3] at S;exact absurd rfl S
   have Q:∀ j,(e.getD j jd).num.length<2^33∧(e.getD j jd).den.length<2^33:=by
    intro j
    by_cases R:j<e.length
    ·exact hsm _ (by rw [List.getD_eq_getElem?_getD,List.getElem?_eq_getElem R];exact List.getElem_mem R)
    ·rw [List.getD_eq_getElem?_getD,List.getElem?_eq_none (by omega)];decide
   rcases hop with hxo|hxo|hxo|hxo|hxo|hxo|hxo|hxo|hxo|hxo|hxo|hxo|hxo|hxo|hxo|hxo
   ·subst hxo
    obtain ⟨c,f,a⟩:=pz (show (A.getD k []).length=2 by rw [r];rfl)
    rw [a] at g
    have D:fU ck I e A q d k ⟨9,z,B,C,u⟩=eG A d k:=by
     unfold fU
     dsimp only
     rw [if_pos (by decide)]
    rw [D]
    exact auD K e H A q G d E i k J s L M _ t ⟨9,z,B,C,u⟩ _ c (d.getD c 0) (e.getD c jd) _ _ f (d.getD f 0) (e.getD f jd) _ _ N g (n c (by rw [a];simp)) (o c (by rw [a];simp)) (n f (by rw [a];simp)) (o f (by rw [a];simp)) (m c (by rw [a];simp)) (by have:=l c (by rw [a];simp);omega) (m f (by rw [a];simp)) (by have:=l f (by rw [a];simp);omega) (eG A d k) _ (v _) (v _) w b3 p
   ·subst hxo
    obtain ⟨c,f,a⟩:=pz (show (A.getD k []).length=2 by rw [r];rfl)
    rw [a] at g
    have D:fU ck I e A q d k ⟨10,z,B,C,u⟩=eu (d.getD c 0) (jM (d.getD f 0)):=by
     unfold fU
     dsimp only
     rw [if_neg (by decide)]
     rw [if_pos (by decide)]
     rw [show eX A d k 0=d.getD c 0 by unfold eX;rw [a];rfl,show eX A d k 1=d.getD f 0 by unfold eX;rw [a];rfl]
    rw [D]
    exact amr K e H A q G d E i k J s L M _ t ⟨10,z,B,C,u⟩ _ c (d.getD c 0) (e.getD c jd) _ _ f (d.getD f 0) (e.getD f jd) _ _ N g (n c (by rw [a];simp)) (o c (by rw [a];simp)) (n f (by rw [a];simp)) (o f (by rw [a];simp)) (m c (by rw [a];simp)) (by have:=l c (by rw [a];simp);omega) (m f (by rw [a];simp)) (by have:=l f (by rw [a];simp);omega) (eG A d k) _ (v _) (v _) w b3 p
   ·subst hxo
    obtain ⟨c,f,a⟩:=pz (show (A.getD k []).length=2 by rw [r];rfl)
    rw [a] at g
    have D:fU ck I e A q d k ⟨11,z,B,C,u⟩=cond (fF (e.getD c jd).op) (gX (e.getD c jd).neg (d.getD f 0)) (cond (fF (e.getD f jd).op) (gX (e.getD f jd).neg (d.getD c 0)) 3):=by
     unfold fU
     dsimp only
     rw [if_neg (by decide)]
     rw [if_neg (by decide)]
     rw [if_pos (by decide)]
     unfold DX
     rw [show eX A d k 0=d.getD c 0 by unfold eX;rw [a];rfl,show eX A d k 1=d.getD f 0 by unfold eX;rw [a];rfl,show rq e A k 0=e.getD c jd by unfold rq;rw [a];rfl,show rq e A k 1=e.getD f jd by unfold rq;rw [a];rfl]
    have Y:fF (e.getD c jd).op=true→fF (e.getD f jd).op=false:=by
     intro S
     rcases tf (fF (e.getD f jd).op) with h2|h2
     ·exfalso
      have z0:=P c (l c (by rw [a];simp)) S
      have z1:=P f (l f (by rw [a];simp)) h2
      have:eG A d k=0:=by unfold eG;rw [a];show eu (eu 0 (d.getD c 0)) (d.getD f 0)=0;rw [z0,z1];rfl
      rw [this] at b3
      exact absurd b3 (by decide)
     ·exact h2
    rw [D]
    exact ams K e H A q G d E i k J s L M _ t ⟨11,z,B,C,u⟩ _ c (d.getD c 0) (e.getD c jd) _ _ f (d.getD f 0) (e.getD f jd) _ _ N g (n c (by rw [a];simp)) (o c (by rw [a];simp)) (n f (by rw [a];simp)) (o f (by rw [a];simp)) (m c (by rw [a];simp)) (by have:=l c (by rw [a];simp);omega) (m f (by rw [a];simp)) (by have:=l f (by rw [a];simp);omega) (eG A d k) _ (v _) (v _) w Y b3 p
   ·subst hxo
    obtain ⟨c,f,a⟩:=pz (show (A.getD k []).length=2 by rw [r];rfl)
    rw [a] at g
    have D:fU ck I e A q d k ⟨12,z,B,C,u⟩=cond (fF (e.getD f jd).op) (cond (fZ (e.getD f jd).neg (e.getD f jd).num (e.getD f jd).den==((0:Nat):Int)) 3 (gX (e.getD f jd).neg (d.getD c 0))) 3:=by
     unfold fU
     dsimp only
     rw [if_neg (by decide)]
     rw [if_neg (by decide)]
     rw [if_neg (by decide)]
     rw [if_pos (by decide)]
     unfold CU
     rw [show eX A d k 0=d.getD c 0 by unfold eX;rw [a];rfl,show rq e A k 1=e.getD f jd by unfold rq;rw [a];rfl]
    have csg_:=fM (e.getD f jd).neg (e.getD f jd).num (e.getD f jd).den (Q f).1 (Q f).2
    rw [D]
    exact amu K e H A q G d E i k J s L M _ t ⟨12,z,B,C,u⟩ _ c (d.getD c 0) (e.getD c jd) _ _ f (d.getD f 0) (e.getD f jd) _ _ N g (n c (by rw [a];simp)) (o c (by rw [a];simp)) (n f (by rw [a];simp)) (o f (by rw [a];simp)) (m c (by rw [a];simp)) (by have:=l c (by rw [a];simp);omega) (m f (by rw [a];simp)) (by have:=l f (by rw [a];simp);omega) (eG A d k) _ (v _) (v _) w csg_ b3 p
   ·subst hxo
    obtain ⟨c,f,a⟩:=pz (show (A.getD k []).length=2 by rw [r];rfl)
    rw [a] at g
    have D:fU ck I e A q d k ⟨13,z,B,C,u⟩=eG A d k:=by
     unfold fU
     dsimp only
     rw [if_pos (by decide)]
    rw [D]
    exact amv K e H A q G d E i k J s L M _ t ⟨13,z,B,C,u⟩ _ c (d.getD c 0) (e.getD c jd) _ _ f (d.getD f 0) (e.getD f jd) _ _ N g (n c (by rw [a];simp)) (o c (by rw [a];simp)) (n f (by rw [a];simp)) (o f (by rw [a];simp)) (m c (by rw [a];simp)) (by have:=l c (by rw [a];simp);omega) (m f (by rw [a];simp)) (by have:=l f (by rw [a];simp);omega) (eG A d k) _ (v _) (v _) w b3 p
   ·subst hxo
    obtain ⟨c,f,a⟩:=pz (show (A.getD k []).length=2 by rw [r];rfl)
    rw [a] at g
    have D:fU ck I e A q d k ⟨14,z,B,C,u⟩=eG A d k:=by
     unfold fU
     dsimp only
     rw [if_pos (by decide)]
    rw [D]
    exact amw K e H A q G d E i k J s L M _ t ⟨14,z,B,C,u⟩ _ c (d.getD c 0) (e.getD c jd) _ _ f (d.getD f 0) (e.getD f jd) _ _ N g (n c (by rw [a];simp)) (o c (by rw [a];simp)) (n f (by rw [a];simp)) (o f (by rw [a];simp)) (m c (by rw [a];simp)) (by have:=l c (by rw [a];simp);omega) (m f (by rw [a];simp)) (by have:=l f (by rw [a];simp);omega) (eG A d k) _ (v _) (v _) w b3 p
   ·subst hxo
    obtain ⟨c,f,O,a⟩:=abb (show (A.getD k []).length=3 by rw [r];rfl)
    rw [a] at g
    have D:fU ck I e A q d k ⟨15,z,B,C,u⟩=cond (((d.getD c 0:Nat):Int)==((0:Nat):Int)) (eu (d.getD f 0) (d.getD O 0)) 3:=by
     unfold fU
     dsimp only
     rw [if_neg (by decide)]
     rw [if_neg (by decide)]
     rw [if_neg (by decide)]
     rw [if_neg (by decide)]
     rw [if_pos (by decide)]
     unfold Ik
     rw [show eX A d k 0=d.getD c 0 by unfold eX;rw [a];rfl,show eX A d k 1=d.getD f 0 by unfold eX;rw [a];rfl,show eX A d k 2=d.getD O 0 by unfold eX;rw [a];rfl]
    rw [D]
    exact amx K e H A q G d E i k J s L M _ t ⟨15,z,B,C,u⟩ _ c (d.getD c 0) (e.getD c jd) _ _ f (d.getD f 0) (e.getD f jd) _ _ O (d.getD O 0) (e.getD O jd) _ _ N g (n c (by rw [a];simp)) (o c (by rw [a];simp)) (n f (by rw [a];simp)) (o f (by rw [a];simp)) (n O (by rw [a];simp)) (o O (by rw [a];simp)) (m c (by rw [a];simp)) (by have:=l c (by rw [a];simp);omega) (m f (by rw [a];simp)) (by have:=l f (by rw [a];simp);omega) (m O (by rw [a];simp)) (by have:=l O (by rw [a];simp);omega) (eG A d k) _ (v _) (v _) w b3 p
   ·subst hxo
    obtain ⟨c,f,a⟩:=pz (show (A.getD k []).length=2 by rw [r];rfl)
    rw [a] at g
    have D:fU ck I e A q d k ⟨16,z,B,C,u⟩=3:=by
     unfold fU
     dsimp only
     rw [if_neg (by decide)]
     rw [if_neg (by decide)]
     rw [if_neg (by decide)]
     rw [if_neg (by decide)]
     rw [if_neg (by decide)]
     rw [if_neg (by decide)]
    rw [D]
    exact amy K e H A q G d E i k J s L M _ t ⟨16,z,B,C,u⟩ _ c (d.getD c 0) (e.getD c jd) _ _ f (d.getD f 0) (e.getD f jd) _ _ N g (n c (by rw [a];simp)) (o c (by rw [a];simp)) (n f (by rw [a];simp)) (o f (by rw [a];simp)) (m c (by rw [a];simp)) (by have:=l c (by rw [a];simp);omega) (m f (by rw [a];simp)) (by have:=l f (by rw [a];simp);omega) (eG A d k) _ (v _) (v _) w b3 p
   ·subst hxo
    obtain ⟨c,f,a⟩:=pz (show (A.getD k []).length=2 by rw [r];rfl)
    rw [a] at g
    have D:fU ck I e A q d k ⟨17,z,B,C,u⟩=3:=by
     unfold fU
     dsimp only
     rw [if_neg (by decide)]
     rw [if_neg (by decide)]
     rw [if_neg (by decide)]
     rw [if_neg (by decide)]
     rw [if_neg (by decide)]
     rw [if_neg (by decide)]
    rw [D]
    exact amz K e H A q G d E i k J s L M _ t ⟨17,z,B,C,u⟩ _ c (d.getD c 0) (e.getD c jd) _ _ f (d.getD f 0) (e.getD f jd) _ _ N g (n c (by rw [a];simp)) (o c (by rw [a];simp)) (n f (by rw [a];simp)) (o f (by rw [a];simp)) (m c (by rw [a];simp)) (by have:=l c (by rw [a];simp);omega) (m f (by rw [a];simp)) (by have:=l f (by rw [a];simp);omega) (eG A d k) _ (v _) (v _) w b3 p
   ·subst hxo
    obtain ⟨c,f,a⟩:=pz (show (A.getD k []).length=2 by rw [r];rfl)
    rw [a] at g
    have D:fU ck I e A q d k ⟨18,z,B,C,u⟩=3:=by
     unfold fU
     dsimp only
     rw [if_neg (by decide)]
     rw [if_neg (by decide)]
     rw [if_neg (by decide)]
     rw [if_neg (by decide)]
     rw [if_neg (by decide)]
     rw [if_neg (by decide)]
    rw [D]
    exact amA K e H A q G d E i k J s L M _ t ⟨18,z,B,C,u⟩ _ c (d.getD c 0) (e.getD c jd) _ _ f (d.getD f 0) (e.getD f jd) _ _ N g (n c (by rw [a];simp)) (o c (by rw [a];simp)) (n f (by rw [a];simp)) (o f (by rw [a];simp)) (m c (by rw [a];simp)) (by have:=l c (by rw [a];simp);omega) (m f (by rw [a];simp)) (by have:=l f (by rw [a];simp);omega) (eG A d k) _ (v _) (v _) w b3 p
   ·subst hxo
    obtain ⟨c,f,a⟩:=pz (show (A.getD k []).length=2 by rw [r];rfl)
    rw [a] at g
    have D:fU ck I e A q d k ⟨19,z,B,C,u⟩=3:=by
     unfold fU
     dsimp only
     rw [if_neg (by decide)]
     rw [if_neg (by decide)]
     rw [if_neg (by decide)]
     rw [if_neg (by decide)]
     rw [if_neg (by decide)]
     rw [if_neg (by decide)]
    rw [D]
    exact amB K e H A q G d E i k J s L M _ t ⟨19,z,B,C,u⟩ _ c (d.getD c 0) (e.getD c jd) _ _ f (d.getD f 0) (e.getD f jd) _ _ N g (n c (by rw [a];simp)) (o c (by rw [a];simp)) (n f (by rw [a];simp)) (o f (by rw [a];simp)) (m c (by rw [a];simp)) (by have:=l c (by rw [a];simp);omega) (m f (by rw [a];simp)) (by have:=l f (by rw [a];simp);omega) (eG A d k) _ (v _) (v _) w b3 p
   ·subst hxo
    obtain ⟨c,a⟩:=Cj (show (A.getD k []).length=1 by rw [r];rfl)
    rw [a] at g
    have D:fU ck I e A q d k ⟨20,z,B,C,u⟩=3:=by
     unfold fU
     dsimp only
     rw [if_neg (by decide)]
     rw [if_neg (by decide)]
     rw [if_neg (by decide)]
     rw [if_neg (by decide)]
     rw [if_neg (by decide)]
     rw [if_neg (by decide)]
    rw [D]
    exact amC K e H A q G d E i k J s L M _ t ⟨20,z,B,C,u⟩ _ c (d.getD c 0) (e.getD c jd) _ _ N g (n c (by rw [a];simp)) (o c (by rw [a];simp)) (m c (by rw [a];simp)) (by have:=l c (by rw [a];simp);omega) (eG A d k) _ (v _) (v _) w b3 p
   ·subst hxo
    obtain ⟨c,a⟩:=Cj (show (A.getD k []).length=1 by rw [r];rfl)
    rw [a] at g
    have D:fU ck I e A q d k ⟨21,z,B,C,u⟩=eG A d k:=by
     unfold fU
     dsimp only
     rw [if_pos (by decide)]
    rw [D]
    exact amD K e H A q G d E i k J s L M _ t ⟨21,z,B,C,u⟩ _ c (d.getD c 0) (e.getD c jd) _ _ N g (n c (by rw [a];simp)) (o c (by rw [a];simp)) (m c (by rw [a];simp)) (by have:=l c (by rw [a];simp);omega) (eG A d k) _ (v _) (v _) w b3 p
   ·subst hxo
    obtain ⟨c,a⟩:=Cj (show (A.getD k []).length=1 by rw [r];rfl)
    rw [a] at g
    have D:fU ck I e A q d k ⟨22,z,B,C,u⟩=eG A d k:=by
     unfold fU
     dsimp only
     rw [if_pos (by decide)]
    rw [D]
    exact amE K e H A q G d E i k J s L M _ t ⟨22,z,B,C,u⟩ _ c (d.getD c 0) (e.getD c jd) _ _ N g (n c (by rw [a];simp)) (o c (by rw [a];simp)) (m c (by rw [a];simp)) (by have:=l c (by rw [a];simp);omega) (eG A d k) _ (v _) (v _) w b3 p
   ·subst hxo
    obtain ⟨c,a⟩:=Cj (show (A.getD k []).length=1 by rw [r];rfl)
    rw [a] at g
    have D:fU ck I e A q d k ⟨23,z,B,C,u⟩=eG A d k:=by
     unfold fU
     dsimp only
     rw [if_pos (by decide)]
    rw [D]
    exact amF K e H A q G d E i k J s L M _ t ⟨23,z,B,C,u⟩ _ c (d.getD c 0) (e.getD c jd) _ _ N g (n c (by rw [a];simp)) (o c (by rw [a];simp)) (m c (by rw [a];simp)) (by have:=l c (by rw [a];simp);omega) (eG A d k) _ (v _) (v _) w b3 p
   ·subst hxo
    obtain ⟨c,a⟩:=Cj (show (A.getD k []).length=1 by rw [r];rfl)
    rw [a] at g
    have D:fU ck I e A q d k ⟨24,z,B,C,u⟩=cond ((yD ck I u q).getD false) (eG A d k) 3:=by
     unfold fU
     dsimp only
     rw [if_neg (by decide)]
     rw [if_neg (by decide)]
     rw [if_neg (by decide)]
     rw [if_neg (by decide)]
     rw [if_neg (by decide)]
     rw [if_pos (by decide)]
     unfold G8
     rw [show eX A d k 0=d.getD c 0 by unfold eX;rw [a];rfl,Eu]
     have T:eG A d k=d.getD c 0:=by unfold eG;rw [a];show eu 0 _=_;rfl
     rw [T]
     cases q.find? (fun x=>x.name==u) with
     |none=>rfl
     |some y=>show cond (ck y==0) (cond (I y) _ 3) 3=cond (ck y==0 && I y) _ 3;cases (ck y==0)<;>rfl
    rw [D]
    exact amG K e H A q G d E i k J s L M _ t ⟨24,z,B,C,u⟩ _ c (d.getD c 0) (e.getD c jd) _ _ N g (n c (by rw [a];simp)) (o c (by rw [a];simp)) (m c (by rw [a];simp)) (by have:=l c (by rw [a];simp);omega) (eG A d k) _ (v _) (v _) w b3 p
theorem FU {S:aX}:∀ (A:List (List Nat)) {vs:List Value},dL S (iR A) vs→dL S (bC A) vs
 | [],[],_=>by simp only [bC,List.map_nil,dL]
 | [],_::_,h=>by simp [iR,dL] at h
 |a::r,[],h=>by simp [iR,dL] at h
 | a::r,v::vs,h=>by
  simp only [iR,List.map_cons,dL] at h
  simp only [bC,List.map_cons,dL]
  refine ⟨?_,FU r h.2⟩
  have d:=h.1
  cases a with
  |nil=>simp only [JE,PR] at d;subst d;simp only [yR,PR];exact ⟨none,0,rfl,Nat.le_refl _,.inl (by simp [aj])⟩
  |cons b l=>
   simp only [JE,PR] at d
   obtain ⟨p,f,e,g,c⟩:=d
   simp only [yR,PR]
   refine ⟨p,f,e,g,.inr ?_⟩
   rcases c with ⟨_,c,_⟩|c
   ·cases c
   ·exact c
theorem wO (A:List (List Nat)):aT (.sl (iR A) A.length true) (.sl (bC A) A.length true):=by
 intro g m S v f
 simp only [VR,PR] at f ⊢
 obtain ⟨p,a,e,h,c⟩:=f
 refine ⟨p,a,e,h, ?_⟩
 rcases c with ⟨_,c,_⟩|⟨b,d,vs,k,j,i⟩
 ·cases c
 ·exact .inr ⟨b,d,vs,k,FU A j,i⟩
theorem G7 (l:List Nd) (b:Bool) (a:∀ x ∈ l,x.sm) (c:dH l=0):CO 40 [.sl (aH l) l.length b] (.ret (.tup [.sl (iR (bQ l)) (bQ l).length true,.bool true])):=by
 rw [(ni c).1];exact Vs l b a c
theorem ac6 (e:List Nd) (b:Bool) (A:List (List Nat)) (c:List Sc) (g:Bool) (h:List Nat) (f:Int) (a:List UInt8) (d:CO 40 [.sl (aH e) e.length b] (.ret (.tup [.nilS,.bool false]))):CO 15 [.sl (aH e) e.length b,.sl (bZ c) c.length g,.int .i64 f,.str a] (.ret (.int .i64 ((3:Nat):Int))):=pK [] 3 7 (.n 3 .nil) (.c d .nil)
theorem Za (e:List Nd) (d:Bool) (A:List (List Nat)) (f:List Sc) (h:Bool) (j:List Nat) (b:Int) (a:List UInt8) (c:CO 40 [.sl (aH e) e.length d] (.ret (.tup [.sl (iR A) A.length true,.bool true]))) (i:b<5∨8<b):CO 15 [.sl (aH e) e.length d,.sl (bZ f) f.length h,.int .i64 b,.str a] (.ret (.int .i64 ((3:Nat):Int))):=by
 rcases tf (decide (b<((5:Nat):Int))) with b0|b0
 ·exact pK [] 3 6 (.k 1 (aC b0) (.n 1 .nil)) (.v 21 (wO A) (.c c .nil))
 ·have g:(decide (((8:Nat):Int)<b))=true:=decide_eq_true (by have:=of_decide_eq_false b0;omega)
  exact pK [] 3 4 (.c (aC g) (.c (aB b0) (.n 1 .nil))) (.v 21 (wO A) (.c c .nil))
theorem ac7 (e:List Nd) (g:Bool) (A:List (List Nat)) (h:List Sc) (k:Bool) (d:List Nat) (c:Int) (a:List UInt8) (f s:Nat) (o:List AV) (l:CO 40 [.sl (aH e) e.length g] (.ret (.tup [.sl (iR A) A.length true,.bool true]))) (m:(decide (c<((5:Nat):Int)))=false) (n:(decide (((8:Nat):Int)<c))=false) (j:e.length=f+1) (b:e.length<2^40) (i:f<d.length) (hs:(List.drop ((0+(Int.toNat (f:Int)))*1) (aj d))= [AV.int .i64 (s:Int)]++o)
  (m0:Nat) (Z:List AV) (hm0:m0=Int.toNat (e.length:Int)) (hZ:Z=iV (Int.toNat (e.length:Int)) [.int .i64 0])
  (l0:aI prog ap [] 282 (.block 0 (.loop (ae 0 (af f15)))) ⟨[(0,.sl (aH e) e.length g),(1,.sl (bZ h) h.length k),(2,.int .i64 c),(3,.str a),(8,.int .i64 0),(9,.sl (bC A) A.length true),(10,.bool true),(11,.ref 0 0 0 m0),(12,.int .i64 0),(13,.dead),(14,.dead),(15,.dead),(16,.dead),(17,.dead),(32,.bool (decide (((8:Nat):Int)<c))),(39,.dead),(55,.dead),(65,.dead),(81,.dead),(111,.dead),(118,.dead),(147,.dead),(176,.dead),(216,.dead),(245,.dead),(271,.dead)],[(0,⟨Z,0,false,0,1,true⟩)],.dead,[]⟩ (.normal) ⟨[(0,.sl (aH e) e.length g),(11,.ref 0 0 0 d.length)],[(0,⟨(aj d),0,false,0,1,true⟩)],.dead,[]⟩):CO 15 [.sl (aH e) e.length g,.sl (bZ h) h.length k,.int .i64 c,.str a] (.ret (.int .i64 (s:Int))):=by
 subst hm0 hZ
 exact pK [0] 3 0 (.a (g_ [.int .i64] hs rfl) (.c (aQ f) (.c (bK i) (.c (aQ e.length) (.c (deq e.length) (.c (dle b) (.c (aB n) (.c (aB m) (.n 1 .nil))))))))) (.v 281 (.rd1 (.int .i64) hs rfl) (.v 279 (.eq (wkn j b)) (.l l0 (.v 21 (wO A) (.c l .nil)))))
theorem Rx {ck:Sc→Int} {m:Sc→Bool} {e:List Nd} {o:List Sc} {b:Int} {a:List UInt8} {d:List Nat} {k:Nat} {x:Nd} (j:dH e=0) (n:e[k]? =some x) (p:5≤b∧b≤8) (c:fF x.op=true):yJ ck m e (bQ e) o b a d k x=0:=by
 have l:x.op=1∨x.op=2∨x.op=3:=by
  unfold fF at c
  simp only [Bool.or_eq_true,beq_iff_eq] at c
  exact c
 have i:eG (bQ e) d k=0:=by
  have g:=((ni j).2 k x n).1
  have f:(bQ e).getD k []= []:=List.length_eq_zero_iff.1 (by rw [g];rcases l with h|h|h<;>rw [h]<;>rfl)
  unfold eG;rw [f];rfl
 unfold yJ
 rw [show (x.op==b)=false from beq_eq_false_iff_ne.2 (by omega),i]
 rfl
theorem Y8 {nt:Nat} (u:282≤nt) (e:List Nd) (g:Bool) (d:List Sc) (n:Bool) (ck:Sc→Int) (k:Sc→Bool) (f:Int) (a:List UInt8) (o:∀ y ∈ e,y.sm) (w:dH e=0) (C:5≤f∧f≤8) (t:e.length<2^40) (q:d.length<2^40) (B:∀ x ∈ d,CO 71 [.agg (xw x)] (.ret (.int .i64 (ck x)))∧(ck x=0→CO 72 [.agg (xw x)] (.ret (.bool (k x))))):∀ (r p:List Nd) (b:List Nat),p++r=e→b.length=e.length→(∀ j,p.length≤j→b.getD j 0=0)→(∀ j,j<p.length→fF (e.getD j jd).op=true→b.getD j 0=0)→
  aF prog ap [] nt (ae 0 (af f15)) (fun _=> .exit 0) (eP e g (bQ e) d n f a) (VM e g) (p.length,b) (sQ ck k e (bQ e) d f a r p.length b):=by
 intro r
 induction r with
 |nil=>
  intro p b hp i _ _
  rw [List.append_nil] at hp
  rw [hp]
  exact .done (ac2 u e g (bQ e) d n b f a)
 | cons x r ih=>
  intro p b hp i v c
  have s:e[p.length]? =some x:=by rw [← hp];simp
  have A:e.getD p.length jd=x:=by rw [List.getD_eq_getElem?_getD,s];rfl
  have z:p.length<b.length:=by rw [i,← hp];simp
  have h:=ih (p++ [x]) (b.set p.length (yJ ck k e (bQ e) d f a b p.length x)) (by rw [← hp];simp) (by rw [List.length_set];exact i)
   (by intro j m;rw [List.length_append,List.length_singleton] at m;rw [uh (by omega)];exact v j (by omega))
   (by
    intro j m l
    rw [List.length_append,List.length_singleton] at m
    by_cases e1:j=p.length
    ·subst e1
     rw [A] at l
     rw [qX (by rw [List.length_set];exact z),List.getElem_set_self,Rx w s C l]
    ·rw [uh e1];exact c j (by omega) l)
  rw [List.length_append,List.length_singleton] at h
  exact .next (Y9 u e g d n b ck k f a p.length x o w s t i q (v _ (Nat.le_refl _)) c B) h
theorem Rl (e:List Nd) (d:Bool) (b:List Sc) (i:Bool) (ck:Sc→Int) (k:Sc→Bool) (c:Int) (a:List UInt8) (f:∀ y ∈ e,y.sm) (m:e.length<2^40) (q:b.length<2^40) (v:∀ x ∈ b,CO 71 [.agg (xw x)] (.ret (.int .i64 (ck x)))∧(ck x=0→CO 72 [.agg (xw x)] (.ret (.bool (k x))))) (n:dH e ≠ 0→CO 40 [.sl (aH e) e.length d] (.ret (.tup [.nilS,.bool false]))):
  CO 15 [.sl (aH e) e.length d,.sl (bZ b) b.length i,.int .i64 c,.str a] (.ret (.int .i64 ((jF ck k e b c a:Nat):Int))):=by
 unfold jF
 by_cases hq:dH e=0
 ·by_cases ho:5≤c∧c≤8
  ·rw [if_pos ⟨hq,ho⟩]
   have h0:e ≠ []:=by intro h;rw [h] at hq;exact absurd hq (by decide)
   obtain ⟨g,p⟩:∃ g,e.length=g+1:=⟨e.length - 1,by have:=List.length_pos_iff.2 h0;omega⟩
   have r:(sQ ck k e (bQ e) b c a e 0 (List.replicate e.length 0)).length=e.length:=by rw [zF,List.length_replicate]
   have o:∀ j,(List.replicate e.length 0).getD j 0=0:=by intro j;rw [List.getD_eq_getElem?_getD,List.getElem?_replicate];split<;>rfl
   have h:∀ nt,282≤nt→aF prog ap [] nt (ae 0 (af f15)) (fun _=> .exit 0) (eP e d (bQ e) b i c a) (VM e d) (0,List.replicate e.length 0) (sQ ck k e (bQ e) b c a e 0 (List.replicate e.length 0)):=fun nt s=>Y8 s e d b i ck k c a f hq ho m q v e [] _ rfl (List.length_replicate ..) (fun j _=>o j) (fun j u=>by simp at u)
   generalize sQ ck k e (bQ e) b c a e 0 (List.replicate e.length 0)=ss at*
   rw [show e.length - 1=g by omega]
   have l:g<ss.length:=by omega
   refine ac7 e d (bQ e) b i ss c a g (ss.getD g 0) _ (G7 e d f hq) (decide_eq_false (by omega)) (decide_eq_false (by omega)) p m l (by rw [Nat.zero_add];exact kG l) (List.replicate e.length 0).length (aj (List.replicate e.length 0)) (by rw [List.length_replicate,aA]) (by rw [aA,BA]) ?_
   have t:(decide (((8:Nat):Int)<c))=false:=decide_eq_false (by omega)
   rw [t]
   exact aF.blk h (by simp) rfl (aK.of ⟨rfl,rfl,rfl,rfl,rfl,rfl,rfl,trivial⟩) (aK.of ⟨rfl,rfl,trivial⟩)
  ·rw [if_neg (fun h=>ho h.2)]
   exact Za e d (bQ e) b i [] c a (G7 e d f hq) (by omega)
 ·rw [if_neg (fun h=>hq h.1)]
  exact ac6 e d [] b i [] c a (n hq)
structure Br where
 fn:Bool
 fa:List UInt8
 fd:List UInt8
 rn:Bool
 ra:List UInt8
 rd:List UInt8
def F8 (x:Br):List AV:= [.bool x.fn,.str x.fa,.str x.fd,.bool x.rn,.str x.ra,.str x.rd]
def eH (l:List Br):List AV:=l.flatMap F8
def Br.sm (x:Br):Prop:=(x.fa.length<2^33∧x.fd.length<2^33)∧(x.ra.length<2^33∧x.rd.length<2^33)
abbrev MB (x:Br):AV:= .agg [.bool x.fn,.str x.fa,.str x.fd]
abbrev brR (x:Br):AV:= .agg [.bool x.rn,.str x.ra,.str x.rd]
theorem kU {l:List Br} {k:Nat} (h:k<l.length):List.drop (Int.toNat (k:Int)*6) (eH l)=F8 l[k]++eH (l.drop (k+1)):=by
 rw [aA]
 induction l generalizing k with
 |nil=>simp at h
 | cons x r ih=>
  cases k with
  |zero=>simp [eH]
  |succ k=>
   have a:k<r.length:=by simpa using h
   show List.drop ((k+1)*6) (F8 x++eH r)=_
   rw [show (k+1)*6=(F8 x).length+k*6 by simp [F8];omega,List.drop_append,Nat.add_sub_cancel_left,ih a,List.drop_of_length_le (by omega)]
   rfl
def F6 (cmp:Br→Br→Int):Option Br→List Br→Bool
 |_,[]=>true
 |none,x::r=>cond (jq x.fn x.fa x.fd) (cond (jq x.rn x.ra x.rd) (cond (fZ x.fn x.fa x.fd==((0:Nat):Int)) (F6 cmp (some x) r) false) false) false
 |some y,x::r=>cond (jq x.fn x.fa x.fd) (cond (jq x.rn x.ra x.rd) (cond (decide (((0:Nat):Int)≤cmp y x)) false (F6 cmp (some x) r)) false) false
def aez (nm:List UInt8) (u1 u2:Int) (l:List Br) (k:Nat):St:=⟨[(1,.ptr 0 0 0),(3,.sl (eH l) l.length false),(16,.sl (eH l) l.length false),(17,.int .i64 (l.length:Int)),(18,.int .i64 (k:Int))],[(0,⟨[.str nm,.int .i64 u1,.int .i64 u2,.sl (eH l) l.length false],0,false,0,0,true⟩)],.dead,[]⟩
def Z7 (l:List Br):Bool→St
 |true=> ⟨[(3,.sl (eH l) l.length false)],[],.dead,[]⟩
 |false=> ⟨[(2,.int .i64 11)],[],.dead,[]⟩
def bkE:Bool→bM
 |true=> .exit 1
 |false=> .ret
def sD (f:Nat) (cmp:Br→Br→Int) (l:List Br):Prop:=∀ i y x,l[i]? =some y→l[i+1]? =some x→jq x.fn x.fa x.fd=true→jq x.rn x.ra x.rd=true→CO f [MB y,MB x] (.ret (.int .i64 (cmp y x)))
theorem Xk {nt:Nat} (e:60≤nt) (F:List UInt8) (u1 u2:Int) (l:List Br) (cmp:Br→Br→Int) (C:l.length<2^40) (z:∀ x ∈ l,x.sm) (G:sD 129 cmp l):∀ (r p:List Br),p++r=l→
  aF prog ap [] nt (ae 1 (af f102)) bkE (aez F u1 u2 l) (Z7 l) p.length (F6 cmp p.getLast? r):=by
 intro r
 induction r with
 |nil=>
  intro p hp
  rw [List.append_nil] at hp
  subst hp
  have h0:(decide ((p.length:Int)<(p.length:Int)))=false:=decide_eq_false (by omega)
  rw [show F6 cmp p.getLast? []=true by cases p.getLast? <;>rfl]
  exact .done (pN 102 [] 1 0 (.c (aB h0) .nil) (.nil) e)
 | cons x r ih=>
  intro p hp
  have D:p.length<l.length:=by rw [← hp];simp
  have j:l[p.length]=x:=by subst hp;simp
  have d:=kU D
  rw [j] at d
  have f:=ih (p++ [x]) (by rw [← hp];simp)
  rw [List.getLast?_append,List.getLast?_singleton,List.length_append,List.length_singleton] at f
  simp only [Option.some_or] at f
  have hs:=z x (by rw [← hp];simp)
  have a:CO 115 [MB x] (.ret (.bool (jq x.fn x.fa x.fd))):=dI x.fn x.fa x.fd (Nat.lt_trans hs.1.1 (by decide)) (Nat.lt_trans hs.1.2 (by decide))
  have c:CO 115 [brR x] (.ret (.bool (jq x.rn x.ra x.rd))):=dI x.rn x.ra x.rd (Nat.lt_trans hs.2.1 (by decide)) (Nat.lt_trans hs.2.2 (by decide))
  have E:CO 85 [MB x] (.ret (.int .i64 (fZ x.fn x.fa x.fd))):=fG x.fn x.fa x.fd (Nat.lt_trans hs.1.1 (by decide)) (Nat.lt_trans hs.1.2 (by decide))
  cases i:p.getLast? with
  | none=>
   have u:p= []:=List.getLast?_eq_none_iff.1 i
   subst u
   generalize H:([]:List Br).length=k at*
   have v:k=0:=by rw [← H];rfl
   generalize eH (l.drop (k+1))=rB at d
   have h0:(decide ((k:Int)<(l.length:Int)))=true:=decide_eq_true (by omega)
   have n:((k:Int)==((0:Nat):Int))=true:=by rw [v];rfl
   have t:(decide (((0:Nat):Int)<(k:Int)))=false:=decide_eq_false (by omega)
   have A:k<2^62:=by omega
   rcases tf (jq x.fn x.fa x.fd) with d0|d0
   ·rcases tf (jq x.rn x.ra x.rd) with d1|d1
    ·rcases tf ((fZ x.fn x.fa x.fd)==((0:Nat):Int)) with d2|d2
     ·simp only [F6,d0,d1,d2,cond_true,cond_false]
      exact .next (pN 102 [] 7 9 (.k 1 (aB t) (.c (aS d2) (.k 3 (aC n) (.c (aS d1) (.k 3 (aS d0) (.k 10 (aQ k) (.c h0 (.c (aC h0) .nil)))))))) (.v 57 (.eq (ja A)) (.c E (.c c (.c a (.v 21 (.ppt d) .nil))))) e) f
     ·simp only [F6,d0,d1,d2,cond_true,cond_false]
      exact .done (pN 102 [] 6 57 (.k 1 (dK d2) (.k 3 (aC n) (.c (aS d1) (.k 3 (aS d0) (.k 10 (aQ k) (.c h0 (.c (aC h0) .nil))))))) (.c E (.c c (.c a (.v 21 (.ppt d) .nil)))) e)
    ·simp only [F6,d0,d1,cond_true,cond_false]
     exact .done (pN 102 [] 3 5 (.c (dK d1) (.k 3 (aS d0) (.k 10 (aQ k) (.c h0 (.c (aC h0) .nil))))) (.c c (.c a (.v 21 (.ppt d) .nil))) e)
   ·simp only [F6,d0,cond_true,cond_false]
    exact .done (pN 102 [] 3 7 (.k 1 (dK d0) (.k 10 (aQ k) (.c h0 (.c (aC h0) .nil)))) (.c a (.v 21 (.ppt d) .nil)) e)
  | some y=>
   obtain ⟨q,w⟩:∃ q,p=q++ [y]:=by
    obtain ⟨q,h⟩:=List.getLast?_eq_some_iff.1 i
    exact ⟨q,h⟩
   have g:p.length=q.length+1:=by rw [w];simp
   have b:q.length<l.length:=by omega
   have s:=kU b
   have m:l[q.length]=y:=by subst hp w;simp
   rw [m] at s
   have B:=G q.length y x (by rw [List.getElem?_eq_getElem b,m]) (by rw [← g,List.getElem?_eq_getElem D,j])
   clear w
   generalize p.length=k at*
   generalize q.length=k1 at*
   generalize eH (l.drop (k+1))=rB at d
   generalize eH (l.drop (k1+1))=rC at s
   have h0:(decide ((k:Int)<(l.length:Int)))=true:=decide_eq_true (by omega)
   have n:((k:Int)==((0:Nat):Int))=false:=beq_eq_false_iff_ne.2 (by omega)
   have t:(decide (((0:Nat):Int)<(k:Int)))=true:=decide_eq_true (by omega)
   have A:k<2^62:=by omega
   have o:k<2^40:=by omega
   rcases tf (jq x.fn x.fa x.fd) with d0|d0
   ·rcases tf (jq x.rn x.ra x.rd) with d1|d1
    ·rcases tf (decide (((0:Nat):Int)≤(cmp y x))) with d2|d2
     ·simp only [F6,d0,d1,d2,cond_true,cond_false]
      exact .done (pN 102 [] 7 97 (.c (aC d2) (.k 6 (aQ k1) (.c (bK b) (.c (aC t) (.k 1 (aB n) (.c (aS d1) (.k 3 (aS d0) (.k 10 (aQ k) (.c h0 (.c (aC h0) .nil)))))))))) (.c (B d0 d1) (.v 48 (.ppt s) (.v 47 (.eq (wkn g o)) (.c c (.c a (.v 21 (.ppt d) .nil)))))) e)
     ·simp only [F6,d0,d1,d2,cond_true,cond_false]
      exact .next (pN 102 [] 7 33 (.c (aB d2) (.k 6 (aQ k1) (.c (bK b) (.c (aC t) (.k 1 (aB n) (.c (aS d1) (.k 3 (aS d0) (.k 10 (aQ k) (.c h0 (.c (aC h0) .nil)))))))))) (.v 57 (.eq (ja A)) (.c (B d0 d1) (.v 48 (.ppt s) (.v 47 (.eq (wkn g o)) (.c c (.c a (.v 21 (.ppt d) .nil))))))) e) f
    ·simp only [F6,d0,d1,cond_true,cond_false]
     exact .done (pN 102 [] 3 5 (.c (dK d1) (.k 3 (aS d0) (.k 10 (aQ k) (.c h0 (.c (aC h0) .nil))))) (.c c (.c a (.v 21 (.ppt d) .nil))) e)
   ·simp only [F6,d0,cond_true,cond_false]
    exact .done (pN 102 [] 3 7 (.k 1 (dK d0) (.k 10 (aQ k) (.c h0 (.c (aC h0) .nil)))) (.c a (.v 21 (.ppt d) .nil)) e)
def wV (P:Br→Bool):List Br→Nat→Option Nat
 | [],_=>none
 |x::r,i=>if P x then some i else wV P r (i+1)
theorem Dq (P:Br→Bool):∀ (r:List Br) (i:Nat),(wV P r i).isSome=r.any P
 | [],_=>rfl
 |x::r,i=>by
  unfold wV
  rw [List.any_cons]
  rcases tf (P x) with h|h
  ·rw [if_pos h,h];rfl
  ·rw [if_neg (by rw [h];decide),h,Bool.false_or];exact Dq P r (i+1)
def aam (l:List Br) (k:Nat):St:=⟨[(0,.sl (eH l) l.length false),(1,.fn 131 [] []),(7,.int .i64 (l.length:Int)),(8,.int .i64 (k:Int))],[],.dead,[]⟩
def Uw (l:List Br):Option Nat→St
 |none=> ⟨[(0,.sl (eH l) l.length false)],[],.dead,[]⟩
 |some i=> ⟨[(4,.int .i64 (i:Int))],[],.dead,[]⟩
theorem Uy {nt:Nat} (d:19≤nt) (l:List Br) (P:Br→Bool) (f:l.length<2^40) (g:∀ x ∈ l,CO 131 [.agg (F8 x)] (.ret (.bool (P x)))):∀ (r p:List Br),p++r=l→
  aF prog ap [] nt (ae 0 (af f159)) SQ (aam l) (Uw l) p.length (wV P r p.length):=by
 intro r
 induction r with
 |nil=>
  intro p hp
  rw [List.append_nil] at hp
  subst hp
  have h0:(decide ((p.length:Int)<(p.length:Int)))=false:=decide_eq_false (by omega)
  exact .done (pN 159 [] 1 0 (.c (aB h0) .nil) (.nil) d)
 | cons x r ih=>
  intro p hp
  have h:p.length<l.length:=by rw [← hp];simp
  have c:l[p.length]=x:=by subst hp;simp
  have b:=kU h
  rw [c] at b
  have a:=ih (p++ [x]) (by rw [← hp];simp)
  rw [List.length_append,List.length_singleton] at a
  have e:=g x (by rw [← hp];simp)
  unfold wV
  generalize p.length=k at*
  generalize eH (l.drop (k+1))=rB at b
  have h0:(decide ((k:Int)<(l.length:Int)))=true:=decide_eq_true (by omega)
  have i:k<2^62:=by omega
  rcases tf (P x) with d0|d0
  ·rw [if_pos d0]
   exact .done (pN 159 [] 2 3 (.c (aC d0) (.k 6 (aQ k) (.c h0 (.c (aC h0) .nil)))) (.c e (.v 14 (.ppt b) .nil)) d)
  ·rw [if_neg (by rw [d0];decide)]
   exact .next (pN 159 [] 2 1 (.c (aB d0) (.k 6 (aQ k) (.c h0 (.c (aC h0) .nil)))) (.v 18 (.eq (ja i)) (.c e (.v 14 (.ppt b) .nil))) d) a
theorem abJ (l:List Br) (i:Nat) (a:aI prog ap [] 19 (.block 0 (.loop (ae 0 (af f159)))) ⟨[(0,.sl (eH l) l.length false),(1,.fn 131 [] []),(4,.int .i64 0),(5,.dead),(7,.int .i64 (l.length:Int)),(8,.int .i64 0),(9,.dead),(16,.dead)],[],.dead,[]⟩ (.ret) ⟨[(4,.int .i64 (i:Int))],[],.dead,[]⟩):CO 159 [.sl (eH l) l.length false,.fn 131 [] []] (.ret (.int .i64 (i:Int))):=pK [0] 0 0 .nil (.l a .nil)
theorem abH (l:List Br) (a:aI prog ap [] 19 (.block 0 (.loop (ae 0 (af f159)))) ⟨[(0,.sl (eH l) l.length false),(1,.fn 131 [] []),(4,.int .i64 0),(5,.dead),(7,.int .i64 (l.length:Int)),(8,.int .i64 0),(9,.dead),(16,.dead)],[],.dead,[]⟩ (.normal) ⟨[(0,.sl (eH l) l.length false)],[],.dead,[]⟩):CO 159 [.sl (eH l) l.length false,.fn 131 [] []] (.ret (.int .i64 (-1))):=pK [0] 0 0 .nil (.l a .nil)
theorem abE (l:List Br) (P:Br→Bool) (a:l.length<2^40) (c:∀ x ∈ l,CO 131 [.agg (F8 x)] (.ret (.bool (P x)))):CO 159 [.sl (eH l) l.length false,.fn 131 [] []] (.ret (.int .i64 (ixI (wV P l 0)))):=by
 have h:∀ nt,19≤nt→aF prog ap [] nt (ae 0 (af f159)) SQ (aam l) (Uw l) 0 (wV P l 0):=fun nt d=>Uy d l P a c l [] rfl
 cases b:wV P l 0 with
 |none=>
  rw [b] at h
  exact abH l (aF.blk h (by simp [SQ]) rfl (aK.of ⟨rfl,rfl,rfl,rfl,trivial⟩) (aK.of ⟨rfl,trivial⟩))
 |some i=>
  rw [b] at h
  exact abJ l i (aF.blk h (by simp [SQ]) rfl (aK.of ⟨rfl,rfl,rfl,rfl,trivial⟩) (aK.of ⟨rfl,trivial⟩))
theorem Xq (l:List Br) (a:Int) (b:CO 159 [.sl (eH l) l.length false,.fn 131 [] []] (.ret (.int .i64 a))):CO 130 [.sl (eH l) l.length false,.fn 131 [] []] (.ret (.bool (decide (((0:Nat):Int)≤a)))):=pK [] 0 0 .nil (.c b .nil)
theorem TU (l:List Br) (P:Br→Bool) (a:l.length<2^40) (c:∀ x ∈ l,CO 131 [.agg (F8 x)] (.ret (.bool (P x)))):CO 130 [.sl (eH l) l.length false,.fn 131 [] []] (.ret (.bool (l.any P))):=by
 have h:=Xq l _ (abE l P a c)
 rw [← Dq P l 0]
 cases b:wV P l 0 with
 |none=>rw [b] at h;exact h
 |some i=>
  rw [b] at h
  rw [show (some i).isSome=decide (((0:Nat):Int)≤ixI (some i)) from (decide_eq_true (show ((0:Nat):Int)≤(i:Int) by omega)).symm]
  exact h
def aan (l:List Br) (k:Nat):St:=⟨[(0,.sl (eH l) l.length false),(1,.fn 160 [] []),(7,.int .i64 (l.length:Int)),(8,.int .i64 (k:Int))],[],.dead,[]⟩
def Ux (l:List Br):Option Nat→St
 |none=> ⟨[(0,.sl (eH l) l.length false)],[],.dead,[]⟩
 |some i=> ⟨[(4,.int .i64 (i:Int))],[],.dead,[]⟩
theorem Uz {nt:Nat} (d:19≤nt) (l:List Br) (P:Br→Bool) (f:l.length<2^40) (g:∀ x ∈ l,CO 160 [.agg (F8 x)] (.ret (.bool (P x)))):∀ (r p:List Br),p++r=l→
  aF prog ap [] nt (ae 0 (af f159)) SQ (aan l) (Ux l) p.length (wV P r p.length):=by
 intro r
 induction r with
 |nil=>
  intro p hp
  rw [List.append_nil] at hp
  subst hp
  have h0:(decide ((p.length:Int)<(p.length:Int)))=false:=decide_eq_false (by omega)
  exact .done (pN 159 [] 1 0 (.c (aB h0) .nil) (.nil) d)
 | cons x r ih=>
  intro p hp
  have h:p.length<l.length:=by rw [← hp];simp
  have c:l[p.length]=x:=by subst hp;simp
  have b:=kU h
  rw [c] at b
  have a:=ih (p++ [x]) (by rw [← hp];simp)
  rw [List.length_append,List.length_singleton] at a
  have e:=g x (by rw [← hp];simp)
  unfold wV
  generalize p.length=k at*
  generalize eH (l.drop (k+1))=rB at b
  have h0:(decide ((k:Int)<(l.length:Int)))=true:=decide_eq_true (by omega)
  have i:k<2^62:=by omega
  rcases tf (P x) with d0|d0
  ·rw [if_pos d0]
   exact .done (pN 159 [] 2 3 (.c (aC d0) (.k 6 (aQ k) (.c h0 (.c (aC h0) .nil)))) (.c e (.v 14 (.ppt b) .nil)) d)
  ·rw [if_neg (by rw [d0];decide)]
   exact .next (pN 159 [] 2 1 (.c (aB d0) (.k 6 (aQ k) (.c h0 (.c (aC h0) .nil)))) (.v 18 (.eq (ja i)) (.c e (.v 14 (.ppt b) .nil))) d) a
theorem abK (l:List Br) (i:Nat) (a:aI prog ap [] 19 (.block 0 (.loop (ae 0 (af f159)))) ⟨[(0,.sl (eH l) l.length false),(1,.fn 160 [] []),(4,.int .i64 0),(5,.dead),(7,.int .i64 (l.length:Int)),(8,.int .i64 0),(9,.dead),(16,.dead)],[],.dead,[]⟩ (.ret) ⟨[(4,.int .i64 (i:Int))],[],.dead,[]⟩):CO 159 [.sl (eH l) l.length false,.fn 160 [] []] (.ret (.int .i64 (i:Int))):=pK [0] 0 0 .nil (.l a .nil)
theorem abI (l:List Br) (a:aI prog ap [] 19 (.block 0 (.loop (ae 0 (af f159)))) ⟨[(0,.sl (eH l) l.length false),(1,.fn 160 [] []),(4,.int .i64 0),(5,.dead),(7,.int .i64 (l.length:Int)),(8,.int .i64 0),(9,.dead),(16,.dead)],[],.dead,[]⟩ (.normal) ⟨[(0,.sl (eH l) l.length false)],[],.dead,[]⟩):CO 159 [.sl (eH l) l.length false,.fn 160 [] []] (.ret (.int .i64 (-1))):=pK [0] 0 0 .nil (.l a .nil)
theorem abG (l:List Br) (P:Br→Bool) (a:l.length<2^40) (c:∀ x ∈ l,CO 160 [.agg (F8 x)] (.ret (.bool (P x)))):CO 159 [.sl (eH l) l.length false,.fn 160 [] []] (.ret (.int .i64 (ixI (wV P l 0)))):=by
 have h:∀ nt,19≤nt→aF prog ap [] nt (ae 0 (af f159)) SQ (aan l) (Ux l) 0 (wV P l 0):=fun nt d=>Uz d l P a c l [] rfl
 cases b:wV P l 0 with
 |none=>
  rw [b] at h
  exact abI l (aF.blk h (by simp [SQ]) rfl (aK.of ⟨rfl,rfl,rfl,rfl,trivial⟩) (aK.of ⟨rfl,trivial⟩))
 |some i=>
  rw [b] at h
  exact abK l i (aF.blk h (by simp [SQ]) rfl (aK.of ⟨rfl,rfl,rfl,rfl,trivial⟩) (aK.of ⟨rfl,trivial⟩))
theorem Xr (l:List Br) (a:Int) (b:CO 159 [.sl (eH l) l.length false,.fn 160 [] []] (.ret (.int .i64 a))):CO 130 [.sl (eH l) l.length false,.fn 160 [] []] (.ret (.bool (decide (((0:Nat):Int)≤a)))):=pK [] 0 0 .nil (.c b .nil)
theorem TV (l:List Br) (P:Br→Bool) (a:l.length<2^40) (c:∀ x ∈ l,CO 160 [.agg (F8 x)] (.ret (.bool (P x)))):CO 130 [.sl (eH l) l.length false,.fn 160 [] []] (.ret (.bool (l.any P))):=by
 have h:=Xr l _ (abG l P a c)
 rw [← Dq P l 0]
 cases b:wV P l 0 with
 |none=>rw [b] at h;exact h
 |some i=>
  rw [b] at h
  rw [show (some i).isSome=decide (((0:Nat):Int)≤ixI (some i)) from (decide_eq_true (show ((0:Nat):Int)≤(i:Int) by omega)).symm]
  exact h
def Ic (x:Br):Bool:= !(iY x.fn x.fa x.fd)|| !(iY x.rn x.ra x.rd)
def sK (x:Br):Bool:=decide (fZ x.rn x.ra x.rd<((0:Nat):Int))
theorem aa4 (x:Br) (hs:x.sm):CO 131 [.agg (F8 x)] (.ret (.bool (Ic x))):=by
 rcases tf (iY x.fn x.fa x.fd) with b0|b0
 ·rw [show Ic x= !(iY x.rn x.ra x.rd) by unfold Ic;rw [b0];rfl]
  exact pK [] 1 0 (.k 3 (aS b0) (.n 3 .nil)) (.c (jb x.rn x.ra x.rd (Nat.lt_trans hs.2.1 (by decide)) (Nat.lt_trans hs.2.2 (by decide))) (.c (jb x.fn x.fa x.fd (Nat.lt_trans hs.1.1 (by decide)) (Nat.lt_trans hs.1.2 (by decide))) .nil))
 ·rw [show Ic x=true by unfold Ic;rw [b0];rfl]
  exact pK [] 1 1 (.c (dK b0) (.n 3 .nil)) (.c (jb x.fn x.fa x.fd (Nat.lt_trans hs.1.1 (by decide)) (Nat.lt_trans hs.1.2 (by decide))) .nil)
theorem XM (x:Br) (hs:x.sm):CO 160 [.agg (F8 x)] (.ret (.bool (sK x))):=pK [] 0 0 (.n 3 .nil) (.c (fG x.rn x.ra x.rd (Nat.lt_trans hs.2.1 (by decide)) (Nat.lt_trans hs.2.2 (by decide))) .nil)
def Z9 (cmp:Br→Br→Int) (l:List Br):Int:=cond (decide (((8:Nat):Int)<(l.length:Int))) 2 (cond ((l.length:Int)==((0:Nat):Int)) 11 (cond (F6 cmp none l) (cond (l.any Ic) 3 0) 11))
theorem aoy (b:List UInt8) (u1 u2:Int) (l:List Br) (a:Bool) (d:(decide (((8:Nat):Int)<(l.length:Int)))=false) (c:((l.length:Int)==((0:Nat):Int))=false) (e:CO 130 [.sl (eH l) l.length false,.fn 131 [] []] (.ret (.bool a)))
  (l0:aI prog ap [] 60 (.block 1 (.loop (ae 1 (af f102)))) ⟨[(0,.agg [.str b,.int .i64 u1,.int .i64 u2,.sl (eH l) l.length false]),(1,.ptr 0 0 0),(2,.int .i64 0),(3,.sl (eH l) l.length false),(4,.dead),(5,.dead),(8,.bool (decide (((8:Nat):Int)<(l.length:Int)))),(12,.bool ((l.length:Int)==((0:Nat):Int))),(16,.sl (eH l) l.length false),(17,.int .i64 (l.length:Int)),(18,.int .i64 0),(19,.dead),(32,.dead),(56,.dead),(59,.dead)],[(0,⟨[.str b,.int .i64 u1,.int .i64 u2,.sl (eH l) l.length false],0,false,0,0,true⟩)],.dead,[]⟩ (.normal) ⟨[(3,.sl (eH l) l.length false)],[],.dead,[]⟩):CO 102 [.agg [.str b,.int .i64 u1,.int .i64 u2,.sl (eH l) l.length false]] (.ret (.int .i64 (cond a 3 0))):=by
 rcases tf a with b2|b2
 ·rw [show (cond a 3 0:Int)=3 by rw [b2];rfl]
  exact pK [1] 3 4 (.c (aC b2) (.c (aB c) (.c (aB d) (.n 1 .nil)))) (.c e (.l l0 .nil))
 ·rw [show (cond a 3 0:Int)=0 by rw [b2];rfl]
  exact pK [1] 3 0 (.c (aB b2) (.c (aB c) (.c (aB d) (.n 1 .nil)))) (.c e (.l l0 .nil))
theorem aox (a:List UInt8) (u1 u2:Int) (l:List Br) (c:(decide (((8:Nat):Int)<(l.length:Int)))=false) (b:((l.length:Int)==((0:Nat):Int))=false)
  (l0:aI prog ap [] 60 (.block 1 (.loop (ae 1 (af f102)))) ⟨[(0,.agg [.str a,.int .i64 u1,.int .i64 u2,.sl (eH l) l.length false]),(1,.ptr 0 0 0),(2,.int .i64 0),(3,.sl (eH l) l.length false),(4,.dead),(5,.dead),(8,.bool (decide (((8:Nat):Int)<(l.length:Int)))),(12,.bool ((l.length:Int)==((0:Nat):Int))),(16,.sl (eH l) l.length false),(17,.int .i64 (l.length:Int)),(18,.int .i64 0),(19,.dead),(32,.dead),(56,.dead),(59,.dead)],[(0,⟨[.str a,.int .i64 u1,.int .i64 u2,.sl (eH l) l.length false],0,false,0,0,true⟩)],.dead,[]⟩ (.ret) ⟨[(2,.int .i64 11)],[],.dead,[]⟩):CO 102 [.agg [.str a,.int .i64 u1,.int .i64 u2,.sl (eH l) l.length false]] (.ret (.int .i64 11)):=pK [1] 2 0 (.c (aB b) (.c (aB c) (.n 1 .nil))) (.l l0 .nil)
theorem Ey (b:List UInt8) (u1 u2:Int) (l:List Br) (cmp:Br→Br→Int) (a:l.length<2^40) (c:∀ x ∈ l,x.sm) (f:sD 129 cmp l):CO 102 [.agg [.str b,.int .i64 u1,.int .i64 u2,.sl (eH l) l.length false]] (.ret (.int .i64 (Z9 cmp l))):=by
 unfold Z9
 rcases tf (decide (((8:Nat):Int)<(l.length:Int))) with d0|d0
 ·rw [d0]
  exact pK [] 1 1 (.c (aC d0) (.n 1 .nil)) (.nil)
 ·rw [d0]
  rcases tf ((l.length:Int)==((0:Nat):Int)) with d1|d1
  ·rw [d1]
   exact pK [] 2 2 (.c (aC d1) (.c (aB d0) (.n 1 .nil))) (.nil)
  ·rw [d1]
   have h:∀ nt,60≤nt→aF prog ap [] nt (ae 1 (af f102)) bkE (aez b u1 u2 l) (Z7 l) 0 (F6 cmp none l):=fun nt e=>Xk e b u1 u2 l cmp a c f l [] rfl
   cases d:F6 cmp none l with
   |true=>
    rw [d] at h
    exact aoy b u1 u2 l _ d0 d1 (TU l Ic a fun x g=>aa4 x (c x g)) (aF.blk h (by simp [bkE]) rfl (aK.of ⟨rfl,rfl,rfl,rfl,rfl,trivial⟩) (aK.of ⟨rfl,trivial⟩))
   |false=>
    rw [d] at h
    exact aox b u1 u2 l d0 d1 (aF.blk h (by simp [bkE]) rfl (aK.of ⟨rfl,rfl,rfl,rfl,rfl,trivial⟩) (aK.of ⟨rfl,trivial⟩))
theorem XN (b:List UInt8) (u1 u2:Int) (l:List Br) (a:Bool) (c:CO 130 [.sl (eH l) l.length false,.fn 160 [] []] (.ret (.bool a))):CO 132 [.agg [.str b,.int .i64 u1,.int .i64 u2,.sl (eH l) l.length false]] (.ret (.bool a)):=pK [] 0 0 (.n 1 .nil) (.c c .nil)
theorem Ui (c:List UInt8) (u1 u2:Int) (l:List Br) (a:l.length<2^40) (b:∀ x ∈ l,x.sm):CO 132 [.agg [.str c,.int .i64 u1,.int .i64 u2,.sl (eH l) l.length false]] (.ret (.bool (l.any sK))):=XN c u1 u2 l _ (TV l sK a fun x d=>XM x (b x d))
theorem Og (c:List UInt8) (u1 u2:Int) (l:List Br) (a:Int) (b:Bool) (cK_:CO 102 [.agg [.str c,.int .i64 u1,.int .i64 u2,.sl (eH l) l.length false]] (.ret (.int .i64 a))) (d:CO 132 [.agg [.str c,.int .i64 u1,.int .i64 u2,.sl (eH l) l.length false]] (.ret (.bool b))):CO 103 [.agg [.str c,.int .i64 u1,.int .i64 u2,.sl (eH l) l.length false]] (.ret (.bool (a==((0:Nat):Int) && !b))):=by
 rcases tf (a==((0:Nat):Int)) with b0|b0
 ·rw [b0,Bool.true_and]
  exact pK [] 1 1 (.k 4 (aC b0) (.n 4 .nil)) (.c d (.c cK_ .nil))
 ·rw [b0,Bool.false_and]
  exact pK [] 1 0 (.c (aB b0) (.n 4 .nil)) (.c cK_ .nil)
theorem FK (c:List UInt8) (u1 u2:Int) (l:List Br) (cmp:Br→Br→Int) (a:l.length<2^40) (b:∀ x ∈ l,x.sm) (d:sD 129 cmp l):CO 103 [.agg [.str c,.int .i64 u1,.int .i64 u2,.sl (eH l) l.length false]] (.ret (.bool (Z9 cmp l==((0:Nat):Int) && !(l.any sK)))):=Og c u1 u2 l _ _ (Ey c u1 u2 l cmp a b d) (Ui c u1 u2 l a b)
def kw (x:Br):Bool:=jq x.fn x.fa x.fd && jq x.rn x.ra x.rd
def Str (nm:List UInt8) (u1 u2:Int) (l:List Br) (k:Nat):St:=⟨[(1,.ptr 0 0 0),(3,.sl (eH l) l.length false),(4,.int .i64 (k:Int))],[(0,⟨[.str nm,.int .i64 u1,.int .i64 u2,.sl (eH l) l.length false],0,false,0,0,true⟩)],.dead,[]⟩
def aeh (l:List Br):Bool→St
 |true=> ⟨[(3,.sl (eH l) l.length false)],[],.dead,[]⟩
 |false=> ⟨[(2,.int .i64 11)],[],.dead,[]⟩
def Er:Bool→bM
 |true=> .exit 0
 |false=> .ret
theorem akE {nt:Nat} (c:96≤nt) (j:List UInt8) (u1 u2:Int) (l:List Br) (h:l.length<2^40) (d:∀ x ∈ l,x.sm):∀ (r p:List Br),p++r=l→
  aF prog ap [] nt (ae 0 (af f71)) Er (Str j u1 u2 l) (aeh l) p.length (r.all kw):=by
 intro r
 induction r with
 |nil=>
  intro p hp
  rw [List.append_nil] at hp
  subst hp
  have h0:(decide ((p.length:Int)<(p.length:Int)))=false:=decide_eq_false (by omega)
  exact .done (pN 71 [] 1 0 (.c (aB h0) .nil) (.nil) c)
 | cons x r ih=>
  intro p hp
  have i:p.length<l.length:=by rw [← hp];simp
  have e:l[p.length]=x:=by subst hp;simp
  have a:=kU i
  rw [e] at a
  have b:=ih (p++ [x]) (by rw [← hp];simp)
  rw [List.length_append,List.length_singleton] at b
  have hs:=d x (by rw [← hp];simp)
  have f:CO 104 [MB x] (.ret (.bool (jq x.fn x.fa x.fd))):=rD x.fn x.fa x.fd hs.1.1 hs.1.2
  have g:CO 104 [brR x] (.ret (.bool (jq x.rn x.ra x.rd))):=rD x.rn x.ra x.rd hs.2.1 hs.2.2
  generalize p.length=k at*
  generalize eH (l.drop (k+1))=rB at a
  have h0:(decide ((k:Int)<(l.length:Int)))=true:=decide_eq_true (by omega)
  have m:k<2^62:=by omega
  rcases tf (jq x.fn x.fa x.fd) with d0|d0
  ·rcases tf (jq x.rn x.ra x.rd) with d1|d1
   ·simp only [List.all_cons,kw,d0,d1,Bool.true_and,Bool.false_and,Bool.and_true,Bool.and_false]
    exact .next (pN 71 [] 3 1 (.c (aS d1) (.c (aS d0) (.k 3 (aQ k) (.c h0 (.k 3 (aQ k) (.c h0 (.c (aC h0) .nil))))))) (.v 26 (.eq (ja m)) (.c g (.v 35 (.ppt a) (.c f (.v 29 (.ppt a) .nil))))) c) b
   ·simp only [List.all_cons,kw,d0,d1,Bool.true_and,Bool.false_and,Bool.and_true,Bool.and_false]
    exact .done (pN 71 [] 3 5 (.c (dK d1) (.c (aS d0) (.k 3 (aQ k) (.c h0 (.k 3 (aQ k) (.c h0 (.c (aC h0) .nil))))))) (.c g (.v 35 (.ppt a) (.c f (.v 29 (.ppt a) .nil)))) c)
  ·simp only [List.all_cons,kw,d0,Bool.true_and,Bool.false_and,Bool.and_true,Bool.and_false]
   exact .done (pN 71 [] 3 7 (.k 1 (dK d0) (.k 3 (aQ k) (.c h0 (.k 3 (aQ k) (.c h0 (.c (aC h0) .nil)))))) (.c g (.v 35 (.ppt a) (.c f (.v 29 (.ppt a) .nil)))) c)
def zV (x:Br):Bool:=iY x.fn x.fa x.fd && iY x.rn x.ra x.rd
def Stf (l:List Br) (k:Nat):St:=⟨[(3,.sl (eH l) l.length false),(10,.int .i64 (k:Int))],[],.dead,[]⟩
def aef (l:List Br):Bool→St
 |true=> ⟨[(3,.sl (eH l) l.length false)],[],.dead,[]⟩
 |false=> ⟨[(2,.int .i64 3)],[],.dead,[]⟩
def Ef:Bool→bM
 |true=> .exit 4
 |false=> .ret
theorem akC {nt:Nat} (c:96≤nt) (l:List Br) (h:l.length<2^40) (d:∀ x ∈ l,x.sm):∀ (r p:List Br),p++r=l→
  aF prog ap [] nt (ae 4 (af f71)) Ef (Stf l) (aef l) p.length (r.all zV):=by
 intro r
 induction r with
 |nil=>
  intro p hp
  rw [List.append_nil] at hp
  subst hp
  have h0:(decide ((p.length:Int)<(p.length:Int)))=false:=decide_eq_false (by omega)
  exact .done (pN 71 [] 1 0 (.c (aB h0) .nil) (.nil) c)
 | cons x r ih=>
  intro p hp
  have i:p.length<l.length:=by rw [← hp];simp
  have e:l[p.length]=x:=by subst hp;simp
  have a:=kU i
  rw [e] at a
  have b:=ih (p++ [x]) (by rw [← hp];simp)
  rw [List.length_append,List.length_singleton] at b
  have hs:=d x (by rw [← hp];simp)
  have f:CO 105 [MB x] (.ret (.bool (iY x.fn x.fa x.fd))):=iU x.fn x.fa x.fd hs.1.1 hs.1.2
  have g:CO 105 [brR x] (.ret (.bool (iY x.rn x.ra x.rd))):=iU x.rn x.ra x.rd hs.2.1 hs.2.2
  generalize p.length=k at*
  generalize eH (l.drop (k+1))=rB at a
  have h0:(decide ((k:Int)<(l.length:Int)))=true:=decide_eq_true (by omega)
  have j:k<2^62:=by omega
  rcases tf (iY x.fn x.fa x.fd) with d0|d0
  ·rcases tf (iY x.rn x.ra x.rd) with d1|d1
   ·simp only [List.all_cons,zV,d0,d1,Bool.true_and,Bool.false_and,Bool.and_true,Bool.and_false]
    exact .next (pN 71 [] 3 1 (.c (aS d1) (.c (aS d0) (.k 3 (aQ k) (.c h0 (.k 3 (aQ k) (.c h0 (.c (aC h0) .nil))))))) (.v 77 (.eq (ja j)) (.c g (.v 86 (.ppt a) (.c f (.v 80 (.ppt a) .nil))))) c) b
   ·simp only [List.all_cons,zV,d0,d1,Bool.true_and,Bool.false_and,Bool.and_true,Bool.and_false]
    exact .done (pN 71 [] 3 5 (.c (dK d1) (.c (aS d0) (.k 3 (aQ k) (.c h0 (.k 3 (aQ k) (.c h0 (.c (aC h0) .nil))))))) (.c g (.v 86 (.ppt a) (.c f (.v 80 (.ppt a) .nil)))) c)
  ·simp only [List.all_cons,zV,d0,Bool.true_and,Bool.false_and,Bool.and_true,Bool.and_false]
   exact .done (pN 71 [] 3 7 (.k 1 (dK d0) (.k 3 (aQ k) (.c h0 (.k 3 (aQ k) (.c h0 (.c (aC h0) .nil)))))) (.c g (.v 86 (.ppt a) (.c f (.v 80 (.ppt a) .nil)))) c)
def H7 (cmp:Br→Br→Int):Br→List Br→Bool
 |_,[]=>true
 |y,x::r=>cond (decide (((0:Nat):Int)≤cmp y x)) false (H7 cmp x r)
def Sta (l:List Br) (k:Nat):St:=⟨[(3,.sl (eH l) l.length false),(8,.int .i64 (k:Int))],[],.dead,[]⟩
def aed (l:List Br):Bool→St
 |true=> ⟨[(3,.sl (eH l) l.length false)],[],.dead,[]⟩
 |false=> ⟨[(2,.int .i64 11)],[],.dead,[]⟩
def Ea:Bool→bM
 |true=> .exit 2
 |false=> .ret
theorem akA {nt:Nat} (j:96≤nt) (l:List Br) (cmp:Br→Br→Int) (q:l.length<2^40) (t:∀ x ∈ l,kw x=true) (s:sD 24 cmp l):∀ (r p:List Br) (y:Br),(p++ [y])++r=l→
  aF prog ap [] nt (ae 2 (af f71)) Ea (Sta l) (aed l) (p.length+1) (H7 cmp y r):=by
 intro r
 induction r with
 |nil=>
  intro p y hp
  rw [List.append_nil] at hp
  generalize m:p.length+1=k
  have u:l.length=k:=by rw [← hp,← m];simp
  have h0:(decide ((k:Int)<(l.length:Int)))=false:=decide_eq_false (by omega)
  exact .done (pN 71 [] 1 0 (.c (aB h0) .nil) (.nil) j)
 | cons x r ih=>
  intro p y hp
  have n:p.length+1<l.length:=by rw [← hp];simp
  have a:p.length<l.length:=by omega
  have d:l[p.length+1]=x:=by subst hp;simp
  have f:l[p.length]=y:=by subst hp;simp
  have i:=kU n
  have h:=kU a
  rw [d] at i
  rw [f] at h
  have g:=ih (p++ [y]) x (by rw [← hp];simp)
  rw [List.length_append,List.length_singleton] at g
  have b:=t x (by rw [← hp];simp)
  unfold kw at b
  rw [Bool.and_eq_true] at b
  have o:=s p.length y x (by rw [List.getElem?_eq_getElem a,f]) (by rw [List.getElem?_eq_getElem n,d]) b.1 b.2
  unfold H7
  have c:p.length+1=p.length+1:=rfl
  generalize m:p.length+1=k at*
  generalize w:p.length=k1 at*
  have c:k=k1+1:=m.symm
  generalize eH (l.drop (k+1))=rB at i
  generalize eH (l.drop k)=rC at h
  have h0:(decide ((k:Int)<(l.length:Int)))=true:=decide_eq_true (by omega)
  have v:k<2^62:=by omega
  have e:k<2^40:=by omega
  rcases tf (decide (((0:Nat):Int)≤(cmp y x))) with d0|d0
  ·rw [d0]
   exact .done (pN 71 [] 2 3 (.c (aC d0) (.k 3 (aQ k) (.c h0 (.k 3 (aQ k1) (.c (bK a) (.c (aC h0) .nil)))))) (.c o (.v 66 (.ppt i) (.v 61 (.ppt h) (.v 60 (.eq (wkn c e)) .nil)))) j)
  ·rw [d0]
   exact .next (pN 71 [] 2 1 (.c (aB d0) (.k 3 (aQ k) (.c h0 (.k 3 (aQ k1) (.c (bK a) (.c (aC h0) .nil)))))) (.v 57 (.eq (ja v)) (.c o (.v 66 (.ppt i) (.v 61 (.ppt h) (.v 60 (.eq (wkn c e)) .nil))))) j) g
theorem aux (a:List UInt8) (u1 u2:Int) (l:List Br) (c:(decide (((8:Nat):Int)<(l.length:Int)))=false) (b:((l.length:Int)==((0:Nat):Int))=false) (d:aI prog ap [] 96 (.block 0 (.loop (ae 0 (af f71)))) ⟨[(0,.agg [.str a,.int .i64 u1,.int .i64 u2,.sl (eH l) l.length false]),(1,.ptr 0 0 0),(2,.int .i64 0),(3,.sl (eH l) l.length false),(4,.int .i64 0),(5,.dead),(6,.dead),(7,.dead),(8,.dead),(9,.dead),(10,.dead),(11,.dead),(12,.dead),(17,.bool (decide (((8:Nat):Int)<(l.length:Int)))),(20,.bool ((l.length:Int)==((0:Nat):Int))),(24,.dead),(44,.dead),(51,.dead),(55,.dead),(71,.dead),(75,.dead),(95,.dead)],[(0,⟨[.str a,.int .i64 u1,.int .i64 u2,.sl (eH l) l.length false],0,false,0,0,true⟩)],.dead,[]⟩ (.ret) ⟨[(2,.int .i64 11)],[],.dead,[]⟩):CO 71 [.agg [.str a,.int .i64 u1,.int .i64 u2,.sl (eH l) l.length false]] (.ret (.int .i64 11)):=pK [0,2,4] 2 0 (.c (aB b) (.c (aB c) (.n 1 .nil))) (.l d .nil)
theorem auA (c:List UInt8) (u1 u2:Int) (l:List Br) (f:(decide (((8:Nat):Int)<(l.length:Int)))=false) (e:((l.length:Int)==((0:Nat):Int))=false) (a:Br) (g:List AV) (d:List.drop 0 (eH l)=F8 a++g) (b:(decide (((0:Nat):Int)<(l.length:Int)))=true) (h:CO 45 [MB a] (.ret (.int .i64 (fZ a.fn a.fa a.fd)))) (z:((fZ a.fn a.fa a.fd)==((0:Nat):Int))=false) (i:aI prog ap [] 96 (.block 0 (.loop (ae 0 (af f71)))) ⟨[(0,.agg [.str c,.int .i64 u1,.int .i64 u2,.sl (eH l) l.length false]),(1,.ptr 0 0 0),(2,.int .i64 0),(3,.sl (eH l) l.length false),(4,.int .i64 0),(5,.dead),(6,.dead),(7,.dead),(8,.dead),(9,.dead),(10,.dead),(11,.dead),(12,.dead),(17,.bool (decide (((8:Nat):Int)<(l.length:Int)))),(20,.bool ((l.length:Int)==((0:Nat):Int))),(24,.dead),(44,.dead),(51,.dead),(55,.dead),(71,.dead),(75,.dead),(95,.dead)],[(0,⟨[.str c,.int .i64 u1,.int .i64 u2,.sl (eH l) l.length false],0,false,0,0,true⟩)],.dead,[]⟩ (.normal) ⟨[(3,.sl (eH l) l.length false)],[],.dead,[]⟩):CO 71 [.agg [.str c,.int .i64 u1,.int .i64 u2,.sl (eH l) l.length false]] (.ret (.int .i64 11)):=pK [0,2,4] 3 4 (.c (dK z) (.k 4 b (.c (aB e) (.c (aB f) (.n 1 .nil))))) (.c h (.v 46 (.ppt d) (.l i .nil)))
theorem auy (c:List UInt8) (u1 u2:Int) (l:List Br) (f:(decide (((8:Nat):Int)<(l.length:Int)))=false) (e:((l.length:Int)==((0:Nat):Int))=false) (a:Br) (g:List AV) (d:List.drop 0 (eH l)=F8 a++g) (b:(decide (((0:Nat):Int)<(l.length:Int)))=true) (h:CO 45 [MB a] (.ret (.int .i64 (fZ a.fn a.fa a.fd)))) (z:((fZ a.fn a.fa a.fd)==((0:Nat):Int))=true) (i:aI prog ap [] 96 (.block 0 (.loop (ae 0 (af f71)))) ⟨[(0,.agg [.str c,.int .i64 u1,.int .i64 u2,.sl (eH l) l.length false]),(1,.ptr 0 0 0),(2,.int .i64 0),(3,.sl (eH l) l.length false),(4,.int .i64 0),(5,.dead),(6,.dead),(7,.dead),(8,.dead),(9,.dead),(10,.dead),(11,.dead),(12,.dead),(17,.bool (decide (((8:Nat):Int)<(l.length:Int)))),(20,.bool ((l.length:Int)==((0:Nat):Int))),(24,.dead),(44,.dead),(51,.dead),(55,.dead),(71,.dead),(75,.dead),(95,.dead)],[(0,⟨[.str c,.int .i64 u1,.int .i64 u2,.sl (eH l) l.length false],0,false,0,0,true⟩)],.dead,[]⟩ (.normal) ⟨[(3,.sl (eH l) l.length false)],[],.dead,[]⟩) (j:aI prog ap [] 96 (.block 2 (.loop (ae 2 (af f71)))) ⟨[(0,.dead),(1,.dead),(2,.dead),(3,.sl (eH l) l.length false),(4,.dead),(5,.dead),(6,.dead),(7,.int .i64 (fZ a.fn a.fa a.fd)),(8,.int .i64 1),(9,.dead),(10,.dead),(11,.dead),(12,.dead),(17,.dead),(20,.dead),(24,.dead),(44,.dead),(51,.bool (!((fZ a.fn a.fa a.fd)==((0:Nat):Int)))),(55,.dead),(71,.dead),(75,.dead),(95,.dead)],[],.dead,[]⟩ (.ret) ⟨[(2,.int .i64 11)],[],.dead,[]⟩):CO 71 [.agg [.str c,.int .i64 u1,.int .i64 u2,.sl (eH l) l.length false]] (.ret (.int .i64 11)):=pK [0,2,4] 3 0 (.c (aS z) (.k 4 b (.c (aB e) (.c (aB f) (.n 1 .nil))))) (.l j (.c h (.v 46 (.ppt d) (.l i .nil))))
theorem auz (c:List UInt8) (u1 u2:Int) (l:List Br) (f:(decide (((8:Nat):Int)<(l.length:Int)))=false) (e:((l.length:Int)==((0:Nat):Int))=false) (a:Br) (g:List AV) (d:List.drop 0 (eH l)=F8 a++g) (b:(decide (((0:Nat):Int)<(l.length:Int)))=true) (h:CO 45 [MB a] (.ret (.int .i64 (fZ a.fn a.fa a.fd)))) (z:((fZ a.fn a.fa a.fd)==((0:Nat):Int))=true) (i:aI prog ap [] 96 (.block 0 (.loop (ae 0 (af f71)))) ⟨[(0,.agg [.str c,.int .i64 u1,.int .i64 u2,.sl (eH l) l.length false]),(1,.ptr 0 0 0),(2,.int .i64 0),(3,.sl (eH l) l.length false),(4,.int .i64 0),(5,.dead),(6,.dead),(7,.dead),(8,.dead),(9,.dead),(10,.dead),(11,.dead),(12,.dead),(17,.bool (decide (((8:Nat):Int)<(l.length:Int)))),(20,.bool ((l.length:Int)==((0:Nat):Int))),(24,.dead),(44,.dead),(51,.dead),(55,.dead),(71,.dead),(75,.dead),(95,.dead)],[(0,⟨[.str c,.int .i64 u1,.int .i64 u2,.sl (eH l) l.length false],0,false,0,0,true⟩)],.dead,[]⟩ (.normal) ⟨[(3,.sl (eH l) l.length false)],[],.dead,[]⟩) (k:aI prog ap [] 96 (.block 2 (.loop (ae 2 (af f71)))) ⟨[(0,.dead),(1,.dead),(2,.dead),(3,.sl (eH l) l.length false),(4,.dead),(5,.dead),(6,.dead),(7,.int .i64 (fZ a.fn a.fa a.fd)),(8,.int .i64 1),(9,.dead),(10,.dead),(11,.dead),(12,.dead),(17,.dead),(20,.dead),(24,.dead),(44,.dead),(51,.bool (!((fZ a.fn a.fa a.fd)==((0:Nat):Int)))),(55,.dead),(71,.dead),(75,.dead),(95,.dead)],[],.dead,[]⟩ (.normal) ⟨[(3,.sl (eH l) l.length false)],[],.dead,[]⟩) (j:aI prog ap [] 96 (.block 4 (.loop (ae 4 (af f71)))) ⟨[(0,.dead),(1,.dead),(2,.dead),(3,.sl (eH l) l.length false),(4,.dead),(5,.dead),(6,.dead),(7,.dead),(8,.dead),(9,.dead),(10,.int .i64 0),(11,.dead),(12,.dead),(17,.dead),(20,.dead),(24,.dead),(44,.dead),(51,.dead),(55,.dead),(71,.dead),(75,.dead),(95,.dead)],[],.dead,[]⟩ (.ret) ⟨[(2,.int .i64 3)],[],.dead,[]⟩):CO 71 [.agg [.str c,.int .i64 u1,.int .i64 u2,.sl (eH l) l.length false]] (.ret (.int .i64 3)):=pK [0,2,4] 3 0 (.c (aS z) (.k 4 b (.c (aB e) (.c (aB f) (.n 1 .nil))))) (.l j (.l k (.c h (.v 46 (.ppt d) (.l i .nil)))))
theorem auB (c:List UInt8) (u1 u2:Int) (l:List Br) (f:(decide (((8:Nat):Int)<(l.length:Int)))=false) (e:((l.length:Int)==((0:Nat):Int))=false) (a:Br) (g:List AV) (d:List.drop 0 (eH l)=F8 a++g) (b:(decide (((0:Nat):Int)<(l.length:Int)))=true) (h:CO 45 [MB a] (.ret (.int .i64 (fZ a.fn a.fa a.fd)))) (z:((fZ a.fn a.fa a.fd)==((0:Nat):Int))=true) (i:aI prog ap [] 96 (.block 0 (.loop (ae 0 (af f71)))) ⟨[(0,.agg [.str c,.int .i64 u1,.int .i64 u2,.sl (eH l) l.length false]),(1,.ptr 0 0 0),(2,.int .i64 0),(3,.sl (eH l) l.length false),(4,.int .i64 0),(5,.dead),(6,.dead),(7,.dead),(8,.dead),(9,.dead),(10,.dead),(11,.dead),(12,.dead),(17,.bool (decide (((8:Nat):Int)<(l.length:Int)))),(20,.bool ((l.length:Int)==((0:Nat):Int))),(24,.dead),(44,.dead),(51,.dead),(55,.dead),(71,.dead),(75,.dead),(95,.dead)],[(0,⟨[.str c,.int .i64 u1,.int .i64 u2,.sl (eH l) l.length false],0,false,0,0,true⟩)],.dead,[]⟩ (.normal) ⟨[(3,.sl (eH l) l.length false)],[],.dead,[]⟩) (k:aI prog ap [] 96 (.block 2 (.loop (ae 2 (af f71)))) ⟨[(0,.dead),(1,.dead),(2,.dead),(3,.sl (eH l) l.length false),(4,.dead),(5,.dead),(6,.dead),(7,.int .i64 (fZ a.fn a.fa a.fd)),(8,.int .i64 1),(9,.dead),(10,.dead),(11,.dead),(12,.dead),(17,.dead),(20,.dead),(24,.dead),(44,.dead),(51,.bool (!((fZ a.fn a.fa a.fd)==((0:Nat):Int)))),(55,.dead),(71,.dead),(75,.dead),(95,.dead)],[],.dead,[]⟩ (.normal) ⟨[(3,.sl (eH l) l.length false)],[],.dead,[]⟩) (j:aI prog ap [] 96 (.block 4 (.loop (ae 4 (af f71)))) ⟨[(0,.dead),(1,.dead),(2,.dead),(3,.sl (eH l) l.length false),(4,.dead),(5,.dead),(6,.dead),(7,.dead),(8,.dead),(9,.dead),(10,.int .i64 0),(11,.dead),(12,.dead),(17,.dead),(20,.dead),(24,.dead),(44,.dead),(51,.dead),(55,.dead),(71,.dead),(75,.dead),(95,.dead)],[],.dead,[]⟩ (.normal) ⟨[(3,.sl (eH l) l.length false)],[],.dead,[]⟩):CO 71 [.agg [.str c,.int .i64 u1,.int .i64 u2,.sl (eH l) l.length false]] (.ret (.int .i64 0)):=pK [0,2,4] 3 0 (.c (aS z) (.k 4 b (.c (aB e) (.c (aB f) (.n 1 .nil))))) (.l j (.l k (.c h (.v 46 (.ppt d) (.l i .nil)))))
theorem JI (cmp:Br→Br→Int):∀ (r:List Br) (y:Br),F6 cmp (some y) r=(r.all kw && H7 cmp y r)
 | [],_=>rfl
 |x::r,y=>by
  simp only [F6,List.all_cons,H7,kw,JI cmp r x]
  cases jq x.fn x.fa x.fd<;>cases jq x.rn x.ra x.rd<;>cases decide (((0:Nat):Int)≤cmp y x)<;>cases r.all kw<;>simp
theorem Tj (cmp:Br→Br→Int) (x:Br) (r:List Br):F6 cmp none (x::r)=((x::r).all kw && ((fZ x.fn x.fa x.fd==((0:Nat):Int)) && H7 cmp x r)):=by
 simp only [F6,List.all_cons,kw,JI cmp r x]
 cases jq x.fn x.fa x.fd<;>cases jq x.rn x.ra x.rd<;>cases (fZ x.fn x.fa x.fd==((0:Nat):Int))<;>cases r.all kw<;>simp
theorem OM:∀ l:List Br,l.any Ic= !(l.all zV)
 | []=>rfl
 |x::r=>by
  rw [List.any_cons,List.all_cons,OM r]
  simp only [Ic,zV]
  cases iY x.fn x.fa x.fd<;>cases iY x.rn x.ra x.rd<;>simp
theorem Eh (e:List UInt8) (u1 u2:Int) (l:List Br) (cmp:Br→Br→Int) (c:l.length<2^40) (g:∀ x ∈ l,x.sm) (u:sD 24 cmp l):CO 71 [.agg [.str e,.int .i64 u1,.int .i64 u2,.sl (eH l) l.length false]] (.ret (.int .i64 (Z9 cmp l))):=by
 unfold Z9
 rcases tf (decide (((8:Nat):Int)<(l.length:Int))) with d0|d0
 ·rw [d0]
  exact pK [] 1 1 (.c (aC d0) (.n 1 .nil)) (.nil)
 ·rw [d0]
  rcases tf ((l.length:Int)==((0:Nat):Int)) with d1|d1
  ·rw [d1]
   exact pK [] 2 2 (.c (aC d1) (.c (aB d0) (.n 1 .nil))) (.nil)
  ·rw [d1]
   have o:l ≠ []:=by intro h;subst h;exact absurd d1 (by decide)
   obtain ⟨a,r,i⟩:=List.exists_cons_of_ne_nil o
   have b:(decide (((0:Nat):Int)<(l.length:Int)))=true:=decide_eq_true (by rw [i];simp only [List.length_cons];omega)
   have d:List.drop 0 (eH l)=F8 a++eH r:=by rw [i];rfl
   have hs:=g a (by rw [i];simp)
   have m:CO 45 [MB a] (.ret (.int .i64 (fZ a.fn a.fa a.fd))):=fM a.fn a.fa a.fd hs.1.1 hs.1.2
   have t:F6 cmp none l=(l.all kw && ((fZ a.fn a.fa a.fd==((0:Nat):Int)) && H7 cmp a r)):=by rw [i];exact Tj cmp a r
   have f:∀ nt,96≤nt→aF prog ap [] nt (ae 0 (af f71)) Er (Str e u1 u2 l) (aeh l) 0 (l.all kw):=fun nt j=>akE j e u1 u2 l c g l [] rfl
   have n:∀ nt,96≤nt→aF prog ap [] nt (ae 4 (af f71)) Ef (Stf l) (aef l) 0 (l.all zV):=fun nt j=>akC j l c g l [] rfl
   rw [t,OM]
   cases p:l.all kw with
   |false=>
    rw [p] at f
    rw [Bool.false_and]
    exact aux e u1 u2 l d0 d1 (aF.blk f (by simp [Er]) rfl (aK.of ⟨rfl,rfl,rfl,trivial⟩) (aK.of ⟨rfl,trivial⟩))
   | true=>
    have k:∀ nt,96≤nt→aF prog ap [] nt (ae 2 (af f71)) Ea (Sta l) (aed l) 1 (H7 cmp a r):=fun nt j=>akA j l cmp c (List.all_eq_true.1 p) u r [] a (by rw [i];rfl)
    rw [p] at f
    rw [Bool.true_and]
    rcases tf ((fZ a.fn a.fa a.fd)==((0:Nat):Int)) with z|z
    ·rw [z,Bool.true_and]
     cases s:H7 cmp a r with
     |false=>
      rw [s] at k
      exact auy e u1 u2 l d0 d1 a _ d b m z (aF.blk f (by simp [Er]) rfl (aK.of ⟨rfl,rfl,rfl,trivial⟩) (aK.of ⟨rfl,trivial⟩)) (aF.blk k (by simp [Ea]) rfl (aK.of ⟨rfl,rfl,trivial⟩) (aK.of ⟨rfl,trivial⟩))
     | true=>
      rw [s] at k
      cases q:l.all zV with
      |false=>
       rw [q] at n
       exact auz e u1 u2 l d0 d1 a _ d b m z (aF.blk f (by simp [Er]) rfl (aK.of ⟨rfl,rfl,rfl,trivial⟩) (aK.of ⟨rfl,trivial⟩)) (aF.blk k (by simp [Ea]) rfl (aK.of ⟨rfl,rfl,trivial⟩) (aK.of ⟨rfl,trivial⟩)) (aF.blk n (by simp [Ef]) rfl (aK.of ⟨rfl,rfl,trivial⟩) (aK.of ⟨rfl,trivial⟩))
      |true=>
       rw [q] at n
       exact auB e u1 u2 l d0 d1 a _ d b m z (aF.blk f (by simp [Er]) rfl (aK.of ⟨rfl,rfl,rfl,trivial⟩) (aK.of ⟨rfl,trivial⟩)) (aF.blk k (by simp [Ea]) rfl (aK.of ⟨rfl,rfl,trivial⟩) (aK.of ⟨rfl,trivial⟩)) (aF.blk n (by simp [Ef]) rfl (aK.of ⟨rfl,rfl,trivial⟩) (aK.of ⟨rfl,trivial⟩))
    ·rw [z,Bool.false_and]
     exact auA e u1 u2 l d0 d1 a _ d b m z (aF.blk f (by simp [Er]) rfl (aK.of ⟨rfl,rfl,rfl,trivial⟩) (aK.of ⟨rfl,trivial⟩))
def Stb (nm:List UInt8) (u1 u2:Int) (l:List Br) (k:Nat):St:=⟨[(0,.agg [.str nm,.int .i64 u1,.int .i64 u2,.sl (eH l) l.length false]),(1,.ptr 0 0 0),(3,.int .i64 (k:Int))],[(0,⟨[.str nm,.int .i64 u1,.int .i64 u2,.sl (eH l) l.length false],0,false,0,0,true⟩)],.dead,[]⟩
def aee (nm:List UInt8) (u1 u2:Int) (l:List Br):Bool→St
 |false=> ⟨[(0,.agg [.str nm,.int .i64 u1,.int .i64 u2,.sl (eH l) l.length false])],[],.dead,[]⟩
 |true=> ⟨[(2,.bool true)],[],.dead,[]⟩
def Eb:Bool→bM
 |false=> .exit 0
 |true=> .ret
theorem akB {nt:Nat} (c:19≤nt) (f:List UInt8) (u1 u2:Int) (l:List Br) (h:l.length<2^40) (d:∀ x ∈ l,x.sm):∀ (r p:List Br),p++r=l→
  aF prog ap [] nt (ae 0 (af f106)) Eb (Stb f u1 u2 l) (aee f u1 u2 l) p.length (r.any sK):=by
 intro r
 induction r with
 |nil=>
  intro p hp
  rw [List.append_nil] at hp
  subst hp
  have h0:(decide ((p.length:Int)<(p.length:Int)))=false:=decide_eq_false (by omega)
  exact .done (pN 106 [] 1 0 (.c (aB h0) (.n 1 .nil)) (.nil) c)
 | cons x r ih=>
  intro p hp
  have i:p.length<l.length:=by rw [← hp];simp
  have e:l[p.length]=x:=by subst hp;simp
  have b:=kU i
  rw [e] at b
  have a:=ih (p++ [x]) (by rw [← hp];simp)
  rw [List.length_append,List.length_singleton] at a
  have hs:=d x (by rw [← hp];simp)
  have g:CO 45 [brR x] (.ret (.int .i64 (fZ x.rn x.ra x.rd))):=fM x.rn x.ra x.rd hs.2.1 hs.2.2
  rw [List.any_cons]
  generalize p.length=k at*
  generalize eH (l.drop (k+1))=rB at b
  have h0:(decide ((k:Int)<(l.length:Int)))=true:=decide_eq_true (by omega)
  have j:k<2^62:=by omega
  rcases tf (decide ((fZ x.rn x.ra x.rd)<((0:Nat):Int))) with d0|d0
  ·rw [show sK x=true from d0,Bool.true_or]
   exact .done (pN 106 [] 2 3 (.c (aC d0) (.k 3 (aQ k) (.c h0 (.k 1 (aC h0) (.n 1 .nil))))) (.c g (.v 14 (.ppt b) .nil)) c)
  ·rw [show sK x=false from d0,Bool.false_or]
   exact .next (pN 106 [] 2 1 (.c (aB d0) (.k 3 (aQ k) (.c h0 (.k 1 (aC h0) (.n 1 .nil))))) (.v 10 (.eq (ja j)) (.c g (.v 14 (.ppt b) .nil))) c) a
theorem aex (a:List UInt8) (u1 u2:Int) (l:List Br) (b:aI prog ap [] 19 (.block 0 (.loop (ae 0 (af f106)))) ⟨[(0,.agg [.str a,.int .i64 u1,.int .i64 u2,.sl (eH l) l.length false]),(1,.ptr 0 0 0),(2,.bool false),(3,.int .i64 0),(8,.dead),(18,.dead)],[(0,⟨[.str a,.int .i64 u1,.int .i64 u2,.sl (eH l) l.length false],0,false,0,0,true⟩)],.dead,[]⟩ (.ret) ⟨[(2,.bool true)],[],.dead,[]⟩):CO 106 [.agg [.str a,.int .i64 u1,.int .i64 u2,.sl (eH l) l.length false]] (.ret (.bool true)):=pK [0] 0 0 .nil (.l b .nil)
theorem aew (a:List UInt8) (u1 u2:Int) (l:List Br) (b:aI prog ap [] 19 (.block 0 (.loop (ae 0 (af f106)))) ⟨[(0,.agg [.str a,.int .i64 u1,.int .i64 u2,.sl (eH l) l.length false]),(1,.ptr 0 0 0),(2,.bool false),(3,.int .i64 0),(8,.dead),(18,.dead)],[(0,⟨[.str a,.int .i64 u1,.int .i64 u2,.sl (eH l) l.length false],0,false,0,0,true⟩)],.dead,[]⟩ (.normal) ⟨[(0,.agg [.str a,.int .i64 u1,.int .i64 u2,.sl (eH l) l.length false])],[],.dead,[]⟩):CO 106 [.agg [.str a,.int .i64 u1,.int .i64 u2,.sl (eH l) l.length false]] (.ret (.bool false)):=pK [0] 0 0 .nil (.l b .nil)
theorem aa5 (a:List UInt8) (u1 u2:Int) (l:List Br) (b:l.length<2^40) (c:∀ x ∈ l,x.sm):CO 106 [.agg [.str a,.int .i64 u1,.int .i64 u2,.sl (eH l) l.length false]] (.ret (.bool (l.any sK))):=by
 have h:∀ nt,19≤nt→aF prog ap [] nt (ae 0 (af f106)) Eb (Stb a u1 u2 l) (aee a u1 u2 l) 0 (l.any sK):=fun nt e=>akB e a u1 u2 l b c l [] rfl
 cases d:l.any sK with
 |true=>rw [d] at h;exact aex a u1 u2 l (aF.blk h (by simp [Eb]) rfl (aK.of ⟨rfl,rfl,rfl,trivial⟩) (aK.of ⟨rfl,trivial⟩))
 |false=>rw [d] at h;exact aew a u1 u2 l (aF.blk h (by simp [Eb]) rfl (aK.of ⟨rfl,rfl,rfl,trivial⟩) (aK.of ⟨rfl,trivial⟩))
theorem N9 (c:List UInt8) (u1 u2:Int) (l:List Br) (a:Int) (b:Bool) (cK_:CO 71 [.agg [.str c,.int .i64 u1,.int .i64 u2,.sl (eH l) l.length false]] (.ret (.int .i64 a))) (d:CO 106 [.agg [.str c,.int .i64 u1,.int .i64 u2,.sl (eH l) l.length false]] (.ret (.bool b))):CO 72 [.agg [.str c,.int .i64 u1,.int .i64 u2,.sl (eH l) l.length false]] (.ret (.bool (a==((0:Nat):Int) && !b))):=by
 rcases tf (a==((0:Nat):Int)) with b0|b0
 ·rw [b0,Bool.true_and]
  exact pK [] 1 1 (.k 4 (aC b0) (.n 4 .nil)) (.c d (.c cK_ .nil))
 ·rw [b0,Bool.false_and]
  exact pK [] 1 0 (.c (aB b0) (.n 4 .nil)) (.c cK_ .nil)
theorem KY (c:List UInt8) (u1 u2:Int) (l:List Br) (cmp:Br→Br→Int) (a:l.length<2^40) (b:∀ x ∈ l,x.sm) (d:sD 24 cmp l):CO 72 [.agg [.str c,.int .i64 u1,.int .i64 u2,.sl (eH l) l.length false]] (.ret (.bool (Z9 cmp l==((0:Nat):Int) && !(l.any sK)))):=N9 c u1 u2 l _ _ (Eh c u1 u2 l cmp a b d) (aa5 c u1 u2 l a b)
structure Sq where
 nm:List UInt8
 u1:Int
 u2:Int
 l:List Br
def Sq.c (q:Sq):Sc:=⟨q.nm,q.u1,q.u2,eH q.l,q.l.length⟩
def Ig:List AV→List Br
 | .bool a::.str b::.str c::.bool d::.str e::.str f::r=> ⟨a,b,c,d,e,f⟩::Ig r
 |_=> []
theorem Cb:∀ l:List Br,Ig (eH l)=l
 | []=>rfl
 |x::r=>by
  show Ig (F8 x++eH r)=_
  simp only [F8,List.cons_append,List.nil_append,Ig,Cb r]
def JO (cmp:Br→Br→Int) (x:Sc):Int:=Z9 cmp (Ig x.bx)
def LW (cmp:Br→Br→Int) (x:Sc):Bool:=(Z9 cmp (Ig x.bx)==((0:Nat):Int)) && !((Ig x.bx).any sK)
def H5 (f:Nat) (cmp:Br→Br→Int) (qs:List Sq):Prop:=∀ q ∈ qs,q.l.length<2^40∧(∀ x ∈ q.l,x.sm)∧sD f cmp q.l
theorem bU (e:List Nd) (c:Bool) (qs:List Sq) (j:Bool) (cmp:Br→Br→Int) (g:Int) (a:List UInt8) (b:∀ y ∈ e,y.sm) (i:e.length<2^40) (d:qs.length<2^40) (o:H5 129 cmp qs):
  CO 14 [.sl (aH e) e.length c,.sl (bZ (qs.map Sq.c)) qs.length j,.int .i64 g,.str a] (.ret (.int .i64 ((jF (JO cmp) (LW cmp) e (qs.map Sq.c) g a:Nat):Int))):=by
 have h:=VW e c (qs.map Sq.c) j (JO cmp) (LW cmp) g a b i (by rw [List.length_map];exact d)
  (by
   intro x n
   obtain ⟨q,f,rfl⟩:=List.mem_map.1 n
   obtain ⟨l,k,m⟩:=o q f
   unfold JO LW
   rw [show Ig (Sq.c q).bx=q.l from Cb q.l]
   exact ⟨Ey q.nm q.u1 q.u2 q.l cmp l k m,fun _=>FK q.nm q.u1 q.u2 q.l cmp l k m⟩)
  (fun f=>ael e c (dH e) [] (by rw [show (dH e==((0:Nat):Int))=false from beq_eq_false_iff_ne.2 f];rfl) (CB e c b))
 rw [List.length_map] at h
 exact h
theorem uA (e:List Nd) (c:Bool) (qs:List Sq) (j:Bool) (cmp:Br→Br→Int) (g:Int) (a:List UInt8) (b:∀ y ∈ e,y.sm) (i:e.length<2^40) (d:qs.length<2^40) (o:H5 24 cmp qs):
  CO 15 [.sl (aH e) e.length c,.sl (bZ (qs.map Sq.c)) qs.length j,.int .i64 g,.str a] (.ret (.int .i64 ((jF (JO cmp) (LW cmp) e (qs.map Sq.c) g a:Nat):Int))):=by
 have h:=Rl e c (qs.map Sq.c) j (JO cmp) (LW cmp) g a b i (by rw [List.length_map];exact d)
  (by
   intro x n
   obtain ⟨q,f,rfl⟩:=List.mem_map.1 n
   obtain ⟨l,k,m⟩:=o q f
   unfold JO LW
   rw [show Ig (Sq.c q).bx=q.l from Cb q.l]
   exact ⟨Eh q.nm q.u1 q.u2 q.l cmp l k m,fun _=>KY q.nm q.u1 q.u2 q.l cmp l k m⟩)
  (fun f=>aci e c (dH e) [] 0 (by rw [show (dH e==((0:Nat):Int))=false from beq_eq_false_iff_ne.2 f];rfl) (zB e c b))
 rw [List.length_map] at h
 exact h
def Et (so sp:List UInt8→Nat) (x:List UInt8):Bool:= !(decide (((1:Nat):Int)<((so x:Nat):Int))) && !(decide (((1:Nat):Int)<((sp x:Nat):Int)))
def Stn (e:List Nd) (ne:Bool) (sc:List Sc) (ns:Bool) (nl:List (List UInt8)) (nb:Bool) (k:Nat):St:=⟨[(0,.sl (aH e) e.length ne),(1,.sl (bZ sc) sc.length ns),(2,.sl (List.map AV.str nl) nl.length nb),(7,.int .i64 (k:Int))],[],.dead,[]⟩
def aeg (e:List Nd) (ne:Bool):Bool→St
 |true=> ⟨[(0,.sl (aH e) e.length ne)],[],.dead,[]⟩
 |false=> ⟨[(6,.bool false)],[],.dead,[]⟩
def En:Bool→bM
 |true=> .exit 0
 |false=> .ret
theorem Ry {a:List (List UInt8)} {k:Nat} (h:k<a.length):List.drop (Int.toNat (k:Int)*1) (List.map AV.str a)= [AV.str a[k]]++List.map AV.str (a.drop (k+1)):=by
 rw [aA,Nat.mul_one,← List.map_drop,List.drop_eq_getElem_cons h];rfl
theorem akD {nt:Nat} (f:39≤nt) (e:List Nd) (g:Bool) (c:List Sc) (j:Bool) (a:List (List UInt8)) (v:Bool) (q n:List UInt8→Nat) (s:a.length<2^40) (h:∀ x ∈ a,CO 15 [.sl (aH e) e.length g,.sl (bZ c) c.length j,.int .i64 6,.str x] (.ret (.int .i64 ((q x:Nat):Int)))) (o:∀ x ∈ a,CO 15 [.sl (aH e) e.length g,.sl (bZ c) c.length j,.int .i64 8,.str x] (.ret (.int .i64 ((n x:Nat):Int)))):∀ (r p:List (List UInt8)),p++r=a→
  aF prog ap [] nt (ae 0 (af f18)) En (Stn e g c j a v) (aeg e g) p.length (r.all (Et q n)):=by
 intro r
 induction r with
 |nil=>
  intro p hp
  rw [List.append_nil] at hp
  subst hp
  have h0:(decide ((p.length:Int)<(p.length:Int)))=false:=decide_eq_false (by omega)
  exact .done (pN 18 [] 1 0 (.c (aB h0) .nil) (.nil) f)
 | cons x r ih=>
  intro p hp
  have t:p.length<a.length:=by rw [← hp];simp
  have l:a[p.length]=x:=by subst hp;simp
  have b:=Ry t
  rw [l] at b
  have d:=ih (p++ [x]) (by rw [← hp];simp)
  rw [List.length_append,List.length_singleton] at d
  have m:=h x (by rw [← hp];simp)
  have i:=o x (by rw [← hp];simp)
  generalize p.length=k at*
  generalize List.map AV.str (a.drop (k+1))=rx at b
  have h0:(decide ((k:Int)<(a.length:Int)))=true:=decide_eq_true (by omega)
  have u:k<2^62:=by omega
  rcases tf (decide (((1:Nat):Int)<(((q x):Nat):Int))) with d0|d0
  ·simp only [List.all_cons,Et,d0,Bool.not_true,Bool.not_false,Bool.true_and,Bool.false_and,Bool.and_true,Bool.and_false]
   exact .done (pN 18 [] 3 7 (.k 1 (aC d0) (.k 1 (aQ k) (.c h0 (.k 1 (aQ k) (.c h0 (.c (aC h0) .nil)))))) (.c i (.v 30 (.ppt b) (.c m (.v 23 (.ppt b) .nil)))) f)
  ·rcases tf (decide (((1:Nat):Int)<(((n x):Nat):Int))) with d1|d1
   ·simp only [List.all_cons,Et,d0,d1,Bool.not_true,Bool.not_false,Bool.true_and,Bool.false_and,Bool.and_true,Bool.and_false]
    exact .done (pN 18 [] 3 5 (.c (aC d1) (.c (aB d0) (.k 1 (aQ k) (.c h0 (.k 1 (aQ k) (.c h0 (.c (aC h0) .nil))))))) (.c i (.v 30 (.ppt b) (.c m (.v 23 (.ppt b) .nil)))) f)
   ·simp only [List.all_cons,Et,d0,d1,Bool.not_true,Bool.not_false,Bool.true_and,Bool.false_and,Bool.and_true,Bool.and_false]
    exact .next (pN 18 [] 3 1 (.c (aB d1) (.c (aB d0) (.k 1 (aQ k) (.c h0 (.k 1 (aQ k) (.c h0 (.c (aC h0) .nil))))))) (.v 18 (.eq (ja u)) (.c i (.v 30 (.ppt b) (.c m (.v 23 (.ppt b) .nil))))) f) d
theorem ac3 (e:List Nd) (a:Bool) (c:List Sc) (g:Bool) (b:List (List UInt8)) (d:Bool) (w:Int) (z:(w==((0:Nat):Int))=false) (f:CO 48 [.sl (aH e) e.length a] (.ret (.int .i64 w))):CO 18 [.sl (aH e) e.length a,.sl (bZ c) c.length g,.sl (List.map AV.str b) b.length d] (.ret (.bool false)):=pK [] 1 1 (.c (dK z) .nil) (.c f .nil)
theorem ac5 (e:List Nd) (a:Bool) (c:List Sc) (f:Bool) (b:List (List UInt8)) (d:Bool) (w:Int) (z:(w==((0:Nat):Int))=true) (g:CO 48 [.sl (aH e) e.length a] (.ret (.int .i64 w))) (h:aI prog ap [] 39 (.block 0 (.loop (ae 0 (af f18)))) ⟨[(0,.sl (aH e) e.length a),(1,.sl (bZ c) c.length f),(2,.sl (List.map AV.str b) b.length d),(6,.bool false),(7,.int .i64 0),(8,.dead),(9,.dead),(12,.bool (!(w==((0:Nat):Int)))),(16,.dead),(38,.dead)],[],.dead,[]⟩ (.normal) ⟨[(0,.sl (aH e) e.length a)],[],.dead,[]⟩):CO 18 [.sl (aH e) e.length a,.sl (bZ c) c.length f,.sl (List.map AV.str b) b.length d] (.ret (.bool true)):=pK [0] 1 0 (.c (aS z) .nil) (.l h (.c g .nil))
theorem ac4 (e:List Nd) (c:Bool) (b:List Sc) (f:Bool) (a:List (List UInt8)) (d:Bool) (w:Int) (z:(w==((0:Nat):Int))=true) (g:CO 48 [.sl (aH e) e.length c] (.ret (.int .i64 w))) (h:aI prog ap [] 39 (.block 0 (.loop (ae 0 (af f18)))) ⟨[(0,.sl (aH e) e.length c),(1,.sl (bZ b) b.length f),(2,.sl (List.map AV.str a) a.length d),(6,.bool false),(7,.int .i64 0),(8,.dead),(9,.dead),(12,.bool (!(w==((0:Nat):Int)))),(16,.dead),(38,.dead)],[],.dead,[]⟩ (.ret) ⟨[(6,.bool false)],[],.dead,[]⟩):CO 18 [.sl (aH e) e.length c,.sl (bZ b) b.length f,.sl (List.map AV.str a) a.length d] (.ret (.bool false)):=pK [0] 1 0 (.c (aS z) .nil) (.l h (.c g .nil))
theorem Jb (e:List Nd) (c:Bool) (b:List Sc) (d:Bool) (a:List (List UInt8)) (f:Bool) (j i:List UInt8→Nat) (m:∀ y ∈ e,y.sm) (g:a.length<2^40) (k:∀ x ∈ a,CO 15 [.sl (aH e) e.length c,.sl (bZ b) b.length d,.int .i64 6,.str x] (.ret (.int .i64 ((j x:Nat):Int)))) (n:∀ x ∈ a,CO 15 [.sl (aH e) e.length c,.sl (bZ b) b.length d,.int .i64 8,.str x] (.ret (.int .i64 ((i x:Nat):Int)))):
  CO 18 [.sl (aH e) e.length c,.sl (bZ b) b.length d,.sl (List.map AV.str a) a.length f] (.ret (.bool ((dH e==((0:Nat):Int)) && a.all (Et j i)))):=by
 have l:=zB e c m
 rcases tf (dH e==((0:Nat):Int)) with z|z
 ·rw [z,Bool.true_and]
  have h:∀ nt,39≤nt→aF prog ap [] nt (ae 0 (af f18)) En (Stn e c b d a f) (aeg e c) 0 (a.all (Et j i)):=fun nt p=>akD p e c b d a f j i g k n a [] rfl
  cases o:a.all (Et j i) with
  |true=>rw [o] at h;exact ac5 e c b d a f _ z l (aF.blk h (by simp [En]) rfl (aK.of ⟨rfl,rfl,rfl,rfl,trivial⟩) (aK.of ⟨rfl,trivial⟩))
  |false=>rw [o] at h;exact ac4 e c b d a f _ z l (aF.blk h (by simp [En]) rfl (aK.of ⟨rfl,rfl,rfl,rfl,trivial⟩) (aK.of ⟨rfl,trivial⟩))
 ·rw [z,Bool.false_and]
  exact ac3 e c b d a f _ z l
end Go.Proofs.Tryz
open Go AM Go.RowKit Go.Shelf
namespace Go.Proofs.Tryz
attribute [local go_sem] Oper.semAt_some
theorem ny {W W':World} (h:Below W.heap.size W W'):mD (dX W) (dX W'):=by
 intro k o v a
 have b:=JK a
 rw [← a]
 unfold dX
 rw [h.block k b,World.cell?_of_block (h.block k b)]
theorem ui {W W':World} (h:Below W.heap.size W W') (c:lS ap (dX W)):lS ap (dX W'):=by
 intro k d e
 obtain ⟨vs,f,b⟩:=c k d e
 exact ⟨vs,bP (ny h) _ f,fun j u a=> ⟨ny h _ _ _ (b j u a).1,(b j u a).2⟩⟩
theorem am8 {W:World} (a:lS ap (dX W)) (m:bf):b_ ap (bI []) m (dX W) W:=
 ⟨fun b c B B' h=>by simp [bI] at h,fun b B h=>by simp [bI] at h,fun k o v h=>h,fun b B h=>by simp [bI] at h,a⟩
theorem uX {f:Nat} {args:List AV} {d:IntKind} {x:Int} (m:CO f args (.ret (.int d x))) {W:World} (j:lS ap (dX W)) {cargs:List Value} (l:dL (dX W) args cargs) {n:Nat}:
  CallsIn Fence.wide n prog f cargs.toArray W fun e W'=>e= .returned (.int d x)∧Below W.heap.size W W':=by
 refine callsIn_wide.2 ?_
 refine (m.calls (fun _=>(0,0)) (dX W) W cargs (am8 j _) (bW _ l)).mono ?_
 rintro e W' ⟨m',S',hF⟩
 obtain ⟨_,a,c⟩:=hF
 obtain ⟨cv,rfl,g⟩:=c
 simp only [xA,VR,PR] at g
 subst g
 exact ⟨rfl,a.os,a.tape,a.output,a.size,fun k i=>a.rest k i fun b B h=>by simp [bI] at h⟩
theorem Di {W W':World} (h:Below W.heap.size W W') (a:Option Nat):W.grownBy W' a:=
 ⟨h.os,h.tape,h.output,h.size,fun k b _=>h.block k b⟩
def kY (f g:Nat→Int) (k:Nat):List Int:=(List.range k).flatMap fun j=> [f j,g j]
theorem r_ (f g:Nat→Int) (k:Nat):kY f g (k+1)=kY f g k++ [f k]++ [g k]:=by simp [kY,List.range_succ]
theorem rZ (f g:Nat→Int) (k:Nat):(kY f g k).length=2*k:=by
 induction k with
 |zero=>rfl
 |succ k ih=>rw [r_];simp [ih];omega
theorem Sj (f g:Nat→Int) {k n:Nat} (h:k≤n):kY f g k<+:kY f g n:=by
 induction n with
 |zero=>
  obtain rfl:k=0:=by omega
  exact List.prefix_refl _
 |succ n ih=>
  by_cases hk:k=n+1
  ·subst hk;exact List.prefix_refl _
  ·exact (ih (by omega)).trans (by rw [r_,List.append_assoc];exact List.prefix_append _ _)
set_option maxRecDepth 100000 in
set_option maxHeartbeats 4000000 in
theorem Oi (n:Nat) (hn:2≤n) (l kn ke ks n₀ b off len cap:Nat) (E SC:AV) (ue us:Value) (ns:Nat→List UInt8) (so sp:Nat→Int) (hreach:len*16≤140737488351232)
  (hso:∀ k,k<len→CO 14 [E,SC,.int .i64 6,.str (ns k)] (.ret (.int .i64 (so k)))) (hsp:∀ k,k<len→CO 14 [E,SC,.int .i64 8,.str (ns k)] (.ret (.int .i64 (sp k))))
  (J Jx:List Int→World→Prop) (W:World) (hAJ:AbidesFrom W.heap.size J)
  (hY:∀ pre x W1,J pre W1→pre.length<2*len→YieldAt Fence.wide (n - 1) prog l #[.int .i64 x] W1 fun e W'=>
   (e= .returned (.bool true)∧J (pre++ [x]) W'∧Below n₀ W1 W')∨(e= .returned (.bool false)∧Jx (pre++ [x]) W'))
  (hn0:n₀≤W.heap.size) (hbn:b<n₀) (hkn:kn<n₀) (hke:ke<n₀) (hks:ks<n₀)
  (w0:World) (hw0:w0.heap.size=n₀) (hW:Below n₀ w0 W) (hg:lS ap (dX w0)) (hpr:dL (dX w0) [E,SC] [ue,us])
  (cn:w0.cell? ⟨kn,0,none⟩=some (.slice (some ⟨b,off,none⟩) len cap)) (ce:w0.cell? ⟨ke,0,none⟩=some ue) (cs:w0.cell? ⟨ks,0,none⟩=some us)
  (hc:∀ j,j<len→w0.cell? ⟨b,off+j,none⟩=some (.string ⟨(ns j).toArray⟩)) (h0:J [] W):
  CallsIn Fence.wide n prog 73 #[.func (.yield l) #[] #[],.pointer (some ⟨kn,0,none⟩),.pointer (some ⟨ke,0,none⟩),.pointer (some ⟨ks,0,none⟩)] W fun e W'=>(∃ v,e= .returned v)∧
   ((∃ ys,ys=kY so sp len∧J ys W')∨(∃ pre,pre<+:kY so sp len∧Jx pre W')):=by
 have kee:∀ (w:World),Below n₀ w0 w→∀ (k j:Nat) (v:Value),k<n₀→w0.cell? ⟨k,j,none⟩=some v→w.cell? ⟨k,j,none⟩=some v:=fun w h k j v hk hv=>(Below.cell h (p:=⟨k,j,none⟩) hk).trans hv
 have cn':=kee _ hW _ _ _ hkn cn
 refine callsIn_of_wp Tryz.func73 rfl trivial ?_ rfl
 simp only [Tryz.ntmps73,List.size_toArray,List.length_cons,List.length_nil,Nat.reduceAdd,Nat.reduceSub,Array.replicate_succ,Array.replicate_zero,List.push_toArray,List.append_toArray,List.nil_append,List.cons_append]
 gi_wp2
 gi_loopw [9] (fun i wr=> ∃ k:Nat,k≤len∧i= .int .i64 k∧J (kY so sp k) wr∧Below n₀ w0 wr∧W.heap.size≤wr.heap.size)
  (fun i _=>len - (intOf i).toNat)
 case atStart=>exact ⟨0,Nat.zero_le _,rfl,h0,hW,Nat.le_refl _⟩
 case round=>
  obtain ⟨k,hk,rfl,hJs,hnx,hsz⟩:=hrel
  have hcx:k<len→wr.cell? ⟨b,off+k,none⟩=some (.string ⟨(ns k).toArray⟩):=fun h=>kee _ hnx _ _ _ hbn (hc k h)
  have ce1:=kee _ hnx _ _ _ hke ce
  have cs1:=kee _ hnx _ _ _ hks cs
  by_cases hlt:k<len
  ·have hcx':=hcx hlt
   have bW1:∀ (w:World),Below n₀ w0 w→Below w0.heap.size w0 w:=fun w h=>by rw [hw0];exact h
   have PR4:∀ (w:World) (op:Int),Below n₀ w0 w→dL (dX w) [E,SC,.int .i64 op,.str (ns k)] [ue,us,.int .i64 op,.string ⟨(ns k).toArray⟩]:=fun w op h=>by
    have h2:=bP (ny (bW1 w h)) _ hpr
    simp only [dL,PR] at h2 ⊢
    exact ⟨h2.1,h2.2.1,trivial,trivial,trivial⟩
   have LE1:kY so sp len=kY so sp k++ [so k]++ [sp k]++(kY so sp len).drop (2*(k+1)):=by
    rw [← r_]
    obtain ⟨r,hr⟩:=Sj so sp (show k+1≤len by omega)
    conv=>rhs;rw [← hr]
    rw [List.drop_left' (rZ ..)]
    exact hr.symm
   have hf14:Fence.wide.fn 14:=trivial
   have h1n:1≤n:=by omega
   gi_wp2_with (gi_at_call 14;refine (uX (hso k hlt) (ui (bW1 _ hnx) hg) (PR4 _ 6 hnx)).mono ?_;rintro e W1 ⟨rfl,hb1⟩;have hJ1:=hAJ _ _ _ none hJs (Di hb1 none) (fun r e=>by cases e);have hnx1:Below n₀ w0 W1:=hnx.trans (hb1.mono (by omega));obtain ⟨fn,tmps,assign,body,hy,hR⟩:=hY _ (so k) W1 hJ1 (by rw [rZ];omega))
   refine hR.mono ?_
   rintro e W3 (⟨rfl,hJ3,hk3⟩|⟨rfl,hJx3⟩)
   ·have hnx3:=hnx1.trans hk3
    have ce3:=kee _ hnx3 _ _ _ hke ce
    have cs3:=kee _ hnx3 _ _ _ hks cs
    gi_wp2_with (gi_at_call 14;refine (uX (hsp k hlt) (ui (bW1 _ hnx3) hg) (PR4 _ 8 hnx3)).mono ?_;rintro e W4 ⟨rfl,hb4⟩;have hJ4:=hAJ _ _ _ none hJ3 (Di hb4 none) (fun r e=>by cases e);have hnx4:Below n₀ w0 W4:=hnx3.trans (hb4.mono (by rw [← hw0];exact hnx3.size));obtain ⟨fn4,tmps4,assign4,body4,hy4,hR4⟩:=hY _ (sp k) W4 hJ4 (by rw [List.length_append,rZ,List.length_singleton];omega))
    refine hR4.mono ?_
    rintro e W5 (⟨rfl,hJ5,hk5⟩|⟨rfl,hJx5⟩)
    ·gi_wp2
     go_roundw
     case rel=>exact ⟨k+1,by omega,by simp,by rw [r_];exact hJ5,hnx4.trans hk5,by have:=hb1.size;have:=hk3.size;have:=hb4.size;have:=hk5.size;omega⟩
     case measure=>simp [intOf];omega
    ·gi_wp2
     refine bodyPost_ret (results_none rfl _ _ _) rfl ?_
     exact ⟨⟨_,rfl⟩,.inr ⟨_,by rw [LE1];exact List.prefix_append _ _,hJx5⟩⟩
   ·gi_wp2_with (refine ⟨fun _ _=>trivial, ?_⟩)
    refine bodyPost_ret (results_none rfl _ _ _) rfl ?_
    exact ⟨⟨_,rfl⟩,.inr ⟨_,by rw [LE1,List.append_assoc];exact List.prefix_append _ _,hJx3⟩⟩
  ·obtain rfl:k=len:=by omega
   gi_wp2
   go_end0
   exact ⟨⟨_,rfl⟩,.inl ⟨_,rfl,hJs⟩⟩
attribute [local go_sem] Oper.semAt_some
theorem Ro (a1 a2 a3:Option Addr) (l1 l2 l3 c1 c2 c3:Nat) (n:Nat) (w:World):
  CallsIn Fence.wide n prog 47 #[.slice a1 l1 c1,.slice a2 l2 c2,.slice a3 l3 c3] w fun e w'=>e= .returned (.func (.func 73) #[] #[.pointer (some ⟨w.heap.size+2,0,none⟩),.pointer (some ⟨w.heap.size,0,none⟩),.pointer (some ⟨w.heap.size+1,0,none⟩)])∧w'=((w.alloc (.cells #[.slice a1 l1 c1] 25)).alloc (.cells #[.slice a2 l2 c2] 27)).alloc (.cells #[.slice a3 l3 c3] 29):=by
 refine callsIn_of_wp Tryz.func47 rfl trivial ?_ rfl
 simp only [Tryz.ntmps47,List.size_toArray,List.length_cons,List.length_nil,Nat.reduceAdd,Nat.reduceSub,Array.replicate_succ,Array.replicate_zero,List.push_toArray,List.append_toArray,List.nil_append,List.cons_append]
 gi_wp2
 go_ret
 refine ⟨?_,rfl⟩
 simp
theorem Vz {w:World} {tmps:Array Value} {k:Nat} {b:Bool} (e:tmps.getD 6 undef= .pointer (some ⟨k,0,none⟩)) (f:w.cell? ⟨k,0,none⟩=some (.bool b)):(results f17 tmps).run prog w= .ok (.bool b) w:=by
 refine uF (vs:= [.bool b]) rfl ?_
 intro i r v c a
 match i with
 | 0=>
  simp only [List.getElem?_cons_zero,Option.some.injEq] at a
  subst a
  have:r= .cell 6 4:=by
   have h0:f17.results.toList[0]? =some (.cell 6 4):=rfl
   rw [h0] at c;exact (Option.some.inj c).symm
  subst this
  have d:prog.underlying 4=some .bool:=by kernel_rfl
  simp only [He,e]
  simp [asAddr,loadVar,d,f,go_sem]
 |n+1=>simp at a
theorem Ri (E:AV) (x:Int) (hx:x ≠ 0) (hck:CO 21 [E] (.ret (.int .i64 x))) (n:Nat) (hn:3≤n) (ue us un:Value) (w:World) (hg:lS ap (dX w)) (hpr:dL (dX w) [E] [ue]):
  CallsIn Fence.wide n prog 17 #[ue,us,un] w fun e w'=>e= .returned (.bool false)∧Below w.heap.size w w':=by
 have h21:Fence.wide.fn 21:=trivial
 have h1n:1≤n:=by omega
 have ha:Below w.heap.size w (w.alloc (.cells #[.bool false] 4)):=(Below.refl _ w).alloc (Nat.le_refl _) _
 have hx':decide (x=0)=false:=decide_eq_false hx
 refine callsIn_of_wp_marks Tryz.func17 rfl trivial ?_ rfl
 simp only [Tryz.ntmps17,List.size_toArray,List.length_cons,List.length_nil,Nat.reduceAdd,Nat.reduceSub,Array.replicate_succ,Array.replicate_zero,List.push_toArray,List.append_toArray,List.nil_append,List.cons_append]
 gi_wp2_with (gi_at_call 21;refine (uX hck (ui ha hg) (bP (ny ha) _ hpr)).mono ?_;rintro e W1 ⟨rfl,hb1⟩;have hc1:=(hb1.cell (p:=⟨w.heap.size,0,none⟩) (by simp)).trans (show (w.alloc (.cells #[.bool false] 4)).cell? ⟨w.heap.size,0,none⟩=some (.bool false) by simp);have hf1:=(hb1.frozen (p:=⟨w.heap.size,0,none⟩) (by simp)).trans (show (w.alloc (.cells #[.bool false] 4)).frozen? ⟨w.heap.size,0,none⟩=false by simp))
 exact ⟨_,Vz rfl (World.cell?_setCell_same' _ _ _ (by rw [hc1];rfl)),rfl,(ha.trans (hb1.mono (by simp))).setCell (p:=⟨w.heap.size,0,none⟩) (Nat.le_refl _) _⟩
attribute [local go_sem] Oper.semAt_some
set_option maxRecDepth 100000 in
set_option maxHeartbeats 1000000 in
theorem Lp (n:Nat) (l kn ke ks cap:Nat) (an:Option Addr) (so sp:Nat→Int) (J Jx:List Int→World→Prop) (W:World) (cn:W.cell? ⟨kn,0,none⟩=some (.slice an 0 cap)) (h0:J [] W):
  CallsIn Fence.wide n prog 73 #[.func (.yield l) #[] #[],.pointer (some ⟨kn,0,none⟩),.pointer (some ⟨ke,0,none⟩),.pointer (some ⟨ks,0,none⟩)] W fun e W'=>(∃ v,e= .returned v)∧
   ((∃ ys,ys=kY so sp 0∧J ys W')∨(∃ pre,pre<+:kY so sp 0∧Jx pre W')):=by
 refine callsIn_of_wp Tryz.func73 rfl trivial ?_ rfl
 simp only [Tryz.ntmps73,List.size_toArray,List.length_cons,List.length_nil,Nat.reduceAdd,Nat.reduceSub,Array.replicate_succ,Array.replicate_zero,List.push_toArray,List.append_toArray,List.nil_append,List.cons_append]
 gi_wp2
 gi_loopw [9] (fun i wr=>i= .int .i64 0∧J [] wr) (fun _ _=>0)
 case atStart=>exact ⟨rfl,h0⟩
 case round=>
  obtain ⟨rfl,hJs⟩:=hrel
  gi_wp2
  go_end0
  exact ⟨⟨_,rfl⟩,.inl ⟨_,rfl,hJs⟩⟩
theorem Jg (n:Nat) (A:2≤n) (f g ks b d c:Nat) (i:Option Addr) (E SC:AV) (u q:Value) (a:List (List UInt8)) (t r:List UInt8→Int) (hreach:a.length*16≤140737488351232)
  (hso:∀ s ∈ a,CO 14 [E,SC,.int .i64 6,.str s] (.ret (.int .i64 (t s)))) (hsp:∀ s ∈ a,CO 14 [E,SC,.int .i64 8,.str s] (.ret (.int .i64 (r s))))
  (w:World) (hg:lS ap (dX w)) (hpr:dL (dX w) [E,SC] [u,q]) (hkn:f<w.heap.size) (hke:g<w.heap.size) (hks:ks<w.heap.size)
  (cn:w.cell? ⟨f,0,none⟩=some (.slice i a.length c)) (ce:w.cell? ⟨g,0,none⟩=some u) (cs:w.cell? ⟨ks,0,none⟩=some q)
  (hc:0<a.length→i=some ⟨b,d,none⟩∧b<w.heap.size∧∀ j,j<a.length→w.cell? ⟨b,d+j,none⟩=some (.string ⟨((a[j]?).getD []).toArray⟩)):
  SeqStopsK Fence.wide n prog 73 #[.pointer (some ⟨f,0,none⟩),.pointer (some ⟨g,0,none⟩),.pointer (some ⟨ks,0,none⟩)] (fun x:Int=> #[Value.int .i64 x]) (Below w.heap.size)
   (fun C=>C=kY (fun k=>t ((a[k]?).getD [])) (fun k=>r ((a[k]?).getD [])) a.length) (fun pre=>pre<+:kY (fun k=>t ((a[k]?).getD [])) (fun k=>r ((a[k]?).getD [])) a.length) (2*a.length) w:=by
 intro l J Jx W o B _ y h0
 have v:∀ k,k<a.length→(a[k]?).getD [] ∈ a:=fun k e=>by rw [List.getElem?_eq_getElem e];exact List.getElem_mem e
 by_cases h:0<a.length
 ·obtain ⟨rfl,z,m⟩:=hc h
  exact Oi n A l f g ks w.heap.size b d a.length c E SC u q (fun k=>(a[k]?).getD []) _ _ hreach (fun k e=>hso _ (v k e)) (fun k e=>hsp _ (v k e)) J Jx W B y o.size z hkn hke hks w rfl o hg hpr cn ce cs m h0
 ·have D:a.length=0:=by omega
  rw [D] at cn ⊢
  exact Lp n l f g ks c i _ _ J Jx W ((o.cell (p:=⟨f,0,none⟩) hkn).trans cn) h0
set_option maxRecDepth 100000 in
set_option maxHeartbeats 2000000 in
theorem Oe (E SC:AV) (hck:CO 21 [E] (.ret (.int .i64 0))) (ns:List (List UInt8)) (so sp:List UInt8→Int) (hreach:ns.length*16≤140737488351232)
  (hso:∀ s ∈ ns,CO 14 [E,SC,.int .i64 6,.str s] (.ret (.int .i64 (so s)))) (hsp:∀ s ∈ ns,CO 14 [E,SC,.int .i64 8,.str s] (.ret (.int .i64 (sp s)))) (n:Nat) (hn:4≤n)
  (a1 a2 an:Option Addr) (l1 l2 c1 c2 cap b off:Nat) (w:World) (hg:lS ap (dX w)) (hpr:dL (dX w) [E,SC] [.slice a1 l1 c1,.slice a2 l2 c2])
  (hc:0<ns.length→an=some ⟨b,off,none⟩∧∀ j,j<ns.length→w.cell? ⟨b,off+j,none⟩=some (.string ⟨((ns[j]?).getD []).toArray⟩)):
  CallsIn Fence.wide n prog 17 #[.slice a1 l1 c1,.slice a2 l2 c2,.slice an ns.length cap] w fun e w'=>e= .returned (.bool ((kY (fun k=>so ((ns[k]?).getD [])) (fun k=>sp ((ns[k]?).getD [])) ns.length).all fun x=>decide (x≤1)))∧Below w.heap.size w w':=by
 have h21:Fence.wide.fn 21:=trivial
 have h47:Fence.wide.fn 47:=trivial
 have h1n:1≤n:=by omega
 have ha:Below w.heap.size w (w.alloc (.cells #[.bool false] 4)):=(Below.refl _ w).alloc (Nat.le_refl _) _
 have hpe:dL (dX w) [E] [.slice a1 l1 c1]:=by simp only [dL] at hpr ⊢;exact ⟨hpr.1,trivial⟩
 refine callsIn_of_wp_marks Tryz.func17 rfl trivial ?_ rfl
 simp only [Tryz.ntmps17,List.size_toArray,List.length_cons,List.length_nil,Nat.reduceAdd,Nat.reduceSub,Array.replicate_succ,Array.replicate_zero,List.push_toArray,List.append_toArray,List.nil_append,List.cons_append]
 gi_wp2_with (first
  |(gi_at_call 21;refine (uX hck (ui ha hg) (bP (ny ha) _ hpe)).mono ?_;rintro e W1 ⟨rfl,hb1⟩)
  |(gi_at_call 47;refine (Ro a1 a2 an l1 l2 ns.length c1 c2 cap _ _).mono ?_;rintro e W2 ⟨rfl,rfl⟩)
  |gi_in)
 obtain ⟨W3,hW3⟩:∃ W3,((W1.alloc (.cells #[.slice a1 l1 c1] 25)).alloc (.cells #[.slice a2 l2 c2] 27)).alloc (.cells #[.slice an ns.length cap] 29)=W3:=⟨_,rfl⟩
 rw [hW3]
 have hs3:W3.heap.size=W1.heap.size+3:=by rw [← hW3];simp
 have hb3:Below W1.heap.size W1 W3:=by rw [← hW3];exact (((Below.refl _ W1).alloc (Nat.le_refl _) _).alloc (by simp) _).alloc (by simp;omega) _
 have hs1:w.heap.size+1≤W1.heap.size:=by have:=hb1.size;simpa using this
 have hwW1:Below w.heap.size w W1:=ha.trans (hb1.mono (by simp))
 have hw3:Below w.heap.size w W3:=hwW1.trans (hb3.mono (by omega))
 have k1:W3.cell? ⟨W1.heap.size,0,none⟩=some (.slice a1 l1 c1):=by rw [← hW3];exact (((Boxed.new W1 25 (.slice a1 l1 c1)).alloc _).alloc _).cell
 have k2:W3.cell? ⟨W1.heap.size+1,0,none⟩=some (.slice a2 l2 c2):=by
  have:=((Boxed.new (W1.alloc (.cells #[.slice a1 l1 c1] 25)) 27 (.slice a2 l2 c2)).alloc (.cells #[.slice an ns.length cap] 29)).cell
  rw [World.size_alloc] at this
  rw [← hW3];exact this
 have k3:W3.cell? ⟨W1.heap.size+2,0,none⟩=some (.slice an ns.length cap):=by
  have:=(Boxed.new ((W1.alloc (.cells #[.slice a1 l1 c1] 25)).alloc (.cells #[.slice a2 l2 c2] 27)) 29 (.slice an ns.length cap)).cell
  rw [World.size_alloc,World.size_alloc] at this
  rw [← hW3];exact this
 have kc:W3.cell? ⟨w.heap.size,0,none⟩=some (.bool false):=((hb3.cell (p:=⟨w.heap.size,0,none⟩) hs1).trans (hb1.cell (p:=⟨w.heap.size,0,none⟩) (by simp))).trans (Boxed.new w 4 (.bool false)).cell
 have kf:W3.frozen? ⟨w.heap.size,0,none⟩=false:=((hb3.frozen (p:=⟨w.heap.size,0,none⟩) hs1).trans (hb1.frozen (p:=⟨w.heap.size,0,none⟩) (by simp))).trans (Boxed.new w 4 (.bool false)).frozen
 have hc3:0<ns.length→an=some ⟨b,off,none⟩∧b<W3.heap.size∧∀ j,j<ns.length→W3.cell? ⟨b,off+j,none⟩=some (.string ⟨((ns[j]?).getD []).toArray⟩):=by
  intro h
  obtain ⟨h1,h2⟩:=hc h
  have hbl:b<w.heap.size:=World.block_lt_of_cell? w ⟨b,off+0,none⟩ (h2 0 h)
  exact ⟨h1,by omega,fun j hj=>(hw3.cell (p:=⟨b,off+j,none⟩) hbl).trans (h2 j hj)⟩
 have oB:∀ {A B:World} {row:Option Nat},Below w.heap.size w A→A.grownBy B row→(∀ r,row=some r→W3.heap.size≤r∧∃ o:Obj,A.heap[r]? =some o∧o.isCells=false)→Below w.heap.size w B:=
  fun h hg hr=>ownFrom_below (β:=Unit) (n₀:=w.heap.size) (B:=W3.heap.size) (w₀:=w) (Nat.le_refl _) hw3.size () _ _ _ h hg hr
 have oC:∀ {A:World} {D:Nat} {o:Obj} {v:Value},W3.heap.size≤D→A.cell? ⟨w.heap.size,0,none⟩=some v→(A.putObj D o).cell? ⟨w.heap.size,0,none⟩=some v:=
  fun {A D o v} hD hv=>(World.cell?_of_block (World.putObj_heap_other (show w.heap.size ≠ D by omega))).trans hv
 have pB:∀ {A:World} {D:Nat} {o:Obj},W3.heap.size≤D→Below w.heap.size w A→Below w.heap.size w (A.putObj D o):=
  fun {A D o} hD h=>h.trans ((Below.refl _ A).grown (grownBy_putObj' A D o) h.size (fun k e=>by cases e;omega))
 refine wpIn_rangeFunc_ownF rfl h1n (gf:=73) (lb:=#[.pointer (some ⟨W1.heap.size+2,0,none⟩),.pointer (some ⟨W1.heap.size,0,none⟩),.pointer (some ⟨W1.heap.size+1,0,none⟩)]) rfl trivial (enters_of Tryz.func73 (by kernel_rfl) rfl)
  (Jg (n - 1) (by omega) (W1.heap.size+2) W1.heap.size (W1.heap.size+1) b off cap an E SC _ _ ns so sp hreach hso hsp W3 (ui hw3 hg) (bP (ny hw3) _ hpr) (by omega) (by omega) (by omega) k3 k1 k2 hc3)
  (fun h k=>h.trans k) (fun W l o o' hl h hc hw=>belowK_b (Nat.le_refl _) W l o o' hl h hc hw) (Below.refl _ _) (fun _=>rfl)
  (fun pre W=>(∀ x ∈ pre,x≤1)∧W.cell? ⟨w.heap.size,0,none⟩=some (.bool false)∧W.frozen? ⟨w.heap.size,0,none⟩=false∧Below w.heap.size w W)
  (fun c pre W=>c= .ret∧(∃ x ∈ pre,¬ x≤1)∧W.cell? ⟨w.heap.size,0,none⟩=some (.bool false)∧Below w.heap.size w W)
  (fun s A B row hs hg hr=> ⟨hs.1,cell_kept hs.2.1 hg (fun r e=>(hr r e).2),(frozen_kept hs.2.1 hg (fun r e=>(hr r e).2)).trans hs.2.2.1,oB hs.2.2.2 hg hr⟩)
  (fun c s A B row hs hg hr=> ⟨hs.1,hs.2.1,cell_kept hs.2.2.1 hg (fun r e=>(hr r e).2),oB hs.2.2.2 hg hr⟩)
  ⟨by simp,kc,kf,hw3⟩
  (fun x=> {tmps:=#[.slice a1 l1 c1,.slice a2 l2 c2,.slice an ns.length cap,undef,undef,undef,.pointer (some ⟨w.heap.size,0,none⟩),.int .i64 x,.slice a1 l1 c1,.int .i64 0,.bool false,.slice a1 l1 c1,.slice a2 l2 c2,.slice an ns.length cap,.func (.func 73) #[] #[.pointer (some ⟨W1.heap.size+2,0,none⟩),.pointer (some ⟨W1.heap.size,0,none⟩),.pointer (some ⟨W1.heap.size+1,0,none⟩)],.int .i64 x,undef,undef],defers:= []}) ?assign ?body ?done ?stop
 case assign=>
  intro l x W K hK
  gi_wp2
  exact hK
 case body=>
  rintro l pre x W ⟨hp,hcW,hfW,hbW⟩ _
  by_cases hx:x≤1
  ·have hx1:¬ (1<x):=by omega
   gi_wp2
   exact ⟨KeepsOthers.refl _,Below.refl _ _,(fun y hy=>by rcases List.mem_append.1 hy with h|h;exact hp y h;rw [List.mem_singleton.1 h];exact hx),hcW,hfW,hbW⟩
  ·have hx1:1<x:=by omega
   gi_wp2
   exact ⟨KeepsOthers.setCell _ _ _,rfl,⟨x,by simp,hx⟩,World.cell?_setCell_same' _ _ _ (by rw [hcW];rfl),hbW.setCell (p:=⟨w.heap.size,0,none⟩) (Nat.le_refl _) _⟩
 case done=>
  rintro D xs W hD rfl ⟨hp,hcW,hfW,hbW⟩ hK
  gi_wp2
  have hK':(W.setCell ⟨w.heap.size,0,none⟩ (.bool true)).heap[D]? =some (.deferred (some [])):=(Below.heap_setCell W ⟨w.heap.size,0,none⟩ (.bool true) D (by show D ≠ w.heap.size;omega)).trans hK
  refine ⟨by simp,.inl ⟨_,_,rfl,run_takeDeferred hK', ?_⟩⟩
  refine ⟨_,Vz rfl (oC hD (World.cell?_setCell_same' _ _ _ (by rw [hcW];rfl))), ?_,pB hD (hbW.setCell (p:=⟨w.heap.size,0,none⟩) (Nat.le_refl _) _)⟩
  congr 2
  exact (List.all_eq_true.2 fun x hx=>decide_eq_true (hp x hx)).symm
 case stop=>
  rintro D c pre W hD hSp ⟨rfl,⟨x,hx,hx1⟩,hcW,hbW⟩ hK
  gi_wp2
  refine ⟨by simp,.inl ⟨_,_,rfl,run_takeDeferred hK, ?_⟩⟩
  refine ⟨_,Vz rfl (oC hD hcW), ?_,pB hD hbW⟩
  congr 2
  obtain ⟨r,hr⟩:=hSp
  symm
  rw [Bool.eq_false_iff]
  intro h
  rw [← hr] at h
  have h2:=of_decide_eq_true (List.all_eq_true.1 h x (List.mem_append.2 (.inl hx)))
  omega
def XX (x:AV):Prop:=x= .nilS∨∃ l n b,x= .sl l n b
theorem XX.val {S:aX} {x:AV} {v:Value} (h:XX x) (d:PR S x v):∃ a l c,v= .slice a l c:=by
 rcases h with rfl|⟨l,n,b,rfl⟩
 ·simp only [PR] at d;exact ⟨_,_,_,d⟩
 ·simp only [PR] at d;obtain ⟨a,e,rfl,_⟩:=d;exact ⟨_,_,_,rfl⟩
def V7 (ns:List (List UInt8)) (b:Bool):AV:= .sl (ns.map .str) ns.length b
theorem V8 {S:aX} {e:List (List UInt8)} {b:Bool} {v:Value} (f:PR S (V7 e b) v):∃ an c k d,v= .slice an e.length c∧(0<e.length→an=some ⟨k,d,none⟩∧∀ j,j<e.length→S k (d+j)=some (.string ⟨((e[j]?).getD []).toArray⟩)):=by
 simp only [V7,PR] at f
 obtain ⟨a,c,rfl,_,h⟩:=f
 rcases h with ⟨rfl,_,h,_⟩|⟨k,d,vs,rfl,n,m⟩
 ·exact ⟨none,c,0,0,rfl,fun i=>by have:=congrArg List.length h;simp at this;subst this;simp at i⟩
 ·refine ⟨_,c,k,d,rfl,fun _=> ⟨rfl,fun j l=> ?_⟩⟩
  obtain ⟨u,g,hp⟩:=OI n j (x:= .str ((e[j]?).getD [])) (by rw [List.getElem?_map,List.getElem?_eq_getElem l];rfl)
  simp only [PR] at hp
  rw [← hp]
  exact (m j u g).1
theorem ajH:yO prog 17:=enters_of Tryz.func17 (by kernel_rfl) rfl
theorem Ew {args:List AV} {b:Bool} (h:∀ w cargs,lS ap (dX w)→dL (dX w) args cargs→CallsIn Fence.wide 9 prog 17 cargs.toArray w fun e w'=>e= .returned (.bool b)∧Below w.heap.size w w'):CO 17 args (.ret (.bool b)):=by
 refine ⟨Nat.le_refl _,ajH, ?_⟩
 intro m S w cargs d n
 have a:mD S (dX w):=fun k o v c=>d.sealed k o v c
 have l:lS ap (dX w):=by
  intro k i c
  obtain ⟨vs,p,g⟩:=d.glob k i c
  exact ⟨vs,bP a _ p,fun j u f=> ⟨a _ _ _ (g j u f).1,(g j u f).2⟩⟩
 refine (callsIn_wide.1 (h w cargs l (bP a _ (kC (m:=m) _ n)))).mono ?_
 rintro e w' ⟨rfl,hb⟩
 refine ⟨m,S, ?_, ?_,⟨_,rfl, ?_⟩⟩
 ·exact ⟨fun b q B B' h=>by simp [bI,kW,ku] at h,fun b B h=>by simp [bI,kW,ku] at h,fun k o v h=>ny hb k o v (a k o v h),fun b B h=>by simp [bI,kW,ku] at h,d.glob⟩
 ·exact ⟨Ge.refl _ _,mD.refl S,hb.os,hb.tape,hb.output,hb.size,fun k c _=>hb.block k c,fun _ B h=>by simp [bI,kW,ku] at h,fun _ _ _ h=> .inl h⟩
 ·simp only [xA,VR,PR]
theorem VF (E SC NM:AV) (x:Int) (d:x ≠ 0) (b:CO 21 [E] (.ret (.int .i64 x))):CO 17 [E,SC,NM] (.ret (.bool false)):=by
 refine Ew fun w cargs c a=> ?_
 match cargs,a with
 | [ue,us,un],a=>
  simp only [dL] at a
  exact Ri E x d b 9 (by omega) ue us un w c (by simp only [dL];exact ⟨a.1,trivial⟩)
theorem VG (E SC:AV) (b:Bool) (D:XX E) (p:XX SC) (l:CO 21 [E] (.ret (.int .i64 0))) (a:List (List UInt8)) (d c:List UInt8→Int) (hreach:a.length*16≤140737488351232)
  (hso:∀ s ∈ a,CO 14 [E,SC,.int .i64 6,.str s] (.ret (.int .i64 (d s)))) (hsp:∀ s ∈ a,CO 14 [E,SC,.int .i64 8,.str s] (.ret (.int .i64 (c s)))):
  CO 17 [E,SC,V7 a b] (.ret (.bool (a.all fun s=>decide (d s≤1) && decide (c s≤1)))):=by
 have e:(a.all fun s=>decide (d s≤1) && decide (c s≤1))=(kY (fun k=>d ((a[k]?).getD [])) (fun k=>c ((a[k]?).getD [])) a.length).all fun x=>decide (x≤1):=by
  have:a=(List.range a.length).map fun k=>(a[k]?).getD []:=by
   apply List.ext_getElem
   ·simp
   ·intro i g o;simp [List.getElem?_eq_getElem g]
  conv=>lhs;rw [this]
  simp [kY,List.all_flatMap,List.all_map,Function.comp_def]
 rw [e]
 refine Ew fun w cargs C f=> ?_
 match cargs,f with
 | [ue,us,un],f=>
  simp only [dL] at f
  obtain ⟨g,o,y,_⟩:=f
  obtain ⟨u,t,F,rfl⟩:=D.val g
  obtain ⟨B,z,v,rfl⟩:=p.val o
  obtain ⟨r,n,k,m,rfl,q⟩:=V8 y
  exact Oe E SC l a d c hreach hso hsp 9 (by omega) u B r t z F v n k m w C (by simp only [dL];exact ⟨g,o,trivial⟩) fun h=> ⟨(q h).1,fun j A=>uQ ((q h).2 j A) rfl⟩
end Go.Proofs.Tryz
set_option maxRecDepth 100000
open Go AM
namespace Go.Proofs.Tryz
theorem PO (a b:List UInt8→Nat) (x:List UInt8):Et a b x=(decide (((a x:Nat):Int)≤1) && decide (((b x:Nat):Int)≤1)):=by
 unfold Et
 congr 1
 ·by_cases h:((a x:Nat):Int)≤1
  ·rw [decide_eq_true h,decide_eq_false (by omega)];rfl
  ·rw [decide_eq_false h,decide_eq_true (by omega)];rfl
 ·by_cases h:((b x:Nat):Int)≤1
  ·rw [decide_eq_true h,decide_eq_false (by omega)];rfl
  ·rw [decide_eq_false h,decide_eq_true (by omega)];rfl
def rO (cmp:Br→Br→Int) (e:List Nd) (qs:List Sq) (nl:List (List UInt8)):Bool:=
 (dH e==((0:Nat):Int)) && nl.all (Et (fun x=>jF (JO cmp) (LW cmp) e (qs.map Sq.c) 6 x) (fun x=>jF (JO cmp) (LW cmp) e (qs.map Sq.c) 8 x))
theorem iJ (e:List Nd) (d:Bool) (qs:List Sq) (g:Bool) (cmp:Br→Br→Int) (a:List (List UInt8)) (j:Bool) (b:∀ y ∈ e,y.sm) (f:e.length<2^40) (c:qs.length<2^40) (i:H5 129 cmp qs) (k:a.length<2^40):
  CO 17 [.sl (aH e) e.length d,.sl (bZ (qs.map Sq.c)) qs.length g,.sl (List.map AV.str a) a.length j] (.ret (.bool (rO cmp e qs a))):=by
 have ck:=CB e d b
 unfold rO
 by_cases hq:dH e=0
 ·rw [hq] at ck
  have h:=VG (.sl (aH e) e.length d) (.sl (bZ (qs.map Sq.c)) qs.length g) j (.inr ⟨_,_,_,rfl⟩) (.inr ⟨_,_,_,rfl⟩) ck a
   (fun x=>((jF (JO cmp) (LW cmp) e (qs.map Sq.c) 6 x:Nat):Int)) (fun x=>((jF (JO cmp) (LW cmp) e (qs.map Sq.c) 8 x:Nat):Int)) (by omega)
   (fun x _=>bU e d qs g cmp 6 x b f c i) (fun x _=>bU e d qs g cmp 8 x b f c i)
  rw [hq,show ((0:Int)==((0:Nat):Int))=true from rfl,Bool.true_and]
  rw [show a.all (Et (fun x=>jF (JO cmp) (LW cmp) e (qs.map Sq.c) 6 x) (fun x=>jF (JO cmp) (LW cmp) e (qs.map Sq.c) 8 x))=a.all fun s=>decide (((jF (JO cmp) (LW cmp) e (qs.map Sq.c) 6 s:Nat):Int)≤1) && decide (((jF (JO cmp) (LW cmp) e (qs.map Sq.c) 8 s:Nat):Int)≤1) from by congr 1;funext x;exact PO _ _ x]
  exact h
 ·rw [show (dH e==((0:Nat):Int))=false from beq_eq_false_iff_ne.2 hq,Bool.false_and]
  exact VF _ _ _ (dH e) hq ck
theorem wz (e:List Nd) (f:Bool) (qs:List Sq) (g:Bool) (cmp:Br→Br→Int) (d:List (List UInt8)) (j:Bool) (a:∀ y ∈ e,y.sm) (c:e.length<2^40) (b:qs.length<2^40) (i:H5 24 cmp qs) (k:d.length<2^40):
  CO 18 [.sl (aH e) e.length f,.sl (bZ (qs.map Sq.c)) qs.length g,.sl (List.map AV.str d) d.length j] (.ret (.bool (rO cmp e qs d))):=by
 have h:=Jb e f (qs.map Sq.c) g d j (fun x=>jF (JO cmp) (LW cmp) e (qs.map Sq.c) 6 x) (fun x=>jF (JO cmp) (LW cmp) e (qs.map Sq.c) 8 x) a k
  (fun x _=>by rw [List.length_map];exact uA e f qs g cmp 6 x a c b i) (fun x _=>by rw [List.length_map];exact uA e f qs g cmp 8 x a c b i)
 rw [List.length_map] at h
 exact h
theorem wd1 {k:Nat} (h:k<2^62):AV.int .i64 (IntKind.wrap .i64 ((k:Int)+((1:Nat):Int)))= .int .i64 ((k+1:Nat):Int):=by
 have e:IntKind.wrap .i64 ((k:Int)+((1:Nat):Int))=((k+1:Nat):Int):=by rw [dC]<;>omega
 rw [e]
theorem uu (k:Nat):decide (((0:Nat):Int)≤(k:Int))=true:=decide_eq_true (by omega)
theorem fV {k n:Nat} (h:k<n):decide ((k:Int)<(n:Int))=true:=decide_eq_true (by omega)
theorem Qu {k n:Nat} (h:k≤n):decide ((k:Int)≤(n:Int))=true:=decide_eq_true (by omega)
def qR (w:List UInt8):List UInt8→Nat
 | []=>0
 |c::r=>if w.any (fun b=>c==b) then qR w r+1 else 0
theorem Ie (w:List UInt8):∀ s,qR w s≤s.length
 | []=>Nat.le_refl _
 |c::r=>by
  unfold qR
  split
  ·have:=Ie w r;simp only [List.length_cons];omega
  ·exact Nat.zero_le _
theorem Z5 (a b:UInt8):((a.toNat:Int)==(b.toNat:Int))=(a==b):=by
 by_cases h:a=b
 ·subst h;simp
 ·have:a.toNat ≠ b.toNat:=fun e=>h (UInt8.toNat_inj.1 e)
  rw [beq_eq_false_iff_ne.2 h,beq_eq_false_iff_ne.2 (by omega)]
def wia (s w:List UInt8) (bg:Int) (bd:Bool) (n:Nat) (p:Nat × Bool):St:=⟨[(0,.ptr 0 0 0),(1,.str w),(5,.int .i64 (n:Int)),(6,.bool p.2),(7,.int .i64 (p.1:Int))],[(0,⟨[.str s,.nilS,.int .i64 bg,.bool bd],0,false,0,0,true⟩)],.dead,[]⟩
def woa (s w:List UInt8) (bg:Int) (bd:Bool) (n:Nat) (inn:Bool):St:=⟨[(0,.ptr 0 0 0),(1,.str w),(5,.int .i64 (n:Int)),(6,.bool inn)],[(0,⟨[.str s,.nilS,.int .i64 bg,.bool bd],0,false,0,0,true⟩)],.dead,[]⟩
theorem wla {nt:Nat} (g:55≤nt) (s w:List UInt8) (f:Int) (h:Bool) (n:Nat) (j:n<s.length) (i:w.length<2^40):∀ (d k:Nat) (a:Bool),k+d=w.length→
  aF prog ap [⟨[.str s,.nilS,.int .i64 f,.bool h],0,false,0,0,true⟩] nt (ae 2 (af f92)) (fun _=> .exit 2) (wia s w f h n) (woa s w f h n) (k,a) (a||(w.drop k).any (fun b=>s.getD n 0==b)):=by
 intro d
 induction d with
 |zero=>
  intro k a m
  have e:(decide ((k:Int)<(((List.length w):Nat):Int)))=false:=decide_eq_false (by omega)
  rw [List.drop_of_length_le (by omega),List.any_nil,Bool.or_false]
  exact .done (pN 92 [] 1 0 (.c (aB e) .nil) (.nil) g)
 | succ d ih=>
  intro k a m
  have e:(decide ((k:Int)<(((List.length w):Nat):Int)))=true:=decide_eq_true (by omega)
  have c:k<w.length:=by omega
  have i:k<2^62:=by omega
  have o:(w.drop k).any (fun b=>s.getD n 0==b)=(s.getD n 0==w.getD k 0||(w.drop (k+1)).any (fun b=>s.getD n 0==b)):=by
   rw [List.drop_eq_getElem_cons c,List.any_cons,List.getD_eq_getElem?_getD,List.getD_eq_getElem?_getD (l:=w),List.getElem?_eq_getElem c];rfl
  rw [o]
  rcases tf a with b1|b1
  ·have:=ih (k+1) true (by omega)
   rw [Bool.true_or] at this
   rw [show (a||(s.getD n 0==w.getD k 0||(w.drop (k+1)).any (fun b=>s.getD n 0==b)))=true by rw [b1,Bool.true_or]]
   exact .next (pN 92 [] 2 3 (.c (aC b1) (.c (aC e) .nil)) (.v 7 (.eq (wd1 i)) .nil) g) this
  ·have:=ih (k+1) (s.getD n 0==w.getD k 0) (by omega)
   rw [show (a||(s.getD n 0==w.getD k 0||(w.drop (k+1)).any (fun b=>s.getD n 0==b)))=(s.getD n 0==w.getD k 0||(w.drop (k+1)).any (fun b=>s.getD n 0==b)) by rw [b1,Bool.false_or]]
   rw [← Z5 (s.getD n 0) (w.getD k 0)] at this ⊢
   exact .next (pN 92 [] 2 1 (.c (uu k) (.c (fV c) (.c (uu n) (.c (fV j) (.k 1 (aB b1) (.c (aC e) .nil)))))) (.v 7 (.eq (wd1 i)) .nil) g) this
def wsa (s w:List UInt8) (bg:Int) (bd:Bool) (n:Nat):St:=⟨[(0,.ptr 0 0 0),(1,.str w),(5,.int .i64 (n:Int))],[(0,⟨[.str s,.nilS,.int .i64 bg,.bool bd],0,false,0,0,true⟩)],.dead,[]⟩
def wra (s w:List UInt8) (bg:Int) (bd:Bool) (n:Nat):St:=⟨[(0,.ptr 0 0 0),(5,.int .i64 (n:Int))],[(0,⟨[.str s,.nilS,.int .i64 bg,.bool bd],0,false,0,0,true⟩)],.dead,[]⟩
theorem wma {nt:Nat} (g:55≤nt) (s w:List UInt8) (a:Int) (d:Bool) (hs:s.length<2^40) (l:w.length<2^40):∀ (r p:List UInt8),p++r=s→
  aF prog ap [⟨[.str s,.nilS,.int .i64 a,.bool d],0,false,0,0,true⟩] nt (ae 0 (af f92)) (fun _=> .exit 0) (wsa s w a d) (wra s w a d) p.length (p.length+qR w r):=by
 intro r
 induction r with
 |nil=>
  intro p hp
  have o:p.length=s.length:=by rw [← hp];simp
  generalize p.length=n at*
  have k:(decide ((n:Int)<(((List.length s):Nat):Int)))=false:=decide_eq_false (by omega)
  exact .done (pN 92 [2] 1 0 (.c (aB k) (.n 1 .nil)) (.nil) g)
 | cons c r ih=>
  intro p hp
  have o:p.length<s.length:=by rw [← hp];simp
  have q:s.getD p.length 0=c:=by rw [← hp,List.getD_eq_getElem?_getD];simp
  have j:=ih (p++ [c]) (by rw [← hp];simp)
  rw [List.length_append,List.length_singleton] at j
  unfold qR
  generalize p.length=n at*
  have k:(decide ((n:Int)<(((List.length s):Nat):Int)))=true:=decide_eq_true (by omega)
  have m:n<2^62:=by omega
  have f:∀ e,e=w.any (fun b=>c==b)→aI prog ap [⟨[.str s,.nilS,.int .i64 a,.bool d],0,false,0,0,true⟩] 55 (.block 2 (.loop (ae 2 (af f92)))) ⟨[(0,.ptr 0 0 0),(1,.str w),(4,.dead),(5,.int .i64 (n:Int)),(6,.bool false),(7,.int .i64 0),(8,.dead),(15,.bool (decide ((n:Int)<(((List.length s):Nat):Int)))),(19,.dead),(36,.dead)],[(0,⟨[.str s,.nilS,.int .i64 a,.bool d],0,false,0,0,true⟩)],.dead,[]⟩ (.normal) ⟨[(0,.ptr 0 0 0),(1,.str w),(5,.int .i64 (n:Int)),(6,.bool e)],[(0,⟨[.str s,.nilS,.int .i64 a,.bool d],0,false,0,0,true⟩)],.dead,[]⟩:=by
   intro e i
   have h:∀ nt,55≤nt→aF prog ap [⟨[.str s,.nilS,.int .i64 a,.bool d],0,false,0,0,true⟩] nt (ae 2 (af f92)) (fun _=> .exit 2) (wia s w a d n) (woa s w a d n) (0,false) e:=by
    intro nt g
    have:=wla g s w a d n o l w.length 0 false (Nat.zero_add _)
    rw [List.drop_zero,q,Bool.false_or,← i] at this
    exact this
   exact aF.blk h (by simp) rfl (aK.of ⟨rfl,rfl,rfl,rfl,rfl,trivial⟩) (aK.of ⟨rfl,rfl,rfl,rfl,trivial⟩)
  rcases tf (w.any (fun b=>c==b)) with b1|b1
  ·rw [if_pos b1]
   have i:(true:Bool)=w.any (fun b=>c==b):=b1.symm
   have f:=f true i
   rw [show n+(qR w r+1)=n+1+qR w r by omega]
   have l:=m
   exact .next (pN 92 [2] 2 1 (.k 1 (aC k) (.n 1 .nil)) (.v 38 (.eq (wd1 l)) (.l f .nil)) g) j
  ·rw [if_neg (by rw [b1];decide)]
   have i:(false:Bool)=w.any (fun b=>c==b):=b1.symm
   have f:=f false i
   exact .done (pN 92 [2] 2 3 (.k 1 (aC k) (.n 1 .nil)) (.l f .nil) g)
theorem wfa (s w:List UInt8) (a:Int) (b:Bool) (n:Nat) (c:n≤s.length) (d:aI prog ap [⟨[.str s,.nilS,.int .i64 a,.bool b],0,false,0,0,true⟩] 55 (.block 0 (.loop (ae 0 (af f92)))) ⟨[(0,.ptr 0 0 0),(1,.str w),(4,.str []),(5,.int .i64 0),(6,.dead),(7,.dead),(8,.dead),(15,.dead),(19,.dead),(36,.dead)],[(0,⟨[.str s,.nilS,.int .i64 a,.bool b],0,false,0,0,true⟩)],.dead,[]⟩ (.normal) ⟨[(0,.ptr 0 0 0),(5,.int .i64 (n:Int))],[(0,⟨[.str s,.nilS,.int .i64 a,.bool b],0,false,0,0,true⟩)],.dead,[]⟩):au prog ap 92 [.ptr 0 0 0,.str w] [⟨[.str s,.nilS,.int .i64 a,.bool b],0,false,0,0,true⟩] (.ret (.str (List.drop 0 (List.take (Int.toNat (n:Int)) s)))) [⟨[.str (List.drop (Int.toNat (n:Int)) (List.take (Int.toNat (((List.length s):Nat):Int)) s)),.nilS,.int .i64 a,.bool b],0,false,0,0,true⟩]:=pK [0] 0 0 (.k 1 (uu n) (.c (Qu c) (.c (Qu (Nat.le_refl s.length)) (.k 2 (uu n) (.c (Qu c) (.n 1 .nil)))))) (.l d .nil)
theorem gu (s w:List UInt8) (a:Int) (b:Bool) (hs:s.length<2^40) (d:w.length<2^40):au prog ap 92 [.ptr 0 0 0,.str w] [⟨[.str s,.nilS,.int .i64 a,.bool b],0,false,0,0,true⟩] (.ret (.str (List.drop 0 (List.take (Int.toNat ((qR w s:Nat):Int)) s)))) [⟨[.str (List.drop (Int.toNat ((qR w s:Nat):Int)) (List.take (Int.toNat (((List.length s):Nat):Int)) s)),.nilS,.int .i64 a,.bool b],0,false,0,0,true⟩]:=by
 have h:∀ nt,55≤nt→aF prog ap [⟨[.str s,.nilS,.int .i64 a,.bool b],0,false,0,0,true⟩] nt (ae 0 (af f92)) (fun _=> .exit 0) (wsa s w a b) (wra s w a b) 0 (qR w s):=by
  intro nt c
  have:=wma c s w a b hs d s [] rfl
  rw [List.length_nil,Nat.zero_add] at this
  exact this
 exact wfa s w a b (qR w s) (Ie w s) (aF.blk h (by simp) rfl (aK.of ⟨rfl,rfl,rfl,trivial⟩) (aK.of ⟨rfl,rfl,trivial⟩))
def wib (s w:List UInt8) (bg:Int) (bd:Bool) (m:Nat) (os:List AV) (n:Nat) (p:Nat × Bool):St:=⟨[(0,.ptr 0 0 0),(1,.str w),(5,.int .i64 (n:Int)),(6,.bool p.2),(7,.int .i64 (p.1:Int))],[(0,⟨[.str s,.ref 1 0 0 m,.int .i64 bg,.bool bd],0,false,0,0,false⟩),(1,⟨os,0,false,0,5,true⟩)],.dead,[]⟩
def wob (s w:List UInt8) (bg:Int) (bd:Bool) (m:Nat) (os:List AV) (n:Nat) (inn:Bool):St:=⟨[(0,.ptr 0 0 0),(1,.str w),(5,.int .i64 (n:Int)),(6,.bool inn)],[(0,⟨[.str s,.ref 1 0 0 m,.int .i64 bg,.bool bd],0,false,0,0,false⟩),(1,⟨os,0,false,0,5,true⟩)],.dead,[]⟩
theorem wlb {nt:Nat} (g:55≤nt) (s w:List UInt8) (f:Int) (h:Bool) (m:Nat) (j:List AV) (n:Nat) (o:n<s.length) (i:w.length<2^40):∀ (d k:Nat) (a:Bool),k+d=w.length→
  aF prog ap [⟨[.str s,.ref 1 0 0 m,.int .i64 f,.bool h],0,false,0,0,false⟩,⟨j,0,false,0,5,true⟩] nt (ae 2 (af f92)) (fun _=> .exit 2) (wib s w f h m j n) (wob s w f h m j n) (k,a) (a||(w.drop k).any (fun b=>s.getD n 0==b)):=by
 intro d
 induction d with
 |zero=>
  intro k a p
  have e:(decide ((k:Int)<(((List.length w):Nat):Int)))=false:=decide_eq_false (by omega)
  rw [List.drop_of_length_le (by omega),List.any_nil,Bool.or_false]
  exact .done (pN 92 [] 1 0 (.c (aB e) .nil) (.nil) g)
 | succ d ih=>
  intro k a p
  have e:(decide ((k:Int)<(((List.length w):Nat):Int)))=true:=decide_eq_true (by omega)
  have c:k<w.length:=by omega
  have i:k<2^62:=by omega
  have q:(w.drop k).any (fun b=>s.getD n 0==b)=(s.getD n 0==w.getD k 0||(w.drop (k+1)).any (fun b=>s.getD n 0==b)):=by
   rw [List.drop_eq_getElem_cons c,List.any_cons,List.getD_eq_getElem?_getD,List.getD_eq_getElem?_getD (l:=w),List.getElem?_eq_getElem c];rfl
  rw [q]
  rcases tf a with b1|b1
  ·have:=ih (k+1) true (by omega)
   rw [Bool.true_or] at this
   rw [show (a||(s.getD n 0==w.getD k 0||(w.drop (k+1)).any (fun b=>s.getD n 0==b)))=true by rw [b1,Bool.true_or]]
   exact .next (pN 92 [] 2 3 (.c (aC b1) (.c (aC e) .nil)) (.v 7 (.eq (wd1 i)) .nil) g) this
  ·have:=ih (k+1) (s.getD n 0==w.getD k 0) (by omega)
   rw [show (a||(s.getD n 0==w.getD k 0||(w.drop (k+1)).any (fun b=>s.getD n 0==b)))=(s.getD n 0==w.getD k 0||(w.drop (k+1)).any (fun b=>s.getD n 0==b)) by rw [b1,Bool.false_or]]
   rw [← Z5 (s.getD n 0) (w.getD k 0)] at this ⊢
   exact .next (pN 92 [] 2 1 (.c (uu k) (.c (fV c) (.c (uu n) (.c (fV o) (.k 1 (aB b1) (.c (aC e) .nil)))))) (.v 7 (.eq (wd1 i)) .nil) g) this
def wsb (s w:List UInt8) (bg:Int) (bd:Bool) (m:Nat) (os:List AV) (n:Nat):St:=⟨[(0,.ptr 0 0 0),(1,.str w),(5,.int .i64 (n:Int))],[(0,⟨[.str s,.ref 1 0 0 m,.int .i64 bg,.bool bd],0,false,0,0,false⟩),(1,⟨os,0,false,0,5,true⟩)],.dead,[]⟩
def wrb (s w:List UInt8) (bg:Int) (bd:Bool) (m:Nat) (os:List AV) (n:Nat):St:=⟨[(0,.ptr 0 0 0),(5,.int .i64 (n:Int))],[(0,⟨[.str s,.ref 1 0 0 m,.int .i64 bg,.bool bd],0,false,0,0,false⟩),(1,⟨os,0,false,0,5,true⟩)],.dead,[]⟩
theorem wmb {nt:Nat} (i:55≤nt) (s w:List UInt8) (a:Int) (d:Bool) (m:Nat) (e:List AV) (hs:s.length<2^40) (o:w.length<2^40):∀ (r p:List UInt8),p++r=s→
  aF prog ap [⟨[.str s,.ref 1 0 0 m,.int .i64 a,.bool d],0,false,0,0,false⟩,⟨e,0,false,0,5,true⟩] nt (ae 0 (af f92)) (fun _=> .exit 0) (wsb s w a d m e) (wrb s w a d m e) p.length (p.length+qR w r):=by
 intro r
 induction r with
 |nil=>
  intro p hp
  have t:p.length=s.length:=by rw [← hp];simp
  generalize p.length=n at*
  have l:(decide ((n:Int)<(((List.length s):Nat):Int)))=false:=decide_eq_false (by omega)
  exact .done (pN 92 [2] 1 0 (.c (aB l) (.n 1 .nil)) (.nil) i)
 | cons c r ih=>
  intro p hp
  have t:p.length<s.length:=by rw [← hp];simp
  have u:s.getD p.length 0=c:=by rw [← hp,List.getD_eq_getElem?_getD];simp
  have k:=ih (p++ [c]) (by rw [← hp];simp)
  rw [List.length_append,List.length_singleton] at k
  unfold qR
  generalize p.length=n at*
  have l:(decide ((n:Int)<(((List.length s):Nat):Int)))=true:=decide_eq_true (by omega)
  have q:n<2^62:=by omega
  have g:∀ f,f=w.any (fun b=>c==b)→aI prog ap [⟨[.str s,.ref 1 0 0 m,.int .i64 a,.bool d],0,false,0,0,false⟩,⟨e,0,false,0,5,true⟩] 55 (.block 2 (.loop (ae 2 (af f92)))) ⟨[(0,.ptr 0 0 0),(1,.str w),(4,.dead),(5,.int .i64 (n:Int)),(6,.bool false),(7,.int .i64 0),(8,.dead),(15,.bool (decide ((n:Int)<(((List.length s):Nat):Int)))),(19,.dead),(36,.dead)],[(0,⟨[.str s,.ref 1 0 0 m,.int .i64 a,.bool d],0,false,0,0,false⟩),(1,⟨e,0,false,0,5,true⟩)],.dead,[]⟩ (.normal) ⟨[(0,.ptr 0 0 0),(1,.str w),(5,.int .i64 (n:Int)),(6,.bool f)],[(0,⟨[.str s,.ref 1 0 0 m,.int .i64 a,.bool d],0,false,0,0,false⟩),(1,⟨e,0,false,0,5,true⟩)],.dead,[]⟩:=by
   intro f j
   have h:∀ nt,55≤nt→aF prog ap [⟨[.str s,.ref 1 0 0 m,.int .i64 a,.bool d],0,false,0,0,false⟩,⟨e,0,false,0,5,true⟩] nt (ae 2 (af f92)) (fun _=> .exit 2) (wib s w a d m e n) (wob s w a d m e n) (0,false) f:=by
    intro nt i
    have:=wlb i s w a d m e n t o w.length 0 false (Nat.zero_add _)
    rw [List.drop_zero,u,Bool.false_or,← j] at this
    exact this
   exact aF.blk h (by simp) rfl (aK.of ⟨rfl,rfl,rfl,rfl,rfl,trivial⟩) (aK.of ⟨rfl,rfl,rfl,rfl,trivial⟩)
  rcases tf (w.any (fun b=>c==b)) with b1|b1
  ·rw [if_pos b1]
   have j:(true:Bool)=w.any (fun b=>c==b):=b1.symm
   have g:=g true j
   rw [show n+(qR w r+1)=n+1+qR w r by omega]
   have o:=q
   exact .next (pN 92 [2] 2 1 (.k 1 (aC l) (.n 1 .nil)) (.v 38 (.eq (wd1 o)) (.l g .nil)) i) k
  ·rw [if_neg (by rw [b1];decide)]
   have j:(false:Bool)=w.any (fun b=>c==b):=b1.symm
   have g:=g false j
   exact .done (pN 92 [2] 2 3 (.k 1 (aC l) (.n 1 .nil)) (.l g .nil) i)
theorem wfb (s w:List UInt8) (a:Int) (b:Bool) (m:Nat) (c:List AV) (n:Nat) (d:n≤s.length) (e:aI prog ap [⟨[.str s,.ref 1 0 0 m,.int .i64 a,.bool b],0,false,0,0,false⟩,⟨c,0,false,0,5,true⟩] 55 (.block 0 (.loop (ae 0 (af f92)))) ⟨[(0,.ptr 0 0 0),(1,.str w),(4,.str []),(5,.int .i64 0),(6,.dead),(7,.dead),(8,.dead),(15,.dead),(19,.dead),(36,.dead)],[(0,⟨[.str s,.ref 1 0 0 m,.int .i64 a,.bool b],0,false,0,0,false⟩),(1,⟨c,0,false,0,5,true⟩)],.dead,[]⟩ (.normal) ⟨[(0,.ptr 0 0 0),(5,.int .i64 (n:Int))],[(0,⟨[.str s,.ref 1 0 0 m,.int .i64 a,.bool b],0,false,0,0,false⟩),(1,⟨c,0,false,0,5,true⟩)],.dead,[]⟩):au prog ap 92 [.ptr 0 0 0,.str w] [⟨[.str s,.ref 1 0 0 m,.int .i64 a,.bool b],0,false,0,0,false⟩,⟨c,0,false,0,5,true⟩] (.ret (.str (List.drop 0 (List.take (Int.toNat (n:Int)) s)))) [⟨[.str (List.drop (Int.toNat (n:Int)) (List.take (Int.toNat (((List.length s):Nat):Int)) s)),.ref 1 0 0 m,.int .i64 a,.bool b],0,false,0,0,false⟩,⟨c,0,false,0,5,true⟩]:=pK [0] 0 0 (.k 1 (uu n) (.c (Qu d) (.c (Qu (Nat.le_refl s.length)) (.k 2 (uu n) (.c (Qu d) (.n 1 .nil)))))) (.l e .nil)
theorem jP (s w:List UInt8) (a:Int) (b:Bool) (m:Nat) (c:List AV) (hs:s.length<2^40) (e:w.length<2^40):au prog ap 92 [.ptr 0 0 0,.str w] [⟨[.str s,.ref 1 0 0 m,.int .i64 a,.bool b],0,false,0,0,false⟩,⟨c,0,false,0,5,true⟩] (.ret (.str (List.drop 0 (List.take (Int.toNat ((qR w s:Nat):Int)) s)))) [⟨[.str (List.drop (Int.toNat ((qR w s:Nat):Int)) (List.take (Int.toNat (((List.length s):Nat):Int)) s)),.ref 1 0 0 m,.int .i64 a,.bool b],0,false,0,0,false⟩,⟨c,0,false,0,5,true⟩]:=by
 have h:∀ nt,55≤nt→aF prog ap [⟨[.str s,.ref 1 0 0 m,.int .i64 a,.bool b],0,false,0,0,false⟩,⟨c,0,false,0,5,true⟩] nt (ae 0 (af f92)) (fun _=> .exit 0) (wsb s w a b m c) (wrb s w a b m c) 0 (qR w s):=by
  intro nt d
  have:=wmb d s w a b m c hs e s [] rfl
  rw [List.length_nil,Nat.zero_add] at this
  exact this
 exact wfb s w a b m c (qR w s) (Ie w s) (aF.blk h (by simp) rfl (aK.of ⟨rfl,rfl,rfl,trivial⟩) (aK.of ⟨rfl,rfl,trivial⟩))
theorem bT {p q:Prop} (h:p) (e:p=q):q:=e ▸ h
theorem aW {x:Nat} (h:x<2^128):(ag x).length<2^33:=Nat.lt_of_le_of_lt (iC (k:=16) h) (by decide)
theorem cm0:CO 115 [.agg [.bool false,.str [1],.str [1]]] (.ret (.bool true)):=bT (dI false [1] [1] (by decide) (by decide)) (by kernel_rfl)
theorem cm1:CO 174 [.agg [.bool false,.str [1],.str [1]]] (.ret (.agg [.bool false,.str [1],.str [1]])):=cK (.c cm0 .nil)
theorem cm2:CO 182 [.agg [.bool false,.str [1],.str [1]]] (.ret (.agg [.bool true,.str [1],.str [1]])):=cK (.c cm1 .nil)
theorem cm3:CO 115 [.agg [.bool false,.str [],.str [1]]] (.ret (.bool true)):=bT (dI false [] [1] (by decide) (by decide)) (by kernel_rfl)
theorem Xo:CO 174 [.agg [.bool false,.str [],.str [1]]] (.ret (.agg [.bool false,.str [],.str [1]])):=cK (.c cm3 .nil)
theorem cm5:CO 115 [.agg [.bool true,.str [1],.str [1]]] (.ret (.bool true)):=bT (dI true [1] [1] (by decide) (by decide)) (by kernel_rfl)
theorem cm6:CO 174 [.agg [.bool true,.str [1],.str [1]]] (.ret (.agg [.bool true,.str [1],.str [1]])):=cK (.c cm5 .nil)
theorem cm7:CO 161 [.sl [] 0 true] (.ret (.sl [] 0 true)):=cK (.nil)
theorem Io:CO 136 [.str []] (.ret (.sl [] 0 true)):=cK (.c cm7 .nil)
theorem cm9:CO 161 [.sl [.int .u32 1] 1 true] (.ret (.sl [.int .u32 1] 1 true)):=cK (.nil)
theorem yT:CO 136 [.str [1]] (.ret (.sl [.int .u32 1] 1 true)):=cK (.c cm9 .nil)
theorem aoz:CO 161 [.sl [.int .u32 0] 1 true] (.ret (.sl [] 0 true)):=cK (.nil)
theorem aoA:CO 189 [.sl [] 0 true,.sl [.int .u32 1] 1 true] (.ret (.sl [] 0 true)):=cK (.c aoz .nil)
theorem aoB:CO 162 [.str [],.str [0]] (.ret (.str [])):=cK (.nil)
theorem aoC:CO 134 [.sl [] 0 true] (.ret (.str [])):=cK (.c aoB (.c cm7 .nil))
theorem Il:CO 175 [.str [],.str [1]] (.ret (.str [])):=cK (.c aoC (.c aoA (.c yT (.c Io .nil))))
theorem aoD:CO 161 [.sl [.int .u32 1,.int .u32 0] 2 true] (.ret (.sl [.int .u32 1] 1 true)):=cK (.nil)
theorem aoE:CO 189 [.sl [.int .u32 1] 1 true,.sl [.int .u32 1] 1 true] (.ret (.sl [.int .u32 1] 1 true)):=cK (.c aoD .nil)
theorem aoF:CO 141 [.str [0,0,0,1],.int .u8 0] (.ret (.str [1])):=cK (.nil)
theorem aoG:CO 162 [.str [0,0,0,1],.str [0]] (.ret (.str [1])):=cK (.c aoF .nil)
theorem aga:CO 134 [.sl [.int .u32 1] 1 true] (.ret (.str [1])):=cK (.c aoG (.c cm9 .nil))
theorem FC:CO 175 [.str [1],.str [1]] (.ret (.str [1])):=cK (.c aga (.c aoE (.c yT (.c yT .nil))))
theorem aoH:CO 183 [.sl [] 0 true,.sl [.int .u32 1] 1 true] (.ret (.int .i64 (-1))):=cK (.nil)
theorem aoI:CO 188 [.str [],.str [1]] (.ret (.tup [.str [],.bool false])):=cK (.c aoH (.c yT (.c Io .nil)))
theorem aoJ:CO 183 [.sl [.int .u32 1] 1 true,.sl [] 0 true] (.ret (.int .i64 1)):=cK (.nil)
theorem aoK:CO 204 [.sl [.int .u32 1] 1 true,.sl [] 0 true] (.ret (.sl [.int .u32 1] 1 true)):=cK (.c cm9 .nil)
theorem aoL:CO 188 [.str [1],.str []] (.ret (.tup [.str [1],.bool true])):=cK (.c aga (.c aoK (.c aoJ (.c Io (.c yT .nil)))))
theorem aoM:CO 139 [.bool true,.str [1],.str [1]] (.ret (.agg [.bool true,.str [1],.str [1]])):=bT (pI true [1] [1] (by decide) (by decide) (by decide)) (by kernel_rfl)
theorem aoN:CO 172 [.agg [.bool false,.str [],.str [1]],.agg [.bool true,.str [1],.str [1]]] (.ret (.agg [.bool true,.str [1],.str [1]])):=cK (.c aoM (.c aoL (.c aoI (.c FC (.c FC (.c Il (.c cm6 (.c Xo .nil))))))))
theorem aoO:CO 158 [.agg [.bool false,.str [],.str [1]],.agg [.bool false,.str [1],.str [1]]] (.ret (.agg [.bool true,.str [1],.str [1]])):=cK (.c aoN (.c cm2 .nil))
theorem aoP:CO 85 [.agg [.bool true,.str [1],.str [1]]] (.ret (.int .i64 (-1))):=bT (fG true [1] [1] (by decide) (by decide)) (by kernel_rfl)
theorem aoQ:CO 129 [.agg [.bool false,.str [],.str [1]],.agg [.bool false,.str [1],.str [1]]] (.ret (.int .i64 (-1))):=cK (.c aoP (.c aoO .nil))
theorem aoR:CO 115 [.agg [.bool false,.str [2],.str [1]]] (.ret (.bool true)):=bT (dI false [2] [1] (by decide) (by decide)) (by kernel_rfl)
theorem aoS:CO 174 [.agg [.bool false,.str [2],.str [1]]] (.ret (.agg [.bool false,.str [2],.str [1]])):=cK (.c aoR .nil)
theorem aoT:CO 182 [.agg [.bool false,.str [2],.str [1]]] (.ret (.agg [.bool true,.str [2],.str [1]])):=cK (.c aoS .nil)
theorem aoU:CO 115 [.agg [.bool true,.str [2],.str [1]]] (.ret (.bool true)):=bT (dI true [2] [1] (by decide) (by decide)) (by kernel_rfl)
theorem aoV:CO 174 [.agg [.bool true,.str [2],.str [1]]] (.ret (.agg [.bool true,.str [2],.str [1]])):=cK (.c aoU .nil)
theorem abe:CO 161 [.sl [.int .u32 2] 1 true] (.ret (.sl [.int .u32 2] 1 true)):=cK (.nil)
theorem abf:CO 136 [.str [2]] (.ret (.sl [.int .u32 2] 1 true)):=cK (.c abe .nil)
theorem aoW:CO 161 [.sl [.int .u32 2,.int .u32 0] 2 true] (.ret (.sl [.int .u32 2] 1 true)):=cK (.nil)
theorem aoX:CO 189 [.sl [.int .u32 2] 1 true,.sl [.int .u32 1] 1 true] (.ret (.sl [.int .u32 2] 1 true)):=cK (.c aoW .nil)
theorem aoY:CO 141 [.str [0,0,0,2],.int .u8 0] (.ret (.str [2])):=cK (.nil)
theorem aoZ:CO 162 [.str [0,0,0,2],.str [0]] (.ret (.str [2])):=cK (.c aoY .nil)
theorem ajm:CO 134 [.sl [.int .u32 2] 1 true] (.ret (.str [2])):=cK (.c aoZ (.c abe .nil))
theorem ao0:CO 175 [.str [2],.str [1]] (.ret (.str [2])):=cK (.c ajm (.c aoX (.c yT (.c abf .nil))))
theorem ao1:CO 183 [.sl [] 0 true,.sl [.int .u32 2] 1 true] (.ret (.int .i64 (-1))):=cK (.nil)
theorem ao2:CO 188 [.str [],.str [2]] (.ret (.tup [.str [],.bool false])):=cK (.c ao1 (.c abf (.c Io .nil)))
theorem ao3:CO 183 [.sl [.int .u32 2] 1 true,.sl [] 0 true] (.ret (.int .i64 1)):=cK (.nil)
theorem ao4:CO 204 [.sl [.int .u32 2] 1 true,.sl [] 0 true] (.ret (.sl [.int .u32 2] 1 true)):=cK (.c abe .nil)
theorem ao5:CO 188 [.str [2],.str []] (.ret (.tup [.str [2],.bool true])):=cK (.c ajm (.c ao4 (.c ao3 (.c Io (.c abf .nil)))))
theorem ao6:CO 139 [.bool true,.str [2],.str [1]] (.ret (.agg [.bool true,.str [2],.str [1]])):=bT (pI true [2] [1] (by decide) (by decide) (by decide)) (by kernel_rfl)
theorem ao7:CO 172 [.agg [.bool false,.str [],.str [1]],.agg [.bool true,.str [2],.str [1]]] (.ret (.agg [.bool true,.str [2],.str [1]])):=cK (.c ao6 (.c ao5 (.c ao2 (.c FC (.c ao0 (.c Il (.c aoV (.c Xo .nil))))))))
theorem ao8:CO 158 [.agg [.bool false,.str [],.str [1]],.agg [.bool false,.str [2],.str [1]]] (.ret (.agg [.bool true,.str [2],.str [1]])):=cK (.c ao7 (.c aoT .nil))
theorem ao9:CO 85 [.agg [.bool true,.str [2],.str [1]]] (.ret (.int .i64 (-1))):=bT (fG true [2] [1] (by decide) (by decide)) (by kernel_rfl)
theorem ao_:CO 129 [.agg [.bool false,.str [],.str [1]],.agg [.bool false,.str [2],.str [1]]] (.ret (.int .i64 (-1))):=cK (.c ao9 (.c ao8 .nil))
theorem apa:CO 115 [.agg [.bool false,.str [3],.str [1]]] (.ret (.bool true)):=bT (dI false [3] [1] (by decide) (by decide)) (by kernel_rfl)
theorem apb:CO 174 [.agg [.bool false,.str [3],.str [1]]] (.ret (.agg [.bool false,.str [3],.str [1]])):=cK (.c apa .nil)
theorem apc:CO 182 [.agg [.bool false,.str [3],.str [1]]] (.ret (.agg [.bool true,.str [3],.str [1]])):=cK (.c apb .nil)
theorem apd:CO 115 [.agg [.bool true,.str [3],.str [1]]] (.ret (.bool true)):=bT (dI true [3] [1] (by decide) (by decide)) (by kernel_rfl)
theorem ape:CO 174 [.agg [.bool true,.str [3],.str [1]]] (.ret (.agg [.bool true,.str [3],.str [1]])):=cK (.c apd .nil)
theorem abg:CO 161 [.sl [.int .u32 3] 1 true] (.ret (.sl [.int .u32 3] 1 true)):=cK (.nil)
theorem abh:CO 136 [.str [3]] (.ret (.sl [.int .u32 3] 1 true)):=cK (.c abg .nil)
theorem apf:CO 161 [.sl [.int .u32 3,.int .u32 0] 2 true] (.ret (.sl [.int .u32 3] 1 true)):=cK (.nil)
theorem apg:CO 189 [.sl [.int .u32 3] 1 true,.sl [.int .u32 1] 1 true] (.ret (.sl [.int .u32 3] 1 true)):=cK (.c apf .nil)
theorem aph:CO 141 [.str [0,0,0,3],.int .u8 0] (.ret (.str [3])):=cK (.nil)
theorem api:CO 162 [.str [0,0,0,3],.str [0]] (.ret (.str [3])):=cK (.c aph .nil)
theorem ajn:CO 134 [.sl [.int .u32 3] 1 true] (.ret (.str [3])):=cK (.c api (.c abg .nil))
theorem apj:CO 175 [.str [3],.str [1]] (.ret (.str [3])):=cK (.c ajn (.c apg (.c yT (.c abh .nil))))
theorem apk:CO 183 [.sl [] 0 true,.sl [.int .u32 3] 1 true] (.ret (.int .i64 (-1))):=cK (.nil)
theorem apl:CO 188 [.str [],.str [3]] (.ret (.tup [.str [],.bool false])):=cK (.c apk (.c abh (.c Io .nil)))
theorem apm:CO 183 [.sl [.int .u32 3] 1 true,.sl [] 0 true] (.ret (.int .i64 1)):=cK (.nil)
theorem apn:CO 204 [.sl [.int .u32 3] 1 true,.sl [] 0 true] (.ret (.sl [.int .u32 3] 1 true)):=cK (.c abg .nil)
theorem apo:CO 188 [.str [3],.str []] (.ret (.tup [.str [3],.bool true])):=cK (.c ajn (.c apn (.c apm (.c Io (.c abh .nil)))))
theorem apq:CO 139 [.bool true,.str [3],.str [1]] (.ret (.agg [.bool true,.str [3],.str [1]])):=bT (pI true [3] [1] (by decide) (by decide) (by decide)) (by kernel_rfl)
theorem apr:CO 172 [.agg [.bool false,.str [],.str [1]],.agg [.bool true,.str [3],.str [1]]] (.ret (.agg [.bool true,.str [3],.str [1]])):=cK (.c apq (.c apo (.c apl (.c FC (.c apj (.c Il (.c ape (.c Xo .nil))))))))
theorem aps:CO 158 [.agg [.bool false,.str [],.str [1]],.agg [.bool false,.str [3],.str [1]]] (.ret (.agg [.bool true,.str [3],.str [1]])):=cK (.c apr (.c apc .nil))
theorem apt:CO 85 [.agg [.bool true,.str [3],.str [1]]] (.ret (.int .i64 (-1))):=bT (fG true [3] [1] (by decide) (by decide)) (by kernel_rfl)
theorem apu:CO 129 [.agg [.bool false,.str [],.str [1]],.agg [.bool false,.str [3],.str [1]]] (.ret (.int .i64 (-1))):=cK (.c apt (.c aps .nil))
theorem apv:CO 115 [.agg [.bool false,.str [4],.str [1]]] (.ret (.bool true)):=bT (dI false [4] [1] (by decide) (by decide)) (by kernel_rfl)
theorem apw:CO 174 [.agg [.bool false,.str [4],.str [1]]] (.ret (.agg [.bool false,.str [4],.str [1]])):=cK (.c apv .nil)
theorem apx:CO 182 [.agg [.bool false,.str [4],.str [1]]] (.ret (.agg [.bool true,.str [4],.str [1]])):=cK (.c apw .nil)
theorem apy:CO 115 [.agg [.bool true,.str [4],.str [1]]] (.ret (.bool true)):=bT (dI true [4] [1] (by decide) (by decide)) (by kernel_rfl)
theorem apz:CO 174 [.agg [.bool true,.str [4],.str [1]]] (.ret (.agg [.bool true,.str [4],.str [1]])):=cK (.c apy .nil)
theorem abj:CO 161 [.sl [.int .u32 4] 1 true] (.ret (.sl [.int .u32 4] 1 true)):=cK (.nil)
theorem abk:CO 136 [.str [4]] (.ret (.sl [.int .u32 4] 1 true)):=cK (.c abj .nil)
theorem apA:CO 161 [.sl [.int .u32 4,.int .u32 0] 2 true] (.ret (.sl [.int .u32 4] 1 true)):=cK (.nil)
theorem apB:CO 189 [.sl [.int .u32 4] 1 true,.sl [.int .u32 1] 1 true] (.ret (.sl [.int .u32 4] 1 true)):=cK (.c apA .nil)
theorem apC:CO 141 [.str [0,0,0,4],.int .u8 0] (.ret (.str [4])):=cK (.nil)
theorem apD:CO 162 [.str [0,0,0,4],.str [0]] (.ret (.str [4])):=cK (.c apC .nil)
theorem ajo:CO 134 [.sl [.int .u32 4] 1 true] (.ret (.str [4])):=cK (.c apD (.c abj .nil))
theorem apG:CO 175 [.str [4],.str [1]] (.ret (.str [4])):=cK (.c ajo (.c apB (.c yT (.c abk .nil))))
theorem apI:CO 183 [.sl [] 0 true,.sl [.int .u32 4] 1 true] (.ret (.int .i64 (-1))):=cK (.nil)
theorem apJ:CO 188 [.str [],.str [4]] (.ret (.tup [.str [],.bool false])):=cK (.c apI (.c abk (.c Io .nil)))
theorem apK:CO 183 [.sl [.int .u32 4] 1 true,.sl [] 0 true] (.ret (.int .i64 1)):=cK (.nil)
theorem apL:CO 204 [.sl [.int .u32 4] 1 true,.sl [] 0 true] (.ret (.sl [.int .u32 4] 1 true)):=cK (.c abj .nil)
theorem apM:CO 188 [.str [4],.str []] (.ret (.tup [.str [4],.bool true])):=cK (.c ajo (.c apL (.c apK (.c Io (.c abk .nil)))))
theorem apO:CO 139 [.bool true,.str [4],.str [1]] (.ret (.agg [.bool true,.str [4],.str [1]])):=bT (pI true [4] [1] (by decide) (by decide) (by decide)) (by kernel_rfl)
theorem apP:CO 172 [.agg [.bool false,.str [],.str [1]],.agg [.bool true,.str [4],.str [1]]] (.ret (.agg [.bool true,.str [4],.str [1]])):=cK (.c apO (.c apM (.c apJ (.c FC (.c apG (.c Il (.c apz (.c Xo .nil))))))))
theorem apQ:CO 158 [.agg [.bool false,.str [],.str [1]],.agg [.bool false,.str [4],.str [1]]] (.ret (.agg [.bool true,.str [4],.str [1]])):=cK (.c apP (.c apx .nil))
theorem apR:CO 85 [.agg [.bool true,.str [4],.str [1]]] (.ret (.int .i64 (-1))):=bT (fG true [4] [1] (by decide) (by decide)) (by kernel_rfl)
theorem aeN:CO 129 [.agg [.bool false,.str [],.str [1]],.agg [.bool false,.str [4],.str [1]]] (.ret (.int .i64 (-1))):=cK (.c apR (.c apQ .nil))
theorem aeO:CO 115 [.agg [.bool false,.str [5],.str [1]]] (.ret (.bool true)):=bT (dI false [5] [1] (by decide) (by decide)) (by kernel_rfl)
theorem aeP:CO 174 [.agg [.bool false,.str [5],.str [1]]] (.ret (.agg [.bool false,.str [5],.str [1]])):=cK (.c aeO .nil)
theorem aeQ:CO 182 [.agg [.bool false,.str [5],.str [1]]] (.ret (.agg [.bool true,.str [5],.str [1]])):=cK (.c aeP .nil)
theorem aeR:CO 115 [.agg [.bool true,.str [5],.str [1]]] (.ret (.bool true)):=bT (dI true [5] [1] (by decide) (by decide)) (by kernel_rfl)
theorem aeS:CO 174 [.agg [.bool true,.str [5],.str [1]]] (.ret (.agg [.bool true,.str [5],.str [1]])):=cK (.c aeR .nil)
theorem TE:CO 161 [.sl [.int .u32 5] 1 true] (.ret (.sl [.int .u32 5] 1 true)):=cK (.nil)
theorem TF:CO 136 [.str [5]] (.ret (.sl [.int .u32 5] 1 true)):=cK (.c TE .nil)
theorem aeT:CO 161 [.sl [.int .u32 5,.int .u32 0] 2 true] (.ret (.sl [.int .u32 5] 1 true)):=cK (.nil)
theorem aeU:CO 189 [.sl [.int .u32 5] 1 true,.sl [.int .u32 1] 1 true] (.ret (.sl [.int .u32 5] 1 true)):=cK (.c aeT .nil)
theorem aeV:CO 141 [.str [0,0,0,5],.int .u8 0] (.ret (.str [5])):=cK (.nil)
theorem aeW:CO 162 [.str [0,0,0,5],.str [0]] (.ret (.str [5])):=cK (.c aeV .nil)
theorem aab:CO 134 [.sl [.int .u32 5] 1 true] (.ret (.str [5])):=cK (.c aeW (.c TE .nil))
theorem aeX:CO 175 [.str [5],.str [1]] (.ret (.str [5])):=cK (.c aab (.c aeU (.c yT (.c TF .nil))))
theorem aeY:CO 183 [.sl [] 0 true,.sl [.int .u32 5] 1 true] (.ret (.int .i64 (-1))):=cK (.nil)
theorem aeZ:CO 188 [.str [],.str [5]] (.ret (.tup [.str [],.bool false])):=cK (.c aeY (.c TF (.c Io .nil)))
theorem ae0:CO 183 [.sl [.int .u32 5] 1 true,.sl [] 0 true] (.ret (.int .i64 1)):=cK (.nil)
theorem ae1:CO 204 [.sl [.int .u32 5] 1 true,.sl [] 0 true] (.ret (.sl [.int .u32 5] 1 true)):=cK (.c TE .nil)
theorem ae2:CO 188 [.str [5],.str []] (.ret (.tup [.str [5],.bool true])):=cK (.c aab (.c ae1 (.c ae0 (.c Io (.c TF .nil)))))
theorem ae3:CO 139 [.bool true,.str [5],.str [1]] (.ret (.agg [.bool true,.str [5],.str [1]])):=bT (pI true [5] [1] (by decide) (by decide) (by decide)) (by kernel_rfl)
theorem ae4:CO 172 [.agg [.bool false,.str [],.str [1]],.agg [.bool true,.str [5],.str [1]]] (.ret (.agg [.bool true,.str [5],.str [1]])):=cK (.c ae3 (.c ae2 (.c aeZ (.c FC (.c aeX (.c Il (.c aeS (.c Xo .nil))))))))
theorem ae5:CO 158 [.agg [.bool false,.str [],.str [1]],.agg [.bool false,.str [5],.str [1]]] (.ret (.agg [.bool true,.str [5],.str [1]])):=cK (.c ae4 (.c aeQ .nil))
theorem ae6:CO 85 [.agg [.bool true,.str [5],.str [1]]] (.ret (.int .i64 (-1))):=bT (fG true [5] [1] (by decide) (by decide)) (by kernel_rfl)
theorem ae7:CO 129 [.agg [.bool false,.str [],.str [1]],.agg [.bool false,.str [5],.str [1]]] (.ret (.int .i64 (-1))):=cK (.c ae6 (.c ae5 .nil))
theorem ae8:CO 115 [.agg [.bool false,.str [6],.str [1]]] (.ret (.bool true)):=bT (dI false [6] [1] (by decide) (by decide)) (by kernel_rfl)
theorem ae9:CO 174 [.agg [.bool false,.str [6],.str [1]]] (.ret (.agg [.bool false,.str [6],.str [1]])):=cK (.c ae8 .nil)
theorem ae_:CO 182 [.agg [.bool false,.str [6],.str [1]]] (.ret (.agg [.bool true,.str [6],.str [1]])):=cK (.c ae9 .nil)
theorem afa:CO 115 [.agg [.bool true,.str [6],.str [1]]] (.ret (.bool true)):=bT (dI true [6] [1] (by decide) (by decide)) (by kernel_rfl)
theorem afb:CO 174 [.agg [.bool true,.str [6],.str [1]]] (.ret (.agg [.bool true,.str [6],.str [1]])):=cK (.c afa .nil)
theorem TG:CO 161 [.sl [.int .u32 6] 1 true] (.ret (.sl [.int .u32 6] 1 true)):=cK (.nil)
theorem TJ:CO 136 [.str [6]] (.ret (.sl [.int .u32 6] 1 true)):=cK (.c TG .nil)
theorem afc:CO 161 [.sl [.int .u32 6,.int .u32 0] 2 true] (.ret (.sl [.int .u32 6] 1 true)):=cK (.nil)
theorem afd:CO 189 [.sl [.int .u32 6] 1 true,.sl [.int .u32 1] 1 true] (.ret (.sl [.int .u32 6] 1 true)):=cK (.c afc .nil)
theorem afe:CO 141 [.str [0,0,0,6],.int .u8 0] (.ret (.str [6])):=cK (.nil)
theorem aff:CO 162 [.str [0,0,0,6],.str [0]] (.ret (.str [6])):=cK (.c afe .nil)
theorem aac:CO 134 [.sl [.int .u32 6] 1 true] (.ret (.str [6])):=cK (.c aff (.c TG .nil))
theorem afg:CO 175 [.str [6],.str [1]] (.ret (.str [6])):=cK (.c aac (.c afd (.c yT (.c TJ .nil))))
theorem afh:CO 183 [.sl [] 0 true,.sl [.int .u32 6] 1 true] (.ret (.int .i64 (-1))):=cK (.nil)
theorem afi:CO 188 [.str [],.str [6]] (.ret (.tup [.str [],.bool false])):=cK (.c afh (.c TJ (.c Io .nil)))
theorem afj:CO 183 [.sl [.int .u32 6] 1 true,.sl [] 0 true] (.ret (.int .i64 1)):=cK (.nil)
theorem afk:CO 204 [.sl [.int .u32 6] 1 true,.sl [] 0 true] (.ret (.sl [.int .u32 6] 1 true)):=cK (.c TG .nil)
theorem afl:CO 188 [.str [6],.str []] (.ret (.tup [.str [6],.bool true])):=cK (.c aac (.c afk (.c afj (.c Io (.c TJ .nil)))))
theorem afm:CO 139 [.bool true,.str [6],.str [1]] (.ret (.agg [.bool true,.str [6],.str [1]])):=bT (pI true [6] [1] (by decide) (by decide) (by decide)) (by kernel_rfl)
theorem afn:CO 172 [.agg [.bool false,.str [],.str [1]],.agg [.bool true,.str [6],.str [1]]] (.ret (.agg [.bool true,.str [6],.str [1]])):=cK (.c afm (.c afl (.c afi (.c FC (.c afg (.c Il (.c afb (.c Xo .nil))))))))
theorem afo:CO 158 [.agg [.bool false,.str [],.str [1]],.agg [.bool false,.str [6],.str [1]]] (.ret (.agg [.bool true,.str [6],.str [1]])):=cK (.c afn (.c ae_ .nil))
theorem afp:CO 85 [.agg [.bool true,.str [6],.str [1]]] (.ret (.int .i64 (-1))):=bT (fG true [6] [1] (by decide) (by decide)) (by kernel_rfl)
theorem afq:CO 129 [.agg [.bool false,.str [],.str [1]],.agg [.bool false,.str [6],.str [1]]] (.ret (.int .i64 (-1))):=cK (.c afp (.c afo .nil))
theorem afr:CO 115 [.agg [.bool false,.str [7],.str [1]]] (.ret (.bool true)):=bT (dI false [7] [1] (by decide) (by decide)) (by kernel_rfl)
theorem afs:CO 174 [.agg [.bool false,.str [7],.str [1]]] (.ret (.agg [.bool false,.str [7],.str [1]])):=cK (.c afr .nil)
theorem aft:CO 182 [.agg [.bool false,.str [7],.str [1]]] (.ret (.agg [.bool true,.str [7],.str [1]])):=cK (.c afs .nil)
theorem afu:CO 115 [.agg [.bool true,.str [7],.str [1]]] (.ret (.bool true)):=bT (dI true [7] [1] (by decide) (by decide)) (by kernel_rfl)
theorem afv:CO 174 [.agg [.bool true,.str [7],.str [1]]] (.ret (.agg [.bool true,.str [7],.str [1]])):=cK (.c afu .nil)
theorem TK:CO 161 [.sl [.int .u32 7] 1 true] (.ret (.sl [.int .u32 7] 1 true)):=cK (.nil)
theorem TL:CO 136 [.str [7]] (.ret (.sl [.int .u32 7] 1 true)):=cK (.c TK .nil)
theorem afw:CO 161 [.sl [.int .u32 7,.int .u32 0] 2 true] (.ret (.sl [.int .u32 7] 1 true)):=cK (.nil)
theorem afx:CO 189 [.sl [.int .u32 7] 1 true,.sl [.int .u32 1] 1 true] (.ret (.sl [.int .u32 7] 1 true)):=cK (.c afw .nil)
theorem afy:CO 141 [.str [0,0,0,7],.int .u8 0] (.ret (.str [7])):=cK (.nil)
theorem afz:CO 162 [.str [0,0,0,7],.str [0]] (.ret (.str [7])):=cK (.c afy .nil)
theorem aad:CO 134 [.sl [.int .u32 7] 1 true] (.ret (.str [7])):=cK (.c afz (.c TK .nil))
theorem afA:CO 175 [.str [7],.str [1]] (.ret (.str [7])):=cK (.c aad (.c afx (.c yT (.c TL .nil))))
theorem afB:CO 183 [.sl [] 0 true,.sl [.int .u32 7] 1 true] (.ret (.int .i64 (-1))):=cK (.nil)
theorem afC:CO 188 [.str [],.str [7]] (.ret (.tup [.str [],.bool false])):=cK (.c afB (.c TL (.c Io .nil)))
theorem afD:CO 183 [.sl [.int .u32 7] 1 true,.sl [] 0 true] (.ret (.int .i64 1)):=cK (.nil)
theorem afE:CO 204 [.sl [.int .u32 7] 1 true,.sl [] 0 true] (.ret (.sl [.int .u32 7] 1 true)):=cK (.c TK .nil)
theorem afF:CO 188 [.str [7],.str []] (.ret (.tup [.str [7],.bool true])):=cK (.c aad (.c afE (.c afD (.c Io (.c TL .nil)))))
theorem afG:CO 139 [.bool true,.str [7],.str [1]] (.ret (.agg [.bool true,.str [7],.str [1]])):=bT (pI true [7] [1] (by decide) (by decide) (by decide)) (by kernel_rfl)
theorem afH:CO 172 [.agg [.bool false,.str [],.str [1]],.agg [.bool true,.str [7],.str [1]]] (.ret (.agg [.bool true,.str [7],.str [1]])):=cK (.c afG (.c afF (.c afC (.c FC (.c afA (.c Il (.c afv (.c Xo .nil))))))))
theorem afI:CO 158 [.agg [.bool false,.str [],.str [1]],.agg [.bool false,.str [7],.str [1]]] (.ret (.agg [.bool true,.str [7],.str [1]])):=cK (.c afH (.c aft .nil))
theorem afJ:CO 85 [.agg [.bool true,.str [7],.str [1]]] (.ret (.int .i64 (-1))):=bT (fG true [7] [1] (by decide) (by decide)) (by kernel_rfl)
theorem afK:CO 129 [.agg [.bool false,.str [],.str [1]],.agg [.bool false,.str [7],.str [1]]] (.ret (.int .i64 (-1))):=cK (.c afJ (.c afI .nil))
theorem afL:CO 115 [.agg [.bool false,.str [8],.str [1]]] (.ret (.bool true)):=bT (dI false [8] [1] (by decide) (by decide)) (by kernel_rfl)
theorem afM:CO 174 [.agg [.bool false,.str [8],.str [1]]] (.ret (.agg [.bool false,.str [8],.str [1]])):=cK (.c afL .nil)
theorem afN:CO 182 [.agg [.bool false,.str [8],.str [1]]] (.ret (.agg [.bool true,.str [8],.str [1]])):=cK (.c afM .nil)
theorem afO:CO 115 [.agg [.bool true,.str [8],.str [1]]] (.ret (.bool true)):=bT (dI true [8] [1] (by decide) (by decide)) (by kernel_rfl)
theorem afP:CO 174 [.agg [.bool true,.str [8],.str [1]]] (.ret (.agg [.bool true,.str [8],.str [1]])):=cK (.c afO .nil)
theorem TM:CO 161 [.sl [.int .u32 8] 1 true] (.ret (.sl [.int .u32 8] 1 true)):=cK (.nil)
theorem TN:CO 136 [.str [8]] (.ret (.sl [.int .u32 8] 1 true)):=cK (.c TM .nil)
theorem afQ:CO 161 [.sl [.int .u32 8,.int .u32 0] 2 true] (.ret (.sl [.int .u32 8] 1 true)):=cK (.nil)
theorem afR:CO 189 [.sl [.int .u32 8] 1 true,.sl [.int .u32 1] 1 true] (.ret (.sl [.int .u32 8] 1 true)):=cK (.c afQ .nil)
theorem afS:CO 141 [.str [0,0,0,8],.int .u8 0] (.ret (.str [8])):=cK (.nil)
theorem afT:CO 162 [.str [0,0,0,8],.str [0]] (.ret (.str [8])):=cK (.c afS .nil)
theorem aae:CO 134 [.sl [.int .u32 8] 1 true] (.ret (.str [8])):=cK (.c afT (.c TM .nil))
theorem afU:CO 175 [.str [8],.str [1]] (.ret (.str [8])):=cK (.c aae (.c afR (.c yT (.c TN .nil))))
theorem afV:CO 183 [.sl [] 0 true,.sl [.int .u32 8] 1 true] (.ret (.int .i64 (-1))):=cK (.nil)
theorem afW:CO 188 [.str [],.str [8]] (.ret (.tup [.str [],.bool false])):=cK (.c afV (.c TN (.c Io .nil)))
theorem afX:CO 183 [.sl [.int .u32 8] 1 true,.sl [] 0 true] (.ret (.int .i64 1)):=cK (.nil)
theorem afY:CO 204 [.sl [.int .u32 8] 1 true,.sl [] 0 true] (.ret (.sl [.int .u32 8] 1 true)):=cK (.c TM .nil)
theorem afZ:CO 188 [.str [8],.str []] (.ret (.tup [.str [8],.bool true])):=cK (.c aae (.c afY (.c afX (.c Io (.c TN .nil)))))
theorem af0:CO 139 [.bool true,.str [8],.str [1]] (.ret (.agg [.bool true,.str [8],.str [1]])):=bT (pI true [8] [1] (by decide) (by decide) (by decide)) (by kernel_rfl)
theorem af1:CO 172 [.agg [.bool false,.str [],.str [1]],.agg [.bool true,.str [8],.str [1]]] (.ret (.agg [.bool true,.str [8],.str [1]])):=cK (.c af0 (.c afZ (.c afW (.c FC (.c afU (.c Il (.c afP (.c Xo .nil))))))))
theorem af2:CO 158 [.agg [.bool false,.str [],.str [1]],.agg [.bool false,.str [8],.str [1]]] (.ret (.agg [.bool true,.str [8],.str [1]])):=cK (.c af1 (.c afN .nil))
theorem af4:CO 85 [.agg [.bool true,.str [8],.str [1]]] (.ret (.int .i64 (-1))):=bT (fG true [8] [1] (by decide) (by decide)) (by kernel_rfl)
theorem af5:CO 129 [.agg [.bool false,.str [],.str [1]],.agg [.bool false,.str [8],.str [1]]] (.ret (.int .i64 (-1))):=cK (.c af4 (.c af2 .nil))
theorem af6:CO 115 [.agg [.bool false,.str [9],.str [1]]] (.ret (.bool true)):=bT (dI false [9] [1] (by decide) (by decide)) (by kernel_rfl)
theorem af7:CO 174 [.agg [.bool false,.str [9],.str [1]]] (.ret (.agg [.bool false,.str [9],.str [1]])):=cK (.c af6 .nil)
theorem af8:CO 182 [.agg [.bool false,.str [9],.str [1]]] (.ret (.agg [.bool true,.str [9],.str [1]])):=cK (.c af7 .nil)
theorem af9:CO 115 [.agg [.bool true,.str [9],.str [1]]] (.ret (.bool true)):=bT (dI true [9] [1] (by decide) (by decide)) (by kernel_rfl)
theorem af_:CO 174 [.agg [.bool true,.str [9],.str [1]]] (.ret (.agg [.bool true,.str [9],.str [1]])):=cK (.c af9 .nil)
theorem TP:CO 161 [.sl [.int .u32 9] 1 true] (.ret (.sl [.int .u32 9] 1 true)):=cK (.nil)
theorem TQ:CO 136 [.str [9]] (.ret (.sl [.int .u32 9] 1 true)):=cK (.c TP .nil)
theorem agb:CO 161 [.sl [.int .u32 9,.int .u32 0] 2 true] (.ret (.sl [.int .u32 9] 1 true)):=cK (.nil)
theorem agc:CO 189 [.sl [.int .u32 9] 1 true,.sl [.int .u32 1] 1 true] (.ret (.sl [.int .u32 9] 1 true)):=cK (.c agb .nil)
theorem agd:CO 141 [.str [0,0,0,9],.int .u8 0] (.ret (.str [9])):=cK (.nil)
theorem age:CO 162 [.str [0,0,0,9],.str [0]] (.ret (.str [9])):=cK (.c agd .nil)
theorem aaf:CO 134 [.sl [.int .u32 9] 1 true] (.ret (.str [9])):=cK (.c age (.c TP .nil))
theorem agf:CO 175 [.str [9],.str [1]] (.ret (.str [9])):=cK (.c aaf (.c agc (.c yT (.c TQ .nil))))
theorem agh:CO 183 [.sl [] 0 true,.sl [.int .u32 9] 1 true] (.ret (.int .i64 (-1))):=cK (.nil)
theorem agi:CO 188 [.str [],.str [9]] (.ret (.tup [.str [],.bool false])):=cK (.c agh (.c TQ (.c Io .nil)))
theorem agj:CO 183 [.sl [.int .u32 9] 1 true,.sl [] 0 true] (.ret (.int .i64 1)):=cK (.nil)
theorem agk:CO 204 [.sl [.int .u32 9] 1 true,.sl [] 0 true] (.ret (.sl [.int .u32 9] 1 true)):=cK (.c TP .nil)
theorem agl:CO 188 [.str [9],.str []] (.ret (.tup [.str [9],.bool true])):=cK (.c aaf (.c agk (.c agj (.c Io (.c TQ .nil)))))
theorem agm:CO 139 [.bool true,.str [9],.str [1]] (.ret (.agg [.bool true,.str [9],.str [1]])):=bT (pI true [9] [1] (by decide) (by decide) (by decide)) (by kernel_rfl)
theorem agn:CO 172 [.agg [.bool false,.str [],.str [1]],.agg [.bool true,.str [9],.str [1]]] (.ret (.agg [.bool true,.str [9],.str [1]])):=cK (.c agm (.c agl (.c agi (.c FC (.c agf (.c Il (.c af_ (.c Xo .nil))))))))
theorem agp:CO 158 [.agg [.bool false,.str [],.str [1]],.agg [.bool false,.str [9],.str [1]]] (.ret (.agg [.bool true,.str [9],.str [1]])):=cK (.c agn (.c af8 .nil))
theorem agq:CO 85 [.agg [.bool true,.str [9],.str [1]]] (.ret (.int .i64 (-1))):=bT (fG true [9] [1] (by decide) (by decide)) (by kernel_rfl)
theorem agr:CO 129 [.agg [.bool false,.str [],.str [1]],.agg [.bool false,.str [9],.str [1]]] (.ret (.int .i64 (-1))):=cK (.c agq (.c agp .nil))
theorem ags:CO 70 [.agg [.bool false,.str [1],.str [1]]] (.ret (.agg [.bool false,.str [1],.str [1]])):=bT (bV false [1] [1] (by decide) (by decide)) (by kernel_rfl)
theorem agt:CO 59 [.agg [.bool false,.str [1],.str [1]]] (.ret (.agg [.bool true,.str [1],.str [1]])):=cK (.c ags .nil)
theorem xM:CO 70 [.agg [.bool false,.str [],.str [1]]] (.ret (.agg [.bool false,.str [],.str [1]])):=bT (bV false [] [1] (by decide) (by decide)) (by kernel_rfl)
theorem agu:CO 70 [.agg [.bool true,.str [1],.str [1]]] (.ret (.agg [.bool true,.str [1],.str [1]])):=bT (bV true [1] [1] (by decide) (by decide)) (by kernel_rfl)
theorem jT:CO 76 [.str []] (.ret (.str [])):=cK (.nil)
theorem agv:CO 107 [.str []] (.ret (.tup [.int .i64 0,.bool true])):=cK (.c jT .nil)
theorem agw:CO 77 [.str [],.int .i64 3] (.ret (.tup [.int .i64 0,.bool true])):=cK (.c agv (.c jT .nil))
theorem Gh:CO 76 [.str [1]] (.ret (.str [1])):=cK (.nil)
theorem aag:CO 107 [.str [1]] (.ret (.tup [.int .i64 1,.bool true])):=cK (.c Gh .nil)
theorem vW:CO 77 [.str [1],.int .i64 4] (.ret (.tup [.int .i64 1,.bool true])):=cK (.c aag (.c Gh .nil))
theorem agx:CO 49 [.int .i64 0] (.ret (.str [])):=bT (dn 0 (by decide)) (by kernel_rfl)
theorem xN:CO 50 [.str [],.str [1]] (.ret (.str [])):=cK (.c agx (.c vW (.c agw .nil)))
theorem agy:CO 77 [.str [1],.int .i64 3] (.ret (.tup [.int .i64 1,.bool true])):=cK (.c aag (.c Gh .nil))
theorem agz:CO 49 [.int .i64 1] (.ret (.str [1])):=bT (dn 1 (by decide)) (by kernel_rfl)
theorem vX:CO 50 [.str [1],.str [1]] (.ret (.str [1])):=cK (.c agz (.c vW (.c agy .nil)))
theorem agA:CO 118 [.str [],.str [1]] (.ret (.int .i64 (-1))):=cK (.c Gh (.c jT .nil))
theorem agB:CO 118 [.str [1],.str []] (.ret (.int .i64 1)):=cK (.c jT (.c Gh .nil))
theorem agC:CO 78 [.str [1]] (.ret (.own [.int .i64 1] 1 1)):=cK (.c Gh .nil)
theorem xO:CO 78 [.str []] (.ret (.nilS)):=cK (.c jT .nil)
theorem agD:CO 108 [.sl [.int .i64 1] 1 true] (.ret (.sl [.int .i64 1] 1 true)):=cK (.nil)
theorem agF:CO 111 [.sl [.int .i64 1] 1 true,.nilS] (.ret (.sl [.int .i64 1] 1 true)):=cK (.c agD .nil)
theorem agG:CO 76 [.str [0,0,1]] (.ret (.str [1])):=cK (.nil)
theorem agI:CO 79 [.sl [.int .i64 1] 1 true] (.ret (.str [1])):=cK (.c agG .nil)
theorem agJ:CO 119 [.str [1],.str []] (.ret (.tup [.str [1],.bool true])):=cK (.c agI (.c agF (.c xO (.c agC (.c agB .nil)))))
theorem agK:CO 51 [.bool true,.str [1],.str [1]] (.ret (.agg [.bool true,.str [1],.str [1]])):=bT (dP true 1 1 (aW (by decide)) (aW (by decide)) (by decide)) (by kernel_rfl)
theorem agL:CO 87 [.agg [.bool false,.str [],.str [1]],.agg [.bool true,.str [1],.str [1]]] (.ret (.agg [.bool true,.str [1],.str [1]])):=cK (.c agK (.c agJ (.c agA (.c vX (.c vX (.c xN (.c agu (.c xM .nil))))))))
theorem agM:CO 53 [.agg [.bool false,.str [],.str [1]],.agg [.bool false,.str [1],.str [1]]] (.ret (.agg [.bool true,.str [1],.str [1]])):=cK (.c agL (.c agt .nil))
theorem agN:CO 45 [.agg [.bool true,.str [1],.str [1]]] (.ret (.int .i64 (-1))):=bT (fM true [1] [1] (by decide) (by decide)) (by kernel_rfl)
theorem agO:CO 24 [.agg [.bool false,.str [],.str [1]],.agg [.bool false,.str [1],.str [1]]] (.ret (.int .i64 (-1))):=cK (.c agN (.c agM .nil))
theorem agP:CO 70 [.agg [.bool false,.str [2],.str [1]]] (.ret (.agg [.bool false,.str [2],.str [1]])):=bT (bV false [2] [1] (by decide) (by decide)) (by kernel_rfl)
theorem agQ:CO 59 [.agg [.bool false,.str [2],.str [1]]] (.ret (.agg [.bool true,.str [2],.str [1]])):=cK (.c agP .nil)
theorem agR:CO 70 [.agg [.bool true,.str [2],.str [1]]] (.ret (.agg [.bool true,.str [2],.str [1]])):=bT (bV true [2] [1] (by decide) (by decide)) (by kernel_rfl)
theorem JQ:CO 76 [.str [2]] (.ret (.str [2])):=cK (.nil)
theorem agS:CO 107 [.str [2]] (.ret (.tup [.int .i64 2,.bool true])):=cK (.c JQ .nil)
theorem agT:CO 77 [.str [2],.int .i64 3] (.ret (.tup [.int .i64 2,.bool true])):=cK (.c agS (.c JQ .nil))
theorem agU:CO 49 [.int .i64 2] (.ret (.str [2])):=bT (dn 2 (by decide)) (by kernel_rfl)
theorem agV:CO 50 [.str [2],.str [1]] (.ret (.str [2])):=cK (.c agU (.c vW (.c agT .nil)))
theorem agW:CO 118 [.str [],.str [2]] (.ret (.int .i64 (-1))):=cK (.c JQ (.c jT .nil))
theorem agX:CO 118 [.str [2],.str []] (.ret (.int .i64 1)):=cK (.c jT (.c JQ .nil))
theorem agY:CO 78 [.str [2]] (.ret (.own [.int .i64 2] 1 1)):=cK (.c JQ .nil)
theorem agZ:CO 108 [.sl [.int .i64 2] 1 true] (.ret (.sl [.int .i64 2] 1 true)):=cK (.nil)
theorem ag0:CO 111 [.sl [.int .i64 2] 1 true,.nilS] (.ret (.sl [.int .i64 2] 1 true)):=cK (.c agZ .nil)
theorem ag1:CO 76 [.str [0,0,2]] (.ret (.str [2])):=cK (.nil)
theorem ag2:CO 79 [.sl [.int .i64 2] 1 true] (.ret (.str [2])):=cK (.c ag1 .nil)
theorem ag3:CO 119 [.str [2],.str []] (.ret (.tup [.str [2],.bool true])):=cK (.c ag2 (.c ag0 (.c xO (.c agY (.c agX .nil)))))
theorem ag4:CO 51 [.bool true,.str [2],.str [1]] (.ret (.agg [.bool true,.str [2],.str [1]])):=bT (dP true 2 1 (aW (by decide)) (aW (by decide)) (by decide)) (by kernel_rfl)
theorem ag5:CO 87 [.agg [.bool false,.str [],.str [1]],.agg [.bool true,.str [2],.str [1]]] (.ret (.agg [.bool true,.str [2],.str [1]])):=cK (.c ag4 (.c ag3 (.c agW (.c vX (.c agV (.c xN (.c agR (.c xM .nil))))))))
theorem ag6:CO 53 [.agg [.bool false,.str [],.str [1]],.agg [.bool false,.str [2],.str [1]]] (.ret (.agg [.bool true,.str [2],.str [1]])):=cK (.c ag5 (.c agQ .nil))
theorem ag7:CO 45 [.agg [.bool true,.str [2],.str [1]]] (.ret (.int .i64 (-1))):=bT (fM true [2] [1] (by decide) (by decide)) (by kernel_rfl)
theorem ag8:CO 24 [.agg [.bool false,.str [],.str [1]],.agg [.bool false,.str [2],.str [1]]] (.ret (.int .i64 (-1))):=cK (.c ag7 (.c ag6 .nil))
theorem ag9:CO 70 [.agg [.bool false,.str [3],.str [1]]] (.ret (.agg [.bool false,.str [3],.str [1]])):=bT (bV false [3] [1] (by decide) (by decide)) (by kernel_rfl)
theorem ag_:CO 59 [.agg [.bool false,.str [3],.str [1]]] (.ret (.agg [.bool true,.str [3],.str [1]])):=cK (.c ag9 .nil)
theorem aha:CO 70 [.agg [.bool true,.str [3],.str [1]]] (.ret (.agg [.bool true,.str [3],.str [1]])):=bT (bV true [3] [1] (by decide) (by decide)) (by kernel_rfl)
theorem JR:CO 76 [.str [3]] (.ret (.str [3])):=cK (.nil)
theorem ahb:CO 107 [.str [3]] (.ret (.tup [.int .i64 3,.bool true])):=cK (.c JR .nil)
theorem ahc:CO 77 [.str [3],.int .i64 3] (.ret (.tup [.int .i64 3,.bool true])):=cK (.c ahb (.c JR .nil))
theorem ahd:CO 49 [.int .i64 3] (.ret (.str [3])):=bT (dn 3 (by decide)) (by kernel_rfl)
theorem ahe:CO 50 [.str [3],.str [1]] (.ret (.str [3])):=cK (.c ahd (.c vW (.c ahc .nil)))
theorem ahf:CO 118 [.str [],.str [3]] (.ret (.int .i64 (-1))):=cK (.c JR (.c jT .nil))
theorem ahg:CO 118 [.str [3],.str []] (.ret (.int .i64 1)):=cK (.c jT (.c JR .nil))
theorem ahh:CO 78 [.str [3]] (.ret (.own [.int .i64 3] 1 1)):=cK (.c JR .nil)
theorem ahi:CO 108 [.sl [.int .i64 3] 1 true] (.ret (.sl [.int .i64 3] 1 true)):=cK (.nil)
theorem ahj:CO 111 [.sl [.int .i64 3] 1 true,.nilS] (.ret (.sl [.int .i64 3] 1 true)):=cK (.c ahi .nil)
theorem ahk:CO 76 [.str [0,0,3]] (.ret (.str [3])):=cK (.nil)
theorem ahl:CO 79 [.sl [.int .i64 3] 1 true] (.ret (.str [3])):=cK (.c ahk .nil)
theorem ahm:CO 119 [.str [3],.str []] (.ret (.tup [.str [3],.bool true])):=cK (.c ahl (.c ahj (.c xO (.c ahh (.c ahg .nil)))))
theorem ahn:CO 51 [.bool true,.str [3],.str [1]] (.ret (.agg [.bool true,.str [3],.str [1]])):=bT (dP true 3 1 (aW (by decide)) (aW (by decide)) (by decide)) (by kernel_rfl)
theorem aho:CO 87 [.agg [.bool false,.str [],.str [1]],.agg [.bool true,.str [3],.str [1]]] (.ret (.agg [.bool true,.str [3],.str [1]])):=cK (.c ahn (.c ahm (.c ahf (.c vX (.c ahe (.c xN (.c aha (.c xM .nil))))))))
theorem ahp:CO 53 [.agg [.bool false,.str [],.str [1]],.agg [.bool false,.str [3],.str [1]]] (.ret (.agg [.bool true,.str [3],.str [1]])):=cK (.c aho (.c ag_ .nil))
theorem ahq:CO 45 [.agg [.bool true,.str [3],.str [1]]] (.ret (.int .i64 (-1))):=bT (fM true [3] [1] (by decide) (by decide)) (by kernel_rfl)
theorem ahr:CO 24 [.agg [.bool false,.str [],.str [1]],.agg [.bool false,.str [3],.str [1]]] (.ret (.int .i64 (-1))):=cK (.c ahq (.c ahp .nil))
theorem ahs:CO 70 [.agg [.bool false,.str [4],.str [1]]] (.ret (.agg [.bool false,.str [4],.str [1]])):=bT (bV false [4] [1] (by decide) (by decide)) (by kernel_rfl)
theorem aht:CO 59 [.agg [.bool false,.str [4],.str [1]]] (.ret (.agg [.bool true,.str [4],.str [1]])):=cK (.c ahs .nil)
theorem ahu:CO 70 [.agg [.bool true,.str [4],.str [1]]] (.ret (.agg [.bool true,.str [4],.str [1]])):=bT (bV true [4] [1] (by decide) (by decide)) (by kernel_rfl)
theorem JS:CO 76 [.str [4]] (.ret (.str [4])):=cK (.nil)
theorem ahv:CO 107 [.str [4]] (.ret (.tup [.int .i64 4,.bool true])):=cK (.c JS .nil)
theorem ahw:CO 77 [.str [4],.int .i64 3] (.ret (.tup [.int .i64 4,.bool true])):=cK (.c ahv (.c JS .nil))
theorem ahx:CO 49 [.int .i64 4] (.ret (.str [4])):=bT (dn 4 (by decide)) (by kernel_rfl)
theorem ahy:CO 50 [.str [4],.str [1]] (.ret (.str [4])):=cK (.c ahx (.c vW (.c ahw .nil)))
theorem ahz:CO 118 [.str [],.str [4]] (.ret (.int .i64 (-1))):=cK (.c JS (.c jT .nil))
theorem ahA:CO 118 [.str [4],.str []] (.ret (.int .i64 1)):=cK (.c jT (.c JS .nil))
theorem ahB:CO 78 [.str [4]] (.ret (.own [.int .i64 4] 1 1)):=cK (.c JS .nil)
theorem ahC:CO 108 [.sl [.int .i64 4] 1 true] (.ret (.sl [.int .i64 4] 1 true)):=cK (.nil)
theorem ahD:CO 111 [.sl [.int .i64 4] 1 true,.nilS] (.ret (.sl [.int .i64 4] 1 true)):=cK (.c ahC .nil)
theorem ahE:CO 76 [.str [0,0,4]] (.ret (.str [4])):=cK (.nil)
theorem ahF:CO 79 [.sl [.int .i64 4] 1 true] (.ret (.str [4])):=cK (.c ahE .nil)
theorem ahG:CO 119 [.str [4],.str []] (.ret (.tup [.str [4],.bool true])):=cK (.c ahF (.c ahD (.c xO (.c ahB (.c ahA .nil)))))
theorem ahH:CO 51 [.bool true,.str [4],.str [1]] (.ret (.agg [.bool true,.str [4],.str [1]])):=bT (dP true 4 1 (aW (by decide)) (aW (by decide)) (by decide)) (by kernel_rfl)
theorem ahI:CO 87 [.agg [.bool false,.str [],.str [1]],.agg [.bool true,.str [4],.str [1]]] (.ret (.agg [.bool true,.str [4],.str [1]])):=cK (.c ahH (.c ahG (.c ahz (.c vX (.c ahy (.c xN (.c ahu (.c xM .nil))))))))
theorem ahJ:CO 53 [.agg [.bool false,.str [],.str [1]],.agg [.bool false,.str [4],.str [1]]] (.ret (.agg [.bool true,.str [4],.str [1]])):=cK (.c ahI (.c aht .nil))
theorem ahK:CO 45 [.agg [.bool true,.str [4],.str [1]]] (.ret (.int .i64 (-1))):=bT (fM true [4] [1] (by decide) (by decide)) (by kernel_rfl)
theorem ahL:CO 24 [.agg [.bool false,.str [],.str [1]],.agg [.bool false,.str [4],.str [1]]] (.ret (.int .i64 (-1))):=cK (.c ahK (.c ahJ .nil))
theorem ahM:CO 70 [.agg [.bool false,.str [5],.str [1]]] (.ret (.agg [.bool false,.str [5],.str [1]])):=bT (bV false [5] [1] (by decide) (by decide)) (by kernel_rfl)
theorem ahN:CO 59 [.agg [.bool false,.str [5],.str [1]]] (.ret (.agg [.bool true,.str [5],.str [1]])):=cK (.c ahM .nil)
theorem ahO:CO 70 [.agg [.bool true,.str [5],.str [1]]] (.ret (.agg [.bool true,.str [5],.str [1]])):=bT (bV true [5] [1] (by decide) (by decide)) (by kernel_rfl)
theorem JU:CO 76 [.str [5]] (.ret (.str [5])):=cK (.nil)
theorem ahP:CO 107 [.str [5]] (.ret (.tup [.int .i64 5,.bool true])):=cK (.c JU .nil)
theorem ahQ:CO 77 [.str [5],.int .i64 3] (.ret (.tup [.int .i64 5,.bool true])):=cK (.c ahP (.c JU .nil))
theorem ahR:CO 49 [.int .i64 5] (.ret (.str [5])):=bT (dn 5 (by decide)) (by kernel_rfl)
theorem ahS:CO 50 [.str [5],.str [1]] (.ret (.str [5])):=cK (.c ahR (.c vW (.c ahQ .nil)))
theorem ahT:CO 118 [.str [],.str [5]] (.ret (.int .i64 (-1))):=cK (.c JU (.c jT .nil))
theorem ahU:CO 118 [.str [5],.str []] (.ret (.int .i64 1)):=cK (.c jT (.c JU .nil))
theorem ahV:CO 78 [.str [5]] (.ret (.own [.int .i64 5] 1 1)):=cK (.c JU .nil)
theorem ahW:CO 108 [.sl [.int .i64 5] 1 true] (.ret (.sl [.int .i64 5] 1 true)):=cK (.nil)
theorem ahX:CO 111 [.sl [.int .i64 5] 1 true,.nilS] (.ret (.sl [.int .i64 5] 1 true)):=cK (.c ahW .nil)
theorem ahY:CO 76 [.str [0,0,5]] (.ret (.str [5])):=cK (.nil)
theorem ahZ:CO 79 [.sl [.int .i64 5] 1 true] (.ret (.str [5])):=cK (.c ahY .nil)
theorem ah0:CO 119 [.str [5],.str []] (.ret (.tup [.str [5],.bool true])):=cK (.c ahZ (.c ahX (.c xO (.c ahV (.c ahU .nil)))))
theorem ah1:CO 51 [.bool true,.str [5],.str [1]] (.ret (.agg [.bool true,.str [5],.str [1]])):=bT (dP true 5 1 (aW (by decide)) (aW (by decide)) (by decide)) (by kernel_rfl)
theorem ah2:CO 87 [.agg [.bool false,.str [],.str [1]],.agg [.bool true,.str [5],.str [1]]] (.ret (.agg [.bool true,.str [5],.str [1]])):=cK (.c ah1 (.c ah0 (.c ahT (.c vX (.c ahS (.c xN (.c ahO (.c xM .nil))))))))
theorem ah3:CO 53 [.agg [.bool false,.str [],.str [1]],.agg [.bool false,.str [5],.str [1]]] (.ret (.agg [.bool true,.str [5],.str [1]])):=cK (.c ah2 (.c ahN .nil))
theorem ah4:CO 45 [.agg [.bool true,.str [5],.str [1]]] (.ret (.int .i64 (-1))):=bT (fM true [5] [1] (by decide) (by decide)) (by kernel_rfl)
theorem ah5:CO 24 [.agg [.bool false,.str [],.str [1]],.agg [.bool false,.str [5],.str [1]]] (.ret (.int .i64 (-1))):=cK (.c ah4 (.c ah3 .nil))
theorem ah6:CO 70 [.agg [.bool false,.str [6],.str [1]]] (.ret (.agg [.bool false,.str [6],.str [1]])):=bT (bV false [6] [1] (by decide) (by decide)) (by kernel_rfl)
theorem ah7:CO 59 [.agg [.bool false,.str [6],.str [1]]] (.ret (.agg [.bool true,.str [6],.str [1]])):=cK (.c ah6 .nil)
theorem ah8:CO 70 [.agg [.bool true,.str [6],.str [1]]] (.ret (.agg [.bool true,.str [6],.str [1]])):=bT (bV true [6] [1] (by decide) (by decide)) (by kernel_rfl)
theorem JV:CO 76 [.str [6]] (.ret (.str [6])):=cK (.nil)
theorem ah9:CO 107 [.str [6]] (.ret (.tup [.int .i64 6,.bool true])):=cK (.c JV .nil)
theorem ah_:CO 77 [.str [6],.int .i64 3] (.ret (.tup [.int .i64 6,.bool true])):=cK (.c ah9 (.c JV .nil))
theorem aia:CO 49 [.int .i64 6] (.ret (.str [6])):=bT (dn 6 (by decide)) (by kernel_rfl)
theorem aib:CO 50 [.str [6],.str [1]] (.ret (.str [6])):=cK (.c aia (.c vW (.c ah_ .nil)))
theorem aic:CO 118 [.str [],.str [6]] (.ret (.int .i64 (-1))):=cK (.c JV (.c jT .nil))
theorem aid:CO 118 [.str [6],.str []] (.ret (.int .i64 1)):=cK (.c jT (.c JV .nil))
theorem aie:CO 78 [.str [6]] (.ret (.own [.int .i64 6] 1 1)):=cK (.c JV .nil)
theorem aif:CO 108 [.sl [.int .i64 6] 1 true] (.ret (.sl [.int .i64 6] 1 true)):=cK (.nil)
theorem aig:CO 111 [.sl [.int .i64 6] 1 true,.nilS] (.ret (.sl [.int .i64 6] 1 true)):=cK (.c aif .nil)
theorem aih:CO 76 [.str [0,0,6]] (.ret (.str [6])):=cK (.nil)
theorem aii:CO 79 [.sl [.int .i64 6] 1 true] (.ret (.str [6])):=cK (.c aih .nil)
theorem aij:CO 119 [.str [6],.str []] (.ret (.tup [.str [6],.bool true])):=cK (.c aii (.c aig (.c xO (.c aie (.c aid .nil)))))
theorem aik:CO 51 [.bool true,.str [6],.str [1]] (.ret (.agg [.bool true,.str [6],.str [1]])):=bT (dP true 6 1 (aW (by decide)) (aW (by decide)) (by decide)) (by kernel_rfl)
theorem ail:CO 87 [.agg [.bool false,.str [],.str [1]],.agg [.bool true,.str [6],.str [1]]] (.ret (.agg [.bool true,.str [6],.str [1]])):=cK (.c aik (.c aij (.c aic (.c vX (.c aib (.c xN (.c ah8 (.c xM .nil))))))))
theorem aim:CO 53 [.agg [.bool false,.str [],.str [1]],.agg [.bool false,.str [6],.str [1]]] (.ret (.agg [.bool true,.str [6],.str [1]])):=cK (.c ail (.c ah7 .nil))
theorem ain:CO 45 [.agg [.bool true,.str [6],.str [1]]] (.ret (.int .i64 (-1))):=bT (fM true [6] [1] (by decide) (by decide)) (by kernel_rfl)
theorem aio:CO 24 [.agg [.bool false,.str [],.str [1]],.agg [.bool false,.str [6],.str [1]]] (.ret (.int .i64 (-1))):=cK (.c ain (.c aim .nil))
theorem aip:CO 70 [.agg [.bool false,.str [7],.str [1]]] (.ret (.agg [.bool false,.str [7],.str [1]])):=bT (bV false [7] [1] (by decide) (by decide)) (by kernel_rfl)
theorem aiq:CO 59 [.agg [.bool false,.str [7],.str [1]]] (.ret (.agg [.bool true,.str [7],.str [1]])):=cK (.c aip .nil)
theorem air:CO 70 [.agg [.bool true,.str [7],.str [1]]] (.ret (.agg [.bool true,.str [7],.str [1]])):=bT (bV true [7] [1] (by decide) (by decide)) (by kernel_rfl)
theorem JW:CO 76 [.str [7]] (.ret (.str [7])):=cK (.nil)
theorem ais:CO 107 [.str [7]] (.ret (.tup [.int .i64 7,.bool true])):=cK (.c JW .nil)
theorem ait:CO 77 [.str [7],.int .i64 3] (.ret (.tup [.int .i64 7,.bool true])):=cK (.c ais (.c JW .nil))
theorem aiu:CO 49 [.int .i64 7] (.ret (.str [7])):=bT (dn 7 (by decide)) (by kernel_rfl)
theorem aiv:CO 50 [.str [7],.str [1]] (.ret (.str [7])):=cK (.c aiu (.c vW (.c ait .nil)))
theorem aiw:CO 118 [.str [],.str [7]] (.ret (.int .i64 (-1))):=cK (.c JW (.c jT .nil))
theorem aix:CO 118 [.str [7],.str []] (.ret (.int .i64 1)):=cK (.c jT (.c JW .nil))
theorem aiy:CO 78 [.str [7]] (.ret (.own [.int .i64 7] 1 1)):=cK (.c JW .nil)
theorem aiz:CO 108 [.sl [.int .i64 7] 1 true] (.ret (.sl [.int .i64 7] 1 true)):=cK (.nil)
theorem aiA:CO 111 [.sl [.int .i64 7] 1 true,.nilS] (.ret (.sl [.int .i64 7] 1 true)):=cK (.c aiz .nil)
theorem aiB:CO 76 [.str [0,0,7]] (.ret (.str [7])):=cK (.nil)
theorem aiC:CO 79 [.sl [.int .i64 7] 1 true] (.ret (.str [7])):=cK (.c aiB .nil)
theorem aiD:CO 119 [.str [7],.str []] (.ret (.tup [.str [7],.bool true])):=cK (.c aiC (.c aiA (.c xO (.c aiy (.c aix .nil)))))
theorem aiE:CO 51 [.bool true,.str [7],.str [1]] (.ret (.agg [.bool true,.str [7],.str [1]])):=bT (dP true 7 1 (aW (by decide)) (aW (by decide)) (by decide)) (by kernel_rfl)
theorem aiF:CO 87 [.agg [.bool false,.str [],.str [1]],.agg [.bool true,.str [7],.str [1]]] (.ret (.agg [.bool true,.str [7],.str [1]])):=cK (.c aiE (.c aiD (.c aiw (.c vX (.c aiv (.c xN (.c air (.c xM .nil))))))))
theorem aiG:CO 53 [.agg [.bool false,.str [],.str [1]],.agg [.bool false,.str [7],.str [1]]] (.ret (.agg [.bool true,.str [7],.str [1]])):=cK (.c aiF (.c aiq .nil))
theorem aiH:CO 45 [.agg [.bool true,.str [7],.str [1]]] (.ret (.int .i64 (-1))):=bT (fM true [7] [1] (by decide) (by decide)) (by kernel_rfl)
theorem aiI:CO 24 [.agg [.bool false,.str [],.str [1]],.agg [.bool false,.str [7],.str [1]]] (.ret (.int .i64 (-1))):=cK (.c aiH (.c aiG .nil))
theorem aiJ:CO 70 [.agg [.bool false,.str [8],.str [1]]] (.ret (.agg [.bool false,.str [8],.str [1]])):=bT (bV false [8] [1] (by decide) (by decide)) (by kernel_rfl)
theorem aiK:CO 59 [.agg [.bool false,.str [8],.str [1]]] (.ret (.agg [.bool true,.str [8],.str [1]])):=cK (.c aiJ .nil)
theorem aiL:CO 70 [.agg [.bool true,.str [8],.str [1]]] (.ret (.agg [.bool true,.str [8],.str [1]])):=bT (bV true [8] [1] (by decide) (by decide)) (by kernel_rfl)
theorem JX:CO 76 [.str [8]] (.ret (.str [8])):=cK (.nil)
theorem aiM:CO 107 [.str [8]] (.ret (.tup [.int .i64 8,.bool true])):=cK (.c JX .nil)
theorem aiN:CO 77 [.str [8],.int .i64 3] (.ret (.tup [.int .i64 8,.bool true])):=cK (.c aiM (.c JX .nil))
theorem aiO:CO 49 [.int .i64 8] (.ret (.str [8])):=bT (dn 8 (by decide)) (by kernel_rfl)
theorem aiP:CO 50 [.str [8],.str [1]] (.ret (.str [8])):=cK (.c aiO (.c vW (.c aiN .nil)))
theorem aiQ:CO 118 [.str [],.str [8]] (.ret (.int .i64 (-1))):=cK (.c JX (.c jT .nil))
theorem aiR:CO 118 [.str [8],.str []] (.ret (.int .i64 1)):=cK (.c jT (.c JX .nil))
theorem aiS:CO 78 [.str [8]] (.ret (.own [.int .i64 8] 1 1)):=cK (.c JX .nil)
theorem aiT:CO 108 [.sl [.int .i64 8] 1 true] (.ret (.sl [.int .i64 8] 1 true)):=cK (.nil)
theorem aiU:CO 111 [.sl [.int .i64 8] 1 true,.nilS] (.ret (.sl [.int .i64 8] 1 true)):=cK (.c aiT .nil)
theorem aiV:CO 76 [.str [0,0,8]] (.ret (.str [8])):=cK (.nil)
theorem aiW:CO 79 [.sl [.int .i64 8] 1 true] (.ret (.str [8])):=cK (.c aiV .nil)
theorem aiX:CO 119 [.str [8],.str []] (.ret (.tup [.str [8],.bool true])):=cK (.c aiW (.c aiU (.c xO (.c aiS (.c aiR .nil)))))
theorem aiY:CO 51 [.bool true,.str [8],.str [1]] (.ret (.agg [.bool true,.str [8],.str [1]])):=bT (dP true 8 1 (aW (by decide)) (aW (by decide)) (by decide)) (by kernel_rfl)
theorem aiZ:CO 87 [.agg [.bool false,.str [],.str [1]],.agg [.bool true,.str [8],.str [1]]] (.ret (.agg [.bool true,.str [8],.str [1]])):=cK (.c aiY (.c aiX (.c aiQ (.c vX (.c aiP (.c xN (.c aiL (.c xM .nil))))))))
theorem ai0:CO 53 [.agg [.bool false,.str [],.str [1]],.agg [.bool false,.str [8],.str [1]]] (.ret (.agg [.bool true,.str [8],.str [1]])):=cK (.c aiZ (.c aiK .nil))
theorem ai1:CO 45 [.agg [.bool true,.str [8],.str [1]]] (.ret (.int .i64 (-1))):=bT (fM true [8] [1] (by decide) (by decide)) (by kernel_rfl)
theorem ai2:CO 24 [.agg [.bool false,.str [],.str [1]],.agg [.bool false,.str [8],.str [1]]] (.ret (.int .i64 (-1))):=cK (.c ai1 (.c ai0 .nil))
theorem ai3:CO 70 [.agg [.bool false,.str [9],.str [1]]] (.ret (.agg [.bool false,.str [9],.str [1]])):=bT (bV false [9] [1] (by decide) (by decide)) (by kernel_rfl)
theorem ai4:CO 59 [.agg [.bool false,.str [9],.str [1]]] (.ret (.agg [.bool true,.str [9],.str [1]])):=cK (.c ai3 .nil)
theorem ai5:CO 70 [.agg [.bool true,.str [9],.str [1]]] (.ret (.agg [.bool true,.str [9],.str [1]])):=bT (bV true [9] [1] (by decide) (by decide)) (by kernel_rfl)
theorem JY:CO 76 [.str [9]] (.ret (.str [9])):=cK (.nil)
theorem ai6:CO 107 [.str [9]] (.ret (.tup [.int .i64 9,.bool true])):=cK (.c JY .nil)
theorem ai7:CO 77 [.str [9],.int .i64 3] (.ret (.tup [.int .i64 9,.bool true])):=cK (.c ai6 (.c JY .nil))
theorem ai8:CO 49 [.int .i64 9] (.ret (.str [9])):=bT (dn 9 (by decide)) (by kernel_rfl)
theorem ai9:CO 50 [.str [9],.str [1]] (.ret (.str [9])):=cK (.c ai8 (.c vW (.c ai7 .nil)))
theorem ai_:CO 118 [.str [],.str [9]] (.ret (.int .i64 (-1))):=cK (.c JY (.c jT .nil))
theorem aja:CO 118 [.str [9],.str []] (.ret (.int .i64 1)):=cK (.c jT (.c JY .nil))
theorem ajb:CO 78 [.str [9]] (.ret (.own [.int .i64 9] 1 1)):=cK (.c JY .nil)
theorem ajc:CO 108 [.sl [.int .i64 9] 1 true] (.ret (.sl [.int .i64 9] 1 true)):=cK (.nil)
theorem ajd:CO 111 [.sl [.int .i64 9] 1 true,.nilS] (.ret (.sl [.int .i64 9] 1 true)):=cK (.c ajc .nil)
theorem aje:CO 76 [.str [0,0,9]] (.ret (.str [9])):=cK (.nil)
theorem ajf:CO 79 [.sl [.int .i64 9] 1 true] (.ret (.str [9])):=cK (.c aje .nil)
theorem ajg:CO 119 [.str [9],.str []] (.ret (.tup [.str [9],.bool true])):=cK (.c ajf (.c ajd (.c xO (.c ajb (.c aja .nil)))))
theorem ajh:CO 51 [.bool true,.str [9],.str [1]] (.ret (.agg [.bool true,.str [9],.str [1]])):=bT (dP true 9 1 (aW (by decide)) (aW (by decide)) (by decide)) (by kernel_rfl)
theorem aji:CO 87 [.agg [.bool false,.str [],.str [1]],.agg [.bool true,.str [9],.str [1]]] (.ret (.agg [.bool true,.str [9],.str [1]])):=cK (.c ajh (.c ajg (.c ai_ (.c vX (.c ai9 (.c xN (.c ai5 (.c xM .nil))))))))
theorem ajj:CO 53 [.agg [.bool false,.str [],.str [1]],.agg [.bool false,.str [9],.str [1]]] (.ret (.agg [.bool true,.str [9],.str [1]])):=cK (.c aji (.c ai4 .nil))
theorem ajk:CO 45 [.agg [.bool true,.str [9],.str [1]]] (.ret (.int .i64 (-1))):=bT (fM true [9] [1] (by decide) (by decide)) (by kernel_rfl)
theorem ajl:CO 24 [.agg [.bool false,.str [],.str [1]],.agg [.bool false,.str [9],.str [1]]] (.ret (.int .i64 (-1))):=cK (.c ajk (.c ajj .nil))
theorem abl (n:Nat) (h:1≤n∧n≤9):CO 129 [.agg [.bool false,.str [],.str [1]],.agg [.bool false,.str [UInt8.ofNat n],.str [1]]] (.ret (.int .i64 (-1))):=by
 obtain ⟨b,a⟩:=h
 match n,b,a with
 |1,_,_=>exact aoQ
 |2,_,_=>exact ao_
 |3,_,_=>exact apu
 |4,_,_=>exact aeN
 |5,_,_=>exact ae7
 |6,_,_=>exact afq
 |7,_,_=>exact afK
 |8,_,_=>exact af5
 |9,_,_=>exact agr
theorem alG (n:Nat) (h:1≤n∧n≤9):CO 24 [.agg [.bool false,.str [],.str [1]],.agg [.bool false,.str [UInt8.ofNat n],.str [1]]] (.ret (.int .i64 (-1))):=by
 obtain ⟨b,a⟩:=h
 match n,b,a with
 |1,_,_=>exact agO
 |2,_,_=>exact ag8
 |3,_,_=>exact ahr
 |4,_,_=>exact ahL
 |5,_,_=>exact ah5
 |6,_,_=>exact aio
 |7,_,_=>exact aiI
 |8,_,_=>exact ai2
 |9,_,_=>exact ajl
theorem jG {a:List Nd} (h:a.all (fun x=>Nat.ble (x.num.length+1) 8589934592 && Nat.ble (x.den.length+1) 8589934592)=true):∀ x ∈ a,x.sm:=by
 intro x b
 have:=List.all_eq_true.1 h x b
 rw [Bool.and_eq_true] at this
 exact ⟨Nat.le_of_ble_eq_true this.1,Nat.le_of_ble_eq_true this.2⟩
def jo:Br→Br→Int:=fun _ _=> -1
theorem uG {f:Nat}:H5 f jo []:=fun q a=>by simp at a
theorem Gl {f:Nat} {a b:Br} (h:CO f [MB a,MB b] (.ret (.int .i64 (-1)))):sD f jo [a,b]:=by
 intro i y x d c _ _
 match i with
 |0=>simp at d c;subst d c;exact h
 |i+1=>simp at c
theorem Qr {f:Nat} {a:Br}:sD f jo [a]:=by
 intro i y x c b _ _
 simp at b
theorem Ls {f:Nat} {a b:Br} {g:List UInt8} {u1 u2:Int} (i:a.sm) (e:b.sm) (h:CO f [MB a,MB b] (.ret (.int .i64 (-1)))):H5 f jo [⟨g,u1,u2,[a,b]⟩]:=by
 intro q c
 rw [List.mem_singleton] at c
 subst c
 refine ⟨by simp, ?_,Gl h⟩
 intro x d
 simp only [List.mem_cons,List.not_mem_nil,or_false] at d
 rcases d with rfl|rfl
 ·exact i
 ·exact e
def WL (q:Sq):Prop:=∃ b:Br,b.sm∧b.fn=false∧b.fa= []∧b.fd= [1]∧(q.l= [b]∨∃ (c:Br) (n:Nat),1≤n∧n≤9∧c.sm∧c.fn=false∧c.fa= [UInt8.ofNat n]∧c.fd= [1]∧q.l= [b,c])
theorem kK {f:Nat} (j:∀ n:Nat,1≤n∧n≤9→CO f [.agg [.bool false,.str [],.str [1]],.agg [.bool false,.str [UInt8.ofNat n],.str [1]]] (.ret (.int .i64 (-1)))) {qs:List Sq} (h:∀ q ∈ qs,WL q):H5 f jo qs:=by
 intro q l
 obtain ⟨b,i,r,s,m,a⟩:=h q l
 rcases a with a|⟨c,n,k,t,o,p,e,g,a⟩
 ·rw [a]
  refine ⟨by simp, ?_,Qr⟩
  intro x d
  rw [List.mem_singleton] at d
  exact d ▸ i
 ·rw [a]
  refine ⟨by simp, ?_,Gl ?_⟩
  ·intro x d
   simp only [List.mem_cons,List.not_mem_nil,or_false] at d
   rcases d with rfl|rfl
   ·exact i
   ·exact o
  ·have:=j n ⟨k,t⟩
   unfold MB
   rw [r,s,m,p,e,g]
   exact this
end Go.Proofs.Tryz
