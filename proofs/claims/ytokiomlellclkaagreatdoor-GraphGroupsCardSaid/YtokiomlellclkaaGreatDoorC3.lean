/- Contracts of functions that the law reaches, each by its own hypotheses; joined by a program of mine. -/
import Derived.Test.YtokiomlellclkaaGreatDoorC2
import Derived.Test.YtokiomlellclkaaGreatDoorM5
import Derived.Test.YtokiomlellclkaaGreatDoorC1
import Derived.Test.YtokiomlellclkaaGreatDoorM4
import Derived.Test.YtokiomlellclkaaGreatDoorCards
import Derived.Test.YtokiomlellclkaaGreatDoorTie
import Derived.Deep.DeepHandedRow
import Derived.RangeFuncBox
import Derived.RangeFuncCalls
import Derived.RangeFuncLeaves
import Derived.Shelf.Abstract
import Derived.WalkKit
import Derived.OwnWalkIn
import Derived.TacticsInMore
import Derived.LoopNIn
import Derived.LoopIn
set_option linter.unusedSimpArgs false
set_option linter.unusedVariables false
set_option maxRecDepth 100000
set_option linter.unusedVariables false
open Go AM
open Go.IntKind renaming wrap→ν
open Nat renaming add_sub_cancel→Xjm,le_refl→ζ,ble_eq_true_of_le→ξ,add_assoc→Xx9,add_comm→Xxk,zero_add→Φ,ble→Xqq,zero_le→Xqn,mul_one→Xw1,reduceAdd→Xwh,reduceSub→Xwi
open List renaming take→Xqk,append_assoc→Xqi,mem_singleton→χ,length_append→η,length_singleton→Xxw,all→Xqd,drop→κ,map_append→Xxp,length_cons→τ,append_nil→μ,map_nil→Xje,nodup_append→Xq6,set_eq_take_append_cons_drop→Xxz,map_toArray→Xzs,map_cons→Γ,length→Xqb,mem_cons→Xqo,map_drop→Xwf,drop_eq_getElem_cons→Xxn,getD_eq_getElem?_getD→γ,getElem?_eq_getElem→δ,getElem?_set_self→Xx4,getElem?_eq_none→Xxl,flatMap_cons→Xqa,getElem?_set_ne→Xx1,replicate→Xqh,replicate_succ→Xxm,flatten_cons→Xx6,getElem?_replicate→Xzk,mem_cons_of_mem→Θ,nodup_cons→Xxo,range→Ψ,length_nil→Xqf,nil_append→Xqj,length_eq_zero_iff→Xjs,drop_left'→Xv1,length_map→Xxa,getElem_mem→Xxq,foldl_cons→Xqw,perm_ext_iff_of_nodup→Xx3,mem_filter→Xq7,mem_range→Xju,length_filter_le→Xqp,take_of_length_le→Xqr,find?_cons_of_pos→Xwr,find?_cons_of_neg→Xws,find?_append→Xvg,getElem?_map→φ,nodup_range→Xxr,mem_of_getElem?→ο,flatMap_def→Xwn,sublist_flatten_of_mem→Xj3,prefix_refl→Xvq,prefix_append→Xz6,size_toArray→Xxe,push_toArray→Xzp,append_toArray→Xzc,cons_append→Xqz
open Option renaming map_some→Xqu,getD→Xqc,getD_some→Xqt
open Int renaming toNat→θ,toNat_natCast→Xzo
open Bool renaming eq_false_iff→Xjf,not_eq_true'→Xqe
open Decidable renaming byContradiction→Xjn
namespace Go.Proofs.Tryz
theorem Ih {j:Nat} (b:j<2^60):ω (ν .i64 (Int.tdiv (ν .i64 ((j:Int) - ((1:Nat):Int))) ((2:Nat):Int)))= ω (((j - 1) / 2:Nat):Int):=by
 rw [jD (x:=(j:Int) - ((1:Nat):Int)) (by omega) (by omega)];congr 1;cases j with
 |zero=>decide
 |succ j=>
  have e:((j+1:Nat):Int) - ((1:Nat):Int)=(j:Int):=by omega
  have a:Int.tdiv (j:Int) ((2:Nat):Int)=((j / 2:Nat):Int):=rfl;rw [e,a,OX (by omega),Xjm]
abbrev LRu (b0 b1:az) (a b:St):Prop:=∀ nt,23≤nt→aN prog ap [b0,b1] nt (ah 0 (af f98)) (fun _:St=> .exit 0) (id:St→St) id a b
abbrev LRd (b0 b1:az) (a b:St):Prop:=∀ nt,48≤nt→aN prog ap [b0,b1] nt (ah 0 (af f99)) (fun _:St=> .exit 0) (id:St→St) id a b
theorem oH {l:List aT} (a:∀ z ∈ l,eP z) {i j:Nat} (b:i<l.length) (d:j<l.length):∀ z ∈ gm dS l i j,eP z:=fun z c=>a z ((ql dS b d).mem_iff.1 c)
theorem OU (c b:az) (n:Nat) (d:n<2^58):∀ (f:Nat) (l:List aT) (OT:List AV) (j:Nat),l.length=n→j<n→j≤f→QS l OT→(∀ z ∈ l,eP z)→∃ OT2,QS (Vf jY dS f l j) OT2∧LRu c b (upS n OT j) (upE n OT2)
 |0,l,OT,j,hl,hj,hf,hq,hg=>by
  have:j=0:=by omega
  subst this;exact ⟨OT,hq,fun nt a=> .done (ahq a c b n OT OT 0 0 true rfl (Ih (by omega)))⟩
 | f+1,l,OT,j,hl,hj,hf,hq,hg=>by
  subst hl;unfold Vf;by_cases h0:(j - 1) / 2=j
  ·rw [if_pos (.inl h0)];exact ⟨OT,hq,fun nt a=> .done (ahq a c b l.length OT OT ((j - 1) / 2) j true (by rw [beq_iff_eq];omega) (Ih (by omega)))⟩
  ·have h:(j - 1) / 2<l.length:=by omega
   have g:=CG hq hg hj h;have m:((((j - 1) / 2:Nat):Int)==(j:Int))=false:=by rw [Yq2];omega
   cases e:jY (l.getD j dS) (l.getD ((j - 1) / 2) dS) with
   |false=>
    rw [e] at g;rw [if_pos (.inr rfl)];exact ⟨OT,hq,fun nt a=> .done (akf a c b l.length OT OT ((j - 1) / 2) j false m (Ih (by omega)) rfl g)⟩
   |true=>
    rw [e] at g;rw [if_neg (by simp [h0])];obtain ⟨OT1,o,p⟩:=D5 hq h hj;obtain ⟨OT2,q,r⟩:=OU c b l.length d f (gm dS l ((j - 1) / 2) j) OT1 ((j - 1) / 2) (dX _ _ _ _) h (by omega) o (oH hg h hj);exact ⟨OT2,q,fun nt a=> .next (ake a c b l.length OT OT1 ((j - 1) / 2) j true m (Ih (by omega)) rfl g p) (r nt a)⟩
theorem ZP {l:List aT} {OT:List AV} {j:Nat} (c:QS l OT) (b:∀ z ∈ l,eP z) (h:j<l.length) (a:l.length<2^58) {f:Nat} (e:j≤f):∃ OT2,QS (Vf jY dS f l j) OT2∧ae prog ap 98 [.ifc 99 (.ptr 0 0 0),nI j] (qH l.length OT) (.ret (.tup [])) (qH l.length OT2):=by
 obtain ⟨OT2,d,g⟩:=OU ⟨[.ref 1 0 0 l.length,.ifc 101 (.agg [])],0,false,0,0,false⟩ ⟨OT,0,false,0,2,true⟩ l.length a f l OT j rfl h e c b;exact ⟨OT2,d,akd l.length OT OT2 j (aN.blk (id:=0) (e':= .normal) g (by simp) rfl (aH.refl _) (aH.refl _))⟩
theorem hcD {i:Nat} (h:i<2^60):ω (ν .i64 ((ν .i64 (((2:Nat):Int)*(i:Int)))+((1:Nat):Int)))= ω ((2*i+1:Nat):Int):=by
 rw [Xz (by omega),xN (by omega)]
theorem hcE {c:Nat} (h:c<2^61):ω (ν .i64 ((c:Int)+((1:Nat):Int)))= ω (((c+1):Nat):Int):=by
 rw [xN (by omega)]
theorem Ai (q r:az) (n m:Nat) (t:n<2^58) (x:m≤n):∀ (f:Nat) (l:List aT) (OT:List AV) (i:Nat),l.length=n→i<n→m≤i+f→QS l OT→(∀ z ∈ l,eP z)→∃ OT2 i2,QS (Kq jY dS m f l i) OT2∧LRd q r (Qw n OT m i) (dnE n OT2 i2)
 |0,l,OT,i,hl,hi,hf,hq,hg=> ⟨OT,i,hq,fun nt b=> .done (acE b q r n OT OT m i (2*i+1) true true (Yq0 (by omega)) (hcD (by omega)))⟩
 | f +1,l,OT,i,hl,hi,hf,hq,hg=>by
  subst hl;unfold Kq;by_cases h0:m≤2*i+1
  ·rw [if_pos h0];exact ⟨OT,i,hq,fun nt b=> .done (acE b q r l.length OT OT m i (2*i+1) true true (Yq0 (by omega)) (hcD (by omega)))⟩
  ·rw [if_neg h0];have hm:(decide ((m:Int)≤((2*i+1:Nat):Int)))=false:=Yq1 (by omega);have A:(decide (((2*i+1:Nat):Int)<((0:Nat):Int)))=false:=Yq1 (by omega);have p:=hcD (i:=i) (by omega);have g:=hcE (c:=2*i+1) (by omega);have a:2*i+1<l.length:=by omega
   by_cases h2:2*i+2<m
   ·have y:(decide ((((2*i+1+1):Nat):Int)<(m:Int)))=true:=Yq0 (by omega);have u:2*i+1+1<l.length:=by omega
    have o:=CG hq hg u a;cases v:jY (l.getD (2*i+1+1) dS) (l.getD (2*i+1) dS) with
    | true=>
     have B:rQ jY dS l m i=2*i+1+1:=by unfold rQ;rw [if_pos ⟨h2,v⟩]
     rw [B];rw [v] at o;have e:=CG hq hg u hi;cases d:jY (l.getD (2*i+1+1) dS) (l.getD i dS) with
     |false=>
      rw [d] at e;rw [if_pos rfl];exact ⟨OT,i,hq,fun nt b=> .done (acL b q r l.length OT OT m i (2*i+1) false true hm p A g y rfl o rfl e)⟩
     |true=>
      rw [d] at e;rw [if_neg (by simp)];obtain ⟨OT1,F,C⟩:=D5 hq hi u;obtain ⟨OT2,i2,G,D⟩:=Ai q r l.length m t x f (gm dS l i (2*i+1+1)) OT1 (2*i+1+1) (dX _ _ _ _) u (by omega) F (oH hg hi u);exact ⟨OT2,i2,G,fun nt b=> .next (acK b q r l.length OT OT1 m i (2*i+1) true true hm p A g y rfl o rfl e C) (D nt b)⟩
    | false=>
     have B:rQ jY dS l m i=2*i+1:=by unfold rQ;rw [if_neg (fun h=>by rw [v] at h;cases h.2)]
     rw [B];rw [v] at o;have e:=CG hq hg a hi;cases d:jY (l.getD (2*i+1) dS) (l.getD i dS) with
     |false=>
      rw [d] at e;rw [if_pos rfl];exact ⟨OT,i,hq,fun nt b=> .done (acG b q r l.length OT OT m i (2*i+1) false false hm p A g y rfl o rfl e)⟩
     |true=>
      rw [d] at e;rw [if_neg (by simp)];obtain ⟨OT1,F,C⟩:=D5 hq hi a;obtain ⟨OT2,i2,G,D⟩:=Ai q r l.length m t x f (gm dS l i (2*i+1)) OT1 (2*i+1) (dX _ _ _ _) a (by omega) F (oH hg hi a);exact ⟨OT2,i2,G,fun nt b=> .next (acF b q r l.length OT OT1 m i (2*i+1) true false hm p A g y rfl o rfl e C) (D nt b)⟩
   ·have y:(decide ((((2*i+1+1):Nat):Int)<(m:Int)))=false:=Yq1 (by omega);have B:rQ jY dS l m i=2*i+1:=by unfold rQ;rw [if_neg (fun h=>h2 h.1)]
    rw [B];have e:=CG hq hg a hi;cases d:jY (l.getD (2*i+1) dS) (l.getD i dS) with
    |false=>
     rw [d] at e;rw [if_pos rfl];exact ⟨OT,i,hq,fun nt b=> .done (acJ b q r l.length OT OT m i (2*i+1) false false hm p A g y rfl e)⟩
    |true=>
     rw [d] at e;rw [if_neg (by simp)];obtain ⟨OT1,F,C⟩:=D5 hq hi a;obtain ⟨OT2,i2,G,D⟩:=Ai q r l.length m t x f (gm dS l i (2*i+1)) OT1 (2*i+1) (dX _ _ _ _) a (by omega) F (oH hg hi a);exact ⟨OT2,i2,G,fun nt b=> .next (acH b q r l.length OT OT1 m i (2*i+1) true false hm p A g y rfl e C) (D nt b)⟩
def qV (n:Nat) (OT:List AV):List az:= [⟨[.ref 1 1 0 n,.ifc 101 (.agg [])],0,false,0,0,false⟩,⟨OT,1,false,0,2,true⟩]
theorem Wi (n:Nat) (OT:List AV) (OT1 OT2:List AV) (x:aT) (a:ω (ν .i64 ((((n+1):Nat):Int) - ((1:Nat):Int)))= ω (n:Int)) (hp:ae prog ap 350 [.ptr 0 0 0,.ifc 66 (.agg (sC x))] (qH n OT) (.ret (.tup [])) (qV (n+1) OT1)) (c:ae prog ap 51 [.ptr 0 0 0] (qH (n+1) OT1) (.ret (ω (((n+1):Nat):Int))) (qH (n+1) OT1)) (b:ae prog ap 98 [.ifc 99 (.ptr 0 0 0),ω (n:Int)] (qH (n+1) OT1) (.ret (.tup [])) (qH (n+1) OT2)):ae prog ap 50 [.ifc 99 (.ptr 0 0 0),.ifc 66 (.agg (sC x))] (qH n OT) (.ret (.tup [])) (qV (n+1) OT2):=by
 exact pK [] 0 0 .nil (.c b (.v 10 (.eq a) (.c c (.c hp .nil))))
theorem Wj (OT1 OT2:List AV) (x:aT) (a:ω (ν .i64 (((1:Nat):Int) - ((1:Nat):Int)))= ω ((0:Nat):Int)) (hp:ae prog ap 350 [.ptr 0 0 0,.ifc 66 (.agg (sC x))] qN0 (.ret (.tup [])) (qH 1 OT1)) (c:ae prog ap 51 [.ptr 0 0 0] (qH 1 OT1) (.ret (ω ((1:Nat):Int))) (qH 1 OT1)) (b:ae prog ap 98 [.ifc 99 (.ptr 0 0 0),ω ((0:Nat):Int)] (qH 1 OT1) (.ret (.tup [])) (qH 1 OT2)):ae prog ap 50 [.ifc 99 (.ptr 0 0 0),.ifc 66 (.agg (sC x))] qN0 (.ret (.tup [])) (qH 1 OT2):=by
 exact pK [] 0 0 .nil (.c b (.v 10 (.eq a) (.c c (.c hp .nil))))
theorem aaE (n k:Nat) (OT OT1 OT2:List AV) (a:aT) (e:Bool) (b:ω (ν .i64 ((n:Int) - ((1:Nat):Int)))= ω (k:Int)) (f:ae prog ap 51 [.ptr 0 0 0] (qH n OT) (.ret (ω (n:Int))) (qH n OT)) (hs:ae prog ap 351 [.ptr 0 0 0,ω 0,ω (k:Int)] (qH n OT) (.ret (.tup [])) (qH n OT1)) (c:ae prog ap 99 [.ifc 99 (.ptr 0 0 0),ω 0,ω (k:Int)] (qH n OT1) (.ret (.bool e)) (qH n OT2)) (d:ae prog ap 349 [.ptr 0 0 0] (qH n OT2) (.ret (.ifc 66 (.agg (sC a)))) (qH k OT2)):ae prog ap 52 [.ifc 99 (.ptr 0 0 0)] (qH n OT) (.ret (.ifc 66 (.agg (sC a)))) (qH k OT2):=by
 exact pK [] 0 0 .nil (.c d (.c c (.c hs (.v 6 (.eq b) (.c f .nil)))))
theorem acI {l:List aT} {OT:List AV} {m:Nat} (c:QS l OT) (b:∀ z ∈ l,eP z) (hm:m≤l.length) (h0:0<l.length) (a:l.length<2^58):∃ OT2 bb,QS (Kq jY dS m m l 0) OT2∧ae prog ap 99 [.ifc 99 (.ptr 0 0 0),nI 0,nI m] (qH l.length OT) (.ret (.bool bb)) (qH l.length OT2):=by
 obtain ⟨OT2,i2,d,e⟩:=Ai ⟨[.ref 1 0 0 l.length,.ifc 101 (.agg [])],0,false,0,0,false⟩ ⟨OT,0,false,0,2,true⟩ l.length m a hm m l OT 0 rfl h0 (by omega) c b;exact ⟨OT2,_,d,ah7 l.length OT OT2 m i2 (aN.blk (id:=0) (e':= .normal) e (by simp) rfl (aH.refl _) (aH.refl _))⟩
theorem QS.snoc {l:List aT} {OT:List AV} (h:QS l OT) (x:aT):QS (l++ [x]) (Xqk (l.length*2) OT++sC x):=by
 have e:Xqk (l.length*2) OT++sC x=sL (l++ [x])++ []:=by rw [h];simp [sL]
 rw [e];exact .of _
theorem QS.take {l:List aT} {OT:List AV} (h:QS l OT) (k:Nat):QS (l.take k) OT:=by
 have e:OT=sL (l.take k)++(sL (l.drop k)++OT.drop (l.length*2)):=by
  rw [← Xqi];have a:sL (l.take k)++sL (l.drop k)=sL l:=by unfold sL;rw [← List.flatMap_append,List.take_append_drop]
  rw [a];exact h.eq
 rw [e];exact .of _
theorem PM {l:List aT} (b:∀ z ∈ l,eP z) {x:aT} (c:eP x):∀ z ∈ l++ [x],eP z:=fun z a=>by
 rcases List.mem_append.1 a with h|h
 ·exact b z h
 ·rw [χ] at h;exact h ▸ c
theorem Jc {l:List aT} {OT:List AV} {x:aT} (a:QS l OT) (c:∀ z ∈ l,eP z) (d:eP x) (e:l.length+1<2^40):∃ OT2,QS (kN jY dS l x) OT2∧ae prog ap 50 [.ifc 99 (.ptr 0 0 0),.ifc 66 (.agg (sC x))] (qH l.length OT) (.ret (.tup [])) (qV (l.length+1) OT2):=by
 have m:=a.len;have g:=a.snoc x;obtain ⟨OT2,h,b⟩:=ZP (j:=l.length) (f:=l.length) g (PM c d) (by simp) (by simp;omega) (ζ _);rw [η,Xxw] at b;exact ⟨OT2,h,Wi l.length OT _ OT2 x (by rw [xO (by omega) (by omega),Xjm]) (aep l.length OT x (ξ (by omega)) (ξ m)) (E5 _ _) b⟩
theorem PP {x:aT} (b:eP x):∃ OT2,QS (kN jY dS [] x) OT2∧ae prog ap 50 [.ifc 99 (.ptr 0 0 0),.ifc 66 (.agg (sC x))] qN0 (.ret (.tup [])) (qH 1 OT2):=by
 have c:QS [x] (sC x):=rfl;obtain ⟨OT2,e,d⟩:=ZP (j:=0) (f:=0) c (fun z a=>by rw [χ] at a;exact a ▸ b) (by simp) (by simp) (ζ _);exact ⟨OT2,e,Wj _ OT2 x (by rw [xO (by omega) (by omega)]) (aeq x) (E5 _ _) d⟩
theorem Wh {l:List aT} {OT:List AV} (p:QS l OT) (h:∀ z ∈ l,eP z) (a:0<l.length) (o:l.length<2^40):∃ OT2,QS (pX jY dS l).2 OT2∧ae prog ap 52 [.ifc 99 (.ptr 0 0 0)] (qH l.length OT) (.ret (.ifc 66 (.agg (sC (pX jY dS l).1)))) (qH (l.length - 1) OT2):=by
 have d:l.length - 1<l.length:=by omega
 obtain ⟨OT1,u,v⟩:=D5 p a d;have b:=dX dS l 0 (l.length - 1);obtain ⟨OT2,x,g,e⟩:=acI (m:=l.length - 1) u (oH h a d) (by omega) (by omega) (by omega);rw [b] at e;have r:(Kq jY dS (l.length - 1) (l.length - 1) (gm dS l 0 (l.length - 1)) 0).length=l.length:=by
  have key:∀ (n f:Nat) (l:List aT) (i:Nat),(Kq jY dS n f l i).length=l.length:=by
   intro n f
   induction f with
   |zero=>intro l i;rfl
   | succ f ih=>
    intro l i;unfold Kq;split
    ·rfl
    ·split
     ·rfl
     ·rw [ih,dX]
  rw [key,b]
 obtain ⟨q,t⟩:=g.drop (i:=l.length - 1) (by omega);have c:ω (ν .i64 ((l.length:Int) - ((1:Nat):Int)))= ω ((l.length - 1:Nat):Int):=by rw [xO (by omega) (by omega)]
 exact ⟨OT2,g.take (l.length - 1),aaE l.length (l.length - 1) OT OT1 OT2 _ x c (E5 _ _) v e (aeo l.length OT2 (l.length - 1) _ q t c (ltn d))⟩
def oiS (uk uv ks vs:List AV) (st:List aT) (k:Nat) (xs:List Cl) (j:Nat):St:=⟨[(5,.mr 0 0),(6,.sl (sL st) st.length false),(7,.mr 1 0),(8,ω (k:Int)),(38,.sl (sL st) st.length false),(39,ω (st.length:Int)),(40,ω (k:Int)),(46,.sl (cL xs) xs.length false),(47,ω (xs.length:Int)),(48,ω (j:Int))],[(0,⟨[.agg uk,.agg uv],0,false,0,4611686018427387904,true⟩),(1,⟨[.agg ks,.agg vs],0,false,0,4611686018427387904,true⟩)],.dead,[]⟩
def Ym (uk uv ks vs:List AV) (st:List aT) (k:Nat):St:=⟨[(5,.mr 0 0),(6,.sl (sL st) st.length false),(7,.mr 1 0),(38,.sl (sL st) st.length false),(39,ω (st.length:Int)),(40,ω (k:Int))],[(0,⟨[.agg uk,.agg uv],0,false,0,4611686018427387904,true⟩),(1,⟨[.agg ks,.agg vs],0,false,0,4611686018427387904,true⟩)],.dead,[]⟩
def oeS (uk uv ks vs:List AV) (st:List aT):St:=(UZ (.sl (sL st) st.length false) [.agg uk,.agg uv] [.agg ks,.agg vs])
theorem ajy {nt:Nat} (m:184≤nt) (uk h ks vs:List AV) (st:List aT) (k:Nat) (a p q:List Cl) (x:Cl) (e:a=p++x::q) (o:a.length<2^40) (d:Xqd ks (iU 25)=true):ag prog ap [] nt (ah 2 (af f19)) (oiS uk h ks vs st k a p.length) .normal (oiS uk h (gB ks (cA x)) (eH ks vs (cA x) (nI k)) st k a (p.length+1)):=by
 have l:=bI (f:=cC) (n:=2) (fun _=>rfl) e;change κ _ (cL a)=cC x++cL q at l;have c:p.length<a.length:=jm e;have r:p.length<2^62:=by omega
 have g:(decide ((p.length:Int)<(a.length:Int)))=true:=kl c;clear e;generalize p.length=j at*
 have b:(Xqd ks (iU 25))=true:=d;exact pN 19 [] 1 1 (.k 1 b (.k 6 g (.c (aQ g) .nil))) (.v 55 (.eq (wpS r)) (.v 50 (.ppt l) .nil)) m
theorem ajz {nt:Nat} (d:184≤nt) (uk b ks vs:List AV) (st:List aT) (k:Nat) (a:List Cl):ag prog ap [] nt (ah 2 (af f19)) (oiS uk b ks vs st k a a.length) (.exit 2) (Ym uk b ks vs st k):=by
 have c:(decide ((a.length:Int)<(a.length:Int)))=false:=kn (ζ _);exact pN 19 [] 1 0 (.c (aX c) .nil) .nil d
theorem ajB {nt:Nat} (m:184≤nt) (uk c ks vs:List AV) (st:List aT) (p q:List aT) (z:aT) (b a:List AV) (e:st=p++z::q) (o:st.length<2^40) (r:LB 184 2 f19 (oiS uk c ks vs st p.length z.1 0) .normal (Ym uk c b a st p.length)):ψ nt f19 (Ym uk c ks vs st p.length) .normal (Ym uk c b a st (p.length+1)):=by
 have h:=bI (f:=sC) (n:=2) (fun _=>rfl) e;change κ _ (sL st)=sC z++sL q at h;have d:p.length<st.length:=jm e;have l:p.length<2^62:=by omega
 have g:(decide ((p.length:Int)<(st.length:Int)))=true:=kl d;clear e;generalize p.length=k at*
 exact pN 19 [2] 1 1 (.k 5 g (.c (aQ g) .nil)) (.v 56 (.eq (wpS l)) (.k [5,6,7,8,38,39,40,46,47,48] r (.v 43 (.ppt h) .nil))) m
theorem ajC {nt:Nat} (c:184≤nt) (uk a ks vs:List AV) (st:List aT):ψ nt f19 (Ym uk a ks vs st st.length) (.exit 0) (oeS uk a ks vs st):=by
 have b:(decide ((st.length:Int)<(st.length:Int)))=false:=kn (ζ _);exact pN 19 [] 1 0 (.c (aX b) .nil) .nil c
def uO:List aT→Nat→List (Cl × Nat)
 | [],_=> []
 |z::r,k=>z.1.map (fun c=>(c,k))++uO r (k+1)
def kO (K:List (Cl × Nat)):List AV:=(K.map (·.1)).map cA
def vO (K:List (Cl × Nat)):List AV:=K.map fun x=>nI x.2
theorem Jv:∀ (st:List aT) (k:Nat),(uO st k).map (·.1)=st.flatMap (·.1)
 | [],_=>rfl
 |z::r,k=>by
  show (z.1.map (fun c=>(c,k))++uO r (k+1)).map (·.1)=z.1++r.flatMap (·.1);rw [Xxp,Jv r,List.map_map];congr 1;exact List.map_id _
theorem N_:∀ (p q:List aT) (k:Nat),uO (p++q) k=uO p k++uO q (k+p.length)
 | [],q,k=>rfl
 |z::p,q,k=>by
  show z.1.map (fun c=>(c,k))++uO (p++q) (k+1)=(z.1.map (fun c=>(c,k))++uO p (k+1))++_;rw [N_ p q (k+1),Xqi,τ,Xx9,Xxk 1]
abbrev LS2 (a b:St):Prop:=∀ nt,184≤nt→aN prog ap [] nt (ah 2 (af f19)) (fun _:St=> .exit 2) (id:St→St) id a b
abbrev LS0 (a b:St):Prop:=∀ nt,184≤nt→aN prog ap [] nt (ah 0 (af f19)) (fun _:St=> .exit 0) (id:St→St) id a b
theorem Yl (uk b:List AV) (st:List aT) (k:Nat) (a:List Cl) (d:a.length<2^40):∀ (q p:List Cl) (K:List (Cl × Nat)),a=p++q→(K.map (·.1)++q).Nodup→LS2 (oiS uk b (kO K) (vO K) st k a p.length) (Ym uk b (kO (K++q.map fun c=>(c,k))) (vO (K++q.map fun c=>(c,k))) st k)
 | [],p,K,e,hn=>by
  rw [μ] at e;rw [Xje,μ,← e];exact fun nt h=> .done (ajz h uk b _ _ st k a)
 | x::q,p,K,e,hn=>by
  have g:x ∉ K.map (·.1):=fun hm=>by
   rw [Xq6] at hn;exact hn.2.2 x hm x (by simp) rfl
  have f:((K++ [(x,k)]).map (·.1)++q).Nodup:=by simpa using hn
  have l:=Yl uk b st k a d q (p++ [x]) (K++ [(x,k)]) (by simp [e]) f;rw [η] at l;have n:gB (kO K) (cA x)=kO (K++ [(x,k)]):=by unfold kO;rw [xw g];simp
  have o:eH (kO K) (vO K) (cA x) (nI k)=vO (K++ [(x,k)]):=by unfold kO;rw [lY (vO K) (nI k) g (by simp [vO])];simp [vO]
  have r:K++(x::q).map (fun c=>(c,k))=(K++ [(x,k)])++q.map (fun c=>(c,k)):=by simp
  rw [r];refine fun nt h=> .next ?_ (l nt h)
  have m:=ajy h uk b (kO K) (vO K) st k a p q x e d (dM _);rw [n,o] at m;exact m
theorem Oc (uk a:List AV) (st:List aT) (d:st.length<2^40) (f:(st.flatMap (·.1)).Nodup) (b:∀ z ∈ st,z.1.length<2^40):∀ (q p:List aT),st=p++q→LS0 (Ym uk a (kO (uO p 0)) (vO (uO p 0)) st p.length) (oeS uk a (kO (uO st 0)) (vO (uO st 0)) st)
 | [],p,e=>by
  rw [μ] at e;subst e;exact fun nt h=> .done (ajC h uk a _ _ st)
 | z::q,p,e=>by
  have o:st=(p++ [z])++q:=by rw [e];simp
  have g:=Oc uk a st d f b q (p++ [z]) o;rw [η,N_,Φ] at g;have n:uO [z] p.length=z.1.map fun c=>(c,p.length):=by simp [uO]
  rw [n] at g;have l:((uO p 0).map (·.1)++z.1).Nodup:=by
   rw [Jv];rw [e] at f;have r:(p++z::q).flatMap (·.1)=(p.flatMap (·.1)++z.1)++q.flatMap (·.1):=by simp
   rw [r,Xq6] at f;exact f.1
  have m:=Yl uk a st p.length z.1 (b z (by rw [e];simp)) z.1 [] (uO p 0) rfl l;refine fun nt h=> .next ?_ (g nt h)
  exact ajB h uk a _ _ st p q z _ _ e d (aN.blk (id:=2) (e':= .normal) m (by simp) rfl (aH.refl _) (aH.refl _))
end Go.Proofs.Tryz
set_option maxRecDepth 100000
set_option linter.unusedVariables false
open Go AM
open Go.ChangeMaps (setBlock)
namespace Go.Proofs.Tryz
noncomputable def Qz (k:Nat):Oper:=(uo (dI 28 (af f19))).getD k default
theorem TR:dI 28 (af f19)= .region 28 #[mk (some 103) (.move (.tmp 13)) (Qz 0),mk (some 104) (.move (.tmp 21)) (Qz 1),mk (some 105) (.move (.tmp 13)) (Qz 2),mk (some 106) (.move (.tmp 21)) (Qz 3),mk (some 107) (.indexAddr 22 (.tmp 105) (.tmp 106)) (Qz 4),mk (some 108) (.load 38 (.tmp 107)) (Qz 5),mk (some 109) (.move (.tmp 14)) (Qz 6),mk (some 110) (.buildSlice 38 1 #[(0,.tmp 109)]) (Qz 7),mk (some 111) (.call {callee:= .builtin .append,args:=#[.tmp 108,.tmp 110],argTypes:=#[38,38]}) (Qz 8),mk (some 112) (.indexAddr 22 (.tmp 103) (.tmp 104)) (Qz 9),mk none (.store 38 (.tmp 112) (.tmp 111)) (Qz 10)] false:=by kernel_rfl
theorem aj9:ap.tyAt 38=some ⟨.slice 3,1,24,[.nilS],[.sl],false⟩:=by kernel_rfl
theorem ahp:prog.underlying 38=some (.slice 3):=by kernel_rfl
theorem aka:prog.underlying 22=some (.slice 38):=by kernel_rfl
theorem in3:∃ i,prog.info? 3=some i∧i.zero=some (.int .i64 0)∧i.size=1∧i.bytes=8:=by
 have h:(prog.info? 3).map (fun i=>(i.zero,i.size,i.bytes))=some (some (.int .i64 0),1,8):=by kernel_rfl
 cases a:prog.info? 3 with
 |none=>rw [a] at h;cases h
 |some i=>
  rw [a] at h;simp only [Xqu,Option.some.injEq,Prod.mk.injEq] at h;exact ⟨i,rfl,h.1,h.2.1,h.2.2⟩
theorem adY:∃ i,prog.info? 38=some i∧i.zero=some (.slice none 0 0)∧i.size=1∧i.bytes=24:=by
 have h:(prog.info? 38).map (fun i=>(i.zero,i.size,i.bytes))=some (some (.slice none 0 0),1,24):=by kernel_rfl
 cases a:prog.info? 38 with
 |none=>rw [a] at h;cases h
 |some i=>
  rw [a] at h;simp only [Xqu,Option.some.injEq,Prod.mk.injEq] at h;exact ⟨i,rfl,h.1,h.2.1,h.2.2⟩
theorem acj {w:World} {u n N c:Nat} (a:n<N):(Instr.indexAt 22 (.slice (some ⟨u,0,none⟩) N c) (.int .i64 (n:Int))).run prog w= .ok (.pointer (some ⟨u,n,none⟩)) w:=by
 obtain ⟨i,b,f,d,_⟩:=adY;have h0:¬ ((n:Int)<0):=by omega
 have e:(n:Int)<(N:Int):=by omega
 simp [Instr.indexAt,asIntOf,run_underlying aka,h0,e,a,Go.sizeOf,typeInfo,b,d,Addr.add_mid]
theorem ajm {w:World} (c:di prog ap) {u n:Nat} {v:Value} (h:w.cell? ⟨u,n,none⟩=some v):(Instr.loadAt 38 (.pointer (some ⟨u,n,none⟩))).run prog w= .ok v w:=by
 obtain ⟨i,d,z,l⟩:=bQ c aj9;obtain ⟨cv,f,e⟩:=lQ (g:=fun _=>none) (m:=fun _=>(0,0)) (S:=fun _ _=>none) (w:=w) l (us:= [v]) (cs:= [.raw v]) (k:=u) (a:=n) rfl
  (fun j u b=>by
   match j,b with
   |0,b=>simp at b;subst b;exact h) (by simp [aS,VR,PR]) (v:= .raw v) rfl
 simp only [VR,PR] at e;subst e;simpa [Instr.loadAt,Instr.sureAddr] using f
theorem ajA {w:World} (k:Nat):(Instr.buildSlice 38 1 #[(0,iV k)]).run prog w= .ok (.slice (some ⟨w.heap.size,0,none⟩) 1 1) (w.alloc (.cells #[iV k] 3)):=by
 obtain ⟨i,b,c,a,_⟩:=in3;refine l_ ahp b c (by rw [a];decide) (by rw [a];decide) ?_;rw [a];have d:Array.range 1=#[0]:=rfl;simp [Instr.fill,madeCells,iV,Value.cells,d]
theorem Hu {w:World} {u:Nat} {cur b:Array Value} {e:TypeId} (a:w.heap[u]? =some (.cells cur e (0,0))):w.setRow u b=setBlock w u (.cells b e (0,0)):=by
 unfold World.setRow setBlock;congr 1;refine Array.ext_getElem? fun k=> ?_
 rw [Array.getElem?_modify,Array.getElem?_setIfInBounds];by_cases hk:u=k
 ·subst hk;rw [if_pos rfl,if_pos rfl,a];have c:=(Array.getElem?_eq_some_iff.1 a).1;simp [c]
 ·rw [if_neg hk,if_neg hk]
theorem aj3 {w:World} {u n:Nat} {ty:TypeId} {hs:List Value} {p:Option Addr} {x y:Nat} (b:w.heap[u]? =some (.cells hs.toArray ty (0,0))) (d:n<hs.length):(Instr.storeAt 38 (.pointer (some ⟨u,n,none⟩)) (.slice p x y)).run prog w= .ok () (setBlock w u (.cells (hs.set n (.slice p x y)).toArray ty (0,0))):=by
 obtain ⟨i,c,g,f,_⟩:=adY;have a:=run_storeCells_at prog u n ty [.slice p x y] 0 hs.toArray w b (by simp;omega) (by simp [Value.oneCell']);simp [Instr.storeAt,Instr.sureAddr,storeVar,Go.sizeOf,typeInfo,c,f,Value.cells,a];have e:Xqk n hs++Value.slice p x y::κ (n+1) hs=hs.set n (.slice p x y):=by rw [Xxz,if_pos d]
 rw [e];exact Hu b
abbrev VS:List Nat:= [103,104,105,106,107,108,109,110,111,112]
set_option maxHeartbeats 1000000 in
theorem aba (hap:di prog ap) {nt:Nat} (hn:184≤nt) {w:World} {a:Act} {g:bD} {m:aB} {S:au} {u bnd n k N c n0:Nat} {U:List (List Nat)} {l:List Nat} (b:a.tmps.size=nt) (hJ:JU (u+1) 3 38 u U bnd n0 g m S w) (hS:aZ ap g m S w) (hb:bnd<2^40) (hUn:U[n]? =some l) (hN:U.length=N)
  (Vr:a.eval (.tmp 13)= .slice (some ⟨u,0,none⟩) N c) (h21:a.eval (.tmp 21)= .int .i64 (n:Int)) (h14:a.eval (.tmp 14)=iV k) {Q:Exit→Act→World→Prop}
  (hQ:∀ a' w',Ka VS a a'→w.heap.size≤w'.heap.size→w'.os=w.os→w'.tape=w.tape→w'.output=w.output→(∀ q,q<w.heap.size→w'.heap[q]? =w.heap[q]? ∨(xQ g m S w q∧n0≤q))→JU (u+1) 3 38 u (U.set n (l++ [k])) (bnd+1) n0 g m S w'→Q .normal a' w'):
  (dI 28 (af f19)).wp prog Q a w:=by
 rw [TR];refine wp_region_list ?_;have hnN:n<N:=by rw [← hN];exact (List.getElem?_eq_some_iff.1 hUn).1
 have k0:=Ka.refl VS a;refine uK (v:= .slice (some ⟨u,0,none⟩) N c) (w':=w) (by simp only [execOp,mk,Vr,Sem.run_pure]) ?_;have k1:=k0.put (d:=103) (v:= .slice (some ⟨u,0,none⟩) N c) (by decide);refine uK (v:= .int .i64 (n:Int)) (w':=w) (by simp only [execOp,mk,(k1.get 21 (by decide)).trans h21,Sem.run_pure]) ?_;have k2:=k1.put (d:=104) (v:= .int .i64 (n:Int)) (by decide);refine uK (v:= .slice (some ⟨u,0,none⟩) N c) (w':=w) (by simp only [execOp,mk,(k2.get 13 (by decide)).trans Vr,Sem.run_pure]) ?_;have k3:=k2.put (d:=105) (v:= .slice (some ⟨u,0,none⟩) N c) (by decide);refine uK (v:= .int .i64 (n:Int)) (w':=w) (by simp only [execOp,mk,(k3.get 21 (by decide)).trans h21,Sem.run_pure]) ?_;have k4:=k3.put (d:=106) (v:= .int .i64 (n:Int)) (by decide);generalize r:(((a.put (some 103) (.slice (some ⟨u,0,none⟩) N c)).put (some 104) (.int .i64 (n:Int))).put (some 105) (.slice (some ⟨u,0,none⟩) N c)).put (some 106) (.int .i64 (n:Int))=a4 at k4 ⊢;have z:a4.tmps.size=nt:=k4.size.trans b;have L103:(103:Nat)<nt:=by omega
 have L104:(104:Nat)<nt:=by omega
 have L105:(105:Nat)<nt:=by omega
 have L106:(106:Nat)<nt:=by omega
 have L107:(107:Nat)<nt:=by omega
 have L108:(108:Nat)<nt:=by omega
 have L109:(109:Nat)<nt:=by omega
 have L110:(110:Nat)<nt:=by omega
 have L111:(111:Nat)<nt:=by omega
 have L112:(112:Nat)<nt:=by omega
 have O:a4.eval (.tmp 103)= .slice (some ⟨u,0,none⟩) N c:=by rw [← r];simp only [aP,ay,b,L103,L104,L105,L106];simp
 have T:a4.eval (.tmp 104)= .int .i64 (n:Int):=by rw [← r];simp only [aP,ay,b,L103,L104,L105,L106];simp
 have K:a4.eval (.tmp 105)= .slice (some ⟨u,0,none⟩) N c:=by rw [← r];simp only [aP,ay,b,L103,L104,L105,L106];simp
 have R:a4.eval (.tmp 106)= .int .i64 (n:Int):=by rw [← r];simp only [aP,ay,b,L103,L104,L105,L106];simp
 clear r k1 k2 k3;obtain ⟨hs,ty,v0,q1,q2,q3,q4,q5,q6,q7⟩:=hJ.store hS hUn;have hcell:w.cell? ⟨u,n,none⟩=some v0:=by rw [iI q1];simpa using q2
 refine uK (v:= .pointer (some ⟨u,n,none⟩)) (w':=w) (by simp only [execOp,mk,K,R,Sem.run_bind,acj hnN,Result.andThen_ok,Sem.run_pure]) ?_;refine uK (v:=v0) (w':=w) (by simp only [execOp,mk,aP,z,L107,if_true,Sem.run_bind,ajm hap hcell,Result.andThen_ok,Sem.run_pure]) ?_;have k6:=(k4.put (d:=107) (v:= .pointer (some ⟨u,n,none⟩)) (by decide)).put (d:=108) (v:=v0) (by decide);refine uK (v:=iV k) (w':=w) (by simp only [execOp,mk,(k6.get 14 (by decide)).trans h14,Sem.run_pure]) ?_;have k7:=k6.put (d:=109) (v:=iV k) (by decide);generalize A:(((a4.put (some 107) (.pointer (some ⟨u,n,none⟩))).put (some 108) v0).put (some 109) (iV k))=a7 at k7 ⊢;have hs7:a7.tmps.size=nt:=k7.size.trans b;have f103:a7.eval (.tmp 103)= .slice (some ⟨u,0,none⟩) N c:=by rw [← A];simp only [aP,ay,z,L107,L108,L109];simpa using O
 have f104:a7.eval (.tmp 104)= .int .i64 (n:Int):=by rw [← A];simp only [aP,ay,z,L107,L108,L109];simpa using T
 have f108:a7.eval (.tmp 108)=v0:=by rw [← A];simp only [aP,ay,z,L107,L108,L109];simp
 have f109:a7.eval (.tmp 109)=iV k:=by rw [← A];simp only [aP,ay,z,L107,L108,L109];simp
 clear A k6 k4 O T K R;refine uK (v:= .slice (some ⟨w.heap.size,0,none⟩) 1 1) (w':=w.alloc (.cells #[iV k] 3)) (by simp only [execOp,mk,Xzs,Γ,Xje,f109,Sem.run_bind,ajA,Result.andThen_ok,Sem.run_pure]) ?_;obtain ⟨i3,i31,i32,i33,i34⟩:=in3;have hu:u<w.heap.size:=hJ.offU.lt;have f:w.grownBy (w.alloc (.cells #[iV k] 3)) none:=World.grownBy_alloc w _ none;have hn3:(w.alloc (.cells #[iV k] 3)).heap[w.heap.size]? =some (.cells #[iV k] 3 (0,0)):=heap_alloc_new w _;have hz3:(w.alloc (.cells #[iV k] 3)).heap.size=w.heap.size+1:=by simp
 generalize w.alloc (.cells #[iV k] 3)=w3 at f hn3 hz3 ⊢;have ho3:w3.ownsRow (u+1) 3 1 v0 l.length (AM.iL l):=q3.kept f (by cases v0.ownBlock<;>simp);have h2:(2:Nat)^40=1099511627776:=by decide
 obtain ⟨v5,I,hr5,ho5,t,_,hwh5⟩:=run_append_own_at (P:=prog) w3 (u+1) 38 (Qz 8).type 3 i3 (.int .i64 0) 1 8 ahp i31 i32 i33 i34 rfl (by decide) v0 _ _ ho3 ⟨w.heap.size,0,none⟩ 1 1 [iV k] rfl
  (fun j v hj=>by
   have e:(⟨w.heap.size,0,none⟩:Addr).add j=⟨w.heap.size,0+j,none⟩:=Addr.add_mid ..;rw [e];exact sW hn3 (by simpa using hj)) (fun v hv=>by rw [χ] at hv;subst hv;rfl) (by simp only [maxLen];omega) (by omega) (by omega)
 have hil:AM.iL l++ [iV k]=AM.iL (l++ [k]):=by simp [AM.iL]
 rw [hil] at ho5;have o:w.grownBy I v0.ownBlock:=⟨t.os.trans f.os,t.tape.trans f.tape,t.output.trans f.output,Nat.le_trans f.size t.size,fun q hq hne=>(t.block q (by omega) hne).trans (f.block q hq (by simp))⟩
 obtain ⟨q8,q9⟩:=q7 I v5 k o ho5 (hwh5.imp id fun h=> ⟨_,h,by omega⟩);have hv5:∃ p x y,v5= .slice p x y:=by
  rcases ho5.2 with ⟨rfl,_⟩|⟨g5,cap5,cur5,rfl,_⟩
  ·exact ⟨_,_,_,rfl⟩
  ·exact ⟨_,_,_,rfl⟩
 obtain ⟨C,B,D,rfl⟩:=hv5;have hnh:n<hs.length:=(List.getElem?_eq_some_iff.1 q2).1;have k8:=k7.put (d:=110) (v:= .slice (some ⟨w.heap.size,0,none⟩) 1 1) (by decide);have F:(a7.put (some 110) (.slice (some ⟨w.heap.size,0,none⟩) 1 1)).eval (.tmp 108)=v0:=by rw [aP (by omega),if_neg (by decide)];exact f108
 have X:(a7.put (some 110) (.slice (some ⟨w.heap.size,0,none⟩) 1 1)).eval (.tmp 110)= .slice (some ⟨w.heap.size,0,none⟩) 1 1:=by rw [aP (by omega),if_pos rfl]
 have Z:(a7.put (some 110) (.slice (some ⟨w.heap.size,0,none⟩) 1 1)).eval (.tmp 103)= .slice (some ⟨u,0,none⟩) N c:=by rw [aP (by omega),if_neg (by decide)];exact f103
 have g104:(a7.put (some 110) (.slice (some ⟨w.heap.size,0,none⟩) 1 1)).eval (.tmp 104)= .int .i64 (n:Int):=by rw [aP (by omega),if_neg (by decide)];exact f104
 generalize a7.put (some 110) (.slice (some ⟨w.heap.size,0,none⟩) 1 1)=a8 at k8 F X Z g104 ⊢;have hs8:a8.tmps.size=nt:=k8.size.trans b;refine uK (v:= .slice C B D) (w':=I) (by simp only [execOp,mk,resolve,invoke,builtin,Sem.run_bind,Sem.run_pure,Result.andThen_ok,Xzs,Γ,Xje,F,X,hr5]) ?_;have k9:=k8.put (d:=111) (v:= .slice C B D) (by decide);have h103:(a8.put (some 111) (.slice C B D)).eval (.tmp 103)= .slice (some ⟨u,0,none⟩) N c:=by rw [aP (by omega),if_neg (by decide)];exact Z
 have G:(a8.put (some 111) (.slice C B D)).eval (.tmp 104)= .int .i64 (n:Int):=by rw [aP (by omega),if_neg (by decide)];exact g104
 have Y:(a8.put (some 111) (.slice C B D)).eval (.tmp 111)= .slice C B D:=by rw [aP (by omega),if_pos rfl]
 generalize a8.put (some 111) (.slice C B D)=a9 at k9 h103 G Y ⊢;have hs9:a9.tmps.size=nt:=k9.size.trans b;refine uK (v:= .pointer (some ⟨u,n,none⟩)) (w':=I) (by simp only [execOp,mk,h103,G,Sem.run_bind,acj hnN,Result.andThen_ok,Sem.run_pure]) ?_;have k10:=k9.put (d:=112) (v:= .pointer (some ⟨u,n,none⟩)) (by decide);have M:(a9.put (some 112) (.pointer (some ⟨u,n,none⟩))).eval (.tmp 112)= .pointer (some ⟨u,n,none⟩):=by rw [aP (by omega),if_pos rfl]
 have j111:(a9.put (some 112) (.pointer (some ⟨u,n,none⟩))).eval (.tmp 111)= .slice C B D:=by rw [aP (by omega),if_neg (by decide)];exact Y
 generalize a9.put (some 112) (.pointer (some ⟨u,n,none⟩))=a10 at k10 M j111 ⊢;refine mku (w':=setBlock I u (.cells (hs.set n (.slice C B D)).toArray ty (0,0))) (by simp only [execOp,mk,M,j111,Sem.run_bind,aj3 q8 hnh,Result.andThen_ok,Sem.run_pure]) ?_;have hs5:w.heap.size≤I.heap.size:=o.size;refine hQ _ _ k10 (by simpa [setBlock] using hs5) o.os o.tape o.output (fun q hq=> ?_) q9;by_cases hqu:q=u
 ·subst hqu;exact .inr ⟨hJ.offU,hJ.low⟩
 ·by_cases hqv:v0.ownBlock=some q
  ·refine .inr ⟨q6 q hqv, ?_⟩;have h3:=(q3.lt q hqv).1;have h4:=hJ.low;omega
  ·refine .inl ?_;have e1:(setBlock I u (.cells (hs.set n (.slice C B D)).toArray ty (0,0))).heap[q]? =I.heap[q]? :=by
    simp only [setBlock];exact Array.getElem?_setIfInBounds_ne fun e=>hqu e.symm
   rw [e1];exact o.block q hq fun e=>hqv e.symm
theorem w28 (A:di prog ap) {h0:List az} {nt:Nat} (Y:184≤nt) {s:St} {u bnd n k N c:Nat} {U:List (List Nat)} {l:List Nat} (T:bnd<2^40) (G:U[n]? =some l) (X:U.length=N)
  (Vr:s.env.get 13= .raw (.slice (some ⟨u,0,none⟩) N c)) (h21:s.env.get 21=nI n) (h14:s.env.get 14=nI k) (hdl:∀ t ∈ VS,s.env.get t= .dead):
  aO prog ap h0 nt (dI 28 (af f19)) s (JU (u+1) 3 38 u U bnd) .normal s (JU (u+1) 3 38 u (U.set n (l++ [k])) (bnd+1)):=by
 intro I;refine ⟨I,fun m0 S0 w0 m S w a x d R Q P=> ?_⟩;have e13:=d.env 13;have r:=d.env 21;have f:=d.env 14;rw [Vr] at e13;rw [h21] at r;rw [h14] at f;simp only [VR,PR] at e13 r f;refine aba A Y d.size R d.srel T G X e13 r f fun a' w' p C F htape y o D=> ?_
 have M:∀ q,q<w.heap.size→w'.heap[q]? =w.heap[q]? ∨xQ (AM.ai s.hp) m S w q:=fun q z=>(o q z).imp id fun h=>h.1
 have v:Fr (ax h0) m0 S0 w0 (AM.ai s.hp) m S w':=by
  refine x.other C F htape y (fun q z=> ?_) fun b B K=> ?_
  ·rcases o q (Nat.lt_of_lt_of_le z x.size) with h|⟨_,h⟩
   ·exact h
   ·omega
  ·rcases o _ (d.srel.lt K) with h|⟨h,_⟩
   ·exact h
   ·exact absurd rfl (h.blk b B K)
 have g:=d.other M;refine P m S w' a' v ⟨g.srel,fun t=> ?_, ?_,p.size.trans d.size⟩ D
 ·by_cases ht:t ∈ VS
  ·rw [hdl t ht];simp only [VR]
  ·have:=g.env t;have e:=p.get t ht;have O:a'.tmps.getD t undef=a.tmps.getD t undef:=e;rw [O];exact this
 ·rw [p.dfs];exact g.dfs
def Ar (uk uv ko vo nc sk sv:List AV) (st:List aT) (N:Nat) (ru:Value) (k j i:Nat) (xs us:List Cl):dG:= [(5,.mr 0 0),(6,.sl (sL st) st.length false),(7,.mr 1 0),(12,.ref 2 0 0 N),(13,.raw ru),(14,.int .i64 (k:Int)),(16,.mr 3 0),(63,.sl (sL st) st.length false),(64,.int .i64 (st.length:Int)),(65,.int .i64 (k:Int)),(74,.sl (cL xs) xs.length false),(75,.int .i64 (xs.length:Int)),(76,.int .i64 (j:Int)),(82,.sl (cL us) us.length false),(83,.int .i64 (us.length:Int)),(84,.int .i64 (i:Int))]
def qP (uk uv ko vo nc sk sv:List AV):Hp:= [(0,⟨[.agg uk,.agg uv],0,false,0,4611686018427387904,true⟩),(1,⟨[.agg ko,.agg vo],0,false,0,4611686018427387904,true⟩),(2,⟨nc,0,false,0,1,true⟩),(3,⟨[.agg sk,.agg sv],0,false,0,4611686018427387904,true⟩)]
theorem q22 {nt:Nat} (n:184≤nt) (l m o p:az) (uk a b e d c f:List AV) (st:List aT) (N:Nat) (h:Value) (k j i:Nat) (g us:List Cl):ag prog ap [l,m,o,p] nt (dI 22 (af f19)) (⟨Ar uk a b e d c f st N h k j i g us,qP uk a b e d c f,.dead,[]⟩) .normal (⟨Ar uk a b e d c f st N h k j i g us++ [(85,.bool (decide ((i:Int)<(us.length:Int))))],qP uk a b e d c f,.dead,[]⟩):=by
 exact pN 19 [] 0 0 .nil (.nil) n
theorem q23 {nt:Nat} (q:184≤nt) (n p t u:az) (uk a b e d c f:List AV) (st:List aT) (N:Nat) (l:Value) (k j i:Nat) (h us:List Cl) (y:Cl) (r:List Cl) (o:(κ ((θ (i:Int))*2) (cL us))=cC y++cL r) (m:(decide ((i:Int)<(us.length:Int)))=true):ag prog ap [n,p,t,u] nt (dI 23 (af f19)) (⟨Ar uk a b e d c f st N l k j i h us,qP uk a b e d c f,.dead,[]⟩) .normal (⟨Ar uk a b e d c f st N l k j i h us++ [(20,.ptr 4 0 0)],qP uk a b e d c f++ [(4,⟨[.int .i64 y.1,.int .i64 y.2],0,false,0,0,true⟩)],.dead,[]⟩):=by
 have g:(decide ((i:Int)<(us.length:Int)))=true:=m;exact pN 19 [] 0 0 (.k 4 g .nil) (.v 86 (.ppt o) .nil) q
theorem q24 {nt:Nat} (t:184≤nt) (q r u v p:az) (uk c a b e d f:List AV) (st:List aT) (N:Nat) (o:Value) (k j i:Nat) (m us:List Cl) (y:Cl) (n:Nat) (h:Xqd a (iU 25)=true) (g:Xqc (bu a b (cA y)) (.int .i64 0)=nI n):ag prog ap [q,r,u,v,p] nt (dI 24 (af f19)) (⟨Ar uk c a b e d f st N o k j i m us++ [(20,.ptr 4 0 0)],qP uk c a b e d f++ [(4,⟨[.int .i64 y.1,.int .i64 y.2],0,false,0,0,true⟩)],.dead,[]⟩) .normal (⟨Ar uk c a b e d f st N o k j i m us++ [(21,.int .i64 (n:Int))],qP uk c a b e d f++ [(4,⟨[.int .i64 y.1,.int .i64 y.2],0,false,0,0,true⟩)],.dead,[]⟩):=by
 have l:(Xqd a (iU 25))=true:=h;exact pN 19 [] 0 0 (.k 1 l (.n 2 .nil)) (.v 90 (.eq g) .nil) t
theorem q25 {nt:Nat} (t:184≤nt) (q r u v:az) (uk c d f e a b:List AV) (st:List aT) (N:Nat) (p:Value) (k j i:Nat) (o us:List Cl) (n:Nat) (m:Bool) (g:Xqd a (iU 3)=true) (h:Xqc (bu a b (nI n)) (.bool false)= .bool m):ag prog ap [q,r,u,v] nt (dI 25 (af f19)) (⟨Ar uk c d f e a b st N p k j i o us++ [(21,.int .i64 (n:Int))],qP uk c d f e a b,.dead,[]⟩) .normal (⟨Ar uk c d f e a b st N p k j i o us++ [(21,.int .i64 (n:Int)),(94,.bool (!m))],qP uk c d f e a b,.dead,[]⟩):=by
 have l:(Xqd a (iU 3))=true:=g;exact pN 19 [] 0 0 (.k 1 l .nil) (.v 93 (.eq h) .nil) t
theorem q26 {nt:Nat} (q:184≤nt) (o p r t:az) (uk b c e d a f:List AV) (st:List aT) (N:Nat) (m:Value) (k j i:Nat) (l us:List Cl) (n:Nat) (g:Xqd a (iU 3)=true):ag prog ap [o,p,r,t] nt (dI 26 (af f19)) (⟨Ar uk b c e d a f st N m k j i l us++ [(21,.int .i64 (n:Int))],qP uk b c e d a f,.dead,[]⟩) .normal (⟨Ar uk b c e d (gB a (nI n)) (eH a f (nI n) (.bool true)) st N m k j i l us++ [(21,.int .i64 (n:Int))],qP uk b c e d (gB a (nI n)) (eH a f (nI n) (.bool true)),.dead,[]⟩):=by
 have h:(Xqd a (iU 3))=true:=g;exact pN 19 [] 0 0 (.k 1 h .nil) (.nil) q
theorem q27 {nt:Nat} (y:184≤nt) (u v z A:az) (uk c e g a f h:List AV) (st:List aT) (N:Nat) (t:Value) (k j i:Nat) (q us:List Cl) (n d:Nat) (r:List AV) (p:(κ ((0+(θ (k:Int)))*1) a)= [nI d]++r) (l:AV.int .i64 (ν .i64 ((d:Int)+((1:Nat):Int)))= .int .i64 (((d+1):Nat):Int)) (o:(decide ((k:Int)<(N:Int)))=true) (x:(Xqq (((0+(θ (k:Int)))*1)+1) (Xqb a))=true):ag prog ap [u,v,z,A] nt (dI 27 (af f19)) (⟨Ar uk c e g a f h st N t k j i q us++ [(21,.int .i64 (n:Int))],qP uk c e g a f h,.dead,[]⟩) .normal (⟨Ar uk c e g (Xqk ((0+(θ (k:Int)))*1) a++ [nI (d+1)]++κ (((0+(θ (k:Int)))*1)+1) a) f h st N t k j i q us++ [(21,.int .i64 (n:Int))],qP uk c e g (Xqk ((0+(θ (k:Int)))*1) a++ [nI (d+1)]++κ (((0+(θ (k:Int)))*1)+1) a) f h,.dead,[]⟩):=by
 have m:(Xqq (((0+(θ (k:Int)))*1)+1) (Xqb a))=true:=x;have b:(decide ((k:Int)<(N:Int)))=true:=o;exact pN 19 [] 0 0 (.c m (.k 1 b (.a (bU [.int .i64] p rfl) (.k 1 b .nil)))) (.v 101 (.eq l) (.v 100 (.rd1 (.int .i64) p rfl) .nil)) y
theorem q29 {nt:Nat} (o:184≤nt) (m n p q:az) (uk b c f e d g:List AV) (st:List aT) (N:Nat) (l:Value) (k j i:Nat) (h us:List Cl) (a:i<2^62):ag prog ap [m,n,p,q] nt (dI 29 (af f19)) (⟨Ar uk b c f e d g st N l k j i h us,qP uk b c f e d g,.dead,[]⟩) .normal (⟨Ar uk b c f e d g st N l k j (i+1) h us,qP uk b c f e d g,.dead,[]⟩):=by
 exact pN 19 [] 0 0 .nil (.v 113 (.eq (wpS a)) .nil) o
theorem F5:ah 8 (af f19)= .seq (dI 22 (af f19)) (.seq (.cond (.tmp 85) .skip (.exit 8)) (.seq (.block 9 (.seq (dI 23 (af f19)) (.seq (dI 24 (af f19)) (.seq (dI 25 (af f19)) (.cond (.tmp 94) (.seq (dI 26 (af f19)) (.seq (dI 27 (af f19)) (dI 28 (af f19)))) .skip))))) (dI 29 (af f19)))):=by kernel_rfl
end Go.Proofs.Tryz
set_option maxRecDepth 100000
set_option linter.unusedVariables false
set_option linter.unusedSectionVars false
open Go AM
namespace Go.Proofs.Tryz
def n8B (uk uv ko vo nc sk sv:List AV):List az:= [⟨[.agg uk,.agg uv],0,false,0,4611686018427387904,true⟩,⟨[.agg ko,.agg vo],0,false,0,4611686018427387904,true⟩,⟨nc,0,false,0,1,true⟩,⟨[.agg sk,.agg sv],0,false,0,4611686018427387904,true⟩]
theorem jZ (uk g e a c d f:List AV):AM.ai (qP uk g e a c d f)=ax (n8B uk g e a c d f):=by
 funext b
 match b with
 |0=>rfl
 |1=>rfl
 |2=>rfl
 |3=>rfl
 |n+4=>rfl
theorem Jq (uk g e a c d f:List AV) (y:Cl):AM.ai (qP uk g e a c d f++ [(4,⟨[ω y.1,ω y.2],0,false,0,0,true⟩)])=ax (n8B uk g e a c d f++ [⟨[ω y.1,ω y.2],0,false,0,0,true⟩]):=by
 funext b
 match b with
 |0=>rfl
 |1=>rfl
 |2=>rfl
 |3=>rfl
 |4=>rfl
 |n+5=>rfl
abbrev k8:List Nat:= [5,6,7,12,13,14,16,63,64,65,74,75,76,82,83,84]
abbrev QB (uk uv ko vo nc sk sv:List AV) (st:List aT) (N:Nat) (ru:Value) (k j i:Nat) (xs us:List Cl):St:=⟨Ar uk uv ko vo nc sk sv st N ru k j i xs us,qP uk uv ko vo nc sk sv,.dead,[]⟩
section
variable {nt:Nat} (hn:184≤nt) (uk uv ko vo nc sk sv:List AV) (st:List aT) (N:Nat) (ru:Value) (k j i:Nat) (xs us:List Cl) {J:WJ} (hJ:Pg J) (hK:ZZ J)
include hn hJ hK
theorem w22 (b:Bool) (a:(decide ((i:Int)<(us.length:Int)))=b):aO prog ap [] nt (dI 22 (af f19)) (QB uk uv ko vo nc sk sv st N ru k j i xs us) J .normal ⟨Ar uk uv ko vo nc sk sv st N ru k j i xs us++ [(85,.bool b)],qP uk uv ko vo nc sk sv,.dead,[]⟩ J:=by
 have h:=ag.w (h0:= []) hJ (jZ uk uv ko vo nc sk sv) (q22 hn _ _ _ _ uk uv ko vo nc sk sv st N ru k j i xs us);rw [a] at h;exact h
theorem ZQ (a:i<us.length):aO prog ap [] nt (.cond (.tmp 85) .skip (.exit 8)) ⟨Ar uk uv ko vo nc sk sv st N ru k j i xs us++ [(85,.bool true)],qP uk uv ko vo nc sk sv,.dead,[]⟩ J .normal (QB uk uv ko vo nc sk sv st N ru k j i xs us) J:=by
 exact aO.tidyE (s1:=⟨Ar uk uv ko vo nc sk sv st N ru k j i xs us++ [(85,.bool true)],qP uk uv ko vo nc sk sv,.dead,[]⟩) hK k8 (aO.cond (bv:=true) rfl (by rw [if_pos rfl];exact aO.skip)) (by simp) (by kernel_rfl) rfl
theorem ahA (y:Cl) (r:List Cl) (n:Nat) (d:Bool) (o:(κ ((θ (i:Int))*2) (cL us))=cC y++cL r) (p:i<us.length) (h:Xqd ko (iU 25)=true) (b:Xqc (bu ko vo (cA y)) (ω 0)=nI n) (m:Xqd sk (iU 3)=true) (f:Xqc (bu sk sv (nI n)) (.bool false)= .bool d) {X:Code} {e:aJ} {s2:St} {J2:WJ}
  (hX:aO prog ap [] nt X ⟨Ar uk uv ko vo nc sk sv st N ru k j i xs us++ [(21,nI n),(94,.bool (!d))],qP uk uv ko vo nc sk sv,.dead,[]⟩ J e s2 J2):
  aO prog ap [] nt (.seq (dI 23 (af f19)) (.seq (dI 24 (af f19)) (.seq (dI 25 (af f19)) X))) (QB uk uv ko vo nc sk sv st N ru k j i xs us) J e s2 J2:=by
 have l:=ag.w (h0:= []) hJ (jZ uk uv ko vo nc sk sv) (q23 hn _ _ _ _ uk uv ko vo nc sk sv st N ru k j i xs us y r o (Yq0 (by omega)));have g:=ag.w (h0:= []) hJ (Jq uk uv ko vo nc sk sv y) (q24 hn _ _ _ _ _ uk uv ko vo nc sk sv st N ru k j i xs us y n h b);have a:=aO.tidyE (s2:=⟨Ar uk uv ko vo nc sk sv st N ru k j i xs us++ [(21,nI n)],qP uk uv ko vo nc sk sv,.dead,[]⟩) hK (k8++ [21]) g (by simp) (by kernel_rfl) rfl;have c:=ag.w (h0:= []) hJ (jZ uk uv ko vo nc sk sv) (q25 hn _ _ _ _ uk uv ko vo nc sk sv st N ru k j i xs us n d m f);exact l.seq (a.seq (c.seq hX))
theorem ahz (a:i<2^62):aO prog ap [] nt (dI 29 (af f19)) (QB uk uv ko vo nc sk sv st N ru k j i xs us) J .normal (QB uk uv ko vo nc sk sv st N ru k j (i+1) xs us) J:=ag.w (h0:= []) hJ (jZ uk uv ko vo nc sk sv) (q29 hn _ _ _ _ uk uv ko vo nc sk sv st N ru k j i xs us a)
theorem LV (y:Cl) (r:List Cl) (n:Nat) (h:(κ ((θ (i:Int))*2) (cL us))=cC y++cL r) (g:i<us.length) (a:i<2^62) (d:Xqd ko (iU 25)=true) (b:Xqc (bu ko vo (cA y)) (ω 0)=nI n) (f:Xqd sk (iU 3)=true) (c:Xqc (bu sk sv (nI n)) (.bool false)= .bool true):
  aO prog ap [] nt (ah 8 (af f19)) (QB uk uv ko vo nc sk sv st N ru k j i xs us) J .normal (QB uk uv ko vo nc sk sv st N ru k j (i+1) xs us) J:=by
 rw [F5];refine (w22 hn uk uv ko vo nc sk sv st N ru k j i xs us hJ hK true (Yq0 (by omega))).seq ((ZQ hn uk uv ko vo nc sk sv st N ru k j i xs us hJ hK g).seq (aO.seq ?_ (ahz hn uk uv ko vo nc sk sv st N ru k j i xs us hJ hK a)));refine aO.block (id:=9) (e:= .normal) (ahA hn uk uv ko vo nc sk sv st N ru k j i xs us hJ hK y r n true h g d b f c ?_);exact aO.tidyE (s1:=⟨Ar uk uv ko vo nc sk sv st N ru k j i xs us++ [(21,nI n),(94,.bool (!true))],qP uk uv ko vo nc sk sv,.dead,[]⟩) hK k8 (aO.cond (bv:=false) rfl (by rw [if_neg (by simp)];exact aO.skip)) (by simp) (by kernel_rfl) rfl
end
end Go.Proofs.Tryz
set_option maxRecDepth 100000
set_option linter.unusedVariables false
set_option linter.unusedSectionVars false
open Go AM
namespace Go.Proofs.Tryz
theorem Vm {h0:List az} {nt id:Nat} {s:St} {J:WJ}:aO prog ap h0 nt (.exit id) s J (.exit id) s J:=fun b=> ⟨b,fun _ _ _ m S w a d c e Q f=>wp_exit (f m S w a d c e)⟩
theorem Qb {nt:Nat} (n:184≤nt) (uk a c e d b f:List AV) (st:List aT) (N:Nat) (h:Value) (k j:Nat) (g us:List Cl) {J:WJ} (m:Pg J) (l:ZZ J):
  aO prog ap [] nt (ah 8 (af f19)) (QB uk a c e d b f st N h k j us.length g us) J (.exit 8) (QB uk a c e d b f st N h k j us.length g us) J:=by
 rw [F5];refine (w22 n uk a c e d b f st N h k j us.length g us m l false (Yq1 (by omega))).seq (aO.seq_out (by simp) ?_);exact aO.tidyE (s1:=⟨Ar uk a c e d b f st N h k j us.length g us++ [(85,.bool false)],qP uk a c e d b f,.dead,[]⟩) l k8 (aO.cond (bv:=false) rfl (by rw [if_neg (by simp)];exact Vm)) (by simp) (by kernel_rfl) rfl
abbrev AB (u N c:Nat):Value:= .slice (some ⟨u,0,none⟩) N c
abbrev ncN (nc:List AV) (k d:Nat):List AV:=Xqk ((0+(θ (k:Int)))*1) nc++ [nI (d+1)]++κ (((0+(θ (k:Int)))*1)+1) nc
theorem Qa (x:di prog ap) {nt:Nat} (p:184≤nt) (uk m b g f a h:List AV) (st:List aT) (N c u bnd:Nat) (k j i:Nat) (o us:List Cl) {U:List (List Nat)} {l:List Nat} (G:bnd<2^40) (y:Cl) (r:List Cl) (n d:Nat) (C:List AV) (B:U[n]? =some l) (I:U.length=N)
  (hx:(κ ((θ (i:Int))*2) (cL us))=cC y++cL r) (hi:i<us.length) (hi62:i<2^62) (hko:Xqd b (iU 25)=true) (hof:Xqc (bu b g (cA y)) (ω 0)=nI n) (hsk:Xqd a (iU 3)=true) (hsd:Xqc (bu a h (nI n)) (.bool false)= .bool false)
  (hxd:(κ ((0+(θ (k:Int)))*1) f)= [nI d]++C) (hd62:d<2^62) (hkN:k<N) (hbl:k+1≤f.length):
  aO prog ap [] nt (ah 8 (af f19)) (QB uk m b g f a h st N (AB u N c) k j i o us) (JU (u+1) 3 38 u U bnd) .normal (QB uk m b g (ncN f k d) (gB a (nI n)) (eH a h (nI n) (.bool true)) st N (AB u N c) k j (i+1) o us) (JU (u+1) 3 38 u (U.set n (l++ [k])) (bnd+1)):=by
 rw [F5];refine (w22 p uk m b g f a h st N _ k j i o us JU.stab JU.sub true (Yq0 (by omega))).seq ((ZQ p uk m b g f a h st N _ k j i o us JU.stab JU.sub hi).seq (aO.seq ?_ (ahz p uk m b g (ncN f k d) (gB a (nI n)) (eH a h (nI n) (.bool true)) st N _ k j i o us JU.stab JU.sub hi62)));refine aO.block (id:=9) (e:= .normal) (ahA p uk m b g f a h st N _ k j i o us JU.stab JU.sub y r n false hx hi hko hof hsk hsd ?_);refine aO.cond (bv:=true) rfl ?_;rw [if_pos rfl];have v:=ag.w (h0:= []) (J:=JU (u+1) 3 38 u U bnd) JU.stab (jZ uk m b g f a h) (q26 p _ _ _ _ uk m b g f a h st N (AB u N c) k j i o us n hsk);have z:=ag.w (h0:= []) (J:=JU (u+1) 3 38 u U bnd) JU.stab (jZ uk m b g f (gB a (nI n)) (eH a h (nI n) (.bool true))) (q27 p _ _ _ _ uk m b g f (gB a (nI n)) (eH a h (nI n) (.bool true)) st N (AB u N c) k j i o us n d C hxd (by rw [xN (by omega)]) (Yq0 (by omega)) (ξ (by simp;omega)));have A:=w28 x (h0:= []) p (s:=⟨Ar uk m b g (ncN f k d) (gB a (nI n)) (eH a h (nI n) (.bool true)) st N (AB u N c) k j i o us++ [(21,nI n)],qP uk m b g (ncN f k d) (gB a (nI n)) (eH a h (nI n) (.bool true)),.dead,[]⟩) (u:=u) (bnd:=bnd) (n:=n) (k:=k) (N:=N) (c:=c) G B I rfl rfl rfl (by
  intro t D;simp only [Xqo,List.not_mem_nil,or_false] at D;rcases D with rfl|rfl|rfl|rfl|rfl|rfl|rfl|rfl|rfl|rfl<;>rfl)
 have q:=aO.seq v (aO.seq z A);have F:=aO.tidy (s:=⟨Ar uk m b g f a h st N (AB u N c) k j i o us++ [(21,nI n),(94,.bool (!false))],qP uk m b g f a h,.dead,[]⟩) JU.sub (k8++ [21]) q (by kernel_rfl) rfl;exact aO.tidyE JU.sub k8 F (by simp) (by kernel_rfl) rfl
def nL (l:List Nat):List AV:=l.map nI
def tL (l:List Nat):List AV:=l.map fun _=> .bool true
theorem Gs (x y:Nat):uG (nI x) (nI y)=true↔x=y:=by
 simp [uG,zY];omega
theorem Rj:∀ (l:List Nat) (x:Nat),Xqc (bu (nL l) (tL l) (nI x)) (.bool false)= .bool (decide (x ∈ l))
 | [],x=>rfl
 | y::l,x=>by
  show Xqc (bu (nI y::nL l) (.bool true::tL l) (nI x)) (.bool false)=_;simp only [bu];cases h:uG (nI x) (nI y) with
  |true=>have:=(Gs x y).1 h;subst this;simp
  |false=>
   have a:¬ x=y:=fun e=>by rw [(Gs x y).2 e] at h;cases h
   have:=Rj l x;simp only [Xqo,a,false_or];exact this
theorem aa9 {l:List Nat} {x:Nat} (h:x ∉ l):gB (nL l) (nI x)=nL (l++ [x]):=by
 unfold gB;have:List.any (nL l) (uG (nI x))=false:=by
  rw [Xjf];intro e;obtain ⟨k,a,b⟩:=List.any_eq_true.1 e;obtain ⟨y,c,rfl⟩:=List.mem_map.1 a;exact h ((Gs x y).1 b ▸ c)
 rw [this];simp [nL]
theorem TN:∀ {l:List Nat} {x:Nat},x ∉ l→eH (nL l) (tL l) (nI x) (.bool true)=tL (l++ [x])
 | [],x,_=>rfl
 | y::l,x,h=>by
  show eH (nI y::nL l) (.bool true::tL l) (nI x) (.bool true)=_;simp only [eH];have a:uG (nI x) (nI y)=false:=by
   rw [Xjf];intro e;exact h (by rw [(Gs x y).1 e];simp)
  rw [a];have:=TN (l:=l) (x:=x) (fun hm=>h (by simp [hm]));simp only [this];rfl
theorem Yc (l:List Nat):Xqd (nL l) (iU 3)=true:=by
 rw [List.all_eq_true];intro a b;obtain ⟨x,_,rfl⟩:=List.mem_map.1 b;have key:∀ z:Int,iU 3 (ω z)=true:=fun z=>by kernel_rfl
 exact key _
structure AQ where
 needs:List Nat
 seen:List Nat
 U:List (List Nat)
def d_ (ofN:Cl→Nat) (k:Nat) (A:AQ) (y:Cl):AQ:=
 if ofN y ∈ A.seen then A else ⟨A.needs.set k (A.needs.getD k 0+1),A.seen++ [ofN y],A.U.set (ofN y) (A.U.getD (ofN y) []++ [k])⟩
theorem i1 (i:Nat):(0+(θ (i:Int)))*1=i:=by simp
theorem aa0 {l:List Nat} {k d:Nat} (a:k<l.length):ncN (nL l) k d=nL (l.set k (d+1)):=by
 unfold ncN nL;rw [i1,Xxz,if_pos a];simp
theorem Jr {l:List Nat} {k:Nat} (a:k<l.length):∃ rc,(κ ((0+(θ (k:Int)))*1) (nL l))= [nI (l.getD k 0)]++rc:=by
 refine ⟨nL (l.drop (k+1)), ?_⟩;unfold nL;rw [i1,← Xwf,Xxn a,γ,δ a];rfl
abbrev svA (uk uv ko vo:List AV) (A:AQ) (st:List aT) (N c u:Nat) (k j i:Nat) (xs us:List Cl):St:=QB uk uv ko vo (nL A.needs) (nL A.seen) (tL A.seen) st N (AB u N c) k j i xs us
theorem D9 (v:di prog ap) {nt:Nat} (B:184≤nt) (uk l b d:List AV) (st:List aT) (N c u:Nat) (k j:Nat) (o us:List Cl) (a:Cl→Nat) (h:Xqd b (iU 25)=true) (g:∀ y ∈ us,Xqc (bu b d (cA y)) (ω 0)=nI (a y)) (z:∀ y ∈ us,a y<N) (x:k<N) (D:us.length<2^38):
  ∀ (q p:List Cl) (A:AQ) (bnd:Nat),us=p++q→A.U.length=N→A.needs.length=N→bnd+q.length<2^40→A.needs.getD k 0+q.length<2^60→∃ bnd',bnd'≤bnd+q.length∧qA prog ap [] nt (ah 8 (af f19)) (.exit 8) (svA uk l b d A st N c u k j p.length o us) (JU (u+1) 3 38 u A.U bnd) (svA uk l b d (q.foldl (d_ a k) A) st N c u k j us.length o us) (JU (u+1) 3 38 u (q.foldl (d_ a k) A).U bnd')
 | [],p,A,bnd,e,hU,hN,hb,hd=>by
  rw [μ] at e;refine ⟨bnd,ζ _,.done ?_⟩;rw [← e];exact Qb B uk l b d _ _ _ st N _ k j o us JU.stab JU.sub
 | y::q,p,A,bnd,e,hU,hN,hb,hd=>by
  rw [τ] at hb hd;have I:y ∈ us:=by rw [e];simp
  have G:=bI (f:=cC) (n:=2) (fun _=>rfl) e;change κ _ (cL us)=cC y++cL q at G;have C:p.length<us.length:=jm e;have r:p.length<2^62:=by omega
  have R:us=(p++ [y])++q:=by rw [e];simp
  have m:=Rj A.seen (a y);show ∃ bnd',bnd'≤bnd+(q.length+1)∧qA prog ap [] nt (ah 8 (af f19)) (.exit 8) (svA uk l b d A st N c u k j p.length o us) (JU (u+1) 3 38 u A.U bnd) (svA uk l b d (q.foldl (d_ a k) (d_ a k A y)) st N c u k j us.length o us) (JU (u+1) 3 38 u (q.foldl (d_ a k) (d_ a k A y)).U bnd');by_cases hm:a y ∈ A.seen
  ·rw [Yq0 hm] at m;have K:d_ a k A y=A:=by unfold d_;rw [if_pos hm]
   rw [K];obtain ⟨P,T,F⟩:=D9 v B uk l b d st N c u k j o us a h g z x D q (p++ [y]) A bnd R hU hN (by omega) (by omega);rw [η] at F;exact ⟨P,by omega,.next (LV B uk l b d _ _ _ st N _ k j p.length o us JU.stab JU.sub y q (a y) G C r h (g y I) (Yc _) m) F⟩
  ·rw [Yq1 hm] at m;have K:d_ a k A y=⟨A.needs.set k (A.needs.getD k 0+1),A.seen++ [a y],A.U.set (a y) (A.U.getD (a y) []++ [k])⟩:=by unfold d_;rw [if_neg hm]
   rw [K];have M:a y<A.U.length:=by rw [hU];exact z y I
   have O:A.U[a y]? =some (A.U.getD (a y) []):=by rw [γ,δ M,Xqt]
   have t:k<A.needs.length:=by omega
   obtain ⟨X,Q⟩:=Jr t;have S:=Qa v B uk l b d (nL A.needs) (nL A.seen) (tL A.seen) st N c u bnd k j p.length o us (by omega) y q (a y) (A.needs.getD k 0) X O hU G C r h (g y I) (Yc _) m Q (by omega) x (by simp [nL];omega);rw [aa0 t,aa9 hm,TN hm] at S;obtain ⟨P,T,F⟩:=D9 v B uk l b d st N c u k j o us a h g z x D q (p++ [y]) ⟨A.needs.set k (A.needs.getD k 0+1),A.seen++ [a y],A.U.set (a y) (A.U.getD (a y) []++ [k])⟩ (bnd+1) R (by simpa using hU) (by simpa using hN) (by omega) (by
    show (A.needs.set k (A.needs.getD k 0+1)).getD k 0+q.length<2^60;have:(A.needs.set k (A.needs.getD k 0+1)).getD k 0=A.needs.getD k 0+1:=by rw [γ,Xx4 t,Xqt]
    omega)
   rw [η] at F;exact ⟨P,by omega,.next S F⟩
def Tq (uk uv ko vo nc sk sv:List AV) (st:List aT) (N:Nat) (ru:Value) (k j:Nat) (xs:List Cl):dG:= [(5,.mr 0 0),(6,.sl (sL st) st.length false),(7,.mr 1 0),(12,.ref 2 0 0 N),(13,.raw ru),(14,.int .i64 (k:Int)),(16,.mr 3 0),(63,.sl (sL st) st.length false),(64,.int .i64 (st.length:Int)),(65,.int .i64 (k:Int)),(74,.sl (cL xs) xs.length false),(75,.int .i64 (xs.length:Int)),(76,.int .i64 (j:Int))]
theorem q19 {nt:Nat} (n:184≤nt) (l m o p:az) (uk a b e d c f:List AV) (st:List aT) (N:Nat) (h:Value) (k j:Nat) (g:List Cl):ag prog ap [l,m,o,p] nt (dI 19 (af f19)) (⟨Tq uk a b e d c f st N h k j g,qP uk a b e d c f,.dead,[]⟩) .normal (⟨Tq uk a b e d c f st N h k j g++ [(77,.bool (decide ((j:Int)<(g.length:Int))))],qP uk a b e d c f,.dead,[]⟩):=by
 exact pN 19 [] 0 0 .nil (.nil) n
theorem q20 {nt:Nat} (q:184≤nt) (m o t u:az) (uk b c f e d g:List AV) (st:List aT) (N:Nat) (l:Value) (k j:Nat) (a:List Cl) (y:Cl) (r:List Cl) (n:(κ ((θ (j:Int))*2) (cL a))=cC y++cL r) (p:(decide ((j:Int)<(a.length:Int)))=true):ag prog ap [m,o,t,u] nt (dI 20 (af f19)) (⟨Tq uk b c f e d g st N l k j a,qP uk b c f e d g,.dead,[]⟩) .normal (⟨Tq uk b c f e d g st N l k j a++ [(18,.ptr 4 0 0)],qP uk b c f e d g++ [(4,⟨[.int .i64 y.1,.int .i64 y.2],0,false,0,0,true⟩)],.dead,[]⟩):=by
 have h:(decide ((j:Int)<(a.length:Int)))=true:=p;exact pN 19 [] 0 0 (.k 4 h .nil) (.v 78 (.ppt n) .nil) q
theorem q21 {nt:Nat} (r:184≤nt) (p q t u o:az) (uk a b e d c f:List AV) (st:List aT) (N:Nat) (n:Value) (k j:Nat) (m:List Cl) (y:Cl) (us:List Cl) (h:Xqd uk (iU 25)=true) (g:Gu uk a y us):ag prog ap [p,q,t,u,o] nt (dI 21 (af f19)) (⟨Tq uk a b e d c f st N n k j m++ [(18,.ptr 4 0 0)],qP uk a b e d c f++ [(4,⟨[.int .i64 y.1,.int .i64 y.2],0,false,0,0,true⟩)],.dead,[]⟩) .normal (⟨Tq uk a b e d c f st N n k j m++ [(82,.sl (cL us) us.length false),(83,nI us.length),(84,nI 0)],qP uk a b e d c f++ [(4,⟨[.int .i64 y.1,.int .i64 y.2],0,false,0,0,true⟩)],.dead,[]⟩):=by
 have l:(Xqd uk (iU 25))=true:=h;exact pN 19 [] 0 0 (.k 1 l (.n 2 .nil)) (.v 82 g .nil) r
theorem q30 {nt:Nat} (o:184≤nt) (m n p q:az) (uk b c f e d g:List AV) (st:List aT) (N:Nat) (l:Value) (k j:Nat) (h:List Cl) (a:j<2^62):ag prog ap [m,n,p,q] nt (dI 30 (af f19)) (⟨Tq uk b c f e d g st N l k j h,qP uk b c f e d g,.dead,[]⟩) .normal (⟨Tq uk b c f e d g st N l k (j+1) h,qP uk b c f e d g,.dead,[]⟩):=by
 exact pN 19 [] 0 0 .nil (.v 114 (.eq (wpS a)) .nil) o
theorem MQ:ah 6 (af f19)= .seq (dI 19 (af f19)) (.seq (.cond (.tmp 77) .skip (.exit 6)) (.seq (.block 7 (.seq (dI 20 (af f19)) (.seq (dI 21 (af f19)) (.block 8 (.loop (ah 8 (af f19))))))) (dI 30 (af f19)))):=by kernel_rfl
abbrev k6:List Nat:= [5,6,7,12,13,14,16,63,64,65,74,75,76]
abbrev sv6 (uk uv ko vo nc sk sv:List AV) (st:List aT) (N:Nat) (ru:Value) (k j:Nat) (xs:List Cl):St:=⟨Tq uk uv ko vo nc sk sv st N ru k j xs,qP uk uv ko vo nc sk sv,.dead,[]⟩
abbrev Yt (uk uv ko vo:List AV) (A:AQ) (st:List aT) (N c u:Nat) (k j:Nat) (xs:List Cl):St:=sv6 uk uv ko vo (nL A.needs) (nL A.seen) (tL A.seen) st N (AB u N c) k j xs
theorem LU {nt:Nat} (n:184≤nt) (uk g e b c d f:List AV) (st:List aT) (N:Nat) (l:Value) (k:Nat) (a:List Cl) {J:WJ} (m:Pg J) (o:ZZ J):
  aO prog ap [] nt (ah 6 (af f19)) (sv6 uk g e b c d f st N l k a.length a) J (.exit 6) (sv6 uk g e b c d f st N l k a.length a) J:=by
 rw [MQ];have h:=ag.w (h0:= []) m (jZ uk g e b c d f) (q19 n _ _ _ _ uk g e b c d f st N l k a.length a);rw [Yq1 (by omega:¬ (a.length:Int)<(a.length:Int))] at h;refine h.seq (aO.seq_out (by simp) ?_);exact aO.tidyE (s1:=⟨Tq uk g e b c d f st N l k a.length a++ [(77,.bool false)],qP uk g e b c d f,.dead,[]⟩) o k6 (aO.cond (bv:=false) rfl (by rw [if_neg (by simp)];exact Vm)) (by simp) (by kernel_rfl) rfl
theorem abf (q:di prog ap) {nt:Nat} (m:184≤nt) (uk d b f:List AV) (st:List aT) (N c u:Nat) (k j:Nat) (g:List Cl) (a:Cl→Nat) (y:Cl) (r:List Cl) (us:List Cl) (A:AQ) (bnd:Nat) (F:(κ ((θ (j:Int))*2) (cL g))=cC y++cL r) (O:j<g.length) (h:j<2^62) (p:Xqd uk (iU 25)=true) (o:Gu uk d y us)
  (hko:Xqd b (iU 25)=true) (hof:∀ y ∈ us,Xqc (bu b f (cA y)) (ω 0)=nI (a y)) (hlt:∀ y ∈ us,a y<N) (hkN:k<N) (hul:us.length<2^38) (hU:A.U.length=N) (hN:A.needs.length=N) (hb:bnd+us.length<2^40) (hd:A.needs.getD k 0+us.length<2^60):
  ∃ bnd',bnd'≤bnd+us.length∧aO prog ap [] nt (ah 6 (af f19)) (Yt uk d b f A st N c u k j g) (JU (u+1) 3 38 u A.U bnd) .normal (Yt uk d b f (us.foldl (d_ a k) A) st N c u k (j+1) g) (JU (u+1) 3 38 u (us.foldl (d_ a k) A).U bnd'):=by
 obtain ⟨bnd',I,M⟩:=D9 q m uk d b f st N c u k j g us a hko hof hlt hkN hul us [] A bnd rfl hU hN hb hd;refine ⟨bnd',I, ?_⟩;rw [MQ];have n:=ag.w (h0:= []) (J:=JU (u+1) 3 38 u A.U bnd) JU.stab (jZ uk d b f (nL A.needs) (nL A.seen) (tL A.seen)) (q19 m _ _ _ _ uk d b f (nL A.needs) (nL A.seen) (tL A.seen) st N (AB u N c) k j g);rw [Yq0 (by omega:(j:Int)<(g.length:Int))] at n;have G:=aO.tidyE (s1:=⟨Tq uk d b f (nL A.needs) (nL A.seen) (tL A.seen) st N (AB u N c) k j g++ [(77,.bool true)],qP uk d b f (nL A.needs) (nL A.seen) (tL A.seen),.dead,[]⟩) (s2:=Yt uk d b f A st N c u k j g) (JU.sub (base:=u+1) (e:=3) (ue:=38) (u:=u) (U:=A.U) (bnd:=bnd)) k6 (aO.cond (h0:= []) (nt:=nt) (P:=prog) (ap:=ap) (t:= .tmp 77) (x:= .skip) (y:= .exit 6) (bv:=true) rfl (by rw [if_pos rfl];exact aO.skip)) (by simp) (by kernel_rfl) rfl;have v:=ag.w (h0:= []) (J:=JU (u+1) 3 38 u A.U bnd) JU.stab (jZ uk d b f (nL A.needs) (nL A.seen) (tL A.seen)) (q20 m _ _ _ _ uk d b f (nL A.needs) (nL A.seen) (tL A.seen) st N (AB u N c) k j g y r F (Yq0 (by omega)));have z:=ag.w (h0:= []) (J:=JU (u+1) 3 38 u A.U bnd) JU.stab (Jq uk d b f (nL A.needs) (nL A.seen) (tL A.seen) y) (q21 m _ _ _ _ _ uk d b f (nL A.needs) (nL A.seen) (tL A.seen) st N (AB u N c) k j g y us p o);have l:=aO.tidyE (s2:=svA uk d b f A st N c u k j 0 g us) JU.sub k8 z (by simp) (by kernel_rfl) rfl;have D:=(M.ok (by simp)).block (id:=8);have B:=aO.tidyE (s2:=Yt uk d b f (us.foldl (d_ a k) A) st N c u k j g) JU.sub k6 D (by simp [kS]) (by kernel_rfl) rfl;have C:=ag.w (h0:= []) (J:=JU (u+1) 3 38 u (us.foldl (d_ a k) A).U bnd') JU.stab (jZ uk d b f (nL (us.foldl (d_ a k) A).needs) (nL (us.foldl (d_ a k) A).seen) (tL (us.foldl (d_ a k) A).seen)) (q30 m _ _ _ _ uk d b f (nL (us.foldl (d_ a k) A).needs) (nL (us.foldl (d_ a k) A).seen) (tL (us.foldl (d_ a k) A).seen) st N (AB u N c) k j g h);have K:=aO.block (id:=7) (e:= .normal) (v.seq (l.seq B));exact n.seq (G.seq (aO.seq K C))
theorem sJ (a:Cl→Nat) (k:Nat):∀ (us:List Cl) (A:AQ),(us.foldl (d_ a k) A).U.length=A.U.length∧(us.foldl (d_ a k) A).needs.length=A.needs.length∧(us.foldl (d_ a k) A).needs.getD k 0≤A.needs.getD k 0+us.length
 | [],A=> ⟨rfl,rfl,ζ _⟩
 | y ::us,A=>by
  obtain ⟨c,d,e⟩:=sJ a k us (d_ a k A y);have b:(d_ a k A y).U.length=A.U.length∧(d_ a k A y).needs.length=A.needs.length∧(d_ a k A y).needs.getD k 0≤A.needs.getD k 0+1:=by
   unfold d_;split
   ·exact ⟨rfl,rfl,by omega⟩
   ·refine ⟨by simp,by simp, ?_⟩;show (A.needs.set k (A.needs.getD k 0+1)).getD k 0≤_;by_cases hk:k<A.needs.length
    ·rw [γ,Xx4 hk,Xqt];exact ζ _
    ·rw [γ,Xxl (by simp;omega)];simp
  show (us.foldl (d_ a k) (d_ a k A y)).U.length=_∧(us.foldl (d_ a k) (d_ a k A y)).needs.length=_∧_;rw [τ];exact ⟨c.trans b.1,d.trans b.2.1,by
   show (us.foldl (d_ a k) (d_ a k A y)).needs.getD k 0≤_;omega⟩
theorem EK (v:di prog ap) {nt:Nat} (G:184≤nt) (uk h g l:List AV) (st:List aT) (N c u:Nat) (k:Nat) (b:List Cl) (a:Cl→Nat) (d:Cl→List Cl) (t:Xqd uk (iU 25)=true) (o:Xqd g (iU 25)=true) (r:∀ y ∈ b,Gu uk h y (d y)) (m:∀ y ∈ b,∀ z ∈ d y,Xqc (bu g l (cA z)) (ω 0)=nI (a z)) (C:∀ y ∈ b,∀ z ∈ d y,a z<N) (B:k<N) (x:∀ y ∈ b,(d y).length<2^38) (F:b.length<2^38):
  ∀ (q p:List Cl) (A:AQ) (bnd:Nat),b=p++q→A.U.length=N→A.needs.length=N→bnd+(q.flatMap d).length<2^40→A.needs.getD k 0+(q.flatMap d).length<2^60→∃ bnd',bnd'≤bnd+(q.flatMap d).length∧qA prog ap [] nt (ah 6 (af f19)) (.exit 6) (Yt uk h g l A st N c u k p.length b) (JU (u+1) 3 38 u A.U bnd) (Yt uk h g l ((q.flatMap d).foldl (d_ a k) A) st N c u k b.length b) (JU (u+1) 3 38 u ((q.flatMap d).foldl (d_ a k) A).U bnd')
 | [],p,A,bnd,e,hU,hN,hb,hd=>by
  rw [μ] at e;refine ⟨bnd,ζ _,.done ?_⟩;rw [← e];exact LU G uk h g l _ _ _ st N _ k b JU.stab JU.sub
 |y::q,p,A,bnd,e,hU,hN,hb,hd=>by
  rw [Xqa,η] at hb hd;have D:y ∈ b:=by rw [e];simp
  have M:=bI (f:=cC) (n:=2) (fun _=>rfl) e;change κ _ (cL b)=cC y++cL q at M;have I:p.length<b.length:=jm e;have O:b=(p++ [y])++q:=by rw [e];simp
  obtain ⟨P,S,R⟩:=abf v G uk h g l st N c u k p.length b a y q (d y) A bnd M I (by omega) t (r y D) o (m y D) (C y D) B (x y D) hU hN (by omega) (by omega);obtain ⟨k1,k2,k3⟩:=sJ a k (d y) A;obtain ⟨Q,T,K⟩:=EK v G uk h g l st N c u k b a d t o r m C B x F q (p++ [y]) ((d y).foldl (d_ a k) A) P O (k1.trans hU) (k2.trans hN) (by omega) (by omega);rw [η] at K;rw [Xqa,List.foldl_append,η];exact ⟨Q,by omega,.next R K⟩
def NZ (uk uv ko vo nc:List AV) (st:List aT) (N:Nat) (ru:Value) (k:Nat):dG:= [(5,.mr 0 0),(6,.sl (sL st) st.length false),(7,.mr 1 0),(12,.ref 2 0 0 N),(13,.raw ru),(63,.sl (sL st) st.length false),(64,.int .i64 (st.length:Int)),(65,.int .i64 (k:Int))]
def GV (uk uv ko vo nc:List AV):Hp:= [(0,⟨[.agg uk,.agg uv],0,false,0,4611686018427387904,true⟩),(1,⟨[.agg ko,.agg vo],0,false,0,4611686018427387904,true⟩),(2,⟨nc,0,false,0,1,true⟩)]
theorem q15 {nt:Nat} (g:184≤nt) (l h f:az) (uk d c a b:List AV) (st:List aT) (N:Nat) (e:Value) (k:Nat):ag prog ap [l,h,f] nt (dI 15 (af f19)) (⟨NZ uk d c a b st N e k,GV uk d c a b,.dead,[]⟩) .normal (⟨NZ uk d c a b st N e k++ [(66,.bool (decide ((k:Int)<(st.length:Int))))],GV uk d c a b,.dead,[]⟩):=by
 exact pN 19 [] 0 0 .nil (.nil) g
theorem q16 {nt:Nat} (h:184≤nt) (l o n:az) (uk b d c a:List AV) (st:List aT) (N:Nat) (f:Value) (k:Nat) (z:aT) (r:List aT) (m:(κ ((θ (k:Int))*2) (sL st))=sC z++sL r) (g:(decide ((k:Int)<(st.length:Int)))=true):ag prog ap [l,o,n] nt (dI 16 (af f19)) (⟨NZ uk b d c a st N f k,GV uk b d c a,.dead,[]⟩) .normal (⟨NZ uk b d c a st N f k++ [(14,nI k),(15,.ptr 3 0 0)],GV uk b d c a++ [(3,⟨[.bool z.2,.sl (cL z.1) z.1.length false],0,false,0,0,true⟩)],.dead,[]⟩):=by
 have e:(decide ((k:Int)<(st.length:Int)))=true:=g;exact pN 19 [] 0 0 (.k 4 e .nil) (.v 68 (.ppt m) .nil) h
theorem q17 {nt:Nat} (g:184≤nt) (m h f l:az) (uk d c a b:List AV) (st:List aT) (N:Nat) (e:Value) (k:Nat) (z:aT):ag prog ap [m,h,f,l] nt (dI 17 (af f19)) (⟨NZ uk d c a b st N e k++ [(14,nI k),(15,.ptr 3 0 0)],GV uk d c a b++ [(3,⟨[.bool z.2,.sl (cL z.1) z.1.length false],0,false,0,0,true⟩)],.dead,[]⟩) .normal (⟨NZ uk d c a b st N e k++ [(14,nI k),(15,.ptr 3 0 0),(16,.mr 4 0)],GV uk d c a b++ [(3,⟨[.bool z.2,.sl (cL z.1) z.1.length false],0,false,0,0,true⟩)]++ [(4,⟨[.agg [nI k],.agg [.bool true]],0,false,0,4611686018427387904,true⟩)],.dead,[]⟩):=by
 exact pN 19 [] 0 0 (.n 2 .nil) (.nil) g
theorem q18 {nt:Nat} (g:184≤nt) (n h f m l:az) (uk d c a b:List AV) (st:List aT) (N:Nat) (e:Value) (k:Nat) (z:aT):ag prog ap [n,h,f,m,l] nt (dI 18 (af f19)) (⟨NZ uk d c a b st N e k++ [(14,nI k),(15,.ptr 3 0 0),(16,.mr 4 0)],GV uk d c a b++ [(3,⟨[.bool z.2,.sl (cL z.1) z.1.length false],0,false,0,0,true⟩)]++ [(4,⟨[.agg [nI k],.agg [.bool true]],0,false,0,4611686018427387904,true⟩)],.dead,[]⟩) .normal (⟨NZ uk d c a b st N e k++ [(14,nI k),(16,.mr 4 0),(74,.sl (cL z.1) z.1.length false),(75,nI z.1.length),(76,nI 0)],GV uk d c a b++ [(3,⟨[.bool z.2,.sl (cL z.1) z.1.length false],0,false,0,0,true⟩)]++ [(4,⟨[.agg [nI k],.agg [.bool true]],0,false,0,4611686018427387904,true⟩)],.dead,[]⟩):=by
 exact pN 19 [] 0 0 (.n 1 .nil) (.nil) g
theorem q31 {nt:Nat} (h:184≤nt) (m l g:az) (uk e d b c:List AV) (st:List aT) (N:Nat) (f:Value) (k:Nat) (a:k<2^62):ag prog ap [m,l,g] nt (dI 31 (af f19)) (⟨NZ uk e d b c st N f k,GV uk e d b c,.dead,[]⟩) .normal (⟨NZ uk e d b c st N f (k+1),GV uk e d b c,.dead,[]⟩):=by
 exact pN 19 [] 0 0 .nil (.v 115 (.eq (wpS a)) .nil) h
theorem MP:ah 4 (af f19)= .seq (dI 15 (af f19)) (.seq (.cond (.tmp 66) .skip (.exit 4)) (.seq (.block 5 (.seq (dI 16 (af f19)) (.seq (dI 17 (af f19)) (.seq (dI 18 (af f19)) (.block 6 (.loop (ah 6 (af f19)))))))) (dI 31 (af f19)))):=by kernel_rfl
def n4B (uk uv ko vo nc:List AV):List az:= [⟨[.agg uk,.agg uv],0,false,0,4611686018427387904,true⟩,⟨[.agg ko,.agg vo],0,false,0,4611686018427387904,true⟩,⟨nc,0,false,0,1,true⟩]
abbrev zB (z:aT):az:=⟨[.bool z.2,.sl (cL z.1) z.1.length false],0,false,0,0,true⟩
abbrev kB (k:Nat):az:=⟨[.agg [nI k],.agg [.bool true]],0,false,0,4611686018427387904,true⟩
theorem xh (uk e d a c:List AV):AM.ai (GV uk e d a c)=ax (n4B uk e d a c):=by
 funext b
 match b with
 |0=>rfl
 |1=>rfl
 |2=>rfl
 |n+3=>rfl
theorem Tm (uk e d a c:List AV) (z:aT):AM.ai (GV uk e d a c++ [(3,zB z)])=ax (n4B uk e d a c++ [zB z]):=by
 funext b
 match b with
 |0=>rfl
 |1=>rfl
 |2=>rfl
 |3=>rfl
 |n+4=>rfl
theorem Tn (uk e d a c:List AV) (z:aT) (k:Nat):AM.ai (GV uk e d a c++ [(3,zB z)]++ [(4,kB k)])=ax (n4B uk e d a c++ [zB z,kB k]):=by
 funext b
 match b with
 |0=>rfl
 |1=>rfl
 |2=>rfl
 |3=>rfl
 |4=>rfl
 |n+5=>rfl
abbrev k4:List Nat:= [5,6,7,12,13,63,64,65]
abbrev Xe (uk uv ko vo:List AV) (A:AQ) (st:List aT) (N c u:Nat) (k:Nat):St:=⟨NZ uk uv ko vo (nL A.needs) st N (AB u N c) k,GV uk uv ko vo (nL A.needs),.dead,[]⟩
theorem LM {nt:Nat} (f:184≤nt) (uk d b a:List AV) (A:AQ) (st:List aT) (N c u:Nat) {J:WJ} (e:Pg J) (g:ZZ J):aO prog ap [] nt (ah 4 (af f19)) (Xe uk d b a A st N c u st.length) J (.exit 4) (Xe uk d b a A st N c u st.length) J:=by
 rw [MP];have h:=ag.w (h0:= []) e (xh uk d b a (nL A.needs)) (q15 f _ _ _ uk d b a (nL A.needs) st N (AB u N c) st.length);rw [Yq1 (by omega:¬ (st.length:Int)<(st.length:Int))] at h;refine h.seq (aO.seq_out (by simp) ?_);exact aO.tidyE (s1:=⟨NZ uk d b a (nL A.needs) st N (AB u N c) st.length++ [(66,.bool false)],GV uk d b a (nL A.needs),.dead,[]⟩) g k4 (aO.cond (bv:=false) rfl (by rw [if_neg (by simp)];exact Vm)) (by simp) (by kernel_rfl) rfl
def nP (ofN:Cl→Nat) (wq:Cl→List Cl) (k:Nat) (A:AQ) (z:aT):AQ:=(z.1.flatMap wq).foldl (d_ ofN k) ⟨A.needs,[k],A.U⟩
theorem abe (p:di prog ap) {nt:Nat} (h:184≤nt) (uk d b f:List AV) (st:List aT) (N c u:Nat) (k:Nat) (z:aT) (r:List aT) (a:Cl→Nat) (g:Cl→List Cl) (A:AQ) (bnd:Nat) (I:(κ ((θ (k:Int))*2) (sL st))=sC z++sL r) (O:k<st.length) (n:k<2^62)
  (huk:Xqd uk (iU 25)=true) (hko:Xqd b (iU 25)=true) (hus:∀ y ∈ z.1,Gu uk d y (g y)) (hof:∀ y ∈ z.1,∀ x ∈ g y,Xqc (bu b f (cA x)) (ω 0)=nI (a x)) (hlt:∀ y ∈ z.1,∀ x ∈ g y,a x<N) (hkN:k<N) (hul:∀ y ∈ z.1,(g y).length<2^38) (hxl:z.1.length<2^38) (hU:A.U.length=N) (hN:A.needs.length=N) (hb:bnd+(z.1.flatMap g).length<2^40) (hd:A.needs.getD k 0+(z.1.flatMap g).length<2^60):
  ∃ bnd',bnd'≤bnd+(z.1.flatMap g).length∧aO prog ap [] nt (ah 4 (af f19)) (Xe uk d b f A st N c u k) (JU (u+1) 3 38 u A.U bnd) .normal (Xe uk d b f (nP a g k A z) st N c u (k+1)) (JU (u+1) 3 38 u (nP a g k A z).U bnd'):=by
 obtain ⟨bnd',M,D⟩:=EK p h uk d b f st N c u k z.1 a g huk hko hus hof hlt hkN hul hxl z.1 [] ⟨A.needs,[k],A.U⟩ bnd rfl hU hN hb hd;refine ⟨bnd',M, ?_⟩;change qA prog ap [] nt (ah 6 (af f19)) (.exit 6) _ _ (Yt uk d b f (nP a g k A z) st N c u k z.1.length z.1) (JU (u+1) 3 38 u (nP a g k A z).U bnd') at D;rw [MP];have l:=ag.w (h0:= []) (J:=JU (u+1) 3 38 u A.U bnd) JU.stab (xh uk d b f (nL A.needs)) (q15 h _ _ _ uk d b f (nL A.needs) st N (AB u N c) k);rw [Yq0 (by omega:(k:Int)<(st.length:Int))] at l;have K:=aO.tidyE (s1:=⟨NZ uk d b f (nL A.needs) st N (AB u N c) k++ [(66,.bool true)],GV uk d b f (nL A.needs),.dead,[]⟩) (s2:=Xe uk d b f A st N c u k) (JU.sub (base:=u+1) (e:=3) (ue:=38) (u:=u) (U:=A.U) (bnd:=bnd)) k4 (aO.cond (h0:= []) (nt:=nt) (P:=prog) (ap:=ap) (t:= .tmp 66) (x:= .skip) (y:= .exit 4) (bv:=true) rfl (by rw [if_pos rfl];exact aO.skip)) (by simp) (by kernel_rfl) rfl;have q:=ag.w (h0:= []) (J:=JU (u+1) 3 38 u A.U bnd) JU.stab (xh uk d b f (nL A.needs)) (q16 h _ _ _ uk d b f (nL A.needs) st N (AB u N c) k z r I (Yq0 (by omega)));have v:=ag.w (h0:= []) (J:=JU (u+1) 3 38 u A.U bnd) JU.stab (Tm uk d b f (nL A.needs) z) (q17 h _ _ _ _ uk d b f (nL A.needs) st N (AB u N c) k z);have o:=ag.w (h0:= []) (J:=JU (u+1) 3 38 u A.U bnd) JU.stab (Tn uk d b f (nL A.needs) z k) (q18 h _ _ _ _ _ uk d b f (nL A.needs) st N (AB u N c) k z);have m:=aO.tidyE (s2:=Yt uk d b f ⟨A.needs,[k],A.U⟩ st N c u k 0 z.1) JU.sub k6 o (by simp) (by kernel_rfl) rfl;have F:=(D.ok (by simp)).block (id:=6);have C:=aO.tidyE (s2:=Xe uk d b f (nP a g k A z) st N c u k) JU.sub k4 F (by simp [kS]) (by kernel_rfl) rfl;have B:=ag.w (h0:= []) (J:=JU (u+1) 3 38 u (nP a g k A z).U bnd') JU.stab (xh uk d b f (nL (nP a g k A z).needs)) (q31 h _ _ _ uk d b f (nL (nP a g k A z).needs) st N (AB u N c) k n);have G:=aO.block (id:=5) (e:= .normal) (q.seq (v.seq (m.seq C)));exact l.seq (K.seq (aO.seq G B))
theorem uh (a:Cl→Nat) (k i:Nat) (b:i ≠ k):∀ (us:List Cl) (A:AQ),(us.foldl (d_ a k) A).needs.getD i 0=A.needs.getD i 0
 | [],A=>rfl
 | y::us,A=>by
  show (us.foldl (d_ a k) (d_ a k A y)).needs.getD i 0=_;rw [uh a k i b us (d_ a k A y)];unfold d_;split
  ·rfl
  ·show (A.needs.set k _).getD i 0=_;rw [γ,Xx1 (fun e=>b e.symm),γ]
def fK (ofN:Cl→Nat) (wq:Cl→List Cl):List aT→Nat→AQ→AQ
 | [],_,A=>A
 |z::r,k,A=>fK ofN wq r (k+1) (nP ofN wq k A z)
theorem FB (B:di prog ap) {nt:Nat} (I:184≤nt) (uk l h m:List AV) (st:List aT) (N c u:Nat) (a:Cl→Nat) (b:Cl→List Cl) (v:Xqd uk (iU 25)=true) (r:Xqd h (iU 25)=true) (t:∀ z ∈ st,∀ y ∈ z.1,Gu uk l y (b y)) (o:∀ z ∈ st,∀ y ∈ z.1,∀ x ∈ b y,Xqc (bu h m (cA x)) (ω 0)=nI (a x)) (F:∀ z ∈ st,∀ y ∈ z.1,∀ x ∈ b y,a x<N) (M:N=st.length) (D:∀ z ∈ st,∀ y ∈ z.1,(b y).length<2^38) (C:∀ z ∈ st,z.1.length<2^38) (G:st.length<2^38):
  ∀ (q p:List aT) (A:AQ) (bnd:Nat),st=p++q→A.U.length=N→A.needs.length=N→(∀ i,p.length≤i→A.needs.getD i 0=0)→bnd+(q.flatMap fun z=>z.1.flatMap b).length<2^40→∃ bnd' A',A'=fK a b q p.length A∧bnd'≤bnd+(q.flatMap fun z=>z.1.flatMap b).length∧qA prog ap [] nt (ah 4 (af f19)) (.exit 4) (Xe uk l h m A st N c u p.length) (JU (u+1) 3 38 u A.U bnd) (Xe uk l h m A' st N c u st.length) (JU (u+1) 3 38 u A'.U bnd')
 | [],p,A,bnd,e,hU,hN,hz,hb=>by
  rw [μ] at e;refine ⟨bnd,A,rfl,ζ _,.done ?_⟩;rw [← e];exact LM I uk l h m A st N c u JU.stab JU.sub
 | z::q,p,A,bnd,e,hU,hN,hz,hb=>by
  rw [Xqa,η] at hb;have d:z ∈ st:=by rw [e];simp
  have P:=bI (f:=sC) (n:=2) (fun _=>rfl) e;change κ _ (sL st)=sC z++sL q at P;have K:p.length<st.length:=jm e;have T:st=(p++ [z])++q:=by rw [e];simp
  have R:=hz p.length (ζ _);obtain ⟨X,h1,Z⟩:=abe B I uk l h m st N c u p.length z q a b A bnd P K (by omega) v r (t z d) (o z d) (F z d) (by omega) (D z d) (C z d) hU hN (by omega) (by omega);obtain ⟨k1,k2,_⟩:=sJ a p.length (z.1.flatMap b) ⟨A.needs,[p.length],A.U⟩;have g:(p++ [z]).length=p.length+1:=by simp
  obtain ⟨Y,A',Q,h4,O⟩:=FB B I uk l h m st N c u a b v r t o F M D C G q (p++ [z]) (nP a b p.length A z) X T (k1.trans hU) (k2.trans hN) (fun i S=>by
   rw [g] at S;have:=uh a p.length i (by omega) (z.1.flatMap b) ⟨A.needs,[p.length],A.U⟩;exact this.trans (hz i (by omega))) (by omega)
  rw [g] at Q O;rw [Xqa,η];exact ⟨Y,A',Q,by omega,.next Z O⟩
theorem aeu (n:Nat):gu (θ (n:Int)) [ω 0]=nL (Xqh n 0):=by
 unfold gu nL;rw [Xzo,List.map_replicate]
 induction n with
 |zero=>rfl
 |succ n ih=>rw [Xxm,Xxm,Xx6,ih];rfl
theorem aev (n:Nat):gu (θ (n:Int)) [.nilS]=Xqh n .nilS:=by
 unfold gu;rw [Xzo]
 induction n with
 |zero=>rfl
 |succ n ih=>rw [Xxm,Xxm,Xx6,ih];rfl
theorem Oq (b v i n:Nat):AV.ref b v i (θ (n:Int))= .ref b v i n:=rfl
noncomputable def Yq:List Oper:=uo (dI 13 (af f19))
theorem TQ:dI 13 (af f19)= .region 13 Yq.toArray true:=by kernel_rfl
def ajW (uk uv ko vo:List AV) (st:List aT):St:=⟨[(5,.mr 0 0),(6,.sl (sL st) st.length false),(7,.mr 1 0),(12,.ref 10 0 0 st.length),(13,.ref 22 0 0 st.length)],[(22,⟨(Xqh st.length .nilS),0,false,0,1,false⟩),(10,⟨(nL (Xqh st.length 0)),0,false,0,1,true⟩),(0,⟨[.agg uk,.agg uv],0,false,0,4611686018427387904,true⟩),(1,⟨[.agg ko,.agg vo],0,false,0,4611686018427387904,true⟩)],.dead,[]⟩
theorem w13 {nt:Nat} (h:184≤nt) (uk f e d:List AV) (st:List aT) (g:st.length<2^40):ag prog ap [] nt (.region 13 Yq.toArray true) (oeS uk f e d st) .normal (ajW uk f e d st):=by
 have a:(decide (((0:Nat):Int)≤(st.length:Int)))=true:=(k0 _)
 have b:(decide ((st.length:Int)=(st.length:Int)))=true:=(Yq0 rfl)
 have c:(decide ((st.length:Int)≤((1099511627776:Nat):Int)))=true:=(Yq0 (by omega))
 exact pu good 0 0 (nt0:=184) (.c a (.c b (.c c (.c a (.c b (.c c .nil)))))) (.b 62 (aev st.length) (.v 62 (.eq (Oq 22 0 0 st.length)) (.b 59 (aeu st.length) (.v 59 (.eq (Oq 10 0 0 st.length)) .nil)))) h (by kernel_rfl)
def e13 (st:List aT) (v:Value):dG:= [(5,.mr 0 0),(6,.sl (sL st) st.length false),(7,.mr 1 0),(12,.ref 10 0 0 st.length),(13,.raw v)]
def Vr (uk uv ko vo:List AV) (st:List aT):Hp:= [(10,⟨(nL (Xqh st.length 0)),0,false,0,1,true⟩),(0,⟨[.agg uk,.agg uv],0,false,0,4611686018427387904,true⟩),(1,⟨[.agg ko,.agg vo],0,false,0,4611686018427387904,true⟩)]
def aeA (uk uv ko vo:List AV) (st:List aT) (v:Value):St:=⟨[(5,.mr 0 0),(6,.sl (sL st) st.length false),(7,.mr 1 0),(12,.ref 2 0 0 st.length),(13,.raw v)],[(0,⟨[.agg uk,.agg uv],0,false,0,4611686018427387904,true⟩),(1,⟨[.agg ko,.agg vo],0,false,0,4611686018427387904,true⟩),(2,⟨nL (Xqh st.length 0),0,false,0,1,true⟩)],.dead,[]⟩
theorem q14 {nt:Nat} (e:184≤nt) (g f d:az) (uk c b a:List AV) (st:List aT) (v:Value):ag prog ap [g,f,d] nt (dI 14 (af f19)) (aeA uk c b a st v) .normal ⟨NZ uk c b a (nL (Xqh st.length 0)) st st.length v 0,GV uk c b a (nL (Xqh st.length 0)),.dead,[]⟩:=by
 exact pN 19 [] 0 0 .nil .nil e
def vT (U:List (List Nat)):List AV:=U.map DC
def Xd (uk uv ko vo:List AV) (A:AQ) (st:List aT):St:=⟨[(6,.sl (sL st) st.length false),(7,.mr 1 0),(12,.ref 2 0 0 st.length),(13,.sl (vT A.U) st.length false)],GV uk uv ko vo (nL A.needs),.dead,[]⟩
theorem vW (a:Cl→Nat) (b:Cl→List Cl):∀ (q:List aT) (k:Nat) (A:AQ),(fK a b q k A).U.length=A.U.length∧(fK a b q k A).needs.length=A.needs.length
 | [],_,A=> ⟨rfl,rfl⟩
 |z::q,k,A=>by
  obtain ⟨d,f⟩:=vW a b q (k+1) (nP a b k A z);obtain ⟨e,c,_⟩:=sJ a k (z.1.flatMap b) ⟨A.needs,[k],A.U⟩;exact ⟨d.trans e,f.trans c⟩
def A0 (n:Nat):AQ:=⟨Xqh n 0,[],Xqh n []⟩
theorem Q3 (O:di prog ap) {nt:Nat} (Q:184≤nt) (uk l f m:List AV) (st:List aT) (a:Cl→Nat) (g:Cl→List Cl) (M:Xqd uk (iU 25)=true) (I:Xqd f (iU 25)=true) (K:∀ z ∈ st,∀ y ∈ z.1,Gu uk l y (g y)) (B:∀ z ∈ st,∀ y ∈ z.1,∀ x ∈ g y,Xqc (bu f m (cA x)) (ω 0)=nI (a x)) (T:∀ z ∈ st,∀ y ∈ z.1,∀ x ∈ g y,a x<st.length) (S:∀ z ∈ st,∀ y ∈ z.1,(g y).length<2^38) (P:∀ z ∈ st,z.1.length<2^38) (D:st.length<2^38) (t:(st.flatMap fun z=>z.1.flatMap g).length<2^40) (F:0<st.length)
  {Z:Code} {e:aJ} {s':St} (hZ:ag prog ap [] nt Z (Xd uk l f m (fK a g st 0 (A0 st.length)) st) e s'):
  ag prog ap [] nt (.seq (dI 13 (af f19)) (.seq (.seq (dI 14 (af f19)) (.block 4 (.loop (ah 4 (af f19))))) Z)) (oeS uk l f m st) e s':=by
 refine ag.ofW (aO.seq (TQ ▸ (w13 Q uk l f m st (by omega)).toW) ?_);refine aO.rows (e:=3) (ue:=38) (env2:=e13 st) (hp0:=Vr uk l f m st) 22 13 0 st.length rfl rfl rfl (fun x C b=> ?_) (fun x C b hp=> ?_) (fun v=>rfl) (fun v q G=> ?_) (fun x B0 b=>(by cases b)) rfl F (fun u c hc=> ?_)
 ·rcases lh b with ⟨rfl,rfl⟩|⟨p,b⟩
  ·exact ⟨rfl,by decide⟩
  ·rcases lh b with ⟨rfl,rfl⟩|⟨p,b⟩
   ·exact ⟨rfl,by decide⟩
   ·rcases lh b with ⟨rfl,rfl⟩|⟨p,b⟩
    ·exact ⟨rfl,by decide⟩
    ·cases b
 ·rcases lh b with ⟨rfl,rfl⟩|⟨p,b⟩
  ·cases hp
  ·rcases lh b with ⟨rfl,rfl⟩|⟨p,b⟩
   ·cases hp
   ·rcases lh b with ⟨rfl,rfl⟩|⟨p,b⟩
    ·cases hp
    ·cases b
 ·by_cases e5:q=5
  ·subst e5;exact .inr ⟨rfl,fun y d=>by have d:y ∈ [0]:=d;rw [χ] at d;subst d;rfl⟩
  by_cases e6:q=6
  ·subst e6;exact .inr ⟨rfl,fun y d=>by cases d⟩
  by_cases e7:q=7
  ·subst e7;exact .inr ⟨rfl,fun y d=>by have d:y ∈ [1]:=d;rw [χ] at d;subst d;rfl⟩
  by_cases e12:q=12
  ·subst e12;exact .inr ⟨rfl,fun y d=>by have d:y ∈ [10]:=d;rw [χ] at d;subst d;rfl⟩
  ·refine .inl ?_;simp [e13,dG.get,AM.ai,iD (fun h=>e5 h.symm:5 ≠ q),iD (fun h=>e6 h.symm:6 ≠ q),iD (fun h=>e7 h.symm:7 ≠ q),iD (fun h=>e12 h.symm:12 ≠ q),iD (fun h=>G h.symm:13 ≠ q)]
 obtain ⟨bnd,A,Y,_,hL⟩:=FB O Q uk l f m st st.length c u a g M I K B T rfl S P D st [] (A0 st.length) 0 rfl (by simp [A0]) (by simp [A0]) (fun i hi=>by simp [A0,γ,Xzk];split<;>rfl) (by rw [Φ];exact t);have R:=ag.w (h0:= []) (J:=JU (u+1) 3 38 u (Xqh st.length []) 0) JU.stab (xh uk l f m (nL (Xqh st.length 0))) (q14 Q _ _ _ uk l f m st (AB u st.length c));have n:=(hL.ok (by simp)).block (id:=4);obtain ⟨X,hl2⟩:=vW a g st 0 (A0 st.length);have o:A.U.length=st.length:=by rw [Y];exact X.trans (by simp [A0])
 rw [Y] at n o;have r:=aO.rowsEnd (h0:= []) (e:=3) (ue:=38) (u:=u) (c:=c) (bnd:=bnd) (U:=(fK a g st 0 (A0 st.length)).U) (s:=Xe uk l f m (fK a g st 0 (A0 st.length)) st st.length c u st.length) (s2:=Xd uk l f m (fK a g st 0 (A0 st.length)) st) 13 rfl rfl o.symm hc rfl rfl rfl rfl (fun q G=> ?_) hZ.toW
 ·exact aO.tidy (s1:=aeA uk l f m st (AB u st.length c)) JU.sub [5,6,7,12,13] ((R.seq n).seq r) (by kernel_rfl) rfl
 ·by_cases e6:q=6
  ·subst e6;exact .inr rfl
  by_cases e7:q=7
  ·subst e7;exact .inr rfl
  by_cases e12:q=12
  ·subst e12;exact .inr rfl
  ·refine .inl ?_;simp [Xd,dG.get,AM.ai,iD (fun h=>e6 h.symm:6 ≠ q),iD (fun h=>e7 h.symm:7 ≠ q),iD (fun h=>e12 h.symm:12 ≠ q),iD (fun h=>G h.symm:13 ≠ q)]
def Uc (ko vo nc:List AV) (U:List (List Nat)) (st:List aT) (k:Nat):St:=⟨[(6,.sl (sL st) st.length false),(7,.mr 0 0),(12,.ref 1 0 0 st.length),(13,.sl (vT U) st.length false),(22,.ptr 2 0 0),(120,.sl (sL st) st.length false),(121,ω (st.length:Int)),(122,ω (k:Int))],[(0,⟨[.agg ko,.agg vo],0,false,0,4611686018427387904,true⟩),(1,⟨nc,0,false,0,1,true⟩),(2,⟨[.nilS,.ifc 101 (.agg [])],0,false,0,0,true⟩)],.dead,[]⟩
def LZ (ko vo nc:List AV) (U:List (List Nat)) (st:List aT) (n:Nat) (OT:List AV) (k:Nat):St:=⟨[(6,.sl (sL st) st.length false),(7,.mr 0 0),(12,.ref 1 0 0 st.length),(13,.sl (vT U) st.length false),(22,.ptr 2 0 0),(120,.sl (sL st) st.length false),(121,ω (st.length:Int)),(122,ω (k:Int))],[(0,⟨[.agg ko,.agg vo],0,false,0,4611686018427387904,true⟩),(1,⟨nc,0,false,0,1,true⟩),(2,⟨[.ref 3 0 0 n,.ifc 101 (.agg [])],0,false,0,0,false⟩),(3,⟨OT,0,false,0,2,true⟩)],.dead,[]⟩
def Xc (ko vo nc:List AV) (U:List (List Nat)) (st:List aT) (n:Nat) (OT:List AV):St:=⟨[(6,.sl (sL st) st.length false),(7,.mr 0 0),(12,.ref 1 0 0 st.length),(13,.sl (vT U) st.length false),(22,.ptr 2 0 0)],[(0,⟨[.agg ko,.agg vo],0,false,0,4611686018427387904,true⟩),(1,⟨nc,0,false,0,1,true⟩),(2,⟨[.ref 3 0 0 n,.ifc 101 (.agg [])],0,false,0,0,false⟩),(3,⟨OT,0,false,0,2,true⟩)],.dead,[]⟩
def abl (ko vo nc:List AV) (U:List (List Nat)) (st:List aT) (n:Nat) (OT:List AV):St:=⟨[(6,.sl (sL st) st.length false),(7,.mr 0 0),(12,.ref 1 0 0 st.length),(13,.sl (vT U) st.length false),(22,.ptr 2 0 0),(25,.nilS)],[(0,⟨[.agg ko,.agg vo],0,false,0,4611686018427387904,true⟩),(1,⟨nc,0,false,0,1,true⟩),(2,⟨[.ref 3 0 0 n,.ifc 101 (.agg [])],0,false,0,0,false⟩),(3,⟨OT,0,false,0,2,true⟩)],.dead,[]⟩
def Hr (ko vo nc:List AV) (U:List (List Nat)) (st:List aT) (q:Nat) (O:List AV) (n:Nat) (OT:List AV) (l:List Nat) (i:Nat):St:=⟨[(6,.sl (sL st) st.length false),(7,.mr 0 0),(12,.ref 1 0 0 st.length),(13,.sl (vT U) st.length false),(22,.ptr 2 0 0),(25,.ref 3 0 0 q),(157,.sl (nL l) l.length false),(158,ω (l.length:Int)),(159,ω (i:Int))],[(0,⟨[.agg ko,.agg vo],0,false,0,4611686018427387904,true⟩),(1,⟨nc,0,false,0,1,true⟩),(2,⟨[.ref 4 0 0 n,.ifc 101 (.agg [])],0,false,0,0,false⟩),(3,⟨O,0,false,0,2,true⟩),(4,⟨OT,0,false,0,2,true⟩)],.dead,[]⟩
def xC (ko vo nc:List AV) (U:List (List Nat)) (st:List aT) (q:Nat) (O:List AV) (n:Nat) (OT:List AV):St:=⟨[(6,.sl (sL st) st.length false),(7,.mr 0 0),(12,.ref 1 0 0 st.length),(13,.sl (vT U) st.length false),(22,.ptr 2 0 0),(25,.ref 3 0 0 q)],[(0,⟨[.agg ko,.agg vo],0,false,0,4611686018427387904,true⟩),(1,⟨nc,0,false,0,1,true⟩),(2,⟨[.ref 4 0 0 n,.ifc 101 (.agg [])],0,false,0,0,false⟩),(3,⟨O,0,false,0,2,true⟩),(4,⟨OT,0,false,0,2,true⟩)],.dead,[]⟩
def WN (nc:List AV) (j d:Nat):List AV:=(Xqk ((0+(θ (j:Int)))*1) nc++ [ω (d:Int)]++κ (((0+(θ (j:Int)))*1)+1) nc)
theorem ajF {nt:Nat} (n:184≤nt) (e g b:List AV) (U:List (List Nat)) (st:List aT) (k d:Nat) (z:aT) (r:List aT) (o:List AV) (l:(κ ((θ (k:Int))*2) (sL st))=sC z++sL r) (c:k<st.length) (h:k<2^62) (f:(κ ((0+(θ (k:Int)))*1) b)= [nI d]++o) (p:((d:Int)==((0:Nat):Int))=true) (OT2:List AV) (m:ae prog ap 50 [.ifc 99 (.ptr 0 0 0),.ifc 66 (.agg (sC z))] qN0 (.ret (.tup [])) (qH 1 OT2)):ag prog ap [] nt (ah 10 (af f19)) (Uc e g b U st k) .normal (LZ e g b U st 1 OT2 (k+1)):=by
 have a:(decide ((k:Int)<(st.length:Int)))=true:=kl c;exact pN 19 [] 2 3 (.k 2 (aQ p) (.a (bU [.int .i64] f rfl) (.k 1 a (.k 4 a (.c (aQ a) .nil))))) (.v 137 (.eq (wpS h)) (.c m (.v 130 (.rd1 (.int .i64) f rfl) (.v 125 (.ppt l) .nil)))) n
theorem ajG {nt:Nat} (m:184≤nt) (g f b:List AV) (U:List (List Nat)) (st:List aT) (k d:Nat) (z:aT) (r:List aT) (n:List AV) (h:(κ ((θ (k:Int))*2) (sL st))=sC z++sL r) (c:k<st.length) (l:k<2^62) (e:(κ ((0+(θ (k:Int)))*1) b)= [nI d]++n) (o:((d:Int)==((0:Nat):Int))=false):ag prog ap [] nt (ah 10 (af f19)) (Uc g f b U st k) .normal (Uc g f b U st (k+1)):=by
 have a:(decide ((k:Int)<(st.length:Int)))=true:=kl c;exact pN 19 [] 2 1 (.c (aX o) (.a (bU [.int .i64] e rfl) (.k 1 a (.k 4 a (.c (aQ a) .nil))))) (.v 137 (.eq (wpS l)) (.v 130 (.rd1 (.int .i64) e rfl) (.v 125 (.ppt h) .nil))) m
theorem ajH {nt:Nat} (o:184≤nt) (e g b:List AV) (U:List (List Nat)) (st:List aT) (n:Nat) (OT:List AV) (k d:Nat) (z:aT) (r:List aT) (p:List AV) (l:(κ ((θ (k:Int))*2) (sL st))=sC z++sL r) (c:k<st.length) (h:k<2^62) (f:(κ ((0+(θ (k:Int)))*1) b)= [nI d]++p) (q:((d:Int)==((0:Nat):Int))=true) (OT2:List AV) (m:ae prog ap 50 [.ifc 99 (.ptr 0 0 0),.ifc 66 (.agg (sC z))] (qH n OT) (.ret (.tup [])) (qV (n+1) OT2)):ag prog ap [] nt (ah 10 (af f19)) (LZ e g b U st n OT k) .normal (LZ e g b U st (n+1) OT2 (k+1)):=by
 have a:(decide ((k:Int)<(st.length:Int)))=true:=kl c;exact pN 19 [] 2 3 (.k 2 (aQ q) (.a (bU [.int .i64] f rfl) (.k 1 a (.k 4 a (.c (aQ a) .nil))))) (.v 137 (.eq (wpS h)) (.c m (.v 130 (.rd1 (.int .i64) f rfl) (.v 125 (.ppt l) .nil)))) o
theorem ajI {nt:Nat} (m:184≤nt) (e g b:List AV) (U:List (List Nat)) (st:List aT) (n:Nat) (OT:List AV) (k d:Nat) (z:aT) (r:List aT) (o:List AV) (l:(κ ((θ (k:Int))*2) (sL st))=sC z++sL r) (c:k<st.length) (h:k<2^62) (f:(κ ((0+(θ (k:Int)))*1) b)= [nI d]++o) (p:((d:Int)==((0:Nat):Int))=false):ag prog ap [] nt (ah 10 (af f19)) (LZ e g b U st n OT k) .normal (LZ e g b U st n OT (k+1)):=by
 have a:(decide ((k:Int)<(st.length:Int)))=true:=kl c;exact pN 19 [] 2 1 (.c (aX p) (.a (bU [.int .i64] f rfl) (.k 1 a (.k 4 a (.c (aQ a) .nil))))) (.v 137 (.eq (wpS h)) (.v 130 (.rd1 (.int .i64) f rfl) (.v 125 (.ppt l) .nil))) m
theorem ajJ {nt:Nat} (e:184≤nt) (c a b:List AV) (U:List (List Nat)) (st:List aT) (n:Nat) (OT:List AV):ag prog ap [] nt (ah 10 (af f19)) (LZ c a b U st n OT st.length) (.exit 10) (Xc c a b U st n OT):=by
 have d:(decide ((st.length:Int)<(st.length:Int)))=false:=kn (ζ _);exact pN 19 [] 1 0 (.c (aX d) .nil) .nil e
theorem ajK {nt:Nat} (B:184≤nt) (p u b:List AV) (U:List (List Nat)) (st:List aT) (q:Nat) (O:List AV) (n:Nat) (OT:List AV) (l:List Nat) (i j d:Nat) (z:aT) (r:List aT) (v C rd:List AV) (F:(κ ((θ (i:Int))*1) (nL l))= [nI j]++v) (g:i<l.length) (x:i<2^62) (f:j<st.length) (t:(κ ((0+(θ (j:Int)))*1) b)= [nI (d+1)]++C) (h:(κ ((0+(θ (j:Int)))*1) (WN b j d))= [nI d]++rd) (c:(Xqq (((0+(θ (j:Int)))*1)+1) (Xqb b))=true) (e:ω (ν .i64 ((((d+1):Nat):Int) - ((1:Nat):Int)))= ω (d:Int)) (D:((d:Int)==((0:Nat):Int))=true) (OT2:List AV) (A:ae prog ap 50 [.ifc 99 (.ptr 0 0 0),.ifc 66 (.agg (sC z))] (qH n OT) (.ret (.tup [])) (qV (n+1) OT2)) (y:(κ ((θ (j:Int))*2) (sL st))=sC z++sL r):ag prog ap [] nt (ah 14 (af f19)) (Hr p u b U st q O n OT l i) .normal (Hr p u (WN b j d) U st q O (n+1) OT2 l (i+1)):=by
 have o:(decide ((i:Int)<(l.length:Int)))=true:=kl g;unfold WN at h ⊢;have a:(decide ((j:Int)<(st.length:Int)))=true:=(kl f)
 have m:(Xqq (((0+(θ (j:Int)))*1)+1) (Xqb b))=true:=c;exact pN 19 [] 2 3 (.k 3 a (.c (aQ D) (.a (bU [.int .i64] h rfl) (.k 1 a (.c m (.k 1 a (.a (bU [.int .i64] t rfl) (.k 1 a (.k 2 o (.c (aQ o) .nil)))))))))) (.v 182 (.eq (wpS x)) (.c A (.v 178 (.ppt y) (.v 172 (.rd1 (.int .i64) h rfl) (.v 167 (.eq e) (.v 166 (.rd1 (.int .i64) t rfl) (.v 161 (.ppt F) .nil))))))) B
theorem ajL {nt:Nat} (x:184≤nt) (p t b:List AV) (U:List (List Nat)) (st:List aT) (q:Nat) (O:List AV) (n:Nat) (OT:List AV) (l:List Nat) (i j d:Nat) (u y rd:List AV) (A:(κ ((θ (i:Int))*1) (nL l))= [nI j]++u) (g:i<l.length) (v:i<2^62) (f:j<st.length) (r:(κ ((0+(θ (j:Int)))*1) b)= [nI (d+1)]++y) (h:(κ ((0+(θ (j:Int)))*1) (WN b j d))= [nI d]++rd) (c:(Xqq (((0+(θ (j:Int)))*1)+1) (Xqb b))=true) (e:ω (ν .i64 ((((d+1):Nat):Int) - ((1:Nat):Int)))= ω (d:Int)) (z:((d:Int)==((0:Nat):Int))=false):ag prog ap [] nt (ah 14 (af f19)) (Hr p t b U st q O n OT l i) .normal (Hr p t (WN b j d) U st q O n OT l (i+1)):=by
 have o:(decide ((i:Int)<(l.length:Int)))=true:=kl g;unfold WN at h ⊢;have a:(decide ((j:Int)<(st.length:Int)))=true:=(kl f)
 have m:(Xqq (((0+(θ (j:Int)))*1)+1) (Xqb b))=true:=c;exact pN 19 [] 2 1 (.c (aX z) (.a (bU [.int .i64] h rfl) (.k 1 a (.c m (.k 1 a (.a (bU [.int .i64] r rfl) (.k 1 a (.k 2 o (.c (aQ o) .nil))))))))) (.v 182 (.eq (wpS v)) (.v 172 (.rd1 (.int .i64) h rfl) (.v 167 (.eq e) (.v 166 (.rd1 (.int .i64) r rfl) (.v 161 (.ppt A) .nil))))) x
theorem ajM {nt:Nat} (e:184≤nt) (c a b:List AV) (U:List (List Nat)) (st:List aT) (q:Nat) (O:List AV) (n:Nat) (OT:List AV) (l:List Nat):ag prog ap [] nt (ah 14 (af f19)) (Hr c a b U st q O n OT l l.length) (.exit 14) (xC c a b U st q O n OT):=by
 have d:(decide ((l.length:Int)<(l.length:Int)))=false:=kn (ζ _);exact pN 19 [] 1 0 (.c (aX d) .nil) .nil e
theorem ajN {nt:Nat} (z:184≤nt) (b c t:List AV) (U:List (List Nat)) (st:List aT) (n:Nat) (OT:List AV) (a:aT) (x:Cl) (B:List Cl) (w u:Nat) (OT1:List AV) (l:List Nat) (v:List AV) (WM:List AV) (r:Nat) (O2:List AV) (q:Nat) (OT2:List AV) (e:Xqd b (iU 25)=true) (g:ae prog ap 51 [.ptr 0 0 0] (qH n OT) (.ret (nI n)) (qH n OT)) (h0:(decide (((0:Nat):Int)<(n:Int)))=true) (h:ae prog ap 52 [.ifc 99 (.ptr 0 0 0)] (qH n OT) (.ret (.ifc 66 (.agg (sC a)))) (qH u OT1)) (y:κ 0 (cL a.1)=cC x++cL B) (m:0<a.1.length) (d:Xqc (bu b c (cA x)) (ω 0)=nI w) (A:w<st.length) (C:(κ ((θ (w:Int))*1) (vT U))= [DC l]++v)
  (l14:LB 184 14 f19 (Hr b c t U st 1 (sC a) u OT1 l 0) .normal (xC b c WM U st r O2 q OT2)):ag prog ap [] nt (ah 12 (af f19)) (abl b c t U st n OT) .normal (xC b c WM U st r O2 q OT2):=by
 have o:(decide ((w:Int)<(st.length:Int)))=true:=(kl A)
 have p:(Xqd b (iU 25))=true:=e;have f:(decide (((0:Nat):Int)<(a.1.length:Int)))=true:=(kl m)
 exact pN 19 [14] 2 1 (.k 2 o (.k 1 p (.k 3 f (.k 7 (aQ h0) .nil)))) (.k [6,7,12,13,22,25,157,158,159] l14 (.v 156 (.ppt C) (.v 155 (.eq d) (.v 153 (.ppt y) (.c h (.c g .nil)))))) z
theorem ajO {nt:Nat} (F:184≤nt) (b d A:List AV) (U:List (List Nat)) (st:List aT) (q:Nat) (O:List AV) (n:Nat) (OT:List AV) (a:aT) (x:Cl) (I:List Cl) (w B:Nat) (OT1:List AV) (l:List Nat) (C:List AV) (WM:List AV) (z:Nat) (O2:List AV) (y:Nat) (OT2:List AV) (g:Xqd b (iU 25)=true) (o:ae prog ap 51 [.ptr 0 0 0] (qH n OT) (.ret (nI n)) (qH n OT)) (h0:(decide (((0:Nat):Int)<(n:Int)))=true) (p:ae prog ap 52 [.ifc 99 (.ptr 0 0 0)] (qH n OT) (.ret (.ifc 66 (.agg (sC a)))) (qH B OT1)) (D:κ 0 (cL a.1)=cC x++cL I) (r:0<a.1.length) (e:Xqc (bu b d (cA x)) (ω 0)=nI w) (G:w<st.length) (K:(κ ((θ (w:Int))*1) (vT U))= [DC l]++C) (c:(Xqq (q+1) 1099511627776)=true) (f:(Xqq (q*2) (Xqb O))=true)
  (l14:LB 184 14 f19 (Hr b d A U st (q+1) (Xqk (q*2) O++sC a) B OT1 l 0) .normal (xC b d WM U st z O2 y OT2)):ag prog ap [] nt (ah 12 (af f19)) (xC b d A U st q O n OT) .normal (xC b d WM U st z O2 y OT2):=by
 have u:(decide ((w:Int)<(st.length:Int)))=true:=(kl G)
 have v:(Xqd b (iU 25))=true:=g;have h:(decide (((0:Nat):Int)<(a.1.length:Int)))=true:=(kl r)
 have m:(Xqq (q+1) 1099511627776)=true:=c;have t:(Xqq (q*2) (Xqb O))=true:=f;exact pN 19 [14] 1 1 (.k 2 u (.k 1 v (.k 3 h (.k 2 m (.c t (.k 4 (aQ h0) .nil)))))) (.k [6,7,12,13,22,25,157,158,159] l14 (.v 156 (.ppt K) (.v 155 (.eq e) (.v 153 (.ppt D) (.c p (.c o .nil)))))) F
theorem ajP {nt:Nat} (e:184≤nt) (d b c:List AV) (U:List (List Nat)) (st:List aT) (q:Nat) (O:List AV) (n:Nat) (OT:List AV) (a:ae prog ap 51 [.ptr 0 0 0] (qH n OT) (.ret (nI n)) (qH n OT)) (h0:(decide (((0:Nat):Int)<(n:Int)))=false):ag prog ap [] nt (ah 12 (af f19)) (xC d b c U st q O n OT) (.exit 12) (xC d b c U st q O n OT):=by
 exact pN 19 [] 1 0 (.c (aX h0) .nil) (.c a .nil) e
def lT (ofN:Cl→Nat):List Cl→List Nat→List Nat
 | [],_=> []
 |y::r,s=>if ofN y ∈ s then lT ofN r s else ofN y::lT ofN r (s++ [ofN y])
theorem rZ (a:Cl→Nat):∀ (us:List Cl) (s:List Nat) (x:Nat),x ∈ lT a us s↔x ∉ s∧∃ y ∈ us,a y=x
 | [],s,x=>by simp [lT]
 | y ::r,s,x=>by
  unfold lT;by_cases h:a y ∈ s
  ·rw [if_pos h,rZ a r s x];constructor
   ·rintro ⟨h1,z,h2,h3⟩
    exact ⟨h1,z,Θ _ h2,h3⟩
   ·rintro ⟨h1,z,h2,h3⟩
    rcases List.mem_cons.1 h2 with e|h2
    ·rw [e] at h3;rw [h3] at h;exact absurd h h1
    ·exact ⟨h1,z,h2,h3⟩
  ·rw [if_neg h,Xqo,rZ a r _ x];simp only [List.mem_append,χ,not_or];constructor
   ·rintro (e|⟨⟨h1,h2⟩,z,h3,h4⟩)
    ·rw [e];exact ⟨h,y,by simp,rfl⟩
    ·exact ⟨h1,z,Θ _ h3,h4⟩
   ·rintro ⟨h1,z,h2,h3⟩
    by_cases e:x=a y
    ·exact .inl e
    ·refine .inr ⟨⟨h1,e⟩,z, ?_,h3⟩;rcases List.mem_cons.1 h2 with e2|h2
     ·rw [e2] at h3;exact absurd h3.symm e
     ·exact h2
theorem vJ (a:Cl→Nat):∀ (us:List Cl) (s:List Nat),(lT a us s).Nodup
 | [],_=>by simp [lT]
 | y::r,s=>by
  unfold lT;split
  ·exact vJ a r s
  ·rw [Xxo];refine ⟨fun h=> ?_,vJ a r _⟩;rw [rZ] at h;simp at h
theorem rJ {α:Type} {l:List α} {k:Nat} {x d:α} (h:k<l.length):(l.set k x).getD k d=x:=by
 rw [γ,Xx4 h];rfl
theorem zo {α:Type} {l:List α} {k i:Nat} {x d:α} (h:k ≠ i):(l.set k x).getD i d=l.getD i d:=by
 rw [γ,Xx1 h,γ]
theorem Ia (a:Cl→Nat) (k:Nat):∀ (us:List Cl) (A:AQ),(∀ y ∈ us,a y<A.U.length)→k<A.needs.length→(us.foldl (d_ a k) A).needs.getD k 0=A.needs.getD k 0+(lT a us A.seen).length∧∀ x,(us.foldl (d_ a k) A).U.getD x []=A.U.getD x []++(if x ∈ lT a us A.seen then [k] else [])
 | [],A,_,_=>by simp [lT]
 | y ::r,A,h,hk=>by
  show (r.foldl (d_ a k) (d_ a k A y)).needs.getD k 0=_∧∀ x,(r.foldl (d_ a k) (d_ a k A y)).U.getD x []=_;have d:∀ z ∈ r,a z<A.U.length:=fun z b=>h z (Θ _ b)
  have g:=h y (by simp);unfold lT;by_cases hs:a y ∈ A.seen
  ·have e:d_ a k A y=A:=if_pos hs;rw [e,if_pos hs];exact Ia a k r A d hk
  ·have e:d_ a k A y=⟨A.needs.set k (A.needs.getD k 0+1),A.seen++ [a y],A.U.set (a y) (A.U.getD (a y) []++ [k])⟩:=if_neg hs;rw [if_neg hs,e];obtain ⟨c,f⟩:=Ia a k r ⟨A.needs.set k (A.needs.getD k 0+1),A.seen++ [a y],A.U.set (a y) (A.U.getD (a y) []++ [k])⟩ (fun z b=>by simpa using d z b) (by simpa using hk);dsimp only at c f;refine ⟨?_,fun x=> ?_⟩
   ·rw [c,τ,rJ hk];omega
   ·rw [f x];by_cases ex:x=a y
    ·rw [ex,rJ g,if_neg (by rw [rZ];simp),if_pos (by simp),μ]
    ·rw [zo (fun e=>ex e.symm)];congr 1;simp only [Xqo,ex,false_or]
def qG (ofN:Cl→Nat) (wq:Cl→List Cl) (st:List aT) (k:Nat):List Nat:=lT ofN ((st.getD k dS).1.flatMap wq) [k]
theorem FC (a:Cl→Nat) (b:Cl→List Cl) (st:List aT) (g:∀ z ∈ st,∀ y ∈ z.1,∀ x ∈ b y,a x<st.length):∀ (q p:List aT) (A:AQ),st=p++q→A.U.length=st.length→A.needs.length=st.length→(∀ i,p.length≤i→A.needs.getD i 0=0)→
  (∀ i,i<p.length→(fK a b q p.length A).needs.getD i 0=A.needs.getD i 0)∧(∀ i,p.length≤i→i<st.length→(fK a b q p.length A).needs.getD i 0=(qG a b st i).length)∧
  ∀ x,(fK a b q p.length A).U.getD x []=A.U.getD x []++(List.range' p.length q.length).filter fun j=>decide (x ∈ qG a b st j)
 | [],p,A,e,hU,hN,hz=>by
  rw [μ] at e;refine ⟨fun i _=>rfl,fun i o f=> ?_,fun x=>by simp [fK]⟩;rw [e] at f;omega
 | z::q,p,A,e,hU,hN,hz=>by
  have D:p.length<st.length:=jm e;have m:z ∈ st:=by rw [e];simp
  have v:st.getD p.length dS=z:=by rw [e,γ];simp
  have u:qG a b st p.length=lT a (z.1.flatMap b) [p.length]:=by unfold qG;rw [v]
  have l:∀ y ∈ z.1.flatMap b,a y<A.U.length:=fun y G=>by
   obtain ⟨c,o,f⟩:=List.mem_flatMap.1 G;rw [hU];exact g z m c o y f
  obtain ⟨F,C⟩:=Ia a p.length (z.1.flatMap b) ⟨A.needs,[p.length],A.U⟩ l (by show p.length<A.needs.length;omega);obtain ⟨k1,k2,_⟩:=sJ a p.length (z.1.flatMap b) ⟨A.needs,[p.length],A.U⟩;have d:(p++ [z]).length=p.length+1:=by simp
  obtain ⟨n,r,t⟩:=FC a b st g q (p++ [z]) (nP a b p.length A z) (by rw [e];simp) (k1.trans hU) (k2.trans hN) (fun i h=>by
   rw [d] at h;exact (uh a p.length i (by omega) (z.1.flatMap b) ⟨A.needs,[p.length],A.U⟩).trans (hz i (by omega)))
  rw [d] at n r t;have B:fK a b (z::q) p.length A=fK a b q (p.length+1) (nP a b p.length A z):=rfl;rw [B];refine ⟨fun i h=> ?_,fun i o f=> ?_,fun x=> ?_⟩
  ·rw [n i (by omega)];exact uh a p.length i (by omega) (z.1.flatMap b) ⟨A.needs,[p.length],A.U⟩
  ·by_cases h:i=p.length
   ·subst h;rw [n _ (Nat.lt_succ_self _),u];have:=F;rw [show (⟨A.needs,[p.length],A.U⟩:AQ).needs.getD p.length 0=0 from hz _ (ζ _),Φ] at this;exact this
   ·exact r i (by omega) f
  ·rw [t x];have:=C x;rw [show (nP a b p.length A z).U.getD x []=_ from this,Xqi];congr 1;rw [τ,List.range'_succ,List.filter_cons,u];by_cases hx:x ∈ lT a (z.1.flatMap b) [p.length]
   ·rw [if_pos hx,if_pos (by simpa using hx)];rfl
   ·rw [if_neg hx,if_neg (by simpa using hx)];rfl
theorem Py (a:Cl→Nat) (b:Cl→List Cl) (st:List aT) (c:∀ z ∈ st,∀ y ∈ z.1,∀ x ∈ b y,a x<st.length):
  (fK a b st 0 (A0 st.length)).needs.length=st.length∧(∀ k,k<st.length→(fK a b st 0 (A0 st.length)).needs[k]? =some (qG a b st k).length)∧(fK a b st 0 (A0 st.length)).U.length=st.length∧
  ∀ x,(fK a b st 0 (A0 st.length)).U.getD x []=(Ψ st.length).filter fun j=>decide (x ∈ qG a b st j):=by
 obtain ⟨h,l⟩:=vW a b st 0 (A0 st.length);have f:(fK a b st 0 (A0 st.length)).needs.length=st.length:=l.trans (by simp [A0]);obtain ⟨o,m,g⟩:=FC a b st c st [] (A0 st.length) rfl (by simp [A0]) (by simp [A0]) (fun i n=>by simp [A0,γ,Xzk];split<;>rfl);refine ⟨f,fun k d=> ?_,h.trans (by simp [A0]),fun x=> ?_⟩
 ·have:=m k (Xqn _) d;rw [γ] at this;rw [Xqf] at this;rw [δ (by rw [f];exact d)] at this ⊢;rw [Xqt] at this;rw [this]
 ·have:=g x;rw [Xqf] at this;rw [this,List.range_eq_range'];have e:(A0 st.length).U.getD x []= []:=by
   simp only [A0,γ,Xzk];split<;>rfl
  rw [e,Xqj]
theorem rX:AZ jY:=by
 refine ⟨fun a b h=> ?_,fun a b c d e=> ?_⟩
 ·unfold jY at*
  rw [Ap] at h;rw [kX];omega
 ·unfold jY at*
  rw [kX] at*
  omega
theorem OO (l:List aT):∀ (f:Nat) (l:List aT) (j:Nat),(Vf jY dS f l j).length=l.length
 |0,l,j=>rfl
 |f+1,l,j=>by
  unfold Vf;split
  ·rfl
  ·rw [OO l f,dX]
theorem yL (l:List aT) (x:aT):(kN jY dS l x).length=l.length+1:=by
 unfold kN;rw [OO l];simp
def lX (needs:List Nat):List aT→Nat→List aT→List aT
 | [],_,h=>h
 |z::r,k,h=>lX needs r (k+1) (if needs.getD k 0=0 then kN jY dS h z else h)
theorem Jy (needs:List Nat) (st:List aT):∀ (r p:List aT) (h:List aT),st=p++r→mV jY dS h→(∃ R:List Nat,R.Nodup∧h.Perm (R.map fun k=>st.getD k dS)∧∀ i,i ∈ R↔i<p.length∧needs.getD i 0=0)→mV jY dS (lX needs r p.length h)∧∃ R:List Nat,R.Nodup∧(lX needs r p.length h).Perm (R.map fun k=>st.getD k dS)∧∀ i,i ∈ R↔i<st.length∧needs.getD i 0=0
 | [],p,h,e,hh,hR=>by
  rw [μ] at e;subst e;exact ⟨hh,hR⟩
 | z ::r,p,h,e,hh,⟨R,h1,h2,h3⟩=>by
  have b:st.getD p.length dS=z:=by rw [e,γ];simp
  have a:(p++ [z]).length=p.length+1:=by simp
  have step:=Jy needs st r (p++ [z]) (if needs.getD p.length 0=0 then kN jY dS h z else h) (by rw [e];simp);rw [a] at step;refine step ?_ ?_
  ·split
   ·exact (nN rX dS hh z).1
   ·exact hh
  ·by_cases c:needs.getD p.length 0=0
   ·rw [if_pos c];refine ⟨p.length::R, ?_, ?_,fun i=> ?_⟩
    ·rw [Xxo];exact ⟨fun hm=>by have:=((h3 _).1 hm).1;omega,h1⟩
    ·rw [Γ,b];exact (nN rX dS hh z).2.trans (List.Perm.cons _ h2)
    ·rw [Xqo,h3];constructor
     ·rintro (e1|⟨x,y⟩)
      ·subst e1;exact ⟨by omega,c⟩
      ·exact ⟨by omega,y⟩
     ·rintro ⟨x,y⟩
      by_cases e1:i=p.length
      ·exact .inl e1
      ·exact .inr ⟨by omega,y⟩
   ·rw [if_neg c];refine ⟨R,h1,h2,fun i=> ?_⟩;rw [h3];constructor
    ·rintro ⟨x,y⟩;exact ⟨by omega,y⟩
    ·rintro ⟨x,y⟩
     refine ⟨?_,y⟩;by_cases e1:i=p.length
     ·subst e1;exact absurd y c
     ·omega
theorem ad6 {E:Nat→List Nat} {st:List aT} {needs:List Nat} (f:needs.length=st.length) (c:∀ k,k<st.length→needs[k]? =some (E k).length):Il jY dS (fun k=>st.getD k dS) E st.length [] needs (lX needs st 0 []):=by
 obtain ⟨d,R,h,e,g⟩:=Jy needs st st [] [] rfl (fun k h0 a=>by simp at a) ⟨[],by simp,by simp,fun i=>by simp⟩;rw [Xqf] at d e;refine ⟨⟨by simp,fun k a=>(by cases a),fun p k hp=>by simp at hp,fun p k hp=>by simp at hp⟩,f,fun k a=> ?_,d,R,h,e,fun k=> ?_⟩
 ·rw [c k a];unfold jh;congr 1;rw [List.filter_eq_self.2 (fun j _=>by simp)]
 ·rw [g];constructor
  ·rintro ⟨x,y⟩
   refine ⟨x,by simp,fun j b=> ?_⟩;rw [γ,c k x,Xqt,Xjs] at y;rw [y] at b;cases b
  ·rintro ⟨x,_,z⟩
   refine ⟨x, ?_⟩;rw [γ,c k x,Xqt,Xjs];exact List.eq_nil_iff_forall_not_mem.2 fun j b=>by cases z j b
abbrev acd (a b:St):Prop:=∀ nt,184≤nt→aN prog ap [] nt (ah 10 (af f19)) (fun _:St=> .exit 10) (id:St→St) id a b
abbrev ace (a b:St):Prop:=∀ nt,184≤nt→aN prog ap [] nt (ah 12 (af f19)) (fun _:St=> .exit 12) (id:St→St) id a b
abbrev ahW (a b:St):Prop:=∀ nt,184≤nt→aN prog ap [] nt (ah 14 (af f19)) (fun _:St=> .exit 14) (id:St→St) id a b
theorem yf {h:List aT} (c:mV jY dS h) (a:∀ z ∈ h,eP z) {x:aT} (b:eP x):∀ z ∈ kN jY dS h x,eP z:=fun z d=>by
 rcases List.mem_cons.1 ((nN rX dS c x).2.mem_iff.1 d) with e|h1
 ·exact e ▸ b
 ·exact a z h1
theorem z0 {d:Nat} (h:d=0):((d:Int)==((0:Nat):Int))=true:=by rw [beq_iff_eq];omega
theorem z1 {d:Nat} (h:d ≠ 0):((d:Int)==((0:Nat):Int))=false:=by rw [Yq2];omega
theorem SN (m g:List AV) (U:List (List Nat)) (st:List aT) (needs:List Nat) (y:needs.length=st.length) (d:∀ z ∈ st,eP z) (o:st.length<2^38):∀ (r p:List aT) (h:List aT) (OT:List AV),st=p++r→mV jY dS h→QS h OT→(∀ z ∈ h,eP z)→h.length≤p.length→∃ OT2,QS (lX needs r p.length h) OT2∧acd (LZ m g (nL needs) U st h.length OT p.length) (Xc m g (nL needs) U st (lX needs r p.length h).length OT2)
 | [],p,h,OT,e,hh,hq,hg,hl=>by
  rw [μ] at e;subst e;exact ⟨OT,hq,fun nt y=> .done (ajJ y m g _ U st _ OT)⟩
 | z::r,p,h,OT,e,hh,hq,hg,hl=>by
  have A:=bI (f:=sC) (n:=2) (fun _=>rfl) e;change κ _ (sL st)=sC z++sL r at A;have t:p.length<st.length:=jm e;have u:z ∈ st:=by rw [e];simp
  obtain ⟨B,D⟩:=Jr (l:=needs) (k:=p.length) (by omega);have a:(p++ [z]).length=p.length+1:=by simp
  have C:st=(p++ [z])++r:=by rw [e];simp
  have I:lX needs (z::r) p.length h=lX needs r (p.length+1) (if needs.getD p.length 0=0 then kN jY dS h z else h):=rfl;rw [I];by_cases c:needs.getD p.length 0=0
  ·rw [if_pos c];obtain ⟨OT1,F,G⟩:=Jc hq hg (d z u) (by omega);have v:=yL h z;obtain ⟨OT2,x,q⟩:=SN m g U st needs y d o r (p++ [z]) _ OT1 C (nN rX dS hh z).1 F (yf hh hg (d z u)) (by rw [v,a];omega);rw [a,v] at q;rw [a] at x;exact ⟨OT2,x,fun nt b=> .next (ajH b m g _ U st _ OT p.length _ z r B A t (by omega) D (z0 c) OT1 G) (q nt b)⟩
  ·rw [if_neg c];obtain ⟨OT2,x,q⟩:=SN m g U st needs y d o r (p++ [z]) h OT C hh hq hg (by rw [a];omega);rw [a] at x q;exact ⟨OT2,x,fun nt b=> .next (ajI b m g _ U st _ OT p.length _ z r B A t (by omega) D (z1 c)) (q nt b)⟩
theorem Yf (h g:List AV) (U:List (List Nat)) (st:List aT) (needs:List Nat) (y:needs.length=st.length) (d:∀ z ∈ st,eP z) (m:st.length<2^38):∀ (r p:List aT),st=p++r→0<(lX needs r p.length []).length→∃ OT2,QS (lX needs r p.length []) OT2∧acd (Uc h g (nL needs) U st p.length) (Xc h g (nL needs) U st (lX needs r p.length []).length OT2)
 | [],p,e,h0=>by simp [lX] at h0
 | z::r,p,e,h0=>by
  have x:=bI (f:=sC) (n:=2) (fun _=>rfl) e;change κ _ (sL st)=sC z++sL r at x;have q:p.length<st.length:=jm e;have t:z ∈ st:=by rw [e];simp
  obtain ⟨A,C⟩:=Jr (l:=needs) (k:=p.length) (by omega);have a:(p++ [z]).length=p.length+1:=by simp
  have B:st=(p++ [z])++r:=by rw [e];simp
  have M:lX needs (z::r) p.length []=lX needs r (p.length+1) (if needs.getD p.length 0=0 then kN jY dS [] z else []):=rfl;rw [M] at h0 ⊢;by_cases c:needs.getD p.length 0=0
  ·rw [if_pos c];obtain ⟨OT1,G,I⟩:=PP (d z t);have u:=yL [] z;have D:mV jY dS ([]:List aT):=fun k h0 F=>by simp at F
   obtain ⟨OT2,v,o⟩:=SN h g U st needs y d m r (p++ [z]) _ OT1 B (nN rX dS D z).1 G (yf D (fun z K=>by cases K) (d z t)) (by rw [u,a];simp);rw [a,u] at o;rw [a] at v;exact ⟨OT2,v,fun nt b=> .next (ajF b h g _ U st p.length _ z r A x q (by omega) C (z0 c) OT1 I) (o nt b)⟩
  ·rw [if_neg c] at h0 ⊢;obtain ⟨OT2,v,o⟩:=Yf h g U st needs y d m r (p++ [z]) B (by rw [a];exact h0);rw [a] at v o;exact ⟨OT2,v,fun nt b=> .next (ajG b h g _ U st p.length _ z r A x q (by omega) C (z1 c)) (o nt b)⟩
theorem aaZ {l:List Nat} {k d:Nat} (a:k<l.length):WN (nL l) k d=nL (l.set k d):=by
 unfold WN nL;rw [i1,Xxz,if_pos a];simp
theorem nLi {l p r:List Nat} {j:Nat} (h:l=p++j::r):κ ((θ (p.length:Int))*1) (nL l)= [nI j]++nL r:=by
 rw [Xzo,Xw1,h];unfold nL;rw [Xxp,Xv1 (by simp)];rfl
abbrev iG (st:List aT) (k:Nat):aT:=st.getD k dS
theorem Lh (v x:List AV) (U:List (List Nat)) (st:List aT) (q:Nat) (O:List AV) (l:List Nat) (u:∀ z ∈ st,eP z) (B:st.length<2^38) (P:l.length<2^39):∀ (r p:List Nat) (needs:List Nat) (h:List aT) (OT:List AV),l=p++r→r.Nodup→(∀ j ∈ r,j<st.length∧0<needs.getD j 0∧needs.getD j 0<2^60)→needs.length=st.length→mV jY dS h→(∀ z ∈ h,eP z)→QS h OT→h.length+r.length<2^39→
  ∃ OT2,QS (r.foldl (Dy jY dS (iG st)) (needs,h)).2 OT2∧ahW (Hr v x (nL needs) U st q O h.length OT l p.length) (xC v x (nL (r.foldl (Dy jY dS (iG st)) (needs,h)).1) U st q O (r.foldl (Dy jY dS (iG st)) (needs,h)).2.length OT2)
 | [],p,needs,h,OT,e,hnd,hr,G,hh,hg,hq,hb=>by
  rw [μ] at e;subst e;exact ⟨OT,hq,fun nt G=> .done (ajM G v x _ U st q O _ OT l)⟩
 | j::r,p,needs,h,OT,e,hnd,hr,G,hh,hg,hq,hb=>by
  rw [τ] at hb;obtain ⟨a,hd0,Y⟩:=hr j (by simp);have K:p.length<l.length:=jm e;have X:l=(p++ [j])++r:=by rw [e];simp
  have o:(p++ [j]).length=p.length+1:=by simp
  obtain ⟨d,hd⟩:∃ d,needs.getD j 0=d+1:=⟨needs.getD j 0 - 1,by omega⟩
  obtain ⟨Z,A⟩:=Jr (l:=needs) (k:=j) (by omega);rw [hd] at A;obtain ⟨rd,y⟩:=Jr (l:=needs.set j d) (k:=j) (by simp;omega);rw [rJ (by omega)] at y;have g:WN (nL needs) j d=nL (needs.set j d):=aaZ (by omega);have C:ω (ν .i64 ((((d+1):Nat):Int) - ((1:Nat):Int)))= ω ((d:Nat):Int):=by rw [xO (by omega) (by omega),Xjm]
  have m:(Xqq (((0+(θ ((j:Nat):Int)))*1)+1) (Xqb (nL needs)))=true:=ξ (by rw [i1];unfold nL;rw [Xxa];omega);have I:eP (iG st j):=u _ (by unfold iG;rw [γ,δ a];exact Xxq a);have hx:(κ ((θ ((j:Nat):Int))*2) (sL st))=sC (iG st j)++sL (st.drop (j+1)):=XN (f:=sC) (n:=2) (fun _=>rfl) (by unfold iG;rw [γ,δ a];rfl);have Q:(j::r).foldl (Dy jY dS (iG st)) (needs,h)=r.foldl (Dy jY dS (iG st)) (needs.set j d,if d=0 then kN jY dS h (iG st j) else h):=by
   rw [Xqw];unfold Dy;rw [hd,Xjm]
  rw [Q];have F:∀ i ∈ r,i<st.length∧0<(needs.set j d).getD i 0∧(needs.set j d).getD i 0<2^60:=fun i T=>by
   have S:j ≠ i:=fun e=>by rw [Xxo] at hnd;exact hnd.1 (e ▸ T)
   rw [zo S];exact hr i (Θ _ T)
  have t:=(List.nodup_cons.1 hnd).2;by_cases c:d=0
  ·rw [if_pos c];obtain ⟨OT1,h1,h2⟩:=Jc hq hg I (by omega);have M:=yL h (iG st j);obtain ⟨OT2,R,D⟩:=Lh v x U st q O l u B P r (p++ [j]) (needs.set j d) _ OT1 X t F (by simpa using G) (nN rX dS hh _).1 (yf hh hg I) h1 (by rw [M];omega);rw [o,M] at D;refine ⟨OT2,R,fun nt b=> .next ?_ (D nt b)⟩;have:=ajK b v x (nL needs) U st q O h.length OT l p.length j d (iG st j) (st.drop (j+1)) (nL r) Z rd (nLi e) K (by omega) a A (by rw [g];exact y) m C (z0 c) OT1 h2 hx;rw [g] at this;exact this
  ·rw [if_neg c];obtain ⟨OT2,R,D⟩:=Lh v x U st q O l u B P r (p++ [j]) (needs.set j d) h OT X t F (by simpa using G) hh hg hq (by omega);rw [o] at D;refine ⟨OT2,R,fun nt b=> .next ?_ (D nt b)⟩;have:=ajL b v x (nL needs) U st q O h.length OT l p.length j d (nL r) Z rd (nLi e) K (by omega) a A (by rw [g];exact y) m C (z1 c);rw [g] at this;exact this
theorem lV {n:Nat} {l:List Nat} (b:l.Nodup) (h:∀ i ∈ l,i<n):l.length≤n:=by
 have hp:=(Xx3 b (List.nodup_range.filter fun i=>decide (i ∈ l))).2 (fun i=>by
  rw [Xq7,Xju,decide_eq_true_eq];exact ⟨fun a=> ⟨h i a,a⟩,fun a=>a.2⟩)
 rw [hp.length_eq];have:=Xqp (fun i=>decide (i ∈ l)) (Ψ n);rwa [List.length_range] at this
structure ML (ko vo:List AV) (U:List (List Nat)) (st:List aT) (E:Nat→List Nat):Prop where
 kok:Xqd ko (iU 25)=true
 fst:∀ k,k<st.length→∃ x rx,(iG st k).1=x::rx∧Xqc (bu ko vo (cA x)) (ω 0)=nI k
 good:∀ z ∈ st,eP z
 len:st.length<2^38
 Ul:U.length=st.length
 Uk:∀ k,k<st.length→(U.getD k []).Nodup∧∀ j,j ∈ U.getD k []↔j<st.length∧k ∈ E j
 nd:∀ j,j<st.length→(E j).Nodup
 self:∀ k,k<st.length→k ∉ E k
 ac:∀ k,k<st.length→∀ j ∈ E k,j<k
theorem Hz {st:List aT} {k:Nat} (h:k<st.length):iG st k ∈ st:=by
 unfold iG;rw [γ,δ h];exact Xxq h
theorem Ov {U:List (List Nat)} {w:Nat} (h:w<U.length):(κ ((θ (w:Int))*1) (vT U))= [DC (U.getD w [])]++vT (U.drop (w+1)):=by
 rw [Xzo,Xw1];unfold vT;rw [← Xwf,Xxn h,γ,δ h];rfl
section
variable {ko vo:List AV} {U:List (List Nat)} {st:List aT} {E:Nat→List Nat}
theorem Ou (H:ML ko vo U st E) {D needs:List Nat} {heap:List aT} {OT:List AV} (K:Il jY dS (iG st) E st.length D needs heap) (a:0<heap.length) (r:QS heap OT) (q:Nat) (O:aT→List AV):
  ∃ k OT1 needs' heap' OT2,k<st.length∧k ∉ D∧Il jY dS (iG st) E st.length (D++ [k]) needs' heap'∧QS heap' OT2∧ae prog ap 52 [.ifc 99 (.ptr 0 0 0)] (qH heap.length OT) (.ret (.ifc 66 (.agg (sC (iG st k))))) (qH (heap.length - 1) OT1)∧
   LB 184 14 f19 (Hr ko vo (nL needs) U st q (O (iG st k)) (heap.length - 1) OT1 (U.getD k []) 0) .normal (xC ko vo (nL needs') U st q (O (iG st k)) heap'.length OT2):=by
 obtain ⟨k,k1,k2,k3,k4⟩:=aaP rX H.nd H.self H.Uk K a;obtain ⟨R,u,g,n⟩:=K.rd;have hgood:∀ z ∈ heap,eP z:=fun z f=>by
  obtain ⟨i,b,rfl⟩:=List.mem_map.1 (g.mem_iff.1 f);exact H.good _ (Hz ((n i).1 b).1)
 have m:heap.length≤st.length:=by
  rw [g.length_eq,Xxa];exact lV u fun i b=>((n i).1 b).1
 have c:=H.len;obtain ⟨OT1,v,o⟩:=Wh r hgood a (by omega);obtain ⟨t,B,G,Q⟩:=TM rX dS K.hp a;have hgood2:∀ z ∈ (pX jY dS heap).2,eP z:=fun z f=>hgood z (B.mem_iff.1 (Θ _ f))
 obtain ⟨l,h⟩:=H.Uk k k1;have F:(U.getD k []).length≤st.length:=lV l fun i b=>((h i).1 b).1
 have e:(pX jY dS heap).2.length=heap.length - 1:=by omega
 have y:∀ j ∈ U.getD k [],j<st.length∧0<needs.getD j 0∧needs.getD j 0<2^60:=fun j A=>by
  obtain ⟨d,C⟩:=(h j).1 A;have P:needs.getD j 0=jh E D j:=by rw [γ,K.nv j d];rfl
  have S:=Jh (H.nd j d) C k2;have M:jh E D j≤(E j).length:=Xqp _ _;have I:(E j).length≤j:=lV (H.nd j d) (H.ac j d);refine ⟨d, ?_, ?_⟩<;>omega
 obtain ⟨OT2,x,p⟩:=Lh ko vo U st q (O (iG st k)) (U.getD k []) H.good c (by omega) (U.getD k []) [] needs (pX jY dS heap).2 OT1 rfl l y K.nl t hgood2 v (by omega);rw [e,Xqf] at p;rw [k3] at o;exact ⟨k,OT1,_,_,OT2,k1,k2,k4,x,o,aN.blk (id:=14) (e':= .normal) p (by simp) rfl (aH.refl _) (aH.refl _)⟩
theorem SL (H:ML ko vo U st E):∀ (f:Nat) (D needs:List Nat) (heap:List aT) (OT O:List AV),Il jY dS (iG st) E st.length D needs heap→st.length≤D.length+f→QS heap OT→O.take (D.length*2)=sL (D.map (iG st))→
  ∃ π needs2 heap2 OT2 O2,FT (fun i j=>jY (iG st i) (iG st j)) E st.length π∧π.length=st.length∧O2.take (π.length*2)=sL (π.map (iG st))∧ace (xC ko vo (nL needs) U st D.length O heap.length OT) (xC ko vo (nL needs2) U st π.length O2 heap2 OT2)
 | f,D,needs,heap,OT,O,K,hf,hq,hO=>by
  by_cases hne:heap.length=0
  ·have d:=Yd H.ac K hne;have v:D.length=st.length:=yG K.gr.nd fun i=> ⟨K.gr.lt_n i,d i⟩
   refine ⟨D,needs,heap.length,OT,O,K.gr,v,hO,fun nt g=> .done (ajP g ko vo _ U st _ O _ OT (E5 _ _) ?_)⟩;rw [hne];rfl
  ·have b:0<heap.length:=by omega
   cases f with
   | zero=>
    exfalso;have A:D.length≤st.length:=lV K.gr.nd K.gr.lt_n;obtain ⟨R,P,t,B⟩:=K.rd;have I:0<R.length:=by
     rw [← Xxa (f:=iG st),← t.length_eq];exact b
    obtain ⟨i,q⟩:=List.exists_mem_of_length_pos I;obtain ⟨i1,i2,_⟩:=(B i).1 q;have:(i::D).length≤st.length:=lV (List.nodup_cons.2 ⟨i2,K.gr.nd⟩) fun j h=>by
     rcases List.mem_cons.1 h with e|h
     ·exact e ▸ i1
     ·exact K.gr.lt_n j h
    rw [τ] at this;omega
   | succ f=>
    obtain ⟨k,OT1,needs',heap',OT2,k1,k2,k3,k4,k5,k6⟩:=Ou H K b hq (D.length+1) (fun a=>Xqk (D.length*2) O++sC a);have c:(D++ [k]).length=D.length+1:=by simp
    have l:(Xqk (D.length*2) O++sC (iG st k)).take ((D++ [k]).length*2)=sL ((D++ [k]).map (iG st)):=by
     rw [hO,Xxp];have e:sL (D.map (iG st))++sC (iG st k)=sL (D.map (iG st)++ [k].map (iG st)):=by simp [sL]
     rw [e];refine Xqr ?_;rw [vU];simp
    obtain ⟨π,r,F,OT3,O2,y,M,u,o⟩:=SL H f (D++ [k]) needs' heap' OT2 _ k3 (by rw [c];omega) k4 l;rw [c] at o;refine ⟨π,r,F,OT3,O2,y,M,u,fun nt g=> .next ?_ (o nt g)⟩;obtain ⟨x,C,n,z⟩:=H.fst k k1;have G:D.length≤st.length:=lV K.gr.nd K.gr.lt_n;have p:=H.len;have m:D.length*2≤O.length:=by
     have:=congrArg Xqb hO;rw [vU,List.length_take,Xxa] at this;omega
    exact ajO g ko vo (nL needs) U st D.length O heap.length OT (iG st k) x C k (heap.length - 1) OT1 (U.getD k []) (vT (U.drop (k+1))) (nL needs') (D.length+1) _ heap'.length OT2 H.kok (E5 _ _) (kl b) k5 (by rw [n];rfl) (by rw [n];simp) z k1 (Ov (by rw [H.Ul];exact k1)) (ξ (by omega)) (ξ m) k6
theorem Wx (H:ML ko vo U st E) (needs:List Nat) (heap:List aT) (OT:List AV) (K:Il jY dS (iG st) E st.length [] needs heap) (f:QS heap OT) (a:0<heap.length):
  ∃ π needs2 heap2 OT2 O2,FT (fun i j=>jY (iG st i) (iG st j)) E st.length π∧π.length=st.length∧O2.take (π.length*2)=sL (π.map (iG st))∧ace (abl ko vo (nL needs) U st heap.length OT) (xC ko vo (nL needs2) U st π.length O2 heap2 OT2):=by
 obtain ⟨k,OT1,needs',heap',OT2,k1,k2,k3,k4,k5,k6⟩:=Ou H K a f 1 sC;have b:(sC (iG st k)).take (([]++ [k]:List Nat).length*2)=sL (([]++ [k]).map (iG st)):=rfl;obtain ⟨π,g,m,OT3,O2,n,p,h,e⟩:=SL H st.length ([]++ [k]) needs' heap' OT2 _ k3 (by omega) k4 b;refine ⟨π,g,m,OT3,O2,n,p,h,fun nt c=> .next ?_ (e nt c)⟩;obtain ⟨x,l,d,o⟩:=H.fst k k1;exact ajN c ko vo (nL needs) U st heap.length OT (iG st k) x l k (heap.length - 1) OT1 (U.getD k []) (vT (U.drop (k+1))) (nL needs') 1 _ heap'.length OT2 H.kok (E5 _ _) (kl a) k5 (by rw [d];rfl) (by rw [d];simp) o k1 (Ov (by rw [H.Ul];exact k1)) k6
end
theorem ajX {nt:Nat} (d:184≤nt) (L:Lw) (a b c:Bool) (s:Int):ag prog ap [] nt (b_ [0] (af f19)) (dZ .dead [.agg [.sl L.fx L.fn a,.sl L.sx L.sn b,.sl (f_ L.ps) L.ps.length c],ω s] []) .normal ⟨[(1,ω s),(2,.ptr 0 0 0)],[(0,⟨[.sl L.fx L.fn a,.sl L.sx L.sn b,.sl (f_ L.ps) L.ps.length c],0,false,0,0,true⟩)],.dead,[]⟩:=by
 exact pN 19 [] 0 0 .nil (.nil) d
theorem ajY {nt:Nat} (f:184≤nt) (L:Lw) (a b c:Bool) (s:Int) (uk d:List AV) (e:ae prog ap 47 [.agg [.sl L.fx L.fn a,.sl L.sx L.sn b,.sl (f_ L.ps) L.ps.length c],ω s] [] (.ret (.mr 0 0)) [⟨[.agg uk,.agg d],0,false,0,4611686018427387904,true⟩]):ag prog ap [] nt (b_ [1,0] (af f19)) ⟨[(1,ω s),(2,.ptr 0 0 0)],[(0,⟨[.sl L.fx L.fn a,.sl L.sx L.sn b,.sl (f_ L.ps) L.ps.length c],0,false,0,0,true⟩)],.dead,[]⟩ .normal (ZO s [.sl L.fx L.fn a,.sl L.sx L.sn b,.sl (f_ L.ps) L.ps.length c] [.agg uk,.agg d]):=by
 exact pN 19 [] 0 0 (.n 3 .nil) (.c e .nil) f
theorem ajZ {nt:Nat} (g:184≤nt) (L:Lw) (a b c:Bool) (s:Int) (uk d:List AV) (cs:List Cl) (st:List aT) (e:CO 49 [.agg [.sl L.fx L.fn a,.sl L.sx L.sn b,.sl (f_ L.ps) L.ps.length c],ω s] (.ret (.sl (cL cs) cs.length false))) (f:ae prog ap 48 [.mr 0 0,.sl (cL cs) cs.length false] [⟨[.agg uk,.agg d],0,false,0,4611686018427387904,true⟩] (.ret (.sl (sL st) st.length false)) [⟨[.agg uk,.agg d],0,false,0,4611686018427387904,true⟩]):ag prog ap [] nt (b_ [1,1,0] (af f19)) (ZO s [.sl L.fx L.fn a,.sl L.sx L.sn b,.sl (f_ L.ps) L.ps.length c] [.agg uk,.agg d]) .normal ⟨[(5,.mr 0 0),(6,.sl (sL st) st.length false)],[(0,⟨[.agg uk,.agg d],0,false,0,4611686018427387904,true⟩)],.dead,[]⟩:=by
 exact pN 19 [] 0 0 (.n 3 .nil) (.c f (.c e .nil)) g
theorem aj0 {nt:Nat} (b:184≤nt) (uk a:List AV) (st:List aT):ag prog ap [] nt (b_ [1,1,1,0] (af f19)) ⟨[(5,.mr 0 0),(6,.sl (sL st) st.length false)],[(0,⟨[.agg uk,.agg a],0,false,0,4611686018427387904,true⟩)],.dead,[]⟩ .normal (UZ (.sl (sL st) st.length false) [.agg uk,.agg a] [.agg [],.agg []]):=by
 exact pN 19 [] 0 0 .nil (.nil) b
theorem aj1 {nt:Nat} (d:184≤nt) (uk a c b:List AV) (st:List aT) (e:LB 184 0 f19 (Ym uk a [] [] st 0) .normal (oeS uk a c b st)):ag prog ap [] nt (b_ [1,1,1,1,0] (af f19)) (UZ (.sl (sL st) st.length false) [.agg uk,.agg a] [.agg [],.agg []]) .normal (oeS uk a c b st):=by
 exact pN 19 [0] 0 0 .nil (.k [5,6,7,38,39,40] e .nil) d
theorem aj2 {nt:Nat} (g:184≤nt) (uk h b a c WM:List AV) (U:List (List Nat)) (st:List aT) (n q f:Nat) (OT O OT2:List AV) (d:LB 184 10 f19 (Uc b a c U st 0) .normal (Xc b a c U st n OT)) (e:LB 184 12 f19 (abl b a c U st n OT) .normal (xC b a WM U st q O f OT2)):ag prog ap [] nt (b_ [1,1,1,1,1,1,1] (af f19)) ⟨[(6,.sl (sL st) st.length false),(7,.mr 1 0),(12,.ref 2 0 0 st.length),(13,.sl (vT U) st.length false)],GV uk h b a c,.dead,[]⟩ .ret ⟨[(4,.ref 0 0 0 q)],[(0,⟨O,0,false,0,2,true⟩)],.dead,[]⟩:=by
 exact pN 19 [10,12] 0 0 .nil (.k [6,7,12,13,22,25] e (.k [6,7,12,13,22,120,121,122] d .nil)) g
theorem aaj:af f19= .seq (b_ [0] (af f19)) (.seq (b_ [1,0] (af f19)) (.seq (b_ [1,1,0] (af f19)) (.seq (b_ [1,1,1,0] (af f19)) (.seq (b_ [1,1,1,1,0] (af f19)) (.seq (dI 13 (af f19)) (.seq (.seq (dI 14 (af f19)) (.block 4 (.loop (ah 4 (af f19))))) (b_ [1,1,1,1,1,1,1] (af f19)))))))):=by kernel_rfl
theorem MF (L:Lw) (a b c:Bool) (s:Int) (O:List AV) (q:Nat) (h:∀ nt,184≤nt→ag prog ap [] nt (af f19) (dZ .dead [.agg [.sl L.fx L.fn a,.sl L.sx L.sn b,.sl (f_ L.ps) L.ps.length c],ω s] []) .ret ⟨[(4,.ref 0 0 0 q)],[(0,⟨O,0,false,0,2,true⟩)],.dead,[]⟩):CO 19 [.agg [.sl L.fx L.fn a,.sl L.sx L.sn b,.sl (f_ L.ps) L.ps.length c],ω s] (.ret (.own (O.take (q*2)) q 2)):=
 jO good 0 (F:=⟨f19,[0,1,2,4,5,6,7,8,9,11,12,13,14,15,16,18,20,21,22,23,24,25,26,28,38,39,40,41,46,47,48,49,63,64,65,66,74,75,76,77,82,83,84,85,94,120,121,122,123,131,140,157,158,159,160,173],true⟩) rfl rfl h rfl (Xqn _) rfl
theorem KT:ae prog ap 48 [.mr 0 0,.sl [] 0 false] [⟨[.agg [],.agg []],0,false,0,4611686018427387904,true⟩] (.ret (.nilS)) [⟨[.agg [],.agg []],0,false,0,4611686018427387904,true⟩]:=by
 exact pK [] 1 0 (.n 6 .nil) (.nil)
theorem Qm (L:Lw) (a b c:Bool) (s:Int) (e:ae prog ap 47 [.agg [.sl L.fx L.fn a,.sl L.sx L.sn b,.sl (f_ L.ps) L.ps.length c],ω s] [] (.ret (.mr 0 0)) [⟨[.agg [],.agg []],0,false,0,4611686018427387904,true⟩]) (d:CO 49 [.agg [.sl L.fx L.fn a,.sl L.sx L.sn b,.sl (f_ L.ps) L.ps.length c],ω s] (.ret (.sl [] 0 false))):CO 19 [.agg [.sl L.fx L.fn a,.sl L.sx L.sn b,.sl (f_ L.ps) L.ps.length c],ω s] (.ret (.nilS)):=by
 have f:=KT;have g:=ad8;exact pK [] 4 0 (.n 16 .nil) (.c g (.c f (.c d (.c e .nil))))
structure xR (V:List Cl) (w:Cl→List Cl) (out:List aT):Prop where
 nd:(out.flatMap (·.1)).Nodup
 all:∀ x,x ∈ V↔∃ z ∈ out,x ∈ z.1
 ne:∀ z ∈ out,z.1 ≠ []
 scc:∀ z ∈ out,∀ x ∈ z.1,∀ y,y ∈ z.1↔(Rt w x y∧Rt w y x)
 circ:∀ z ∈ out,z.2=true↔∃ x ∈ z.1,∃ y ∈ z.1,y ∈ w x
 srt:∀ z ∈ out,z.1.Pairwise fun x y=>Am x y=true
 rdy:∀ (i:Nat) (z:aT),out[i]? =some z→∀ x ∈ z.1,∀ y ∈ w x,y ∈ z.1∨∃ (j:Nat) (z':aT),j<i∧out[j]? =some z'∧y ∈ z'.1
 lst:∀ (i j:Nat) (z z':aT),i<j→out[i]? =some z→out[j]? =some z'→(∀ x ∈ z'.1,∀ y ∈ w x,y ∈ z'.1∨∃ (k:Nat) (u:aT),k<i∧out[k]? =some u∧y ∈ u.1)→jY z' z=false
theorem FN {w:Cl→List Cl} {b:List Cl→List Cl} {P:List Cl→Prop} (g:∀ l,P (b l)):∀ (f:Nat) (c:Cl) (s:TC),(∀ z ∈ s.out,P z.1)→∀ z ∈ (aK w b f c s).out,P z.1
 |0,c,s,h=>h
 | f +1,c,s,h=>by
  have loop:∀ (l:List Cl) (s:TC),(∀ z ∈ s.out,P z.1)→∀ z ∈ (l.foldl (bM (aK w b f) c) s).out,P z.1:=by
   intro l
   induction l with
   |nil=>intro s h;exact h
   | cons d l ih=>
    intro s h;rw [Xqw];refine ih _ ?_;unfold bM;split
    ·split
     ·exact h
     ·exact h
    ·exact FN g f d s h
  have e:=loop (w c) (bK c s) h;intro z a;unfold aK dL at a;split at a
  ·rcases List.mem_append.1 a with a|a
   ·exact e z a
   ·rw [χ] at a;rw [a];exact g _
  ·exact e z a
theorem MN {w:Cl→List Cl} {a:List Cl→List Cl} {P:List Cl→Prop} (b:∀ l,P (a l)) (f:Nat):∀ (l:List Cl) (s:TC),(∀ z ∈ s.out,P z.1)→∀ z ∈ (l.foldl (mM w a f) s).out,P z.1
 | [],s,h=>h
 |c::l,s,h=>by
  rw [Xqw];refine MN b f l _ ?_;show ∀ z ∈ (if c ∈ s.ord then s else aK w a f c s).out,P z.1;split
  ·exact h
  ·exact FN b f c s h
theorem UO (l:List Cl):(vV l).Pairwise fun x y=>Am y x=false:=by
 have:=List.pairwise_mergeSort (le:=fun x y:Cl=> !Am y x) (fun a b c d e=>by
  simp only [Xqe] at d e ⊢;rw [kX] at*
  omega) (fun a b=>by
  rw [Bool.or_eq_true];simp only [Xqe];rw [kX,kX];omega) l
 exact this.imp fun h=>by simpa using h
theorem Md {l:List Cl} (h:l.Pairwise fun x y=>Am y x=false) (a:l.Nodup):l.Pairwise fun x y=>Am x y=true:=by
 refine (h.and a).imp fun ⟨h1,h2⟩=> ?_
 rw [kX] at h1;rw [Ap];refine Xjn fun b=>h2 (Prod.ext ?_ ?_)<;>omega
def G6 (st:List aT) (x:Cl):Nat:=(((uO st 0).find? fun p=>p.1==x).map (·.2)).getD 0
theorem Nr (x:Cl):∀ K:List (Cl × Nat),bu (kO K) (vO K) (cA x)=(K.find? fun p=>p.1==x).map fun p=>nI p.2
 | []=>rfl
 | (y,k)::K=>by
  have e:bu (kO ((y,k)::K)) (vO ((y,k)::K)) (cA x)=match uG (cA x) (cA y) with|true=>some (nI k)|false=>bu (kO K) (vO K) (cA x):=rfl
  rw [e];by_cases h:x=y
  ·rw [(jP x y).2 h,Xwr (by simp [h])];rfl
  ·have a:uG (cA x) (cA y)=false:=by rw [← Bool.not_eq_true,jP];exact h
   rw [a,Xws (by simpa using fun e=>h e.symm)];exact Nr x K
theorem TB (st:List aT) (x:Cl):Xqc (bu (kO (uO st 0)) (vO (uO st 0)) (cA x)) (ω 0)=nI (G6 st x):=by
 rw [Nr];unfold G6;cases (uO st 0).find? fun p=>p.1==x with
 |none=>rfl
 |some p=>rfl
theorem IQ {l:List Cl} {b:Nat} {x:Cl}:((l.map fun c=>(c,b)).find? fun p=>p.1==x)=if x ∈ l then some (x,b) else none:=by
 induction l with
 |nil=>rfl
 | cons y l ih=>
  rw [Γ];by_cases h:y=x
  ·subst h;rw [Xwr (by simp),if_pos (by simp)]
  ·rw [Xws (by simpa using h),ih];have a:x ≠ y:=fun e=>h e.symm
   have:(x ∈ y::l)↔x ∈ l:=by simp [a]
   simp only [this]
theorem Ob:∀ (st:List aT) (b k:Nat) (x:Cl),(st.flatMap (·.1)).Nodup→k<st.length→x ∈ (iG st k).1→((uO st b).find? fun p=>p.1==x)=some (x,b+k)
 | [],b,k,x,_,hk,_=>by simp at hk
 |z::r,b,0,x,hn,hk,a=>by
  have a:x ∈ z.1:=a;unfold uO;rw [Xvg,IQ,if_pos a];rfl
 |z::r,b,k+1,x,hn,hk,a=>by
  have a:x ∈ (iG r k).1:=a;rw [Xqa,Xq6] at hn;have c:k<r.length:=by simpa using hk
  have d:x ∉ z.1:=fun h=>hn.2.2 x h x (List.mem_flatMap.2 ⟨_,Hz c,a⟩) rfl
  unfold uO;rw [Xvg,IQ,if_neg d,Ob r (b+1) k x hn.2.1 c a,Xx9,Xxk 1];rfl
theorem Oa {st:List aT} {k:Nat} {x:Cl} (c:(st.flatMap (·.1)).Nodup) (b:k<st.length) (a:x ∈ (iG st k).1):G6 st x=k:=by
 unfold G6;rw [Ob st 0 k x c b a];simp
theorem WE {st:List aT} {z:aT} (h:z ∈ st):∃ k,k<st.length∧iG st k=z:=by
 obtain ⟨k,a,e⟩:=List.getElem_of_mem h;exact ⟨k,a,by unfold iG;rw [γ,δ a];exact e⟩
theorem abE {st:List aT} {k:Nat} {z:aT} (h:st[k]? =some z):k<st.length∧iG st k=z:=by
 obtain ⟨a,e⟩:=List.getElem?_eq_some_iff.1 h;exact ⟨a,by unfold iG;rw [γ,h];rfl⟩
theorem Qj (st:List aT):(Ψ st.length).map (iG st)=st:=by
 refine List.ext_getElem? fun k=> ?_
 rw [φ];by_cases hk:k<st.length
 ·rw [List.getElem?_range hk,δ hk];unfold iG;rw [Xqu,γ,δ hk];rfl
 ·rw [Xxl (by simpa using hk),Xxl (by omega)];rfl
section
variable {V:List Cl} {w:Cl→List Cl}
structure QM (V:List Cl) (w:Cl→List Cl) (st:List aT):Prop where
 nd:(st.flatMap (·.1)).Nodup
 all:∀ x,x ∈ V↔∃ z ∈ st,x ∈ z.1
 ne:∀ z ∈ st,z.1 ≠ []
 scc:∀ z ∈ st,∀ x ∈ z.1,∀ y,y ∈ z.1↔(Rt w x y∧Rt w y x)
 circ:∀ z ∈ st,z.2=true↔∃ x ∈ z.1,∃ y ∈ z.1,y ∈ w x
 srt:∀ z ∈ st,z.1.Pairwise fun x y=>Am x y=true
 top:∀ k,k<st.length→∀ x ∈ (iG st k).1,∀ y ∈ w x,G6 st y≤k∧y ∈ (iG st (G6 st y)).1
theorem QM.nee {st:List aT} (H:QM V w st) {k j:Nat} (a:k<st.length):j ∈ qG (G6 st) w st k↔j ≠ k∧∃ x ∈ (iG st k).1,∃ y ∈ w x,G6 st y=j:=by
 unfold Tryz.qG;rw [rZ];simp only [χ,List.mem_flatMap];constructor
 ·rintro ⟨h1,y,⟨x,h2,h3⟩,h4⟩
  exact ⟨h1,x,h2,y,h3,h4⟩
 ·rintro ⟨h1,x,h2,y,h3,h4⟩
  exact ⟨h1,y,⟨x,h2,h3⟩,h4⟩
theorem QM.order {st:List aT} (H:QM V w st) {π:List Nat} (f:FT (fun i j=>jY (iG st i) (iG st j)) (qG (G6 st) w st) st.length π) (Y:π.length=st.length):xR V w (π.map (iG st)):=by
 have d:∀ k,k ∈ π↔k<st.length:=by
  have hp:π.Perm (Ψ st.length):=by
   have hs:∀ k ∈ π,k ∈ Ψ st.length:=fun k g=>List.mem_range.2 (f.lt_n k g)
   refine (Xx3 f.nd Xxr).2 fun k=> ⟨hs k,fun g=> ?_⟩
   refine Xjn fun Q=> ?_
   have:=lV (n:=st.length) (l:=k::π) (List.nodup_cons.2 ⟨Q,f.nd⟩) (fun i m=>by
    rcases List.mem_cons.1 m with e|m
    ·exact e ▸ List.mem_range.1 g
    ·exact f.lt_n i m)
   rw [τ] at this;omega
  intro k;rw [hp.mem_iff,Xju]
 have hperm:(π.map (iG st)).Perm st:=by
  have b:=((Xx3 f.nd Xxr).2 fun k=>by rw [d,Xju]).map (iG st);rwa [Qj] at b
 have at_:∀ (i:Nat) (z:aT),(π.map (iG st))[i]? =some z→∃ k,π[i]? =some k∧iG st k=z∧k<st.length:=fun i z h=>by
  rw [φ] at h;cases g:π[i]? with
  |none=>rw [g] at h;cases h
  |some k=>
   rw [g] at h;exact ⟨k,rfl,Option.some.inj h,(d k).1 (ο g)⟩
 have before:∀ {i j:Nat},j ∈ π.take i→∃ q,q<i∧π[q]? =some j:=fun {i j} h=>by
  obtain ⟨q,r⟩:=List.getElem?_of_mem h;rw [List.getElem?_take] at r;split at r
  ·exact ⟨q,by omega,r⟩
  ·cases r
 refine ⟨(hperm.flatMap_right (·.1)).nodup_iff.2 H.nd,fun x=> ?_,fun z p=>H.ne z (hperm.mem_iff.1 p),fun z p=>H.scc z (hperm.mem_iff.1 p),fun z p=>H.circ z (hperm.mem_iff.1 p),fun z p=>H.srt z (hperm.mem_iff.1 p),fun i z m x t y v=> ?_,fun i j z S T m D P=> ?_⟩
 ·rw [H.all];constructor
  ·rintro ⟨z,b,h2⟩;exact ⟨z,hperm.mem_iff.2 b,h2⟩
  ·rintro ⟨z,b,h2⟩;exact ⟨z,hperm.mem_iff.1 b,h2⟩
 ·obtain ⟨k,b,rfl,B⟩:=at_ i z m;obtain ⟨X,C⟩:=H.top k B x t y v;by_cases e:G6 st y=k
  ·rw [e] at C;exact .inl C
  ·right;have D:G6 st y ∈ qG (G6 st) w st k:=(H.nee B).2 ⟨e,x,t,y,v,rfl⟩;obtain ⟨q,c,a⟩:=before (f.rdy i k b _ D);exact ⟨q,_,c,by rw [φ,a];rfl,C⟩
 ·obtain ⟨k,b,rfl,B⟩:=at_ i z m;obtain ⟨K,A,rfl,o⟩:=at_ j S D;refine f.lst i k b K o (fun hm=> ?_) (fun e R=> ?_)
  ·obtain ⟨q,c,a⟩:=before hm;have I:q<π.length:=(List.getElem?_eq_some_iff.1 a).1;have:q=j:=(List.getElem?_inj I f.nd).1 (a.trans A.symm);omega
  ·obtain ⟨F,x,t,y,v,rfl⟩:=(H.nee o).1 R;rcases P x t y v with h|⟨q,u,c,a,G⟩
   ·exact absurd (Oa H.nd o h) F
   ·obtain ⟨k2,O,rfl,M⟩:=at_ q u a;rw [Oa H.nd M G];refine ο (i:=q) ?_;rw [List.getElem?_take_of_lt c];exact O
end
theorem Yk {S:au}:∀ (st:List aT) (vs:List Value),a_ S (oL st) vs→a_ S (sL st) vs
 | [],vs,h=>h
 | z::st,vs,h=>by
  have a:oL (z::st)= .bool z.2::.sl (cL z.1) z.1.length true::oL st:=rfl;have b:sL (z::st)= .bool z.2::.sl (cL z.1) z.1.length false::sL st:=rfl;rw [a] at h;rw [b]
  match vs,h with
  | [],h=>simp [a_] at h
  | [_],h=>simp [a_] at h
  |u::v::vs,h=>
   simp only [a_] at h ⊢;refine ⟨h.1, ?_,Yk st vs h.2.2⟩;have:=bF.sl (cL z.1) z.1.length true (fun _=>none) (fun _=>(0,0)) S v;simp only [VR] at this;exact this h.2.1
theorem KP (st:List aT) (b:Bool):bF (.sl (oL st) st.length b) (.sl (sL st) st.length false):=by
 intro g m S v f;simp only [VR,PR] at f ⊢;obtain ⟨a,cap,h,l,n⟩:=f;refine ⟨a,cap,h,l, ?_⟩;rcases n with ⟨_,e,d,c⟩|⟨k,o,vs,e,d,c⟩
 ·have:st= []:=List.eq_nil_of_length_eq_zero d;subst this;exact .inl ⟨fun _=>by simp,rfl,rfl,c⟩
 ·exact .inr ⟨k,o,vs,e,Yk st vs d,c⟩
theorem XK {V:List Cl} {w:Cl→List Cl} (a:List Cl→List Cl) (b:∀ x ∈ V,∀ y ∈ w x,y ∈ V) (f:Nat):∀ (l:List Cl) (s:TC),(∀ x ∈ l,x ∈ V)→(∀ x ∈ s.ord,x ∈ V)→∀ x ∈ (l.foldl (mM w a f) s).ord,x ∈ V
 | [],s,_,h=>h
 |c::l,s,hl,h=>by
  rw [Xqw];refine XK a b f l _ (fun x d=>hl x (Θ _ d)) ?_;show ∀ x ∈ (if c ∈ s.ord then s else aK w a f c s).ord,x ∈ V;split
  ·exact h
  ·exact nS a b f s c (hl c (by simp)) h
theorem Z8 (w:Cl→List Cl) (a:List Cl→List Cl) (f:Nat) (l:List Cl) (s:TC):FY w a f l s=l.foldl (mM w a f) s:=by
 unfold FY;congr 1;funext s c;by_cases h:c ∈ s.ord
 ·rw [if_pos h];show _=if c ∈ s.ord then s else aK w a f c s
  rw [if_pos h]
 ·rw [if_neg h];show _=if c ∈ s.ord then s else aK w a f c s
  rw [if_neg h]
theorem abb {V:List Cl} {w:Cl→List Cl} (b:∀ x ∈ V,∀ y ∈ w x,y ∈ V) {f:Nat} (p:V.length≤f):QM V w (V.foldl (mM w vV f) aI).out:=by
 obtain ⟨i1,i2,n⟩:=MM yQ b p V aI (fun x a=>a) (yS w);rw [Z8] at i1 n;have t:=XK vV b f V aI (fun x a=>a) (by simp [aI]);have g:=MN (w:=w) (P:=fun l=>l.Pairwise fun x y=>Am y x=false) UO f V aI (by simp [aI]);generalize V.foldl (mM w vV f) aI=T at*
 have d:∀ x,x ∉ T.stack:=fun x a=>by
  obtain ⟨y,h,_⟩:=i1.up x a;cases h
 have e:∀ z ∈ T.out,z.1.Nodup:=fun z c=>by
  refine List.Nodup.sublist ?_ i1.ond;rw [Xwn];exact Xj3 (List.mem_map.2 ⟨z,c,rfl⟩)
 refine ⟨i1.ond,fun x=> ?_,i1.ne,i1.scc,i1.circ,fun z c=>Md (g z c) (e z c),fun k o x a y h=> ?_⟩
 ·rw [← i1.outs x];exact ⟨fun a=> ⟨n x a,d x⟩,fun a=>t x a.1⟩
 ·obtain ⟨j,D,u,v,m⟩:=i1.top k (iG T.out k) (by unfold iG;rw [γ,δ o];rfl) x a y h;obtain ⟨q,r⟩:=abE v;rw [← r] at m;rw [Oa i1.ond q m];exact ⟨u,m⟩
theorem Nu {α β:Type} {f:α→List β} {b:Nat}:∀ l:List α,(∀ x ∈ l,(f x).length≤b)→(l.flatMap f).length≤l.length*b
 | [],_=>by simp
 |x::l,h=>by
  rw [Xqa,η,τ,Nat.succ_mul];have c:=h x (by simp);have d:=Nu l fun y a=>h y (Θ _ a)
  omega
theorem Gv {α β:Type} {f:α→List β}:∀ l:List α,(∀ x ∈ l,f x ≠ [])→l.length≤(l.flatMap f).length
 | [],_=>by simp
 |x::l,h=>by
  rw [Xqa,η,τ];have b:=List.length_pos_iff.2 (h x (by simp));have c:=Gv l fun y a=>h y (Θ _ a)
  omega
def abd (l:List aT):AV:=match l with| []=> .nilS|z::r=> .own (sL (z::r)) (z::r).length 2
theorem U1 (L:Lw) (a b c:Bool) (s:Int) (hL:vZ L) (hl:L.ps.length<2^30):∃ out,xR (ak s L.ps.length) (fC L s) out∧CO 19 [.agg (L.c a b c),ω s] (.ret (abd out)):=by
 have A:=OG L a b c s hL (by omega);have D:=Iz L a b c s (by omega);have W:=abO L s hL hl;have hcl2:=fE s L.ps.length;have X:∀ x ∈ ak s L.ps.length,gz x:=fun x C=>J7 (gq.1 C)
 have M:ak s L.ps.length= []→dw L s (ak s L.ps.length)= []:=fun e=>by rw [e];rfl
 generalize hV:ak s L.ps.length=V at*
 have O:=lu hL s;generalize fC L s=w at*
 cases V with
 |nil=>
  refine ⟨[],⟨by simp,fun x=>by simp,fun z d=>(by cases d),fun z d=>(by cases d),fun z d=>(by cases d),fun z d=>(by cases d),fun i z h=>by simp at h,fun i j z z' _ h=>by simp at h⟩, ?_⟩;rw [M rfl] at A;exact Qm L a b c s A D
 | cons x0 r=>
  have hf:(x0::r).length≤(x0::r).length+1:=Nat.le_succ _;have g:=abb W.cl hf;have hg:=PO W hf x0 r false (fun x C=>C) (by omega);have G:=hg.thaw (by simp);generalize hst:((x0::r).foldl (mM w vV ((x0::r).length+1)) aI).out=st at*
  simp only [uQ,thaw,Xqr (Nat.le_of_eq (GZ st))] at G;have Y:=G.out (kK.ret rfl rfl (KP st true));generalize xP (dw L s (x0::r))=uv at*
  generalize (x0::r).map cA=uk at*
  have u:∀ z ∈ st,∀ y ∈ z.1,y ∈ x0::r:=fun z d y v=>(g.all y).2 ⟨z,d,v⟩
  have hfl:(st.flatMap (·.1)).length≤(x0::r).length:=xH g.nd fun y v=>by
   obtain ⟨z,F,S⟩:=List.mem_flatMap.1 v;exact u z F y S
  have hsl:st.length≤(st.flatMap fun x=>x.1).length:=Gv st g.ne;have hVl:(x0::r).length<2^31:=by omega
  have p:0<st.length:=by
   obtain ⟨z,d,_⟩:=(g.all x0).1 (by simp);exact List.length_pos_of_mem d
  have R:∀ z ∈ st,z.1.length≤(st.flatMap (·.1)).length:=fun z d=>by
   rw [Xwn];exact (Xj3 (List.mem_map.2 ⟨z,d,rfl⟩)).length_le
  have P:∀ z ∈ st,∀ y ∈ z.1,∀ x ∈ w y,G6 st x<st.length:=fun z d y v x C=>by
   obtain ⟨k,m,rfl⟩:=WE d;have:=(g.top k m y v x C).1;omega
  have I:(st.flatMap fun z=>z.1.flatMap w).length<2^40:=by
   have e:(st.flatMap fun z=>z.1.flatMap w)=(st.flatMap (·.1)).flatMap w:=by rw [List.flatMap_assoc]
   rw [e];have:=Nu (st.flatMap (·.1)) (f:=w) (b:=12) fun y _=>O y
   omega
  have Q:Xqd (kO (uO st 0)) (iU 25)=true:=dM _;have l0:=aN.blk (id:=0) (e':= .normal) (Oc uk uv st (by omega) g.nd (fun z d=>by have:=R z d;omega) st [] rfl) (by simp) rfl (aH.refl _) (aH.refl _);obtain ⟨c1,c2,c3,c4⟩:=Py (G6 st) w st P;have hB:∀ {nt:Nat},184≤nt→∀ {Z:Code} {e:aJ} {s':St},ag prog ap [] nt Z (Xd uk uv (kO (uO st 0)) (vO (uO st 0)) (fK (G6 st) w st 0 (A0 st.length)) st) e s'→_:=fun {nt} l {Z e s'} hZ=>Q3 Z9 l uk uv (kO (uO st 0)) (vO (uO st 0)) st (G6 st) w W.uk Q (fun z d y v=>W.us y (u z d y v)) (fun _ _ _ _ x _=>TB st x) P (fun z _ y _=>by have:=O y;omega) (fun z d=>by have:=R z d;omega) (by omega) I p hZ
  generalize fK (G6 st) w st 0 (A0 st.length)=B at*
  have hgood:∀ z ∈ st,eP z:=fun z d=>by
   cases q:z.1 with
   |nil=>exact absurd q (g.ne z d)
   |cons x t=>exact ⟨x,t,q,X x (u z d x (by rw [q];simp))⟩
  have H:ML (kO (uO st 0)) (vO (uO st 0)) B.U st (qG (G6 st) w st):=by
   refine ⟨Q,fun k m=> ?_,hgood,by omega,c3,fun k m=> ?_,fun j _=>vJ _ _ _,fun k _ h=> ?_,fun k m j hj=> ?_⟩
   ·obtain ⟨x,t,F,_⟩:=hgood _ (Hz m);refine ⟨x,t,F, ?_⟩;rw [TB,Oa g.nd m (by rw [F];simp)]
   ·rw [c4 k];refine ⟨List.nodup_range.filter _,fun j=> ?_⟩;rw [Xq7,Xju,decide_eq_true_eq]
   ·exact ((g.nee ‹_›).1 h).1 rfl
   ·obtain ⟨F,x,S,y,h3,h4⟩:=(g.nee m).1 hj;have:=(g.top k m x S y h3).1;omega
  have K:=ad6 (E:=qG (G6 st) w st) c1 c2;have n:0<(lX B.needs st 0 []).length:=by
   refine Nat.pos_of_ne_zero fun h0=> ?_
   have:=Yd H.ac K h0 0 p;cases this
  obtain ⟨OT,q1,q2⟩:=Yf (kO (uO st 0)) (vO (uO st 0)) B.U st B.needs c1 hgood (by omega) st [] rfl n;obtain ⟨π,n2,S,OT2,O2,g1,g2,g3,g4⟩:=Wx H B.needs _ OT K q1 n;have l10:=aN.blk (id:=10) (e':= .normal) q2 (by simp) rfl (aH.refl _) (aH.refl _);have T:=aN.blk (id:=12) (e':= .normal) g4 (by simp) rfl (aH.refl _) (aH.refl _);have hcall:=MF L a b c s O2 π.length fun nt l=>by
   rw [aaj];refine (ajX l L a b c s).seq ((ajY l L a b c s _ _ A).seq ((ajZ l L a b c s _ _ _ st D Y).seq ((aj0 l _ _ st).seq ((aj1 l _ _ _ _ st l0).seq (hB l ?_)))));exact aj2 l _ _ _ _ _ _ B.U st _ _ _ _ _ _ l10 T
  rw [g3] at hcall;have o:(π.map (iG st)).length=π.length:=Xxa _;refine ⟨π.map (iG st),g.order g1 g2, ?_⟩;rw [← o] at hcall;have hpl:0<(π.map (iG st)).length:=by rw [o,g2];exact p
  revert hcall hpl
  cases π.map (iG st) with
  |nil=>intro _ h;simp at h
  |cons z t=>intro h _;exact h
def Vq (L:Lw) (cc:Bool) (s:Int) (out:List aT) (i:Nat):St:=⟨[(5,.bool true),(6,.ptr 0 0 0),(7,ω s),(24,.sl (sL out) out.length false),(25,ω (out.length:Int)),(26,ω (i:Int))],[(0,⟨[.sl L.fx L.fn true,.sl L.sx L.sn true,.sl (f_ L.ps) L.ps.length cc],0,false,0,0,true⟩)],.dead,[]⟩
def ggE (L:Lw) (cc:Bool) (s:Int) (out:List aT):St:=⟨[(5,.bool true)],[],.dead,[]⟩
def XL (L:Lw) (cc:Bool) (s:Int) (out:List aT) (i:Nat) (z:aT) (j:Nat):St:=⟨[(5,.bool true),(6,.ptr 0 0 0),(7,ω s),(24,.sl (sL out) out.length false),(25,ω (out.length:Int)),(26,ω (i:Int)),(9,.ptr 1 0 0),(31,.sl (cL z.1) z.1.length false),(32,ω (z.1.length:Int)),(33,ω (j:Int))],[(0,⟨[.sl L.fx L.fn true,.sl L.sx L.sn true,.sl (f_ L.ps) L.ps.length cc],0,false,0,0,true⟩),(1,⟨[.bool z.2,.sl (cL z.1) z.1.length false],0,false,0,0,true⟩)],.dead,[]⟩
def XM (L:Lw) (cc:Bool) (s:Int) (out:List aT) (i:Nat) (z:aT) (j:Nat) (c:Cl) (R us:List Cl) (p:Nat × Bool):St:=⟨[(5,.bool true),(6,.ptr 0 0 0),(7,ω s),(24,.sl (sL out) out.length false),(25,ω (out.length:Int)),(26,ω (i:Int)),(9,.ptr 1 0 0),(31,.sl (cL z.1) z.1.length false),(32,ω (z.1.length:Int)),(33,ω (j:Int)),(11,.ptr 2 0 0),(12,.sl (cL R) R.length false),(13,.bool p.2),(45,.sl (cL us) us.length false),(46,ω (us.length:Int)),(47,ω (p.1:Int))],[(0,⟨[.sl L.fx L.fn true,.sl L.sx L.sn true,.sl (f_ L.ps) L.ps.length cc],0,false,0,0,true⟩),(1,⟨[.bool z.2,.sl (cL z.1) z.1.length false],0,false,0,0,true⟩),(2,⟨[ω c.1,ω c.2],0,false,0,0,true⟩)],.dead,[]⟩
def V6 (L:Lw) (cc:Bool) (s:Int) (out:List aT) (i:Nat) (z:aT) (j:Nat) (c:Cl) (R:List Cl) (u:Bool):St:=⟨[(5,.bool true),(6,.ptr 0 0 0),(7,ω s),(24,.sl (sL out) out.length false),(25,ω (out.length:Int)),(26,ω (i:Int)),(9,.ptr 1 0 0),(31,.sl (cL z.1) z.1.length false),(32,ω (z.1.length:Int)),(33,ω (j:Int)),(11,.ptr 2 0 0),(12,.sl (cL R) R.length false),(13,.bool u)],[(0,⟨[.sl L.fx L.fn true,.sl L.sx L.sn true,.sl (f_ L.ps) L.ps.length cc],0,false,0,0,true⟩),(1,⟨[.bool z.2,.sl (cL z.1) z.1.length false],0,false,0,0,true⟩),(2,⟨[ω c.1,ω c.2],0,false,0,0,true⟩)],.dead,[]⟩
def ggD (L:Lw) (cc:Bool) (s:Int) (out:List aT) (i:Nat) (z:aT) (j:Nat) (R:List Cl) (k:Nat):St:=⟨[(5,.bool true),(6,.ptr 0 0 0),(7,ω s),(24,.sl (sL out) out.length false),(25,ω (out.length:Int)),(26,ω (i:Int)),(9,.ptr 1 0 0),(31,.sl (cL z.1) z.1.length false),(32,ω (z.1.length:Int)),(33,ω (j:Int)),(12,.sl (cL R) R.length false),(69,.sl (cL z.1) z.1.length false),(70,ω (z.1.length:Int)),(71,ω (k:Int))],[(0,⟨[.sl L.fx L.fn true,.sl L.sx L.sn true,.sl (f_ L.ps) L.ps.length cc],0,false,0,0,true⟩),(1,⟨[.bool z.2,.sl (cL z.1) z.1.length false],0,false,0,0,true⟩)],.dead,[]⟩
theorem acU {nt:Nat} (l:83≤nt) (L:Lw) (g:Bool) (s:Int) (out:List aT) (i:Nat) (z:aT) (j:Nat) (c:Cl) (R us:List Cl) (p r:List Cl) (x:Cl) (d:us=p++x::r) (m:us.length<2^40):ag prog ap [] nt (ah 4 (af f8)) (XM L g s out i z j c R us (p.length,true)) .normal (XM L g s out i z j c R us (p.length+1,true)):=by
 have h:=bI (f:=cC) (n:=2) (fun _=>rfl) d;change κ _ (cL us)=cC x++cL r at h;have b:p.length<us.length:=jm d;have a:p.length<2^62:=by omega
 have e:(decide ((p.length:Int)<(us.length:Int)))=true:=kl b;clear d;generalize p.length=k at*
 exact pN 8 [] 2 3 (.k 5 e (.c (aQ e) .nil)) (.v 57 (.eq (wpS a)) (.v 49 (.ppt h) .nil)) l
theorem aax {nt:Nat} (d:83≤nt) (L:Lw) (a:Bool) (s:Int) (out:List aT) (i:Nat) (z:aT) (j:Nat) (c:Cl) (R us:List Cl):ag prog ap [] nt (ah 4 (af f8)) (XM L a s out i z j c R us (us.length,true)) (.exit 4) (V6 L a s out i z j c R true):=by
 have b:(decide ((us.length:Int)<(us.length:Int)))=false:=kn (ζ _);exact pN 8 [] 1 0 (.c (aX b) .nil) .nil d
theorem acT {nt:Nat} (o:83≤nt) (L:Lw) (l:Bool) (s:Int) (out:List aT) (i:Nat) (z:aT) (j:Nat) (c:Cl) (R us:List Cl) (p r:List Cl) (x:Cl) (a:Bool) (e:us=p++x::r) (q:us.length<2^40) (m:CO 29 [.sl (cL R) R.length false,cA x] (.ret (.bool a))):ag prog ap [] nt (ah 4 (af f8)) (XM L l s out i z j c R us (p.length,false)) .normal (XM L l s out i z j c R us (p.length+1,a)):=by
 have h:=bI (f:=cC) (n:=2) (fun _=>rfl) e;change κ _ (cL us)=cC x++cL r at h;have d:p.length<us.length:=jm e;have b:p.length<2^62:=by omega
 have g:(decide ((p.length:Int)<(us.length:Int)))=true:=kl d;clear e;generalize p.length=k at*
 exact pN 8 [] 2 1 (.k 7 g (.c (aQ g) .nil)) (.v 57 (.eq (wpS b)) (.c m (.v 49 (.ppt h) .nil))) o
theorem aaw {nt:Nat} (d:83≤nt) (L:Lw) (a:Bool) (s:Int) (out:List aT) (i:Nat) (z:aT) (j:Nat) (c:Cl) (R us:List Cl):ag prog ap [] nt (ah 4 (af f8)) (XM L a s out i z j c R us (us.length,false)) (.exit 4) (V6 L a s out i z j c R false):=by
 have b:(decide ((us.length:Int)<(us.length:Int)))=false:=kn (ζ _);exact pN 8 [] 1 0 (.c (aX b) .nil) .nil d
theorem IZ {nt:Nat} (e:83≤nt) (L:Lw) (a:Bool) (s:Int) (out:List aT) (i:Nat) (z:aT) (j:Nat) (c:Cl) (R us:List Cl) (b:us.length<2^40) (l:R.length<2^40):∀ (r p:List Cl) (u:Bool),us=p++r→aN prog ap [] nt (ah 4 (af f8)) (fun _=> .exit 4) (XM L a s out i z j c R us) (V6 L a s out i z j c R) (p.length,u) (u||r.any fun d=>decide (d ∈ R))
 | [],p,u,h=>by
  rw [μ] at h;subst h;rw [List.any_nil,Bool.or_false];cases u with
  |true=>exact .done (aax e L a s out i z j c R us)
  |false=>exact .done (aaw e L a s out i z j c R us)
 |x::r,p,u,h=>by
  have g:=IZ e L a s out i z j c R us b l r (p++ [x]) (u||decide (x ∈ R)) (by rw [h];simp);rw [show (p++ [x]).length=p.length+1 by simp,Bool.or_assoc,← List.any_cons (f:=fun d=>decide (d ∈ R))] at g;refine .next (a':=(p.length+1,u||decide (x ∈ R))) ?_ g
  cases u with
  |true=>exact acU e L a s out i z j c R us p r x h b
  |false=>exact acT e L a s out i z j c R us p r x (decide (x ∈ R)) h b (KW R false x l)
theorem acW {nt:Nat} (h:83≤nt) (L:Lw) (e:Bool) (s:Int) (out:List aT) (i:Nat) (z:aT) (j:Nat) (R:List Cl) (p r:List Cl) (x:Cl) (c:z.1=p++x::r) (m:z.1.length<2^40) (l:CO 29 [.sl (cL R) R.length false,cA x] (.ret (.bool true))):ag prog ap [] nt (ah 6 (af f8)) (ggD L e s out i z j R p.length) .normal (ggD L e s out i z j R (p.length+1)):=by
 have g:=bI (f:=cC) (n:=2) (fun _=>rfl) c;change κ _ (cL z.1)=cC x++cL r at g;have b:p.length<z.1.length:=jm c;have a:p.length<2^62:=by omega
 have d:(decide ((p.length:Int)<(z.1.length:Int)))=true:=kl b;clear c;generalize p.length=k at*
 exact pN 8 [] 2 1 (.k 7 d (.c (aQ d) .nil)) (.v 79 (.eq (wpS a)) (.c l (.v 73 (.ppt g) .nil))) h
theorem acV {nt:Nat} (c:83≤nt) (L:Lw) (a:Bool) (s:Int) (out:List aT) (i:Nat) (z:aT) (j:Nat) (R:List Cl):ag prog ap [] nt (ah 6 (af f8)) (ggD L a s out i z j R z.1.length) (.exit 6) (XL L a s out i z j):=by
 have b:(decide ((z.1.length:Int)<(z.1.length:Int)))=false:=kn (ζ _);exact pN 8 [] 1 0 (.c (aX b) .nil) .nil c
theorem I4 {nt:Nat} (c:83≤nt) (L:Lw) (a:Bool) (s:Int) (out:List aT) (i:Nat) (z:aT) (j:Nat) (R:List Cl) (b:z.1.length<2^40) (f:R.length<2^40) (hm:∀ x ∈ z.1,x ∈ R):∀ (r p:List Cl),z.1=p++r→aN prog ap [] nt (ah 6 (af f8)) (fun _=> .exit 6) (ggD L a s out i z j R) (XL L a s out i z) p.length j
 | [],p,h=>by
  rw [μ] at h;rw [← h];exact .done (acV c L a s out i z j R)
 |x::r,p,h=>by
  have d:=I4 c L a s out i z j R b f hm r (p++ [x]) (by rw [h];simp);rw [show (p++ [x]).length=p.length+1 by simp] at d;have e:=KW R false x f;rw [Yq0 (hm x (by rw [h];simp))] at e;exact .next (a':=p.length+1) (acW c L a s out i z j R p r x h b e) d
theorem acS {nt:Nat} (t:83≤nt) (L:Lw) (a:Bool) (s:Int) (out:List aT) (i:Nat) (z:aT) (p r:List Cl) (x:Cl) (R us:List Cl) (e:z.1=p++x::r) (u:z.1.length<2^40) (v:ae prog ap 22 [.agg [.sl L.fx L.fn true,.sl L.sx L.sn true,.sl (f_ L.ps) L.ps.length a],ω s,.ref 0 0 0 1] [⟨[ω x.1,ω x.2],0,false,0,2,true⟩] (.ret (.sl (cL R) R.length false)) [⟨[ω x.1,ω x.2],0,false,0,2,true⟩]) (o:CO 16 [.agg [.sl L.fx L.fn true,.sl L.sx L.sn true,.sl (f_ L.ps) L.ps.length a],ω s,.agg [ω x.1,ω x.2]] (.ret (.sl (cL us) us.length false))) (l:CO 29 [.sl (cL R) R.length false,.agg [ω x.1,ω x.2]] (.ret (.bool true))) (q:LB 83 4 f8 (XM L a s out i z p.length x R us (0,false)) .normal (V6 L a s out i z p.length x R z.2)) (m:LB 83 6 f8 (ggD L a s out i z p.length R 0) .normal (XL L a s out i z p.length)):ag prog ap [] nt (ah 2 (af f8)) (XL L a s out i z p.length) .normal (XL L a s out i z (p.length+1)):=by
 have h:=bI (f:=cC) (n:=2) (fun _=>rfl) e;change κ _ (cL z.1)=cC x++cL r at h;have d:p.length<z.1.length:=jm e;have c:p.length<2^62:=by omega
 have g:(decide ((p.length:Int)<(z.1.length:Int)))=true:=kl d;clear e;generalize p.length=j at*
 have b:(z.2==z.2)=true:=beq_self_eq_true _;exact pN 8 [4,6] 3 1 (.k 4 (fZ b) (.k 15 g (.c (aQ g) .nil))) (.v 80 (.eq (wpS c)) (.k [5,6,7,24,25,26,9,31,32,33,12,69,70,71] m (.c l (.k [5,6,7,24,25,26,9,31,32,33,11,12,13,45,46,47] q (.c o (.c v (.v 35 (.ppt h) .nil))))))) t
theorem acR {nt:Nat} (c:83≤nt) (L:Lw) (a:Bool) (s:Int) (out:List aT) (i:Nat) (z:aT):ag prog ap [] nt (ah 2 (af f8)) (XL L a s out i z z.1.length) (.exit 2) (Vq L a s out i):=by
 have b:(decide ((z.1.length:Int)<(z.1.length:Int)))=false:=kn (ζ _);exact pN 8 [] 1 0 (.c (aX b) .nil) .nil c
theorem acQ {nt:Nat} (l:83≤nt) (L:Lw) (a:Bool) (s:Int) (out:List aT) (p r:List aT) (x:aT) (d:out=p++x::r) (h:out.length<2^40) (m:LB 83 2 f8 (XL L a s out p.length x 0) .normal (Vq L a s out p.length)):ψ nt f8 (Vq L a s out p.length) .normal (Vq L a s out (p.length+1)):=by
 have g:=bI (f:=sC) (n:=2) (fun _=>rfl) d;change κ _ (sL out)=sC x++sL r at g;have c:p.length<out.length:=jm d;have b:p.length<2^62:=by omega
 have e:(decide ((p.length:Int)<(out.length:Int)))=true:=kl c;clear d;generalize p.length=i at*
 exact pN 8 [2] 1 1 (.k 5 e (.c (aQ e) .nil)) (.v 81 (.eq (wpS b)) (.k [5,6,7,24,25,26,9,31,32,33] m (.v 28 (.ppt g) .nil))) l
theorem acP {nt:Nat} (c:83≤nt) (L:Lw) (a:Bool) (s:Int) (out:List aT):ψ nt f8 (Vq L a s out out.length) (.exit 0) (ggE L a s out):=by
 have b:(decide ((out.length:Int)<(out.length:Int)))=false:=kn (ζ _);exact pN 8 [] 1 0 (.c (aX b) .nil) .nil c
theorem aie (l:List (List Int)) (d two:Bool) (L:Lw) (b:Bool) (out:List aT) (e:two=true) (a:CO 13 [] (.ret (.bool true))) (hmade:CO 24 [.sl (kW l) l.length d] (.ret (.agg [.sl L.fx L.fn true,.sl L.sx L.sn true,.sl (f_ L.ps) L.ps.length b]))) (c:CO 19 [.agg [.sl L.fx L.fn true,.sl L.sx L.sn true,.sl (f_ L.ps) L.ps.length b],ω 2] (.ret (.sl (sL out) out.length false))) (f:LB 83 0 f8 (Vq L b 2 out 0) .normal (ggE L b 2 out)):CO 8 [.sl (kW l) l.length d,.bool two] (.ret (.bool true)):=by
 exact pK [0] 1 1 (.k 3 (aQ e) (.n 1 .nil)) (.k [5,6,7,24,25,26] f (.c c (.c hmade (.c a .nil))))
theorem aid (l:List (List Int)) (d two:Bool) (L:Lw) (b:Bool) (out:List aT) (e:two=false) (a:CO 13 [] (.ret (.bool true))) (hmade:CO 24 [.sl (kW l) l.length d] (.ret (.agg [.sl L.fx L.fn true,.sl L.sx L.sn true,.sl (f_ L.ps) L.ps.length b]))) (c:CO 19 [.agg [.sl L.fx L.fn true,.sl L.sx L.sn true,.sl (f_ L.ps) L.ps.length b],ω 1] (.ret (.sl (sL out) out.length false))) (f:LB 83 0 f8 (Vq L b 1 out 0) .normal (ggE L b 1 out)):CO 8 [.sl (kW l) l.length d,.bool two] (.ret (.bool true)):=by
 exact pK [0] 1 0 (.k 3 (aX e) (.n 1 .nil)) (.k [5,6,7,24,25,26] f (.c c (.c hmade (.c a .nil))))
theorem U0 {args:List AV} {out:List aT} (h:CO 19 args (.ret (abd out))):CO 19 args (.ret (.sl (sL out) out.length false)):=by
 cases out with
 |nil=>exact h.out (kK.ret rfl rfl (bF.nilS false rfl))
 |cons z r=>
  have a:=ae.thaw (by simp) h;have e:(sL (z::r)).take ((z::r).length*2)=sL (z::r):=by rw [← vU,List.take_length]
  simp only [abd,uQ,thaw,e] at a;exact a.out (kK.ret rfl rfl (bF.sl _ _ _))
theorem aez {L:Lw} {s:Int} {x y:Cl} (h:Rt (fC L s) x y) (a:aC s L.ps.length x=true):aC s L.ps.length y=true:=by
 induction h with
 |refl=>exact a
 |tail _ h2 _=>exact nR h2
theorem TT {L:Lw} {s:Int} {c d:Cl} (m:aC s L.ps.length c=true) (g:aC s L.ps.length d=true):FV (ku L s) (aC s L.ps.length) [c] d↔Rt (fC L s) d c:=by
 constructor
 ·intro h
  induction h with
  |base h1 _=>
   rw [χ] at h1;rw [h1];exact .refl _
  |step h1 h2 _ ih=>exact (Rt.one (Vj.1 h2).2).trans (ih h1.ok)
 ·intro h;have key:∀ {x y:Cl},Rt (fC L s) x y→aC s L.ps.length x=true→FV (ku L s) (aC s L.ps.length) [y] x:=fun {x y} h=>by
   induction h with
   |refl=>exact fun a=> .base (by simp) a
   | @tail y z h1 h2 ih=>
    intro a;have f:=aez h1 a;have l:=nR h2;have b:FV (ku L s) (aC s L.ps.length) [z] y:= .step (.base (by simp) l) (Vj.2 ⟨f,h2⟩) f;exact (ih a).trans fun u e _=>by
     rw [χ] at e;rw [e];exact b
  exact key h g
theorem Oy {L:Lw} {s:Int} {c d:Cl} (a:aC s L.ps.length c=true):d ∈ bW L s [c]↔aC s L.ps.length d=true∧Rt (fC L s) d c:=by
 rw [abh];constructor
 ·rintro ⟨h1,h2⟩
  exact ⟨h1,(TT a h1).1 h2⟩
 ·rintro ⟨h1,h2⟩
  exact ⟨h1,(TT a h1).2 h2⟩
theorem V_ {L:Lw} {s:Int} {out:List aT} (S:xR (ak s L.ps.length) (fC L s) out) {z:aT} (f:z ∈ out) {c:Cl} (b:c ∈ z.1):((fC L s c).any fun d=>decide (d ∈ bW L s [c]))=z.2∧∀ d ∈ z.1,d ∈ bW L s [c]:=by
 have o:∀ d ∈ z.1,aC s L.ps.length d=true:=fun d h=>gq.1 ((S.all d).2 ⟨z,f,h⟩)
 have a:=o c b;refine ⟨?_,fun d h=>(Oy a).2 ⟨o d h,((S.scc z f c b d).1 h).2⟩⟩;rw [Bool.eq_iff_iff,S.circ z f];simp only [List.any_eq_true,decide_eq_true_eq];constructor
 ·rintro ⟨d,h1,l⟩
  have m:=((Oy a).1 l).2;exact ⟨c,b,d,(S.scc z f c b d).2 ⟨Rt.one h1,m⟩,h1⟩
 ·rintro ⟨x,hx,y,hy,h1⟩
  have n:=((S.scc z f c b x).1 hx).1;have g:=((S.scc z f c b y).1 hy).2;rcases n.head with e|⟨d,l,m⟩
  ·rw [← e] at h1;exact ⟨y,h1,(Oy a).2 ⟨o y hy,g⟩⟩
  ·exact ⟨d,l,(Oy a).2 ⟨nR l,(m.tail h1).trans g⟩⟩
section
variable (L:Lw) (cc:Bool) (s:Int) (out:List aT)
theorem IY {nt:Nat} (a:83≤nt) (c:vZ L) (d:L.ps.length<2^30) (S:xR (ak s L.ps.length) (fC L s) out) (i:Nat) (z:aT) (m:z ∈ out) (b:z.1.length<2^40):∀ (r p:List Cl),z.1=p++r→aN prog ap [] nt (ah 2 (af f8)) (fun _:St=> .exit 2) (id:St→St) id (XL L cc s out i z p.length) (Vq L cc s out i)
 | [],p,h=>by
  rw [μ] at h;rw [← h];exact .done (acR a L cc s out i z)
 |x::r,p,h=>by
  have g:=IY a c d S i z m b r (p++ [x]) (by rw [h];simp);rw [show (p++ [x]).length=p.length+1 by simp] at g;have f:x ∈ z.1:=by rw [h];simp
  obtain ⟨t,n⟩:=V_ S m f;have y:=LC L true true cc s [x] c (by omega) (by simp) (cC x) 1 (by simp [cL]) rfl;have o:=OV L true true cc s x c;have u:=lu c s x;have q:=abg L s [x];generalize bW L s [x]=R at*
  generalize fC L s x=us at*
  have l:=KW R false x (by omega);rw [Yq0 (n x f)] at l;have e:=aN.blk (id:=4) (e':= .normal) (fun nt (a:83≤nt)=>IZ a L cc s out i z p.length x R us (by omega) (by omega) us [] false rfl) (by simp) rfl (aH.refl _) (aH.refl _);rw [Bool.false_or,t] at e;have v:=aN.blk (id:=6) (e':= .normal) (fun nt (a:83≤nt)=>I4 a L cc s out i z p.length R b (by omega) n z.1 [] rfl) (by simp) rfl (aH.refl _) (aH.refl _);exact .next (acS a L cc s out i z p r x R us h b y o l e v) g
theorem IX {nt:Nat} (b:83≤nt) (g:vZ L) (a:L.ps.length<2^30) (S:xR (ak s L.ps.length) (fC L s) out) (c:out.length<2^40) (d:∀ z ∈ out,z.1.length<2^40):∀ (r p:List aT),out=p++r→aN prog ap [] nt (ah 0 (af f8)) (fun _:St=> .exit 0) (id:St→St) id (Vq L cc s out p.length) (ggE L cc s out)
 | [],p,h=>by
  rw [μ] at h;rw [← h];exact .done (acP b L cc s out)
 |x::r,p,h=>by
  have f:=IX b g a S c d r (p++ [x]) (by rw [h];simp);rw [show (p++ [x]).length=p.length+1 by simp] at f;have e:x ∈ out:=by rw [h];simp
  have l:=aN.blk (id:=2) (e':= .normal) (fun nt (b:83≤nt)=>IY L cc s out b g a S p.length x e (d x e) x.1 [] rfl) (by simp) rfl (aH.refl _) (aH.refl _);exact .next (acQ b L cc s out p r x h c l) f
end
theorem Ql {L:Lw} {s:Int} {out:List aT} (S:xR (ak s L.ps.length) (fC L s) out):out.length≤L.ps.length+L.ps.length∧∀ z ∈ out,z.1.length≤L.ps.length+L.ps.length:=by
 have a:(out.flatMap fun x=>x.1).length≤(ak s L.ps.length).length:=xH S.nd fun y c=>by
  obtain ⟨z,a,b⟩:=List.mem_flatMap.1 c;exact (S.all y).2 ⟨z,a,b⟩
 have b:=fE s L.ps.length;have e:out.length≤(out.flatMap fun x=>x.1).length:=Gv out S.ne;refine ⟨by omega,fun z d=> ?_⟩;have f:z.1.length≤(out.flatMap fun x=>x.1).length:=by
  rw [Xwn];exact (Xj3 (List.mem_map.2 ⟨z,d,rfl⟩)).length_le
 omega
theorem aaz (b:CO 13 [] (.ret (.bool true))) (l:List (List Int)) (d two:Bool):CO 8 [.sl (kW l) l.length d,.bool two] (.ret (.bool true)):=by
 obtain ⟨L,c,p,h,hmade⟩:=WB l d;have g:L.ps.length≤8:=by omega
 have f:=WC g h;have run:∀ s:Int,∃ out,CO 19 [.agg (L.c true true c),ω s] (.ret (.sl (sL out) out.length false))∧LB 83 0 f8 (Vq L c s out 0) .normal (ggE L c s out):=fun s=>by
  obtain ⟨out,S,a⟩:=U1 L true true c s f (by omega);obtain ⟨o,m⟩:=Ql S;exact ⟨out,U0 a,aN.blk (id:=0) (e':= .normal) (fun nt (hn:83≤nt)=>IX L c s out hn f (by omega) S (by omega) (fun z n=>by have:=m z n;omega) out [] rfl) (by simp) rfl (aH.refl _) (aH.refl _)⟩
 cases two with
 |true=>
  obtain ⟨out,a,e⟩:=run 2;exact aie l d true L c out rfl b hmade a e
 |false=>
  obtain ⟨out,a,e⟩:=run 1;exact aid l d false L c out rfl b hmade a e
end Go.Proofs.Tryz
set_option maxRecDepth 100000
open Go AM Go.ChangeShapes Go.WideShapes Go.ChangeAt Go.RowKit
namespace Go.Proofs.Tryz
noncomputable def CQ (t:TypeId) (d:DataW Unit):List Lit:=((kw prog 6 t d 0).getD []).map (·.2)
open Go.Proofs.YtokiomlellclkaaGreatDoor
def SG:List (String × DataW Unit):= [("unicode/utf8.acceptRanges",Rows.laid_unicode_utf8_acceptRanges),("tithing/expr.table",Rows.laid_tithing_expr_table),("tithing/check.truth",Rows.laid_tithing_check_truth),("tithing/check.cash",Rows.laid_tithing_check_cash),("tithing/check.days",Rows.laid_tithing_check_days),("tithing/check.plain",Rows.laid_tithing_check_plain),("tithing/statute.cash",Rows.laid_tithing_statute_cash),("unicode/utf8.first",Rows.laid_unicode_utf8_first)]
theorem PZ:SG.filter (fun x=>x.2.handleName?.isSome)= []:=by kernel_rfl
theorem acZ {W:World} (h:laidMetH prog SG W):QG ap W:=by
 have c (i:Nat) (n:String) (d:DataW Unit) (hm:SG[i]? =some (n,d)) (g:Nat) (t:TypeId) (hg:prog.globalNamed n=some g) (ht:(prog.globals[g]?).map (·.type)=some t)
   (hl:kw prog 6 t d 0=some ((CQ t d).zipIdx.map fun (l,i)=>(i,l))):=Lc h PZ (ο hm) hg ht hl
 have q:=c 0 _ _ rfl 7 355 (by kernel_rfl) (by kernel_rfl) (by kernel_rfl);have m:=c 1 _ _ rfl 0 232 (by kernel_rfl) (by kernel_rfl) (by kernel_rfl);have e:=c 2 _ _ rfl 5 53 (by kernel_rfl) (by kernel_rfl) (by kernel_rfl);have f:=c 3 _ _ rfl 2 53 (by kernel_rfl) (by kernel_rfl) (by kernel_rfl);have p:=c 4 _ _ rfl 3 53 (by kernel_rfl) (by kernel_rfl) (by kernel_rfl);have o:=c 5 _ _ rfl 4 53 (by kernel_rfl) (by kernel_rfl) (by kernel_rfl);have r:=c 6 _ _ rfl 1 53 (by kernel_rfl) (by kernel_rfl) (by kernel_rfl);have key (k:Nat) (t:TypeId) (d:DataW Unit) (hx:(ap.gl[k]?).join=some ((CQ t d).map Jj)) (ho:(CQ t d).all CP=true) (hc:∀ (j:Nat) (l:Lit),(CQ t d)[j]? =some l→W.cell? ⟨k,j,none⟩=some (nV l)):
   ∀ b,(ap.gl[k]?).join=some b→∃ ls:List Lit,b=ls.map Jj∧ls.all CP=true∧∀ (j:Nat) (l:Lit),ls[j]? =some l→W.cell? ⟨k,j,none⟩=some (nV l):=by
  intro b a;rw [hx] at a;cases a;exact ⟨_,rfl,ho,hc⟩
 intro k
 match k with
 |0=>exact key 0 _ _ (by kernel_rfl) (by kernel_rfl) m
 |1=>exact key 1 _ _ (by kernel_rfl) (by kernel_rfl) r
 |2=>exact key 2 _ _ (by kernel_rfl) (by kernel_rfl) f
 |3=>exact key 3 _ _ (by kernel_rfl) (by kernel_rfl) p
 |4=>exact key 4 _ _ (by kernel_rfl) (by kernel_rfl) o
 |5=>exact key 5 _ _ (by kernel_rfl) (by kernel_rfl) e
 |6=>intro b a;exact absurd (show (none:Option (List AV))=some b from a) (by simp)
 |7=>exact key 7 _ _ (by kernel_rfl) (by kernel_rfl) q
 |8=>intro b a;exact absurd (show (none:Option (List AV))=some b from a) (by simp)
 |k+9=>
  intro b a;have:ap.gl.length=9:=by kernel_rfl
  rw [Xxl (by omega)] at a;cases a
theorem own:ownKnob prog.godebug=none:=by kernel_rfl
theorem ahK:laidOutB prog=true:=by kernel_rfl
noncomputable def JW (t:TypeId) (d:DataW Unit):Obj→Obj
 | .cells _ t' fr=> .cells ((CQ t d).map nV).toArray t' fr
 |o=>o
noncomputable def ab1 (os:Os):World:=
 let w:=World.holding prog os ⟨#[],#[],[]⟩
 {w with heap:=((((((((w.heap.modify 0 (JW 232 Rows.laid_tithing_expr_table)).modify 1 (JW 53 Rows.laid_tithing_statute_cash)).modify 2 (JW 53 Rows.laid_tithing_check_cash)).modify 3 (JW 53 Rows.laid_tithing_check_days)).modify 4 (JW 53 Rows.laid_tithing_check_plain)).modify 5 (JW 53 Rows.laid_tithing_check_truth)).modify 6 (JW 352 Rows.laid_unicode_utf8_first)).modify 7 (JW 355 Rows.laid_unicode_utf8_acceptRanges))}
end Go.Proofs.Tryz
set_option maxRecDepth 100000
set_option linter.unusedVariables false
open Go AM Go.ChangeShapes Go.WideShapes Go.ChangeAt Go.RowKit
namespace Go.Proofs.Tryz
open Go.Proofs.YtokiomlellclkaaGreatDoor
section
variable {H:Type}
theorem acl (d:DataW H):1≤Rows.uptoBulk d:=by
 cases d with
 |lit x=>cases x<;>simp [Rows.uptoBulk]
 |_=>simp [Rows.uptoBulk]
theorem Bv:∀ {l:List (DataW H)} {d:DataW H},d ∈ l→Rows.uptoBulk d≤Rows.uptoBulkAll l
 |x::r,d,h=>by
  simp only [Rows.uptoBulkAll];rcases List.mem_cons.1 h with rfl|h
  ·omega
  ·have:=Bv h;omega
theorem Iy:∀ l:List (DataW H),l.length≤Rows.uptoBulkAll l
 | []=>Xqn _
 |x::r=>by
  simp only [Rows.uptoBulkAll,τ];have:=Iy r;have:=acl x;omega
theorem acm:ab9 (Rows.uptoBulk (H:=H)) where
 str s:=by simp only [Rows.uptoBulk];omega
 agg l d h:=by
  simp only [Rows.uptoBulk];have:=Bv h;omega
 slc l r:=by
  simp only [Rows.uptoBulk];exact ⟨fun d h=>by have:=Bv h;omega,by have:=Iy l;omega⟩
theorem GL {α:Type} {b:Nat} {ks:List DK} (f:α→List AV) (Q:α→Prop) (d:∀ x,fM b ks x→∃ a,x=f a∧Q a):∀ L:List (List AV),(∀ x ∈ L,fM b ks x)→∃ l:List α,L.flatten=l.flatMap f∧L.length=l.length∧∀ a ∈ l,Q a
 | [],_=> ⟨[],rfl,rfl,fun a h=>by cases h⟩
 |x::L,h=>by
  obtain ⟨a,e,q⟩:=d x (h x (by simp));obtain ⟨l,g,m,n⟩:=GL f Q d L fun y c=>h y (by simp [c])
  refine ⟨a::l,by rw [Xx6,Xqa,e,g],by simp [m],fun y c=> ?_⟩;rcases List.mem_cons.1 c with rfl|c
  ·exact q
  ·exact n y c
abbrev kI:List DK:= [.slc [.int .i64]]
theorem ajd {b:Nat} {a:List AV} (h:fM b [.int .i64] a):∃ y:Int,a= [ω y]∧True:=by
 cases h with|int h=>cases h with|nil=>exact ⟨_,rfl,trivial⟩
theorem Wn (l:List Int):(l.flatMap fun a=> [ω a])=iL l:=by
 induction l with
 |nil=>rfl
 |cons a r ih=>rw [Xqa,ih];rfl
theorem adX {b:Nat} {L:List (List AV)} (h:∀ x ∈ L,fM b [.int .i64] x):∃ l:List Int,AV.sl L.flatten L.length false= .sl (iL l) l.length false:=by
 obtain ⟨l,c,d,_⟩:=GL (fun y:Int=> [ω y]) (fun _=>True) (fun x a=>ajd a) L h;exact ⟨l,by rw [c,d,Wn]⟩
theorem ad_ {b:Nat} {a:List AV} (h:fM b kI a):∃ l:List Int,a= [.sl (iL l) l.length false]∧True:=by
 cases h with|slc hx hl h=>cases h with|nil=>
  obtain ⟨l,e⟩:=adX hx;exact ⟨l,by rw [e],trivial⟩
variable {enc:TypeId × Value→H} {W:World} {base:Nat}
theorem WU {t e:TypeId} {n:Nat} {ks:List DK} (f:prog.underlying t=some (.slice e)) (g:EM prog n t=some [.slc ks]) {v:Value} {d:DataW H} {p:List MemPlace} (l:Value.okWide prog W .any base t v) (h:DataW.Trod enc prog W 0 (fun _=>true) true t v d p):
  ∃ L:List (List AV),(∀ x ∈ L,fM (Rows.uptoBulk d) ks x)∧PR (iF W) (.sl L.flatten L.length false) v:=by
 obtain ⟨a,h⟩:=h;obtain ⟨m,b,c,_⟩:=PD acm (fun _=>rfl) n t _ g a _ _ h;rw [JY f l] at c;cases b with|slc hx hl b=>cases b with|nil=>
  simp only [a_,and_true] at c;exact ⟨_,hx,c⟩
theorem SK (l:List (List Int)):(l.flatMap fun b=> [AV.sl (iL b) b.length false])=kW l:=by
 induction l with
 |nil=>rfl
 |cons a r ih=>rw [Xqa,ih];rfl
theorem ahP {v:Value} {d:DataW H} {p:List MemPlace} (m:Value.okWide prog W .any base 22 v) (h:DataW.Trod enc prog W 0 (fun _=>true) true 22 v d p):
  ∃ l:List (List Int),PR (iF W) (.sl (kW l) l.length false) v:=by
 obtain ⟨L,c,a⟩:=WU (n:=5) (ks:=kI) (e:=38) (by kernel_rfl) (by kernel_rfl) m h;obtain ⟨l,f,g,_⟩:=GL (fun xs:List Int=> [AV.sl (iL xs) xs.length false]) (fun _=>True) (fun x b=>ad_ b) _ c;rw [f,g,SK] at a;exact ⟨l,a⟩
end
end Go.Proofs.Tryz
set_option maxRecDepth 100000
set_option linter.unusedVariables false
open Go AM Go.ChangeShapes Go.WideShapes Go.ChangeAt Go.RowKit
namespace Go.Proofs.Tryz
open Go.Proofs.YtokiomlellclkaaGreatDoor
theorem u4b:prog.underlying 4=some .bool:=by kernel_rfl
theorem ab5 {W:World} {base:Nat} {v:Value} (a:Value.okWide prog W .any base 4 v):∃ b:Bool,PR (iF W) (.bool b) v:=by
 simp only [Value.okWide,u4b] at a;cases v<;>simp only [Cell.okWide,Cell.ok,u4b] at a
 rename_i b;exact ⟨b,rfl⟩
abbrev Tv:AV:= .agg [.sl [.str [98],.bool false,ω 0,ω 0] 1 true,.nilS,.sl [.str [97],.bool false,ω 0,ω 0,.sl [ω 5,.bool false,.str [],.str [],.str [98]] 1 true,.bool false,.bool false,.str [1],.str [1],.bool false,.str [9],.str [1]] 1 true]
theorem aee {nt:Nat} (a:65≤nt):ag prog ap [] nt (b_ [0] (af f150)) (dZ .dead [Tv] []) .normal ZN:=by
 exact pN 150 [] 0 0 .nil (.nil) a
theorem nc0:CO 194 [Tv] (.ret (.agg [.sl [.str [98]] 1 true,.nilS,.sl [.str [97]] 1 true])):=cD [] .nil
theorem aef {nt:Nat} (a:65≤nt):ag prog ap [] nt (b_ [1,0] (af f150)) ZN .normal (OJ [.agg [],.agg []]):=by
 exact pN 150 [] 0 0 (.n 4 .nil) (.c nc0 .nil) a
theorem nc1:CO 195 [.str [98]] (.ret (.bool true)):=cD [] .nil
theorem WM:CO 195 [.str [97]] (.ret (.bool true)):=cD [] .nil
theorem aeg {nt:Nat} (a:65≤nt):ag prog ap [] nt (b_ [1,1,0] (af f150)) (OJ [.agg [],.agg []]) .normal (OJ [.agg [.str [98],.str [97]],.agg [ω 1,ω 1]]):=by
 exact pN 150 [] 11 211 (.n 37 .nil) (.c WM (.c nc1 .nil)) a
theorem aeh {nt:Nat} (a:65≤nt):ag prog ap [] nt (b_ [1,1,1,0] (af f150)) (OJ [.agg [.str [98],.str [97]],.agg [ω 1,ω 1]]) .normal (UR [.agg [.str [98],.str [97]],.agg [ω 1,ω 1]]):=by
 exact pN 150 [] 7 21 (.n 19 .nil) (.nil) a
theorem aa4:b_ [1,1,1,1,0] (af f150)= .seq (.region 22 #[mk (some 57) (.move (.tmp 4)) ((uo (b_ [1,1,1,1,0,0] (af f150))).getD 0 default),mk (some 58) (.range 271 (.tmp 57)) ((uo (b_ [1,1,1,1,0,0] (af f150))).getD 1 default)] false)
 (.block 8 (.loop (.seq (.region 23 #[mk (some 59) (.next (.tmp 58) false) ((uo (b_ [1,1,1,1,0,1,0,0,0] (af f150))).getD 0 default),mk (some 60) (.extract (.tmp 59) 0) ((uo (b_ [1,1,1,1,0,1,0,0,0] (af f150))).getD 1 default)] false) (.seq (.cond (.tmp 60) .skip (.exit 8)) (b_ [1,1,1,1,0,1,0,0,1,1] (af f150)))))):=by kernel_rfl
theorem WP:b_ [1,1,1,1,0,1,0,0,1,1] (af f150)= .block 9 (.seq (.region 24 [mk (some 61) (.entry (.tmp 58)) ((uo (b_ [1,1,1,1,0,1,0,0,1,1,0,0] (af f150))).getD 0 default),mk (some 62) (.extract (.tmp 61) 1) ((uo (b_ [1,1,1,1,0,1,0,0,1,1,0,0] (af f150))).getD 1 default),mk (some 13) (.assign (.tmp 62)) ((uo (b_ [1,1,1,1,0,1,0,0,1,1,0,0] (af f150))).getD 2 default)].toArray false) (b_ [1,1,1,1,0,1,0,0,1,1,0,1] (af f150))):=by kernel_rfl
theorem aho:prog.underlying 271=some (.map 9 3):=by kernel_rfl
theorem WO {nt:Nat} (e:65≤nt) (d:Value) (k:AV):Kt prog ap nt [mk (some 61) (.entry (.tmp 58)) ((uo (b_ [1,1,1,1,0,1,0,0,1,1,0,0] (af f150))).getD 0 default),mk (some 62) (.extract (.tmp 61) 1) ((uo (b_ [1,1,1,1,0,1,0,0,1,1,0,0] (af f150))).getD 1 default),mk (some 13) (.assign (.tmp 62)) ((uo (b_ [1,1,1,1,0,1,0,0,1,1,0,0] (af f150))).getD 2 default)] 1 ⟨(61,.tup [k,.int .i64 1])::(fU 58 59 60 d []),[],.dead,[]⟩ ⟨(13,.int .i64 1)::(62,.int .i64 1)::(61,.tup [k,.int .i64 1])::(fU 58 59 60 d []),[],.dead,[]⟩:=by
 have a:[mk (some 61) (.entry (.tmp 58)) ((uo (b_ [1,1,1,1,0,1,0,0,1,1,0,0] (af f150))).getD 0 default),mk (some 62) (.extract (.tmp 61) 1) ((uo (b_ [1,1,1,1,0,1,0,0,1,1,0,0] (af f150))).getD 1 default),mk (some 13) (.assign (.tmp 62)) ((uo (b_ [1,1,1,1,0,1,0,0,1,1,0,0] (af f150))).getD 2 default)].all (qE nt)=true:=by
  simp only [List.all_cons,List.all_nil,qE,mk,Bool.and_true,Bool.and_eq_true,Nat.blt_eq];omega
 exact (PK (H:=uq prog ap 3000 4) good.apok (gy good.apok good.mixed good.fnok 3000 4).1 a (c:=⟨false,[],[],[],[],[]⟩) (c':=⟨false,[],[],[],[],[]⟩) (r:=⟨_,_,_,_,_,_⟩) rfl ⟨fun b h=>(by cases h),fun p h=>(by cases h)⟩).2
theorem WQ {nt:Nat} (b:65≤nt) (a:Value) (k:AV):ag prog ap [] nt (b_ [1,1,1,1,0,1,0,0,1,1,0,1] (af f150)) ⟨(13,.int .i64 1)::(62,.int .i64 1)::(61,.tup [k,.int .i64 1])::(fU 58 59 60 a []),[],.dead,[]⟩ .normal ⟨(fU 58 59 60 a []),[],.dead,[]⟩:=by
 exact pN 150 [] 1 0 (.n 1 .nil) (.nil) b
theorem aa3 {nt:Nat} (a:65≤nt) (b:Value):ag prog ap [] nt (b_ [1,1,1,1,1] (af f150)) ⟨(fU 58 59 60 b []),[],.dead,[]⟩ .ret ⟨[(2,.int .i64 0)],[],.dead,[]⟩:=by
 exact pN 150 [] 0 0 .nil (.nil) a
theorem aa2 {nt:Nat} (f:65≤nt):iq prog ap [] nt (b_ [1,1,1,1,0] (af f150)) (UR [.agg [.str [98],.str [97]],.agg [ω 1,ω 1]]) fun e s'=>e= .normal∧∃ a,s'=⟨(fU 58 59 60 a []),[],.dead,[]⟩:=by
 rw [aa4];refine P7 (σ:=Unit) (b:=0) (ver:=0) (tm:=4) (n:=2) (ks:= [.str [98],.str [97]]) (vs:= [ω 1,ω 1]) (Inv:=fun _ _=>True) (st:=fun _=>HY) (s0:=()) (PostX:=fun _ _=>False)
  rfl rfl rfl rfl rfl rfl rfl rfl rfl rfl rfl rfl (by omega) (by omega) (by omega) (by omega) (by decide) (by decide) aho rfl rfl rfl rfl rfl rfl rfl rfl rfl trivial
  (fun x C h=>by simp [AM.ai] at h) (fun x C h=>by simp [AM.ai] at h) (fun t=> .inl rfl) (fun x B0 C h=>by simp [ax] at h) ?_ (fun a done s _ _=> ⟨rfl,a,rfl⟩) (fun e s' _ h=>h.elim) (fun e s' h=>by obtain ⟨_,a,rfl⟩:=h;rfl)
 intro a done s i k v _ g _ l c;have d:v= ω 1:=by
  match i,g,c with
  |0,_,c=>simp at c;exact c.symm
  |1,_,c=>simp at c;exact c.symm
 subst d;rw [WP];refine o_.block (A:=fun e s'=>e= .normal∧s'=⟨(fU 58 59 60 a []),[],.dead,[]⟩) ?_ (fun s' h=>by cases h.1) (fun e s' h _=> .inl ⟨h.1,(),trivial,h.2⟩);exact o_.of (hs:= []) rfl rfl rfl (by omega) (by funext b;rfl) rfl (WO f a k) ((WQ f a k).any ⟨rfl,rfl⟩ (fun e s' h=>h.2 ▸ rfl))
theorem Tt:CO 150 [Tv] (.ret (ω 0)):=by
 refine jO good 0 (F:=⟨f150,[0,1,2,3,4,6,8,10,11,13,17,18,19,21,22,23,24,29,36,37,38,43,55,58,60,64],false⟩) rfl rfl (fun nt a=> ?_) rfl (Xqn _) (s:=⟨[(2,ω 0)],[],.dead,[]⟩) rfl;have c:af f150= .seq (b_ [0] (af f150)) (.seq (b_ [1,0] (af f150)) (.seq (b_ [1,1,0] (af f150)) (.seq (b_ [1,1,1,0] (af f150)) (.seq (b_ [1,1,1,1,0] (af f150)) (b_ [1,1,1,1,1] (af f150)))))):=by kernel_rfl
 show ag _ _ _ _ (af f150) _ _ _;rw [c];refine (aee a).seq ((aef a).seq ((aeg a).seq ((aeh a).seq ?_)));refine (iq.seq (Post:=fun b s1=>b= .ret∧s1=⟨[(2,ω 0)],[],.dead,[]⟩) (aa2 a) (fun s1 ⟨_,pt,h⟩=> ?_) (fun e s1 ⟨h,_⟩ hne=>absurd h hne) (fun b s1 h=>h.2 ▸ rfl)).one;subst h;exact (aa3 a pt).any ⟨rfl,rfl⟩ (fun b s1 h=>h.2 ▸ rfl)
end Go.Proofs.Tryz
open Go AM Go.RowKit Go.Shelf
namespace Go.Proofs.Tryz
attribute [local go_sem] Oper.semAt_some
theorem oz {W W':World} (h:Below W.heap.size W W'):gK (bT W) (bT W'):=by
 intro k o v b;have a:=BA b;rw [← b];unfold bT;rw [h.block k a,World.cell?_of_block (h.block k a)]
theorem wS {W W':World} (h:Below W.heap.size W W') (c:lw ap (bT W)):lw ap (bT W'):=by
 intro k e d;obtain ⟨vs,f,b⟩:=c k e d;exact ⟨vs,aW (oz h) _ f,fun j u a=> ⟨oz h _ _ _ (b j u a).1,(b j u a).2⟩⟩
theorem agY {W:World} (a:lw ap (bT W)) (m:aB):aZ ap (ax []) m (bT W) W:=
 ⟨fun b c B B' h=>by simp [ax] at h,fun b B h=>by simp [ax] at h,fun k o v h=>h,fun b B h=>by simp [ax] at h,a⟩
theorem yt {f:Nat} {args:List AV} {d:IntKind} {x:Int} (p:CO f args (.ret (.int d x))) {W:World} (l:lw ap (bT W)) {cargs:List Value} (o:a_ (bT W) args cargs) {n:Nat}:
  CallsIn Fence.wide n prog f cargs.toArray W fun e W'=>e= .returned (.int d x)∧Below W.heap.size W W':=by
 refine callsIn_wide.2 ?_;refine (p.calls (fun _=>(0,0)) (bT W) W cargs (agY l _) (aV _ o)).mono ?_
 rintro e W' ⟨m',S',hF⟩
 obtain ⟨_,a,c⟩:=hF;obtain ⟨cv,rfl,g⟩:=c;simp only [uV,VR,PR] at g;subst g;exact ⟨rfl,a.os,a.tape,a.output,a.size,fun k m=>a.rest k m fun b B h=>by simp [ax] at h⟩
theorem BV {W W':World} (h:Below W.heap.size W W') (row:Option Nat):W.grownBy W' row:=
 ⟨h.os,h.tape,h.output,h.size,fun k a _=>h.block k a⟩
def jC (f g:Nat→Int) (k:Nat):List Int:=(Ψ k).flatMap fun j=> [f j,g j]
theorem qp (f g:Nat→Int) (k:Nat):jC f g (k+1)=jC f g k++ [f k]++ [g k]:=by simp [jC,List.range_succ]
theorem qo (f g:Nat→Int) (k:Nat):(jC f g k).length=2*k:=by
 induction k with
 |zero=>rfl
 |succ k ih=>rw [qp];simp [ih];omega
theorem Qr (f g:Nat→Int) {k n:Nat} (h:k≤n):jC f g k<+:jC f g n:=by
 induction n with
 |zero=>
  obtain rfl:k=0:=by omega
  exact Xvq _
 |succ n ih=>
  by_cases hk:k=n+1
  ·subst hk;exact Xvq _
  ·exact (ih (by omega)).trans (by rw [qp,Xqi];exact Xz6 _ _)
set_option maxRecDepth 100000 in
set_option maxHeartbeats 4000000 in
theorem L8 (n:Nat) (hn:2≤n) (l kn ke ks n₀ b off len cap:Nat) (E SC:AV) (ue us:Value) (ns:Nat→List UInt8) (so sp:Nat→Int) (hreach:len*16≤140737488351232)
  (hso:∀ k,k<len→CO 157 [E,SC,.int .i64 6,.str (ns k)] (.ret (.int .i64 (so k)))) (hsp:∀ k,k<len→CO 157 [E,SC,.int .i64 8,.str (ns k)] (.ret (.int .i64 (sp k))))
  (J Jx:List Int→World→Prop) (W:World) (hAJ:AbidesFrom W.heap.size J)
  (hY:∀ pre x W1,J pre W1→pre.length<2*len→YieldAt Fence.wide (n - 1) prog l #[.int .i64 x] W1 fun e W'=>
   (e= .returned (.bool true)∧J (pre++ [x]) W'∧Below n₀ W1 W')∨(e= .returned (.bool false)∧Jx (pre++ [x]) W'))
  (hn0:n₀≤W.heap.size) (hbn:b<n₀) (hkn:kn<n₀) (hke:ke<n₀) (hks:ks<n₀)
  (w0:World) (hw0:w0.heap.size=n₀) (hW:Below n₀ w0 W) (hg:lw ap (bT w0)) (hpr:a_ (bT w0) [E,SC] [ue,us])
  (cn:w0.cell? ⟨kn,0,none⟩=some (.slice (some ⟨b,off,none⟩) len cap)) (ce:w0.cell? ⟨ke,0,none⟩=some ue) (cs:w0.cell? ⟨ks,0,none⟩=some us)
  (hc:∀ j,j<len→w0.cell? ⟨b,off+j,none⟩=some (.string ⟨(ns j).toArray⟩)) (h0:J [] W):
  CallsIn Fence.wide n prog 156 #[.func (.yield l) #[] #[],.pointer (some ⟨kn,0,none⟩),.pointer (some ⟨ke,0,none⟩),.pointer (some ⟨ks,0,none⟩)] W fun e W'=>(∃ v,e= .returned v)∧
   ((∃ ys,ys=jC so sp len∧J ys W')∨(∃ pre,pre<+:jC so sp len∧Jx pre W')):=by
 have kee:∀ (w:World),Below n₀ w0 w→∀ (k j:Nat) (v:Value),k<n₀→w0.cell? ⟨k,j,none⟩=some v→w.cell? ⟨k,j,none⟩=some v:=fun w h k j v hk hv=>(Below.cell h (p:=⟨k,j,none⟩) hk).trans hv
 have cn':=kee _ hW _ _ _ hkn cn;refine callsIn_of_wp Tryz.func156 rfl trivial ?_ rfl;simp only [Tryz.ntmps156,Xxe,τ,Xqf,Xwh,Xwi,Array.replicate_succ,Array.replicate_zero,Xzp,Xzc,Xqj,Xqz]
 gi_wp2
 gi_loopw [9] (fun i wr=> ∃ k:Nat,k≤len∧i= .int .i64 k∧J (jC so sp k) wr∧Below n₀ w0 wr∧W.heap.size≤wr.heap.size)
  (fun i _=>len - (intOf i).toNat)
 case atStart=>exact ⟨0,Xqn _,rfl,h0,hW,ζ _⟩
 case round=>
  obtain ⟨k,hk,rfl,hJs,hnx,hsz⟩:=hrel;have hcx:k<len→wr.cell? ⟨b,off+k,none⟩=some (.string ⟨(ns k).toArray⟩):=fun h=>kee _ hnx _ _ _ hbn (hc k h)
  have ce1:=kee _ hnx _ _ _ hke ce;have cs1:=kee _ hnx _ _ _ hks cs;by_cases hlt:k<len
  ·have hcx':=hcx hlt;have bW1:∀ (w:World),Below n₀ w0 w→Below w0.heap.size w0 w:=fun w h=>by rw [hw0];exact h
   have PR4:∀ (w:World) (op:Int),Below n₀ w0 w→a_ (bT w) [E,SC,.int .i64 op,.str (ns k)] [ue,us,.int .i64 op,.string ⟨(ns k).toArray⟩]:=fun w op h=>by
    have h2:=aW (oz (bW1 w h)) _ hpr;simp only [a_,PR] at h2 ⊢;exact ⟨h2.1,h2.2.1,trivial,trivial,trivial⟩
   have Vy:jC so sp len=jC so sp k++ [so k]++ [sp k]++(jC so sp len).drop (2*(k+1)):=by
    rw [← qp];obtain ⟨r,hr⟩:=Qr so sp (show k+1≤len by omega)
    conv=>rhs;rw [← hr]
    rw [Xv1 (qo ..)];exact hr.symm
   have hf14:Fence.wide.fn 157:=trivial;have h1n:1≤n:=by omega
   gi_wp2_with (gi_at_call 157;refine (yt (hso k hlt) (wS (bW1 _ hnx) hg) (PR4 _ 6 hnx)).mono ?_;rintro e W1 ⟨rfl,hb1⟩;have hJ1:=hAJ _ _ _ none hJs (BV hb1 none) (fun r e=>by cases e);have hnx1:Below n₀ w0 W1:=hnx.trans (hb1.mono (by omega));obtain ⟨fn,tmps,assign,body,hy,hR⟩:=hY _ (so k) W1 hJ1 (by rw [qo];omega))
   refine hR.mono ?_
   rintro e W3 (⟨rfl,hJ3,hk3⟩|⟨rfl,hJx3⟩)
   ·have hnx3:=hnx1.trans hk3;have ce3:=kee _ hnx3 _ _ _ hke ce;have cs3:=kee _ hnx3 _ _ _ hks cs
    gi_wp2_with (gi_at_call 157;refine (yt (hsp k hlt) (wS (bW1 _ hnx3) hg) (PR4 _ 8 hnx3)).mono ?_;rintro e W4 ⟨rfl,hb4⟩;have hJ4:=hAJ _ _ _ none hJ3 (BV hb4 none) (fun r e=>by cases e);have hnx4:Below n₀ w0 W4:=hnx3.trans (hb4.mono (by rw [← hw0];exact hnx3.size));obtain ⟨fn4,tmps4,assign4,body4,hy4,hR4⟩:=hY _ (sp k) W4 hJ4 (by rw [η,qo,Xxw];omega))
    refine hR4.mono ?_
    rintro e W5 (⟨rfl,hJ5,hk5⟩|⟨rfl,hJx5⟩)
    ·gi_wp2
     go_roundw
     case rel=>exact ⟨k+1,by omega,by simp,by rw [qp];exact hJ5,hnx4.trans hk5,by have:=hb1.size;have:=hk3.size;have:=hb4.size;have:=hk5.size;omega⟩
     case measure=>simp [intOf];omega
    ·gi_wp2
     refine bodyPost_ret (results_none rfl _ _ _) rfl ?_;exact ⟨⟨_,rfl⟩,.inr ⟨_,by rw [Vy];exact Xz6 _ _,hJx5⟩⟩
   ·gi_wp2_with (refine ⟨fun _ _=>trivial, ?_⟩)
    refine bodyPost_ret (results_none rfl _ _ _) rfl ?_;exact ⟨⟨_,rfl⟩,.inr ⟨_,by rw [Vy,Xqi];exact Xz6 _ _,hJx3⟩⟩
  ·obtain rfl:k=len:=by omega
   gi_wp2
   go_end0
   exact ⟨⟨_,rfl⟩,.inl ⟨_,rfl,hJs⟩⟩
attribute [local go_sem] Oper.semAt_some
theorem Qh (a1 a2 a3:Option Addr) (l1 l2 l3 c1 c2 c3:Nat) (n:Nat) (w:World):
  CallsIn Fence.wide n prog 112 #[.slice a1 l1 c1,.slice a2 l2 c2,.slice a3 l3 c3] w fun e w'=>e= .returned (.func (.func 156) #[] #[.pointer (some ⟨w.heap.size+2,0,none⟩),.pointer (some ⟨w.heap.size,0,none⟩),.pointer (some ⟨w.heap.size+1,0,none⟩)])∧w'=((w.alloc (.cells #[.slice a1 l1 c1] 54)).alloc (.cells #[.slice a2 l2 c2] 30)).alloc (.cells #[.slice a3 l3 c3] 135):=by
 refine callsIn_of_wp Tryz.func112 rfl trivial ?_ rfl;simp only [Tryz.ntmps112,Xxe,τ,Xqf,Xwh,Xwi,Array.replicate_succ,Array.replicate_zero,Xzp,Xzc,Xqj,Xqz]
 gi_wp2
 go_ret
 refine ⟨?_,rfl⟩;simp
theorem Yr {w:World} {tmps:Array Value} {k:Nat} {b:Bool} (f:tmps.getD 6 undef= .pointer (some ⟨k,0,none⟩)) (e:w.cell? ⟨k,0,none⟩=some (.bool b)):(results f68 tmps).run prog w= .ok (.bool b) w:=by
 refine kD (vs:= [.bool b]) rfl ?_;intro i r v c a
 match i with
 | 0=>
  simp only [List.getElem?_cons_zero,Option.some.injEq] at a;subst a;have:r= .cell 6 4:=by
   have h0:f68.results.toList[0]? =some (.cell 6 4):=rfl;rw [h0] at c;exact (Option.some.inj c).symm
  subst this;have d:prog.underlying 4=some .bool:=by kernel_rfl
  simp only [Ff,f];simp [asAddr,loadVar,d,e,go_sem]
 |n+1=>simp at a
attribute [local go_sem] Oper.semAt_some
set_option maxRecDepth 100000 in
set_option maxHeartbeats 1000000 in
theorem JV (n:Nat) (l kn ke ks cap:Nat) (an:Option Addr) (so sp:Nat→Int) (J Jx:List Int→World→Prop) (W:World) (cn:W.cell? ⟨kn,0,none⟩=some (.slice an 0 cap)) (h0:J [] W):
  CallsIn Fence.wide n prog 156 #[.func (.yield l) #[] #[],.pointer (some ⟨kn,0,none⟩),.pointer (some ⟨ke,0,none⟩),.pointer (some ⟨ks,0,none⟩)] W fun e W'=>(∃ v,e= .returned v)∧
   ((∃ ys,ys=jC so sp 0∧J ys W')∨(∃ pre,pre<+:jC so sp 0∧Jx pre W')):=by
 refine callsIn_of_wp Tryz.func156 rfl trivial ?_ rfl;simp only [Tryz.ntmps156,Xxe,τ,Xqf,Xwh,Xwi,Array.replicate_succ,Array.replicate_zero,Xzp,Xzc,Xqj,Xqz]
 gi_wp2
 gi_loopw [9] (fun i wr=>i= .int .i64 0∧J [] wr) (fun _ _=>0)
 case atStart=>exact ⟨rfl,h0⟩
 case round=>
  obtain ⟨rfl,hJs⟩:=hrel
  gi_wp2
  go_end0
  exact ⟨⟨_,rfl⟩,.inl ⟨_,rfl,hJs⟩⟩
theorem Ht (n:Nat) (v:2≤n) (kn e ks b c cap:Nat) (f:Option Addr) (E SC:AV) (ue us:Value) (a:List (List UInt8)) (r g:List UInt8→Int) (hreach:a.length*16≤140737488351232)
  (hso:∀ s ∈ a,CO 157 [E,SC,.int .i64 6,.str s] (.ret (.int .i64 (r s)))) (hsp:∀ s ∈ a,CO 157 [E,SC,.int .i64 8,.str s] (.ret (.int .i64 (g s))))
  (w:World) (hg:lw ap (bT w)) (hpr:a_ (bT w) [E,SC] [ue,us]) (hkn:kn<w.heap.size) (hke:e<w.heap.size) (hks:ks<w.heap.size)
  (cn:w.cell? ⟨kn,0,none⟩=some (.slice f a.length cap)) (ce:w.cell? ⟨e,0,none⟩=some ue) (cs:w.cell? ⟨ks,0,none⟩=some us)
  (hc:0<a.length→f=some ⟨b,c,none⟩∧b<w.heap.size∧∀ j,j<a.length→w.cell? ⟨b,c+j,none⟩=some (.string ⟨((a[j]?).getD []).toArray⟩)):
  SeqStopsK Fence.wide n prog 156 #[.pointer (some ⟨kn,0,none⟩),.pointer (some ⟨e,0,none⟩),.pointer (some ⟨ks,0,none⟩)] (fun x:Int=> #[Value.int .i64 x]) (Below w.heap.size)
   (fun z=>z=jC (fun k=>r ((a[k]?).getD [])) (fun k=>g ((a[k]?).getD [])) a.length) (fun q=>q<+:jC (fun k=>r ((a[k]?).getD [])) (fun k=>g ((a[k]?).getD [])) a.length) (2*a.length) w:=by
 intro l J Jx W m t _ y h0;have hm:∀ k,k<a.length→(a[k]?).getD [] ∈ a:=fun k d=>by rw [δ d];exact Xxq d
 by_cases h:0<a.length
 ·obtain ⟨rfl,u,o⟩:=hc h;exact L8 n v l kn e ks w.heap.size b c a.length cap E SC ue us (fun k=>(a[k]?).getD []) _ _ hreach (fun k d=>hso _ (hm k d)) (fun k d=>hsp _ (hm k d)) J Jx W t y m.size u hkn hke hks w rfl m hg hpr cn ce cs o h0
 ·have A:a.length=0:=by omega
  rw [A] at cn ⊢;exact JV n l kn e ks cap f _ _ J Jx W ((m.cell (p:=⟨kn,0,none⟩) hkn).trans cn) h0
set_option maxRecDepth 100000 in
set_option maxHeartbeats 2000000 in
theorem LJ (E SC:AV) (hck:CO 111 [E] (.ret (.int .i64 0))) (ns:List (List UInt8)) (so sp:List UInt8→Int) (hreach:ns.length*16≤140737488351232)
  (hso:∀ s ∈ ns,CO 157 [E,SC,.int .i64 6,.str s] (.ret (.int .i64 (so s)))) (hsp:∀ s ∈ ns,CO 157 [E,SC,.int .i64 8,.str s] (.ret (.int .i64 (sp s)))) (n:Nat) (hn:4≤n)
  (a1 a2 an:Option Addr) (l1 l2 c1 c2 cap b off:Nat) (w:World) (hg:lw ap (bT w)) (hpr:a_ (bT w) [E,SC] [.slice a1 l1 c1,.slice a2 l2 c2])
  (hc:0<ns.length→an=some ⟨b,off,none⟩∧∀ j,j<ns.length→w.cell? ⟨b,off+j,none⟩=some (.string ⟨((ns[j]?).getD []).toArray⟩)):
  CallsIn Fence.wide n prog 68 #[.slice a1 l1 c1,.slice a2 l2 c2,.slice an ns.length cap] w fun e w'=>e= .returned (.bool ((jC (fun k=>so ((ns[k]?).getD [])) (fun k=>sp ((ns[k]?).getD [])) ns.length).all fun x=>decide (x≤1)))∧Below w.heap.size w w':=by
 have h21:Fence.wide.fn 111:=trivial;have h47:Fence.wide.fn 112:=trivial;have h1n:1≤n:=by omega
 have ha:Below w.heap.size w (w.alloc (.cells #[.bool false] 4)):=(Below.refl _ w).alloc (ζ _) _;have hpe:a_ (bT w) [E] [.slice a1 l1 c1]:=by simp only [a_] at hpr ⊢;exact ⟨hpr.1,trivial⟩
 refine callsIn_of_wp_marks Tryz.func68 rfl trivial ?_ rfl;simp only [Tryz.ntmps68,Xxe,τ,Xqf,Xwh,Xwi,Array.replicate_succ,Array.replicate_zero,Xzp,Xzc,Xqj,Xqz]
 gi_wp2_with (first
  |(gi_at_call 111;refine (yt hck (wS ha hg) (aW (oz ha) _ hpe)).mono ?_;rintro e W1 ⟨rfl,hb1⟩)
  |(gi_at_call 112;refine (Qh a1 a2 an l1 l2 ns.length c1 c2 cap _ _).mono ?_;rintro e W2 ⟨rfl,rfl⟩)
  |gi_in)
 obtain ⟨W3,hW3⟩:∃ W3,((W1.alloc (.cells #[.slice a1 l1 c1] 54)).alloc (.cells #[.slice a2 l2 c2] 30)).alloc (.cells #[.slice an ns.length cap] 135)=W3:=⟨_,rfl⟩
 rw [hW3];have hs3:W3.heap.size=W1.heap.size+3:=by rw [← hW3];simp
 have hb3:Below W1.heap.size W1 W3:=by rw [← hW3];exact (((Below.refl _ W1).alloc (ζ _) _).alloc (by simp) _).alloc (by simp;omega) _
 have hs1:w.heap.size+1≤W1.heap.size:=by have:=hb1.size;simpa using this
 have hwW1:Below w.heap.size w W1:=ha.trans (hb1.mono (by simp));have hw3:Below w.heap.size w W3:=hwW1.trans (hb3.mono (by omega));have k1:W3.cell? ⟨W1.heap.size,0,none⟩=some (.slice a1 l1 c1):=by rw [← hW3];exact (((Boxed.new W1 54 (.slice a1 l1 c1)).alloc _).alloc _).cell
 have k2:W3.cell? ⟨W1.heap.size+1,0,none⟩=some (.slice a2 l2 c2):=by
  have:=((Boxed.new (W1.alloc (.cells #[.slice a1 l1 c1] 54)) 30 (.slice a2 l2 c2)).alloc (.cells #[.slice an ns.length cap] 135)).cell;rw [World.size_alloc] at this;rw [← hW3];exact this
 have k3:W3.cell? ⟨W1.heap.size+2,0,none⟩=some (.slice an ns.length cap):=by
  have:=(Boxed.new ((W1.alloc (.cells #[.slice a1 l1 c1] 54)).alloc (.cells #[.slice a2 l2 c2] 30)) 135 (.slice an ns.length cap)).cell;rw [World.size_alloc,World.size_alloc] at this;rw [← hW3];exact this
 have kc:W3.cell? ⟨w.heap.size,0,none⟩=some (.bool false):=((hb3.cell (p:=⟨w.heap.size,0,none⟩) hs1).trans (hb1.cell (p:=⟨w.heap.size,0,none⟩) (by simp))).trans (Boxed.new w 4 (.bool false)).cell;have kf:W3.frozen? ⟨w.heap.size,0,none⟩=false:=((hb3.frozen (p:=⟨w.heap.size,0,none⟩) hs1).trans (hb1.frozen (p:=⟨w.heap.size,0,none⟩) (by simp))).trans (Boxed.new w 4 (.bool false)).frozen;have hc3:0<ns.length→an=some ⟨b,off,none⟩∧b<W3.heap.size∧∀ j,j<ns.length→W3.cell? ⟨b,off+j,none⟩=some (.string ⟨((ns[j]?).getD []).toArray⟩):=by
  intro h;obtain ⟨h1,h2⟩:=hc h;have hbl:b<w.heap.size:=World.block_lt_of_cell? w ⟨b,off+0,none⟩ (h2 0 h);exact ⟨h1,by omega,fun j hj=>(hw3.cell (p:=⟨b,off+j,none⟩) hbl).trans (h2 j hj)⟩
 have oB:∀ {A B:World} {row:Option Nat},Below w.heap.size w A→A.grownBy B row→(∀ r,row=some r→W3.heap.size≤r∧∃ o:Obj,A.heap[r]? =some o∧o.isCells=false)→Below w.heap.size w B:=
  fun h hg hr=>ownFrom_below (β:=Unit) (n₀:=w.heap.size) (B:=W3.heap.size) (w₀:=w) (ζ _) hw3.size () _ _ _ h hg hr
 have oC:∀ {A:World} {D:Nat} {o:Obj} {v:Value},W3.heap.size≤D→A.cell? ⟨w.heap.size,0,none⟩=some v→(A.putObj D o).cell? ⟨w.heap.size,0,none⟩=some v:=
  fun {A D o v} hD hv=>(World.cell?_of_block (World.putObj_heap_other (show w.heap.size ≠ D by omega))).trans hv
 have pB:∀ {A:World} {D:Nat} {o:Obj},W3.heap.size≤D→Below w.heap.size w A→Below w.heap.size w (A.putObj D o):=
  fun {A D o} hD h=>h.trans ((Below.refl _ A).grown (grownBy_putObj' A D o) h.size (fun k e=>by cases e;omega))
 refine wpIn_rangeFunc_ownF rfl h1n (gf:=156) (lb:=#[.pointer (some ⟨W1.heap.size+2,0,none⟩),.pointer (some ⟨W1.heap.size,0,none⟩),.pointer (some ⟨W1.heap.size+1,0,none⟩)]) rfl trivial (enters_of Tryz.func156 (by kernel_rfl) rfl)
  (Ht (n - 1) (by omega) (W1.heap.size+2) W1.heap.size (W1.heap.size+1) b off cap an E SC _ _ ns so sp hreach hso hsp W3 (wS hw3 hg) (aW (oz hw3) _ hpr) (by omega) (by omega) (by omega) k3 k1 k2 hc3)
  (fun h k=>h.trans k) (fun W l o o' hl h hc hw=>belowK_b (ζ _) W l o o' hl h hc hw) (Below.refl _ _) (fun _=>rfl)
  (fun pre W=>(∀ x ∈ pre,x≤1)∧W.cell? ⟨w.heap.size,0,none⟩=some (.bool false)∧W.frozen? ⟨w.heap.size,0,none⟩=false∧Below w.heap.size w W)
  (fun c pre W=>c= .ret∧(∃ x ∈ pre,¬ x≤1)∧W.cell? ⟨w.heap.size,0,none⟩=some (.bool false)∧Below w.heap.size w W)
  (fun s A B row hs hg hr=> ⟨hs.1,cell_kept hs.2.1 hg (fun r e=>(hr r e).2),(frozen_kept hs.2.1 hg (fun r e=>(hr r e).2)).trans hs.2.2.1,oB hs.2.2.2 hg hr⟩)
  (fun c s A B row hs hg hr=> ⟨hs.1,hs.2.1,cell_kept hs.2.2.1 hg (fun r e=>(hr r e).2),oB hs.2.2.2 hg hr⟩)
  ⟨by simp,kc,kf,hw3⟩
  (fun x=> {tmps:=#[.slice a1 l1 c1,.slice a2 l2 c2,.slice an ns.length cap,undef,undef,undef,.pointer (some ⟨w.heap.size,0,none⟩),.int .i64 x,.slice a1 l1 c1,.int .i64 0,.bool false,.slice a1 l1 c1,.slice a2 l2 c2,.slice an ns.length cap,.func (.func 156) #[] #[.pointer (some ⟨W1.heap.size+2,0,none⟩),.pointer (some ⟨W1.heap.size,0,none⟩),.pointer (some ⟨W1.heap.size+1,0,none⟩)],.int .i64 x,undef,undef],defers:= []}) ?assign ?body ?done ?stop
 case assign=>
  intro l x W K hK
  gi_wp2
  exact hK
 case body=>
  rintro l pre x W ⟨hp,hcW,hfW,hbW⟩ _
  by_cases hx:x≤1
  ·have hx1:¬ (1<x):=by omega
   gi_wp2
   exact ⟨KeepsOthers.refl _,Below.refl _ _,(fun y hy=>by rcases List.mem_append.1 hy with h|h;exact hp y h;rw [List.mem_singleton.1 h];exact hx),hcW,hfW,hbW⟩
  ·have hx1:1<x:=by omega
   gi_wp2
   exact ⟨KeepsOthers.setCell _ _ _,rfl,⟨x,by simp,hx⟩,World.cell?_setCell_same' _ _ _ (by rw [hcW];rfl),hbW.setCell (p:=⟨w.heap.size,0,none⟩) (ζ _) _⟩
 case done=>
  rintro D xs W hD rfl ⟨hp,hcW,hfW,hbW⟩ hK
  gi_wp2
  have hK':(W.setCell ⟨w.heap.size,0,none⟩ (.bool true)).heap[D]? =some (.deferred (some [])):=(Below.heap_setCell W ⟨w.heap.size,0,none⟩ (.bool true) D (by show D ≠ w.heap.size;omega)).trans hK;refine ⟨by simp,.inl ⟨_,_,rfl,run_takeDeferred hK', ?_⟩⟩;refine ⟨_,Yr rfl (oC hD (World.cell?_setCell_same' _ _ _ (by rw [hcW];rfl))), ?_,pB hD (hbW.setCell (p:=⟨w.heap.size,0,none⟩) (ζ _) _)⟩;congr 2;exact (List.all_eq_true.2 fun x hx=>Yq0 (hp x hx)).symm
 case stop=>
  rintro D c pre W hD hSp ⟨rfl,⟨x,hx,hx1⟩,hcW,hbW⟩ hK
  gi_wp2
  refine ⟨by simp,.inl ⟨_,_,rfl,run_takeDeferred hK, ?_⟩⟩;refine ⟨_,Yr rfl (oC hD hcW), ?_,pB hD hbW⟩;congr 2;obtain ⟨r,hr⟩:=hSp;symm;rw [Xjf];intro h;rw [← hr] at h;have h2:=of_decide_eq_true (List.all_eq_true.1 h x (List.mem_append.2 (.inl hx)));omega
def PQ (x:AV):Prop:=x= .nilS∨∃ l n b,x= .sl l n b
theorem PQ.val {S:au} {x:AV} {v:Value} (h:PQ x) (d:PR S x v):∃ a l c,v= .slice a l c:=by
 rcases h with rfl|⟨l,n,b,rfl⟩
 ·simp only [PR] at d;exact ⟨_,_,_,d⟩
 ·simp only [PR] at d;obtain ⟨a,cap,rfl,_⟩:=d;exact ⟨_,_,_,rfl⟩
def U2 (ns:List (List UInt8)) (b:Bool):AV:= .sl (ns.map .str) ns.length b
theorem U3 {S:au} {d:List (List UInt8)} {b:Bool} {v:Value} (e:PR S (U2 d b) v):∃ an cap k c,v= .slice an d.length cap∧(0<d.length→an=some ⟨k,c,none⟩∧∀ j,j<d.length→S k (c+j)=some (.string ⟨((d[j]?).getD []).toArray⟩)):=by
 simp only [U2,PR] at e;obtain ⟨a,cap,rfl,_,h⟩:=e;rcases h with ⟨_,_,h,_⟩|⟨k,c,vs,rfl,l,m⟩
 ·exact ⟨a,cap,0,0,rfl,fun n=>absurd h (by omega)⟩
 ·refine ⟨_,cap,k,c,rfl,fun _=> ⟨rfl,fun j g=> ?_⟩⟩;obtain ⟨u,f,hp⟩:=MI l j (x:= .str ((d[j]?).getD [])) (by rw [φ,δ g];rfl);simp only [PR] at hp;rw [← hp];exact (m j u f).1
theorem acM:oV prog 68:=enters_of Tryz.func68 (by kernel_rfl) rfl
theorem LH {args:List AV} {b:Bool} (h:∀ w cargs,lw ap (bT w)→a_ (bT w) args cargs→CallsIn Fence.wide 9 prog 68 cargs.toArray w fun e w'=>e= .returned (.bool b)∧Below w.heap.size w w'):CO 68 args (.ret (.bool b)):=by
 refine ⟨ζ _,acM, ?_⟩;intro m S w cargs d p;have a:gK S (bT w):=fun k o v c=>d.sealed k o v c
 have l:lw ap (bT w):=by
  intro k n c;obtain ⟨vs,q,g⟩:=d.glob k n c;exact ⟨vs,aW a _ q,fun j u f=> ⟨a _ _ _ (g j u f).1,(g j u f).2⟩⟩
 refine (callsIn_wide.1 (h w cargs l (aW a _ (jb (m:=m) _ p)))).mono ?_
 rintro e w' ⟨rfl,hb⟩
 refine ⟨m,S, ?_, ?_,⟨_,rfl, ?_⟩⟩
 ·exact ⟨fun b r B B' h=>by simp [ax,h_,iE] at h,fun b B h=>by simp [ax,h_,iE] at h,fun k o v h=>oz hb k o v (a k o v h),fun b B h=>by simp [ax,h_,iE] at h,d.glob⟩
 ·exact ⟨Ge.refl _ _,gK.refl S,hb.os,hb.tape,hb.output,hb.size,fun k c _=>hb.block k c,fun _ B h=>by simp [ax,h_,iE] at h,fun _ _ _ h=> .inl h,fun _ B h=>by simp [ax,h_,iE] at h⟩
 ·simp only [uV,VR,PR]
theorem Dz (E SC:AV) (b:Bool) (D:PQ E) (m:PQ SC) (l:CO 111 [E] (.ret (ω 0))) (a:List (List UInt8)) (d c:List UInt8→Int) (hreach:a.length*16≤140737488351232)
  (hso:∀ s ∈ a,CO 157 [E,SC,ω 6,.str s] (.ret (ω (d s)))) (hsp:∀ s ∈ a,CO 157 [E,SC,ω 8,.str s] (.ret (ω (c s)))):
  CO 68 [E,SC,U2 a b] (.ret (.bool (a.all fun s=>decide (d s≤1) && decide (c s≤1)))):=by
 have e:(a.all fun s=>decide (d s≤1) && decide (c s≤1))=(jC (fun k=>d ((a[k]?).getD [])) (fun k=>c ((a[k]?).getD [])) a.length).all fun x=>decide (x≤1):=by
  have:a=(Ψ a.length).map fun k=>(a[k]?).getD []:=by
   apply List.ext_getElem
   ·simp
   ·intro i f o;simp [δ f]
  conv=>lhs;rw [this]
  simp [jC,List.all_flatMap,List.all_map,Function.comp_def]
 rw [e];refine LH fun w cargs r g=> ?_
 match cargs,g with
 | [ue,us,un],g=>
  simp only [a_] at g;obtain ⟨f,o,v,_⟩:=g;obtain ⟨t,C,z,rfl⟩:=D.val f;obtain ⟨B,y,u,rfl⟩:=m.val o;obtain ⟨q,cap,k,n,rfl,p⟩:=U3 v;exact LJ E SC l a d c hreach hso hsp 9 (by omega) t B q C y z u cap k n w r (by simp only [a_];exact ⟨f,o,trivial⟩) fun h=> ⟨(p h).1,fun j A=>sV ((p h).2 j A) rfl⟩
end Go.Proofs.Tryz
