/- Contracts of functions that the law reaches, each by its own hypotheses; joined by a program of mine. -/
import Derived.Test.YtcjindbblhcopaaGreatDoorC2
import Derived.Test.YtcjindbblhcopaaGreatDoorM5
import Derived.Test.YtcjindbblhcopaaGreatDoorC1
import Derived.Test.YtcjindbblhcopaaGreatDoorM4
import Derived.Test.YtcjindbblhcopaaGreatDoorCards
import Derived.Test.YtcjindbblhcopaaGreatDoorTie
import Derived.Deep.DeepHandedRow
set_option linter.unusedSimpArgs false
set_option linter.unusedVariables false
set_option maxRecDepth 100000
open Go AM
namespace Go.Proofs.Tryz
theorem wd1 {k:Nat} (h:k<2^62):AV.int .i64 (IntKind.wrap .i64 ((k:Int)+((1:Nat):Int)))= .int .i64 ((k+1:Nat):Int):=by
 have e:IntKind.wrap .i64 ((k:Int)+((1:Nat):Int))=((k+1:Nat):Int):=by rw [auI]<;>omega
 rw [e]
theorem nnW (k:Nat):decide (((0:Nat):Int)≤(k:Int))=true:=decide_eq_true (by omega)
theorem avS {k n:Nat} (h:k<n):decide ((k:Int)<(n:Int))=true:=decide_eq_true (by omega)
theorem aL6 {k n:Nat} (h:k≤n):decide ((k:Int)≤(n:Int))=true:=decide_eq_true (by omega)
def azt (w:List UInt8):List UInt8→Nat
 | []=>0
 |c::r=>if w.any (fun b=>c==b) then azt w r+1 else 0
theorem aG2 (w:List UInt8):∀ s,azt w s≤s.length
 | []=>Nat.le_refl _
 |c::r=>by
  unfold azt
  split
  ·have:=aG2 w r;simp only [List.length_cons];omega
  ·exact Nat.zero_le _
theorem aTg (a b:UInt8):((a.toNat:Int)==(b.toNat:Int))=(a==b):=by
 by_cases h:a=b
 ·subst h;simp
 ·have:a.toNat ≠ b.toNat:=fun e=>h (UInt8.toNat_inj.1 e)
  rw [beq_eq_false_iff_ne.2 h,beq_eq_false_iff_ne.2 (by omega)]
def wia (s w:List UInt8) (bg:Int) (bd:Bool) (n:Nat) (p:Nat × Bool):St:=⟨[(0,.ptr 0 0 0),(1,.str w),(5,.int .i64 (n:Int)),(6,.bool p.2),(7,.int .i64 (p.1:Int))],[(0,⟨[.str s,.nilS,.int .i64 bg,.bool bd],0,false,0,0,true⟩)],.dead,[]⟩
def woa (s w:List UInt8) (bg:Int) (bd:Bool) (n:Nat) (inn:Bool):St:=⟨[(0,.ptr 0 0 0),(1,.str w),(5,.int .i64 (n:Int)),(6,.bool inn)],[(0,⟨[.str s,.nilS,.int .i64 bg,.bool bd],0,false,0,0,true⟩)],.dead,[]⟩
theorem wla {nt:Nat} (hn:55≤nt) (s w:List UInt8) (bg:Int) (bd:Bool) (n:Nat) (hns:n<s.length) (hw:w.length<2^40):∀ (d k:Nat) (inn:Bool),k+d=w.length→
  aea prog ap [⟨[.str s,.nilS,.int .i64 bg,.bool bd],0,false,0,0,true⟩] nt (lT 2 (adW f92)) (fun _=> .exit 2) (wia s w bg bd n) (woa s w bg bd n) (k,inn) (inn||(w.drop k).any (fun b=>s.getD n 0==b)):=by
 intro d
 induction d with
 |zero=>
  intro k inn hk
  have b0:(decide ((k:Int)<(((List.length w):Nat):Int)))=false:=decide_eq_false (by omega)
  rw [List.drop_of_length_le (by omega),List.any_nil,Bool.or_false]
  exact .done (pN 92 [] 1 0 (.c (akx b0) .nil) (.nil) hn)
 | succ d ih=>
  intro k inn hk
  have b0:(decide ((k:Int)<(((List.length w):Nat):Int)))=true:=decide_eq_true (by omega)
  have hkl:k<w.length:=by omega
  have hw:k<2^62:=by omega
  have e1:(w.drop k).any (fun b=>s.getD n 0==b)=(s.getD n 0==w.getD k 0||(w.drop (k+1)).any (fun b=>s.getD n 0==b)):=by
   rw [List.drop_eq_getElem_cons hkl,List.any_cons,List.getD_eq_getElem?_getD,List.getD_eq_getElem?_getD (l:=w),List.getElem?_eq_getElem hkl];rfl
  rw [e1]
  rcases tf inn with b1|b1
  ·have:=ih (k+1) true (by omega)
   rw [Bool.true_or] at this
   rw [show (inn||(s.getD n 0==w.getD k 0||(w.drop (k+1)).any (fun b=>s.getD n 0==b)))=true by rw [b1,Bool.true_or]]
   exact .next (pN 92 [] 2 3 (.c (aeF b1) (.c (aeF b0) .nil)) (.v 7 (.eq (wd1 hw)) .nil) hn) this
  ·have:=ih (k+1) (s.getD n 0==w.getD k 0) (by omega)
   rw [show (inn||(s.getD n 0==w.getD k 0||(w.drop (k+1)).any (fun b=>s.getD n 0==b)))=(s.getD n 0==w.getD k 0||(w.drop (k+1)).any (fun b=>s.getD n 0==b)) by rw [b1,Bool.false_or]]
   rw [← aTg (s.getD n 0) (w.getD k 0)] at this ⊢
   exact .next (pN 92 [] 2 1 (.c (nnW k) (.c (avS hkl) (.c (nnW n) (.c (avS hns) (.k 1 (akx b1) (.c (aeF b0) .nil)))))) (.v 7 (.eq (wd1 hw)) .nil) hn) this
def wsa (s w:List UInt8) (bg:Int) (bd:Bool) (n:Nat):St:=⟨[(0,.ptr 0 0 0),(1,.str w),(5,.int .i64 (n:Int))],[(0,⟨[.str s,.nilS,.int .i64 bg,.bool bd],0,false,0,0,true⟩)],.dead,[]⟩
def wra (s w:List UInt8) (bg:Int) (bd:Bool) (n:Nat):St:=⟨[(0,.ptr 0 0 0),(5,.int .i64 (n:Int))],[(0,⟨[.str s,.nilS,.int .i64 bg,.bool bd],0,false,0,0,true⟩)],.dead,[]⟩
theorem wma {nt:Nat} (hn:55≤nt) (s w:List UInt8) (bg:Int) (bd:Bool) (hs:s.length<2^40) (hw:w.length<2^40):∀ (r p:List UInt8),p++r=s→
  aea prog ap [⟨[.str s,.nilS,.int .i64 bg,.bool bd],0,false,0,0,true⟩] nt (lT 0 (adW f92)) (fun _=> .exit 0) (wsa s w bg bd) (wra s w bg bd) p.length (p.length+azt w r):=by
 intro r
 induction r with
 |nil=>
  intro p hp
  have hl:p.length=s.length:=by rw [← hp];simp
  generalize p.length=n at*
  have b0:(decide ((n:Int)<(((List.length s):Nat):Int)))=false:=decide_eq_false (by omega)
  exact .done (pN 92 [2] 1 0 (.c (akx b0) (.n 1 .nil)) (.nil) hn)
 | cons c r ih=>
  intro p hp
  have hl:p.length<s.length:=by rw [← hp];simp
  have hc:s.getD p.length 0=c:=by rw [← hp,List.getD_eq_getElem?_getD];simp
  have hnx:=ih (p++ [c]) (by rw [← hp];simp)
  rw [List.length_append,List.length_singleton] at hnx
  unfold azt
  generalize p.length=n at*
  have b0:(decide ((n:Int)<(((List.length s):Nat):Int)))=true:=decide_eq_true (by omega)
  have hw':n<2^62:=by omega
  have l0:∀ inn,inn=w.any (fun b=>c==b)→ajS prog ap [⟨[.str s,.nilS,.int .i64 bg,.bool bd],0,false,0,0,true⟩] 55 (.block 2 (.loop (lT 2 (adW f92)))) ⟨[(0,.ptr 0 0 0),(1,.str w),(4,.dead),(5,.int .i64 (n:Int)),(6,.bool false),(7,.int .i64 0),(8,.dead),(15,.bool (decide ((n:Int)<(((List.length s):Nat):Int)))),(19,.dead),(36,.dead)],[(0,⟨[.str s,.nilS,.int .i64 bg,.bool bd],0,false,0,0,true⟩)],.dead,[]⟩ (.normal) ⟨[(0,.ptr 0 0 0),(1,.str w),(5,.int .i64 (n:Int)),(6,.bool inn)],[(0,⟨[.str s,.nilS,.int .i64 bg,.bool bd],0,false,0,0,true⟩)],.dead,[]⟩:=by
   intro inn hi
   have h:∀ nt,55≤nt→aea prog ap [⟨[.str s,.nilS,.int .i64 bg,.bool bd],0,false,0,0,true⟩] nt (lT 2 (adW f92)) (fun _=> .exit 2) (wia s w bg bd n) (woa s w bg bd n) (0,false) inn:=by
    intro nt hn
    have:=wla hn s w bg bd n hl hw w.length 0 false (Nat.zero_add _)
    rw [List.drop_zero,hc,Bool.false_or,← hi] at this
    exact this
   exact aea.blk h (by simp) rfl (anT.of ⟨rfl,rfl,rfl,rfl,rfl,trivial⟩) (anT.of ⟨rfl,rfl,rfl,rfl,trivial⟩)
  rcases tf (w.any (fun b=>c==b)) with b1|b1
  ·rw [if_pos b1]
   have hi:(true:Bool)=w.any (fun b=>c==b):=b1.symm
   have l0:=l0 true hi
   rw [show n+(azt w r+1)=n+1+azt w r by omega]
   have hw:=hw'
   exact .next (pN 92 [2] 2 1 (.k 1 (aeF b0) (.n 1 .nil)) (.v 38 (.eq (wd1 hw)) (.l l0 .nil)) hn) hnx
  ·rw [if_neg (by rw [b1];decide)]
   have hi:(false:Bool)=w.any (fun b=>c==b):=b1.symm
   have l0:=l0 false hi
   exact .done (pN 92 [2] 2 3 (.k 1 (aeF b0) (.n 1 .nil)) (.l l0 .nil) hn)
theorem wfa (s w:List UInt8) (bg:Int) (bd:Bool) (n:Nat) (hns:n≤s.length) (l0:ajS prog ap [⟨[.str s,.nilS,.int .i64 bg,.bool bd],0,false,0,0,true⟩] 55 (.block 0 (.loop (lT 0 (adW f92)))) ⟨[(0,.ptr 0 0 0),(1,.str w),(4,.str []),(5,.int .i64 0),(6,.dead),(7,.dead),(8,.dead),(15,.dead),(19,.dead),(36,.dead)],[(0,⟨[.str s,.nilS,.int .i64 bg,.bool bd],0,false,0,0,true⟩)],.dead,[]⟩ (.normal) ⟨[(0,.ptr 0 0 0),(5,.int .i64 (n:Int))],[(0,⟨[.str s,.nilS,.int .i64 bg,.bool bd],0,false,0,0,true⟩)],.dead,[]⟩):ad1 prog ap 92 [.ptr 0 0 0,.str w] [⟨[.str s,.nilS,.int .i64 bg,.bool bd],0,false,0,0,true⟩] (.ret (.str (List.drop 0 (List.take (Int.toNat (n:Int)) s)))) [⟨[.str (List.drop (Int.toNat (n:Int)) (List.take (Int.toNat (((List.length s):Nat):Int)) s)),.nilS,.int .i64 bg,.bool bd],0,false,0,0,true⟩]:=pK [0] 0 0 (.k 1 (nnW n) (.c (aL6 hns) (.c (aL6 (Nat.le_refl s.length)) (.k 2 (nnW n) (.c (aL6 hns) (.n 1 .nil)))))) (.l l0 .nil)
theorem avw (s w:List UInt8) (bg:Int) (bd:Bool) (hs:s.length<2^40) (hw:w.length<2^40):ad1 prog ap 92 [.ptr 0 0 0,.str w] [⟨[.str s,.nilS,.int .i64 bg,.bool bd],0,false,0,0,true⟩] (.ret (.str (List.drop 0 (List.take (Int.toNat ((azt w s:Nat):Int)) s)))) [⟨[.str (List.drop (Int.toNat ((azt w s:Nat):Int)) (List.take (Int.toNat (((List.length s):Nat):Int)) s)),.nilS,.int .i64 bg,.bool bd],0,false,0,0,true⟩]:=by
 have h:∀ nt,55≤nt→aea prog ap [⟨[.str s,.nilS,.int .i64 bg,.bool bd],0,false,0,0,true⟩] nt (lT 0 (adW f92)) (fun _=> .exit 0) (wsa s w bg bd) (wra s w bg bd) 0 (azt w s):=by
  intro nt hn
  have:=wma hn s w bg bd hs hw s [] rfl
  rw [List.length_nil,Nat.zero_add] at this
  exact this
 exact wfa s w bg bd (azt w s) (aG2 w s) (aea.blk h (by simp) rfl (anT.of ⟨rfl,rfl,rfl,trivial⟩) (anT.of ⟨rfl,rfl,trivial⟩))
def wib (s w:List UInt8) (bg:Int) (bd:Bool) (m:Nat) (os:List AV) (n:Nat) (p:Nat × Bool):St:=⟨[(0,.ptr 0 0 0),(1,.str w),(5,.int .i64 (n:Int)),(6,.bool p.2),(7,.int .i64 (p.1:Int))],[(0,⟨[.str s,.ref 1 0 0 m,.int .i64 bg,.bool bd],0,false,0,0,false⟩),(1,⟨os,0,false,0,5,true⟩)],.dead,[]⟩
def wob (s w:List UInt8) (bg:Int) (bd:Bool) (m:Nat) (os:List AV) (n:Nat) (inn:Bool):St:=⟨[(0,.ptr 0 0 0),(1,.str w),(5,.int .i64 (n:Int)),(6,.bool inn)],[(0,⟨[.str s,.ref 1 0 0 m,.int .i64 bg,.bool bd],0,false,0,0,false⟩),(1,⟨os,0,false,0,5,true⟩)],.dead,[]⟩
theorem wlb {nt:Nat} (hn:55≤nt) (s w:List UInt8) (bg:Int) (bd:Bool) (m:Nat) (os:List AV) (n:Nat) (hns:n<s.length) (hw:w.length<2^40):∀ (d k:Nat) (inn:Bool),k+d=w.length→
  aea prog ap [⟨[.str s,.ref 1 0 0 m,.int .i64 bg,.bool bd],0,false,0,0,false⟩,⟨os,0,false,0,5,true⟩] nt (lT 2 (adW f92)) (fun _=> .exit 2) (wib s w bg bd m os n) (wob s w bg bd m os n) (k,inn) (inn||(w.drop k).any (fun b=>s.getD n 0==b)):=by
 intro d
 induction d with
 |zero=>
  intro k inn hk
  have b0:(decide ((k:Int)<(((List.length w):Nat):Int)))=false:=decide_eq_false (by omega)
  rw [List.drop_of_length_le (by omega),List.any_nil,Bool.or_false]
  exact .done (pN 92 [] 1 0 (.c (akx b0) .nil) (.nil) hn)
 | succ d ih=>
  intro k inn hk
  have b0:(decide ((k:Int)<(((List.length w):Nat):Int)))=true:=decide_eq_true (by omega)
  have hkl:k<w.length:=by omega
  have hw:k<2^62:=by omega
  have e1:(w.drop k).any (fun b=>s.getD n 0==b)=(s.getD n 0==w.getD k 0||(w.drop (k+1)).any (fun b=>s.getD n 0==b)):=by
   rw [List.drop_eq_getElem_cons hkl,List.any_cons,List.getD_eq_getElem?_getD,List.getD_eq_getElem?_getD (l:=w),List.getElem?_eq_getElem hkl];rfl
  rw [e1]
  rcases tf inn with b1|b1
  ·have:=ih (k+1) true (by omega)
   rw [Bool.true_or] at this
   rw [show (inn||(s.getD n 0==w.getD k 0||(w.drop (k+1)).any (fun b=>s.getD n 0==b)))=true by rw [b1,Bool.true_or]]
   exact .next (pN 92 [] 2 3 (.c (aeF b1) (.c (aeF b0) .nil)) (.v 7 (.eq (wd1 hw)) .nil) hn) this
  ·have:=ih (k+1) (s.getD n 0==w.getD k 0) (by omega)
   rw [show (inn||(s.getD n 0==w.getD k 0||(w.drop (k+1)).any (fun b=>s.getD n 0==b)))=(s.getD n 0==w.getD k 0||(w.drop (k+1)).any (fun b=>s.getD n 0==b)) by rw [b1,Bool.false_or]]
   rw [← aTg (s.getD n 0) (w.getD k 0)] at this ⊢
   exact .next (pN 92 [] 2 1 (.c (nnW k) (.c (avS hkl) (.c (nnW n) (.c (avS hns) (.k 1 (akx b1) (.c (aeF b0) .nil)))))) (.v 7 (.eq (wd1 hw)) .nil) hn) this
def wsb (s w:List UInt8) (bg:Int) (bd:Bool) (m:Nat) (os:List AV) (n:Nat):St:=⟨[(0,.ptr 0 0 0),(1,.str w),(5,.int .i64 (n:Int))],[(0,⟨[.str s,.ref 1 0 0 m,.int .i64 bg,.bool bd],0,false,0,0,false⟩),(1,⟨os,0,false,0,5,true⟩)],.dead,[]⟩
def wrb (s w:List UInt8) (bg:Int) (bd:Bool) (m:Nat) (os:List AV) (n:Nat):St:=⟨[(0,.ptr 0 0 0),(5,.int .i64 (n:Int))],[(0,⟨[.str s,.ref 1 0 0 m,.int .i64 bg,.bool bd],0,false,0,0,false⟩),(1,⟨os,0,false,0,5,true⟩)],.dead,[]⟩
theorem wmb {nt:Nat} (hn:55≤nt) (s w:List UInt8) (bg:Int) (bd:Bool) (m:Nat) (os:List AV) (hs:s.length<2^40) (hw:w.length<2^40):∀ (r p:List UInt8),p++r=s→
  aea prog ap [⟨[.str s,.ref 1 0 0 m,.int .i64 bg,.bool bd],0,false,0,0,false⟩,⟨os,0,false,0,5,true⟩] nt (lT 0 (adW f92)) (fun _=> .exit 0) (wsb s w bg bd m os) (wrb s w bg bd m os) p.length (p.length+azt w r):=by
 intro r
 induction r with
 |nil=>
  intro p hp
  have hl:p.length=s.length:=by rw [← hp];simp
  generalize p.length=n at*
  have b0:(decide ((n:Int)<(((List.length s):Nat):Int)))=false:=decide_eq_false (by omega)
  exact .done (pN 92 [2] 1 0 (.c (akx b0) (.n 1 .nil)) (.nil) hn)
 | cons c r ih=>
  intro p hp
  have hl:p.length<s.length:=by rw [← hp];simp
  have hc:s.getD p.length 0=c:=by rw [← hp,List.getD_eq_getElem?_getD];simp
  have hnx:=ih (p++ [c]) (by rw [← hp];simp)
  rw [List.length_append,List.length_singleton] at hnx
  unfold azt
  generalize p.length=n at*
  have b0:(decide ((n:Int)<(((List.length s):Nat):Int)))=true:=decide_eq_true (by omega)
  have hw':n<2^62:=by omega
  have l0:∀ inn,inn=w.any (fun b=>c==b)→ajS prog ap [⟨[.str s,.ref 1 0 0 m,.int .i64 bg,.bool bd],0,false,0,0,false⟩,⟨os,0,false,0,5,true⟩] 55 (.block 2 (.loop (lT 2 (adW f92)))) ⟨[(0,.ptr 0 0 0),(1,.str w),(4,.dead),(5,.int .i64 (n:Int)),(6,.bool false),(7,.int .i64 0),(8,.dead),(15,.bool (decide ((n:Int)<(((List.length s):Nat):Int)))),(19,.dead),(36,.dead)],[(0,⟨[.str s,.ref 1 0 0 m,.int .i64 bg,.bool bd],0,false,0,0,false⟩),(1,⟨os,0,false,0,5,true⟩)],.dead,[]⟩ (.normal) ⟨[(0,.ptr 0 0 0),(1,.str w),(5,.int .i64 (n:Int)),(6,.bool inn)],[(0,⟨[.str s,.ref 1 0 0 m,.int .i64 bg,.bool bd],0,false,0,0,false⟩),(1,⟨os,0,false,0,5,true⟩)],.dead,[]⟩:=by
   intro inn hi
   have h:∀ nt,55≤nt→aea prog ap [⟨[.str s,.ref 1 0 0 m,.int .i64 bg,.bool bd],0,false,0,0,false⟩,⟨os,0,false,0,5,true⟩] nt (lT 2 (adW f92)) (fun _=> .exit 2) (wib s w bg bd m os n) (wob s w bg bd m os n) (0,false) inn:=by
    intro nt hn
    have:=wlb hn s w bg bd m os n hl hw w.length 0 false (Nat.zero_add _)
    rw [List.drop_zero,hc,Bool.false_or,← hi] at this
    exact this
   exact aea.blk h (by simp) rfl (anT.of ⟨rfl,rfl,rfl,rfl,rfl,trivial⟩) (anT.of ⟨rfl,rfl,rfl,rfl,trivial⟩)
  rcases tf (w.any (fun b=>c==b)) with b1|b1
  ·rw [if_pos b1]
   have hi:(true:Bool)=w.any (fun b=>c==b):=b1.symm
   have l0:=l0 true hi
   rw [show n+(azt w r+1)=n+1+azt w r by omega]
   have hw:=hw'
   exact .next (pN 92 [2] 2 1 (.k 1 (aeF b0) (.n 1 .nil)) (.v 38 (.eq (wd1 hw)) (.l l0 .nil)) hn) hnx
  ·rw [if_neg (by rw [b1];decide)]
   have hi:(false:Bool)=w.any (fun b=>c==b):=b1.symm
   have l0:=l0 false hi
   exact .done (pN 92 [2] 2 3 (.k 1 (aeF b0) (.n 1 .nil)) (.l l0 .nil) hn)
theorem wfb (s w:List UInt8) (bg:Int) (bd:Bool) (m:Nat) (os:List AV) (n:Nat) (hns:n≤s.length) (l0:ajS prog ap [⟨[.str s,.ref 1 0 0 m,.int .i64 bg,.bool bd],0,false,0,0,false⟩,⟨os,0,false,0,5,true⟩] 55 (.block 0 (.loop (lT 0 (adW f92)))) ⟨[(0,.ptr 0 0 0),(1,.str w),(4,.str []),(5,.int .i64 0),(6,.dead),(7,.dead),(8,.dead),(15,.dead),(19,.dead),(36,.dead)],[(0,⟨[.str s,.ref 1 0 0 m,.int .i64 bg,.bool bd],0,false,0,0,false⟩),(1,⟨os,0,false,0,5,true⟩)],.dead,[]⟩ (.normal) ⟨[(0,.ptr 0 0 0),(5,.int .i64 (n:Int))],[(0,⟨[.str s,.ref 1 0 0 m,.int .i64 bg,.bool bd],0,false,0,0,false⟩),(1,⟨os,0,false,0,5,true⟩)],.dead,[]⟩):ad1 prog ap 92 [.ptr 0 0 0,.str w] [⟨[.str s,.ref 1 0 0 m,.int .i64 bg,.bool bd],0,false,0,0,false⟩,⟨os,0,false,0,5,true⟩] (.ret (.str (List.drop 0 (List.take (Int.toNat (n:Int)) s)))) [⟨[.str (List.drop (Int.toNat (n:Int)) (List.take (Int.toNat (((List.length s):Nat):Int)) s)),.ref 1 0 0 m,.int .i64 bg,.bool bd],0,false,0,0,false⟩,⟨os,0,false,0,5,true⟩]:=pK [0] 0 0 (.k 1 (nnW n) (.c (aL6 hns) (.c (aL6 (Nat.le_refl s.length)) (.k 2 (nnW n) (.c (aL6 hns) (.n 1 .nil)))))) (.l l0 .nil)
theorem awK (s w:List UInt8) (bg:Int) (bd:Bool) (m:Nat) (os:List AV) (hs:s.length<2^40) (hw:w.length<2^40):ad1 prog ap 92 [.ptr 0 0 0,.str w] [⟨[.str s,.ref 1 0 0 m,.int .i64 bg,.bool bd],0,false,0,0,false⟩,⟨os,0,false,0,5,true⟩] (.ret (.str (List.drop 0 (List.take (Int.toNat ((azt w s:Nat):Int)) s)))) [⟨[.str (List.drop (Int.toNat ((azt w s:Nat):Int)) (List.take (Int.toNat (((List.length s):Nat):Int)) s)),.ref 1 0 0 m,.int .i64 bg,.bool bd],0,false,0,0,false⟩,⟨os,0,false,0,5,true⟩]:=by
 have h:∀ nt,55≤nt→aea prog ap [⟨[.str s,.ref 1 0 0 m,.int .i64 bg,.bool bd],0,false,0,0,false⟩,⟨os,0,false,0,5,true⟩] nt (lT 0 (adW f92)) (fun _=> .exit 0) (wsb s w bg bd m os) (wrb s w bg bd m os) 0 (azt w s):=by
  intro nt hn
  have:=wmb hn s w bg bd m os hs hw s [] rfl
  rw [List.length_nil,Nat.zero_add] at this
  exact this
 exact wfb s w bg bd m os (azt w s) (aG2 w s) (aea.blk h (by simp) rfl (anT.of ⟨rfl,rfl,rfl,trivial⟩) (anT.of ⟨rfl,rfl,trivial⟩))
theorem toK {p q:Prop} (h:p) (e:p=q):q:=e ▸ h
theorem aup {x:Nat} (h:x<2^128):(adF x).length<2^33:=Nat.lt_of_le_of_lt (avV (k:=16) h) (by decide)
theorem cm0:CO 115 [.agg [.bool false,.str [1],.str [1]]] (.ret (.bool true)):=toK (auH false [1] [1] (by decide) (by decide)) (by kernel_rfl)
theorem cm1:CO 174 [.agg [.bool false,.str [1],.str [1]]] (.ret (.agg [.bool false,.str [1],.str [1]])):=cK (.c cm0 .nil)
theorem cm2:CO 182 [.agg [.bool false,.str [1],.str [1]]] (.ret (.agg [.bool true,.str [1],.str [1]])):=cK (.c cm1 .nil)
theorem cm3:CO 115 [.agg [.bool false,.str [],.str [1]]] (.ret (.bool true)):=toK (auH false [] [1] (by decide) (by decide)) (by kernel_rfl)
theorem cm4:CO 174 [.agg [.bool false,.str [],.str [1]]] (.ret (.agg [.bool false,.str [],.str [1]])):=cK (.c cm3 .nil)
theorem cm5:CO 115 [.agg [.bool true,.str [1],.str [1]]] (.ret (.bool true)):=toK (auH true [1] [1] (by decide) (by decide)) (by kernel_rfl)
theorem cm6:CO 174 [.agg [.bool true,.str [1],.str [1]]] (.ret (.agg [.bool true,.str [1],.str [1]])):=cK (.c cm5 .nil)
theorem cm7:CO 161 [.sl [] 0 true] (.ret (.sl [] 0 true)):=cK (.nil)
theorem cm8:CO 136 [.str []] (.ret (.sl [] 0 true)):=cK (.c cm7 .nil)
theorem cm9:CO 161 [.sl [.int .u32 1] 1 true] (.ret (.sl [.int .u32 1] 1 true)):=cK (.nil)
theorem aCu:CO 136 [.str [1]] (.ret (.sl [.int .u32 1] 1 true)):=cK (.c cm9 .nil)
theorem a3D:CO 161 [.sl [.int .u32 0] 1 true] (.ret (.sl [] 0 true)):=cK (.nil)
theorem a3E:CO 189 [.sl [] 0 true,.sl [.int .u32 1] 1 true] (.ret (.sl [] 0 true)):=cK (.c a3D .nil)
theorem a3F:CO 162 [.str [],.str [0]] (.ret (.str [])):=cK (.nil)
theorem a3G:CO 134 [.sl [] 0 true] (.ret (.str [])):=cK (.c a3F (.c cm7 .nil))
theorem aG8:CO 175 [.str [],.str [1]] (.ret (.str [])):=cK (.c a3G (.c a3E (.c aCu (.c cm8 .nil))))
theorem a3H:CO 161 [.sl [.int .u32 1,.int .u32 0] 2 true] (.ret (.sl [.int .u32 1] 1 true)):=cK (.nil)
theorem a3I:CO 189 [.sl [.int .u32 1] 1 true,.sl [.int .u32 1] 1 true] (.ret (.sl [.int .u32 1] 1 true)):=cK (.c a3H .nil)
theorem a3J:CO 141 [.str [0,0,0,1],.int .u8 0] (.ret (.str [1])):=cK (.nil)
theorem a3K:CO 162 [.str [0,0,0,1],.str [0]] (.ret (.str [1])):=cK (.c a3J .nil)
theorem aYB:CO 134 [.sl [.int .u32 1] 1 true] (.ret (.str [1])):=cK (.c a3K (.c cm9 .nil))
theorem aFP:CO 175 [.str [1],.str [1]] (.ret (.str [1])):=cK (.c aYB (.c a3I (.c aCu (.c aCu .nil))))
theorem a3L:CO 183 [.sl [] 0 true,.sl [.int .u32 1] 1 true] (.ret (.int .i64 (-1))):=cK (.nil)
theorem a3M:CO 188 [.str [],.str [1]] (.ret (.tup [.str [],.bool false])):=cK (.c a3L (.c aCu (.c cm8 .nil)))
theorem a3N:CO 183 [.sl [.int .u32 1] 1 true,.sl [] 0 true] (.ret (.int .i64 1)):=cK (.nil)
theorem a3O:CO 204 [.sl [.int .u32 1] 1 true,.sl [] 0 true] (.ret (.sl [.int .u32 1] 1 true)):=cK (.c cm9 .nil)
theorem a3P:CO 188 [.str [1],.str []] (.ret (.tup [.str [1],.bool true])):=cK (.c aYB (.c a3O (.c a3N (.c cm8 (.c aCu .nil)))))
theorem a3Q:CO 139 [.bool true,.str [1],.str [1]] (.ret (.agg [.bool true,.str [1],.str [1]])):=toK (ayP true [1] [1] (by decide) (by decide) (by decide)) (by kernel_rfl)
theorem a3R:CO 172 [.agg [.bool false,.str [],.str [1]],.agg [.bool true,.str [1],.str [1]]] (.ret (.agg [.bool true,.str [1],.str [1]])):=cK (.c a3Q (.c a3P (.c a3M (.c aFP (.c aFP (.c aG8 (.c cm6 (.c cm4 .nil))))))))
theorem a3S:CO 158 [.agg [.bool false,.str [],.str [1]],.agg [.bool false,.str [1],.str [1]]] (.ret (.agg [.bool true,.str [1],.str [1]])):=cK (.c a3R (.c cm2 .nil))
theorem a3T:CO 85 [.agg [.bool true,.str [1],.str [1]]] (.ret (.int .i64 (-1))):=toK (avk true [1] [1] (by decide) (by decide)) (by kernel_rfl)
theorem a3U:CO 129 [.agg [.bool false,.str [],.str [1]],.agg [.bool false,.str [1],.str [1]]] (.ret (.int .i64 (-1))):=cK (.c a3T (.c a3S .nil))
theorem a3V:CO 115 [.agg [.bool false,.str [2],.str [1]]] (.ret (.bool true)):=toK (auH false [2] [1] (by decide) (by decide)) (by kernel_rfl)
theorem a3W:CO 174 [.agg [.bool false,.str [2],.str [1]]] (.ret (.agg [.bool false,.str [2],.str [1]])):=cK (.c a3V .nil)
theorem a3X:CO 182 [.agg [.bool false,.str [2],.str [1]]] (.ret (.agg [.bool true,.str [2],.str [1]])):=cK (.c a3W .nil)
theorem a3Y:CO 115 [.agg [.bool true,.str [2],.str [1]]] (.ret (.bool true)):=toK (auH true [2] [1] (by decide) (by decide)) (by kernel_rfl)
theorem a3Z:CO 174 [.agg [.bool true,.str [2],.str [1]]] (.ret (.agg [.bool true,.str [2],.str [1]])):=cK (.c a3Y .nil)
theorem aUk:CO 161 [.sl [.int .u32 2] 1 true] (.ret (.sl [.int .u32 2] 1 true)):=cK (.nil)
theorem aUl:CO 136 [.str [2]] (.ret (.sl [.int .u32 2] 1 true)):=cK (.c aUk .nil)
theorem a3_:CO 161 [.sl [.int .u32 2,.int .u32 0] 2 true] (.ret (.sl [.int .u32 2] 1 true)):=cK (.nil)
theorem a4a:CO 189 [.sl [.int .u32 2] 1 true,.sl [.int .u32 1] 1 true] (.ret (.sl [.int .u32 2] 1 true)):=cK (.c a3_ .nil)
theorem a4b:CO 141 [.str [0,0,0,2],.int .u8 0] (.ret (.str [2])):=cK (.nil)
theorem a4c:CO 162 [.str [0,0,0,2],.str [0]] (.ret (.str [2])):=cK (.c a4b .nil)
theorem aYR:CO 134 [.sl [.int .u32 2] 1 true] (.ret (.str [2])):=cK (.c a4c (.c aUk .nil))
theorem a4d:CO 175 [.str [2],.str [1]] (.ret (.str [2])):=cK (.c aYR (.c a4a (.c aCu (.c aUl .nil))))
theorem a4e:CO 183 [.sl [] 0 true,.sl [.int .u32 2] 1 true] (.ret (.int .i64 (-1))):=cK (.nil)
theorem a4f:CO 188 [.str [],.str [2]] (.ret (.tup [.str [],.bool false])):=cK (.c a4e (.c aUl (.c cm8 .nil)))
theorem a4g:CO 183 [.sl [.int .u32 2] 1 true,.sl [] 0 true] (.ret (.int .i64 1)):=cK (.nil)
theorem a4h:CO 204 [.sl [.int .u32 2] 1 true,.sl [] 0 true] (.ret (.sl [.int .u32 2] 1 true)):=cK (.c aUk .nil)
theorem a4i:CO 188 [.str [2],.str []] (.ret (.tup [.str [2],.bool true])):=cK (.c aYR (.c a4h (.c a4g (.c cm8 (.c aUl .nil)))))
theorem a4j:CO 139 [.bool true,.str [2],.str [1]] (.ret (.agg [.bool true,.str [2],.str [1]])):=toK (ayP true [2] [1] (by decide) (by decide) (by decide)) (by kernel_rfl)
theorem a4k:CO 172 [.agg [.bool false,.str [],.str [1]],.agg [.bool true,.str [2],.str [1]]] (.ret (.agg [.bool true,.str [2],.str [1]])):=cK (.c a4j (.c a4i (.c a4f (.c aFP (.c a4d (.c aG8 (.c a3Z (.c cm4 .nil))))))))
theorem a4l:CO 158 [.agg [.bool false,.str [],.str [1]],.agg [.bool false,.str [2],.str [1]]] (.ret (.agg [.bool true,.str [2],.str [1]])):=cK (.c a4k (.c a3X .nil))
theorem a4m:CO 85 [.agg [.bool true,.str [2],.str [1]]] (.ret (.int .i64 (-1))):=toK (avk true [2] [1] (by decide) (by decide)) (by kernel_rfl)
theorem a4n:CO 129 [.agg [.bool false,.str [],.str [1]],.agg [.bool false,.str [2],.str [1]]] (.ret (.int .i64 (-1))):=cK (.c a4m (.c a4l .nil))
theorem a4o:CO 115 [.agg [.bool false,.str [3],.str [1]]] (.ret (.bool true)):=toK (auH false [3] [1] (by decide) (by decide)) (by kernel_rfl)
theorem a4p:CO 174 [.agg [.bool false,.str [3],.str [1]]] (.ret (.agg [.bool false,.str [3],.str [1]])):=cK (.c a4o .nil)
theorem a4q:CO 182 [.agg [.bool false,.str [3],.str [1]]] (.ret (.agg [.bool true,.str [3],.str [1]])):=cK (.c a4p .nil)
theorem a4r:CO 115 [.agg [.bool true,.str [3],.str [1]]] (.ret (.bool true)):=toK (auH true [3] [1] (by decide) (by decide)) (by kernel_rfl)
theorem a4s:CO 174 [.agg [.bool true,.str [3],.str [1]]] (.ret (.agg [.bool true,.str [3],.str [1]])):=cK (.c a4r .nil)
theorem aUm:CO 161 [.sl [.int .u32 3] 1 true] (.ret (.sl [.int .u32 3] 1 true)):=cK (.nil)
theorem aUn:CO 136 [.str [3]] (.ret (.sl [.int .u32 3] 1 true)):=cK (.c aUm .nil)
theorem a4t:CO 161 [.sl [.int .u32 3,.int .u32 0] 2 true] (.ret (.sl [.int .u32 3] 1 true)):=cK (.nil)
theorem a4u:CO 189 [.sl [.int .u32 3] 1 true,.sl [.int .u32 1] 1 true] (.ret (.sl [.int .u32 3] 1 true)):=cK (.c a4t .nil)
theorem a4v:CO 141 [.str [0,0,0,3],.int .u8 0] (.ret (.str [3])):=cK (.nil)
theorem a4w:CO 162 [.str [0,0,0,3],.str [0]] (.ret (.str [3])):=cK (.c a4v .nil)
theorem aYS:CO 134 [.sl [.int .u32 3] 1 true] (.ret (.str [3])):=cK (.c a4w (.c aUm .nil))
theorem a4x:CO 175 [.str [3],.str [1]] (.ret (.str [3])):=cK (.c aYS (.c a4u (.c aCu (.c aUn .nil))))
theorem a4y:CO 183 [.sl [] 0 true,.sl [.int .u32 3] 1 true] (.ret (.int .i64 (-1))):=cK (.nil)
theorem a4z:CO 188 [.str [],.str [3]] (.ret (.tup [.str [],.bool false])):=cK (.c a4y (.c aUn (.c cm8 .nil)))
theorem a4A:CO 183 [.sl [.int .u32 3] 1 true,.sl [] 0 true] (.ret (.int .i64 1)):=cK (.nil)
theorem a4B:CO 204 [.sl [.int .u32 3] 1 true,.sl [] 0 true] (.ret (.sl [.int .u32 3] 1 true)):=cK (.c aUm .nil)
theorem a4C:CO 188 [.str [3],.str []] (.ret (.tup [.str [3],.bool true])):=cK (.c aYS (.c a4B (.c a4A (.c cm8 (.c aUn .nil)))))
theorem a4D:CO 139 [.bool true,.str [3],.str [1]] (.ret (.agg [.bool true,.str [3],.str [1]])):=toK (ayP true [3] [1] (by decide) (by decide) (by decide)) (by kernel_rfl)
theorem a4E:CO 172 [.agg [.bool false,.str [],.str [1]],.agg [.bool true,.str [3],.str [1]]] (.ret (.agg [.bool true,.str [3],.str [1]])):=cK (.c a4D (.c a4C (.c a4z (.c aFP (.c a4x (.c aG8 (.c a4s (.c cm4 .nil))))))))
theorem a4F:CO 158 [.agg [.bool false,.str [],.str [1]],.agg [.bool false,.str [3],.str [1]]] (.ret (.agg [.bool true,.str [3],.str [1]])):=cK (.c a4E (.c a4q .nil))
theorem a4G:CO 85 [.agg [.bool true,.str [3],.str [1]]] (.ret (.int .i64 (-1))):=toK (avk true [3] [1] (by decide) (by decide)) (by kernel_rfl)
theorem a4H:CO 129 [.agg [.bool false,.str [],.str [1]],.agg [.bool false,.str [3],.str [1]]] (.ret (.int .i64 (-1))):=cK (.c a4G (.c a4F .nil))
theorem a4I:CO 115 [.agg [.bool false,.str [4],.str [1]]] (.ret (.bool true)):=toK (auH false [4] [1] (by decide) (by decide)) (by kernel_rfl)
theorem a4J:CO 174 [.agg [.bool false,.str [4],.str [1]]] (.ret (.agg [.bool false,.str [4],.str [1]])):=cK (.c a4I .nil)
theorem a4K:CO 182 [.agg [.bool false,.str [4],.str [1]]] (.ret (.agg [.bool true,.str [4],.str [1]])):=cK (.c a4J .nil)
theorem a4L:CO 115 [.agg [.bool true,.str [4],.str [1]]] (.ret (.bool true)):=toK (auH true [4] [1] (by decide) (by decide)) (by kernel_rfl)
theorem a4M:CO 174 [.agg [.bool true,.str [4],.str [1]]] (.ret (.agg [.bool true,.str [4],.str [1]])):=cK (.c a4L .nil)
theorem aUo:CO 161 [.sl [.int .u32 4] 1 true] (.ret (.sl [.int .u32 4] 1 true)):=cK (.nil)
theorem aUp:CO 136 [.str [4]] (.ret (.sl [.int .u32 4] 1 true)):=cK (.c aUo .nil)
theorem a4N:CO 161 [.sl [.int .u32 4,.int .u32 0] 2 true] (.ret (.sl [.int .u32 4] 1 true)):=cK (.nil)
theorem a4O:CO 189 [.sl [.int .u32 4] 1 true,.sl [.int .u32 1] 1 true] (.ret (.sl [.int .u32 4] 1 true)):=cK (.c a4N .nil)
theorem a4P:CO 141 [.str [0,0,0,4],.int .u8 0] (.ret (.str [4])):=cK (.nil)
theorem a4Q:CO 162 [.str [0,0,0,4],.str [0]] (.ret (.str [4])):=cK (.c a4P .nil)
theorem aYT:CO 134 [.sl [.int .u32 4] 1 true] (.ret (.str [4])):=cK (.c a4Q (.c aUo .nil))
theorem a4S:CO 175 [.str [4],.str [1]] (.ret (.str [4])):=cK (.c aYT (.c a4O (.c aCu (.c aUp .nil))))
theorem a4T:CO 183 [.sl [] 0 true,.sl [.int .u32 4] 1 true] (.ret (.int .i64 (-1))):=cK (.nil)
theorem a4U:CO 188 [.str [],.str [4]] (.ret (.tup [.str [],.bool false])):=cK (.c a4T (.c aUp (.c cm8 .nil)))
theorem a4V:CO 183 [.sl [.int .u32 4] 1 true,.sl [] 0 true] (.ret (.int .i64 1)):=cK (.nil)
theorem a4W:CO 204 [.sl [.int .u32 4] 1 true,.sl [] 0 true] (.ret (.sl [.int .u32 4] 1 true)):=cK (.c aUo .nil)
theorem a4X:CO 188 [.str [4],.str []] (.ret (.tup [.str [4],.bool true])):=cK (.c aYT (.c a4W (.c a4V (.c cm8 (.c aUp .nil)))))
theorem a4Y:CO 139 [.bool true,.str [4],.str [1]] (.ret (.agg [.bool true,.str [4],.str [1]])):=toK (ayP true [4] [1] (by decide) (by decide) (by decide)) (by kernel_rfl)
theorem a4Z:CO 172 [.agg [.bool false,.str [],.str [1]],.agg [.bool true,.str [4],.str [1]]] (.ret (.agg [.bool true,.str [4],.str [1]])):=cK (.c a4Y (.c a4X (.c a4U (.c aFP (.c a4S (.c aG8 (.c a4M (.c cm4 .nil))))))))
theorem a4_:CO 158 [.agg [.bool false,.str [],.str [1]],.agg [.bool false,.str [4],.str [1]]] (.ret (.agg [.bool true,.str [4],.str [1]])):=cK (.c a4Z (.c a4K .nil))
theorem a5a:CO 85 [.agg [.bool true,.str [4],.str [1]]] (.ret (.int .i64 (-1))):=toK (avk true [4] [1] (by decide) (by decide)) (by kernel_rfl)
theorem aXe:CO 129 [.agg [.bool false,.str [],.str [1]],.agg [.bool false,.str [4],.str [1]]] (.ret (.int .i64 (-1))):=cK (.c a5a (.c a4_ .nil))
theorem aXf:CO 115 [.agg [.bool false,.str [5],.str [1]]] (.ret (.bool true)):=toK (auH false [5] [1] (by decide) (by decide)) (by kernel_rfl)
theorem aXg:CO 174 [.agg [.bool false,.str [5],.str [1]]] (.ret (.agg [.bool false,.str [5],.str [1]])):=cK (.c aXf .nil)
theorem aXh:CO 182 [.agg [.bool false,.str [5],.str [1]]] (.ret (.agg [.bool true,.str [5],.str [1]])):=cK (.c aXg .nil)
theorem aXi:CO 115 [.agg [.bool true,.str [5],.str [1]]] (.ret (.bool true)):=toK (auH true [5] [1] (by decide) (by decide)) (by kernel_rfl)
theorem aXj:CO 174 [.agg [.bool true,.str [5],.str [1]]] (.ret (.agg [.bool true,.str [5],.str [1]])):=cK (.c aXi .nil)
theorem aNN:CO 161 [.sl [.int .u32 5] 1 true] (.ret (.sl [.int .u32 5] 1 true)):=cK (.nil)
theorem aNO:CO 136 [.str [5]] (.ret (.sl [.int .u32 5] 1 true)):=cK (.c aNN .nil)
theorem aXk:CO 161 [.sl [.int .u32 5,.int .u32 0] 2 true] (.ret (.sl [.int .u32 5] 1 true)):=cK (.nil)
theorem aXl:CO 189 [.sl [.int .u32 5] 1 true,.sl [.int .u32 1] 1 true] (.ret (.sl [.int .u32 5] 1 true)):=cK (.c aXk .nil)
theorem aXm:CO 141 [.str [0,0,0,5],.int .u8 0] (.ret (.str [5])):=cK (.nil)
theorem aXn:CO 162 [.str [0,0,0,5],.str [0]] (.ret (.str [5])):=cK (.c aXm .nil)
theorem aTk:CO 134 [.sl [.int .u32 5] 1 true] (.ret (.str [5])):=cK (.c aXn (.c aNN .nil))
theorem aXo:CO 175 [.str [5],.str [1]] (.ret (.str [5])):=cK (.c aTk (.c aXl (.c aCu (.c aNO .nil))))
theorem aXp:CO 183 [.sl [] 0 true,.sl [.int .u32 5] 1 true] (.ret (.int .i64 (-1))):=cK (.nil)
theorem aXq:CO 188 [.str [],.str [5]] (.ret (.tup [.str [],.bool false])):=cK (.c aXp (.c aNO (.c cm8 .nil)))
theorem aXr:CO 183 [.sl [.int .u32 5] 1 true,.sl [] 0 true] (.ret (.int .i64 1)):=cK (.nil)
theorem aXs:CO 204 [.sl [.int .u32 5] 1 true,.sl [] 0 true] (.ret (.sl [.int .u32 5] 1 true)):=cK (.c aNN .nil)
theorem aXt:CO 188 [.str [5],.str []] (.ret (.tup [.str [5],.bool true])):=cK (.c aTk (.c aXs (.c aXr (.c cm8 (.c aNO .nil)))))
theorem aXu:CO 139 [.bool true,.str [5],.str [1]] (.ret (.agg [.bool true,.str [5],.str [1]])):=toK (ayP true [5] [1] (by decide) (by decide) (by decide)) (by kernel_rfl)
theorem aXv:CO 172 [.agg [.bool false,.str [],.str [1]],.agg [.bool true,.str [5],.str [1]]] (.ret (.agg [.bool true,.str [5],.str [1]])):=cK (.c aXu (.c aXt (.c aXq (.c aFP (.c aXo (.c aG8 (.c aXj (.c cm4 .nil))))))))
theorem aXw:CO 158 [.agg [.bool false,.str [],.str [1]],.agg [.bool false,.str [5],.str [1]]] (.ret (.agg [.bool true,.str [5],.str [1]])):=cK (.c aXv (.c aXh .nil))
theorem aXx:CO 85 [.agg [.bool true,.str [5],.str [1]]] (.ret (.int .i64 (-1))):=toK (avk true [5] [1] (by decide) (by decide)) (by kernel_rfl)
theorem aXy:CO 129 [.agg [.bool false,.str [],.str [1]],.agg [.bool false,.str [5],.str [1]]] (.ret (.int .i64 (-1))):=cK (.c aXx (.c aXw .nil))
theorem aXz:CO 115 [.agg [.bool false,.str [6],.str [1]]] (.ret (.bool true)):=toK (auH false [6] [1] (by decide) (by decide)) (by kernel_rfl)
theorem aXA:CO 174 [.agg [.bool false,.str [6],.str [1]]] (.ret (.agg [.bool false,.str [6],.str [1]])):=cK (.c aXz .nil)
theorem aXB:CO 182 [.agg [.bool false,.str [6],.str [1]]] (.ret (.agg [.bool true,.str [6],.str [1]])):=cK (.c aXA .nil)
theorem aXC:CO 115 [.agg [.bool true,.str [6],.str [1]]] (.ret (.bool true)):=toK (auH true [6] [1] (by decide) (by decide)) (by kernel_rfl)
theorem aXD:CO 174 [.agg [.bool true,.str [6],.str [1]]] (.ret (.agg [.bool true,.str [6],.str [1]])):=cK (.c aXC .nil)
theorem aNP:CO 161 [.sl [.int .u32 6] 1 true] (.ret (.sl [.int .u32 6] 1 true)):=cK (.nil)
theorem aNQ:CO 136 [.str [6]] (.ret (.sl [.int .u32 6] 1 true)):=cK (.c aNP .nil)
theorem aXE:CO 161 [.sl [.int .u32 6,.int .u32 0] 2 true] (.ret (.sl [.int .u32 6] 1 true)):=cK (.nil)
theorem aXF:CO 189 [.sl [.int .u32 6] 1 true,.sl [.int .u32 1] 1 true] (.ret (.sl [.int .u32 6] 1 true)):=cK (.c aXE .nil)
theorem aXG:CO 141 [.str [0,0,0,6],.int .u8 0] (.ret (.str [6])):=cK (.nil)
theorem aXH:CO 162 [.str [0,0,0,6],.str [0]] (.ret (.str [6])):=cK (.c aXG .nil)
theorem aTl:CO 134 [.sl [.int .u32 6] 1 true] (.ret (.str [6])):=cK (.c aXH (.c aNP .nil))
theorem aXI:CO 175 [.str [6],.str [1]] (.ret (.str [6])):=cK (.c aTl (.c aXF (.c aCu (.c aNQ .nil))))
theorem aXJ:CO 183 [.sl [] 0 true,.sl [.int .u32 6] 1 true] (.ret (.int .i64 (-1))):=cK (.nil)
theorem aXK:CO 188 [.str [],.str [6]] (.ret (.tup [.str [],.bool false])):=cK (.c aXJ (.c aNQ (.c cm8 .nil)))
theorem aXL:CO 183 [.sl [.int .u32 6] 1 true,.sl [] 0 true] (.ret (.int .i64 1)):=cK (.nil)
theorem aXM:CO 204 [.sl [.int .u32 6] 1 true,.sl [] 0 true] (.ret (.sl [.int .u32 6] 1 true)):=cK (.c aNP .nil)
theorem aXN:CO 188 [.str [6],.str []] (.ret (.tup [.str [6],.bool true])):=cK (.c aTl (.c aXM (.c aXL (.c cm8 (.c aNQ .nil)))))
theorem aXO:CO 139 [.bool true,.str [6],.str [1]] (.ret (.agg [.bool true,.str [6],.str [1]])):=toK (ayP true [6] [1] (by decide) (by decide) (by decide)) (by kernel_rfl)
theorem aXP:CO 172 [.agg [.bool false,.str [],.str [1]],.agg [.bool true,.str [6],.str [1]]] (.ret (.agg [.bool true,.str [6],.str [1]])):=cK (.c aXO (.c aXN (.c aXK (.c aFP (.c aXI (.c aG8 (.c aXD (.c cm4 .nil))))))))
theorem aXQ:CO 158 [.agg [.bool false,.str [],.str [1]],.agg [.bool false,.str [6],.str [1]]] (.ret (.agg [.bool true,.str [6],.str [1]])):=cK (.c aXP (.c aXB .nil))
theorem aXR:CO 85 [.agg [.bool true,.str [6],.str [1]]] (.ret (.int .i64 (-1))):=toK (avk true [6] [1] (by decide) (by decide)) (by kernel_rfl)
theorem aXS:CO 129 [.agg [.bool false,.str [],.str [1]],.agg [.bool false,.str [6],.str [1]]] (.ret (.int .i64 (-1))):=cK (.c aXR (.c aXQ .nil))
theorem aXT:CO 115 [.agg [.bool false,.str [7],.str [1]]] (.ret (.bool true)):=toK (auH false [7] [1] (by decide) (by decide)) (by kernel_rfl)
theorem aXU:CO 174 [.agg [.bool false,.str [7],.str [1]]] (.ret (.agg [.bool false,.str [7],.str [1]])):=cK (.c aXT .nil)
theorem aXV:CO 182 [.agg [.bool false,.str [7],.str [1]]] (.ret (.agg [.bool true,.str [7],.str [1]])):=cK (.c aXU .nil)
theorem aXW:CO 115 [.agg [.bool true,.str [7],.str [1]]] (.ret (.bool true)):=toK (auH true [7] [1] (by decide) (by decide)) (by kernel_rfl)
theorem aXX:CO 174 [.agg [.bool true,.str [7],.str [1]]] (.ret (.agg [.bool true,.str [7],.str [1]])):=cK (.c aXW .nil)
theorem aNR:CO 161 [.sl [.int .u32 7] 1 true] (.ret (.sl [.int .u32 7] 1 true)):=cK (.nil)
theorem aNS:CO 136 [.str [7]] (.ret (.sl [.int .u32 7] 1 true)):=cK (.c aNR .nil)
theorem aXY:CO 161 [.sl [.int .u32 7,.int .u32 0] 2 true] (.ret (.sl [.int .u32 7] 1 true)):=cK (.nil)
theorem aXZ:CO 189 [.sl [.int .u32 7] 1 true,.sl [.int .u32 1] 1 true] (.ret (.sl [.int .u32 7] 1 true)):=cK (.c aXY .nil)
theorem aX0:CO 141 [.str [0,0,0,7],.int .u8 0] (.ret (.str [7])):=cK (.nil)
theorem aX1:CO 162 [.str [0,0,0,7],.str [0]] (.ret (.str [7])):=cK (.c aX0 .nil)
theorem aTm:CO 134 [.sl [.int .u32 7] 1 true] (.ret (.str [7])):=cK (.c aX1 (.c aNR .nil))
theorem aX2:CO 175 [.str [7],.str [1]] (.ret (.str [7])):=cK (.c aTm (.c aXZ (.c aCu (.c aNS .nil))))
theorem aX3:CO 183 [.sl [] 0 true,.sl [.int .u32 7] 1 true] (.ret (.int .i64 (-1))):=cK (.nil)
theorem aX4:CO 188 [.str [],.str [7]] (.ret (.tup [.str [],.bool false])):=cK (.c aX3 (.c aNS (.c cm8 .nil)))
theorem aX5:CO 183 [.sl [.int .u32 7] 1 true,.sl [] 0 true] (.ret (.int .i64 1)):=cK (.nil)
theorem aX6:CO 204 [.sl [.int .u32 7] 1 true,.sl [] 0 true] (.ret (.sl [.int .u32 7] 1 true)):=cK (.c aNR .nil)
theorem aX7:CO 188 [.str [7],.str []] (.ret (.tup [.str [7],.bool true])):=cK (.c aTm (.c aX6 (.c aX5 (.c cm8 (.c aNS .nil)))))
theorem aX8:CO 139 [.bool true,.str [7],.str [1]] (.ret (.agg [.bool true,.str [7],.str [1]])):=toK (ayP true [7] [1] (by decide) (by decide) (by decide)) (by kernel_rfl)
theorem aX9:CO 172 [.agg [.bool false,.str [],.str [1]],.agg [.bool true,.str [7],.str [1]]] (.ret (.agg [.bool true,.str [7],.str [1]])):=cK (.c aX8 (.c aX7 (.c aX4 (.c aFP (.c aX2 (.c aG8 (.c aXX (.c cm4 .nil))))))))
theorem aX_:CO 158 [.agg [.bool false,.str [],.str [1]],.agg [.bool false,.str [7],.str [1]]] (.ret (.agg [.bool true,.str [7],.str [1]])):=cK (.c aX9 (.c aXV .nil))
theorem aYa:CO 85 [.agg [.bool true,.str [7],.str [1]]] (.ret (.int .i64 (-1))):=toK (avk true [7] [1] (by decide) (by decide)) (by kernel_rfl)
theorem aYb:CO 129 [.agg [.bool false,.str [],.str [1]],.agg [.bool false,.str [7],.str [1]]] (.ret (.int .i64 (-1))):=cK (.c aYa (.c aX_ .nil))
theorem aYc:CO 115 [.agg [.bool false,.str [8],.str [1]]] (.ret (.bool true)):=toK (auH false [8] [1] (by decide) (by decide)) (by kernel_rfl)
theorem aYd:CO 174 [.agg [.bool false,.str [8],.str [1]]] (.ret (.agg [.bool false,.str [8],.str [1]])):=cK (.c aYc .nil)
theorem aYe:CO 182 [.agg [.bool false,.str [8],.str [1]]] (.ret (.agg [.bool true,.str [8],.str [1]])):=cK (.c aYd .nil)
theorem aYf:CO 115 [.agg [.bool true,.str [8],.str [1]]] (.ret (.bool true)):=toK (auH true [8] [1] (by decide) (by decide)) (by kernel_rfl)
theorem aYg:CO 174 [.agg [.bool true,.str [8],.str [1]]] (.ret (.agg [.bool true,.str [8],.str [1]])):=cK (.c aYf .nil)
theorem aNT:CO 161 [.sl [.int .u32 8] 1 true] (.ret (.sl [.int .u32 8] 1 true)):=cK (.nil)
theorem aNU:CO 136 [.str [8]] (.ret (.sl [.int .u32 8] 1 true)):=cK (.c aNT .nil)
theorem aYh:CO 161 [.sl [.int .u32 8,.int .u32 0] 2 true] (.ret (.sl [.int .u32 8] 1 true)):=cK (.nil)
theorem aYi:CO 189 [.sl [.int .u32 8] 1 true,.sl [.int .u32 1] 1 true] (.ret (.sl [.int .u32 8] 1 true)):=cK (.c aYh .nil)
theorem aYj:CO 141 [.str [0,0,0,8],.int .u8 0] (.ret (.str [8])):=cK (.nil)
theorem aYk:CO 162 [.str [0,0,0,8],.str [0]] (.ret (.str [8])):=cK (.c aYj .nil)
theorem aTn:CO 134 [.sl [.int .u32 8] 1 true] (.ret (.str [8])):=cK (.c aYk (.c aNT .nil))
theorem aYl:CO 175 [.str [8],.str [1]] (.ret (.str [8])):=cK (.c aTn (.c aYi (.c aCu (.c aNU .nil))))
theorem aYm:CO 183 [.sl [] 0 true,.sl [.int .u32 8] 1 true] (.ret (.int .i64 (-1))):=cK (.nil)
theorem aYn:CO 188 [.str [],.str [8]] (.ret (.tup [.str [],.bool false])):=cK (.c aYm (.c aNU (.c cm8 .nil)))
theorem aYo:CO 183 [.sl [.int .u32 8] 1 true,.sl [] 0 true] (.ret (.int .i64 1)):=cK (.nil)
theorem aYp:CO 204 [.sl [.int .u32 8] 1 true,.sl [] 0 true] (.ret (.sl [.int .u32 8] 1 true)):=cK (.c aNT .nil)
theorem aYq:CO 188 [.str [8],.str []] (.ret (.tup [.str [8],.bool true])):=cK (.c aTn (.c aYp (.c aYo (.c cm8 (.c aNU .nil)))))
theorem aYr:CO 139 [.bool true,.str [8],.str [1]] (.ret (.agg [.bool true,.str [8],.str [1]])):=toK (ayP true [8] [1] (by decide) (by decide) (by decide)) (by kernel_rfl)
theorem aYs:CO 172 [.agg [.bool false,.str [],.str [1]],.agg [.bool true,.str [8],.str [1]]] (.ret (.agg [.bool true,.str [8],.str [1]])):=cK (.c aYr (.c aYq (.c aYn (.c aFP (.c aYl (.c aG8 (.c aYg (.c cm4 .nil))))))))
theorem aYt:CO 158 [.agg [.bool false,.str [],.str [1]],.agg [.bool false,.str [8],.str [1]]] (.ret (.agg [.bool true,.str [8],.str [1]])):=cK (.c aYs (.c aYe .nil))
theorem aYu:CO 85 [.agg [.bool true,.str [8],.str [1]]] (.ret (.int .i64 (-1))):=toK (avk true [8] [1] (by decide) (by decide)) (by kernel_rfl)
theorem aYv:CO 129 [.agg [.bool false,.str [],.str [1]],.agg [.bool false,.str [8],.str [1]]] (.ret (.int .i64 (-1))):=cK (.c aYu (.c aYt .nil))
theorem aYw:CO 115 [.agg [.bool false,.str [9],.str [1]]] (.ret (.bool true)):=toK (auH false [9] [1] (by decide) (by decide)) (by kernel_rfl)
theorem aYx:CO 174 [.agg [.bool false,.str [9],.str [1]]] (.ret (.agg [.bool false,.str [9],.str [1]])):=cK (.c aYw .nil)
theorem aYy:CO 182 [.agg [.bool false,.str [9],.str [1]]] (.ret (.agg [.bool true,.str [9],.str [1]])):=cK (.c aYx .nil)
theorem aYz:CO 115 [.agg [.bool true,.str [9],.str [1]]] (.ret (.bool true)):=toK (auH true [9] [1] (by decide) (by decide)) (by kernel_rfl)
theorem aYA:CO 174 [.agg [.bool true,.str [9],.str [1]]] (.ret (.agg [.bool true,.str [9],.str [1]])):=cK (.c aYz .nil)
theorem aNV:CO 161 [.sl [.int .u32 9] 1 true] (.ret (.sl [.int .u32 9] 1 true)):=cK (.nil)
theorem aNW:CO 136 [.str [9]] (.ret (.sl [.int .u32 9] 1 true)):=cK (.c aNV .nil)
theorem aYC:CO 161 [.sl [.int .u32 9,.int .u32 0] 2 true] (.ret (.sl [.int .u32 9] 1 true)):=cK (.nil)
theorem aYD:CO 189 [.sl [.int .u32 9] 1 true,.sl [.int .u32 1] 1 true] (.ret (.sl [.int .u32 9] 1 true)):=cK (.c aYC .nil)
theorem aYE:CO 141 [.str [0,0,0,9],.int .u8 0] (.ret (.str [9])):=cK (.nil)
theorem aYF:CO 162 [.str [0,0,0,9],.str [0]] (.ret (.str [9])):=cK (.c aYE .nil)
theorem aTo:CO 134 [.sl [.int .u32 9] 1 true] (.ret (.str [9])):=cK (.c aYF (.c aNV .nil))
theorem aYG:CO 175 [.str [9],.str [1]] (.ret (.str [9])):=cK (.c aTo (.c aYD (.c aCu (.c aNW .nil))))
theorem aYH:CO 183 [.sl [] 0 true,.sl [.int .u32 9] 1 true] (.ret (.int .i64 (-1))):=cK (.nil)
theorem aYI:CO 188 [.str [],.str [9]] (.ret (.tup [.str [],.bool false])):=cK (.c aYH (.c aNW (.c cm8 .nil)))
theorem aYJ:CO 183 [.sl [.int .u32 9] 1 true,.sl [] 0 true] (.ret (.int .i64 1)):=cK (.nil)
theorem aYK:CO 204 [.sl [.int .u32 9] 1 true,.sl [] 0 true] (.ret (.sl [.int .u32 9] 1 true)):=cK (.c aNV .nil)
theorem aYL:CO 188 [.str [9],.str []] (.ret (.tup [.str [9],.bool true])):=cK (.c aTo (.c aYK (.c aYJ (.c cm8 (.c aNW .nil)))))
theorem aYM:CO 139 [.bool true,.str [9],.str [1]] (.ret (.agg [.bool true,.str [9],.str [1]])):=toK (ayP true [9] [1] (by decide) (by decide) (by decide)) (by kernel_rfl)
theorem aYN:CO 172 [.agg [.bool false,.str [],.str [1]],.agg [.bool true,.str [9],.str [1]]] (.ret (.agg [.bool true,.str [9],.str [1]])):=cK (.c aYM (.c aYL (.c aYI (.c aFP (.c aYG (.c aG8 (.c aYA (.c cm4 .nil))))))))
theorem aYO:CO 158 [.agg [.bool false,.str [],.str [1]],.agg [.bool false,.str [9],.str [1]]] (.ret (.agg [.bool true,.str [9],.str [1]])):=cK (.c aYN (.c aYy .nil))
theorem aYP:CO 85 [.agg [.bool true,.str [9],.str [1]]] (.ret (.int .i64 (-1))):=toK (avk true [9] [1] (by decide) (by decide)) (by kernel_rfl)
theorem aYQ:CO 129 [.agg [.bool false,.str [],.str [1]],.agg [.bool false,.str [9],.str [1]]] (.ret (.int .i64 (-1))):=cK (.c aYP (.c aYO .nil))
theorem aUq (n:Nat) (h:1≤n∧n≤9):CO 129 [.agg [.bool false,.str [],.str [1]],.agg [.bool false,.str [UInt8.ofNat n],.str [1]]] (.ret (.int .i64 (-1))):=by
 obtain ⟨h1,h2⟩:=h
 match n,h1,h2 with
 |1,_,_=>exact a3U
 |2,_,_=>exact a4n
 |3,_,_=>exact a4H
 |4,_,_=>exact aXe
 |5,_,_=>exact aXy
 |6,_,_=>exact aXS
 |7,_,_=>exact aYb
 |8,_,_=>exact aYv
 |9,_,_=>exact aYQ
theorem awz {ns:List Nd} (h:ns.all (fun x=>Nat.ble (x.num.length+1) 8589934592 && Nat.ble (x.den.length+1) 8589934592)=true):∀ x ∈ ns,x.sm:=by
 intro x hx
 have:=List.all_eq_true.1 h x hx
 rw [Bool.and_eq_true] at this
 exact ⟨Nat.le_of_ble_eq_true this.1,Nat.le_of_ble_eq_true this.2⟩
def axe:Br→Br→Int:=fun _ _=> -1
theorem aAs {f:Nat}:aJt f axe []:=fun q hq=>by simp at hq
theorem aGc {f:Nat} {a b:Br} (h:CO f [brF a,brF b] (.ret (.int .i64 (-1)))):aBD f axe [a,b]:=by
 intro i y x hy hx _ _
 match i with
 |0=>simp at hy hx;subst hy hx;exact h
 |i+1=>simp at hx
theorem aL4 {f:Nat} {a:Br}:aBD f axe [a]:=by
 intro i y x hy hx _ _
 simp at hx
theorem aI4 {f:Nat} {a b:Br} {nm:List UInt8} {u1 u2:Int} (ha:a.sm) (hb:b.sm) (h:CO f [brF a,brF b] (.ret (.int .i64 (-1)))):aJt f axe [⟨nm,u1,u2,[a,b]⟩]:=by
 intro q hq
 rw [List.mem_singleton] at hq
 subst hq
 refine ⟨by simp, ?_,aGc h⟩
 intro x hx
 simp only [List.mem_cons,List.not_mem_nil,or_false] at hx
 rcases hx with rfl|rfl
 ·exact ha
 ·exact hb
def SqM (q:Sq):Prop:=∃ b:Br,b.sm∧b.fn=false∧b.fa= []∧b.fd= [1]∧(q.l= [b]∨∃ (c:Br) (n:Nat),1≤n∧n≤9∧c.sm∧c.fn=false∧c.fa= [UInt8.ofNat n]∧c.fd= [1]∧q.l= [b,c])
theorem aCP {f:Nat} (hf:∀ n:Nat,1≤n∧n≤9→CO f [.agg [.bool false,.str [],.str [1]],.agg [.bool false,.str [UInt8.ofNat n],.str [1]]] (.ret (.int .i64 (-1)))) {qs:List Sq} (h:∀ q ∈ qs,SqM q):aJt f axe qs:=by
 intro q hq
 obtain ⟨b,h1,h2,h3,h4,h5⟩:=h q hq
 rcases h5 with h5|⟨c,n,h6,h7,h8,h9,h10,h11,h5⟩
 ·rw [h5]
  refine ⟨by simp, ?_,aL4⟩
  intro x hx
  rw [List.mem_singleton] at hx
  exact hx ▸ h1
 ·rw [h5]
  refine ⟨by simp, ?_,aGc ?_⟩
  ·intro x hx
   simp only [List.mem_cons,List.not_mem_nil,or_false] at hx
   rcases hx with rfl|rfl
   ·exact h1
   ·exact h8
  ·have:=hf n ⟨h6,h7⟩
   unfold brF
   rw [h2,h3,h4,h9,h10,h11]
   exact this
def aBa:List Nd:= [⟨6,false,[],[],[97]⟩,⟨5,false,[],[],[97]⟩,⟨9,false,[],[],[]⟩]
def azU:List Sq:= [⟨[120],0,0,[⟨false,[],[1],false,[1],[10]⟩,⟨false,[5],[1],false,[1],[5]⟩]⟩]
def aFe:List Nd:= [⟨6,false,[],[],[97]⟩,⟨6,false,[],[],[97]⟩,⟨10,false,[],[],[]⟩]
def aFf:List Nd:= [⟨1,false,[5],[1],[]⟩,⟨3,true,[1],[2],[]⟩,⟨6,false,[],[],[97]⟩,⟨11,false,[],[],[]⟩,⟨10,false,[],[],[]⟩]
def axL:List Nd:= [⟨6,false,[],[],[97]⟩,⟨5,false,[],[],[98]⟩,⟨11,false,[],[],[]⟩]
def aFg:List Nd:= [⟨1,false,[1],[1],[]⟩,⟨6,false,[],[],[97]⟩,⟨12,false,[],[],[]⟩]
def aFh:List Nd:= [⟨6,false,[],[],[97]⟩,⟨3,true,[2],[1],[]⟩,⟨12,false,[],[],[]⟩]
def aBb:List Nd:= [⟨6,false,[],[],[97]⟩,⟨1,false,[3],[1],[]⟩,⟨16,false,[],[],[]⟩,⟨6,false,[],[],[98]⟩,⟨1,false,[],[1],[]⟩,⟨15,false,[],[],[]⟩]
def axM:List Nd:= [⟨6,false,[],[],[97]⟩,⟨24,false,[],[],[120]⟩]
def aTJ:List Sq:= [⟨[120],0,0,[⟨false,[],[1],false,[1],[10]⟩,⟨false,[5],[1],true,[1],[5]⟩]⟩]
theorem avH:aJt 129 axe azU:=aI4 ⟨⟨by decide,by decide⟩,⟨by decide,by decide⟩⟩ ⟨⟨by decide,by decide⟩,⟨by decide,by decide⟩⟩ (toK (aUq 5 (by omega)) (by kernel_rfl))
theorem aKE:aJt 129 axe aTJ:=aI4 ⟨⟨by decide,by decide⟩,⟨by decide,by decide⟩⟩ ⟨⟨by decide,by decide⟩,⟨by decide,by decide⟩⟩ (toK (aUq 5 (by omega)) (by kernel_rfl))
def dE (l:List Nat):Env:=l.map fun t=>(t,.dead)
def rA (s:List UInt8) (k:Int):List Blk:= [⟨[.str s,.nilS,.int .i64 k,.bool false],0,false,0,0,true⟩]
def rB (s:List UInt8) (n:Nat) (k:Int) (os:List AV):List Blk:= [⟨[.str s,.ref 1 0 0 n,.int .i64 k,.bool false],0,false,0,0,false⟩,⟨os,0,false,0,5,true⟩]
def zo0:List AV:= [.int .i64 6,.bool false,.str [],.str [],.str [97],.int .i64 1,.bool false,.str [3],.str [1],.str [],.int .i64 16,.bool false,.str [],.str [],.str [],.int .i64 6,.bool false,.str [],.str [],.str [98],.int .i64 1,.bool false,.str [],.str [1],.str []]
def zo1:List AV:= [.int .i64 6,.bool false,.str [],.str [],.str [97],.int .i64 1,.bool false,.str [3],.str [1],.str [],.int .i64 16,.bool false,.str [],.str [],.str [],.int .i64 6,.bool false,.str [],.str [],.str [98]]
def zo2:List AV:= [.int .i64 1,.bool false,.str [5],.str [1],.str [],.int .i64 3,.bool true,.str [1],.str [2],.str [],.int .i64 6,.bool false,.str [],.str [],.str [97],.int .i64 11,.bool false,.str [],.str [],.str []]
def zo3:List AV:= [.int .i64 1,.bool false,.str [5],.str [1],.str [],.int .i64 3,.bool true,.str [1],.str [2],.str [],.int .i64 6,.bool false,.str [],.str [],.str [97]]
def zo4:List AV:= [.int .i64 6,.bool false,.str [],.str [],.str [97],.int .i64 1,.bool false,.str [3],.str [1],.str [],.int .i64 16,.bool false,.str [],.str [],.str []]
def zo5:List AV:= [.int .i64 6,.bool false,.str [],.str [],.str [97],.int .i64 5,.bool false,.str [],.str [],.str [97]]
def zo6:List AV:= [.int .i64 6,.bool false,.str [],.str [],.str [97],.int .i64 6,.bool false,.str [],.str [],.str [97]]
def zo7:List AV:= [.int .i64 6,.bool false,.str [],.str [],.str [97],.int .i64 5,.bool false,.str [],.str [],.str [98]]
def zo8:List AV:= [.int .i64 1,.bool false,.str [1],.str [1],.str [],.int .i64 6,.bool false,.str [],.str [],.str [97]]
def zo9:List AV:= [.int .i64 6,.bool false,.str [],.str [],.str [97],.int .i64 1,.bool false,.str [3],.str [1],.str []]
def aCo:List AV:= [.int .i64 1,.bool false,.str [5],.str [1],.str [],.int .i64 3,.bool true,.str [1],.str [2],.str []]
def aWk:List AV:= [.int .i64 6,.bool false,.str [],.str [],.str [97],.int .i64 3,.bool true,.str [2],.str [1],.str []]
def auX:List AV:= [.int .i64 6,.bool false,.str [],.str [],.str [97]]
def axI:List AV:= [.int .i64 1,.bool false,.str [5],.str [1],.str []]
def aA0:List AV:= [.int .i64 1,.bool false,.str [1],.str [1],.str []]
def zs0:List UInt8:= [97,98,99,100,101,102,103,104,105,106,107,108,109,110,111,112,113,114,115,116,117,118,119,120,121,122,48,49,50,51,52,53,54,55,56,57,95]
def zs1:List UInt8:= [105,102,40,108,101,115,115,40,111,119,110,46,97,44,32,36,51,41,44,32,111,119,110,46,98,44,32,36,48,41]
def zs2:List UInt8:= [97,98,99,100,101,102,103,104,105,106,107,108,109,110,111,112,113,114,115,116,117,118,119,120,121,122]
def zs3:List UInt8:= [40,108,101,115,115,40,111,119,110,46,97,44,32,36,51,41,44,32,111,119,110,46,98,44,32,36,48,41]
def zs4:List UInt8:= [108,101,115,115,40,111,119,110,46,97,44,32,36,51,41,44,32,111,119,110,46,98,44,32,36,48,41]
def zs5:List UInt8:= [115,117,98,40,36,53,44,32,109,117,108,40,45,49,47,50,44,32,111,119,110,46,97,41,41]
def zs6:List UInt8:= [40,111,119,110,46,97,44,32,36,51,41,44,32,111,119,110,46,98,44,32,36,48,41]
def zs7:List UInt8:= [40,36,53,44,32,109,117,108,40,45,49,47,50,44,32,111,119,110,46,97,41,41]
def zs8:List UInt8:= [111,119,110,46,97,44,32,36,51,41,44,32,111,119,110,46,98,44,32,36,48,41]
def zs9:List UInt8:= [36,53,44,32,109,117,108,40,45,49,47,50,44,32,111,119,110,46,97,41,41]
def aP_:List UInt8:= [53,44,32,109,117,108,40,45,49,47,50,44,32,111,119,110,46,97,41,41]
def aNb:List UInt8:= [44,32,109,117,108,40,45,49,47,50,44,32,111,119,110,46,97,41,41]
def aJn:List UInt8:= [109,117,108,40,111,119,110,46,97,44,32,102,97,99,116,46,98,41]
def aHV:List UInt8:= [97,100,100,40,111,119,110,46,97,44,32,102,97,99,116,46,97,41]
def a2y:List UInt8:= [46,97,44,32,36,51,41,44,32,111,119,110,46,98,44,32,36,48,41]
def aJo:List UInt8:= [115,117,98,40,111,119,110,46,97,44,32,111,119,110,46,97,41]
def aWl:List UInt8:= [97,44,32,36,51,41,44,32,111,119,110,46,98,44,32,36,48,41]
def aNc:List UInt8:= [109,117,108,40,45,49,47,50,44,32,111,119,110,46,97,41,41]
def aWm:List UInt8:= [44,32,36,51,41,44,32,111,119,110,46,98,44,32,36,48,41]
def aS3:List UInt8:= [40,111,119,110,46,97,44,32,102,97,99,116,46,97,41]
def aS4:List UInt8:= [40,111,119,110,46,97,44,32,102,97,99,116,46,98,41]
def aS5:List UInt8:= [36,51,41,44,32,111,119,110,46,98,44,32,36,48,41]
def aS6:List UInt8:= [40,111,119,110,46,97,44,32,111,119,110,46,97,41]
def aJp:List UInt8:= [100,105,118,40,36,49,44,32,111,119,110,46,97,41]
def aJq:List UInt8:= [100,105,118,40,111,119,110,46,97,44,32,45,50,41]
def aNd:List UInt8:= [111,119,110,46,97,44,32,102,97,99,116,46,97,41]
def aNe:List UInt8:= [111,119,110,46,97,44,32,102,97,99,116,46,98,41]
def aS7:List UInt8:= [40,45,49,47,50,44,32,111,119,110,46,97,41,41]
def aQa:List UInt8:= [51,41,44,32,111,119,110,46,98,44,32,36,48,41]
def aJr:List UInt8:= [114,97,116,101,46,120,40,111,119,110,46,97,41]
def aNf:List UInt8:= [111,119,110,46,97,44,32,111,119,110,46,97,41]
def aKS:List UInt8:= [45,49,47,50,44,32,111,119,110,46,97,41,41]
def aNg:List UInt8:= [41,44,32,111,119,110,46,98,44,32,36,48,41]
def aWn:List UInt8:= [44,32,111,119,110,46,98,44,32,36,48,41]
def aDv:List UInt8:= [45,48,49,50,51,52,53,54,55,56,57,47]
def aS8:List UInt8:= [40,36,49,44,32,111,119,110,46,97,41]
def aS9:List UInt8:= [40,111,119,110,46,97,44,32,45,50,41]
def a2z:List UInt8:= [46,97,44,32,102,97,99,116,46,97,41]
def a2A:List UInt8:= [46,97,44,32,102,97,99,116,46,98,41]
def a2B:List UInt8:= [46,97,44,32,111,119,110,46,97,41]
def aS_:List UInt8:= [36,49,44,32,111,119,110,46,97,41]
def aNh:List UInt8:= [111,119,110,46,97,44,32,45,50,41]
def aNi:List UInt8:= [111,119,110,46,98,44,32,36,48,41]
def aWo:List UInt8:= [97,44,32,102,97,99,116,46,97,41]
def aWp:List UInt8:= [97,44,32,102,97,99,116,46,98,41]
def a2C:List UInt8:= [46,120,40,111,119,110,46,97,41]
def aWq:List UInt8:= [97,44,32,111,119,110,46,97,41]
def aNj:List UInt8:= [44,32,111,119,110,46,97,41,41]
def aQb:List UInt8:= [49,44,32,111,119,110,46,97,41]
def aWr:List UInt8:= [44,32,102,97,99,116,46,97,41]
def aWs:List UInt8:= [44,32,102,97,99,116,46,98,41]
def aWt:List UInt8:= [120,40,111,119,110,46,97,41]
def aHW:List UInt8:= [44,32,111,119,110,46,97,41]
def aNk:List UInt8:= [111,119,110,46,97,41,41]
def a2D:List UInt8:= [40,111,119,110,46,97,41]
def aNl:List UInt8:= [102,97,99,116,46,97,41]
def aNm:List UInt8:= [102,97,99,116,46,98,41]
def a2E:List UInt8:= [46,97,44,32,45,50,41]
def a2F:List UInt8:= [46,98,44,32,36,48,41]
def az0:List UInt8:= [111,119,110,46,97,41]
def aWu:List UInt8:= [97,44,32,45,50,41]
def aWv:List UInt8:= [98,44,32,36,48,41]
def a2G:List UInt8:= [108,101,115,115]
def aWw:List UInt8:= [44,32,45,50,41]
def aWx:List UInt8:= [44,32,36,48,41]
def a2H:List UInt8:= [102,97,99,116]
def aWy:List UInt8:= [45,49,47,50]
def a2I:List UInt8:= [46,97,41,41]
theorem k0:ad1 prog ap 90 [.ptr 0 0 0,.str [36]] (rA aHV 1) (.ret (.bool false)) (rA aHV 1):=cK (.nil)
theorem k1:ad1 prog ap 92 [.ptr 0 0 0,.str zs2] (rA aHV 1) (.ret (.str [97,100,100])) (rA aS3 1):=toK (avw aHV zs2 (1) false (by decide) (by decide)) (by kernel_rfl)
theorem k2:ad1 prog ap 90 [.ptr 0 0 0,.str [46]] (rA aS3 1) (.ret (.bool false)) (rA aS3 1):=cK (.nil)
theorem k3:CO 93 [.int .i64 5] (.ret (.str [102,97,99,116,46])):=cK (.nil)
theorem k4:CO 93 [.int .i64 6] (.ret (.str [111,119,110,46])):=cK (.nil)
theorem k5:CO 93 [.int .i64 7] (.ret (.str [112,114,105,111,114,46])):=cK (.nil)
theorem k6:CO 93 [.int .i64 8] (.ret (.str [115,112,111,117,115,101,46])):=cK (.nil)
theorem k7:CO 93 [.int .i64 9] (.ret (.str [97,100,100])):=cK (.nil)
theorem k8:CO 93 [.int .i64 10] (.ret (.str [115,117,98])):=cK (.nil)
theorem k9:CO 93 [.int .i64 11] (.ret (.str [109,117,108])):=cK (.nil)
theorem k10:CO 93 [.int .i64 12] (.ret (.str [100,105,118])):=cK (.nil)
theorem k11:CO 93 [.int .i64 13] (.ret (.str [109,105,110])):=cK (.nil)
theorem k12:CO 93 [.int .i64 14] (.ret (.str [109,97,120])):=cK (.nil)
theorem k13:CO 93 [.int .i64 15] (.ret (.str [105,102])):=cK (.nil)
theorem k14:CO 93 [.int .i64 16] (.ret (.str a2G)):=cK (.nil)
theorem k15:CO 93 [.int .i64 17] (.ret (.str [101,113,117,97,108])):=cK (.nil)
theorem k16:CO 93 [.int .i64 18] (.ret (.str [97,110,100])):=cK (.nil)
theorem k17:CO 93 [.int .i64 19] (.ret (.str [111,114])):=cK (.nil)
theorem k18:CO 93 [.int .i64 20] (.ret (.str [110,111,116])):=cK (.nil)
theorem k19:CO 93 [.int .i64 21] (.ret (.str [100,111,119,110])):=cK (.nil)
theorem k20:CO 93 [.int .i64 22] (.ret (.str [117,112])):=cK (.nil)
theorem k21:CO 93 [.int .i64 23] (.ret (.str [110,101,97,114])):=cK (.nil)
theorem k22:CO 93 [.int .i64 24] (.ret (.str [114,97,116,101,46])):=cK (.nil)
theorem k23:CO 32 [.int .i64 9] (.ret (.bool false)):=cK (.nil)
theorem k24:CO 34 [.int .i64 9] (.ret (.bool false)):=cK (.nil)
theorem k25:CO 30 [.int .i64 9] (.ret (.int .i64 2)):=cK (.nil)
theorem k26:ad1 prog ap 90 [.ptr 0 0 0,.str [40]] (rA aS3 1) (.ret (.bool true)) (rA aNd 1):=cK (.nil)
theorem k27:ad1 prog ap 90 [.ptr 0 0 0,.str [36]] (rA aNd 2) (.ret (.bool false)) (rA aNd 2):=cK (.nil)
theorem k28:ad1 prog ap 92 [.ptr 0 0 0,.str zs2] (rA aNd 2) (.ret (.str [111,119,110])) (rA a2z 2):=toK (avw aNd zs2 (2) false (by decide) (by decide)) (by kernel_rfl)
theorem k29:ad1 prog ap 90 [.ptr 0 0 0,.str [46]] (rA a2z 2) (.ret (.bool true)) (rA aWo 2):=cK (.nil)
theorem k30:CO 32 [.int .i64 6] (.ret (.bool true)):=cK (.nil)
theorem k31:ad1 prog ap 92 [.ptr 0 0 0,.str zs0] (rA aWo 2) (.ret (.str [97])) (rA aWr 2):=toK (avw aWo zs0 (2) false (by decide) (by decide)) (by kernel_rfl)
theorem k32:CO 34 [.int .i64 6] (.ret (.bool false)):=cK (.nil)
theorem k33:CO 30 [.int .i64 6] (.ret (.int .i64 0)):=cK (.nil)
theorem k34:ad1 prog ap 56 [.ptr 0 0 0] (rA aNd 1) (.ret (.tup [])) (rB aWr 1 2 auX):=cK (.c k33 (.c k33 (.c k32 (.c k31 (.c k30 (.c k22 (.c k21 (.c k20 (.c k19 (.c k18 (.c k17 (.c k16 (.c k15 (.c k14 (.c k13 (.c k12 (.c k11 (.c k10 (.c k9 (.c k8 (.c k7 (.c k6 (.c k5 (.c k4 (.c k3 (.c k29 (.c k28 (.c k27 .nil))))))))))))))))))))))))))))
theorem k35:ad1 prog ap 90 [.ptr 0 0 0,.str [44,32]] (rB aWr 1 2 auX) (.ret (.bool true)) (rB aNl 1 2 auX):=cK (.nil)
theorem k36:ad1 prog ap 90 [.ptr 0 0 0,.str [36]] (rB aNl 1 3 auX) (.ret (.bool false)) (rB aNl 1 3 auX):=cK (.nil)
theorem k37:ad1 prog ap 92 [.ptr 0 0 0,.str zs2] (rB aNl 1 3 auX) (.ret (.str a2H)) (rB [46,97,41] 1 3 auX):=toK (awK aNl zs2 (3) false 1 auX (by decide) (by decide)) (by kernel_rfl)
theorem k38:ad1 prog ap 90 [.ptr 0 0 0,.str [46]] (rB [46,97,41] 1 3 auX) (.ret (.bool true)) (rB [97,41] 1 3 auX):=cK (.nil)
theorem k39:CO 32 [.int .i64 5] (.ret (.bool true)):=cK (.nil)
theorem k40:ad1 prog ap 92 [.ptr 0 0 0,.str zs0] (rB [97,41] 1 3 auX) (.ret (.str [97])) (rB [41] 1 3 auX):=toK (awK [97,41] zs0 (3) false 1 auX (by decide) (by decide)) (by kernel_rfl)
theorem k41:CO 34 [.int .i64 5] (.ret (.bool false)):=cK (.nil)
theorem k42:CO 30 [.int .i64 5] (.ret (.int .i64 0)):=cK (.nil)
theorem k43:ad1 prog ap 56 [.ptr 0 0 0] (rB aNl 1 2 auX) (.ret (.tup [])) [⟨[.str [41],.ref 1 1 0 2,.int .i64 3,.bool false],0,false,0,0,false⟩,⟨zo5,1,false,0,5,true⟩]:=cK (.c k42 (.c k42 (.c k41 (.c k40 (.c k39 (.c k22 (.c k21 (.c k20 (.c k19 (.c k18 (.c k17 (.c k16 (.c k15 (.c k14 (.c k13 (.c k12 (.c k11 (.c k10 (.c k9 (.c k8 (.c k7 (.c k6 (.c k5 (.c k4 (.c k3 (.c k38 (.c k37 (.c k36 .nil))))))))))))))))))))))))))))
theorem k44:ad1 prog ap 90 [.ptr 0 0 0,.str [41]] (rB [41] 2 3 zo5) (.ret (.bool true)) (rB [] 2 3 zo5):=cK (.nil)
theorem k45:ad1 prog ap 56 [.ptr 0 0 0] (rA aHV 0) (.ret (.tup [])) [⟨[.str [],.ref 1 0 0 3,.int .i64 3,.bool false],0,false,0,0,false⟩,⟨(ndL aBa),0,false,0,5,true⟩]:=cK (.c k44 (.c k25 (.c k25 (.c k43 (.c k35 (.c k25 (.c k34 (.c k26 (.c k25 (.c k24 (.c k23 (.c k22 (.c k21 (.c k20 (.c k19 (.c k18 (.c k17 (.c k16 (.c k15 (.c k14 (.c k13 (.c k12 (.c k11 (.c k10 (.c k9 (.c k8 (.c k7 (.c k6 (.c k5 (.c k4 (.c k3 (.c k2 (.c k1 (.c k0 .nil))))))))))))))))))))))))))))))))))
theorem k46:CO 94 [.int .i64 6] (.ret (.bool false)):=cK (.nil)
theorem k47:CO 74 [.agg auX] (.ret (.bool true)):=cK (.c k32 (.c k46 .nil))
theorem k48:CO 75 [.str [97]] (.ret (.bool true)):=cK (.nil)
theorem k49:CO 94 [.int .i64 5] (.ret (.bool false)):=cK (.nil)
theorem k50:CO 74 [.agg [.int .i64 5,.bool false,.str [],.str [],.str [97]]] (.ret (.bool true)):=cK (.c k41 (.c k49 .nil))
theorem k51:CO 94 [.int .i64 9] (.ret (.bool false)):=cK (.nil)
theorem k52:CO 74 [.agg [.int .i64 9,.bool false,.str [],.str [],.str []]] (.ret (.bool true)):=cK (.c k24 (.c k51 .nil))
theorem k53:CO 75 [.str []] (.ret (.bool false)):=cK (.nil)
theorem k54:CO 48 [.sl (ndL aBa) 3 true] (.ret (.int .i64 0)):=cK (.c k25 (.c k53 (.c k52 (.c k23 (.c k42 (.c k48 (.c k50 (.c k39 (.c k33 (.c k48 (.c k47 (.c k30 .nil))))))))))))
theorem k55:CO 57 [.sl (ndL aBa) 3 true] (.ret (.tup [.str aHV,.int .i64 0])):=cK (.c k24 (.c k51 (.c k7 (.c k25 (.c k41 (.c k49 (.c k3 (.c k42 (.c k32 (.c k46 (.c k4 (.c k33 (.c k54 .nil)))))))))))))
theorem k56:CO 27 [.str aHV] (.ret (.tup [.sl (ndL aBa) 3 true,.int .i64 0])):=cK (.c k55 (.c k45 .nil))
theorem k57:CO 36 [.int .i64 1] (.ret (.agg [.bool false,.str [1],.str [1]])):=toK (aDs 1 (by decide)) (by kernel_rfl)
theorem k58:CO 36 [.int .i64 10] (.ret (.agg [.bool false,.str [10],.str [1]])):=toK (aDs 10 (by decide)) (by kernel_rfl)
theorem k59:CO 70 [.agg [.bool false,.str [1],.str [1]]] (.ret (.agg [.bool false,.str [1],.str [1]])):=toK (awO false [1] [1] (by decide) (by decide)) (by kernel_rfl)
theorem k60:CO 70 [.agg [.bool false,.str [10],.str [1]]] (.ret (.agg [.bool false,.str [10],.str [1]])):=toK (awO false [10] [1] (by decide) (by decide)) (by kernel_rfl)
theorem k61:CO 76 [.str [1]] (.ret (.str [1])):=cK (.nil)
theorem k62:CO 107 [.str [1]] (.ret (.tup [.int .i64 1,.bool true])):=cK (.c k61 .nil)
theorem k63:CO 77 [.str [1],.int .i64 3] (.ret (.tup [.int .i64 1,.bool true])):=cK (.c k62 (.c k61 .nil))
theorem k64:CO 77 [.str [1],.int .i64 4] (.ret (.tup [.int .i64 1,.bool true])):=cK (.c k62 (.c k61 .nil))
theorem k65:CO 49 [.int .i64 1] (.ret (.str [1])):=toK (avd 1 (by decide)) (by kernel_rfl)
theorem k66:CO 50 [.str [1],.str [1]] (.ret (.str [1])):=cK (.c k65 (.c k64 (.c k63 .nil)))
theorem k67:CO 76 [.str [10]] (.ret (.str [10])):=cK (.nil)
theorem k68:CO 107 [.str [10]] (.ret (.tup [.int .i64 10,.bool true])):=cK (.c k67 .nil)
theorem k69:CO 77 [.str [10],.int .i64 4] (.ret (.tup [.int .i64 10,.bool true])):=cK (.c k68 (.c k67 .nil))
theorem k70:CO 49 [.int .i64 10] (.ret (.str [10])):=toK (avd 10 (by decide)) (by kernel_rfl)
theorem k71:CO 50 [.str [1],.str [10]] (.ret (.str [10])):=cK (.c k70 (.c k69 (.c k63 .nil)))
theorem k72:CO 51 [.bool false,.str [1],.str [10]] (.ret (.agg [.bool false,.str [1],.str [10]])):=toK (av9 false 1 10 (aup (by decide)) (aup (by decide)) (by decide)) (by kernel_rfl)
theorem k73:CO 58 [.agg [.bool false,.str [1],.str [1]],.agg [.bool false,.str [10],.str [1]]] (.ret (.tup [.agg [.bool false,.str [1],.str [10]],.bool true])):=cK (.c k72 (.c k71 (.c k66 (.c k60 (.c k59 .nil)))))
theorem k74:CO 36 [.int .i64 5] (.ret (.agg [.bool false,.str [5],.str [1]])):=toK (aDs 5 (by decide)) (by kernel_rfl)
theorem k75:CO 70 [.agg [.bool false,.str [5],.str [1]]] (.ret (.agg [.bool false,.str [5],.str [1]])):=toK (awO false [5] [1] (by decide) (by decide)) (by kernel_rfl)
theorem k76:CO 76 [.str [5]] (.ret (.str [5])):=cK (.nil)
theorem k77:CO 107 [.str [5]] (.ret (.tup [.int .i64 5,.bool true])):=cK (.c k76 .nil)
theorem k78:CO 77 [.str [5],.int .i64 4] (.ret (.tup [.int .i64 5,.bool true])):=cK (.c k77 (.c k76 .nil))
theorem k79:CO 49 [.int .i64 5] (.ret (.str [5])):=toK (avd 5 (by decide)) (by kernel_rfl)
theorem k80:CO 50 [.str [1],.str [5]] (.ret (.str [5])):=cK (.c k79 (.c k78 (.c k63 .nil)))
theorem k81:CO 51 [.bool false,.str [1],.str [5]] (.ret (.agg [.bool false,.str [1],.str [5]])):=toK (av9 false 1 5 (aup (by decide)) (aup (by decide)) (by decide)) (by kernel_rfl)
theorem k82:CO 58 [.agg [.bool false,.str [1],.str [1]],.agg [.bool false,.str [5],.str [1]]] (.ret (.tup [.agg [.bool false,.str [1],.str [5]],.bool true])):=cK (.c k81 (.c k80 (.c k66 (.c k75 (.c k59 .nil)))))
theorem k83:CO 36 [.int .i64 0] (.ret (.agg [.bool false,.str [],.str [1]])):=toK (aDs 0 (by decide)) (by kernel_rfl)
theorem k84:CO 28 [.int .i64 1] (.ret (.sl [.str [120],.int .i64 0,.int .i64 0,.sl [.bool false,.str [],.str [1],.bool false,.str [1],.str [10],.bool false,.str [5],.str [1],.bool false,.str [1],.str [5]] 2 true] 1 true)):=cK (.c k74 (.c k83 (.c k82 (.c k74 (.c k57 (.c k73 (.c k58 (.c k57 .nil))))))))
theorem k85:CO 14 [.sl (ndL aBa) 3 true,.sl [.str [120],.int .i64 0,.int .i64 0,.sl [.bool false,.str [],.str [1],.bool false,.str [1],.str [10],.bool false,.str [5],.str [1],.bool false,.str [1],.str [5]] 2 true] 1 true,.int .i64 6,.str [97]] (.ret (.int .i64 1)):=ad1.args (args:= [.sl (ndL aBa) 3 true,.sl [.str [120],.int .i64 0,.int .i64 0,.sl [.bool false,.str [],.str [1],.bool false,.str [1],.str [10],.bool false,.str [5],.str [1],.bool false,.str [1],.str [5]] 2 false] 1 true,.int .i64 6,.str [97]]) (.cons (anX.refl _) (.cons (anX.slP (.same (.same (.same (.sl .nil))))) (.cons (anX.refl _) (.cons (anX.refl _) .nil)))) (toK (an8 aBa true azU true axe 6 [97] (awz (by kernel_rfl)) (by decide) (by decide) (avH)) (by kernel_rfl))
theorem k86:CO 26 [.str aHV,.str [97],.int .i64 1] (.ret (.bool true)):=cK (.c k85 (.c k84 (.c k56 .nil)))
theorem k87:CO 14 [.sl (ndL aBa) 3 true,.sl [.str [120],.int .i64 0,.int .i64 0,.sl [.bool false,.str [],.str [1],.bool false,.str [1],.str [10],.bool false,.str [5],.str [1],.bool false,.str [1],.str [5]] 2 true] 1 true,.int .i64 6,.str [98]] (.ret (.int .i64 0)):=ad1.args (args:= [.sl (ndL aBa) 3 true,.sl [.str [120],.int .i64 0,.int .i64 0,.sl [.bool false,.str [],.str [1],.bool false,.str [1],.str [10],.bool false,.str [5],.str [1],.bool false,.str [1],.str [5]] 2 false] 1 true,.int .i64 6,.str [98]]) (.cons (anX.refl _) (.cons (anX.slP (.same (.same (.same (.sl .nil))))) (.cons (anX.refl _) (.cons (anX.refl _) .nil)))) (toK (an8 aBa true azU true axe 6 [98] (awz (by kernel_rfl)) (by decide) (by decide) (avH)) (by kernel_rfl))
theorem k88:CO 26 [.str aHV,.str [98],.int .i64 0] (.ret (.bool true)):=cK (.c k87 (.c k84 (.c k56 .nil)))
theorem k89:ad1 prog ap 90 [.ptr 0 0 0,.str [36]] (rA aJo 1) (.ret (.bool false)) (rA aJo 1):=cK (.nil)
theorem k90:ad1 prog ap 92 [.ptr 0 0 0,.str zs2] (rA aJo 1) (.ret (.str [115,117,98])) (rA aS6 1):=toK (avw aJo zs2 (1) false (by decide) (by decide)) (by kernel_rfl)
theorem k91:ad1 prog ap 90 [.ptr 0 0 0,.str [46]] (rA aS6 1) (.ret (.bool false)) (rA aS6 1):=cK (.nil)
theorem k92:CO 32 [.int .i64 10] (.ret (.bool false)):=cK (.nil)
theorem k93:CO 34 [.int .i64 10] (.ret (.bool false)):=cK (.nil)
theorem k94:CO 30 [.int .i64 10] (.ret (.int .i64 2)):=cK (.nil)
theorem k95:ad1 prog ap 90 [.ptr 0 0 0,.str [40]] (rA aS6 1) (.ret (.bool true)) (rA aNf 1):=cK (.nil)
theorem k96:ad1 prog ap 90 [.ptr 0 0 0,.str [36]] (rA aNf 2) (.ret (.bool false)) (rA aNf 2):=cK (.nil)
theorem k97:ad1 prog ap 92 [.ptr 0 0 0,.str zs2] (rA aNf 2) (.ret (.str [111,119,110])) (rA a2B 2):=toK (avw aNf zs2 (2) false (by decide) (by decide)) (by kernel_rfl)
theorem k98:ad1 prog ap 90 [.ptr 0 0 0,.str [46]] (rA a2B 2) (.ret (.bool true)) (rA aWq 2):=cK (.nil)
theorem k99:ad1 prog ap 92 [.ptr 0 0 0,.str zs0] (rA aWq 2) (.ret (.str [97])) (rA aHW 2):=toK (avw aWq zs0 (2) false (by decide) (by decide)) (by kernel_rfl)
theorem a5g:ad1 prog ap 56 [.ptr 0 0 0] (rA aNf 1) (.ret (.tup [])) (rB aHW 1 2 auX):=cK (.c k33 (.c k33 (.c k32 (.c k99 (.c k30 (.c k22 (.c k21 (.c k20 (.c k19 (.c k18 (.c k17 (.c k16 (.c k15 (.c k14 (.c k13 (.c k12 (.c k11 (.c k10 (.c k9 (.c k8 (.c k7 (.c k6 (.c k5 (.c k4 (.c k3 (.c k98 (.c k97 (.c k96 .nil))))))))))))))))))))))))))))
theorem a5h:ad1 prog ap 90 [.ptr 0 0 0,.str [44,32]] (rB aHW 1 2 auX) (.ret (.bool true)) (rB az0 1 2 auX):=cK (.nil)
theorem a5i:ad1 prog ap 90 [.ptr 0 0 0,.str [36]] (rB az0 1 3 auX) (.ret (.bool false)) (rB az0 1 3 auX):=cK (.nil)
theorem a5j:ad1 prog ap 92 [.ptr 0 0 0,.str zs2] (rB az0 1 3 auX) (.ret (.str [111,119,110])) (rB [46,97,41] 1 3 auX):=toK (awK az0 zs2 (3) false 1 auX (by decide) (by decide)) (by kernel_rfl)
theorem a5k:ad1 prog ap 56 [.ptr 0 0 0] (rB az0 1 2 auX) (.ret (.tup [])) [⟨[.str [41],.ref 1 1 0 2,.int .i64 3,.bool false],0,false,0,0,false⟩,⟨zo6,1,false,0,5,true⟩]:=cK (.c k33 (.c k33 (.c k32 (.c k40 (.c k30 (.c k22 (.c k21 (.c k20 (.c k19 (.c k18 (.c k17 (.c k16 (.c k15 (.c k14 (.c k13 (.c k12 (.c k11 (.c k10 (.c k9 (.c k8 (.c k7 (.c k6 (.c k5 (.c k4 (.c k3 (.c k38 (.c a5j (.c a5i .nil))))))))))))))))))))))))))))
theorem a5l:ad1 prog ap 90 [.ptr 0 0 0,.str [41]] (rB [41] 2 3 zo6) (.ret (.bool true)) (rB [] 2 3 zo6):=cK (.nil)
theorem a5m:ad1 prog ap 56 [.ptr 0 0 0] (rA aJo 0) (.ret (.tup [])) [⟨[.str [],.ref 1 0 0 3,.int .i64 3,.bool false],0,false,0,0,false⟩,⟨(ndL aFe),0,false,0,5,true⟩]:=cK (.c a5l (.c k94 (.c k94 (.c a5k (.c a5h (.c k94 (.c a5g (.c k95 (.c k94 (.c k93 (.c k92 (.c k22 (.c k21 (.c k20 (.c k19 (.c k18 (.c k17 (.c k16 (.c k15 (.c k14 (.c k13 (.c k12 (.c k11 (.c k10 (.c k9 (.c k8 (.c k7 (.c k6 (.c k5 (.c k4 (.c k3 (.c k91 (.c k90 (.c k89 .nil))))))))))))))))))))))))))))))))))
theorem aUP:CO 94 [.int .i64 10] (.ret (.bool false)):=cK (.nil)
theorem aZu:CO 74 [.agg [.int .i64 10,.bool false,.str [],.str [],.str []]] (.ret (.bool true)):=cK (.c k93 (.c aUP .nil))
theorem a5n:CO 48 [.sl (ndL aFe) 3 true] (.ret (.int .i64 0)):=cK (.c k94 (.c k53 (.c aZu (.c k92 (.c k33 (.c k48 (.c k47 (.c k30 (.c k33 (.c k48 (.c k47 (.c k30 .nil))))))))))))
theorem a5o:CO 57 [.sl (ndL aFe) 3 true] (.ret (.tup [.str aJo,.int .i64 0])):=cK (.c k93 (.c aUP (.c k8 (.c k94 (.c k32 (.c k46 (.c k4 (.c k33 (.c k32 (.c k46 (.c k4 (.c k33 (.c a5n .nil)))))))))))))
theorem a5p:CO 27 [.str aJo] (.ret (.tup [.sl (ndL aFe) 3 true,.int .i64 0])):=cK (.c a5o (.c a5m .nil))
theorem a5q:CO 14 [.sl (ndL aFe) 3 true,.sl [.str [120],.int .i64 0,.int .i64 0,.sl [.bool false,.str [],.str [1],.bool false,.str [1],.str [10],.bool false,.str [5],.str [1],.bool false,.str [1],.str [5]] 2 true] 1 true,.int .i64 6,.str [97]] (.ret (.int .i64 3)):=ad1.args (args:= [.sl (ndL aFe) 3 true,.sl [.str [120],.int .i64 0,.int .i64 0,.sl [.bool false,.str [],.str [1],.bool false,.str [1],.str [10],.bool false,.str [5],.str [1],.bool false,.str [1],.str [5]] 2 false] 1 true,.int .i64 6,.str [97]]) (.cons (anX.refl _) (.cons (anX.slP (.same (.same (.same (.sl .nil))))) (.cons (anX.refl _) (.cons (anX.refl _) .nil)))) (toK (an8 aFe true azU true axe 6 [97] (awz (by kernel_rfl)) (by decide) (by decide) (avH)) (by kernel_rfl))
theorem a5r:CO 26 [.str aJo,.str [97],.int .i64 3] (.ret (.bool true)):=cK (.c a5q (.c k84 (.c a5p .nil)))
theorem a5s:ad1 prog ap 90 [.ptr 0 0 0,.str [36]] (rA zs5 1) (.ret (.bool false)) (rA zs5 1):=cK (.nil)
theorem a5t:ad1 prog ap 92 [.ptr 0 0 0,.str zs2] (rA zs5 1) (.ret (.str [115,117,98])) (rA zs7 1):=toK (avw zs5 zs2 (1) false (by decide) (by decide)) (by kernel_rfl)
theorem a5u:ad1 prog ap 90 [.ptr 0 0 0,.str [46]] (rA zs7 1) (.ret (.bool false)) (rA zs7 1):=cK (.nil)
theorem a5v:ad1 prog ap 90 [.ptr 0 0 0,.str [40]] (rA zs7 1) (.ret (.bool true)) (rA zs9 1):=cK (.nil)
theorem a5w:ad1 prog ap 90 [.ptr 0 0 0,.str [36]] (rA zs9 2) (.ret (.bool true)) (rA aP_ 2):=cK (.nil)
theorem a5x:ad1 prog ap 92 [.ptr 0 0 0,.str aDv] (rA aP_ 2) (.ret (.str [53])) (rA aNb 2):=toK (avw aP_ aDv (2) false (by decide) (by decide)) (by kernel_rfl)
theorem aRl:CO 76 [.str []] (.ret (.str [])):=cK (.nil)
theorem aZv:CO 107 [.str []] (.ret (.tup [.int .i64 0,.bool true])):=cK (.c aRl .nil)
theorem a5y:CO 77 [.str [],.int .i64 3] (.ret (.tup [.int .i64 0,.bool true])):=cK (.c aZv (.c aRl .nil))
theorem aRm:CO 49 [.int .i64 0] (.ret (.str [])):=toK (avd 0 (by decide)) (by kernel_rfl)
theorem aOw:CO 50 [.str [],.str [10]] (.ret (.str [])):=cK (.c aRm (.c k69 (.c a5y .nil)))
theorem aMl:CO 77 [.str [],.int .i64 7] (.ret (.tup [.int .i64 0,.bool true])):=cK (.c aZv (.c aRl .nil))
theorem a5z:CO 77 [.str [5],.int .i64 7] (.ret (.tup [.int .i64 5,.bool true])):=cK (.c k77 (.c k76 .nil))
theorem a5A:CO 61 [.str [],.str [5]] (.ret (.str [5])):=cK (.c k79 (.c a5z (.c aMl .nil)))
theorem a5B:CO 157 [.str [53]] (.ret (.tup [.str [5],.bool true])):=cK (.c a5A (.c k79 (.c aOw (.c k70 .nil))))
theorem a5C:CO 77 [.str [1],.int .i64 7] (.ret (.tup [.int .i64 1,.bool true])):=cK (.c k62 (.c k61 .nil))
theorem aZw:CO 61 [.str [],.str [1]] (.ret (.str [1])):=cK (.c k65 (.c a5C (.c aMl .nil)))
theorem aJ6:CO 157 [.str [49]] (.ret (.tup [.str [1],.bool true])):=cK (.c aZw (.c k65 (.c aOw (.c k70 .nil))))
theorem a5D:CO 128 [.str [5]] (.ret (.bool true)):=toK (aBy [5]) (by kernel_rfl)
theorem aJ7:CO 128 [.str [1]] (.ret (.bool true)):=toK (aBy [1]) (by kernel_rfl)
theorem a5E:CO 51 [.bool false,.str [5],.str [1]] (.ret (.agg [.bool false,.str [5],.str [1]])):=toK (av9 false 5 1 (aup (by decide)) (aup (by decide)) (by decide)) (by kernel_rfl)
theorem a5F:CO 96 [.bool false,.str [5],.str [1]] (.ret (.tup [.agg [.bool false,.str [5],.str [1]],.bool true])):=cK (.c a5E (.c aJ7 (.c a5D .nil)))
theorem a5G:CO 81 [.str [5],.str [10]] (.ret (.tup [.str [],.str [5],.bool true])):=toK (azH [5] [10] (by decide) (by decide) (by decide)) (by kernel_rfl)
theorem a5H:CO 127 [.str [5]] (.ret (.str [53])):=cK (.c k77 (.c a5G (.c k70 (.c k76 .nil))))
theorem aOx:CO 118 [.str [1],.str [1]] (.ret (.int .i64 0)):=cK (.c k61 (.c k61 .nil))
theorem aZx:CO 95 [.agg [.bool false,.str [5],.str [1]]] (.ret (.str [53])):=cK (.c aOx (.c k65 (.c a5H (.c k75 .nil))))
theorem a5I:CO 126 [.str [53]] (.ret (.tup [.agg [.bool false,.str [5],.str [1]],.bool true])):=cK (.c aZx (.c a5F (.c aJ6 (.c a5B .nil))))
theorem a5J:ad1 prog ap 91 [.ptr 0 0 0] (rA aP_ 2) (.ret (.agg [.bool false,.str [5],.str [1]])) (rA aNb 2):=cK (.c a5I (.c a5x .nil))
theorem aZy:ajS prog ap (rA zs9 1) 206 (aAq 5 (adW f56)) ⟨([(0,.ptr 0 0 0),(2,.bool true)]++dE [3,4,5,6,7,8,9,10,11,12,13,14,15]++ [(41,.bool false),(47,.bool true)]++dE [65,70,100,102,117,122,128,133,139,145,158,166,170,175,184,188,192]),[(0,⟨[.str aP_,.nilS,.int .i64 2,.bool false],0,false,0,0,true⟩)],.dead,[]⟩ (.normal) ⟨([(0,.ptr 0 0 0),(2,.bool true)]++dE [3,4,5,6,7,8,9,10,11,12,13,14,15]++ [(41,.bool false),(47,.bool true)]++dE [65,70,100,102,117,122,128,133,139,145,158,166,170,175,184,188,192]),[(0,⟨[.str aNb,.ref 1 0 0 1,.int .i64 2,.bool false],0,false,0,0,false⟩),(1,⟨axI,0,false,0,5,true⟩)],.dead,[]⟩:=fun nt hn=>aDL aHj (keep:=aAg ap 56) (i:=4) (b:=0) (d:=52) (nt0:=206) (ans:= [(.ret (.agg [.bool false,.str [5],.str [1]]),(rA aNb 2))]) (.cons (rfl:(.nilS:AV)=(.nilS:AV)) (.cons (rfl:(.nilS:AV)=(.nilS:AV)) (.cons a5J .nil))) hn (by kernel_rfl)
theorem a5K:ad1 prog ap 56 [.ptr 0 0 0] (rA zs9 1) (.ret (.tup [])) (rB aNb 1 2 axI):=pK [1005] 4 8 (.n 9 .nil) (.l aZy (.c a5w .nil))
theorem a5L:ad1 prog ap 90 [.ptr 0 0 0,.str [44,32]] (rB aNb 1 2 axI) (.ret (.bool true)) (rB aNc 1 2 axI):=cK (.nil)
theorem a5M:ad1 prog ap 90 [.ptr 0 0 0,.str [36]] (rB aNc 1 3 axI) (.ret (.bool false)) (rB aNc 1 3 axI):=cK (.nil)
theorem a5N:ad1 prog ap 92 [.ptr 0 0 0,.str zs2] (rB aNc 1 3 axI) (.ret (.str [109,117,108])) (rB aS7 1 3 axI):=toK (awK aNc zs2 (3) false 1 axI (by decide) (by decide)) (by kernel_rfl)
theorem a5O:ad1 prog ap 90 [.ptr 0 0 0,.str [46]] (rB aS7 1 3 axI) (.ret (.bool false)) (rB aS7 1 3 axI):=cK (.nil)
theorem aRn:CO 32 [.int .i64 11] (.ret (.bool false)):=cK (.nil)
theorem aOy:CO 34 [.int .i64 11] (.ret (.bool false)):=cK (.nil)
theorem aDq:CO 30 [.int .i64 11] (.ret (.int .i64 2)):=cK (.nil)
theorem a5P:ad1 prog ap 90 [.ptr 0 0 0,.str [40]] (rB aS7 1 3 axI) (.ret (.bool true)) (rB aKS 1 3 axI):=cK (.nil)
theorem a5Q:ad1 prog ap 90 [.ptr 0 0 0,.str [36]] (rB aKS 1 4 axI) (.ret (.bool false)) (rB aKS 1 4 axI):=cK (.nil)
theorem a5R:ad1 prog ap 92 [.ptr 0 0 0,.str aDv] (rB aKS 1 4 axI) (.ret (.str aWy)) (rB aNj 1 4 axI):=toK (awK aKS aDv (4) false 1 axI (by decide) (by decide)) (by kernel_rfl)
theorem aZz:CO 49 [.int .i64 2] (.ret (.str [2])):=toK (avd 2 (by decide)) (by kernel_rfl)
theorem aRo:CO 76 [.str [2]] (.ret (.str [2])):=cK (.nil)
theorem aZA:CO 107 [.str [2]] (.ret (.tup [.int .i64 2,.bool true])):=cK (.c aRo .nil)
theorem a5S:CO 77 [.str [2],.int .i64 7] (.ret (.tup [.int .i64 2,.bool true])):=cK (.c aZA (.c aRo .nil))
theorem a5T:CO 61 [.str [],.str [2]] (.ret (.str [2])):=cK (.c aZz (.c a5S (.c aMl .nil)))
theorem aZB:CO 157 [.str [50]] (.ret (.tup [.str [2],.bool true])):=cK (.c a5T (.c aZz (.c aOw (.c k70 .nil))))
theorem aZC:CO 128 [.str [2]] (.ret (.bool true)):=toK (aBy [2]) (by kernel_rfl)
theorem a5U:CO 51 [.bool true,.str [1],.str [2]] (.ret (.agg [.bool true,.str [1],.str [2]])):=toK (av9 true 1 2 (aup (by decide)) (aup (by decide)) (by decide)) (by kernel_rfl)
theorem a5V:CO 96 [.bool true,.str [1],.str [2]] (.ret (.tup [.agg [.bool true,.str [1],.str [2]],.bool true])):=cK (.c a5U (.c aZC (.c aJ7 .nil)))
theorem a5W:CO 70 [.agg [.bool true,.str [1],.str [2]]] (.ret (.agg [.bool true,.str [1],.str [2]])):=toK (awO true [1] [2] (by decide) (by decide)) (by kernel_rfl)
theorem a5X:CO 81 [.str [1],.str [10]] (.ret (.tup [.str [],.str [1],.bool true])):=toK (azH [1] [10] (by decide) (by decide) (by decide)) (by kernel_rfl)
theorem aZD:CO 127 [.str [1]] (.ret (.str [49])):=cK (.c k62 (.c a5X (.c k70 (.c k61 .nil))))
theorem a5Y:CO 118 [.str [2],.str [1]] (.ret (.int .i64 1)):=cK (.c k61 (.c aRo .nil))
theorem a5Z:CO 81 [.str [2],.str [10]] (.ret (.tup [.str [],.str [2],.bool true])):=toK (azH [2] [10] (by decide) (by decide) (by decide)) (by kernel_rfl)
theorem aZE:CO 127 [.str [2]] (.ret (.str [50])):=cK (.c aZA (.c a5Z (.c k70 (.c aRo .nil))))
theorem aZF:CO 95 [.agg [.bool true,.str [1],.str [2]]] (.ret (.str aWy)):=cK (.c aZE (.c a5Y (.c k65 (.c aZD (.c a5W .nil)))))
theorem a5_:CO 126 [.str aWy] (.ret (.tup [.agg [.bool true,.str [1],.str [2]],.bool true])):=cK (.c aZF (.c a5V (.c aZB (.c aJ6 .nil))))
theorem a6a:ad1 prog ap 91 [.ptr 0 0 0] (rB aKS 1 4 axI) (.ret (.agg [.bool true,.str [1],.str [2]])) (rB aNj 1 4 axI):=cK (.c a5_ (.c a5R .nil))
theorem a6b:ad1 prog ap 90 [.ptr 0 0 0,.str [100]] (rB aNj 1 4 axI) (.ret (.bool false)) (rB aNj 1 4 axI):=cK (.nil)
theorem a6c:ad1 prog ap 56 [.ptr 0 0 0] (rB aKS 1 3 axI) (.ret (.tup [])) [⟨[.str aNj,.ref 1 1 0 2,.int .i64 4,.bool false],0,false,0,0,false⟩,⟨aCo,1,false,0,5,true⟩]:=cK (.c a6b (.c a6a (.c a5Q .nil)))
theorem a6d:ad1 prog ap 90 [.ptr 0 0 0,.str [44,32]] (rB aNj 2 4 aCo) (.ret (.bool true)) (rB aNk 2 4 aCo):=cK (.nil)
theorem a6e:ad1 prog ap 90 [.ptr 0 0 0,.str [36]] (rB aNk 2 5 aCo) (.ret (.bool false)) (rB aNk 2 5 aCo):=cK (.nil)
theorem a6f:ad1 prog ap 92 [.ptr 0 0 0,.str zs2] (rB aNk 2 5 aCo) (.ret (.str [111,119,110])) (rB a2I 2 5 aCo):=toK (awK aNk zs2 (5) false 2 aCo (by decide) (by decide)) (by kernel_rfl)
theorem a6g:ad1 prog ap 90 [.ptr 0 0 0,.str [46]] (rB a2I 2 5 aCo) (.ret (.bool true)) (rB [97,41,41] 2 5 aCo):=cK (.nil)
theorem a6h:ad1 prog ap 92 [.ptr 0 0 0,.str zs0] (rB [97,41,41] 2 5 aCo) (.ret (.str [97])) (rB [41,41] 2 5 aCo):=toK (awK [97,41,41] zs0 (5) false 2 aCo (by decide) (by decide)) (by kernel_rfl)
theorem a6i:ad1 prog ap 56 [.ptr 0 0 0] (rB aNk 2 4 aCo) (.ret (.tup [])) [⟨[.str [41,41],.ref 1 1 0 3,.int .i64 5,.bool false],0,false,0,0,false⟩,⟨zo3,1,false,0,5,true⟩]:=cK (.c k33 (.c k33 (.c k32 (.c a6h (.c k30 (.c k22 (.c k21 (.c k20 (.c k19 (.c k18 (.c k17 (.c k16 (.c k15 (.c k14 (.c k13 (.c k12 (.c k11 (.c k10 (.c k9 (.c k8 (.c k7 (.c k6 (.c k5 (.c k4 (.c k3 (.c a6g (.c a6f (.c a6e .nil))))))))))))))))))))))))))))
theorem a6j:ad1 prog ap 90 [.ptr 0 0 0,.str [41]] (rB [41,41] 3 5 zo3) (.ret (.bool true)) (rB [41] 3 5 zo3):=cK (.nil)
theorem a6k:ad1 prog ap 56 [.ptr 0 0 0] (rB aNc 1 2 axI) (.ret (.tup [])) [⟨[.str [41],.ref 1 3 0 4,.int .i64 5,.bool false],0,false,0,0,false⟩,⟨zo2,3,false,0,5,true⟩]:=cK (.c a6j (.c aDq (.c aDq (.c a6i (.c a6d (.c aDq (.c a6c (.c a5P (.c aDq (.c aOy (.c aRn (.c k22 (.c k21 (.c k20 (.c k19 (.c k18 (.c k17 (.c k16 (.c k15 (.c k14 (.c k13 (.c k12 (.c k11 (.c k10 (.c k9 (.c k8 (.c k7 (.c k6 (.c k5 (.c k4 (.c k3 (.c a5O (.c a5N (.c a5M .nil))))))))))))))))))))))))))))))))))
theorem a6l:ad1 prog ap 90 [.ptr 0 0 0,.str [41]] (rB [41] 4 5 zo2) (.ret (.bool true)) (rB [] 4 5 zo2):=cK (.nil)
theorem a6m:ad1 prog ap 56 [.ptr 0 0 0] (rA zs5 0) (.ret (.tup [])) [⟨[.str [],.ref 1 0 0 5,.int .i64 5,.bool false],0,false,0,0,false⟩,⟨(ndL aFf),0,false,0,5,true⟩]:=cK (.c a6l (.c k94 (.c k94 (.c a6k (.c a5L (.c k94 (.c a5K (.c a5v (.c k94 (.c k93 (.c k92 (.c k22 (.c k21 (.c k20 (.c k19 (.c k18 (.c k17 (.c k16 (.c k15 (.c k14 (.c k13 (.c k12 (.c k11 (.c k10 (.c k9 (.c k8 (.c k7 (.c k6 (.c k5 (.c k4 (.c k3 (.c a5u (.c a5t (.c a5s .nil))))))))))))))))))))))))))))))))))
theorem aRp:CO 32 [.int .i64 1] (.ret (.bool false)):=cK (.nil)
theorem aIx:CO 94 [.int .i64 1] (.ret (.bool true)):=cK (.nil)
theorem a6n:CO 105 [.agg [.bool false,.str [5],.str [1]]] (.ret (.bool true)):=toK (axU false [5] [1] (by decide) (by decide)) (by kernel_rfl)
theorem a6o:CO 74 [.agg axI] (.ret (.bool true)):=cK (.c a6n (.c aIx .nil))
theorem aIy:CO 30 [.int .i64 1] (.ret (.int .i64 0)):=cK (.nil)
theorem aZG:CO 32 [.int .i64 3] (.ret (.bool false)):=cK (.nil)
theorem aRq:CO 94 [.int .i64 3] (.ret (.bool true)):=cK (.nil)
theorem a6p:CO 105 [.agg [.bool true,.str [1],.str [2]]] (.ret (.bool true)):=toK (axU true [1] [2] (by decide) (by decide)) (by kernel_rfl)
theorem a6q:CO 74 [.agg [.int .i64 3,.bool true,.str [1],.str [2],.str []]] (.ret (.bool true)):=cK (.c a6p (.c aRq .nil))
theorem aRr:CO 30 [.int .i64 3] (.ret (.int .i64 0)):=cK (.nil)
theorem aUQ:CO 94 [.int .i64 11] (.ret (.bool false)):=cK (.nil)
theorem aZH:CO 74 [.agg [.int .i64 11,.bool false,.str [],.str [],.str []]] (.ret (.bool true)):=cK (.c aOy (.c aUQ .nil))
theorem a6r:CO 48 [.sl (ndL aFf) 5 true] (.ret (.int .i64 0)):=cK (.c k94 (.c k53 (.c aZu (.c k92 (.c aDq (.c k53 (.c aZH (.c aRn (.c k33 (.c k48 (.c k47 (.c k30 (.c aRr (.c k53 (.c a6q (.c aZG (.c aIy (.c k53 (.c a6o (.c aRp .nil))))))))))))))))))))
theorem aRs:CO 93 [.int .i64 1] (.ret (.str [36])):=cK (.nil)
theorem aZI:CO 93 [.int .i64 3] (.ret (.str [])):=cK (.nil)
theorem a6s:CO 57 [.sl (ndL aFf) 5 true] (.ret (.tup [.str zs5,.int .i64 0])):=cK (.c k93 (.c aUP (.c k8 (.c k94 (.c aOy (.c aUQ (.c k9 (.c aDq (.c k32 (.c k46 (.c k4 (.c k33 (.c aZF (.c aRq (.c aZI (.c aRr (.c aZx (.c aIx (.c aRs (.c aIy (.c a6r .nil)))))))))))))))))))))
theorem a6t:CO 27 [.str zs5] (.ret (.tup [.sl (ndL aFf) 5 true,.int .i64 0])):=cK (.c a6s (.c a6m .nil))
theorem a6u:CO 14 [.sl (ndL aFf) 5 true,.sl [.str [120],.int .i64 0,.int .i64 0,.sl [.bool false,.str [],.str [1],.bool false,.str [1],.str [10],.bool false,.str [5],.str [1],.bool false,.str [1],.str [5]] 2 true] 1 true,.int .i64 6,.str [97]] (.ret (.int .i64 1)):=ad1.args (args:= [.sl (ndL aFf) 5 true,.sl [.str [120],.int .i64 0,.int .i64 0,.sl [.bool false,.str [],.str [1],.bool false,.str [1],.str [10],.bool false,.str [5],.str [1],.bool false,.str [1],.str [5]] 2 false] 1 true,.int .i64 6,.str [97]]) (.cons (anX.refl _) (.cons (anX.slP (.same (.same (.same (.sl .nil))))) (.cons (anX.refl _) (.cons (anX.refl _) .nil)))) (toK (an8 aFf true azU true axe 6 [97] (awz (by kernel_rfl)) (by decide) (by decide) (avH)) (by kernel_rfl))
theorem a6v:CO 26 [.str zs5,.str [97],.int .i64 1] (.ret (.bool true)):=cK (.c a6u (.c k84 (.c a6t .nil)))
theorem a6w:ad1 prog ap 90 [.ptr 0 0 0,.str [36]] (rA aJn 1) (.ret (.bool false)) (rA aJn 1):=cK (.nil)
theorem a6x:ad1 prog ap 92 [.ptr 0 0 0,.str zs2] (rA aJn 1) (.ret (.str [109,117,108])) (rA aS4 1):=toK (avw aJn zs2 (1) false (by decide) (by decide)) (by kernel_rfl)
theorem a6y:ad1 prog ap 90 [.ptr 0 0 0,.str [46]] (rA aS4 1) (.ret (.bool false)) (rA aS4 1):=cK (.nil)
theorem a6z:ad1 prog ap 90 [.ptr 0 0 0,.str [40]] (rA aS4 1) (.ret (.bool true)) (rA aNe 1):=cK (.nil)
theorem a6A:ad1 prog ap 90 [.ptr 0 0 0,.str [36]] (rA aNe 2) (.ret (.bool false)) (rA aNe 2):=cK (.nil)
theorem a6B:ad1 prog ap 92 [.ptr 0 0 0,.str zs2] (rA aNe 2) (.ret (.str [111,119,110])) (rA a2A 2):=toK (avw aNe zs2 (2) false (by decide) (by decide)) (by kernel_rfl)
theorem a6C:ad1 prog ap 90 [.ptr 0 0 0,.str [46]] (rA a2A 2) (.ret (.bool true)) (rA aWp 2):=cK (.nil)
theorem a6D:ad1 prog ap 92 [.ptr 0 0 0,.str zs0] (rA aWp 2) (.ret (.str [97])) (rA aWs 2):=toK (avw aWp zs0 (2) false (by decide) (by decide)) (by kernel_rfl)
theorem a6E:ad1 prog ap 56 [.ptr 0 0 0] (rA aNe 1) (.ret (.tup [])) (rB aWs 1 2 auX):=cK (.c k33 (.c k33 (.c k32 (.c a6D (.c k30 (.c k22 (.c k21 (.c k20 (.c k19 (.c k18 (.c k17 (.c k16 (.c k15 (.c k14 (.c k13 (.c k12 (.c k11 (.c k10 (.c k9 (.c k8 (.c k7 (.c k6 (.c k5 (.c k4 (.c k3 (.c a6C (.c a6B (.c a6A .nil))))))))))))))))))))))))))))
theorem a6F:ad1 prog ap 90 [.ptr 0 0 0,.str [44,32]] (rB aWs 1 2 auX) (.ret (.bool true)) (rB aNm 1 2 auX):=cK (.nil)
theorem a6G:ad1 prog ap 90 [.ptr 0 0 0,.str [36]] (rB aNm 1 3 auX) (.ret (.bool false)) (rB aNm 1 3 auX):=cK (.nil)
theorem a6H:ad1 prog ap 92 [.ptr 0 0 0,.str zs2] (rB aNm 1 3 auX) (.ret (.str a2H)) (rB [46,98,41] 1 3 auX):=toK (awK aNm zs2 (3) false 1 auX (by decide) (by decide)) (by kernel_rfl)
theorem a6I:ad1 prog ap 90 [.ptr 0 0 0,.str [46]] (rB [46,98,41] 1 3 auX) (.ret (.bool true)) (rB [98,41] 1 3 auX):=cK (.nil)
theorem a6J:ad1 prog ap 92 [.ptr 0 0 0,.str zs0] (rB [98,41] 1 3 auX) (.ret (.str [98])) (rB [41] 1 3 auX):=toK (awK [98,41] zs0 (3) false 1 auX (by decide) (by decide)) (by kernel_rfl)
theorem a6K:ad1 prog ap 56 [.ptr 0 0 0] (rB aNm 1 2 auX) (.ret (.tup [])) [⟨[.str [41],.ref 1 1 0 2,.int .i64 3,.bool false],0,false,0,0,false⟩,⟨zo7,1,false,0,5,true⟩]:=cK (.c k42 (.c k42 (.c k41 (.c a6J (.c k39 (.c k22 (.c k21 (.c k20 (.c k19 (.c k18 (.c k17 (.c k16 (.c k15 (.c k14 (.c k13 (.c k12 (.c k11 (.c k10 (.c k9 (.c k8 (.c k7 (.c k6 (.c k5 (.c k4 (.c k3 (.c a6I (.c a6H (.c a6G .nil))))))))))))))))))))))))))))
theorem a6L:ad1 prog ap 90 [.ptr 0 0 0,.str [41]] (rB [41] 2 3 zo7) (.ret (.bool true)) (rB [] 2 3 zo7):=cK (.nil)
theorem a6M:ad1 prog ap 56 [.ptr 0 0 0] (rA aJn 0) (.ret (.tup [])) [⟨[.str [],.ref 1 0 0 3,.int .i64 3,.bool false],0,false,0,0,false⟩,⟨(ndL axL),0,false,0,5,true⟩]:=cK (.c a6L (.c aDq (.c aDq (.c a6K (.c a6F (.c aDq (.c a6E (.c a6z (.c aDq (.c aOy (.c aRn (.c k22 (.c k21 (.c k20 (.c k19 (.c k18 (.c k17 (.c k16 (.c k15 (.c k14 (.c k13 (.c k12 (.c k11 (.c k10 (.c k9 (.c k8 (.c k7 (.c k6 (.c k5 (.c k4 (.c k3 (.c a6y (.c a6x (.c a6w .nil))))))))))))))))))))))))))))))))))
theorem a6N:CO 74 [.agg [.int .i64 5,.bool false,.str [],.str [],.str [98]]] (.ret (.bool true)):=cK (.c k41 (.c k49 .nil))
theorem aZJ:CO 75 [.str [98]] (.ret (.bool true)):=cK (.nil)
theorem a6O:CO 48 [.sl (ndL axL) 3 true] (.ret (.int .i64 0)):=cK (.c aDq (.c k53 (.c aZH (.c aRn (.c k42 (.c aZJ (.c a6N (.c k39 (.c k33 (.c k48 (.c k47 (.c k30 .nil))))))))))))
theorem a6P:CO 57 [.sl (ndL axL) 3 true] (.ret (.tup [.str aJn,.int .i64 0])):=cK (.c aOy (.c aUQ (.c k9 (.c aDq (.c k41 (.c k49 (.c k3 (.c k42 (.c k32 (.c k46 (.c k4 (.c k33 (.c a6O .nil)))))))))))))
theorem aZK:CO 27 [.str aJn] (.ret (.tup [.sl (ndL axL) 3 true,.int .i64 0])):=cK (.c a6P (.c a6M .nil))
theorem a6Q:CO 14 [.sl (ndL axL) 3 true,.sl [.str [120],.int .i64 0,.int .i64 0,.sl [.bool false,.str [],.str [1],.bool false,.str [1],.str [10],.bool false,.str [5],.str [1],.bool false,.str [1],.str [5]] 2 true] 1 true,.int .i64 6,.str [97]] (.ret (.int .i64 3)):=ad1.args (args:= [.sl (ndL axL) 3 true,.sl [.str [120],.int .i64 0,.int .i64 0,.sl [.bool false,.str [],.str [1],.bool false,.str [1],.str [10],.bool false,.str [5],.str [1],.bool false,.str [1],.str [5]] 2 false] 1 true,.int .i64 6,.str [97]]) (.cons (anX.refl _) (.cons (anX.slP (.same (.same (.same (.sl .nil))))) (.cons (anX.refl _) (.cons (anX.refl _) .nil)))) (toK (an8 axL true azU true axe 6 [97] (awz (by kernel_rfl)) (by decide) (by decide) (avH)) (by kernel_rfl))
theorem a6R:CO 26 [.str aJn,.str [97],.int .i64 3] (.ret (.bool true)):=cK (.c a6Q (.c k84 (.c aZK .nil)))
theorem a6S:ad1 prog ap 90 [.ptr 0 0 0,.str [36]] (rA aJp 1) (.ret (.bool false)) (rA aJp 1):=cK (.nil)
theorem a6T:ad1 prog ap 92 [.ptr 0 0 0,.str zs2] (rA aJp 1) (.ret (.str [100,105,118])) (rA aS8 1):=toK (avw aJp zs2 (1) false (by decide) (by decide)) (by kernel_rfl)
theorem a6U:ad1 prog ap 90 [.ptr 0 0 0,.str [46]] (rA aS8 1) (.ret (.bool false)) (rA aS8 1):=cK (.nil)
theorem aRt:CO 32 [.int .i64 12] (.ret (.bool false)):=cK (.nil)
theorem aOz:CO 34 [.int .i64 12] (.ret (.bool false)):=cK (.nil)
theorem aDr:CO 30 [.int .i64 12] (.ret (.int .i64 2)):=cK (.nil)
theorem a6V:ad1 prog ap 90 [.ptr 0 0 0,.str [40]] (rA aS8 1) (.ret (.bool true)) (rA aS_ 1):=cK (.nil)
theorem a6W:ad1 prog ap 90 [.ptr 0 0 0,.str [36]] (rA aS_ 2) (.ret (.bool true)) (rA aQb 2):=cK (.nil)
theorem a6X:ad1 prog ap 92 [.ptr 0 0 0,.str aDv] (rA aQb 2) (.ret (.str [49])) (rA aHW 2):=toK (avw aQb aDv (2) false (by decide) (by decide)) (by kernel_rfl)
theorem a6Y:CO 51 [.bool false,.str [1],.str [1]] (.ret (.agg [.bool false,.str [1],.str [1]])):=toK (av9 false 1 1 (aup (by decide)) (aup (by decide)) (by decide)) (by kernel_rfl)
theorem a6Z:CO 96 [.bool false,.str [1],.str [1]] (.ret (.tup [.agg [.bool false,.str [1],.str [1]],.bool true])):=cK (.c a6Y (.c aJ7 (.c aJ7 .nil)))
theorem aZL:CO 95 [.agg [.bool false,.str [1],.str [1]]] (.ret (.str [49])):=cK (.c aOx (.c k65 (.c aZD (.c k59 .nil))))
theorem a6_:CO 126 [.str [49]] (.ret (.tup [.agg [.bool false,.str [1],.str [1]],.bool true])):=cK (.c aZL (.c a6Z (.c aJ6 (.c aJ6 .nil))))
theorem a7a:ad1 prog ap 91 [.ptr 0 0 0] (rA aQb 2) (.ret (.agg [.bool false,.str [1],.str [1]])) (rA aHW 2):=cK (.c a6_ (.c a6X .nil))
theorem aZM:ajS prog ap (rA aS_ 1) 206 (aAq 5 (adW f56)) ⟨([(0,.ptr 0 0 0),(2,.bool true)]++dE [3,4,5,6,7,8,9,10,11,12,13,14,15]++ [(41,.bool false),(47,.bool true)]++dE [65,70,100,102,117,122,128,133,139,145,158,166,170,175,184,188,192]),[(0,⟨[.str aQb,.nilS,.int .i64 2,.bool false],0,false,0,0,true⟩)],.dead,[]⟩ (.normal) ⟨([(0,.ptr 0 0 0),(2,.bool true)]++dE [3,4,5,6,7,8,9,10,11,12,13,14,15]++ [(41,.bool false),(47,.bool true)]++dE [65,70,100,102,117,122,128,133,139,145,158,166,170,175,184,188,192]),[(0,⟨[.str aHW,.ref 1 0 0 1,.int .i64 2,.bool false],0,false,0,0,false⟩),(1,⟨aA0,0,false,0,5,true⟩)],.dead,[]⟩:=fun nt hn=>aDL aHj (keep:=aAg ap 56) (i:=4) (b:=0) (d:=52) (nt0:=206) (ans:= [(.ret (.agg [.bool false,.str [1],.str [1]]),(rA aHW 2))]) (.cons (rfl:(.nilS:AV)=(.nilS:AV)) (.cons (rfl:(.nilS:AV)=(.nilS:AV)) (.cons a7a .nil))) hn (by kernel_rfl)
theorem a7b:ad1 prog ap 56 [.ptr 0 0 0] (rA aS_ 1) (.ret (.tup [])) (rB aHW 1 2 aA0):=pK [1005] 4 8 (.n 9 .nil) (.l aZM (.c a6W .nil))
theorem a7c:ad1 prog ap 90 [.ptr 0 0 0,.str [44,32]] (rB aHW 1 2 aA0) (.ret (.bool true)) (rB az0 1 2 aA0):=cK (.nil)
theorem a7d:ad1 prog ap 90 [.ptr 0 0 0,.str [36]] (rB az0 1 3 aA0) (.ret (.bool false)) (rB az0 1 3 aA0):=cK (.nil)
theorem a7e:ad1 prog ap 92 [.ptr 0 0 0,.str zs2] (rB az0 1 3 aA0) (.ret (.str [111,119,110])) (rB [46,97,41] 1 3 aA0):=toK (awK az0 zs2 (3) false 1 aA0 (by decide) (by decide)) (by kernel_rfl)
theorem a7f:ad1 prog ap 90 [.ptr 0 0 0,.str [46]] (rB [46,97,41] 1 3 aA0) (.ret (.bool true)) (rB [97,41] 1 3 aA0):=cK (.nil)
theorem a7g:ad1 prog ap 92 [.ptr 0 0 0,.str zs0] (rB [97,41] 1 3 aA0) (.ret (.str [97])) (rB [41] 1 3 aA0):=toK (awK [97,41] zs0 (3) false 1 aA0 (by decide) (by decide)) (by kernel_rfl)
theorem a7h:ad1 prog ap 56 [.ptr 0 0 0] (rB az0 1 2 aA0) (.ret (.tup [])) [⟨[.str [41],.ref 1 1 0 2,.int .i64 3,.bool false],0,false,0,0,false⟩,⟨zo8,1,false,0,5,true⟩]:=cK (.c k33 (.c k33 (.c k32 (.c a7g (.c k30 (.c k22 (.c k21 (.c k20 (.c k19 (.c k18 (.c k17 (.c k16 (.c k15 (.c k14 (.c k13 (.c k12 (.c k11 (.c k10 (.c k9 (.c k8 (.c k7 (.c k6 (.c k5 (.c k4 (.c k3 (.c a7f (.c a7e (.c a7d .nil))))))))))))))))))))))))))))
theorem a7i:ad1 prog ap 90 [.ptr 0 0 0,.str [41]] (rB [41] 2 3 zo8) (.ret (.bool true)) (rB [] 2 3 zo8):=cK (.nil)
theorem a7j:ad1 prog ap 56 [.ptr 0 0 0] (rA aJp 0) (.ret (.tup [])) [⟨[.str [],.ref 1 0 0 3,.int .i64 3,.bool false],0,false,0,0,false⟩,⟨(ndL aFg),0,false,0,5,true⟩]:=cK (.c a7i (.c aDr (.c aDr (.c a7h (.c a7c (.c aDr (.c a7b (.c a6V (.c aDr (.c aOz (.c aRt (.c k22 (.c k21 (.c k20 (.c k19 (.c k18 (.c k17 (.c k16 (.c k15 (.c k14 (.c k13 (.c k12 (.c k11 (.c k10 (.c k9 (.c k8 (.c k7 (.c k6 (.c k5 (.c k4 (.c k3 (.c a6U (.c a6T (.c a6S .nil))))))))))))))))))))))))))))))))))
theorem a7k:CO 105 [.agg [.bool false,.str [1],.str [1]]] (.ret (.bool true)):=toK (axU false [1] [1] (by decide) (by decide)) (by kernel_rfl)
theorem a7l:CO 74 [.agg aA0] (.ret (.bool true)):=cK (.c a7k (.c aIx .nil))
theorem aUR:CO 94 [.int .i64 12] (.ret (.bool false)):=cK (.nil)
theorem aZN:CO 74 [.agg [.int .i64 12,.bool false,.str [],.str [],.str []]] (.ret (.bool true)):=cK (.c aOz (.c aUR .nil))
theorem a7m:CO 48 [.sl (ndL aFg) 3 true] (.ret (.int .i64 0)):=cK (.c aDr (.c k53 (.c aZN (.c aRt (.c k33 (.c k48 (.c k47 (.c k30 (.c aIy (.c k53 (.c a7l (.c aRp .nil))))))))))))
theorem a7n:CO 57 [.sl (ndL aFg) 3 true] (.ret (.tup [.str aJp,.int .i64 0])):=cK (.c aOz (.c aUR (.c k10 (.c aDr (.c k32 (.c k46 (.c k4 (.c k33 (.c aZL (.c aIx (.c aRs (.c aIy (.c a7m .nil)))))))))))))
theorem a7o:CO 27 [.str aJp] (.ret (.tup [.sl (ndL aFg) 3 true,.int .i64 0])):=cK (.c a7n (.c a7j .nil))
theorem a7p:CO 14 [.sl (ndL aFg) 3 true,.sl [.str [120],.int .i64 0,.int .i64 0,.sl [.bool false,.str [],.str [1],.bool false,.str [1],.str [10],.bool false,.str [5],.str [1],.bool false,.str [1],.str [5]] 2 true] 1 true,.int .i64 6,.str [97]] (.ret (.int .i64 3)):=ad1.args (args:= [.sl (ndL aFg) 3 true,.sl [.str [120],.int .i64 0,.int .i64 0,.sl [.bool false,.str [],.str [1],.bool false,.str [1],.str [10],.bool false,.str [5],.str [1],.bool false,.str [1],.str [5]] 2 false] 1 true,.int .i64 6,.str [97]]) (.cons (anX.refl _) (.cons (anX.slP (.same (.same (.same (.sl .nil))))) (.cons (anX.refl _) (.cons (anX.refl _) .nil)))) (toK (an8 aFg true azU true axe 6 [97] (awz (by kernel_rfl)) (by decide) (by decide) (avH)) (by kernel_rfl))
theorem a7q:CO 26 [.str aJp,.str [97],.int .i64 3] (.ret (.bool true)):=cK (.c a7p (.c k84 (.c a7o .nil)))
theorem a7r:ad1 prog ap 90 [.ptr 0 0 0,.str [36]] (rA aJq 1) (.ret (.bool false)) (rA aJq 1):=cK (.nil)
theorem a7s:ad1 prog ap 92 [.ptr 0 0 0,.str zs2] (rA aJq 1) (.ret (.str [100,105,118])) (rA aS9 1):=toK (avw aJq zs2 (1) false (by decide) (by decide)) (by kernel_rfl)
theorem a7t:ad1 prog ap 90 [.ptr 0 0 0,.str [46]] (rA aS9 1) (.ret (.bool false)) (rA aS9 1):=cK (.nil)
theorem a7u:ad1 prog ap 90 [.ptr 0 0 0,.str [40]] (rA aS9 1) (.ret (.bool true)) (rA aNh 1):=cK (.nil)
theorem a7v:ad1 prog ap 90 [.ptr 0 0 0,.str [36]] (rA aNh 2) (.ret (.bool false)) (rA aNh 2):=cK (.nil)
theorem a7w:ad1 prog ap 92 [.ptr 0 0 0,.str zs2] (rA aNh 2) (.ret (.str [111,119,110])) (rA a2E 2):=toK (avw aNh zs2 (2) false (by decide) (by decide)) (by kernel_rfl)
theorem a7x:ad1 prog ap 90 [.ptr 0 0 0,.str [46]] (rA a2E 2) (.ret (.bool true)) (rA aWu 2):=cK (.nil)
theorem a7y:ad1 prog ap 92 [.ptr 0 0 0,.str zs0] (rA aWu 2) (.ret (.str [97])) (rA aWw 2):=toK (avw aWu zs0 (2) false (by decide) (by decide)) (by kernel_rfl)
theorem a7z:ad1 prog ap 56 [.ptr 0 0 0] (rA aNh 1) (.ret (.tup [])) (rB aWw 1 2 auX):=cK (.c k33 (.c k33 (.c k32 (.c a7y (.c k30 (.c k22 (.c k21 (.c k20 (.c k19 (.c k18 (.c k17 (.c k16 (.c k15 (.c k14 (.c k13 (.c k12 (.c k11 (.c k10 (.c k9 (.c k8 (.c k7 (.c k6 (.c k5 (.c k4 (.c k3 (.c a7x (.c a7w (.c a7v .nil))))))))))))))))))))))))))))
theorem a7A:ad1 prog ap 90 [.ptr 0 0 0,.str [44,32]] (rB aWw 1 2 auX) (.ret (.bool true)) (rB [45,50,41] 1 2 auX):=cK (.nil)
theorem a7B:ad1 prog ap 90 [.ptr 0 0 0,.str [36]] (rB [45,50,41] 1 3 auX) (.ret (.bool false)) (rB [45,50,41] 1 3 auX):=cK (.nil)
theorem a7C:ad1 prog ap 92 [.ptr 0 0 0,.str aDv] (rB [45,50,41] 1 3 auX) (.ret (.str [45,50])) (rB [41] 1 3 auX):=toK (awK [45,50,41] aDv (3) false 1 auX (by decide) (by decide)) (by kernel_rfl)
theorem a7D:CO 51 [.bool true,.str [2],.str [1]] (.ret (.agg [.bool true,.str [2],.str [1]])):=toK (av9 true 2 1 (aup (by decide)) (aup (by decide)) (by decide)) (by kernel_rfl)
theorem a7E:CO 96 [.bool true,.str [2],.str [1]] (.ret (.tup [.agg [.bool true,.str [2],.str [1]],.bool true])):=cK (.c a7D (.c aJ7 (.c aZC .nil)))
theorem a7F:CO 70 [.agg [.bool true,.str [2],.str [1]]] (.ret (.agg [.bool true,.str [2],.str [1]])):=toK (awO true [2] [1] (by decide) (by decide)) (by kernel_rfl)
theorem aZO:CO 95 [.agg [.bool true,.str [2],.str [1]]] (.ret (.str [45,50])):=cK (.c aOx (.c k65 (.c aZE (.c a7F .nil))))
theorem a7G:CO 126 [.str [45,50]] (.ret (.tup [.agg [.bool true,.str [2],.str [1]],.bool true])):=cK (.c aZO (.c a7E (.c aJ6 (.c aZB .nil))))
theorem a7H:ad1 prog ap 91 [.ptr 0 0 0] (rB [45,50,41] 1 3 auX) (.ret (.agg [.bool true,.str [2],.str [1]])) (rB [41] 1 3 auX):=cK (.c a7G (.c a7C .nil))
theorem a7I:ad1 prog ap 90 [.ptr 0 0 0,.str [100]] (rB [41] 1 3 auX) (.ret (.bool false)) (rB [41] 1 3 auX):=cK (.nil)
theorem a7J:ad1 prog ap 56 [.ptr 0 0 0] (rB [45,50,41] 1 2 auX) (.ret (.tup [])) [⟨[.str [41],.ref 1 1 0 2,.int .i64 3,.bool false],0,false,0,0,false⟩,⟨aWk,1,false,0,5,true⟩]:=cK (.c a7I (.c a7H (.c a7B .nil)))
theorem a7K:ad1 prog ap 90 [.ptr 0 0 0,.str [41]] (rB [41] 2 3 aWk) (.ret (.bool true)) (rB [] 2 3 aWk):=cK (.nil)
theorem a7L:ad1 prog ap 56 [.ptr 0 0 0] (rA aJq 0) (.ret (.tup [])) [⟨[.str [],.ref 1 0 0 3,.int .i64 3,.bool false],0,false,0,0,false⟩,⟨(ndL aFh),0,false,0,5,true⟩]:=cK (.c a7K (.c aDr (.c aDr (.c a7J (.c a7A (.c aDr (.c a7z (.c a7u (.c aDr (.c aOz (.c aRt (.c k22 (.c k21 (.c k20 (.c k19 (.c k18 (.c k17 (.c k16 (.c k15 (.c k14 (.c k13 (.c k12 (.c k11 (.c k10 (.c k9 (.c k8 (.c k7 (.c k6 (.c k5 (.c k4 (.c k3 (.c a7t (.c a7s (.c a7r .nil))))))))))))))))))))))))))))))))))
theorem a7M:CO 105 [.agg [.bool true,.str [2],.str [1]]] (.ret (.bool true)):=toK (axU true [2] [1] (by decide) (by decide)) (by kernel_rfl)
theorem a7N:CO 74 [.agg [.int .i64 3,.bool true,.str [2],.str [1],.str []]] (.ret (.bool true)):=cK (.c a7M (.c aRq .nil))
theorem a7O:CO 48 [.sl (ndL aFh) 3 true] (.ret (.int .i64 0)):=cK (.c aDr (.c k53 (.c aZN (.c aRt (.c aRr (.c k53 (.c a7N (.c aZG (.c k33 (.c k48 (.c k47 (.c k30 .nil))))))))))))
theorem a7P:CO 57 [.sl (ndL aFh) 3 true] (.ret (.tup [.str aJq,.int .i64 0])):=cK (.c aOz (.c aUR (.c k10 (.c aDr (.c aZO (.c aRq (.c aZI (.c aRr (.c k32 (.c k46 (.c k4 (.c k33 (.c a7O .nil)))))))))))))
theorem a7Q:CO 27 [.str aJq] (.ret (.tup [.sl (ndL aFh) 3 true,.int .i64 0])):=cK (.c a7P (.c a7L .nil))
theorem a7R:CO 14 [.sl (ndL aFh) 3 true,.sl [.str [120],.int .i64 0,.int .i64 0,.sl [.bool false,.str [],.str [1],.bool false,.str [1],.str [10],.bool false,.str [5],.str [1],.bool false,.str [1],.str [5]] 2 true] 1 true,.int .i64 6,.str [97]] (.ret (.int .i64 2)):=ad1.args (args:= [.sl (ndL aFh) 3 true,.sl [.str [120],.int .i64 0,.int .i64 0,.sl [.bool false,.str [],.str [1],.bool false,.str [1],.str [10],.bool false,.str [5],.str [1],.bool false,.str [1],.str [5]] 2 false] 1 true,.int .i64 6,.str [97]]) (.cons (anX.refl _) (.cons (anX.slP (.same (.same (.same (.sl .nil))))) (.cons (anX.refl _) (.cons (anX.refl _) .nil)))) (toK (an8 aFh true azU true axe 6 [97] (awz (by kernel_rfl)) (by decide) (by decide) (avH)) (by kernel_rfl))
theorem a7S:CO 26 [.str aJq,.str [97],.int .i64 2] (.ret (.bool true)):=cK (.c a7R (.c k84 (.c a7Q .nil)))
theorem a7T:ad1 prog ap 90 [.ptr 0 0 0,.str [36]] (rA zs1 1) (.ret (.bool false)) (rA zs1 1):=cK (.nil)
theorem a7U:ad1 prog ap 92 [.ptr 0 0 0,.str zs2] (rA zs1 1) (.ret (.str [105,102])) (rA zs3 1):=toK (avw zs1 zs2 (1) false (by decide) (by decide)) (by kernel_rfl)
theorem a7V:ad1 prog ap 90 [.ptr 0 0 0,.str [46]] (rA zs3 1) (.ret (.bool false)) (rA zs3 1):=cK (.nil)
theorem aZP:CO 32 [.int .i64 15] (.ret (.bool false)):=cK (.nil)
theorem aUS:CO 34 [.int .i64 15] (.ret (.bool false)):=cK (.nil)
theorem aJ8:CO 30 [.int .i64 15] (.ret (.int .i64 3)):=cK (.nil)
theorem a7W:ad1 prog ap 90 [.ptr 0 0 0,.str [40]] (rA zs3 1) (.ret (.bool true)) (rA zs4 1):=cK (.nil)
theorem a7X:ad1 prog ap 90 [.ptr 0 0 0,.str [36]] (rA zs4 2) (.ret (.bool false)) (rA zs4 2):=cK (.nil)
theorem a7Y:ad1 prog ap 92 [.ptr 0 0 0,.str zs2] (rA zs4 2) (.ret (.str a2G)) (rA zs6 2):=toK (avw zs4 zs2 (2) false (by decide) (by decide)) (by kernel_rfl)
theorem a7Z:ad1 prog ap 90 [.ptr 0 0 0,.str [46]] (rA zs6 2) (.ret (.bool false)) (rA zs6 2):=cK (.nil)
theorem aZQ:CO 32 [.int .i64 16] (.ret (.bool false)):=cK (.nil)
theorem aUT:CO 34 [.int .i64 16] (.ret (.bool false)):=cK (.nil)
theorem aMm:CO 30 [.int .i64 16] (.ret (.int .i64 2)):=cK (.nil)
theorem a7_:ad1 prog ap 90 [.ptr 0 0 0,.str [40]] (rA zs6 2) (.ret (.bool true)) (rA zs8 2):=cK (.nil)
theorem a8a:ad1 prog ap 90 [.ptr 0 0 0,.str [36]] (rA zs8 3) (.ret (.bool false)) (rA zs8 3):=cK (.nil)
theorem a8b:ad1 prog ap 92 [.ptr 0 0 0,.str zs2] (rA zs8 3) (.ret (.str [111,119,110])) (rA a2y 3):=toK (avw zs8 zs2 (3) false (by decide) (by decide)) (by kernel_rfl)
theorem a8c:ad1 prog ap 90 [.ptr 0 0 0,.str [46]] (rA a2y 3) (.ret (.bool true)) (rA aWl 3):=cK (.nil)
theorem a8d:ad1 prog ap 92 [.ptr 0 0 0,.str zs0] (rA aWl 3) (.ret (.str [97])) (rA aWm 3):=toK (avw aWl zs0 (3) false (by decide) (by decide)) (by kernel_rfl)
theorem a8e:ad1 prog ap 56 [.ptr 0 0 0] (rA zs8 2) (.ret (.tup [])) (rB aWm 1 3 auX):=cK (.c k33 (.c k33 (.c k32 (.c a8d (.c k30 (.c k22 (.c k21 (.c k20 (.c k19 (.c k18 (.c k17 (.c k16 (.c k15 (.c k14 (.c k13 (.c k12 (.c k11 (.c k10 (.c k9 (.c k8 (.c k7 (.c k6 (.c k5 (.c k4 (.c k3 (.c a8c (.c a8b (.c a8a .nil))))))))))))))))))))))))))))
theorem a8f:ad1 prog ap 90 [.ptr 0 0 0,.str [44,32]] (rB aWm 1 3 auX) (.ret (.bool true)) (rB aS5 1 3 auX):=cK (.nil)
theorem a8g:ad1 prog ap 90 [.ptr 0 0 0,.str [36]] (rB aS5 1 4 auX) (.ret (.bool true)) (rB aQa 1 4 auX):=cK (.nil)
theorem a8h:ad1 prog ap 92 [.ptr 0 0 0,.str aDv] (rB aQa 1 4 auX) (.ret (.str [51])) (rB aNg 1 4 auX):=toK (awK aQa aDv (4) false 1 auX (by decide) (by decide)) (by kernel_rfl)
theorem aZR:CO 49 [.int .i64 3] (.ret (.str [3])):=toK (avd 3 (by decide)) (by kernel_rfl)
theorem aUU:CO 76 [.str [3]] (.ret (.str [3])):=cK (.nil)
theorem aZS:CO 107 [.str [3]] (.ret (.tup [.int .i64 3,.bool true])):=cK (.c aUU .nil)
theorem a8i:CO 77 [.str [3],.int .i64 7] (.ret (.tup [.int .i64 3,.bool true])):=cK (.c aZS (.c aUU .nil))
theorem a8j:CO 61 [.str [],.str [3]] (.ret (.str [3])):=cK (.c aZR (.c a8i (.c aMl .nil)))
theorem a8k:CO 157 [.str [51]] (.ret (.tup [.str [3],.bool true])):=cK (.c a8j (.c aZR (.c aOw (.c k70 .nil))))
theorem a8l:CO 128 [.str [3]] (.ret (.bool true)):=toK (aBy [3]) (by kernel_rfl)
theorem a8m:CO 51 [.bool false,.str [3],.str [1]] (.ret (.agg [.bool false,.str [3],.str [1]])):=toK (av9 false 3 1 (aup (by decide)) (aup (by decide)) (by decide)) (by kernel_rfl)
theorem a8n:CO 96 [.bool false,.str [3],.str [1]] (.ret (.tup [.agg [.bool false,.str [3],.str [1]],.bool true])):=cK (.c a8m (.c aJ7 (.c a8l .nil)))
theorem a8o:CO 70 [.agg [.bool false,.str [3],.str [1]]] (.ret (.agg [.bool false,.str [3],.str [1]])):=toK (awO false [3] [1] (by decide) (by decide)) (by kernel_rfl)
theorem a8p:CO 81 [.str [3],.str [10]] (.ret (.tup [.str [],.str [3],.bool true])):=toK (azH [3] [10] (by decide) (by decide) (by decide)) (by kernel_rfl)
theorem a8q:CO 127 [.str [3]] (.ret (.str [51])):=cK (.c aZS (.c a8p (.c k70 (.c aUU .nil))))
theorem aZT:CO 95 [.agg [.bool false,.str [3],.str [1]]] (.ret (.str [51])):=cK (.c aOx (.c k65 (.c a8q (.c a8o .nil))))
theorem a8r:CO 126 [.str [51]] (.ret (.tup [.agg [.bool false,.str [3],.str [1]],.bool true])):=cK (.c aZT (.c a8n (.c aJ6 (.c a8k .nil))))
theorem a8s:ad1 prog ap 91 [.ptr 0 0 0] (rB aQa 1 4 auX) (.ret (.agg [.bool false,.str [3],.str [1]])) (rB aNg 1 4 auX):=cK (.c a8r (.c a8h .nil))
theorem aZU:ajS prog ap (rB aS5 1 3 auX) 206 (aAq 5 (adW f56)) ⟨([(0,.ptr 0 0 0),(2,.bool true)]++dE [3,4,5,6,7,8,9,10,11,12,13,14,15]++ [(41,.bool false),(47,.bool true)]++dE [65,70,100,102,117,122,128,133,139,145,158,166,170,175,184,188,192]),[(0,⟨[.str aQa,.ref 1 0 0 1,.int .i64 4,.bool false],0,false,0,0,false⟩),(1,⟨auX,0,false,0,5,true⟩)],.dead,[]⟩ (.normal) ⟨([(0,.ptr 0 0 0),(2,.bool true)]++dE [3,4,5,6,7,8,9,10,11,12,13,14,15]++ [(41,.bool false),(47,.bool true)]++dE [65,70,100,102,117,122,128,133,139,145,158,166,170,175,184,188,192]),[(0,⟨[.str aNg,.ref 1 1 0 2,.int .i64 4,.bool false],0,false,0,0,false⟩),(1,⟨zo9,1,false,0,5,true⟩)],.dead,[]⟩:=fun nt hn=>aDL aHj (keep:=aAg ap 56) (i:=4) (b:=0) (d:=52) (nt0:=206) (ans:= [(.ret (.agg [.bool false,.str [3],.str [1]]),(rB aNg 1 4 auX))]) (.cons (rfl:(.ref 1 0 0 1:AV)=(.ref 1 0 0 1:AV)) (.cons (rfl:(.ref 1 0 0 1:AV)=(.ref 1 0 0 1:AV)) (.cons a8s .nil))) hn (by kernel_rfl)
theorem a8t:ad1 prog ap 56 [.ptr 0 0 0] (rB aS5 1 3 auX) (.ret (.tup [])) [⟨[.str aNg,.ref 1 1 0 2,.int .i64 4,.bool false],0,false,0,0,false⟩,⟨zo9,1,false,0,5,true⟩]:=pK [1005] 4 8 (.n 9 .nil) (.l aZU (.c a8g .nil))
theorem a8u:ad1 prog ap 90 [.ptr 0 0 0,.str [41]] (rB aNg 2 4 zo9) (.ret (.bool true)) (rB aWn 2 4 zo9):=cK (.nil)
theorem a8v:ad1 prog ap 56 [.ptr 0 0 0] (rA zs4 1) (.ret (.tup [])) (rB aWn 3 4 zo4):=cK (.c a8u (.c aMm (.c aMm (.c a8t (.c a8f (.c aMm (.c a8e (.c a7_ (.c aMm (.c aUT (.c aZQ (.c k22 (.c k21 (.c k20 (.c k19 (.c k18 (.c k17 (.c k16 (.c k15 (.c k14 (.c k13 (.c k12 (.c k11 (.c k10 (.c k9 (.c k8 (.c k7 (.c k6 (.c k5 (.c k4 (.c k3 (.c a7Z (.c a7Y (.c a7X .nil))))))))))))))))))))))))))))))))))
theorem a8w:ad1 prog ap 90 [.ptr 0 0 0,.str [44,32]] (rB aWn 3 4 zo4) (.ret (.bool true)) (rB aNi 3 4 zo4):=cK (.nil)
theorem a8x:ad1 prog ap 90 [.ptr 0 0 0,.str [36]] (rB aNi 3 5 zo4) (.ret (.bool false)) (rB aNi 3 5 zo4):=cK (.nil)
theorem a8y:ad1 prog ap 92 [.ptr 0 0 0,.str zs2] (rB aNi 3 5 zo4) (.ret (.str [111,119,110])) (rB a2F 3 5 zo4):=toK (awK aNi zs2 (5) false 3 zo4 (by decide) (by decide)) (by kernel_rfl)
theorem a8z:ad1 prog ap 90 [.ptr 0 0 0,.str [46]] (rB a2F 3 5 zo4) (.ret (.bool true)) (rB aWv 3 5 zo4):=cK (.nil)
theorem a8A:ad1 prog ap 92 [.ptr 0 0 0,.str zs0] (rB aWv 3 5 zo4) (.ret (.str [98])) (rB aWx 3 5 zo4):=toK (awK aWv zs0 (5) false 3 zo4 (by decide) (by decide)) (by kernel_rfl)
theorem a8B:ad1 prog ap 56 [.ptr 0 0 0] (rB aNi 3 4 zo4) (.ret (.tup [])) [⟨[.str aWx,.ref 1 1 0 4,.int .i64 5,.bool false],0,false,0,0,false⟩,⟨zo1,1,false,0,5,true⟩]:=cK (.c k33 (.c k33 (.c k32 (.c a8A (.c k30 (.c k22 (.c k21 (.c k20 (.c k19 (.c k18 (.c k17 (.c k16 (.c k15 (.c k14 (.c k13 (.c k12 (.c k11 (.c k10 (.c k9 (.c k8 (.c k7 (.c k6 (.c k5 (.c k4 (.c k3 (.c a8z (.c a8y (.c a8x .nil))))))))))))))))))))))))))))
theorem a8C:ad1 prog ap 90 [.ptr 0 0 0,.str [44,32]] (rB aWx 4 5 zo1) (.ret (.bool true)) (rB [36,48,41] 4 5 zo1):=cK (.nil)
theorem a8D:ad1 prog ap 90 [.ptr 0 0 0,.str [36]] (rB [36,48,41] 4 6 zo1) (.ret (.bool true)) (rB [48,41] 4 6 zo1):=cK (.nil)
theorem a8E:ad1 prog ap 92 [.ptr 0 0 0,.str aDv] (rB [48,41] 4 6 zo1) (.ret (.str [48])) (rB [41] 4 6 zo1):=toK (awK [48,41] aDv (6) false 4 zo1 (by decide) (by decide)) (by kernel_rfl)
theorem a8F:CO 61 [.str [],.str []] (.ret (.str [])):=cK (.c aRm (.c aMl (.c aMl .nil)))
theorem a8G:CO 157 [.str [48]] (.ret (.tup [.str [],.bool true])):=cK (.c a8F (.c aRm (.c aOw (.c k70 .nil))))
theorem a8H:CO 128 [.str []] (.ret (.bool true)):=toK (aBy []) (by kernel_rfl)
theorem a8I:CO 51 [.bool false,.str [],.str [1]] (.ret (.agg [.bool false,.str [],.str [1]])):=toK (av9 false 0 1 (aup (by decide)) (aup (by decide)) (by decide)) (by kernel_rfl)
theorem a8J:CO 96 [.bool false,.str [],.str [1]] (.ret (.tup [.agg [.bool false,.str [],.str [1]],.bool true])):=cK (.c a8I (.c aJ7 (.c a8H .nil)))
theorem a8K:CO 70 [.agg [.bool false,.str [],.str [1]]] (.ret (.agg [.bool false,.str [],.str [1]])):=toK (awO false [] [1] (by decide) (by decide)) (by kernel_rfl)
theorem a8L:CO 127 [.str []] (.ret (.str [48])):=cK (.c aRl .nil)
theorem aZV:CO 95 [.agg [.bool false,.str [],.str [1]]] (.ret (.str [48])):=cK (.c aOx (.c k65 (.c a8L (.c a8K .nil))))
theorem a8M:CO 126 [.str [48]] (.ret (.tup [.agg [.bool false,.str [],.str [1]],.bool true])):=cK (.c aZV (.c a8J (.c aJ6 (.c a8G .nil))))
theorem a8N:ad1 prog ap 91 [.ptr 0 0 0] (rB [48,41] 4 6 zo1) (.ret (.agg [.bool false,.str [],.str [1]])) (rB [41] 4 6 zo1):=cK (.c a8M (.c a8E .nil))
theorem aZW:ajS prog ap (rB [36,48,41] 4 5 zo1) 206 (aAq 5 (adW f56)) ⟨([(0,.ptr 0 0 0),(2,.bool true)]++dE [3,4,5,6,7,8,9,10,11,12,13,14,15]++ [(41,.bool false),(47,.bool true)]++dE [65,70,100,102,117,122,128,133,139,145,158,166,170,175,184,188,192]),[(0,⟨[.str [48,41],.ref 1 0 0 4,.int .i64 6,.bool false],0,false,0,0,false⟩),(1,⟨zo1,0,false,0,5,true⟩)],.dead,[]⟩ (.normal) ⟨([(0,.ptr 0 0 0),(2,.bool true)]++dE [3,4,5,6,7,8,9,10,11,12,13,14,15]++ [(41,.bool false),(47,.bool true)]++dE [65,70,100,102,117,122,128,133,139,145,158,166,170,175,184,188,192]),[(0,⟨[.str [41],.ref 1 1 0 5,.int .i64 6,.bool false],0,false,0,0,false⟩),(1,⟨zo0,1,false,0,5,true⟩)],.dead,[]⟩:=fun nt hn=>aDL aHj (keep:=aAg ap 56) (i:=4) (b:=0) (d:=52) (nt0:=206) (ans:= [(.ret (.agg [.bool false,.str [],.str [1]]),(rB [41] 4 6 zo1))]) (.cons (rfl:(.ref 1 0 0 4:AV)=(.ref 1 0 0 4:AV)) (.cons (rfl:(.ref 1 0 0 4:AV)=(.ref 1 0 0 4:AV)) (.cons a8N .nil))) hn (by kernel_rfl)
theorem a8O:ad1 prog ap 56 [.ptr 0 0 0] (rB [36,48,41] 4 5 zo1) (.ret (.tup [])) [⟨[.str [41],.ref 1 1 0 5,.int .i64 6,.bool false],0,false,0,0,false⟩,⟨zo0,1,false,0,5,true⟩]:=pK [1005] 4 8 (.n 9 .nil) (.l aZW (.c a8D .nil))
theorem a8P:ad1 prog ap 90 [.ptr 0 0 0,.str [41]] (rB [41] 5 6 zo0) (.ret (.bool true)) (rB [] 5 6 zo0):=cK (.nil)
theorem a8Q:ad1 prog ap 56 [.ptr 0 0 0] (rA zs1 0) (.ret (.tup [])) [⟨[.str [],.ref 1 0 0 6,.int .i64 6,.bool false],0,false,0,0,false⟩,⟨(ndL aBb),0,false,0,5,true⟩]:=cK (.c a8P (.c aJ8 (.c aJ8 (.c a8O (.c a8C (.c aJ8 (.c a8B (.c a8w (.c aJ8 (.c a8v (.c a7W (.c aJ8 (.c aUS (.c aZP (.c k22 (.c k21 (.c k20 (.c k19 (.c k18 (.c k17 (.c k16 (.c k15 (.c k14 (.c k13 (.c k12 (.c k11 (.c k10 (.c k9 (.c k8 (.c k7 (.c k6 (.c k5 (.c k4 (.c k3 (.c a7V (.c a7U (.c a7T .nil)))))))))))))))))))))))))))))))))))))
theorem a8R:CO 105 [.agg [.bool false,.str [3],.str [1]]] (.ret (.bool true)):=toK (axU false [3] [1] (by decide) (by decide)) (by kernel_rfl)
theorem a8S:CO 74 [.agg [.int .i64 1,.bool false,.str [3],.str [1],.str []]] (.ret (.bool true)):=cK (.c a8R (.c aIx .nil))
theorem aZX:CO 94 [.int .i64 16] (.ret (.bool false)):=cK (.nil)
theorem a8T:CO 74 [.agg [.int .i64 16,.bool false,.str [],.str [],.str []]] (.ret (.bool true)):=cK (.c aUT (.c aZX .nil))
theorem a8U:CO 74 [.agg [.int .i64 6,.bool false,.str [],.str [],.str [98]]] (.ret (.bool true)):=cK (.c k32 (.c k46 .nil))
theorem a8V:CO 105 [.agg [.bool false,.str [],.str [1]]] (.ret (.bool true)):=toK (axU false [] [1] (by decide) (by decide)) (by kernel_rfl)
theorem a8W:CO 74 [.agg [.int .i64 1,.bool false,.str [],.str [1],.str []]] (.ret (.bool true)):=cK (.c a8V (.c aIx .nil))
theorem aZY:CO 94 [.int .i64 15] (.ret (.bool false)):=cK (.nil)
theorem a8X:CO 74 [.agg [.int .i64 15,.bool false,.str [],.str [],.str []]] (.ret (.bool true)):=cK (.c aUS (.c aZY .nil))
theorem a8Y:CO 48 [.sl (ndL aBb) 6 true] (.ret (.int .i64 0)):=cK (.c aJ8 (.c k53 (.c a8X (.c aZP (.c aIy (.c k53 (.c a8W (.c aRp (.c k33 (.c aZJ (.c a8U (.c k30 (.c aMm (.c k53 (.c a8T (.c aZQ (.c aIy (.c k53 (.c a8S (.c aRp (.c k33 (.c k48 (.c k47 (.c k30 .nil))))))))))))))))))))))))
theorem a8Z:CO 57 [.sl (ndL aBb) 6 true] (.ret (.tup [.str zs1,.int .i64 0])):=cK (.c aUS (.c aZY (.c k13 (.c aJ8 (.c aZV (.c aIx (.c aRs (.c aIy (.c k32 (.c k46 (.c k4 (.c k33 (.c aUT (.c aZX (.c k14 (.c aMm (.c aZT (.c aIx (.c aRs (.c aIy (.c k32 (.c k46 (.c k4 (.c k33 (.c a8Y .nil)))))))))))))))))))))))))
theorem aZZ:CO 27 [.str zs1] (.ret (.tup [.sl (ndL aBb) 6 true,.int .i64 0])):=cK (.c a8Z (.c a8Q .nil))
theorem a8_:CO 14 [.sl (ndL aBb) 6 true,.sl [.str [120],.int .i64 0,.int .i64 0,.sl [.bool false,.str [],.str [1],.bool false,.str [1],.str [10],.bool false,.str [5],.str [1],.bool false,.str [1],.str [5]] 2 true] 1 true,.int .i64 6,.str [97]] (.ret (.int .i64 3)):=ad1.args (args:= [.sl (ndL aBb) 6 true,.sl [.str [120],.int .i64 0,.int .i64 0,.sl [.bool false,.str [],.str [1],.bool false,.str [1],.str [10],.bool false,.str [5],.str [1],.bool false,.str [1],.str [5]] 2 false] 1 true,.int .i64 6,.str [97]]) (.cons (anX.refl _) (.cons (anX.slP (.same (.same (.same (.sl .nil))))) (.cons (anX.refl _) (.cons (anX.refl _) .nil)))) (toK (an8 aBb true azU true axe 6 [97] (awz (by kernel_rfl)) (by decide) (by decide) (avH)) (by kernel_rfl))
theorem a9a:CO 26 [.str zs1,.str [97],.int .i64 3] (.ret (.bool true)):=cK (.c a8_ (.c k84 (.c aZZ .nil)))
theorem a9b:CO 14 [.sl (ndL aBb) 6 true,.sl [.str [120],.int .i64 0,.int .i64 0,.sl [.bool false,.str [],.str [1],.bool false,.str [1],.str [10],.bool false,.str [5],.str [1],.bool false,.str [1],.str [5]] 2 true] 1 true,.int .i64 6,.str [98]] (.ret (.int .i64 1)):=ad1.args (args:= [.sl (ndL aBb) 6 true,.sl [.str [120],.int .i64 0,.int .i64 0,.sl [.bool false,.str [],.str [1],.bool false,.str [1],.str [10],.bool false,.str [5],.str [1],.bool false,.str [1],.str [5]] 2 false] 1 true,.int .i64 6,.str [98]]) (.cons (anX.refl _) (.cons (anX.slP (.same (.same (.same (.sl .nil))))) (.cons (anX.refl _) (.cons (anX.refl _) .nil)))) (toK (an8 aBb true azU true axe 6 [98] (awz (by kernel_rfl)) (by decide) (by decide) (avH)) (by kernel_rfl))
theorem a9c:CO 26 [.str zs1,.str [98],.int .i64 1] (.ret (.bool true)):=cK (.c a9b (.c k84 (.c aZZ .nil)))
theorem a9d:ad1 prog ap 90 [.ptr 0 0 0,.str [36]] (rA aJr 1) (.ret (.bool false)) (rA aJr 1):=cK (.nil)
theorem a9e:ad1 prog ap 92 [.ptr 0 0 0,.str zs2] (rA aJr 1) (.ret (.str [114,97,116,101])) (rA a2C 1):=toK (avw aJr zs2 (1) false (by decide) (by decide)) (by kernel_rfl)
theorem a9f:ad1 prog ap 90 [.ptr 0 0 0,.str [46]] (rA a2C 1) (.ret (.bool true)) (rA aWt 1):=cK (.nil)
theorem aZ0:CO 32 [.int .i64 24] (.ret (.bool true)):=cK (.nil)
theorem a9g:ad1 prog ap 92 [.ptr 0 0 0,.str zs0] (rA aWt 1) (.ret (.str [120])) (rA a2D 1):=toK (avw aWt zs0 (1) false (by decide) (by decide)) (by kernel_rfl)
theorem aUV:CO 34 [.int .i64 24] (.ret (.bool false)):=cK (.nil)
theorem aOA:CO 30 [.int .i64 24] (.ret (.int .i64 1)):=cK (.nil)
theorem a9h:ad1 prog ap 90 [.ptr 0 0 0,.str [40]] (rA a2D 1) (.ret (.bool true)) (rA az0 1):=cK (.nil)
theorem a9i:ad1 prog ap 90 [.ptr 0 0 0,.str [36]] (rA az0 2) (.ret (.bool false)) (rA az0 2):=cK (.nil)
theorem a9j:ad1 prog ap 92 [.ptr 0 0 0,.str zs2] (rA az0 2) (.ret (.str [111,119,110])) (rA [46,97,41] 2):=toK (avw az0 zs2 (2) false (by decide) (by decide)) (by kernel_rfl)
theorem a9k:ad1 prog ap 90 [.ptr 0 0 0,.str [46]] (rA [46,97,41] 2) (.ret (.bool true)) (rA [97,41] 2):=cK (.nil)
theorem a9l:ad1 prog ap 92 [.ptr 0 0 0,.str zs0] (rA [97,41] 2) (.ret (.str [97])) (rA [41] 2):=toK (avw [97,41] zs0 (2) false (by decide) (by decide)) (by kernel_rfl)
theorem a9m:ad1 prog ap 56 [.ptr 0 0 0] (rA az0 1) (.ret (.tup [])) (rB [41] 1 2 auX):=cK (.c k33 (.c k33 (.c k32 (.c a9l (.c k30 (.c k22 (.c k21 (.c k20 (.c k19 (.c k18 (.c k17 (.c k16 (.c k15 (.c k14 (.c k13 (.c k12 (.c k11 (.c k10 (.c k9 (.c k8 (.c k7 (.c k6 (.c k5 (.c k4 (.c k3 (.c a9k (.c a9j (.c a9i .nil))))))))))))))))))))))))))))
theorem a9n:ad1 prog ap 90 [.ptr 0 0 0,.str [41]] (rB [41] 1 2 auX) (.ret (.bool true)) (rB [] 1 2 auX):=cK (.nil)
theorem a9o:ad1 prog ap 56 [.ptr 0 0 0] (rA aJr 0) (.ret (.tup [])) [⟨[.str [],.ref 1 0 0 2,.int .i64 2,.bool false],0,false,0,0,false⟩,⟨(ndL axM),0,false,0,5,true⟩]:=cK (.c a9n (.c aOA (.c aOA (.c a9m (.c a9h (.c aOA (.c aUV (.c a9g (.c aZ0 (.c k22 (.c k21 (.c k20 (.c k19 (.c k18 (.c k17 (.c k16 (.c k15 (.c k14 (.c k13 (.c k12 (.c k11 (.c k10 (.c k9 (.c k8 (.c k7 (.c k6 (.c k5 (.c k4 (.c k3 (.c a9f (.c a9e (.c a9d .nil))))))))))))))))))))))))))))))))
theorem aZ1:CO 94 [.int .i64 24] (.ret (.bool false)):=cK (.nil)
theorem a9p:CO 74 [.agg [.int .i64 24,.bool false,.str [],.str [],.str [120]]] (.ret (.bool true)):=cK (.c aUV (.c aZ1 .nil))
theorem a9q:CO 75 [.str [120]] (.ret (.bool true)):=cK (.nil)
theorem a9r:CO 48 [.sl (ndL axM) 2 true] (.ret (.int .i64 0)):=cK (.c aOA (.c a9q (.c a9p (.c aZ0 (.c k33 (.c k48 (.c k47 (.c k30 .nil))))))))
theorem a9s:CO 57 [.sl (ndL axM) 2 true] (.ret (.tup [.str aJr,.int .i64 0])):=cK (.c aUV (.c aZ1 (.c k22 (.c aOA (.c k32 (.c k46 (.c k4 (.c k33 (.c a9r .nil)))))))))
theorem aZ2:CO 27 [.str aJr] (.ret (.tup [.sl (ndL axM) 2 true,.int .i64 0])):=cK (.c a9s (.c a9o .nil))
theorem a9t:CO 14 [.sl (ndL axM) 2 true,.sl [.str [120],.int .i64 0,.int .i64 0,.sl [.bool false,.str [],.str [1],.bool false,.str [1],.str [10],.bool false,.str [5],.str [1],.bool false,.str [1],.str [5]] 2 true] 1 true,.int .i64 6,.str [97]] (.ret (.int .i64 1)):=ad1.args (args:= [.sl (ndL axM) 2 true,.sl [.str [120],.int .i64 0,.int .i64 0,.sl [.bool false,.str [],.str [1],.bool false,.str [1],.str [10],.bool false,.str [5],.str [1],.bool false,.str [1],.str [5]] 2 false] 1 true,.int .i64 6,.str [97]]) (.cons (anX.refl _) (.cons (anX.slP (.same (.same (.same (.sl .nil))))) (.cons (anX.refl _) (.cons (anX.refl _) .nil)))) (toK (an8 axM true azU true axe 6 [97] (awz (by kernel_rfl)) (by decide) (by decide) (avH)) (by kernel_rfl))
theorem a9u:CO 26 [.str aJr,.str [97],.int .i64 1] (.ret (.bool true)):=cK (.c a9t (.c k84 (.c aZ2 .nil)))
theorem a9v:CO 36 [.int .i64 (-1)] (.ret (.agg [.bool true,.str [1],.str [1]])):=cK (.c k65 (.c aZw (.c k65 (.c aRm .nil))))
theorem a9w:CO 70 [.agg [.bool true,.str [1],.str [1]]] (.ret (.agg [.bool true,.str [1],.str [1]])):=toK (awO true [1] [1] (by decide) (by decide)) (by kernel_rfl)
theorem a9x:CO 51 [.bool true,.str [1],.str [5]] (.ret (.agg [.bool true,.str [1],.str [5]])):=toK (av9 true 1 5 (aup (by decide)) (aup (by decide)) (by decide)) (by kernel_rfl)
theorem a9y:CO 58 [.agg [.bool true,.str [1],.str [1]],.agg [.bool false,.str [5],.str [1]]] (.ret (.tup [.agg [.bool true,.str [1],.str [5]],.bool true])):=cK (.c a9x (.c k80 (.c k66 (.c k75 (.c a9w .nil)))))
theorem a9z:CO 28 [.int .i64 (-1)] (.ret (.sl [.str [120],.int .i64 0,.int .i64 0,.sl [.bool false,.str [],.str [1],.bool false,.str [1],.str [10],.bool false,.str [5],.str [1],.bool true,.str [1],.str [5]] 2 true] 1 true)):=cK (.c k74 (.c k83 (.c a9y (.c k74 (.c a9v (.c k73 (.c k58 (.c k57 .nil))))))))
theorem a9A:CO 14 [.sl (ndL axM) 2 true,.sl [.str [120],.int .i64 0,.int .i64 0,.sl [.bool false,.str [],.str [1],.bool false,.str [1],.str [10],.bool false,.str [5],.str [1],.bool true,.str [1],.str [5]] 2 true] 1 true,.int .i64 6,.str [97]] (.ret (.int .i64 3)):=ad1.args (args:= [.sl (ndL axM) 2 true,.sl [.str [120],.int .i64 0,.int .i64 0,.sl [.bool false,.str [],.str [1],.bool false,.str [1],.str [10],.bool false,.str [5],.str [1],.bool true,.str [1],.str [5]] 2 false] 1 true,.int .i64 6,.str [97]]) (.cons (anX.refl _) (.cons (anX.slP (.same (.same (.same (.sl .nil))))) (.cons (anX.refl _) (.cons (anX.refl _) .nil)))) (toK (an8 axM true aTJ true axe 6 [97] (awz (by kernel_rfl)) (by decide) (by decide) (aKE)) (by kernel_rfl))
theorem a9B:CO 14 [.sl (ndL axM) 2 true,.nilS,.int .i64 6,.str [97]] (.ret (.int .i64 3)):=ad1.args (args:= [.sl (ndL axM) 2 true,.sl [] 0 false,.int .i64 6,.str [97]]) (.cons (anX.refl _) (.cons (anX.nilS false rfl) (.cons (anX.refl _) (.cons (anX.refl _) .nil)))) (toK (an8 axM true [] false axe 6 [97] (awz (by kernel_rfl)) (by decide) (by decide) (aAs)) (by kernel_rfl))
theorem a9C:CO 14 [.sl (ndL axL) 3 true,.nilS,.int .i64 5,.str [98]] (.ret (.int .i64 3)):=ad1.args (args:= [.sl (ndL axL) 3 true,.sl [] 0 false,.int .i64 5,.str [98]]) (.cons (anX.refl _) (.cons (anX.nilS false rfl) (.cons (anX.refl _) (.cons (anX.refl _) .nil)))) (toK (an8 axL true [] false axe 5 [98] (awz (by kernel_rfl)) (by decide) (by decide) (aAs)) (by kernel_rfl))
theorem a9D:CO 17 [.sl (ndL axM) 2 true,.sl [.str [120],.int .i64 0,.int .i64 0,.sl [.bool false,.str [],.str [1],.bool false,.str [1],.str [10],.bool false,.str [5],.str [1],.bool false,.str [1],.str [5]] 2 true] 1 true,.sl [.str [97],.str [98]] 2 true] (.ret (.bool true)):=ad1.args (args:= [.sl (ndL axM) 2 true,.sl [.str [120],.int .i64 0,.int .i64 0,.sl [.bool false,.str [],.str [1],.bool false,.str [1],.str [10],.bool false,.str [5],.str [1],.bool false,.str [1],.str [5]] 2 false] 1 true,.sl [.str [97],.str [98]] 2 true]) (.cons (anX.refl _) (.cons (anX.slP (.same (.same (.same (.sl .nil))))) (.cons (anX.refl _) .nil))) (toK (axs axM true azU true axe [[97],[98]] true (awz (by kernel_rfl)) (by decide) (by decide) (avH) (by decide)) (by kernel_rfl))
theorem a9E:CO 17 [.sl (ndL axL) 3 true,.nilS,.sl [.str [97]] 1 true] (.ret (.bool false)):=ad1.args (args:= [.sl (ndL axL) 3 true,.sl [] 0 false,.sl [.str [97]] 1 true]) (.cons (anX.refl _) (.cons (anX.nilS false rfl) (.cons (anX.refl _) .nil))) (toK (axs axL true [] false axe [[97]] true (awz (by kernel_rfl)) (by decide) (by decide) (aAs) (by decide)) (by kernel_rfl))
theorem a9F:CO 17 [.sl (ndL axL) 3 true,.nilS,.sl [.str [98]] 1 true] (.ret (.bool true)):=ad1.args (args:= [.sl (ndL axL) 3 true,.sl [] 0 false,.sl [.str [98]] 1 true]) (.cons (anX.refl _) (.cons (anX.nilS false rfl) (.cons (anX.refl _) .nil))) (toK (axs axL true [] false axe [[98]] true (awz (by kernel_rfl)) (by decide) (by decide) (aAs) (by decide)) (by kernel_rfl))
theorem a9G:CO 17 [.nilS,.nilS,.nilS] (.ret (.bool false)):=ad1.args (args:= [.sl [] 0 false,.sl [] 0 false,.sl [] 0 false]) (.cons (anX.nilS false rfl) (.cons (anX.nilS false rfl) (.cons (anX.nilS false rfl) .nil))) (toK (axs [] false [] false axe [] false (awz (by kernel_rfl)) (by decide) (by decide) (aAs) (by decide)) (by kernel_rfl))
theorem a9H:CO 10 [] (.ret (.bool true)):=cK (.c a9G (.c a9F (.c a9E (.c a9D (.c k84 (.c a9C (.c a9B (.c a9A (.c a9z (.c aZK (.c aZ2 (.c a9u (.c a9c (.c a9a (.c a7S (.c a7q (.c a6R (.c a6v (.c a5r (.c k88 (.c k86 .nil)))))))))))))))))))))
theorem aAN:CO 10 [] (.ret (.bool true)):=a9H
def anM (a:Int) (n:Nat):Nat:=(a % (n:Int)).toNat
theorem au8 {a:Int} {n:Nat} (h:0<n):anM a n<n:=by
 unfold anM
 have h1:=Int.emod_nonneg a (b:=(n:Int)) (by omega)
 have h2:=Int.emod_lt_of_pos a (b:=(n:Int)) (by omega)
 omega
theorem w1p {k:Nat} (h:k<4611686018427387904):AV.int .i64 (IntKind.wrap .i64 (((1:Nat):Int)+(k:Int)))= .int .i64 ((1+k:Nat):Int):=by
 have e:IntKind.wrap .i64 (((1:Nat):Int)+(k:Int))=((1+k:Nat):Int):=by rw [auI]<;>omega
 rw [e]
theorem a0e (a n:Int) (h0:lit true (decide ((Int.tmod a n)<((0:Nat):Int)))=true) (h1:(!(n==((0:Nat):Int)))=true):CO 29 [.int .i64 a,.int .i64 n] (.ret (.int .i64 (IntKind.wrap .i64 ((Int.tmod a n)+n)))):=pK [] 1 1 (.c h0 (.c h1 .nil)) (.nil)
theorem a0f (a n:Int) (h0:lit false (decide ((Int.tmod a n)<((0:Nat):Int)))=true) (h1:(!(n==((0:Nat):Int)))=true):CO 29 [.int .i64 a,.int .i64 n] (.ret (.int .i64 (Int.tmod a n))):=pK [] 1 0 (.c h0 (.c h1 .nil)) (.nil)
theorem au5 (a:Int) (n:Nat) (hn:0<n) (hn2:n≤4611686018427387904):CO 29 [.int .i64 a,.int .i64 (n:Int)] (.ret (.int .i64 ((anM a n:Nat):Int))):=by
 have hn0:(!((n:Int)==((0:Nat):Int)))=true:=by
  rw [beq_eq_false_iff_ne.2 (by omega)];rfl
 have h1:=Int.tmod_lt_of_pos a (b:=(n:Int)) (by omega)
 have h2: -(n:Int)<Int.tmod a n:=by
  have:=Int.tmod_lt_of_pos (-a) (b:=(n:Int)) (by omega)
  rw [Int.neg_tmod] at this
  omega
 have h3:=Int.emod_nonneg a (b:=(n:Int)) (by omega)
 have h4:=Int.emod_lt_of_pos a (b:=(n:Int)) (by omega)
 have h5:Int.tmod a n % (n:Int)=a % (n:Int):=by
  have e:=Int.mul_tdiv_add_tmod a (n:Int)
  have:a=Int.tmod a n+(n:Int)*(Int.tdiv a n):=by omega
  conv=>rhs;rw [this,Int.add_mul_emod_self_left]
 have hv:((anM a n:Nat):Int)=a % (n:Int):=Int.toNat_of_nonneg h3
 rw [hv]
 by_cases h:Int.tmod a n<0
 ·have hp:=a0e a n (by simpa [lit] using h) hn0
  have e:IntKind.wrap .i64 (Int.tmod a n+(n:Int))=a % (n:Int):=by
   rw [auI (by omega) (by omega)]
   rw [← h5,← Int.add_emod_right,Int.emod_eq_of_lt (by omega) (by omega)]
  rw [e] at hp
  exact hp
 ·have hp:=a0f a n (by simp only [lit,Bool.not_eq_true',decide_eq_false_iff_not];exact h) hn0
  have e:Int.tmod a n=a % (n:Int):=by rw [← h5,Int.emod_eq_of_lt (by omega) (by omega)]
  rw [e] at hp
  exact hp
theorem aCL (a:Int) (k:Nat) (h0:(chk .str (List.headD (List.drop ((0+(Int.toNat (k:Int)))*1) [.str [97],.str [98],.str [116,97,120],.str [119,97,103,101],.str [120,95,49],.str [97,50,51,52,53,54,55,56,57,48,49,50,51,52,53,54,55,56,57,48]]) .dead))=true) (h1:(decide (((0:Nat):Int)≤(k:Int)))=true) (h2:(decide ((k:Int)<((6:Nat):Int)))=true) (c0:CO 29 [.int .i64 a,.int .i64 6] (.ret (.int .i64 (k:Int)))):CO 33 [.int .i64 a] (.ret (.str (AV.toStr (List.headD (List.drop ((0+(Int.toNat (k:Int)))*1) [.str [97],.str [98],.str [116,97,120],.str [119,97,103,101],.str [120,95,49],.str [97,50,51,52,53,54,55,56,57,48,49,50,51,52,53,54,55,56,57,48]]) .dead)))):=pK [] 0 0 (.c h0 (.c h1 (.c h2 .nil))) (.c c0 .nil)
def aIP (k:Nat):List UInt8:= [[97],[98],[116,97,120],[119,97,103,101],[120,95,49],[97,50,51,52,53,54,55,56,57,48,49,50,51,52,53,54,55,56,57,48]].getD k []
theorem aHD (a:Int):CO 33 [.int .i64 a] (.ret (.str (aIP (anM a 6)))):=by
 have hm:=au5 a 6 (by omega) (by omega)
 have hl:=au8 (a:=a) (n:=6) (by omega)
 generalize anM a 6=k at*
 match k,hl,hm with
 |0,_,hm=>exact aCL a 0 rfl rfl rfl hm
 |1,_,hm=>exact aCL a 1 rfl rfl rfl hm
 |2,_,hm=>exact aCL a 2 rfl rfl rfl hm
 |3,_,hm=>exact aCL a 3 rfl rfl rfl hm
 |4,_,hm=>exact aCL a 4 rfl rfl rfl hm
 |5,_,hm=>exact aCL a 5 rfl rfl rfl hm
theorem aGB (k:Nat) (h:k<6):aA9 (aIP k)=true:=by
 match k,h with
 |0,_=>decide
 |1,_=>decide
 |2,_=>decide
 |3,_=>decide
 |4,_=>decide
 |5,_=>decide
theorem aRF (q0 q1 q2:Int) (a0 b1 s2 c0 c1 e0 e1 f0:Nat) (w:RQ) (ha0:a0<4611686018427387904) (hb1:b1<4611686018427387904) (hs2:s2<4611686018427387904) (hc0:c0<4611686018427387904) (hc1:c1<4611686018427387904) (he0:e0<4611686018427387904) (he1:e1<4611686018427387904) (hf0:f0<4611686018427387904) (h0:lit true ((s2:Int)==((1:Nat):Int))=true) (cc0:CO 29 [.int .i64 q0,.int .i64 1000] (.ret (.int .i64 (a0:Int)))) (cc1:CO 49 [.int .i64 (a0:Int)] (.ret (.str (adF a0)))) (cc2:CO 29 [.int .i64 q1,.int .i64 60] (.ret (.int .i64 (b1:Int)))) (cc3:CO 49 [.int .i64 (((1+b1):Nat):Int)] (.ret (.str (adF (1+b1))))) (cc4:CO 29 [.int .i64 q2,.int .i64 4] (.ret (.int .i64 (s2:Int)))) (cc5:CO 29 [.int .i64 q0,.int .i64 4611686018427387904] (.ret (.int .i64 (c0:Int)))) (cc6:CO 49 [.int .i64 (c0:Int)] (.ret (.str (adF c0)))) (cc7:CO 29 [.int .i64 q1,.int .i64 4611686018427387904] (.ret (.int .i64 (c1:Int)))) (cc8:CO 49 [.int .i64 (((1+c1):Nat):Int)] (.ret (.str (adF (1+c1))))) (cc9:CO 51 [.bool (decide (q0<((0:Nat):Int))),.str (adF c0),.str (adF (1+c1))] (.ret (.agg [.bool w.neg,.str (adF w.n),.str (adF w.d)]))):CO 19 [.agg [.int .i64 q0,.int .i64 q1,.int .i64 q2]] (.ret (.agg [.bool w.neg,.str (adF w.n),.str (adF w.d)])):=pK [] 1 1 (.k 13 h0 (.n 9 .nil)) (.c cc9 (.c cc8 (.v 26 (.eq (w1p hc1)) (.c cc7 (.c cc6 (.c cc5 (.c cc4 (.c cc3 (.v 12 (.eq (w1p hb1)) (.c cc2 (.c cc1 (.c cc0 .nil))))))))))))
theorem aRG (q0 q1 q2:Int) (a0 b1 s2 c0 c1 e0 e1 f0:Nat) (w:RQ) (ha0:a0<4611686018427387904) (hb1:b1<4611686018427387904) (hs2:s2<4611686018427387904) (hc0:c0<4611686018427387904) (hc1:c1<4611686018427387904) (he0:e0<4611686018427387904) (he1:e1<4611686018427387904) (hf0:f0<4611686018427387904) (h0:lit true ((s2:Int)==((2:Nat):Int))=true) (h1:lit false ((s2:Int)==((1:Nat):Int))=true) (cc0:CO 29 [.int .i64 q0,.int .i64 1000] (.ret (.int .i64 (a0:Int)))) (cc1:CO 49 [.int .i64 (a0:Int)] (.ret (.str (adF a0)))) (cc2:CO 29 [.int .i64 q1,.int .i64 60] (.ret (.int .i64 (b1:Int)))) (cc3:CO 49 [.int .i64 (((1+b1):Nat):Int)] (.ret (.str (adF (1+b1))))) (cc4:CO 29 [.int .i64 q2,.int .i64 4] (.ret (.int .i64 (s2:Int)))) (cc5:CO 29 [.int .i64 q0,.int .i64 4611686018427387904] (.ret (.int .i64 (c0:Int)))) (cc6:CO 49 [.int .i64 (c0:Int)] (.ret (.str (adF c0)))) (cc7:CO 29 [.int .i64 q1,.int .i64 4611686018427387904] (.ret (.int .i64 (c1:Int)))) (cc8:CO 49 [.int .i64 (c1:Int)] (.ret (.str (adF c1)))) (cc9:CO 50 [.str (adF c0),.str (adF c1)] (.ret (.str (adF (c0*c1))))) (cc10:CO 29 [.int .i64 q1,.int .i64 4611686018427387904] (.ret (.int .i64 (c1:Int)))) (cc11:CO 49 [.int .i64 (((1+c1):Nat):Int)] (.ret (.str (adF (1+c1))))) (cc12:CO 29 [.int .i64 q0,.int .i64 2147483648] (.ret (.int .i64 (f0:Int)))) (cc13:CO 49 [.int .i64 (((1+f0):Nat):Int)] (.ret (.str (adF (1+f0))))) (cc14:CO 50 [.str (adF (1+c1)),.str (adF (1+f0))] (.ret (.str (adF ((1+c1)*(1+f0)))))) (cc15:CO 51 [.bool (decide (q0<((0:Nat):Int))),.str (adF (c0*c1)),.str (adF ((1+c1)*(1+f0)))] (.ret (.agg [.bool w.neg,.str (adF w.n),.str (adF w.d)]))):CO 19 [.agg [.int .i64 q0,.int .i64 q1,.int .i64 q2]] (.ret (.agg [.bool w.neg,.str (adF w.n),.str (adF w.d)])):=pK [] 2 2 (.k 19 h0 (.c h1 (.n 9 .nil))) (.c cc15 (.c cc14 (.c cc13 (.v 47 (.eq (w1p hf0)) (.c cc12 (.c cc11 (.v 42 (.eq (w1p hc1)) (.c cc10 (.c cc9 (.c cc8 (.c cc7 (.c cc6 (.c cc5 (.c cc4 (.c cc3 (.v 12 (.eq (w1p hb1)) (.c cc2 (.c cc1 (.c cc0 .nil)))))))))))))))))))
theorem aRH (q0 q1 q2:Int) (a0 b1 s2 c0 c1 e0 e1 f0:Nat) (w:RQ) (ha0:a0<4611686018427387904) (hb1:b1<4611686018427387904) (hs2:s2<4611686018427387904) (hc0:c0<4611686018427387904) (hc1:c1<4611686018427387904) (he0:e0<4611686018427387904) (he1:e1<4611686018427387904) (hf0:f0<4611686018427387904) (h0:lit true ((s2:Int)==((3:Nat):Int))=true) (h1:lit false ((s2:Int)==((2:Nat):Int))=true) (h2:lit false ((s2:Int)==((1:Nat):Int))=true) (cc0:CO 29 [.int .i64 q0,.int .i64 1000] (.ret (.int .i64 (a0:Int)))) (cc1:CO 49 [.int .i64 (a0:Int)] (.ret (.str (adF a0)))) (cc2:CO 29 [.int .i64 q1,.int .i64 60] (.ret (.int .i64 (b1:Int)))) (cc3:CO 49 [.int .i64 (((1+b1):Nat):Int)] (.ret (.str (adF (1+b1))))) (cc4:CO 29 [.int .i64 q2,.int .i64 4] (.ret (.int .i64 (s2:Int)))) (cc5:CO 29 [.int .i64 q0,.int .i64 7] (.ret (.int .i64 (e0:Int)))) (cc6:CO 49 [.int .i64 (e0:Int)] (.ret (.str (adF e0)))) (cc7:CO 29 [.int .i64 q1,.int .i64 7] (.ret (.int .i64 (e1:Int)))) (cc8:CO 49 [.int .i64 (((1+e1):Nat):Int)] (.ret (.str (adF (1+e1))))) (cc9:CO 51 [.bool (decide (q0<((0:Nat):Int))),.str (adF e0),.str (adF (1+e1))] (.ret (.agg [.bool w.neg,.str (adF w.n),.str (adF w.d)]))):CO 19 [.agg [.int .i64 q0,.int .i64 q1,.int .i64 q2]] (.ret (.agg [.bool w.neg,.str (adF w.n),.str (adF w.d)])):=pK [] 3 4 (.k 13 h0 (.c h1 (.c h2 (.n 9 .nil)))) (.c cc9 (.c cc8 (.v 59 (.eq (w1p he1)) (.c cc7 (.c cc6 (.c cc5 (.c cc4 (.c cc3 (.v 12 (.eq (w1p hb1)) (.c cc2 (.c cc1 (.c cc0 .nil))))))))))))
theorem aRI (q0 q1 q2:Int) (a0 b1 s2 c0 c1 e0 e1 f0:Nat) (w:RQ) (ha0:a0<4611686018427387904) (hb1:b1<4611686018427387904) (hs2:s2<4611686018427387904) (hc0:c0<4611686018427387904) (hc1:c1<4611686018427387904) (he0:e0<4611686018427387904) (he1:e1<4611686018427387904) (hf0:f0<4611686018427387904) (h0:lit false ((s2:Int)==((3:Nat):Int))=true) (h1:lit false ((s2:Int)==((2:Nat):Int))=true) (h2:lit false ((s2:Int)==((1:Nat):Int))=true) (cc0:CO 29 [.int .i64 q0,.int .i64 1000] (.ret (.int .i64 (a0:Int)))) (cc1:CO 49 [.int .i64 (a0:Int)] (.ret (.str (adF a0)))) (cc2:CO 29 [.int .i64 q1,.int .i64 60] (.ret (.int .i64 (b1:Int)))) (cc3:CO 49 [.int .i64 (((1+b1):Nat):Int)] (.ret (.str (adF (1+b1))))) (cc4:CO 29 [.int .i64 q2,.int .i64 4] (.ret (.int .i64 (s2:Int)))) (cc5:CO 51 [.bool (decide (q0<((0:Nat):Int))),.str (adF a0),.str (adF (1+b1))] (.ret (.agg [.bool w.neg,.str (adF w.n),.str (adF w.d)]))):CO 19 [.agg [.int .i64 q0,.int .i64 q1,.int .i64 q2]] (.ret (.agg [.bool w.neg,.str (adF w.n),.str (adF w.d)])):=pK [] 3 0 (.k 7 h0 (.c h1 (.c h2 (.n 9 .nil)))) (.c cc5 (.c cc4 (.c cc3 (.v 12 (.eq (w1p hb1)) (.c cc2 (.c cc1 (.c cc0 .nil)))))))
def mdN (q0 q1 q2:Int):Nat:=if anM q2 4=1 then (anM q0 4611686018427387904) else if anM q2 4=2 then ((anM q0 4611686018427387904)*(anM q1 4611686018427387904)) else if anM q2 4=3 then (anM q0 7) else (anM q0 1000)
def mdD (q0 q1 q2:Int):Nat:=if anM q2 4=1 then (1+(anM q1 4611686018427387904)) else if anM q2 4=2 then ((1+(anM q1 4611686018427387904))*(1+(anM q0 2147483648))) else if anM q2 4=3 then (1+(anM q1 7)) else (1+(anM q1 60))
theorem aF5 {a b:Nat} (h:a=b):(((a:Int))==(b:Int))=true:=by subst h;simp
theorem ayy {a b:Nat} (h:a ≠ b):(((a:Int))==(b:Int))=false:=beq_eq_false_iff_ne.2 (by omega)
theorem aEI (q0 q1 q2:Int) (hmul:anM q2 4=2→∀ x y:Nat,x<9223372036854775808→y<9223372036854775808→CO 50 [.str (adF x),.str (adF y)] (.ret (.str (adF (x*y))))):CO 19 [.agg [.int .i64 q0,.int .i64 q1,.int .i64 q2]] (.ret (qA (aBr (decide (q0<((0:Nat):Int))) (mdN q0 q1 q2) (mdD q0 q1 q2)))):=by
 have ha0:(anM q0 1000)<4611686018427387904:=Nat.lt_of_lt_of_le (au8 (by omega)) (by omega)
 have hb1:(anM q1 60)<4611686018427387904:=Nat.lt_of_lt_of_le (au8 (by omega)) (by omega)
 have hs2:(anM q2 4)<4611686018427387904:=Nat.lt_of_lt_of_le (au8 (by omega)) (by omega)
 have hc0:(anM q0 4611686018427387904)<4611686018427387904:=Nat.lt_of_lt_of_le (au8 (by omega)) (by omega)
 have hc1:(anM q1 4611686018427387904)<4611686018427387904:=Nat.lt_of_lt_of_le (au8 (by omega)) (by omega)
 have he0:(anM q0 7)<4611686018427387904:=Nat.lt_of_lt_of_le (au8 (by omega)) (by omega)
 have he1:(anM q1 7)<4611686018427387904:=Nat.lt_of_lt_of_le (au8 (by omega)) (by omega)
 have hf0:(anM q0 2147483648)<4611686018427387904:=Nat.lt_of_lt_of_le (au8 (by omega)) (by omega)
 have hs4:anM q2 4<4:=au8 (by omega)
 unfold mdN mdD
 by_cases e1:anM q2 4=1
 ·rw [if_pos e1,if_pos e1]
  exact aRF q0 q1 q2 (anM q0 1000) (anM q1 60) (anM q2 4) (anM q0 4611686018427387904) (anM q1 4611686018427387904) (anM q0 7) (anM q1 7) (anM q0 2147483648) (aBr (decide (q0<((0:Nat):Int))) (anM q0 4611686018427387904) (1+(anM q1 4611686018427387904))) ha0 hb1 hs2 hc0 hc1 he0 he1 hf0 (aeF (aF5 (by omega))) (au5 q0 1000 (by omega) (by omega)) (avd (anM q0 1000) (by have:=ha0;omega)) (au5 q1 60 (by omega) (by omega)) (avd (1+(anM q1 60)) (by have:=hb1;omega)) (au5 q2 4 (by omega) (by omega)) (au5 q0 4611686018427387904 (by omega) (by omega)) (avd (anM q0 4611686018427387904) (by have:=hc0;omega)) (au5 q1 4611686018427387904 (by omega) (by omega)) (avd (1+(anM q1 4611686018427387904)) (by have:=hc1;omega)) (av9 _ _ _ (Nat.lt_of_le_of_lt (avV (k:=8) (by have:=hc0;omega)) (by decide)) (Nat.lt_of_le_of_lt (avV (k:=8) (by have:=hc1;omega)) (by decide)) (by omega))
 ·rw [if_neg e1,if_neg e1]
  by_cases e2:anM q2 4=2
  ·rw [if_pos e2,if_pos e2]
   have hmul:=hmul e2
   exact aRG q0 q1 q2 (anM q0 1000) (anM q1 60) (anM q2 4) (anM q0 4611686018427387904) (anM q1 4611686018427387904) (anM q0 7) (anM q1 7) (anM q0 2147483648) (aBr (decide (q0<((0:Nat):Int))) ((anM q0 4611686018427387904)*(anM q1 4611686018427387904)) ((1+(anM q1 4611686018427387904))*(1+(anM q0 2147483648)))) ha0 hb1 hs2 hc0 hc1 he0 he1 hf0 (aeF (aF5 (by omega))) (akx (ayy (by omega))) (au5 q0 1000 (by omega) (by omega)) (avd (anM q0 1000) (by have:=ha0;omega)) (au5 q1 60 (by omega) (by omega)) (avd (1+(anM q1 60)) (by have:=hb1;omega)) (au5 q2 4 (by omega) (by omega)) (au5 q0 4611686018427387904 (by omega) (by omega)) (avd (anM q0 4611686018427387904) (by have:=hc0;omega)) (au5 q1 4611686018427387904 (by omega) (by omega)) (avd (anM q1 4611686018427387904) (by have:=hc1;omega)) (hmul (anM q0 4611686018427387904) (anM q1 4611686018427387904) (by have:=hc0;have:=hc1;have:=hf0;omega) (by have:=hc0;have:=hc1;have:=hf0;omega)) (au5 q1 4611686018427387904 (by omega) (by omega)) (avd (1+(anM q1 4611686018427387904)) (by have:=hc1;omega)) (au5 q0 2147483648 (by omega) (by omega)) (avd (1+(anM q0 2147483648)) (by have:=hf0;omega)) (hmul (1+(anM q1 4611686018427387904)) (1+(anM q0 2147483648)) (by have:=hc0;have:=hc1;have:=hf0;omega) (by have:=hc0;have:=hc1;have:=hf0;omega)) (av9 _ _ _ (Nat.lt_of_le_of_lt (avV (k:=16) (by exact Nat.lt_of_le_of_lt (Nat.mul_le_mul (Nat.le_of_lt hc0) (Nat.le_of_lt hc1)) (by decide))) (by decide)) (Nat.lt_of_le_of_lt (avV (k:=16) (by exact Nat.lt_of_le_of_lt (Nat.mul_le_mul (Nat.le_of_lt (show 1+_<4611686018427387905 by have:=hc1;omega)) (Nat.le_of_lt (show 1+_<4611686018427387905 by have:=hf0;omega))) (by decide))) (by decide)) (Nat.mul_pos (by omega) (by omega)))
  ·rw [if_neg e2,if_neg e2]
   by_cases e3:anM q2 4=3
   ·rw [if_pos e3,if_pos e3]
    exact aRH q0 q1 q2 (anM q0 1000) (anM q1 60) (anM q2 4) (anM q0 4611686018427387904) (anM q1 4611686018427387904) (anM q0 7) (anM q1 7) (anM q0 2147483648) (aBr (decide (q0<((0:Nat):Int))) (anM q0 7) (1+(anM q1 7))) ha0 hb1 hs2 hc0 hc1 he0 he1 hf0 (aeF (aF5 (by omega))) (akx (ayy (by omega))) (akx (ayy (by omega))) (au5 q0 1000 (by omega) (by omega)) (avd (anM q0 1000) (by have:=ha0;omega)) (au5 q1 60 (by omega) (by omega)) (avd (1+(anM q1 60)) (by have:=hb1;omega)) (au5 q2 4 (by omega) (by omega)) (au5 q0 7 (by omega) (by omega)) (avd (anM q0 7) (by have:=he0;omega)) (au5 q1 7 (by omega) (by omega)) (avd (1+(anM q1 7)) (by have:=he1;omega)) (av9 _ _ _ (Nat.lt_of_le_of_lt (avV (k:=8) (by have:=he0;omega)) (by decide)) (Nat.lt_of_le_of_lt (avV (k:=8) (by have:=he1;omega)) (by decide)) (by omega))
   ·rw [if_neg e3,if_neg e3]
    exact aRI q0 q1 q2 (anM q0 1000) (anM q1 60) (anM q2 4) (anM q0 4611686018427387904) (anM q1 4611686018427387904) (anM q0 7) (anM q1 7) (anM q0 2147483648) (aBr (decide (q0<((0:Nat):Int))) (anM q0 1000) (1+(anM q1 60))) ha0 hb1 hs2 hc0 hc1 he0 he1 hf0 (akx (ayy (by omega))) (akx (ayy (by omega))) (akx (ayy (by omega))) (au5 q0 1000 (by omega) (by omega)) (avd (anM q0 1000) (by have:=ha0;omega)) (au5 q1 60 (by omega) (by omega)) (avd (1+(anM q1 60)) (by have:=hb1;omega)) (au5 q2 4 (by omega) (by omega)) (av9 _ _ _ (Nat.lt_of_le_of_lt (avV (k:=8) (by have:=ha0;omega)) (by decide)) (Nat.lt_of_le_of_lt (avV (k:=8) (by have:=hb1;omega)) (by decide)) (by omega))
theorem aLg (q0 q1 q2:Int):0<mdD q0 q1 q2:=by
 unfold mdD
 split
 ·omega
 ·split
  ·exact Nat.mul_pos (by omega) (by omega)
  ·split<;>omega
theorem aOT (q0 q1 q2:Int):mdN q0 q1 q2<2^128∧mdD q0 q1 q2<2^128:=by
 have ha0:(anM q0 1000)<4611686018427387904:=Nat.lt_of_lt_of_le (au8 (by omega)) (by omega)
 have hb1:(anM q1 60)<4611686018427387904:=Nat.lt_of_lt_of_le (au8 (by omega)) (by omega)
 have hs2:(anM q2 4)<4611686018427387904:=Nat.lt_of_lt_of_le (au8 (by omega)) (by omega)
 have hc0:(anM q0 4611686018427387904)<4611686018427387904:=Nat.lt_of_lt_of_le (au8 (by omega)) (by omega)
 have hc1:(anM q1 4611686018427387904)<4611686018427387904:=Nat.lt_of_lt_of_le (au8 (by omega)) (by omega)
 have he0:(anM q0 7)<4611686018427387904:=Nat.lt_of_lt_of_le (au8 (by omega)) (by omega)
 have he1:(anM q1 7)<4611686018427387904:=Nat.lt_of_lt_of_le (au8 (by omega)) (by omega)
 have hf0:(anM q0 2147483648)<4611686018427387904:=Nat.lt_of_lt_of_le (au8 (by omega)) (by omega)
 unfold mdN mdD
 by_cases e1:anM q2 4=1
 ·rw [if_pos e1,if_pos e1];omega
 ·rw [if_neg e1,if_neg e1]
  by_cases e2:anM q2 4=2
  ·rw [if_pos e2,if_pos e2]
   exact ⟨by exact Nat.lt_of_le_of_lt (Nat.mul_le_mul (Nat.le_of_lt hc0) (Nat.le_of_lt hc1)) (by decide),by exact Nat.lt_of_le_of_lt (Nat.mul_le_mul (Nat.le_of_lt (show 1+_<4611686018427387905 by have:=hc1;omega)) (Nat.le_of_lt (show 1+_<4611686018427387905 by have:=hf0;omega))) (by decide)⟩
  ·rw [if_neg e2,if_neg e2]
   by_cases e3:anM q2 4=3
   ·rw [if_pos e3,if_pos e3];omega
   ·rw [if_neg e3,if_neg e3];omega
theorem a0r (w:RQ) (h0:lit true (!((adF w.n)== []))=true) (c0:CO 70 [.agg [.bool w.neg,.str (adF w.n),.str (adF w.d)]] (.ret (.agg [.bool w.neg,.str (adF w.n),.str (adF w.d)]))):CO 59 [.agg [.bool w.neg,.str (adF w.n),.str (adF w.d)]] (.ret (.agg [.bool (!w.neg),.str (adF w.n),.str (adF w.d)])):=pK [] 1 1 (.k 9 h0 (.n 5 .nil)) (.c c0 .nil)
theorem aV5 (q0 q1 q2:Int) (w:RQ) (sg:Int) (h0:lit false (sg==((0:Nat):Int))=true) (h1:lit true w.neg=true) (c0:CO 19 [.agg [.int .i64 q0,.int .i64 q1,.int .i64 q2]] (.ret (.agg [.bool w.neg,.str (adF w.n),.str (adF w.d)]))) (c1:CO 59 [.agg [.bool w.neg,.str (adF w.n),.str (adF w.d)]] (.ret (.agg [.bool false,.str (adF w.n),.str (adF w.d)]))) (c2:CO 45 [.agg [.bool false,.str (adF w.n),.str (adF w.d)]] (.ret (.int .i64 sg))):CO 35 [.agg [.int .i64 q0,.int .i64 q1,.int .i64 q2]] (.ret (.agg [.bool false,.str (adF w.n),.str (adF w.d)])):=pK [] 2 1 (.k 7 h0 (.k 7 h1 (.n 5 .nil))) (.c c2 (.c c1 (.c c0 .nil)))
theorem aV6 (q0 q1 q2:Int) (w:RQ) (sg:Int) (h0:lit true (sg==((0:Nat):Int))=true) (h1:lit false w.neg=true) (c0:CO 19 [.agg [.int .i64 q0,.int .i64 q1,.int .i64 q2]] (.ret (.agg [.bool w.neg,.str (adF w.n),.str (adF w.d)]))) (c1:CO 45 [.agg [.bool w.neg,.str (adF w.n),.str (adF w.d)]] (.ret (.int .i64 sg))) (c2:CO 60 [] (.ret (.agg [.bool false,.str [1],.str [100]]))):CO 35 [.agg [.int .i64 q0,.int .i64 q1,.int .i64 q2]] (.ret (.agg [.bool false,.str [1],.str [100]])):=pK [] 2 2 (.k 4 h0 (.k 3 h1 (.n 5 .nil))) (.c c2 (.c c1 (.c c0 .nil)))
theorem aV7 (q0 q1 q2:Int) (w:RQ) (sg:Int) (h0:lit false (sg==((0:Nat):Int))=true) (h1:lit false w.neg=true) (c0:CO 19 [.agg [.int .i64 q0,.int .i64 q1,.int .i64 q2]] (.ret (.agg [.bool w.neg,.str (adF w.n),.str (adF w.d)]))) (c1:CO 45 [.agg [.bool w.neg,.str (adF w.n),.str (adF w.d)]] (.ret (.int .i64 sg))):CO 35 [.agg [.int .i64 q0,.int .i64 q1,.int .i64 q2]] (.ret (.agg [.bool w.neg,.str (adF w.n),.str (adF w.d)])):=pK [] 2 0 (.k 7 h0 (.k 3 h1 (.n 5 .nil))) (.c c1 (.c c0 .nil))
theorem aUW (n:Int) (k8 k2:Nat) (w:RQ) (nam:Bool) (nm:List UInt8) (hk8:k8<4611686018427387904) (h0:lit false nam=true) (h1:lit true ((((1+k8):Nat):Int)==((4:Nat):Int))=true) (c0:CO 29 [.int .i64 n,.int .i64 8] (.ret (.int .i64 (k8:Int)))) (c1:CO 19 [.agg [.int .i64 (IntKind.wrap .i64 (Int.tdiv n ((8:Nat):Int))),.int .i64 (IntKind.wrap .i64 (Int.tdiv n ((24:Nat):Int))),.int .i64 (IntKind.wrap .i64 (((3:Nat):Int)*(Int.tmod (IntKind.wrap .i64 (Int.tdiv n ((8:Nat):Int))) ((2:Nat):Int))))]] (.ret (.agg [.bool w.neg,.str (adF w.n),.str (adF w.d)]))) (c2:CO 29 [.int .i64 (IntKind.wrap .i64 (Int.tdiv n ((8:Nat):Int))),.int .i64 2] (.ret (.int .i64 (k2:Int)))) (c3:CO 36 [.int .i64 (k2:Int)] (.ret (.agg [.bool false,.str (adF k2),.str (adF 1)]))) (c4:CO 32 [.int .i64 (((1+k8):Nat):Int)] (.ret (.bool nam))):CO 31 [.int .i64 n] (.ret (.agg [.int .i64 (((1+k8):Nat):Int),.bool false,.str (adF k2),.str (adF 1),.str []])):=pK [] 2 1 (.k 9 h0 (.k 2 h1 (.n 5 .nil))) (.c c4 (.c c3 (.c c2 (.c c1 (.v 7 (.eq (w1p hk8)) (.c c0 .nil))))))
theorem aUX (n:Int) (k8 k2:Nat) (w:RQ) (nam:Bool) (nm:List UInt8) (hk8:k8<4611686018427387904) (h0:lit true nam=true) (h1:lit false ((((1+k8):Nat):Int)==((4:Nat):Int))=true) (c0:CO 29 [.int .i64 n,.int .i64 8] (.ret (.int .i64 (k8:Int)))) (c1:CO 19 [.agg [.int .i64 (IntKind.wrap .i64 (Int.tdiv n ((8:Nat):Int))),.int .i64 (IntKind.wrap .i64 (Int.tdiv n ((24:Nat):Int))),.int .i64 (IntKind.wrap .i64 (((3:Nat):Int)*(Int.tmod (IntKind.wrap .i64 (Int.tdiv n ((8:Nat):Int))) ((2:Nat):Int))))]] (.ret (.agg [.bool w.neg,.str (adF w.n),.str (adF w.d)]))) (c2:CO 32 [.int .i64 (((1+k8):Nat):Int)] (.ret (.bool nam))) (c3:CO 33 [.int .i64 (IntKind.wrap .i64 (Int.tdiv n ((8:Nat):Int)))] (.ret (.str nm))):CO 31 [.int .i64 n] (.ret (.agg [.int .i64 (((1+k8):Nat):Int),.bool false,.str [],.str [],.str nm])):=pK [] 2 2 (.k 7 h0 (.c h1 (.n 5 .nil))) (.c c3 (.c c2 (.c c1 (.v 7 (.eq (w1p hk8)) (.c c0 .nil)))))
theorem aUY (n:Int) (k8 k2:Nat) (w:RQ) (nam:Bool) (nm:List UInt8) (hk8:k8<4611686018427387904) (h0:lit false nam=true) (h1:lit false ((((1+k8):Nat):Int)==((4:Nat):Int))=true) (c0:CO 29 [.int .i64 n,.int .i64 8] (.ret (.int .i64 (k8:Int)))) (c1:CO 19 [.agg [.int .i64 (IntKind.wrap .i64 (Int.tdiv n ((8:Nat):Int))),.int .i64 (IntKind.wrap .i64 (Int.tdiv n ((24:Nat):Int))),.int .i64 (IntKind.wrap .i64 (((3:Nat):Int)*(Int.tmod (IntKind.wrap .i64 (Int.tdiv n ((8:Nat):Int))) ((2:Nat):Int))))]] (.ret (.agg [.bool w.neg,.str (adF w.n),.str (adF w.d)]))) (c2:CO 32 [.int .i64 (((1+k8):Nat):Int)] (.ret (.bool nam))):CO 31 [.int .i64 n] (.ret (.agg [.int .i64 (((1+k8):Nat):Int),.bool w.neg,.str (adF w.n),.str (adF w.d),.str []])):=pK [] 2 0 (.k 9 h0 (.c h1 (.n 5 .nil))) (.c c2 (.c c1 (.v 7 (.eq (w1p hk8)) (.c c0 .nil))))
theorem ce0:CO 76 [.str [0,0,0,0,0,0,0,1]] (.ret (.str [1])):=cK (.nil)
theorem ce1:CO 49 [.int .i64 1] (.ret (.str [1])):=cK (.c ce0 .nil)
theorem ce2:CO 76 [.str [0,0,0,0,0,0,0,100]] (.ret (.str [100])):=cK (.nil)
theorem ce3:CO 49 [.int .i64 100] (.ret (.str [100])):=cK (.c ce2 .nil)
theorem ce4:CO 128 [.str [1]] (.ret (.bool true)):=cK (.nil)
theorem ce5:CO 128 [.str [100]] (.ret (.bool true)):=cK (.nil)
theorem ce6:CO 76 [.str [1]] (.ret (.str [1])):=cK (.nil)
theorem ce7:CO 76 [.str [100]] (.ret (.str [100])):=cK (.nil)
theorem ce8:CO 107 [.str [1]] (.ret (.tup [.int .i64 1,.bool true])):=cK (.c ce6 .nil)
theorem ce9:CO 77 [.str [1],.int .i64 7] (.ret (.tup [.int .i64 1,.bool true])):=cK (.c ce8 (.c ce6 .nil))
theorem a3p:CO 107 [.str [100]] (.ret (.tup [.int .i64 100,.bool true])):=cK (.c ce7 .nil)
theorem aW4:CO 77 [.str [100],.int .i64 7] (.ret (.tup [.int .i64 100,.bool true])):=cK (.c a3p (.c ce7 .nil))
theorem a3q:CO 76 [.str []] (.ret (.str [])):=cK (.nil)
theorem aUi:CO 49 [.int .i64 0] (.ret (.str [])):=cK (.c a3q .nil)
theorem a3r:CO 81 [.str [1],.str [100]] (.ret (.tup [.str [],.str [1],.bool true])):=cK (.c ce1 (.c aUi (.c aW4 (.c ce9 (.c ce7 .nil)))))
theorem aW5:CO 81 [.str [100],.str [1]] (.ret (.tup [.str [100],.str [],.bool true])):=cK (.c aUi (.c ce3 (.c ce9 (.c aW4 (.c ce6 .nil)))))
theorem a3s:CO 80 [.str [1],.str [100]] (.ret (.str [1])):=cK (.c aW5 (.c a3r (.c ce7 (.c ce6 .nil))))
theorem a3t:CO 81 [.str [1],.str [1]] (.ret (.tup [.str [1],.str [],.bool true])):=cK (.c aUi (.c ce1 (.c ce9 (.c ce9 (.c ce6 .nil)))))
theorem a3u:CO 51 [.bool false,.str [1],.str [100]] (.ret (.agg [.bool false,.str [1],.str [100]])):=cK (.c aW5 (.c a3t (.c a3s .nil)))
theorem a3v:CO 96 [.bool false,.str [1],.str [100]] (.ret (.tup [.agg [.bool false,.str [1],.str [100]],.bool true])):=cK (.c a3u (.c ce5 (.c ce4 .nil)))
theorem a3w:CO 60 [] (.ret (.agg [.bool false,.str [1],.str [100]])):=cK (.c a3v (.c ce3 (.c ce1 .nil)))
theorem nS {s:List UInt8} (h:nR s=true):adF (adX s)=s:=by
 rw [aB8]
 cases s with
 |nil=>rfl
 |cons c r=>
  have:(c==0)=false:=by simpa [nR] using h
  rw [List.dropWhile_cons,if_neg (by rw [this];decide)]
theorem auf {x:Nat} (h:x<2^128):(adF x).length<2^33:=Nat.lt_of_le_of_lt (avV (k:=16) h) (by decide)
theorem aK8 {w:RQ} (hw:w.ok) (hn:w.n<2^128) (hd:w.d<2^128):axJ w.neg (adF w.n) (adF w.d)=true:=by
 have h1:=axq hn
 have h2:=axq hd
 unfold axJ
 rw [aJ5 w hw,anZ,anZ,decide_eq_true (by omega),decide_eq_true (by omega)]
 rfl
theorem aKA {w:RQ} (hw:w.ok) (hneg:w.neg=false) (hn:0<w.n):ayV w.neg (adF w.n) (adF w.d)=1:=by
 unfold ayV
 rw [if_pos ⟨aJ5 w hw,by rw [anZ];exact hn⟩,hneg]
 rfl
theorem aSC {w:RQ} (hn:w.n=0):ayV w.neg (adF w.n) (adF w.d)=0:=by
 unfold ayV
 rw [if_neg]
 rw [anZ];omega
theorem aKd (neg:Bool) (n d:Nat) (hn:n<2^128) (hd:d<2^128):(aBr neg n d).n<2^128∧(aBr neg n d).d<2^128:=
 ⟨Nat.lt_of_le_of_lt (Nat.div_le_self _ _) hn,Nat.lt_of_le_of_lt (Nat.div_le_self _ _) hd⟩
theorem aPK (q0 q1:Int):∃ w:RQ,w.ok∧w.neg=false∧0<w.n∧w.n<2^128∧w.d<2^128∧CO 35 [.agg [.int .i64 q0,.int .i64 q1,.int .i64 3]] (.ret (qA w)):=by
 have h:=aEI q0 q1 3 (fun h=>absurd h (by decide))
 obtain ⟨b1,b2⟩:=aOT q0 q1 3
 obtain ⟨b3,b4⟩:=aKd (decide (q0<((0:Nat):Int))) _ _ b1 b2
 have hw:(aBr (decide (q0<((0:Nat):Int))) (mdN q0 q1 3) (mdD q0 q1 3)).ok:=aLf (aLg _ _ _)
 generalize aBr (decide (q0<((0:Nat):Int))) (mdN q0 q1 3) (mdD q0 q1 3)=w at*
 have cent:qA ⟨false,1,100⟩= .agg [.bool false,.str [1],.str [100]]:=by
  unfold qA
  rw [show adF 1= [1] from nS (s:= [1]) rfl,show adF 100= [100] from nS (s:= [100]) rfl]
 have cw:(⟨false,1,100⟩:RQ).ok:=⟨by decide,by decide,by simp⟩
 rcases tf w.neg with b0|b0
 ·have hp:=hw.2.2 b0
  have hne:(!((adF w.n)== []))=true:=by
   have:adF w.n ≠ []:=fun h=>by have:=aw4.1 h;omega
   simpa using this
  have hv:=awO w.neg (adF w.n) (adF w.d) (auf b3) (auf b4)
  rw [show vQ w.neg (adF w.n) (adF w.d)=w by unfold vQ;rw [if_pos (aJ5 w hw),anZ,anZ]] at hv
  have c1:=a0r w (aeF hne) hv
  rw [show (!w.neg)=false by rw [b0];rfl] at c1
  have ok':(⟨false,w.n,w.d⟩:RQ).ok:=⟨hw.1,hw.2.1,by simp⟩
  have cs:=aGD false (adF w.n) (adF w.d) (auf b3) (auf b4)
  rw [aKA (w:=⟨false,w.n,w.d⟩) ok' rfl hp] at cs
  exact ⟨⟨false,w.n,w.d⟩,ok',rfl,hp,b3,b4,aV5 q0 q1 3 w 1 (akx (by decide)) (aeF b0) h c1 cs⟩
 ·have cs:=aGD w.neg (adF w.n) (adF w.d) (auf b3) (auf b4)
  rcases Nat.eq_zero_or_pos w.n with hz|hp
  ·rw [aSC hz] at cs
   have:=aV6 q0 q1 3 w 0 (aeF (by decide)) (akx b0) h cs a3w
   exact ⟨⟨false,1,100⟩,cw,rfl,by decide,by decide,by decide,by rw [cent];exact this⟩
  ·rw [aKA hw b0 hp] at cs
   exact ⟨w,hw,b0,hp,b3,b4,aV7 q0 q1 3 w 1 (akx (by decide)) (akx b0) h cs⟩
theorem aGT {op:Int} (h:op=1∨op=2∨op=3) {w:RQ} (hw:w.ok) (hn:w.n<2^128) (hd:w.d<2^128):al1 ⟨op,w.neg,adF w.n,adF w.d,[]⟩=0:=by
 have hf:=aK8 hw hn hd
 rcases h with rfl|rfl|rfl<;>simp [al1,awD,inI,axF,aFR,azk,hf]
theorem aKQ {op:Int} (h:op=21∨op=22∨op=23) {w:RQ} (hw:w.ok) (hneg:w.neg=false) (hp:0<w.n) (hn:w.n<2^128) (hd:w.d<2^128):al1 ⟨op,w.neg,adF w.n,adF w.d,[]⟩=0:=by
 have hf:=aK8 hw hn hd
 have hs:=aKA hw hneg hp
 rcases h with rfl|rfl|rfl<;>simp [al1,awD,inI,axF,aFR,azk,hf,hs]
theorem aJl {k:Nat} (h:k<2):al1 ⟨4,false,adF k,adF 1,[]⟩=0:=by
 have:k=0∨k=1:=by omega
 rcases this with rfl|rfl<;>simp [al1,awD,inI,axF,eqS]
theorem aFx {op:Int} (h:op=5∨op=6∨op=7∨op=8∨op=24) {nm:List UInt8} (hn:aA9 nm=true):al1 ⟨op,false,[],[],nm⟩=0:=by
 rcases h with rfl|rfl|rfl|rfl|rfl<;>simp [al1,awD,inI,axF,aFR,azk,hn]
theorem aJk {op:Int} (h:9≤op∧op≤20):al1 ⟨op,false,[],[],[]⟩=0:=by
 have h1:inI op=true:=decide_eq_true (by omega)
 have h2:axF op=false:=decide_eq_false (by omega)
 have h3:aFR op=false:=decide_eq_false (by omega)
 have h4:azk op=false:=decide_eq_false (by omega)
 have h5:(op==((4:Nat):Int))=false:=beq_eq_false_iff_ne.2 (by omega)
 unfold al1 awD
 rw [h1,h2,h3,h4,h5];rfl
theorem aRv (n:Int):∃ x:Nd,x.sm∧al1 x=0∧arI x.op=0∧CO 31 [.int .i64 n] (.ret (.agg (ndC x))):=by
 have c8:=au5 n 8 (by omega) (by omega)
 have h8:anM n 8<8:=au8 (by omega)
 generalize anM n 8=k8 at*
 generalize hq:(IntKind.wrap .i64 (Int.tdiv n ((8:Nat):Int)))=q at*
 have hr: -2<Int.tmod q 2∧Int.tmod q 2<2:=by
  have h1:=Int.tmod_lt_of_pos q (b:=2) (by omega)
  have h2:=Int.tmod_lt_of_pos (-q) (b:=2) (by omega)
  rw [Int.neg_tmod] at h2
  omega
 have hne:anM (IntKind.wrap .i64 (((3:Nat):Int)*(Int.tmod q ((2:Nat):Int)))) 4 ≠ 2:=by
  rw [show ((2:Nat):Int)=2 from rfl]
  rw [auI (by omega) (by omega)]
  have:Int.tmod q 2= -1∨Int.tmod q 2=0∨Int.tmod q 2=1:=by omega
  rcases this with h|h|h<;>rw [h]<;>decide
 have cm:=aEI q (IntKind.wrap .i64 (Int.tdiv n ((24:Nat):Int))) (IntKind.wrap .i64 (((3:Nat):Int)*(Int.tmod q ((2:Nat):Int)))) (fun h=>absurd h hne)
 obtain ⟨b1,b2⟩:=aOT q (IntKind.wrap .i64 (Int.tdiv n ((24:Nat):Int))) (IntKind.wrap .i64 (((3:Nat):Int)*(Int.tmod q ((2:Nat):Int))))
 obtain ⟨b3,b4⟩:=aKd (decide (q<((0:Nat):Int))) _ _ b1 b2
 have hw:=aLf (neg:=decide (q<((0:Nat):Int))) (n:=mdN q (IntKind.wrap .i64 (Int.tdiv n ((24:Nat):Int))) (IntKind.wrap .i64 (((3:Nat):Int)*(Int.tmod q ((2:Nat):Int))))) (aLg q (IntKind.wrap .i64 (Int.tdiv n ((24:Nat):Int))) (IntKind.wrap .i64 (((3:Nat):Int)*(Int.tmod q ((2:Nat):Int)))))
 generalize aBr (decide (q<((0:Nat):Int))) (mdN q (IntKind.wrap .i64 (Int.tdiv n ((24:Nat):Int))) (IntKind.wrap .i64 (((3:Nat):Int)*(Int.tmod q ((2:Nat):Int))))) (mdD q (IntKind.wrap .i64 (Int.tdiv n ((24:Nat):Int))) (IntKind.wrap .i64 (((3:Nat):Int)*(Int.tmod q ((2:Nat):Int)))))=w at*
 have cn:=aLk (((1+k8:Nat):Int))
 have cp:=aHD q
 have hp:=aGB (anM q 6) (au8 (by omega))
 generalize aIP (anM q 6)=nm at*
 have c2:=au5 q 2 (by omega) (by omega)
 have h2:anM q 2<2:=au8 (by omega)
 generalize anM q 2=k2 at*
 have co:=aDs k2 (by omega)
 have l2:(adF k2).length<2^33:=auf (by omega)
 have l1:(adF 1).length<2^33:=auf (by decide)
 subst hq
 by_cases e4:k8=3
 ·rw [show axF ((1+k8:Nat):Int)=false by subst e4;rfl] at cn
  refine ⟨⟨((1+k8:Nat):Int),false,adF k2,adF 1,[]⟩,⟨l2,l1⟩, ?_,by subst e4;rfl,aUW n k8 k2 w false nm (by omega) (akx rfl) (aeF (aF5 (by omega))) c8 cm c2 co cn⟩
  subst e4
  exact aJl h2
 ·by_cases e5:k8<3
  ·rw [show axF ((1+k8:Nat):Int)=false from decide_eq_false (by omega)] at cn
   exact ⟨⟨((1+k8:Nat):Int),w.neg,adF w.n,adF w.d,[]⟩,⟨auf b3,auf b4⟩,aGT (by omega) hw b3 b4,by unfold arI;simp only;(repeat' split)<;>omega,aUY n k8 k2 w false nm (by omega) (akx rfl) (akx (ayy (by omega))) c8 cm cn⟩
  ·rw [show axF ((1+k8:Nat):Int)=true from decide_eq_true (by omega)] at cn
   exact ⟨⟨((1+k8:Nat):Int),false,[],[],nm⟩,⟨by simp,by simp⟩,aFx (by omega) hp,by unfold arI;simp only;(repeat' split)<;>omega,aUX n k8 k2 w true nm (by omega) (aeF rfl) (akx (ayy (by omega))) c8 cm cn cp⟩
def iL (l:List Int):List AV:=l.map fun a=> .int .i64 a
theorem aRh {a:List Int} {i:Nat} (h:i<a.length):List.drop (Int.toNat (i:Int)*1) (iL a)= [AV.int .i64 (a.getD i 0)]++iL (a.drop (i+1)):=by
 unfold iL
 rw [aeb,Nat.mul_one,← List.map_drop,List.drop_eq_getElem_cons h,List.getD_eq_getElem?_getD,List.getElem?_eq_getElem h]
 rfl
theorem wp1 {k:Nat} (h:k<2^62):AV.int .i64 (IntKind.wrap .i64 ((k:Int)+((1:Nat):Int)))= .int .i64 ((k+1:Nat):Int):=by
 have e:IntKind.wrap .i64 ((k:Int)+((1:Nat):Int))=((k+1:Nat):Int):=by rw [auI]<;>omega
 rw [e]
theorem wms {a b:Nat} (h:a≤b) (hb:b<2^62):AV.int .i64 (IntKind.wrap .i64 ((b:Int) - (a:Int)))= .int .i64 ((b - a:Nat):Int):=by
 have e:IntKind.wrap .i64 ((b:Int) - (a:Int))=((b - a:Nat):Int):=by rw [auI]<;>omega
 rw [e]
theorem lms {a b:Nat} (h:b<2^62):b - a<2^62:=Nat.lt_of_le_of_lt (Nat.sub_le _ _) h
theorem a0n {nt:Nat} (hn:85≤nt) (xs:List Int) (nn:Bool) (k dp k24 ar:Nat) (y:Nd) (x:Int) (rx:List AV) (hk:k<2^62) (hdp:dp<2^62) (hk24:k24<4611686018427387904) (hx:(List.drop ((Int.toNat (k:Int))*1) (iL xs))= [AV.int .i64 x]++rx) (h0:lit true ((ar:Int)==((0:Nat):Int))=true) (h1:(decide (((0:Nat):Int)≤(k:Int)))=true) (h2:(decide ((k:Int)<(xs.length:Int)))=true) (h3:lit true (decide ((k:Int)<((30:Nat):Int)))=true) (h4:lit true (decide ((k:Int)<(xs.length:Int)))=true) (c0:CO 29 [.int .i64 x,.int .i64 24] (.ret (.int .i64 (k24:Int)))) (c1:CO 30 [.int .i64 (((1+k24):Nat):Int)] (.ret (.int .i64 (ar:Int)))) (c2:CO 31 [.int .i64 (IntKind.wrap .i64 (Int.tdiv x ((24:Nat):Int)))] (.ret (.agg [.int .i64 y.op,.bool y.neg,.str y.num,.str y.den,.str y.name]))):adY prog ap [] nt (lT 0 (adW f11)) ⟨[(0,.sl (iL xs) xs.length nn),(3,.nilS),(4,.int .i64 (dp:Int)),(5,.int .i64 (k:Int))],[],.dead,[]⟩ (.normal) ⟨[(0,.sl (iL xs) xs.length nn),(3,.ref 0 0 0 1),(4,.int .i64 (((dp+1):Nat):Int)),(5,.int .i64 (((k+1):Nat):Int))],[(0,⟨[.int .i64 y.op,.bool y.neg,.str y.num,.str y.den,.str y.name],0,false,0,5,true⟩)],.dead,[]⟩:=pN 11 [] 5 15 (.k 5 h0 (.k 1 h1 (.c h2 (.c h3 (.c h4 .nil))))) (.v 19 (.eq (wp1 hk)) (.v 43 (.eq (wp1 hdp)) (.c c2 (.c c1 (.v 26 (.eq (w1p hk24)) (.c c0 (.v 22 (.ppt hx) .nil))))))) hn
theorem a0o {nt:Nat} (hn:85≤nt) (xs:List Int) (nn:Bool) (k dp k24 ar:Nat) (y:Nd) (x:Int) (rx:List AV) (hk:k<2^62) (hdp:dp<2^62) (hk24:k24<4611686018427387904) (hx:(List.drop ((Int.toNat (k:Int))*1) (iL xs))= [AV.int .i64 x]++rx) (h0:lit true (decide ((dp:Int)<(ar:Int)))=true) (h1:lit false ((ar:Int)==((0:Nat):Int))=true) (h2:(decide (((0:Nat):Int)≤(k:Int)))=true) (h3:(decide ((k:Int)<(xs.length:Int)))=true) (h4:lit true (decide ((k:Int)<((30:Nat):Int)))=true) (h5:lit true (decide ((k:Int)<(xs.length:Int)))=true) (c0:CO 29 [.int .i64 x,.int .i64 24] (.ret (.int .i64 (k24:Int)))) (c1:CO 30 [.int .i64 (((1+k24):Nat):Int)] (.ret (.int .i64 (ar:Int)))) (c2:CO 31 [.int .i64 (IntKind.wrap .i64 (Int.tdiv x ((24:Nat):Int)))] (.ret (.agg [.int .i64 y.op,.bool y.neg,.str y.num,.str y.den,.str y.name]))):adY prog ap [] nt (lT 0 (adW f11)) ⟨[(0,.sl (iL xs) xs.length nn),(3,.nilS),(4,.int .i64 (dp:Int)),(5,.int .i64 (k:Int))],[],.dead,[]⟩ (.normal) ⟨[(0,.sl (iL xs) xs.length nn),(3,.ref 0 0 0 1),(4,.int .i64 (((dp+1):Nat):Int)),(5,.int .i64 (((k+1):Nat):Int))],[(0,⟨[.int .i64 y.op,.bool y.neg,.str y.num,.str y.den,.str y.name],0,false,0,5,true⟩)],.dead,[]⟩:=pN 11 [] 5 11 (.k 4 h0 (.c h1 (.k 1 h2 (.c h3 (.c h4 (.c h5 .nil)))))) (.v 19 (.eq (wp1 hk)) (.v 43 (.eq (wp1 hdp)) (.c c2 (.c c1 (.v 26 (.eq (w1p hk24)) (.c c0 (.v 22 (.ppt hx) .nil))))))) hn
theorem a0p {nt:Nat} (hn:85≤nt) (xs:List Int) (nn:Bool) (k dp:Nat) (h0:lit false (decide ((k:Int)<(xs.length:Int)))=true):adY prog ap [] nt (lT 0 (adW f11)) ⟨[(0,.sl (iL xs) xs.length nn),(3,.nilS),(4,.int .i64 (dp:Int)),(5,.int .i64 (k:Int))],[],.dead,[]⟩ (.exit 0) ⟨[(3,.nilS),(4,.int .i64 (dp:Int))],[],.dead,[]⟩:=pN 11 [] 2 0 (.k 1 h0 .nil) (.nil) hn
theorem a0g {nt:Nat} (hn:85≤nt) (xs:List Int) (nn:Bool) (k dp k24 ar:Nat) (y:Nd) (x:Int) (rx:List AV) (os:List Nd) (hk:k<2^62) (hdp:dp<2^62) (hk24:k24<4611686018427387904) (hx:(List.drop ((Int.toNat (k:Int))*1) (iL xs))= [AV.int .i64 x]++rx) (h0:(Nat.ble (k+1) 1099511627776)=true) (h1:(Nat.ble (k*5) (List.length (ndL os)))=true) (h2:lit true ((ar:Int)==((0:Nat):Int))=true) (h3:(decide (((0:Nat):Int)≤(k:Int)))=true) (h4:(decide ((k:Int)<(xs.length:Int)))=true) (h5:lit true (decide ((k:Int)<((30:Nat):Int)))=true) (h6:lit true (decide ((k:Int)<(xs.length:Int)))=true) (c0:CO 29 [.int .i64 x,.int .i64 24] (.ret (.int .i64 (k24:Int)))) (c1:CO 30 [.int .i64 (((1+k24):Nat):Int)] (.ret (.int .i64 (ar:Int)))) (c2:CO 31 [.int .i64 (IntKind.wrap .i64 (Int.tdiv x ((24:Nat):Int)))] (.ret (.agg [.int .i64 y.op,.bool y.neg,.str y.num,.str y.den,.str y.name]))):adY prog ap [] nt (lT 0 (adW f11)) ⟨[(0,.sl (iL xs) xs.length nn),(3,.ref 0 0 0 k),(4,.int .i64 (dp:Int)),(5,.int .i64 (k:Int))],[(0,⟨(ndL os),0,false,0,5,true⟩)],.dead,[]⟩ (.normal) ⟨[(0,.sl (iL xs) xs.length nn),(3,.ref 0 0 0 (k+1)),(4,.int .i64 (((dp+1):Nat):Int)),(5,.int .i64 (((k+1):Nat):Int))],[(0,⟨((List.take (k*5) (ndL os))++ [.int .i64 y.op,.bool y.neg,.str y.num,.str y.den,.str y.name]),0,false,0,5,true⟩)],.dead,[]⟩:=pN 11 [] 4 15 (.k 1 h0 (.c h1 (.k 3 h2 (.k 1 h3 (.c h4 (.c h5 (.c h6 .nil))))))) (.v 19 (.eq (wp1 hk)) (.v 43 (.eq (wp1 hdp)) (.c c2 (.c c1 (.v 26 (.eq (w1p hk24)) (.c c0 (.v 22 (.ppt hx) .nil))))))) hn
theorem a0h {nt:Nat} (hn:85≤nt) (xs:List Int) (nn:Bool) (k dp k24 ar:Nat) (y:Nd) (x:Int) (rx:List AV) (os:List Nd) (hk:k<2^62) (hdp:dp<2^62) (hk24:k24<4611686018427387904) (hx:(List.drop ((Int.toNat (k:Int))*1) (iL xs))= [AV.int .i64 x]++rx) (h0:(Nat.ble (k+1) 1099511627776)=true) (h1:(Nat.ble (k*5) (List.length (ndL os)))=true) (h2:lit true (decide ((dp:Int)<(ar:Int)))=true) (h3:lit false ((ar:Int)==((0:Nat):Int))=true) (h4:(decide (((0:Nat):Int)≤(k:Int)))=true) (h5:(decide ((k:Int)<(xs.length:Int)))=true) (h6:lit true (decide ((k:Int)<((30:Nat):Int)))=true) (h7:lit true (decide ((k:Int)<(xs.length:Int)))=true) (c0:CO 29 [.int .i64 x,.int .i64 24] (.ret (.int .i64 (k24:Int)))) (c1:CO 30 [.int .i64 (((1+k24):Nat):Int)] (.ret (.int .i64 (ar:Int)))) (c2:CO 31 [.int .i64 (IntKind.wrap .i64 (Int.tdiv x ((24:Nat):Int)))] (.ret (.agg [.int .i64 y.op,.bool y.neg,.str y.num,.str y.den,.str y.name]))):adY prog ap [] nt (lT 0 (adW f11)) ⟨[(0,.sl (iL xs) xs.length nn),(3,.ref 0 0 0 k),(4,.int .i64 (dp:Int)),(5,.int .i64 (k:Int))],[(0,⟨(ndL os),0,false,0,5,true⟩)],.dead,[]⟩ (.normal) ⟨[(0,.sl (iL xs) xs.length nn),(3,.ref 0 0 0 (k+1)),(4,.int .i64 (((dp+1):Nat):Int)),(5,.int .i64 (((k+1):Nat):Int))],[(0,⟨((List.take (k*5) (ndL os))++ [.int .i64 y.op,.bool y.neg,.str y.num,.str y.den,.str y.name]),0,false,0,5,true⟩)],.dead,[]⟩:=pN 11 [] 4 11 (.k 1 h0 (.c h1 (.k 2 h2 (.c h3 (.k 1 h4 (.c h5 (.c h6 (.c h7 .nil)))))))) (.v 19 (.eq (wp1 hk)) (.v 43 (.eq (wp1 hdp)) (.c c2 (.c c1 (.v 26 (.eq (w1p hk24)) (.c c0 (.v 22 (.ppt hx) .nil))))))) hn
theorem a0i {nt:Nat} (hn:85≤nt) (xs:List Int) (nn:Bool) (k dp k24 ar:Nat) (nam ste:Bool) (nm:List UInt8) (x:Int) (rx:List AV) (os:List Nd) (hk:k<2^62) (hdp:dp<2^62) (hk24:k24<4611686018427387904) (har:ar≤dp) (hx:(List.drop ((Int.toNat (k:Int))*1) (iL xs))= [AV.int .i64 x]++rx) (h0:(Nat.ble (k+1) 1099511627776)=true) (h1:(Nat.ble (k*5) (List.length (ndL os)))=true) (h2:lit false ste=true) (h3:lit true nam=true) (h4:lit false (decide ((dp:Int)<(ar:Int)))=true) (h5:lit false ((ar:Int)==((0:Nat):Int))=true) (h6:(decide (((0:Nat):Int)≤(k:Int)))=true) (h7:(decide ((k:Int)<(xs.length:Int)))=true) (h8:lit true (decide ((k:Int)<((30:Nat):Int)))=true) (h9:lit true (decide ((k:Int)<(xs.length:Int)))=true) (c0:CO 29 [.int .i64 x,.int .i64 24] (.ret (.int .i64 (k24:Int)))) (c1:CO 30 [.int .i64 (((1+k24):Nat):Int)] (.ret (.int .i64 (ar:Int)))) (c2:CO 32 [.int .i64 (((1+k24):Nat):Int)] (.ret (.bool nam))) (c3:CO 33 [.int .i64 (IntKind.wrap .i64 (Int.tdiv x ((24:Nat):Int)))] (.ret (.str nm))) (c4:CO 34 [.int .i64 (((1+k24):Nat):Int)] (.ret (.bool ste))):adY prog ap [] nt (lT 0 (adW f11)) ⟨[(0,.sl (iL xs) xs.length nn),(3,.ref 0 0 0 k),(4,.int .i64 (dp:Int)),(5,.int .i64 (k:Int))],[(0,⟨(ndL os),0,false,0,5,true⟩)],.dead,[]⟩ (.normal) ⟨[(0,.sl (iL xs) xs.length nn),(3,.ref 0 0 0 (k+1)),(4,.int .i64 (((dp - ar+1):Nat):Int)),(5,.int .i64 (((k+1):Nat):Int))],[(0,⟨((List.take (k*5) (ndL os))++ [.int .i64 (((1+k24):Nat):Int),.bool false,.str [],.str [],.str nm]),0,false,0,5,true⟩)],.dead,[]⟩:=pN 11 [] 6 19 (.k 1 h0 (.c h1 (.k 6 h2 (.k 2 h3 (.k 1 h4 (.c h5 (.k 1 h6 (.c h7 (.c h8 (.c h9 .nil)))))))))) (.v 19 (.eq (wp1 hk)) (.v 68 (.eq (wp1 (lms (a:=ar) hdp))) (.v 67 (.eq (wms har hdp)) (.c c4 (.c c3 (.c c2 (.c c1 (.v 26 (.eq (w1p hk24)) (.c c0 (.v 22 (.ppt hx) .nil)))))))))) hn
theorem a0j {nt:Nat} (hn:85≤nt) (xs:List Int) (nn:Bool) (k dp k24 ar:Nat) (nam ste:Bool) (w:RQ) (x:Int) (rx:List AV) (os:List Nd) (hk:k<2^62) (hdp:dp<2^62) (hk24:k24<4611686018427387904) (har:ar≤dp) (hx:(List.drop ((Int.toNat (k:Int))*1) (iL xs))= [AV.int .i64 x]++rx) (h0:(Nat.ble (k+1) 1099511627776)=true) (h1:(Nat.ble (k*5) (List.length (ndL os)))=true) (h2:lit true ste=true) (h3:lit false nam=true) (h4:lit false (decide ((dp:Int)<(ar:Int)))=true) (h5:lit false ((ar:Int)==((0:Nat):Int))=true) (h6:(decide (((0:Nat):Int)≤(k:Int)))=true) (h7:(decide ((k:Int)<(xs.length:Int)))=true) (h8:lit true (decide ((k:Int)<((30:Nat):Int)))=true) (h9:lit true (decide ((k:Int)<(xs.length:Int)))=true) (c0:CO 29 [.int .i64 x,.int .i64 24] (.ret (.int .i64 (k24:Int)))) (c1:CO 30 [.int .i64 (((1+k24):Nat):Int)] (.ret (.int .i64 (ar:Int)))) (c2:CO 32 [.int .i64 (((1+k24):Nat):Int)] (.ret (.bool nam))) (c3:CO 34 [.int .i64 (((1+k24):Nat):Int)] (.ret (.bool ste))) (c4:CO 35 [.agg [.int .i64 (IntKind.wrap .i64 (Int.tdiv x ((24:Nat):Int))),.int .i64 (IntKind.wrap .i64 (Int.tdiv x ((48:Nat):Int))),.int .i64 3]] (.ret (.agg [.bool w.neg,.str (adF w.n),.str (adF w.d)]))):adY prog ap [] nt (lT 0 (adW f11)) ⟨[(0,.sl (iL xs) xs.length nn),(3,.ref 0 0 0 k),(4,.int .i64 (dp:Int)),(5,.int .i64 (k:Int))],[(0,⟨(ndL os),0,false,0,5,true⟩)],.dead,[]⟩ (.normal) ⟨[(0,.sl (iL xs) xs.length nn),(3,.ref 0 0 0 (k+1)),(4,.int .i64 (((dp - ar+1):Nat):Int)),(5,.int .i64 (((k+1):Nat):Int))],[(0,⟨((List.take (k*5) (ndL os))++ [.int .i64 (((1+k24):Nat):Int),.bool w.neg,.str (adF w.n),.str (adF w.d),.str []]),0,false,0,5,true⟩)],.dead,[]⟩:=pN 11 [] 6 35 (.k 1 h0 (.c h1 (.k 9 h2 (.c h3 (.k 1 h4 (.c h5 (.k 1 h6 (.c h7 (.c h8 (.c h9 .nil)))))))))) (.v 19 (.eq (wp1 hk)) (.v 68 (.eq (wp1 (lms (a:=ar) hdp))) (.v 67 (.eq (wms har hdp)) (.c c4 (.c c3 (.c c2 (.c c1 (.v 26 (.eq (w1p hk24)) (.c c0 (.v 22 (.ppt hx) .nil)))))))))) hn
theorem a0k {nt:Nat} (hn:85≤nt) (xs:List Int) (nn:Bool) (k dp k24 ar:Nat) (nam ste:Bool) (x:Int) (rx:List AV) (os:List Nd) (hk:k<2^62) (hdp:dp<2^62) (hk24:k24<4611686018427387904) (har:ar≤dp) (hx:(List.drop ((Int.toNat (k:Int))*1) (iL xs))= [AV.int .i64 x]++rx) (h0:(Nat.ble (k+1) 1099511627776)=true) (h1:(Nat.ble (k*5) (List.length (ndL os)))=true) (h2:lit false ste=true) (h3:lit false nam=true) (h4:lit false (decide ((dp:Int)<(ar:Int)))=true) (h5:lit false ((ar:Int)==((0:Nat):Int))=true) (h6:(decide (((0:Nat):Int)≤(k:Int)))=true) (h7:(decide ((k:Int)<(xs.length:Int)))=true) (h8:lit true (decide ((k:Int)<((30:Nat):Int)))=true) (h9:lit true (decide ((k:Int)<(xs.length:Int)))=true) (c0:CO 29 [.int .i64 x,.int .i64 24] (.ret (.int .i64 (k24:Int)))) (c1:CO 30 [.int .i64 (((1+k24):Nat):Int)] (.ret (.int .i64 (ar:Int)))) (c2:CO 32 [.int .i64 (((1+k24):Nat):Int)] (.ret (.bool nam))) (c3:CO 34 [.int .i64 (((1+k24):Nat):Int)] (.ret (.bool ste))):adY prog ap [] nt (lT 0 (adW f11)) ⟨[(0,.sl (iL xs) xs.length nn),(3,.ref 0 0 0 k),(4,.int .i64 (dp:Int)),(5,.int .i64 (k:Int))],[(0,⟨(ndL os),0,false,0,5,true⟩)],.dead,[]⟩ (.normal) ⟨[(0,.sl (iL xs) xs.length nn),(3,.ref 0 0 0 (k+1)),(4,.int .i64 (((dp - ar+1):Nat):Int)),(5,.int .i64 (((k+1):Nat):Int))],[(0,⟨((List.take (k*5) (ndL os))++ [.int .i64 (((1+k24):Nat):Int),.bool false,.str [],.str [],.str []]),0,false,0,5,true⟩)],.dead,[]⟩:=pN 11 [] 6 3 (.k 1 h0 (.c h1 (.k 6 h2 (.c h3 (.k 1 h4 (.c h5 (.k 1 h6 (.c h7 (.c h8 (.c h9 .nil)))))))))) (.v 19 (.eq (wp1 hk)) (.v 68 (.eq (wp1 (lms (a:=ar) hdp))) (.v 67 (.eq (wms har hdp)) (.c c3 (.c c2 (.c c1 (.v 26 (.eq (w1p hk24)) (.c c0 (.v 22 (.ppt hx) .nil))))))))) hn
theorem a0l {nt:Nat} (hn:85≤nt) (xs:List Int) (nn:Bool) (k dp:Nat) (os:List Nd) (h0:lit false (decide ((k:Int)<((30:Nat):Int)))=true) (h1:lit true (decide ((k:Int)<(xs.length:Int)))=true):adY prog ap [] nt (lT 0 (adW f11)) ⟨[(0,.sl (iL xs) xs.length nn),(3,.ref 0 0 0 k),(4,.int .i64 (dp:Int)),(5,.int .i64 (k:Int))],[(0,⟨(ndL os),0,false,0,5,true⟩)],.dead,[]⟩ (.exit 0) ⟨[(3,.ref 0 0 0 k),(4,.int .i64 (dp:Int))],[(0,⟨(ndL os),0,false,0,5,true⟩)],.dead,[]⟩:=pN 11 [] 2 1 (.c h0 (.c h1 .nil)) (.nil) hn
theorem a0m {nt:Nat} (hn:85≤nt) (xs:List Int) (nn:Bool) (k dp:Nat) (os:List Nd) (h0:lit false (decide ((k:Int)<(xs.length:Int)))=true):adY prog ap [] nt (lT 0 (adW f11)) ⟨[(0,.sl (iL xs) xs.length nn),(3,.ref 0 0 0 k),(4,.int .i64 (dp:Int)),(5,.int .i64 (k:Int))],[(0,⟨(ndL os),0,false,0,5,true⟩)],.dead,[]⟩ (.exit 0) ⟨[(3,.ref 0 0 0 k),(4,.int .i64 (dp:Int))],[(0,⟨(ndL os),0,false,0,5,true⟩)],.dead,[]⟩:=pN 11 [] 2 0 (.k 1 h0 .nil) (.nil) hn
theorem aDm {k n:Nat} (h:n≤k):decide ((k:Int)<(n:Int))=false:=decide_eq_false (by omega)
def apN (os:List Nd) (k:Nat):AV:=match os with| []=> .nilS|_::_=> .ref 0 0 0 k
def hpN (os:List Nd):Hp:=match os with| []=> []|a::r=> [(0,⟨ndL (a::r),0,false,0,5,true⟩)]
def aU4 (xs:List Int) (nn:Bool) (p:Nat × List Nd × Nat):St:=⟨[(0,.sl (iL xs) xs.length nn),(3,apN p.2.1 p.1),(4,.int .i64 (p.2.2:Int)),(5,.int .i64 (p.1:Int))],hpN p.2.1,.dead,[]⟩
def a0d (p:Nat × List Nd × Nat):St:=⟨[(3,apN p.2.1 p.1),(4,.int .i64 (p.2.2:Int))],hpN p.2.1,.dead,[]⟩
structure MkI (os:List Nd) (dp:Nat):Prop where
 sm:∀ x ∈ os,x.sm
 ck:au0 os 0= .inl dp
theorem aIe {y:Nd} (hw:al1 y=0):∀ (os:List Nd) (d e:Nat),au0 os d= .inl e→arI y.op≤e→au0 (os++ [y]) d= .inl (e - arI y.op+1)
 | [],d,e,h,ha=>by
  simp only [au0,Sum.inl.injEq] at h
  subst h
  simp only [List.nil_append,au0,if_pos hw]
  rw [if_neg (by omega)]
 | x::r,d,e,h,ha=>by
  simp only [List.cons_append,au0] at h ⊢
  split at h
  ·rename_i hx
   rw [if_pos hx]
   split at h
   ·cases h
   ·rename_i hd
    rw [if_neg hd]
    exact aIe hw r _ e h ha
  ·cases h
theorem aEO:∀ (os:List Nd) (d e:Nat),au0 os d= .inl e→e≤d+os.length∧(os ≠ []→1≤e)
 | [],d,e,h=>by
  simp only [au0,Sum.inl.injEq] at h
  subst h
  exact ⟨by simp,by simp⟩
 | x::r,d,e,h=>by
  simp only [au0] at h
  split at h
  ·split at h
   ·cases h
   ·obtain ⟨h1,h2⟩:=aEO r _ e h
    refine ⟨by simp only [List.length_cons];omega,fun _=> ?_⟩
    cases r with
    |nil=>simp only [au0,Sum.inl.injEq] at h;omega
    |cons _ _=>exact h2 (by simp)
  ·cases h
theorem MkI.snoc {os:List Nd} {dp:Nat} (h:MkI os dp) {y:Nd} (hs:y.sm) (hw:al1 y=0) (ha:arI y.op≤dp):MkI (os++ [y]) (dp - arI y.op+1):=by
 refine ⟨fun x hx=> ?_,aIe hw os 0 dp h.ck ha⟩
 rcases List.mem_append.1 hx with hx|hx
 ·exact h.sm x hx
 ·rw [List.mem_singleton] at hx;subst hx;exact hs
theorem aAI {os:List Nd} {k:Nat} (h:os.length=k) (y:Nd):List.take (k*5) (ndL os)++ [AV.int .i64 y.op,.bool y.neg,.str y.num,.str y.den,.str y.name]=ndL (os++ [y]):=by
 rw [List.take_of_length_le (by rw [av6];omega),aB9]
 rfl
theorem aOW (xs:List Int) (nn:Bool) (os:List Nd) (k dp:Nat) (hI:MkI os dp) (hk:os.length=k) (h30:k<30) (hkl:k<xs.length):
  ∃ (y:Nd) (dp':Nat),MkI (os++ [y]) dp'∧∀ nt,85≤nt→adY prog ap [] nt (lT 0 (adW f11)) (aU4 xs nn (k,os,dp)) .normal (aU4 xs nn (k+1,os++ [y],dp')):=by
 obtain ⟨hdl,_⟩:=aEO os 0 dp hI.ck
 have hdp:dp<2^62:=by omega
 have hx:=aRh hkl
 generalize xs.getD k 0=x at hx
 have c29:=au5 x 24 (by omega) (by omega)
 have h24:anM x 24<24:=au8 (by omega)
 have c30:=aQB ((1+anM x 24:Nat):Int)
 have c32:=aLk ((1+anM x 24:Nat):Int)
 have c34:=aSE ((1+anM x 24:Nat):Int)
 obtain ⟨y,hys,hyw,hya,cy⟩:=aRv (IntKind.wrap .i64 (Int.tdiv x ((24:Nat):Int)))
 have hleaf:MkI (os++ [y]) (dp+1):=by
  have:=hI.snoc hys hyw (by omega)
  rwa [hya,Nat.sub_zero] at this
 by_cases e0:arI ((1+anM x 24:Nat):Int)=0
 ·refine ⟨y,dp+1,hleaf,fun nt hn=> ?_⟩
  cases os with
  |nil=>
   simp only [List.length_nil] at hk
   subst hk
   exact a0n hn xs nn 0 dp (anM x 24) (arI ((1+anM x 24:Nat):Int)) y x _ (by omega) hdp (by omega) hx (aeF (aF5 e0)) (nnW 0) (avS hkl) (aeF (avS h30)) (aeF (avS hkl)) c29 c30 cy
  |cons a r=>
   have h:=aAI hk y
   have h2:=a0g hn xs nn k dp (anM x 24) (arI ((1+anM x 24:Nat):Int)) y x _ (a::r) (by omega) hdp (by omega) hx (Nat.ble_eq_true_of_le (by omega)) (Nat.ble_eq_true_of_le (by rw [av6];omega)) (aeF (aF5 e0)) (nnW k) (avS hkl) (aeF (avS h30)) (aeF (avS hkl)) c29 c30 cy
   rw [h] at h2
   exact h2
 ·by_cases e1:dp<arI ((1+anM x 24:Nat):Int)
  ·refine ⟨y,dp+1,hleaf,fun nt hn=> ?_⟩
   cases os with
   |nil=>
    simp only [List.length_nil] at hk
    subst hk
    exact a0o hn xs nn 0 dp (anM x 24) (arI ((1+anM x 24:Nat):Int)) y x _ (by omega) hdp (by omega) hx (aeF (avS e1)) (akx (ayy e0)) (nnW 0) (avS hkl) (aeF (avS h30)) (aeF (avS hkl)) c29 c30 cy
   |cons a r=>
    have h:=aAI hk y
    have h2:=a0h hn xs nn k dp (anM x 24) (arI ((1+anM x 24:Nat):Int)) y x _ (a::r) (by omega) hdp (by omega) hx (Nat.ble_eq_true_of_le (by omega)) (Nat.ble_eq_true_of_le (by rw [av6];omega)) (aeF (avS e1)) (akx (ayy e0)) (nnW k) (avS hkl) (aeF (avS h30)) (aeF (avS hkl)) c29 c30 cy
    rw [h] at h2
    exact h2
  ·have e1:arI ((1+anM x 24:Nat):Int)≤dp:=by omega
   cases os with
   |nil=>
    exfalso
    have:=hI.ck
    simp only [au0,Sum.inl.injEq] at this
    omega
   | cons a r=>
    have hk:=hk
    rcases tf (axF ((1+anM x 24:Nat):Int)) with e2|e2
    ·have cp:=aHD (IntKind.wrap .i64 (Int.tdiv x ((24:Nat):Int)))
     have hp:=aGB (anM (IntKind.wrap .i64 (Int.tdiv x ((24:Nat):Int))) 6) (au8 (by omega))
     generalize aIP (anM (IntKind.wrap .i64 (Int.tdiv x ((24:Nat):Int))) 6)=nm at*
     have e2':=of_decide_eq_true e2
     have e3:azk ((1+anM x 24:Nat):Int)=false:=decide_eq_false (by omega)
     refine ⟨⟨((1+anM x 24:Nat):Int),false,[],[],nm⟩,_,hI.snoc ⟨by simp,by simp⟩ (aFx (by omega) hp) e1,fun nt hn=> ?_⟩
     have h:=aAI hk ⟨((1+anM x 24:Nat):Int),false,[],[],nm⟩
     have h2:=a0i hn xs nn k dp (anM x 24) (arI ((1+anM x 24:Nat):Int)) (axF ((1+anM x 24:Nat):Int)) (azk ((1+anM x 24:Nat):Int)) nm x _ (a::r) (by omega) hdp (by omega) (by omega) hx (Nat.ble_eq_true_of_le (by omega)) (Nat.ble_eq_true_of_le (by rw [av6];omega)) (akx e3) (aeF e2) (akx (aDm e1)) (akx (ayy e0)) (nnW k) (avS hkl) (aeF (avS h30)) (aeF (avS hkl)) c29 c30 c32 cp c34
     rw [h] at h2
     exact h2
    ·rcases tf (azk ((1+anM x 24:Nat):Int)) with e3|e3
     ·obtain ⟨w,w1,w2,w3,w4,w5,cw⟩:=aPK (IntKind.wrap .i64 (Int.tdiv x ((24:Nat):Int))) (IntKind.wrap .i64 (Int.tdiv x ((48:Nat):Int)))
      have e3':=of_decide_eq_true e3
      refine ⟨⟨((1+anM x 24:Nat):Int),w.neg,adF w.n,adF w.d,[]⟩,_,hI.snoc ⟨auf w4,auf w5⟩ (aKQ (by omega) w1 w2 w3 w4 w5) e1,fun nt hn=> ?_⟩
      have h:=aAI hk ⟨((1+anM x 24:Nat):Int),w.neg,adF w.n,adF w.d,[]⟩
      have h2:=a0j hn xs nn k dp (anM x 24) (arI ((1+anM x 24:Nat):Int)) (axF ((1+anM x 24:Nat):Int)) (azk ((1+anM x 24:Nat):Int)) w x _ (a::r) (by omega) hdp (by omega) (by omega) hx (Nat.ble_eq_true_of_le (by omega)) (Nat.ble_eq_true_of_le (by rw [av6];omega)) (aeF e3) (akx e2) (akx (aDm e1)) (akx (ayy e0)) (nnW k) (avS hkl) (aeF (avS h30)) (aeF (avS hkl)) c29 c30 c32 c34 cw
      rw [h] at h2
      exact h2
     ·have e2':=of_decide_eq_false e2
      have e3':=of_decide_eq_false e3
      have hop:9≤((1+anM x 24:Nat):Int)∧((1+anM x 24:Nat):Int)≤20:=by
       have:¬ ((1+anM x 24:Nat):Int)<9:=by
        intro hlt
        apply e0
        unfold arI
        rw [if_neg (by omega),if_neg (by omega),if_neg (by omega)]
       omega
      refine ⟨⟨((1+anM x 24:Nat):Int),false,[],[],[]⟩,_,hI.snoc ⟨by simp,by simp⟩ (aJk hop) e1,fun nt hn=> ?_⟩
      have h:=aAI hk ⟨((1+anM x 24:Nat):Int),false,[],[],[]⟩
      have h2:=a0k hn xs nn k dp (anM x 24) (arI ((1+anM x 24:Nat):Int)) (axF ((1+anM x 24:Nat):Int)) (azk ((1+anM x 24:Nat):Int)) x _ (a::r) (by omega) hdp (by omega) (by omega) hx (Nat.ble_eq_true_of_le (by omega)) (Nat.ble_eq_true_of_le (by rw [av6];omega)) (akx e3) (akx e2) (akx (aDm e1)) (akx (ayy e0)) (nnW k) (avS hkl) (aeF (avS h30)) (aeF (avS hkl)) c29 c30 c32 c34
      rw [h] at h2
      exact h2
theorem aRO (xs:List Int) (nn:Bool):∀ (d k:Nat) (os:List Nd) (dp:Nat),k+d=min xs.length 30→os.length=k→MkI os dp→
  ∃ (os':List Nd) (dp':Nat),MkI os' dp'∧os'.length=min xs.length 30∧∀ nt,85≤nt→aea prog ap [] nt (lT 0 (adW f11)) (fun _=> .exit 0) (aU4 xs nn) a0d (k,os,dp) (os'.length,os',dp'):=by
 intro d
 induction d with
 | zero=>
  intro k os dp hd hk hI
  refine ⟨os,dp,hI,by omega,fun nt hn=> ?_⟩
  rw [hk]
  refine .done ?_
  obtain ⟨hdl,_⟩:=aEO os 0 dp hI.ck
  have hdp:dp<2^62:=by omega
  by_cases hkl:xs.length≤k
  ·cases os with
   |nil=>exact a0p hn xs nn k dp (akx (aDm hkl))
   |cons a r=>exact a0m hn xs nn k dp (a::r) (akx (aDm hkl))
  ·have h30:30≤k:=by omega
   have hkl:k<xs.length:=by omega
   cases os with
   |nil=>simp only [List.length_nil] at hk;omega
   |cons a r=>exact a0l hn xs nn k dp (a::r) (akx (aDm h30)) (aeF (avS hkl))
 |succ d ih=>
  intro k os dp hd hk hI
  obtain ⟨y,dp1,h1,h2⟩:=aOW xs nn os k dp hI hk (by omega) (by omega)
  obtain ⟨os',dp',h3,h4,h5⟩:=ih (k+1) (os++ [y]) dp1 (by omega) (by simp [hk]) h1
  exact ⟨os',dp',h3,h4,fun nt hn=> .next (h2 nt hn) (h5 nt hn)⟩
theorem a3h {nt:Nat} (hn:85≤nt) (k dp:Nat) (os:List Nd) (hdp:dp<2^62) (h1d:1≤dp) (h0:(Nat.ble (k+1) 1099511627776)=true) (h1:(Nat.ble (k*5) (List.length (ndL os)))=true) (h2:lit true (decide (((1:Nat):Int)<(dp:Int)))=true):adY prog ap [] nt (lT 2 (adW f11)) ⟨[(3,.ref 0 0 0 k),(4,.int .i64 (dp:Int))],[(0,⟨(ndL os),0,false,0,5,true⟩)],.dead,[]⟩ (.normal) ⟨[(3,.ref 0 0 0 (k+1)),(4,.int .i64 (((dp - 1):Nat):Int))],[(0,⟨((List.take (k*5) (ndL os))++ [.int .i64 9,.bool false,.str [],.str [],.str []]),0,false,0,5,true⟩)],.dead,[]⟩:=pN 11 [] 1 1 (.k 1 h0 (.c h1 (.k 1 h2 .nil))) (.v 83 (.eq (wms h1d hdp)) .nil) hn
theorem a3i {nt:Nat} (hn:85≤nt) (k dp:Nat) (os:List Nd) (h0:lit false (decide (((1:Nat):Int)<(dp:Int)))=true):adY prog ap [] nt (lT 2 (adW f11)) ⟨[(3,.ref 0 0 0 k),(4,.int .i64 (dp:Int))],[(0,⟨(ndL os),0,false,0,5,true⟩)],.dead,[]⟩ (.exit 2) ⟨[(3,.ref 0 0 0 k)],[(0,⟨(ndL os),0,false,0,5,true⟩)],.dead,[]⟩:=pN 11 [] 1 0 (.c h0 .nil) (.nil) hn
theorem a0c (xs:List Int) (nn:Bool) (l0:ajS prog ap [] 85 (.block 0 (.loop (lT 0 (adW f11)))) ⟨[(0,.sl (iL xs) xs.length nn),(2,.nilS),(3,.nilS),(4,.int .i64 0),(5,.int .i64 0),(6,.dead),(7,.dead),(8,.dead),(9,.dead),(17,.dead),(35,.dead),(47,.dead),(53,.dead),(70,.dead),(77,.dead)],[],.dead,[]⟩ (.normal) ⟨[(3,.nilS),(4,.int .i64 0)],[],.dead,[]⟩) (c0:CO 36 [.int .i64 1] (.ret (.agg [.bool false,.str (adF 1),.str (adF 1)]))):CO 11 [.sl (iL xs) xs.length nn] (.ret (.own [.int .i64 3,.bool false,.str (adF 1),.str (adF 1),.str []] 1 5)):=pK [0] 3 1 (.n 5 .nil) (.c c0 (.l l0 .nil))
theorem a0b (xs:List Int) (nn:Bool) (k dp k2:Nat) (os es:List Nd) (h0:((dp:Int)==((0:Nat):Int))=false) (l0:ajS prog ap [] 85 (.block 0 (.loop (lT 0 (adW f11)))) ⟨[(0,.sl (iL xs) xs.length nn),(2,.nilS),(3,.nilS),(4,.int .i64 0),(5,.int .i64 0),(6,.dead),(7,.dead),(8,.dead),(9,.dead),(17,.dead),(35,.dead),(47,.dead),(53,.dead),(70,.dead),(77,.dead)],[],.dead,[]⟩ (.normal) ⟨[(3,.ref 0 0 0 k),(4,.int .i64 (dp:Int))],[(0,⟨(ndL os),0,false,0,5,true⟩)],.dead,[]⟩) (l1:ajS prog ap [] 85 (.block 2 (.loop (lT 2 (adW f11)))) ⟨[(0,.dead),(2,.dead),(3,.ref 0 0 0 k),(4,.int .i64 (dp:Int)),(5,.dead),(6,.dead),(7,.dead),(8,.dead),(9,.dead),(17,.dead),(35,.dead),(47,.dead),(53,.dead),(70,.bool ((dp:Int)==((0:Nat):Int))),(77,.dead)],[(0,⟨(ndL os),0,false,0,5,true⟩)],.dead,[]⟩ (.normal) ⟨[(3,.ref 0 0 0 k2)],[(0,⟨(ndL es),0,false,0,5,true⟩)],.dead,[]⟩):CO 11 [.sl (iL xs) xs.length nn] (.ret (.own (List.take (k2*5) (ndL es)) k2 5)):=pK [0,2] 1 0 (.c (akx h0) .nil) (.l l1 (.l l0 .nil))
def a3g (p:Nat × List Nd × Nat):St:=⟨[(3,.ref 0 0 0 p.1),(4,.int .i64 (p.2.2:Int))],[(0,⟨ndL p.2.1,0,false,0,5,true⟩)],.dead,[]⟩
def aWM (p:Nat × List Nd):St:=⟨[(3,.ref 0 0 0 p.1)],[(0,⟨ndL p.2,0,false,0,5,true⟩)],.dead,[]⟩
def ax4:Nd:=⟨9,false,[],[],[]⟩
theorem aQn {nt:Nat} (hn:85≤nt):∀ (j k:Nat) (os:List Nd),os.length=k→k+j<2^40→
  aea prog ap [] nt (lT 2 (adW f11)) (fun _=> .exit 2) a3g aWM (k,os,j+1) (k+j,os++List.replicate j ax4):=by
 intro j
 induction j with
 |zero=>
  intro k os hk hj
  rw [List.replicate_zero,List.append_nil]
  exact .done (a3i hn k 1 os (akx (aDm (Nat.le_refl 1))))
 |succ j ih=>
  intro k os hk hj
  have h:=ih (k+1) (os++ [ax4]) (by simp [hk]) (by omega)
  rw [show k+1+j=k+(j+1) by omega,List.append_assoc,show [ax4]++List.replicate j ax4=List.replicate (j+1) ax4 from rfl] at h
  refine .next ?_ h
  have h2:=a3h hn k (j+1+1) os (by omega) (by omega) (Nat.ble_eq_true_of_le (by omega)) (Nat.ble_eq_true_of_le (by rw [av6];omega)) (aeF (avS (by omega)))
  rw [show List.take (k*5) (ndL os)++ [AV.int .i64 9,.bool false,.str [],.str [],.str []]=ndL (os++ [ax4]) from aAI hk ax4,show j+1+1 - 1=j+1 from rfl] at h2
  exact h2
theorem MkI.adds:∀ (j:Nat),∀ {os:List Nd},MkI os (j+1)→MkI (os++List.replicate j ax4) 1
 |0,os,h=>by rw [List.replicate_zero,List.append_nil];exact h
 |j+1,os,h=>by
  have h1:=h.snoc (y:=ax4) ⟨by simp [ax4],by simp [ax4]⟩ (aJk ⟨by decide,by decide⟩) (by show 2≤_;omega)
  have h2:=MkI.adds j h1
  rw [List.append_assoc] at h2
  exact h2
def ifN (e:List Nd):Nat:=e.countP (fun x=>x.op==15)
theorem aIw (x:Nd) (r:List Nd):ifN (x::r)=ifN r+(if x.op=15 then 1 else 0):=by
 unfold ifN
 rw [List.countP_cons]
 simp only [beq_iff_eq]
theorem aOu:∀ (r:List Nd) (d e:Nat),au0 r d= .inl e→e+ifN r≤d+r.length
 | [],d,e,h=>by
  simp only [au0,Sum.inl.injEq] at h
  subst h
  simp [ifN]
 | x ::r,d,e,h=>by
  simp only [au0] at h
  split at h
  ·split at h
   ·cases h
   ·have h1:=aOu r _ e h
    rw [aIw,List.length_cons]
    by_cases h5:x.op=15
    ·have:arI x.op=3:=by rw [h5];rfl
     rw [if_pos h5]
     omega
    ·rw [if_neg h5]
     omega
  ·cases h
theorem aMq (xs:List Int) (nn:Bool):∃ e:List Nd,e.length+ifN e≤2*min xs.length 30+1∧e ≠ []∧e.length<60∧aud e=0∧(∀ x ∈ e,x.sm)∧CO 11 [.sl (iL xs) xs.length nn] (.ret (.own (ndL e) e.length 5)):=by
 obtain ⟨os,dp,hI,hl,hL⟩:=aRO xs nn (min xs.length 30) 0 [] 0 (by omega) rfl ⟨by simp,rfl⟩
 obtain ⟨hd,hd1⟩:=aEO os 0 dp hI.ck
 rcases Nat.eq_zero_or_pos os.length with h0|hp
 ·have:os= []:=List.length_eq_zero_iff.1 h0
  subst this
  have hd0:dp=0:=by simpa using hd
  subst hd0
  have h:=a0c xs nn (aea.blk hL (by simp) rfl (anT.of ⟨rfl,rfl,rfl,rfl,trivial⟩) (anT.of ⟨rfl,rfl,trivial⟩)) (aDs 1 (by omega))
  refine ⟨[⟨3,false,adF 1,adF 1,[]⟩],by rw [aIw,if_neg (by decide)];simp [ifN],by simp,by simp, ?_, ?_,h⟩
  ·have hw:al1 ⟨3,false,adF 1,adF 1,[]⟩=0:=aGT (w:=⟨false,1,1⟩) (.inr (.inr rfl)) ⟨by decide,by decide,by simp⟩ (by decide) (by decide)
   unfold aud
   simp only [au0,hw]
   rfl
  ·intro x hx
   rw [List.mem_singleton] at hx
   subst hx
   exact ⟨auf (by decide),auf (by decide)⟩
 ·have hne:os ≠ []:=fun h=>by subst h;simp at hp
  have hd1:=hd1 hne
  obtain ⟨j,rfl⟩:∃ j,dp=j+1:=⟨dp - 1,by omega⟩
  have hA:=MkI.adds j hI
  have hel:(os++List.replicate j ax4).length=os.length+j:=by simp
  have h:=a0b xs nn os.length (j+1) (os.length+j) os (os++List.replicate j ax4) (ayy (by omega))
   (aea.blk hL (by simp) rfl (anT.of ⟨rfl,rfl,rfl,rfl,trivial⟩) (by
    cases os with
    |nil=>exact absurd rfl hne
    |cons a r=>exact anT.of ⟨rfl,rfl,trivial⟩))
   (aea.blk (fun nt hn=>aQn hn j os.length os rfl (by omega)) (by simp) rfl (anT.of ⟨rfl,rfl,trivial⟩) (anT.of ⟨rfl,trivial⟩))
  rw [List.take_of_length_le (by rw [av6,hel];omega)] at h
  refine ⟨os++List.replicate j ax4, ?_,by simp [hne],by rw [hel];omega, ?_,hA.sm,by rw [hel];exact h⟩
  ·have h1:=aOu _ 0 _ hA.ck
   have h2:=aOu _ 0 _ hI.ck
   have h3:ifN (os++List.replicate j ax4)=ifN os:=by
    unfold ifN
    rw [List.countP_append,List.countP_replicate]
    rfl
   rw [hel,h3]
   omega
  unfold aud
  rw [if_neg (by rw [hel];omega),hA.ck]
  rfl
theorem aMr (xs:List Int) (nn:Bool):∃ e:List Nd,e ≠ []∧e.length≤2*min xs.length 30+1∧e.length<60∧aud e=0∧(∀ x ∈ e,x.sm)∧CO 11 [.sl (iL xs) xs.length nn] (.ret (.own (ndL e) e.length 5)):=by
 obtain ⟨e,h1,h2,h3⟩:=aMq xs nn
 exact ⟨e,h2,by omega,h3⟩
def tL (l:List (Int × Int × Int)):List AV:=l.flatMap fun q=> [.int .i64 q.1,.int .i64 q.2.1,.int .i64 q.2.2]
theorem aSH {l:List (Int × Int × Int)} {k:Nat} (h:k<l.length):List.drop (Int.toNat (k:Int)*3) (tL l)= [AV.int .i64 (l.getD k (0,0,0)).1,.int .i64 (l.getD k (0,0,0)).2.1,.int .i64 (l.getD k (0,0,0)).2.2]++tL (l.drop (k+1)):=by
 rw [aeb]
 induction l generalizing k with
 |nil=>simp at h
 | cons x r ih=>
  cases k with
  |zero=>simp [tL]
  |succ k=>
   have h':k<r.length:=by simpa using h
   have:=ih h'
   show List.drop ((k+1)*3) ([AV.int .i64 x.1,.int .i64 x.2.1,.int .i64 x.2.2]++tL r)=_
   rw [show (k+1)*3=3+k*3 by omega,← List.drop_drop,show List.drop 3 ([AV.int .i64 x.1,.int .i64 x.2.1,.int .i64 x.2.2]++tL r)=tL r from rfl,this]
   simp
theorem a1T {nt:Nat} (hn:77≤nt) (ts:List (Int × Int × Int)) (nn:Bool) (k:Nat) (nm:List UInt8) (os bx:List AV) (bn:Nat):adY prog ap [] nt (aAq 9 (adW f12)) ⟨[(0,.sl (tL ts) ts.length nn),(3,.nilS),(4,.int .i64 (k:Int)),(5,.ptr 0 0 0)],[(0,⟨[.str nm,.int .i64 1,.int .i64 0,.sl bx bn false],0,false,0,0,true⟩)],.dead,[]⟩ (.normal) ⟨[(0,.sl (tL ts) ts.length nn),(3,.ref 0 0 0 1),(4,.int .i64 (k:Int))],[(0,⟨[.str nm,.int .i64 1,.int .i64 0,.sl bx bn false],0,false,0,4,true⟩)],.dead,[]⟩:=pN 12 [] 1 0 (.n 7 .nil) (.nil) hn
theorem a1S {nt:Nat} (hn:77≤nt) (ts:List (Int × Int × Int)) (nn:Bool) (k:Nat) (nm:List UInt8) (os bx:List AV) (bn:Nat) (h0:(Nat.ble (k+1) 1099511627776)=true) (h1:(Nat.ble (k*4) (List.length os))=true):adY prog ap [] nt (aAq 9 (adW f12)) ⟨[(0,.sl (tL ts) ts.length nn),(3,.ref 0 0 0 k),(4,.int .i64 (k:Int)),(5,.ptr 1 0 0)],[(0,⟨os,0,false,0,4,true⟩),(1,⟨[.str nm,.int .i64 1,.int .i64 0,.sl bx bn false],0,false,0,0,true⟩)],.dead,[]⟩ (.normal) ⟨[(0,.sl (tL ts) ts.length nn),(3,.ref 0 0 0 (k+1)),(4,.int .i64 (k:Int))],[(0,⟨((List.take (k*4) os)++ [.str nm,.int .i64 1,.int .i64 0,.sl bx bn false]),0,false,0,4,true⟩)],.dead,[]⟩:=pN 12 [] 0 0 (.k 1 h0 (.c h1 (.n 5 .nil))) (.nil) hn
theorem a1Z {nt:Nat} (hn:77≤nt) (ts:List (Int × Int × Int)) (nn:Bool) (k k9:Nat) (w1 w2:RQ) (nm:List UInt8) (q:Int × Int × Int) (rx:List AV) (hk:k<2^62) (hk9:k9<4611686018427387904) (hx:(List.drop ((Int.toNat (k:Int))*3) (tL ts))= [AV.int .i64 q.1,.int .i64 q.2.1,.int .i64 q.2.2]++rx) (h0:(decide (((0:Nat):Int)≤(k:Int)))=true) (h1:(decide ((k:Int)<(ts.length:Int)))=true) (h2:lit true (!((Int.tmod q.2.2 ((3:Nat):Int))==((0:Nat):Int)))=true) (h3:lit true (decide ((k:Int)<((6:Nat):Int)))=true) (h4:lit true (decide ((k:Int)<(ts.length:Int)))=true) (c0:CO 33 [.int .i64 (k:Int)] (.ret (.str nm))) (c1:CO 36 [.int .i64 0] (.ret (.agg [.bool false,.str (adF 0),.str (adF 1)]))) (c2:CO 19 [.agg [.int .i64 q.1,.int .i64 q.2.1,.int .i64 3]] (.ret (.agg [.bool w1.neg,.str (adF w1.n),.str (adF w1.d)]))) (c3:CO 29 [.int .i64 q.2.2,.int .i64 9] (.ret (.int .i64 (k9:Int)))) (c4:CO 36 [.int .i64 (((1+k9):Nat):Int)] (.ret (.agg [.bool false,.str (adF (1+k9)),.str (adF 1)]))) (c5:CO 19 [.agg [.int .i64 q.2.1,.int .i64 q.1,.int .i64 3]] (.ret (.agg [.bool w2.neg,.str (adF w2.n),.str (adF w2.d)]))) (l0:ajS prog ap [] 77 (aAq 9 (adW f12)) ⟨[(0,.sl (tL ts) ts.length nn),(2,.dead),(3,.nilS),(4,.int .i64 (k:Int)),(5,.ptr 0 0 0),(13,.bool (decide ((k:Int)<((6:Nat):Int)))),(45,.bool (!((Int.tmod q.2.2 ((3:Nat):Int))==((0:Nat):Int))))],[(0,⟨[.str nm,.int .i64 1,.int .i64 0,.ref 1 0 0 2],0,false,0,0,false⟩),(1,⟨[.bool false,.str (adF 0),.str (adF 1),.bool w1.neg,.str (adF w1.n),.str (adF w1.d),.bool false,.str (adF (1+k9)),.str (adF 1),.bool w2.neg,.str (adF w2.n),.str (adF w2.d)],0,false,0,6,true⟩)],.dead,[]⟩ (.normal) ⟨[(0,.sl (tL ts) ts.length nn),(3,.ref 0 0 0 1),(4,.int .i64 (k:Int))],[(0,⟨[.str nm,.int .i64 1,.int .i64 0,.sl [.bool false,.str (adF 0),.str (adF 1),.bool w1.neg,.str (adF w1.n),.str (adF w1.d),.bool false,.str (adF (1+k9)),.str (adF 1),.bool w2.neg,.str (adF w2.n),.str (adF w2.d)] 2 false],0,false,0,4,true⟩)],.dead,[]⟩):adY prog ap [] nt (lT 0 (adW f12)) ⟨[(0,.sl (tL ts) ts.length nn),(3,.nilS),(4,.int .i64 (k:Int))],[],.dead,[]⟩ (.normal) ⟨[(0,.sl (tL ts) ts.length nn),(3,.ref 0 0 0 1),(4,.int .i64 (((k+1):Nat):Int))],[(0,⟨[.str nm,.int .i64 1,.int .i64 0,.sl [.bool false,.str (adF 0),.str (adF 1),.bool w1.neg,.str (adF w1.n),.str (adF w1.d),.bool false,.str (adF (1+k9)),.str (adF 1),.bool w2.neg,.str (adF w2.n),.str (adF w2.d)] 2 false],0,false,0,4,true⟩)],.dead,[]⟩:=pN 12 [1009] 4 11 (.k 8 h0 (.c h1 (.k 3 h0 (.c h1 (.k 3 h0 (.c h1 (.k 1 h2 (.k 4 h0 (.c h1 (.k 7 h0 (.c h1 (.k 3 h0 (.c h1 (.k 2 h3 (.c h4 .nil))))))))))))))) (.v 15 (.eq (wp1 hk)) (.l l0 (.c c5 (.v 63 (.ppt hx) (.v 58 (.ppt hx) (.c c4 (.v 54 (.eq (w1p hk9)) (.c c3 (.v 50 (.ppt hx) (.v 41 (.ppt hx) (.c c2 (.v 30 (.ppt hx) (.v 25 (.ppt hx) (.c c1 (.c c0 .nil))))))))))))))) hn
theorem a1_ {nt:Nat} (hn:77≤nt) (ts:List (Int × Int × Int)) (nn:Bool) (k:Nat) (w1:RQ) (nm:List UInt8) (q:Int × Int × Int) (rx:List AV) (hk:k<2^62) (hx:(List.drop ((Int.toNat (k:Int))*3) (tL ts))= [AV.int .i64 q.1,.int .i64 q.2.1,.int .i64 q.2.2]++rx) (h0:lit false (!((Int.tmod q.2.2 ((3:Nat):Int))==((0:Nat):Int)))=true) (h1:(decide (((0:Nat):Int)≤(k:Int)))=true) (h2:(decide ((k:Int)<(ts.length:Int)))=true) (h3:lit true (decide ((k:Int)<((6:Nat):Int)))=true) (h4:lit true (decide ((k:Int)<(ts.length:Int)))=true) (c0:CO 33 [.int .i64 (k:Int)] (.ret (.str nm))) (c1:CO 36 [.int .i64 0] (.ret (.agg [.bool false,.str (adF 0),.str (adF 1)]))) (c2:CO 19 [.agg [.int .i64 q.1,.int .i64 q.2.1,.int .i64 3]] (.ret (.agg [.bool w1.neg,.str (adF w1.n),.str (adF w1.d)]))) (l0:ajS prog ap [] 77 (aAq 9 (adW f12)) ⟨[(0,.sl (tL ts) ts.length nn),(2,.dead),(3,.nilS),(4,.int .i64 (k:Int)),(5,.ptr 0 0 0),(13,.bool (decide ((k:Int)<((6:Nat):Int)))),(45,.bool (!((Int.tmod q.2.2 ((3:Nat):Int))==((0:Nat):Int))))],[(0,⟨[.str nm,.int .i64 1,.int .i64 0,.ref 1 0 0 1],0,false,0,0,false⟩),(1,⟨[.bool false,.str (adF 0),.str (adF 1),.bool w1.neg,.str (adF w1.n),.str (adF w1.d)],0,false,0,6,true⟩)],.dead,[]⟩ (.normal) ⟨[(0,.sl (tL ts) ts.length nn),(3,.ref 0 0 0 1),(4,.int .i64 (k:Int))],[(0,⟨[.str nm,.int .i64 1,.int .i64 0,.sl [.bool false,.str (adF 0),.str (adF 1),.bool w1.neg,.str (adF w1.n),.str (adF w1.d)] 1 false],0,false,0,4,true⟩)],.dead,[]⟩):adY prog ap [] nt (lT 0 (adW f12)) ⟨[(0,.sl (tL ts) ts.length nn),(3,.nilS),(4,.int .i64 (k:Int))],[],.dead,[]⟩ (.normal) ⟨[(0,.sl (tL ts) ts.length nn),(3,.ref 0 0 0 1),(4,.int .i64 (((k+1):Nat):Int))],[(0,⟨[.str nm,.int .i64 1,.int .i64 0,.sl [.bool false,.str (adF 0),.str (adF 1),.bool w1.neg,.str (adF w1.n),.str (adF w1.d)] 1 false],0,false,0,4,true⟩)],.dead,[]⟩:=pN 12 [1009] 4 3 (.c h0 (.k 4 h1 (.c h2 (.k 7 h1 (.c h2 (.k 3 h1 (.c h2 (.k 2 h3 (.c h4 .nil))))))))) (.v 15 (.eq (wp1 hk)) (.l l0 (.v 41 (.ppt hx) (.c c2 (.v 30 (.ppt hx) (.v 25 (.ppt hx) (.c c1 (.c c0 .nil)))))))) hn
theorem a2a {nt:Nat} (hn:77≤nt) (ts:List (Int × Int × Int)) (nn:Bool) (k:Nat) (h0:lit false (decide ((k:Int)<(ts.length:Int)))=true):adY prog ap [] nt (lT 0 (adW f12)) ⟨[(0,.sl (tL ts) ts.length nn),(3,.nilS),(4,.int .i64 (k:Int))],[],.dead,[]⟩ (.exit 0) ⟨[(3,.nilS)],[],.dead,[]⟩:=pN 12 [1009] 2 0 (.k 1 h0 .nil) (.nil) hn
theorem a1U {nt:Nat} (hn:77≤nt) (ts:List (Int × Int × Int)) (nn:Bool) (k k9:Nat) (w1 w2:RQ) (nm:List UInt8) (q:Int × Int × Int) (rx:List AV) (os:List AV) (hk:k<2^62) (hk9:k9<4611686018427387904) (hx:(List.drop ((Int.toNat (k:Int))*3) (tL ts))= [AV.int .i64 q.1,.int .i64 q.2.1,.int .i64 q.2.2]++rx) (h0:(decide (((0:Nat):Int)≤(k:Int)))=true) (h1:(decide ((k:Int)<(ts.length:Int)))=true) (h2:lit true (!((Int.tmod q.2.2 ((3:Nat):Int))==((0:Nat):Int)))=true) (h3:lit true (decide ((k:Int)<((6:Nat):Int)))=true) (h4:lit true (decide ((k:Int)<(ts.length:Int)))=true) (c0:CO 33 [.int .i64 (k:Int)] (.ret (.str nm))) (c1:CO 36 [.int .i64 0] (.ret (.agg [.bool false,.str (adF 0),.str (adF 1)]))) (c2:CO 19 [.agg [.int .i64 q.1,.int .i64 q.2.1,.int .i64 3]] (.ret (.agg [.bool w1.neg,.str (adF w1.n),.str (adF w1.d)]))) (c3:CO 29 [.int .i64 q.2.2,.int .i64 9] (.ret (.int .i64 (k9:Int)))) (c4:CO 36 [.int .i64 (((1+k9):Nat):Int)] (.ret (.agg [.bool false,.str (adF (1+k9)),.str (adF 1)]))) (c5:CO 19 [.agg [.int .i64 q.2.1,.int .i64 q.1,.int .i64 3]] (.ret (.agg [.bool w2.neg,.str (adF w2.n),.str (adF w2.d)]))) (l0:ajS prog ap [] 77 (aAq 9 (adW f12)) ⟨[(0,.sl (tL ts) ts.length nn),(2,.dead),(3,.ref 0 0 0 k),(4,.int .i64 (k:Int)),(5,.ptr 1 0 0),(13,.bool (decide ((k:Int)<((6:Nat):Int)))),(45,.bool (!((Int.tmod q.2.2 ((3:Nat):Int))==((0:Nat):Int))))],[(0,⟨os,0,false,0,4,true⟩),(1,⟨[.str nm,.int .i64 1,.int .i64 0,.ref 2 0 0 2],0,false,0,0,false⟩),(2,⟨[.bool false,.str (adF 0),.str (adF 1),.bool w1.neg,.str (adF w1.n),.str (adF w1.d),.bool false,.str (adF (1+k9)),.str (adF 1),.bool w2.neg,.str (adF w2.n),.str (adF w2.d)],0,false,0,6,true⟩)],.dead,[]⟩ (.normal) ⟨[(0,.sl (tL ts) ts.length nn),(3,.ref 0 0 0 (k+1)),(4,.int .i64 (k:Int))],[(0,⟨((List.take (k*4) os)++ [.str nm,.int .i64 1,.int .i64 0,.sl [.bool false,.str (adF 0),.str (adF 1),.bool w1.neg,.str (adF w1.n),.str (adF w1.d),.bool false,.str (adF (1+k9)),.str (adF 1),.bool w2.neg,.str (adF w2.n),.str (adF w2.d)] 2 false]),0,false,0,4,true⟩)],.dead,[]⟩):adY prog ap [] nt (lT 0 (adW f12)) ⟨[(0,.sl (tL ts) ts.length nn),(3,.ref 0 0 0 k),(4,.int .i64 (k:Int))],[(0,⟨os,0,false,0,4,true⟩)],.dead,[]⟩ (.normal) ⟨[(0,.sl (tL ts) ts.length nn),(3,.ref 0 0 0 (k+1)),(4,.int .i64 (((k+1):Nat):Int))],[(0,⟨((List.take (k*4) os)++ [.str nm,.int .i64 1,.int .i64 0,.sl [.bool false,.str (adF 0),.str (adF 1),.bool w1.neg,.str (adF w1.n),.str (adF w1.d),.bool false,.str (adF (1+k9)),.str (adF 1),.bool w2.neg,.str (adF w2.n),.str (adF w2.d)] 2 false]),0,false,0,4,true⟩)],.dead,[]⟩:=pN 12 [1009] 4 11 (.k 8 h0 (.c h1 (.k 3 h0 (.c h1 (.k 3 h0 (.c h1 (.k 1 h2 (.k 4 h0 (.c h1 (.k 7 h0 (.c h1 (.k 3 h0 (.c h1 (.k 2 h3 (.c h4 .nil))))))))))))))) (.v 15 (.eq (wp1 hk)) (.l l0 (.c c5 (.v 63 (.ppt hx) (.v 58 (.ppt hx) (.c c4 (.v 54 (.eq (w1p hk9)) (.c c3 (.v 50 (.ppt hx) (.v 41 (.ppt hx) (.c c2 (.v 30 (.ppt hx) (.v 25 (.ppt hx) (.c c1 (.c c0 .nil))))))))))))))) hn
theorem a1V {nt:Nat} (hn:77≤nt) (ts:List (Int × Int × Int)) (nn:Bool) (k:Nat) (w1:RQ) (nm:List UInt8) (q:Int × Int × Int) (rx:List AV) (os:List AV) (hk:k<2^62) (hx:(List.drop ((Int.toNat (k:Int))*3) (tL ts))= [AV.int .i64 q.1,.int .i64 q.2.1,.int .i64 q.2.2]++rx) (h0:lit false (!((Int.tmod q.2.2 ((3:Nat):Int))==((0:Nat):Int)))=true) (h1:(decide (((0:Nat):Int)≤(k:Int)))=true) (h2:(decide ((k:Int)<(ts.length:Int)))=true) (h3:lit true (decide ((k:Int)<((6:Nat):Int)))=true) (h4:lit true (decide ((k:Int)<(ts.length:Int)))=true) (c0:CO 33 [.int .i64 (k:Int)] (.ret (.str nm))) (c1:CO 36 [.int .i64 0] (.ret (.agg [.bool false,.str (adF 0),.str (adF 1)]))) (c2:CO 19 [.agg [.int .i64 q.1,.int .i64 q.2.1,.int .i64 3]] (.ret (.agg [.bool w1.neg,.str (adF w1.n),.str (adF w1.d)]))) (l0:ajS prog ap [] 77 (aAq 9 (adW f12)) ⟨[(0,.sl (tL ts) ts.length nn),(2,.dead),(3,.ref 0 0 0 k),(4,.int .i64 (k:Int)),(5,.ptr 1 0 0),(13,.bool (decide ((k:Int)<((6:Nat):Int)))),(45,.bool (!((Int.tmod q.2.2 ((3:Nat):Int))==((0:Nat):Int))))],[(0,⟨os,0,false,0,4,true⟩),(1,⟨[.str nm,.int .i64 1,.int .i64 0,.ref 2 0 0 1],0,false,0,0,false⟩),(2,⟨[.bool false,.str (adF 0),.str (adF 1),.bool w1.neg,.str (adF w1.n),.str (adF w1.d)],0,false,0,6,true⟩)],.dead,[]⟩ (.normal) ⟨[(0,.sl (tL ts) ts.length nn),(3,.ref 0 0 0 (k+1)),(4,.int .i64 (k:Int))],[(0,⟨((List.take (k*4) os)++ [.str nm,.int .i64 1,.int .i64 0,.sl [.bool false,.str (adF 0),.str (adF 1),.bool w1.neg,.str (adF w1.n),.str (adF w1.d)] 1 false]),0,false,0,4,true⟩)],.dead,[]⟩):adY prog ap [] nt (lT 0 (adW f12)) ⟨[(0,.sl (tL ts) ts.length nn),(3,.ref 0 0 0 k),(4,.int .i64 (k:Int))],[(0,⟨os,0,false,0,4,true⟩)],.dead,[]⟩ (.normal) ⟨[(0,.sl (tL ts) ts.length nn),(3,.ref 0 0 0 (k+1)),(4,.int .i64 (((k+1):Nat):Int))],[(0,⟨((List.take (k*4) os)++ [.str nm,.int .i64 1,.int .i64 0,.sl [.bool false,.str (adF 0),.str (adF 1),.bool w1.neg,.str (adF w1.n),.str (adF w1.d)] 1 false]),0,false,0,4,true⟩)],.dead,[]⟩:=pN 12 [1009] 4 3 (.c h0 (.k 4 h1 (.c h2 (.k 7 h1 (.c h2 (.k 3 h1 (.c h2 (.k 2 h3 (.c h4 .nil))))))))) (.v 15 (.eq (wp1 hk)) (.l l0 (.v 41 (.ppt hx) (.c c2 (.v 30 (.ppt hx) (.v 25 (.ppt hx) (.c c1 (.c c0 .nil)))))))) hn
theorem a1W {nt:Nat} (hn:77≤nt) (ts:List (Int × Int × Int)) (nn:Bool) (k:Nat) (os:List AV) (h0:lit false (decide ((k:Int)<((6:Nat):Int)))=true) (h1:lit true (decide ((k:Int)<(ts.length:Int)))=true):adY prog ap [] nt (lT 0 (adW f12)) ⟨[(0,.sl (tL ts) ts.length nn),(3,.ref 0 0 0 k),(4,.int .i64 (k:Int))],[(0,⟨os,0,false,0,4,true⟩)],.dead,[]⟩ (.exit 0) ⟨[(3,.ref 0 0 0 k)],[(0,⟨os,0,false,0,4,true⟩)],.dead,[]⟩:=pN 12 [1009] 2 1 (.c h0 (.c h1 .nil)) (.nil) hn
theorem a1X {nt:Nat} (hn:77≤nt) (ts:List (Int × Int × Int)) (nn:Bool) (k:Nat) (os:List AV) (h0:lit false (decide ((k:Int)<(ts.length:Int)))=true):adY prog ap [] nt (lT 0 (adW f12)) ⟨[(0,.sl (tL ts) ts.length nn),(3,.ref 0 0 0 k),(4,.int .i64 (k:Int))],[(0,⟨os,0,false,0,4,true⟩)],.dead,[]⟩ (.exit 0) ⟨[(3,.ref 0 0 0 k)],[(0,⟨os,0,false,0,4,true⟩)],.dead,[]⟩:=pN 12 [1009] 2 0 (.k 1 h0 .nil) (.nil) hn
def spN (os:List Sq) (k:Nat):AV:=match os with| []=> .nilS|_::_=> .ref 0 0 0 k
def shN (os:List Sq):Hp:=match os with| []=> []|a::r=> [(0,⟨scL ((a::r).map Sq.c),0,false,0,4,true⟩)]
def aV2 (ts:List (Int × Int × Int)) (nn:Bool) (p:Nat × List Sq):St:=⟨[(0,.sl (tL ts) ts.length nn),(3,spN p.2 p.1),(4,.int .i64 (p.1:Int))],shN p.2,.dead,[]⟩
def a2b (p:Nat × List Sq):St:=⟨[(3,spN p.2 p.1)],shN p.2,.dead,[]⟩
theorem a0q:adF 0= []:=avQ
theorem aU9:adF 1= [1]:=nS (s:= [1]) rfl
theorem a9S {n:Nat} (h:1≤n∧n≤9):adF n= [UInt8.ofNat n]:=by
 obtain ⟨h1,h2⟩:=h
 match n,h1,h2 with
 |1,_,_=>exact nS (s:= [1]) rfl
 |2,_,_=>exact nS (s:= [2]) rfl
 |3,_,_=>exact nS (s:= [3]) rfl
 |4,_,_=>exact nS (s:= [4]) rfl
 |5,_,_=>exact nS (s:= [5]) rfl
 |6,_,_=>exact nS (s:= [6]) rfl
 |7,_,_=>exact nS (s:= [7]) rfl
 |8,_,_=>exact nS (s:= [8]) rfl
 |9,_,_=>exact nS (s:= [9]) rfl
theorem aLC {qs:List Sq} {k:Nat} (h:qs.length=k) (q:Sq):List.take (k*4) (scL (qs.map Sq.c))++ [AV.str q.nm,.int .i64 q.u1,.int .i64 q.u2,.sl (brL q.l) q.l.length false]=scL ((qs++ [q]).map Sq.c):=by
 rw [List.take_of_length_le (by rw [ayj,List.length_map];omega),List.map_append]
 unfold scL
 rw [List.flatMap_append]
 rfl
theorem aTB (a b:Int):∃ w:RQ,w.n<2^128∧w.d<2^128∧CO 19 [.agg [.int .i64 a,.int .i64 b,.int .i64 3]] (.ret (.agg [.bool w.neg,.str (adF w.n),.str (adF w.d)])):=by
 have h:=aEI a b 3 (fun h=>absurd h (by decide))
 obtain ⟨b1,b2⟩:=aOT a b 3
 obtain ⟨b3,b4⟩:=aKd (decide (a<((0:Nat):Int))) _ _ b1 b2
 exact ⟨_,b3,b4,h⟩
def aD3 (w:RQ):Br:=⟨false,adF 0,adF 1,w.neg,adF w.n,adF w.d⟩
def aLX (n:Nat) (w:RQ):Br:=⟨false,adF n,adF 1,w.neg,adF w.n,adF w.d⟩
theorem aTf {w:RQ} (h:w.n<2^128) (h':w.d<2^128):(aD3 w).sm:=⟨⟨auf (x:=0) (by decide),auf (x:=1) (by decide)⟩,auf h,auf h'⟩
theorem aWX {n:Nat} (hn:n<2^128) {w:RQ} (h:w.n<2^128) (h':w.d<2^128):(aLX n w).sm:=⟨⟨auf hn,auf (x:=1) (by decide)⟩,auf h,auf h'⟩
theorem a_s (nm:List UInt8) {w:RQ} (h:w.n<2^128) (h':w.d<2^128):SqM ⟨nm,1,0,[aD3 w]⟩:=⟨aD3 w,aTf h h',rfl,a0q,aU9,.inl rfl⟩
theorem a_t (nm:List UInt8) {n:Nat} (hn:1≤n∧n≤9) {w v:RQ} (h:w.n<2^128) (h':w.d<2^128) (k:v.n<2^128) (k':v.d<2^128):SqM ⟨nm,1,0,[aD3 w,aLX n v]⟩:=
 ⟨aD3 w,aTf h h',rfl,a0q,aU9,.inr ⟨aLX n v,n,hn.1,hn.2,aWX (by omega) k k',rfl,a9S hn,aU9,rfl⟩⟩
theorem aPB (ts:List (Int × Int × Int)) (nn:Bool) (qs:List Sq) (k:Nat) (hk:qs.length=k) (h6:k<6) (hkl:k<ts.length) (hM:∀ q ∈ qs,SqM q):
  ∃ q:Sq,SqM q∧∀ nt,77≤nt→adY prog ap [] nt (lT 0 (adW f12)) (aV2 ts nn (k,qs)) .normal (aV2 ts nn (k+1,qs++ [q])):=by
 have hx:=aSH hkl
 generalize ts.getD k (0,0,0)=q at hx
 have cp:=aHD (k:Int)
 generalize aIP (anM (k:Int) 6)=nm at cp
 obtain ⟨w1,a1,a2,cm1⟩:=aTB q.1 q.2.1
 obtain ⟨w2,a3,a4,cm2⟩:=aTB q.2.1 q.1
 have c9:=au5 q.2.2 9 (by omega) (by omega)
 have h9:anM q.2.2 9<9:=au8 (by omega)
 rcases tf (Int.tmod q.2.2 ((3:Nat):Int)==((0:Nat):Int)) with e0|e0
 ·refine ⟨⟨nm,1,0,[aD3 w1]⟩,a_s nm a1 a2,fun nt hn=> ?_⟩
  cases qs with
  |nil=>
   simp only [List.length_nil] at hk
   subst hk
   exact a1_ hn ts nn 0 w1 nm q _ (by omega) hx (anS e0) (nnW 0) (avS hkl) (aeF (avS h6)) (aeF (avS hkl)) cp (aDs 0 (by omega)) cm1 (fun nt hn=>adY.ahead 1 ⟨[.bool false,.str (adF 0),.str (adF 1),.bool w1.neg,.str (adF w1.n),.str (adF w1.d)],0,false,0,6,true⟩ (en':= [(0,.sl (tL ts) ts.length nn),(3,.nilS),(4,.int .i64 ((0:Nat):Int)),(5,.ptr 0 0 0)]) (hp':= [(0,⟨[.str nm,.int .i64 1,.int .i64 0,.sl [.bool false,.str (adF 0),.str (adF 1),.bool w1.neg,.str (adF w1.n),.str (adF w1.d)] 1 false],0,false,0,0,true⟩)]) (a1T hn ts nn 0 nm [] [.bool false,.str (adF 0),.str (adF 1),.bool w1.neg,.str (adF w1.n),.str (adF w1.d)] 1) (Nat.zero_le _) rfl ⟨Fz.same rfl,Fz.same rfl,Fz.same rfl,Fz.same rfl,trivial⟩ ⟨rfl,⟨rfl,rfl,rfl,rfl,.inr ⟨.cons (.same rfl) (.cons (.same rfl) (.cons (.same rfl) (.cons (.fit .ref (anX.sl _ _ _)) .nil))),fun _=>rfl⟩⟩,by decide,rfl⟩)
  |cons a r=>
   generalize hq:a::r=qs at*
   have h:List.take (k*4) (scL (qs.map Sq.c))++ [AV.str nm,.int .i64 1,.int .i64 0,.sl [.bool false,.str (adF 0),.str (adF 1),.bool w1.neg,.str (adF w1.n),.str (adF w1.d)] 1 false]=scL (List.map Sq.c (qs++ [(⟨nm,1,0,[aD3 w1]⟩:Sq)])):=aLC hk ⟨nm,1,0,[aD3 w1]⟩
   have h2:=a1V hn ts nn k w1 nm q _ (scL (qs.map Sq.c)) (by omega) hx (anS e0) (nnW k) (avS hkl) (aeF (avS h6)) (aeF (avS hkl)) cp (aDs 0 (by omega)) cm1 (fun nt hn=>adY.ahead 2 ⟨[.bool false,.str (adF 0),.str (adF 1),.bool w1.neg,.str (adF w1.n),.str (adF w1.d)],0,false,0,6,true⟩ (en':= [(0,.sl (tL ts) ts.length nn),(3,.ref 0 0 0 k),(4,.int .i64 (k:Int)),(5,.ptr 1 0 0)]) (hp':= [(0,⟨scL (qs.map Sq.c),0,false,0,4,true⟩),(1,⟨[.str nm,.int .i64 1,.int .i64 0,.sl [.bool false,.str (adF 0),.str (adF 1),.bool w1.neg,.str (adF w1.n),.str (adF w1.d)] 1 false],0,false,0,0,true⟩)]) (a1S hn ts nn k nm (scL (qs.map Sq.c)) [.bool false,.str (adF 0),.str (adF 1),.bool w1.neg,.str (adF w1.n),.str (adF w1.d)] 1 (Nat.ble_eq_true_of_le (by omega)) (Nat.ble_eq_true_of_le (by rw [ayj,List.length_map];omega))) (Nat.zero_le _) rfl ⟨Fz.same rfl,Fz.same rfl,Fz.same rfl,Fz.same rfl,trivial⟩ ⟨rfl,FzB.same rfl,by decide,rfl,⟨rfl,rfl,rfl,rfl,.inr ⟨.cons (.same rfl) (.cons (.same rfl) (.cons (.same rfl) (.cons (.fit .ref (anX.sl _ _ _)) .nil))),fun _=>rfl⟩⟩,by decide,rfl⟩)
   rw [h] at h2
   subst hq
   exact h2
 ·refine ⟨⟨nm,1,0,[aD3 w1,aLX (1+anM q.2.2 9) w2]⟩,a_t nm (by omega) a1 a2 a3 a4,fun nt hn=> ?_⟩
  cases qs with
  |nil=>
   simp only [List.length_nil] at hk
   subst hk
   exact a1Z hn ts nn 0 (anM q.2.2 9) w1 w2 nm q _ (by omega) (by omega) hx (nnW 0) (avS hkl) (avg e0) (aeF (avS h6)) (aeF (avS hkl)) cp (aDs 0 (by omega)) cm1 c9 (aDs (1+anM q.2.2 9) (by omega)) cm2 (fun nt hn=>adY.ahead 1 ⟨[.bool false,.str (adF 0),.str (adF 1),.bool w1.neg,.str (adF w1.n),.str (adF w1.d),.bool false,.str (adF (1+anM q.2.2 9)),.str (adF 1),.bool w2.neg,.str (adF w2.n),.str (adF w2.d)],0,false,0,6,true⟩ (en':= [(0,.sl (tL ts) ts.length nn),(3,.nilS),(4,.int .i64 ((0:Nat):Int)),(5,.ptr 0 0 0)]) (hp':= [(0,⟨[.str nm,.int .i64 1,.int .i64 0,.sl [.bool false,.str (adF 0),.str (adF 1),.bool w1.neg,.str (adF w1.n),.str (adF w1.d),.bool false,.str (adF (1+anM q.2.2 9)),.str (adF 1),.bool w2.neg,.str (adF w2.n),.str (adF w2.d)] 2 false],0,false,0,0,true⟩)]) (a1T hn ts nn 0 nm [] [.bool false,.str (adF 0),.str (adF 1),.bool w1.neg,.str (adF w1.n),.str (adF w1.d),.bool false,.str (adF (1+anM q.2.2 9)),.str (adF 1),.bool w2.neg,.str (adF w2.n),.str (adF w2.d)] 2) (Nat.zero_le _) rfl ⟨Fz.same rfl,Fz.same rfl,Fz.same rfl,Fz.same rfl,trivial⟩ ⟨rfl,⟨rfl,rfl,rfl,rfl,.inr ⟨.cons (.same rfl) (.cons (.same rfl) (.cons (.same rfl) (.cons (.fit .ref (anX.sl _ _ _)) .nil))),fun _=>rfl⟩⟩,by decide,rfl⟩)
  |cons a r=>
   generalize hq:a::r=qs at*
   have h:List.take (k*4) (scL (qs.map Sq.c))++ [AV.str nm,.int .i64 1,.int .i64 0,.sl [.bool false,.str (adF 0),.str (adF 1),.bool w1.neg,.str (adF w1.n),.str (adF w1.d),.bool false,.str (adF (1+anM q.2.2 9)),.str (adF 1),.bool w2.neg,.str (adF w2.n),.str (adF w2.d)] 2 false]=scL (List.map Sq.c (qs++ [(⟨nm,1,0,[aD3 w1,aLX (1+anM q.2.2 9) w2]⟩:Sq)])):=aLC hk ⟨nm,1,0,[aD3 w1,aLX (1+anM q.2.2 9) w2]⟩
   have h2:=a1U hn ts nn k (anM q.2.2 9) w1 w2 nm q _ (scL (qs.map Sq.c)) (by omega) (by omega) hx (nnW k) (avS hkl) (avg e0) (aeF (avS h6)) (aeF (avS hkl)) cp (aDs 0 (by omega)) cm1 c9 (aDs (1+anM q.2.2 9) (by omega)) cm2 (fun nt hn=>adY.ahead 2 ⟨[.bool false,.str (adF 0),.str (adF 1),.bool w1.neg,.str (adF w1.n),.str (adF w1.d),.bool false,.str (adF (1+anM q.2.2 9)),.str (adF 1),.bool w2.neg,.str (adF w2.n),.str (adF w2.d)],0,false,0,6,true⟩ (en':= [(0,.sl (tL ts) ts.length nn),(3,.ref 0 0 0 k),(4,.int .i64 (k:Int)),(5,.ptr 1 0 0)]) (hp':= [(0,⟨scL (qs.map Sq.c),0,false,0,4,true⟩),(1,⟨[.str nm,.int .i64 1,.int .i64 0,.sl [.bool false,.str (adF 0),.str (adF 1),.bool w1.neg,.str (adF w1.n),.str (adF w1.d),.bool false,.str (adF (1+anM q.2.2 9)),.str (adF 1),.bool w2.neg,.str (adF w2.n),.str (adF w2.d)] 2 false],0,false,0,0,true⟩)]) (a1S hn ts nn k nm (scL (qs.map Sq.c)) [.bool false,.str (adF 0),.str (adF 1),.bool w1.neg,.str (adF w1.n),.str (adF w1.d),.bool false,.str (adF (1+anM q.2.2 9)),.str (adF 1),.bool w2.neg,.str (adF w2.n),.str (adF w2.d)] 2 (Nat.ble_eq_true_of_le (by omega)) (Nat.ble_eq_true_of_le (by rw [ayj,List.length_map];omega))) (Nat.zero_le _) rfl ⟨Fz.same rfl,Fz.same rfl,Fz.same rfl,Fz.same rfl,trivial⟩ ⟨rfl,FzB.same rfl,by decide,rfl,⟨rfl,rfl,rfl,rfl,.inr ⟨.cons (.same rfl) (.cons (.same rfl) (.cons (.same rfl) (.cons (.fit .ref (anX.sl _ _ _)) .nil))),fun _=>rfl⟩⟩,by decide,rfl⟩)
   rw [h] at h2
   subst hq
   exact h2
theorem aSy (ts:List (Int × Int × Int)) (nn:Bool):∀ (d k:Nat) (qs:List Sq),k+d=min ts.length 6→qs.length=k→(∀ q ∈ qs,SqM q)→
  ∃ qs':List Sq,(∀ q ∈ qs',SqM q)∧qs'.length=min ts.length 6∧∀ nt,77≤nt→aea prog ap [] nt (lT 0 (adW f12)) (fun _=> .exit 0) (aV2 ts nn) a2b (k,qs) (qs'.length,qs'):=by
 intro d
 induction d with
 | zero=>
  intro k qs hd hk hM
  refine ⟨qs,hM,by omega,fun nt hn=> ?_⟩
  rw [hk]
  refine .done ?_
  by_cases hkl:ts.length≤k
  ·cases qs with
   |nil=>exact a2a hn ts nn k (akx (aDm hkl))
   |cons a r=>exact a1X hn ts nn k (scL ((a::r).map Sq.c)) (akx (aDm hkl))
  ·have h6:6≤k:=by omega
   have hkl:k<ts.length:=by omega
   cases qs with
   |nil=>simp only [List.length_nil] at hk;omega
   |cons a r=>exact a1W hn ts nn k (scL ((a::r).map Sq.c)) (akx (aDm h6)) (aeF (avS hkl))
 | succ d ih=>
  intro k qs hd hk hM
  obtain ⟨q,h1,h2⟩:=aPB ts nn qs k hk (by omega) (by omega) hM
  obtain ⟨qs',h3,h4,h5⟩:=ih (k+1) (qs++ [q]) (by omega) (by simp [hk]) (fun x hx=>by
   rcases List.mem_append.1 hx with hx|hx
   ·exact hM x hx
   ·rw [List.mem_singleton] at hx;exact hx ▸ h1)
  exact ⟨qs',h3,h4,fun nt hn=> .next (h2 nt hn) (h5 nt hn)⟩
theorem a1G (ts:List (Int × Int × Int)) (nn:Bool) (l0:ajS prog ap [] 77 (.block 0 (.loop (lT 0 (adW f12)))) ⟨[(0,.sl (tL ts) ts.length nn),(2,.nilS),(3,.nilS),(4,.int .i64 0),(5,.dead),(13,.dead),(45,.dead)],[],.dead,[]⟩ (.normal) ⟨[(3,.nilS)],[],.dead,[]⟩):CO 12 [.sl (tL ts) ts.length nn] (.ret (.nilS)):=pK [0] 0 0 .nil (.l l0 .nil)
theorem a1E (ts:List (Int × Int × Int)) (nn:Bool) (k:Nat) (os:List AV) (l0:ajS prog ap [] 77 (.block 0 (.loop (lT 0 (adW f12)))) ⟨[(0,.sl (tL ts) ts.length nn),(2,.nilS),(3,.nilS),(4,.int .i64 0),(5,.dead),(13,.dead),(45,.dead)],[],.dead,[]⟩ (.normal) ⟨[(3,.ref 0 0 0 k)],[(0,⟨os,0,false,0,4,true⟩)],.dead,[]⟩):CO 12 [.sl (tL ts) ts.length nn] (.ret (.own (List.take (k*4) os) k 4)):=pK [0] 0 0 .nil (.l l0 .nil)
theorem aML (ts:List (Int × Int × Int)) (nn:Bool):∃ qs:List Sq,(∀ q ∈ qs,SqM q)∧qs.length≤6∧CO 12 [.sl (tL ts) ts.length nn] (.ret (match qs with| []=> .nilS|_::_=> .own (scL (qs.map Sq.c)) qs.length 4)):=by
 obtain ⟨qs,h1,h2,hL⟩:=aSy ts nn (min ts.length 6) 0 [] (by omega) rfl (by simp)
 refine ⟨qs,h1,by omega, ?_⟩
 cases qs with
 |nil=>exact a1G ts nn (aea.blk hL (by simp) rfl (anT.of ⟨rfl,rfl,rfl,trivial⟩) (anT.of ⟨rfl,trivial⟩))
 |cons a r=>
  have h:=a1E ts nn (a::r).length (scL ((a::r).map Sq.c)) (aea.blk hL (by simp) rfl (anT.of ⟨rfl,rfl,rfl,trivial⟩) (anT.of ⟨rfl,trivial⟩))
  rw [List.take_of_length_le (by rw [ayj,List.length_map];omega)] at h
  exact h
theorem nm0:CO 29 [.int .i64 0,.int .i64 6] (.ret (.int .i64 0)):=cK (.nil)
theorem nm1:CO 33 [.int .i64 0] (.ret (.str [97])):=cK (.c nm0 .nil)
theorem nm2:CO 29 [.int .i64 1,.int .i64 6] (.ret (.int .i64 1)):=cK (.nil)
theorem nm3:CO 33 [.int .i64 1] (.ret (.str [98])):=cK (.c nm2 .nil)
theorem nm4:CO 29 [.int .i64 2,.int .i64 6] (.ret (.int .i64 2)):=cK (.nil)
theorem nm5:CO 33 [.int .i64 2] (.ret (.str [116,97,120])):=cK (.c nm4 .nil)
theorem nm6:CO 29 [.int .i64 3,.int .i64 6] (.ret (.int .i64 3)):=cK (.nil)
theorem nm7:CO 33 [.int .i64 3] (.ret (.str [119,97,103,101])):=cK (.c nm6 .nil)
theorem nm8:CO 29 [.int .i64 4,.int .i64 6] (.ret (.int .i64 4)):=cK (.nil)
theorem nm9:CO 33 [.int .i64 4] (.ret (.str [120,95,49])):=cK (.c nm8 .nil)
theorem a9U:CO 29 [.int .i64 5,.int .i64 6] (.ret (.int .i64 5)):=cK (.nil)
theorem a9V:CO 33 [.int .i64 5] (.ret (.str [97,50,51,52,53,54,55,56,57,48,49,50,51,52,53,54,55,56,57,48])):=cK (.c a9U .nil)
theorem a0s:CO 13 [] (.ret (.own [.str [111,116,104,101,114],.str [97],.str [98],.str [116,97,120],.str [119,97,103,101],.str [120,95,49],.str [97,50,51,52,53,54,55,56,57,48,49,50,51,52,53,54,55,56,57,48]] 7 1)):=cK (.c a9V (.c nm9 (.c nm7 (.c nm5 (.c nm3 (.c nm1 .nil))))))
theorem aPP (e:List Nd):List.take (e.length*5) (ndL e)=ndL e:=List.take_of_length_le (by rw [av6];omega)
theorem a2r (qs:List Sq):List.take (qs.length*4) (scL (qs.map Sq.c))=scL (qs.map Sq.c):=List.take_of_length_le (by rw [ayj,List.length_map];omega)
theorem aJJ:∀ n:Nat,1≤n∧n≤9→CO 129 [.agg [.bool false,.str [],.str [1]],.agg [.bool false,.str [UInt8.ofNat n],.str [1]]] (.ret (.int .i64 (-1))):=fun n h=>aUq n h
def aHK (e:List Nd) (qs:List Sq) (op:Int) (nm:List UInt8):Nat:=ave (ckS axe) (upS axe) e (qs.map Sq.c) op nm
theorem a_O {x:List Value} (h:avx [.int .i64] x):∃ a:Int,x.map ayL= [AV.int .i64 a]:=by
 rcases h with _|@⟨_,a,_,_,h⟩|_|_
 cases h
 exact ⟨a,rfl⟩
theorem a2Q (l:List Int):(l.flatMap fun a=> [AV.int .i64 a])=iL l:=by
 induction l with
 |nil=>rfl
 |cons a r ih=>rw [List.flatMap_cons,ih];rfl
theorem a__ {x:List Value} (h:avx [.int .i64,.int .i64,.int .i64] x):∃ q:Int × Int × Int,x.map ayL= [AV.int .i64 q.1,.int .i64 q.2.1,.int .i64 q.2.2]:=by
 rcases h with _|@⟨_,a,_,_,h⟩|_|_
 rcases h with _|@⟨_,b,_,_,h⟩|_|_
 rcases h with _|@⟨_,c,_,_,h⟩|_|_
 cases h
 exact ⟨(a,b,c),rfl⟩
theorem a9T (a:List Nd):List.take (a.length*5) (ndL a)=ndL a:=List.take_of_length_le (by rw [av6];omega)
def ax_ (nm:List UInt8) (x:Nd):Bool:=(x.op==((6:Nat):Int)) && (x.name==nm)
def awJ (nm:List UInt8) (by_ e:List Nd):List Nd:=e.flatMap fun x=>if ax_ nm x then by_ else [x]
def sbE (b:Nat) (o:List Nd):AV:=match o with| []=> .nilS|z::r=> .ref b 0 0 (z::r).length
def sbH (b:Nat) (o:List Nd):Hp:=match o with| []=> []|z::r=> [(b,⟨ndL (z::r),0,false,0,5,true⟩)]
theorem aKt {b:Nat} {o:List Nd} (h:o ≠ []):sbE b o= .ref b 0 0 o.length:=by cases o with|nil=>exact absurd rfl h|cons _ _=>rfl
theorem aKu {b:Nat} {o:List Nd} (h:o ≠ []):sbH b o= [(b,⟨ndL o,0,false,0,5,true⟩)]:=by cases o with|nil=>exact absurd rfl h|cons _ _=>rfl
def aKv (e by_:List Nd) (nm:List UInt8) (ne nb:Bool) (p:Nat × List Nd):St:=⟨[(1,.str nm),(2,.sl (ndL by_) by_.length nb),(16,.ref 0 0 0 2),(28,.sl (ndL e) e.length ne),(29,.int .i64 (e.length:Int)),(30,.int .i64 (p.1:Int)),(11,sbE 1 p.2)],(0,⟨[.sl (ndL e) e.length ne,.sl (ndL by_) by_.length nb],0,false,0,1,true⟩)::sbH 1 p.2,.dead,[]⟩
def aPA (o:List Nd):St:=⟨[(11,sbE 0 o)],sbH 0 o,.dead,[]⟩
theorem aKw (o w:List Nd) (h:o ≠ []) {e by_:List Nd} {nm:List UInt8} {ne nb:Bool} {k:Nat}:aKv e by_ nm ne nb (k,o++w)=⟨[(1,.str nm),(2,.sl (ndL by_) by_.length nb),(16,.ref 0 0 0 2),(28,.sl (ndL e) e.length ne),(29,.int .i64 (e.length:Int)),(30,.int .i64 (k:Int)),(11,.ref 1 0 0 (o.length+w.length))],[(0,⟨[.sl (ndL e) e.length ne,.sl (ndL by_) by_.length nb],0,false,0,1,true⟩),(1,⟨((List.take (o.length*5) (ndL o))++(ndL w)),0,false,0,5,true⟩)],.dead,[]⟩:=by
 have hne:o++w ≠ []:=fun hh=>h (List.append_eq_nil_iff.1 hh).1
 unfold aKv
 rw [aKt hne,aKu hne,List.length_append,aB9,List.take_of_length_le (by rw [av6];omega)]
theorem aV8 (nm:List UInt8) (by_ l:List Nd):∀ o,goL (fun (o:List Nd) x=>(.inl (o++if ax_ nm x then by_ else [x]):List Nd ⊕ List Nd)) id l o=o++awJ nm by_ l:=by
 induction l with
 |nil=>intro o;simp [goL,awJ]
 |cons y r ih=>intro o;simp only [goL];rw [ih];simp [awJ]
theorem aSx {nt:Nat} (hn:55≤nt) (e by_:List Nd) (nm:List UInt8) (ne nb:Bool) (hl:e.length<2^20) (hb:by_ ≠ []) (hbl:by_.length<2^10):aea prog ap [] nt (lT 2 (adW f22)) (fun _=> .exit 2) (aKv e by_ nm ne nb) aPA (0,[]) (awJ nm by_ e):=by
 have hg:=aV8 nm by_ e []
 rw [List.nil_append] at hg
 rw [← hg]
 refine aea.goL (fun (o:List Nd) x=>(.inl (o++if ax_ nm x then by_ else [x]):List Nd ⊕ List Nd)) id e (fun p o=>o.length≤p.length*1024) ?_ ?_ e [] [] rfl (by simp)
 ·intro p x r o hll ho
  have hdr:(List.drop ((Int.toNat (p.length:Int))*5) (ndL e))=ndC x++ndL r:=by rw [hll];exact aCa rfl
  have hlen:p.length+(r.length+1)=e.length:=by rw [hll];simp
  refine ⟨?_,by rw [List.length_append,List.length_append,List.length_singleton];split<;>first|omega|(rw [List.length_singleton];omega)⟩
  generalize p.length=k at*
  have hw:k<2^62:=by omega
  have h0:decide (((0:Nat):Int)≤(k:Int))=true:=decide_eq_true (by omega)
  have h1:decide ((k:Int)<(e.length:Int))=true:=decide_eq_true (by omega)
  have h2:Nat.beq by_.length 0=false:=by cases by_ with|nil=>exact absurd rfl hb|cons _ _=>rfl
  have h3:Nat.beq (List.length (ndL by_)) (by_.length*5)=true:=by rw [av6];exact Nat.beq_refl _
  have h4:Nat.ble by_.length 1099511627776=true:=(by rw [Nat.ble_eq];omega)
  show adY prog ap [] nt (lT 2 (adW f22)) (aKv e by_ nm ne nb (k,o)) .normal (aKv e by_ nm ne nb (k+1,o++if ax_ nm x then by_ else [x]))
  cases o with
  | nil=>
   rcases tf (x.op==((6:Nat):Int)) with b0|b0
   ·rcases tf (x.name==nm) with b1|b1
    ·rw [show ax_ nm x=true by unfold ax_;rw [b0,b1];rfl]
     rw [if_pos rfl,List.nil_append]
     unfold aKv
     rw [aKt hb,aKu hb]
     exact pN 22 [] 4 7 (.c h3 (.c h4 (.c (akx h2) (.c (aeF b1) (.k 1 (aeF b0) (.k 7 h0 (.c h1 (.c (aeF h1) .nil)))))))) (.v 50 (.eq (wk1 hw)) (.v 32 (.ppt hdr) .nil)) hn
    ·rw [show ax_ nm x=false by unfold ax_;rw [b0,b1];rfl]
     exact pN 22 [] 4 3 (.k 8 (akx b1) (.k 1 (aeF b0) (.k 7 h0 (.c h1 (.c (aeF h1) .nil))))) (.v 50 (.eq (wk1 hw)) (.v 32 (.ppt hdr) .nil)) hn
   ·rw [show ax_ nm x=false by unfold ax_;rw [b0];rfl]
    exact pN 22 [] 4 1 (.k 9 (akx b0) (.k 7 h0 (.c h1 (.c (aeF h1) .nil)))) (.v 50 (.eq (wk1 hw)) (.v 32 (.ppt hdr) .nil)) hn
  | cons z o=>
   have h5:Nat.ble ((z::o).length+by_.length) 1099511627776=true:=(by rw [Nat.ble_eq];omega)
   have h6:Nat.ble ((z::o).length+1) 1099511627776=true:=(by rw [Nat.ble_eq];omega)
   have h7:Nat.ble ((z::o).length*5) (List.length (ndL (z::o)))=true:=(by rw [Nat.ble_eq,av6];exact Nat.le_refl _)
   rcases tf (x.op==((6:Nat):Int)) with b0|b0
   ·rcases tf (x.name==nm) with b1|b1
    ·rw [show ax_ nm x=true by unfold ax_;rw [b0,b1];rfl]
     rw [if_pos rfl,aKw (z::o) by_ (by simp)]
     exact pN 22 [] 3 7 (.c h3 (.c h5 (.c h7 (.k 1 (aeF b1) (.k 1 (aeF b0) (.k 7 h0 (.c h1 (.c (aeF h1) .nil)))))))) (.v 50 (.eq (wk1 hw)) (.v 32 (.ppt hdr) .nil)) hn
    ·rw [show ax_ nm x=false by unfold ax_;rw [b0,b1];rfl]
     rw [if_neg Bool.false_ne_true,aKw (z::o) [x] (by simp)]
     exact pN 22 [] 3 3 (.k 1 h6 (.c h7 (.k 6 (akx b1) (.k 1 (aeF b0) (.k 7 h0 (.c h1 (.c (aeF h1) .nil))))))) (.v 50 (.eq (wk1 hw)) (.v 32 (.ppt hdr) .nil)) hn
   ·rw [show ax_ nm x=false by unfold ax_;rw [b0];rfl]
    rw [if_neg Bool.false_ne_true,aKw (z::o) [x] (by simp)]
    exact pN 22 [] 3 1 (.k 1 h6 (.c h7 (.k 7 (akx b0) (.k 7 h0 (.c h1 (.c (aeF h1) .nil)))))) (.v 50 (.eq (wk1 hw)) (.v 32 (.ppt hdr) .nil)) hn
 ·intro o _
  have b0:decide ((e.length:Int)<(e.length:Int))=false:=decide_eq_false (by omega)
  cases o with
  |nil=>exact pN 22 [] 1 0 (.c (akx b0) .nil) .nil hn
  |cons z o=>exact pN 22 [] 1 0 (.c (akx b0) .nil) .nil hn
theorem a1y (e by_ w:List Nd) (nm:List UInt8) (ne nb:Bool) (h0:lit true (decide (((60:Nat):Int)<(w.length:Int)))=true) (c0:CO 21 [.sl (ndL e) e.length false] (.ret (.int .i64 0))) (c1:CO 21 [.sl (ndL by_) by_.length false] (.ret (.int .i64 0))) (l0:ajS prog ap [] 55 (.block 2 (.loop (lT 2 (adW f22)))) ⟨[(0,.sl (ndL e) e.length ne),(1,.str nm),(2,.sl (ndL by_) by_.length nb),(6,.nilS),(7,.int .i64 0),(9,.sl (ndL by_) by_.length false),(10,.int .i64 0),(11,.nilS),(13,.dead),(16,.ref 0 0 0 2),(17,.int .i64 2),(18,.int .i64 2),(19,.bool false),(25,.bool false),(28,.sl (ndL e) e.length ne),(29,.int .i64 (e.length:Int)),(30,.int .i64 0),(31,.dead),(42,.dead),(53,.dead)],[(0,⟨[.sl (ndL e) e.length ne,.sl (ndL by_) by_.length nb],0,false,0,1,true⟩)],.dead,[]⟩ (.normal) ⟨[(11,.ref 0 0 0 w.length)],[(0,⟨(ndL w),0,false,0,5,true⟩)],.dead,[]⟩):CO 22 [.sl (ndL e) e.length ne,.str nm,.sl (ndL by_) by_.length nb] (.ret (.tup [.nilS,.int .i64 2])):=pK [2] 6 37 (.c h0 (.n 11 .nil)) (.l l0 (.c c1 (.c c0 .nil)))
theorem a1z (e by_ w:List Nd) (nm:List UInt8) (ne nb:Bool) (h0:lit false (decide (((60:Nat):Int)<(w.length:Int)))=true) (c0:CO 21 [.sl (ndL e) e.length false] (.ret (.int .i64 0))) (c1:CO 21 [.sl (ndL by_) by_.length false] (.ret (.int .i64 0))) (l0:ajS prog ap [] 55 (.block 2 (.loop (lT 2 (adW f22)))) ⟨[(0,.sl (ndL e) e.length ne),(1,.str nm),(2,.sl (ndL by_) by_.length nb),(6,.nilS),(7,.int .i64 0),(9,.sl (ndL by_) by_.length false),(10,.int .i64 0),(11,.nilS),(13,.dead),(16,.ref 0 0 0 2),(17,.int .i64 2),(18,.int .i64 2),(19,.bool false),(25,.bool false),(28,.sl (ndL e) e.length ne),(29,.int .i64 (e.length:Int)),(30,.int .i64 0),(31,.dead),(42,.dead),(53,.dead)],[(0,⟨[.sl (ndL e) e.length ne,.sl (ndL by_) by_.length nb],0,false,0,1,true⟩)],.dead,[]⟩ (.normal) ⟨[(11,.ref 0 0 0 w.length)],[(0,⟨(ndL w),0,false,0,5,true⟩)],.dead,[]⟩):CO 22 [.sl (ndL e) e.length ne,.str nm,.sl (ndL by_) by_.length nb] (.ret (.tup [.own (List.take (w.length*5) (ndL w)) w.length 5,.int .i64 0])):=pK [2] 6 5 (.c h0 (.n 11 .nil)) (.l l0 (.c c1 (.c c0 .nil)))
theorem aV9 {nm:List UInt8} {by_ e:List Nd} (hb:by_ ≠ []) (he:e ≠ []):awJ nm by_ e ≠ []:=by
 cases e with
 |nil=>exact absurd rfl he
 |cons x r=>
  unfold awJ
  rw [List.flatMap_cons]
  split
  ·exact fun h=>hb (List.append_eq_nil_iff.1 h).1
  ·simp
theorem aPN (e by_:List Nd) (nm:List UInt8) (ne nb:Bool) (hl:e.length<2^10) (he:e ≠ []) (hb:by_ ≠ []) (hbl:by_.length<2^10) (hse:∀ x ∈ e,x.sm) (hsb:∀ x ∈ by_,x.sm) (hce:aud e=0) (hcb:aud by_=0):
  CO 22 [.sl (ndL e) e.length ne,.str nm,.sl (ndL by_) by_.length nb] (.ret (if 60<(awJ nm by_ e).length then .tup [.nilS,.int .i64 2] else .tup [.own (ndL (awJ nm by_ e)) (awJ nm by_ e).length 5,.int .i64 0])):=by
 have ce:=az_ e false hse
 have cb:=az_ by_ false hsb
 rw [hce] at ce
 rw [hcb] at cb
 have hloop:=fun nt (hn:55≤nt)=>aSx hn e by_ nm ne nb (by omega) hb hbl
 have l0:=aea.blk (id:=2) (e':= .normal) (s:=aKv e by_ nm ne nb (0,[])) (s':=aPA (awJ nm by_ e)) hloop (by simp) rfl (anT.refl _) (anT.refl _)
 have hne:=aV9 (nm:=nm) hb he
 revert hne l0
 generalize awJ nm by_ e=w
 intro l0 hne
 unfold aPA at l0
 rw [aKt hne,aKu hne] at l0
 ·have l1:ajS prog ap [] 55 (.block 2 (.loop (lT 2 (adW f22)))) ⟨[(0,.sl (ndL e) e.length ne),(1,.str nm),(2,.sl (ndL by_) by_.length nb),(6,.nilS),(7,.int .i64 0),(9,.sl (ndL by_) by_.length false),(10,.int .i64 0),(11,.nilS),(13,.dead),(16,.ref 0 0 0 2),(17,.int .i64 2),(18,.int .i64 2),(19,.bool false),(25,.bool false),(28,.sl (ndL e) e.length ne),(29,.int .i64 (e.length:Int)),(30,.int .i64 0),(31,.dead),(42,.dead),(53,.dead)],[(0,⟨[.sl (ndL e) e.length ne,.sl (ndL by_) by_.length nb],0,false,0,1,true⟩)],.dead,[]⟩ (.normal) ⟨[(11,.ref 0 0 0 w.length)],[(0,⟨(ndL w),0,false,0,5,true⟩)],.dead,[]⟩:=fun nt hnt=>(l0 nt hnt).weak (anT.of ⟨rfl,rfl,rfl,rfl,rfl,rfl,rfl,trivial⟩) (anT.refl _)
  split
  ·rename_i hlt
   exact a1y e by_ w nm ne nb (aeF (decide_eq_true (by omega))) ce cb l1
  ·rename_i hlt
   have:=a1z e by_ w nm ne nb (akx (decide_eq_false (by omega))) ce cb l1
   rw [a9T w] at this
   exact this
end Go.Proofs.Tryz
set_option maxRecDepth 100000
open Go AM
namespace Go.Proofs.Tryz
abbrev EV:=Nat × Nd
def svO (a:List EV) (i:Nat):Nat:=(a.getD i (0,zNd)).1
def ndO (a:List EV) (i:Nat):Nd:=(a.getD i (0,zNd)).2
def aDk (a:List EV):Nat:=a.foldl (fun s q=>avK s q.1) 0
def aRQ (a:List EV):Nat:=cond (awm (ndO a 0).op) (azY (ndO a 0).neg (svO a 1)) (cond (awm (ndO a 1).op) (azY (ndO a 1).neg (svO a 0)) 3)
def aQY (a:List EV):Nat:=cond (awm (ndO a 1).op) (cond (ayV (ndO a 1).neg (ndO a 1).num (ndO a 1).den==((0:Nat):Int)) 3 (azY (ndO a 1).neg (svO a 0))) 3
def aQL (a:List EV):Nat:=cond (((svO a 0:Nat):Int)==((0:Nat):Int)) (avK (svO a 1) (svO a 2)) 3
def aFb (ck:Sc→Int) (up:Sc→Bool) (sc:List Sc) (a:List EV) (x:Nd):Nat:=
 if x.op=9∨x.op=13∨x.op=14∨x.op=21∨x.op=22∨x.op=23 then aDk a else if x.op=10 then avK (svO a 0) (axi (svO a 1)) else if x.op=11 then aRQ a else if x.op=12 then aQY a else if x.op=15 then aQL a else if x.op=24 then aCc ck up x.name sc (svO a 0) else 3
def azV (ck:Sc→Int) (up:Sc→Bool) (sc:List Sc) (op:Int) (name:List UInt8) (a:List EV) (x:Nd):Nat:=
 cond (x.op==op && x.name==name) 1 (cond (((aDk a:Nat):Int)==((0:Nat):Int)) 0 (aFb ck up sc a x))
def ayi (ck:Sc→Int) (up:Sc→Bool) (sc:List Sc) (op:Int) (name:List UInt8):List Nd→List EV→List EV
 | [],st=>st
 |x::r,st=>ayi ck up sc op name r (st.take (st.length - arI x.op)++ [(azV ck up sc op name (st.drop (st.length - arI x.op)) x,x)])
section
variable {ck:Sc→Int} {up:Sc→Bool} {sc:List Sc} {op:Int} {name:List UInt8}
theorem aIW:∀ (a b:List Nd) (st:List EV),ayi ck up sc op name (a++b) st=ayi ck up sc op name b (ayi ck up sc op name a st)
 | [],_,_=>rfl
 |x::r,b,st=>by simp only [List.cons_append,ayi];exact aIW r b _
theorem awN {x:Nd} {r:List Nd} {d e:Nat} (h:au0 (x::r) d= .inl e):al1 x=0∧arI x.op≤d∧au0 r (d - arI x.op+1)= .inl e:=by
 simp only [au0] at h
 split at h
 ·rename_i hx
  split at h
  ·cases h
  ·exact ⟨hx,by omega,h⟩
 ·cases h
theorem aFc:∀ (r:List Nd) (st0 st:List EV),(∃ e,au0 r st.length= .inl e)→ayi ck up sc op name r (st0++st)=st0++ayi ck up sc op name r st
 | [],_,_,_=>rfl
 |x::r,st0,st,⟨e,he⟩=>by
  obtain ⟨_,h2,h3⟩:=awN he
  simp only [ayi]
  rw [show (st0++st).length - arI x.op=st0.length+(st.length - arI x.op) by rw [List.length_append];omega,List.take_length_add_append,List.drop_length_add_append,List.append_assoc]
  exact aFc r st0 _ ⟨e,by rw [List.length_append,List.length_take,List.length_singleton,Nat.min_eq_left (Nat.sub_le _ _)];exact h3⟩
theorem aIX:∀ (r:List Nd) (st:List EV) (e:Nat),au0 r st.length= .inl e→(ayi ck up sc op name r st).length=e
 | [],st,e,h=>by simpa [au0,ayi] using h
 |x::r,st,e,h=>by
  obtain ⟨_,h2,h3⟩:=awN h
  simp only [ayi]
  exact aIX r _ e (by rw [List.length_append,List.length_take,List.length_singleton,Nat.min_eq_left (Nat.sub_le _ _)];exact h3)
theorem aGo {f:Nat→EV} {a:List Nat} {i:Nat} (h:i<a.length):(a.map f).getD i (0,zNd)=f (a.getD i 0):=by
 rw [List.getD_eq_getElem?_getD,List.getD_eq_getElem?_getD,List.getElem?_map,List.getElem?_eq_getElem h];rfl
theorem aSF {e:List Nd} {A:List (List Nat)} {ss:List Nat} {k:Nat} {x:Nd} (hl:(A.getD k []).length=arI x.op):aFm ck up e A sc op name ss k x=azV ck up sc op name ((A.getD k []).map fun j=>(ss.getD j 0,e.getD j zNd)) x:=by
 have hall:awV A ss k=aDk ((A.getD k []).map fun j=>(ss.getD j 0,e.getD j zNd)):=by
  unfold awV aDk
  rw [List.foldl_map]
 have hop:∀ i,i<arI x.op→avP A ss k i=svO ((A.getD k []).map fun j=>(ss.getD j 0,e.getD j zNd)) i:=by
  intro i hi
  unfold svO avP
  rw [aGo (by omega)]
 have hnd:∀ i,i<arI x.op→ndA e A k i=ndO ((A.getD k []).map fun j=>(ss.getD j 0,e.getD j zNd)) i:=by
  intro i hi
  unfold ndO ndA
  rw [aGo (by omega)]
 have har:∀ o:Int,x.op=o→arI x.op=arI o:=fun o h=>by rw [h]
 unfold aFm azV
 rw [hall]
 congr 2
 unfold aPy aFb
 rw [hall]
 split
 ·rfl
 ·split
  ·rename_i h
   have:=har _ h
   rw [show arI 10=2 from rfl] at this
   rw [hop 0 (by omega),hop 1 (by omega)]
  ·split
   ·rename_i h
    have:=har _ h
    rw [show arI 11=2 from rfl] at this
    unfold aEP aRQ
    rw [hop 0 (by omega),hop 1 (by omega),hnd 0 (by omega),hnd 1 (by omega)]
   ·split
    ·rename_i h
     have:=har _ h
     rw [show arI 12=2 from rfl] at this
     unfold aEd aQY
     rw [hop 0 (by omega),hnd 1 (by omega)]
    ·split
     ·rename_i h
      have:=har _ h
      rw [show arI 15=3 from rfl] at this
      unfold aG7 aQL
      rw [hop 0 (by omega),hop 1 (by omega),hop 2 (by omega)]
     ·split
      ·rename_i h
       have:=har _ h
       rw [show arI 24=1 from rfl] at this
       rw [hop 0 (by omega)]
      ·rfl
theorem aI1 {e:List Nd} {A:List (List Nat)}:∀ (r:List Nd) (k:Nat) (st ss:List Nat),(∃ d,au0 r st.length= .inl d)→A.drop k=aBi r k st→e.drop k=r→ss.length=e.length→(∀ j ∈ st,j<k)→
  ayi ck up sc op name r (st.map fun j=>(ss.getD j 0,e.getD j zNd))=(stR r k st).map fun j=>((aBc ck up e A sc op name r k ss).getD j 0,e.getD j zNd)
 | [],k,st,ss,_,_,_,_,_=>rfl
 | x::r,k,st,ss,⟨d,hd⟩,hA,he,hs,hst=>by
  obtain ⟨_,h2,h3⟩:=awN hd
  have hkl:k<e.length:=by
   by_cases h:k<e.length
   ·exact h
   ·rw [List.drop_of_length_le (by omega)] at he;cases he
  have hx:e.getD k zNd=x:=by
   rw [List.drop_eq_getElem_cons hkl,List.cons.injEq] at he
   rw [List.getD_eq_getElem?_getD,List.getElem?_eq_getElem hkl,← he.1];rfl
  have her:e.drop (k+1)=r:=by
   rw [List.drop_eq_getElem_cons hkl,List.cons.injEq] at he
   exact he.2
  simp only [aBi] at hA
  have hAl:k<A.length:=by
   by_cases h:k<A.length
   ·exact h
   ·rw [List.drop_of_length_le (by omega)] at hA;cases hA
  rw [List.drop_eq_getElem_cons hAl,List.cons.injEq] at hA
  have hAk:A.getD k []=st.drop (st.length - arI x.op):=by
   rw [List.getD_eq_getElem?_getD,List.getElem?_eq_getElem hAl,← hA.1];rfl
  simp only [ayi,aBc,stR]
  have hv:=aSF (ck:=ck) (up:=up) (sc:=sc) (op:=op) (name:=name) (e:=e) (A:=A) (ss:=ss) (k:=k) (x:=x) (by rw [hAk,List.length_drop];omega)
  rw [hAk] at hv
  rw [List.length_map,← List.map_take,← List.map_drop,← hv]
  generalize aFm ck up e A sc op name ss k x=v
  have ih:=aI1 (e:=e) (A:=A) r (k+1) (st.take (st.length - arI x.op)++ [k]) (ss.set k v) ⟨d,by rw [List.length_append,List.length_take,List.length_singleton,Nat.min_eq_left (Nat.sub_le _ _)];exact h3⟩ hA.2 her (by rw [List.length_set];exact hs) (by
   intro j hj
   rcases List.mem_append.1 hj with hj|hj
   ·have:=hst j (List.mem_of_mem_take hj);omega
   ·rw [List.mem_singleton.1 hj];omega)
  rw [← ih]
  congr 1
  rw [List.map_append]
  congr 1
  ·apply List.map_congr_left
   intro j hj
   have:=hst j (List.mem_of_mem_take hj)
   have e1:(ss.set k v).getD j 0=ss.getD j 0:=by rw [List.getD_eq_getElem?_getD,List.getD_eq_getElem?_getD,List.getElem?_set_ne (by omega)]
   rw [e1]
  ·simp only [List.map_cons,List.map_nil]
   have e1:(ss.set k v).getD k 0=v:=by rw [List.getD_eq_getElem?_getD,List.getElem?_set_self (by omega)];rfl
   rw [hx,e1]
theorem aI6:∀ (r:List Nd) (x:Nd) (k:Nat) (st:List Nat),∃ t,stR (r++ [x]) k st=t++ [k+r.length]
 | [],x,k,st=> ⟨_,rfl⟩
 |y::r,x,k,st=>by
  obtain ⟨t,ht⟩:=aI6 r x (k+1) (st.take (st.length - arI y.op)++ [k])
  exact ⟨t,by simp only [List.cons_append,stR];rw [ht,List.length_cons];congr 2;omega⟩
theorem azv {e:List Nd} (h:aud e=0):au0 e 0= .inl 1∧e.length≤60:=by
 unfold aud at h
 split at h
 ·cases h
 ·refine ⟨?_,by omega⟩
  split at h
  ·rename_i d hd
   split at h
   ·rename_i h1;rw [hd,h1]
   ·cases h
  ·rename_i w hw
   exact absurd h (aG6 e 0 w hw)
theorem aD8 {e:List Nd} (h:au0 e 0= .inl 1) (hl:e.length≤60):aud e=0:=by
 unfold aud
 rw [if_neg (by omega),h];rfl
theorem azj {e:List Nd} (h:aud e=0) (ho:5≤op∧op≤8):∃ y,ayi ck up sc op name e []= [(ave ck up e sc op name,y)]∧e.getLast? =some y:=by
 obtain ⟨h1,h2⟩:=azv h
 have hne:e ≠ []:=by rintro rfl;simp [au0] at h1
 obtain ⟨r,x,hr⟩:∃ r x,e=r++ [x]:=⟨e.dropLast,e.getLast hne,(List.dropLast_concat_getLast hne).symm⟩
 have hs:=aI1 (ck:=ck) (up:=up) (sc:=sc) (op:=op) (name:=name) (e:=e) (A:=avy e) e 0 [] (List.replicate e.length 0) ⟨1,h1⟩ rfl rfl (by simp) (by simp)
 obtain ⟨t,ht⟩:=aI6 r x 0 []
 rw [← hr,Nat.zero_add] at ht
 have hl:=aIX (ck:=ck) (up:=up) (sc:=sc) (op:=op) (name:=name) e [] 1 h1
 rw [List.map_nil] at hs
 rw [hs,ht] at hl
 have ht0:t= []:=by
  rw [List.length_map,List.length_append,List.length_singleton] at hl
  exact List.length_eq_zero_iff.1 (by omega)
 subst ht0
 have hel:e.length - 1=r.length:=by rw [hr];simp
 refine ⟨x, ?_,by rw [hr];simp⟩
 rw [hs,ht]
 simp only [List.nil_append,List.map_cons,List.map_nil]
 unfold ave
 rw [if_pos ⟨h,ho⟩,hel]
 congr 1
 rw [show e.getD r.length zNd=x by rw [hr,List.getD_eq_getElem?_getD];simp]
theorem aSw {e:List Nd} (h:aud e=0) (ho:5≤op∧op≤8) (st:List EV):∃ y,ayi ck up sc op name e st=st++ [(ave ck up e sc op name,y)]∧e.getLast? =some y:=by
 obtain ⟨y,h1,h2⟩:=azj (ck:=ck) (up:=up) (sc:=sc) (op:=op) (name:=name) h ho
 refine ⟨y, ?_,h2⟩
 have:=aFc (ck:=ck) (up:=up) (sc:=sc) (op:=op) (name:=name) e st [] ⟨1,(azv h).1⟩
 rw [List.append_nil] at this
 rw [this,h1]
theorem aPE {e:List Nd} (h:aud e=0) (ho:5≤op∧op≤8) {s:Nat} {y:Nd} (hr:ayi ck up sc op name e []= [(s,y)]):ave ck up e sc op name=s:=by
 obtain ⟨y',h1,_⟩:=azj (ck:=ck) (up:=up) (sc:=sc) (op:=op) (name:=name) h ho
 rw [h1] at hr
 simp only [List.cons.injEq,Prod.mk.injEq,and_true] at hr
 exact hr.1
end
end Go.Proofs.Tryz
set_option maxRecDepth 100000
open Go AM
namespace Go.Proofs.Tryz
section
variable {ck:Sc→Int} {up:Sc→Bool} {sc:List Sc}
theorem aLc {a b:Nat} (h:a≤3) (h':b≤3):avK a b≤3:=by unfold avK;split;exact h';split;exact h;omega
theorem aP3 {a:Nat} (h:a≤3):axi a≤3:=by unfold axi;split<;>omega
theorem a1F {b:Bool} {a:Nat} (h:a≤3):azY b a≤3:=by cases b<;>simp only [azY,cond_true,cond_false];exact h;exact aP3 h
theorem aI9 {a:List EV} (h:∀ q ∈ a,q.1≤3) (i:Nat):svO a i≤3:=by
 unfold svO
 rw [List.getD_eq_getElem?_getD]
 cases hq:a[i]? with
 |none=>simp
 |some q=>exact h q (List.mem_of_getElem? hq)
theorem aTs:∀ (a:List EV) (s:Nat),s≤3→(∀ q ∈ a,q.1≤3)→a.foldl (fun s q=>avK s q.1) s≤3
 | [],_,hs,_=>hs
 |q::r,s,hs,h=>aTs r _ (aLc hs (h q (by simp))) fun x hx=>h x (by simp [hx])
theorem aLU {a:List EV} (h:∀ q ∈ a,q.1≤3):aDk a≤3:=aTs a 0 (by omega) h
theorem a1j {nm:List UInt8} {s:Nat} (h:s≤3):aCc ck up nm sc s≤3:=by
 unfold aCc
 split
 ·omega
 ·rename_i x _
  cases ck x==0<;>cases up x<;>simp [h]
theorem aTI {a:List EV} {x:Nd} (h:∀ q ∈ a,q.1≤3):aFb ck up sc a x≤3:=by
 unfold aFb
 split
 ·exact aLU h
 ·split
  ·exact aLc (aI9 h _) (aP3 (aI9 h _))
  ·split
   ·unfold aRQ
    cases awm (ndO a 0).op<;>cases awm (ndO a 1).op<;>simp only [cond_true,cond_false]<;>first|omega|exact a1F (aI9 h _)
   ·split
    ·unfold aQY
     cases awm (ndO a 1).op
     ·simp
     ·simp only [cond_true]
      cases (ayV (ndO a 1).neg (ndO a 1).num (ndO a 1).den==((0:Nat):Int))
      ·exact a1F (aI9 h _)
      ·simp
    ·split
     ·unfold aQL
      cases (((svO a 0:Nat):Int)==((0:Nat):Int))
      ·simp
      ·exact aLc (aI9 h _) (aI9 h _)
     ·split
      ·exact a1j (aI9 h _)
      ·omega
theorem aTL {op:Int} {name:List UInt8} {a:List EV} {x:Nd} (h:∀ q ∈ a,q.1≤3):azV ck up sc op name a x≤3:=by
 have hr:=aTI (ck:=ck) (up:=up) (sc:=sc) (x:=x) h
 unfold azV
 cases (x.op==op && x.name==name)
 ·cases (((aDk a:Nat):Int)==((0:Nat):Int))
  ·exact hr
  ·simp
 ·simp
theorem a1x {op:Int} {name:List UInt8}:∀ (r:List Nd) (st:List EV),(∀ q ∈ st,q.1≤3)→∀ q ∈ ayi ck up sc op name r st,q.1≤3
 | [],_,h=>h
 | x::r,st,h=>by
  simp only [ayi]
  refine a1x r _ fun q hq=> ?_
  rcases List.mem_append.1 hq with hq|hq
  ·exact h q (List.mem_of_mem_take hq)
  ·rw [List.mem_singleton] at hq
   subst hq
   exact aTL fun y hy=>h y (List.mem_of_mem_drop hy)
theorem aKy {e:List Nd} {op:Int} {name:List UInt8}:ave ck up e sc op name≤3:=by
 by_cases h:aud e=0∧5≤op∧op≤8
 ·obtain ⟨y,h1,_⟩:=azj (ck:=ck) (up:=up) (sc:=sc) (op:=op) (name:=name) h.1 h.2
  have:=a1x (ck:=ck) (up:=up) (sc:=sc) (op:=op) (name:=name) e [] (by simp) (ave ck up e sc op name,y) (by rw [h1];simp)
  exact this
 ·unfold ave
  rw [if_neg h]
  exact Nat.le_refl _
def avu (i s:Nat):Nat:=if i=0∨s=0 then 0 else if i=2∧s<3 then 3 - s else if i=3 then 3 else s
theorem aAv:(∀ i s t:Fin 4,avK (avu i s) (avu i t)=avu i (avK s t))∧(∀ i s:Fin 4,axi (avu i s)=avu i (axi s))∧(∀ i s:Fin 4,avu i s=0↔i.val=0∨s.val=0)∧(∀ i:Fin 4,i.val ≠ 0→avu i 3=3)∧(∀ i:Fin 4,avu i 1=i.val):=by decide
theorem aCV {i s t:Nat} (hi:i≤3) (hs:s≤3) (ht:t≤3):avK (avu i s) (avu i t)=avu i (avK s t):=aAv.1 ⟨i,by omega⟩ ⟨s,by omega⟩ ⟨t,by omega⟩
theorem aGR {i s:Nat} (hi:i≤3) (hs:s≤3):axi (avu i s)=avu i (axi s):=aAv.2.1 ⟨i,by omega⟩ ⟨s,by omega⟩
theorem axp {i s:Nat} (hi:i≤3) (hs:s≤3):avu i s=0↔i=0∨s=0:=aAv.2.2.1 ⟨i,by omega⟩ ⟨s,by omega⟩
theorem aKP {i:Nat} (hi:i≤3) (h:i ≠ 0):avu i 3=3:=aAv.2.2.2.1 ⟨i,by omega⟩ h
theorem aP7 {i:Nat} (hi:i≤3):avu i 1=i:=aAv.2.2.2.2 ⟨i,by omega⟩
theorem aFu {i s:Nat} {b:Bool} (hi:i≤3) (hs:s≤3):azY b (avu i s)=avu i (azY b s):=by
 cases b
 ·rfl
 ·exact aGR hi hs
def aH5 (i:Nat) (q:EV × EV):Prop:=q.1.1≤3∧q.2.1=avu i q.1.1∧(i=0∨(awm q.1.2.op=awm q.2.2.op∧(awm q.1.2.op=true→q.1.2=q.2.2)))
theorem aHH {i:Nat} (hi:i≤3):∀ (ps:List (EV × EV)) (s:Nat),s≤3→(∀ q ∈ ps,aH5 i q)→(ps.map (·.2)).foldl (fun s q=>avK s q.1) (avu i s)=avu i ((ps.map (·.1)).foldl (fun s q=>avK s q.1) s)
 | [],_,_,_=>rfl
 |q::r,s,hs,h=>by
  obtain ⟨h1,h2,_⟩:=h q (by simp)
  simp only [List.map_cons,List.foldl_cons]
  rw [h2,aCV hi hs h1]
  exact aHH hi r _ (aLc hs h1) fun x hx=>h x (by simp [hx])
theorem aVt {i:Nat} (hi:i≤3) {ps:List (EV × EV)} (h:∀ q ∈ ps,aH5 i q) (j:Nat):svO (ps.map (·.2)) j=avu i (svO (ps.map (·.1)) j):=by
 unfold svO
 rw [List.getD_eq_getElem?_getD,List.getD_eq_getElem?_getD,List.getElem?_map,List.getElem?_map]
 cases hq:ps[j]? with
 |none=>exact ((axp hi (by omega)).2 (.inr rfl)).symm
 |some q=>exact (h q (List.mem_of_getElem? hq)).2.1
theorem aVs {i:Nat} (h0:i ≠ 0) {ps:List (EV × EV)} (h:∀ q ∈ ps,aH5 i q) (j:Nat):awm (ndO (ps.map (·.1)) j).op=awm (ndO (ps.map (·.2)) j).op∧(awm (ndO (ps.map (·.1)) j).op=true→ndO (ps.map (·.1)) j=ndO (ps.map (·.2)) j):=by
 unfold ndO
 rw [List.getD_eq_getElem?_getD,List.getD_eq_getElem?_getD,List.getElem?_map,List.getElem?_map]
 cases hq:ps[j]? with
 |none=>exact ⟨rfl,fun _=>rfl⟩
 |some q=>exact ((h q (List.mem_of_getElem? hq)).2.2).resolve_left h0
theorem aPo {i:Nat} (hi:i≤3) (h0:i ≠ 0) {ps:List (EV × EV)} (h:∀ q ∈ ps,aH5 i q) (x:Nd):aFb ck up sc (ps.map (·.2)) x=avu i (aFb ck up sc (ps.map (·.1)) x):=by
 have h3:∀ q ∈ ps.map (·.1),q.1≤3:=by
  intro q hq
  obtain ⟨y,hy,rfl⟩:=List.mem_map.1 hq
  exact (h y hy).1
 have hall:aDk (ps.map (·.2))=avu i (aDk (ps.map (·.1))):=by
  have:=aHH hi ps 0 (by omega) h
  rwa [(axp hi (by omega)).2 (.inr rfl)] at this
 have hs:=aVt hi h
 have hn:=aVs h0 h
 have s3:=aI9 h3
 have e3:=aKP hi h0
 unfold aFb
 rw [hall]
 split
 ·rfl
 ·split
  ·rw [hs,hs,aGR hi (s3 _),aCV hi (s3 _) (aP3 (s3 _))]
  ·split
   ·unfold aRQ
    obtain ⟨n1,n2⟩:=hn 0
    obtain ⟨m1,m2⟩:=hn 1
    rw [← n1,← m1]
    cases hl:awm (ndO (ps.map (·.1)) 0).op with
    |true=>
     simp only [cond_true]
     rw [← n2 hl,hs,aFu hi (s3 _)]
    | false=>
     simp only [cond_false]
     cases hl2:awm (ndO (ps.map (·.1)) 1).op with
     |true=>
      simp only [cond_true]
      rw [← m2 hl2,hs,aFu hi (s3 _)]
     |false=>simp only [cond_false];exact e3.symm
   ·split
    ·unfold aQY
     obtain ⟨m1,m2⟩:=hn 1
     rw [← m1]
     cases hl2:awm (ndO (ps.map (·.1)) 1).op with
     |true=>
      simp only [cond_true]
      rw [← m2 hl2,hs]
      cases (ayV (ndO (ps.map (·.1)) 1).neg (ndO (ps.map (·.1)) 1).num (ndO (ps.map (·.1)) 1).den==((0:Nat):Int)) with
      |true=>exact e3.symm
      |false=>exact aFu hi (s3 _)
     |false=>simp only [cond_false];exact e3.symm
    ·split
     ·unfold aQL
      rw [hs,hs,hs]
      have hz:(((avu i (svO (ps.map (·.1)) 0):Nat):Int)==((0:Nat):Int))=(((svO (ps.map (·.1)) 0:Nat):Int)==((0:Nat):Int)):=by
       rw [awq,awq]
       congr 1
       have:=axp hi (s3 0)
       simp only [eq_iff_iff]
       rw [this]
       omega
      rw [hz]
      cases (((svO (ps.map (·.1)) 0:Nat):Int)==((0:Nat):Int)) with
      |true=>exact aCV hi (s3 _) (s3 _)
      |false=>exact e3.symm
     ·split
      ·rw [hs]
       unfold aCc
       split
       ·exact e3.symm
       ·rename_i y _
        cases ck y==0 with
        |false=>exact e3.symm
        |true=>cases up y with
         |false=>exact e3.symm
         |true=>rfl
      ·exact e3.symm
theorem aPp {i:Nat} (hi:i≤3) {ps:List (EV × EV)} (h:∀ q ∈ ps,aH5 i q) {nm a:List UInt8} {x:Nd} (hh:ax_ a x=false) (h5:x.op ≠ 5):
  azV ck up sc 5 nm (ps.map (·.2)) x=avu i (azV ck up sc 6 a (ps.map (·.1)) x):=by
 have hall:aDk (ps.map (·.2))=avu i (aDk (ps.map (·.1))):=by
  have:=aHH hi ps 0 (by omega) h
  rwa [(axp hi (by omega)).2 (.inr rfl)] at this
 have h3:∀ q ∈ ps.map (·.1),q.1≤3:=by
  intro q hq
  obtain ⟨y,hy,rfl⟩:=List.mem_map.1 hq
  exact (h y hy).1
 have hz:=axp hi (aLU h3)
 unfold azV
 rw [show (x.op==(5:Int) && x.name==nm)=false by rw [beq_eq_false_iff_ne.2 h5];rfl,show (x.op==(6:Int) && x.name==a)=false from hh,hall]
 simp only [cond_false]
 rw [awq,awq]
 by_cases h0:i=0
 ·rw [decide_eq_true (hz.2 (.inl h0))]
  simp only [cond_true]
  symm
  refine (axp hi ?_).2 (.inl h0)
  cases decide (aDk (ps.map (·.1))=0) with
  |true=>simp
  |false=>
   simp only [cond_false]
   exact aTI h3
 ·by_cases ha:aDk (ps.map (·.1))=0
  ·rw [decide_eq_true (hz.2 (.inr ha)),decide_eq_true ha]
   simp only [cond_true]
   exact ((axp hi (by omega)).2 (.inr rfl)).symm
  ·rw [decide_eq_false (fun hc=>by rcases hz.1 hc with hc|hc;exact h0 hc;exact ha hc),decide_eq_false ha]
   simp only [cond_false]
   exact aPo hi h0 h x
end
end Go.Proofs.Tryz
set_option maxRecDepth 100000
open Go AM
namespace Go.Proofs.Tryz
section
variable {ck:Sc→Int} {up:Sc→Bool} {sc:List Sc}
theorem aUZ {x:Nd} (h:awm x.op=true):arI x.op=0:=by
 simp only [awm,Bool.or_eq_true,beq_iff_eq] at h
 unfold arI
 rw [if_neg (by omega),if_neg (by omega),if_neg (by omega)]
theorem aOH {e:List Nd} {y:Nd} (h:au0 e 0= .inl 1) (hy:e.getLast? =some y) (hl:awm y.op=true):e= [y]:=by
 obtain ⟨r,rfl⟩:=List.getLast?_eq_some_iff.1 hy
 have key:∀ (r:List Nd) (d e:Nat),au0 (r++ [y]) d= .inl e→∃ f,au0 r d= .inl f∧e=f+1:=by
  intro r
  induction r with
  |nil=>
   intro d e h
   obtain ⟨_,_,h3⟩:=awN h
   rw [aUZ hl] at h3
   simp only [au0,Sum.inl.injEq] at h3
   exact ⟨d,rfl,by omega⟩
  |cons x r ih=>
   intro d e h
   obtain ⟨h1,h2,h3⟩:=awN (r:=r++ [y]) h
   obtain ⟨f,h4,h5⟩:=ih _ _ h3
   refine ⟨f, ?_,h5⟩
   simp only [au0,if_pos h1]
   rw [if_neg (by omega)]
   exact h4
 obtain ⟨f,h1,h2⟩:=key r 0 1 h
 cases r with
 |nil=>rfl
 |cons x r=>
  have:=(aEO (x::r) 0 f h1).2 (by simp)
  omega
theorem aPD {y:Nd} {op:Int} {nm:List UInt8} (h:aud [y]=0) (ho:5≤op∧op≤8) (hl:awm y.op=true):ave ck up [y] sc op nm=0:=by
 refine aPE h ho (y:=y) ?_
 simp only [ayi,List.length_nil,Nat.zero_sub,List.take_nil,List.drop_nil,List.nil_append]
 unfold azV
 have:(y.op==op)=false:=by
  simp only [awm,Bool.or_eq_true,beq_iff_eq] at hl
  exact beq_eq_false_iff_ne.2 (by omega)
 rw [this]
 rfl
theorem azd {α β:Type} (f:α→β) (ps:List α) (n:Nat):(ps.map f).take n=(ps.take n).map f∧(ps.map f).drop n=(ps.drop n).map f:=⟨(List.map_take ..).symm,(List.map_drop ..).symm⟩
theorem aOn {a:List UInt8} {x:Nd} (h:ax_ a x=true):x.op=6∧x.name=a:=by
 simp only [ax_,Bool.and_eq_true,beq_iff_eq] at h
 exact ⟨by have:=h.1;omega,h.2⟩
theorem aHQ {a nm:List UInt8} {b:List Nd} (hb:aud b=0):∀ (r:List Nd) (ps:List (EV × EV)),(∃ d,au0 r ps.length= .inl d)→(∀ x ∈ r,x.op ≠ 5)→(∀ q ∈ ps,aH5 (ave ck up b sc 5 nm) q)→
  ∃ ps':List (EV × EV),ayi ck up sc 6 a r (ps.map (·.1))=ps'.map (·.1)∧ayi ck up sc 5 nm (awJ a b r) (ps.map (·.2))=ps'.map (·.2)∧∀ q ∈ ps',aH5 (ave ck up b sc 5 nm) q
 | [],ps,_,_,h=> ⟨ps,rfl,rfl,h⟩
 | x :: r,ps,⟨d,hd⟩,h5,h=>by
  obtain ⟨_,h2,h3⟩:=awN hd
  have hi:=aKy (ck:=ck) (up:=up) (sc:=sc) (e:=b) (op:=5) (name:=nm)
  have hsub:awJ a b (x::r)=(if ax_ a x then b else [x])++awJ a b r:=by simp [awJ]
  rw [hsub,aIW]
  simp only [ayi]
  cases hh:ax_ a x with
  | true=>
   obtain ⟨ho,hn⟩:=aOn hh
   have har:arI x.op=0:=by rw [ho];rfl
   obtain ⟨y,hy,hyl⟩:=aSw (ck:=ck) (up:=up) (sc:=sc) (op:=5) (name:=nm) hb ⟨by omega,by omega⟩ (ps.map (·.2))
   simp only [if_true]
   rw [hy,har,Nat.sub_zero,List.length_map,(azd _ ps ps.length).1,List.take_length]
   have hst:azV ck up sc 6 a (((ps.map (·.1))).drop ps.length) x=1:=by
    unfold azV
    rw [show (x.op==(6:Int) && x.name==a)=true by rw [ho,hn];simp]
    rfl
   rw [hst]
   obtain ⟨ps',h6,h7,h8⟩:=aHQ hb r (ps++ [((1,x),(ave ck up b sc 5 nm,y))]) ⟨d,by rw [List.length_append,List.length_singleton];rw [har,Nat.sub_zero] at h3;exact h3⟩ (fun z hz=>h5 z (by simp [hz])) (by
    intro q hq
    rcases List.mem_append.1 hq with hq|hq
    ·exact h q hq
    ·rw [List.mem_singleton] at hq
     subst hq
     refine ⟨show 1≤3 by omega,(aP7 hi).symm, ?_⟩
     by_cases h0:ave ck up b sc 5 nm=0
     ·exact .inl h0
     ·right
      have hx:awm x.op=false:=by rw [ho];rfl
      have hyf:awm y.op=false:=by
       cases hl:awm y.op with
       |false=>rfl
       |true=>
        have he:=aOH (azv hb).1 hyl hl
        subst he
        exact absurd (aPD hb ⟨by omega,by omega⟩ hl) h0
      exact ⟨by rw [hx,hyf],fun hc=>by rw [hx] at hc;cases hc⟩)
   refine ⟨ps', ?_, ?_,h8⟩
   ·rw [List.map_append] at h6;exact h6
   ·rw [List.map_append] at h7;exact h7
  | false=>
   simp only [Bool.false_eq_true,if_false,ayi]
   rw [List.length_map,List.length_map,(azd _ ps _).1,(azd _ ps _).1,(azd _ ps _).2,(azd _ ps _).2]
   have hrel:∀ q ∈ ps.drop (ps.length - arI x.op),aH5 (ave ck up b sc 5 nm) q:=fun q hq=>h q (List.mem_of_mem_drop hq)
   rw [aPp hi hrel hh (h5 x (by simp))]
   have h3':∀ q ∈ (ps.drop (ps.length - arI x.op)).map (·.1),q.1≤3:=by
    intro q hq
    obtain ⟨y,hy,rfl⟩:=List.mem_map.1 hq
    exact (hrel y hy).1
   have hs3:=aTL (ck:=ck) (up:=up) (sc:=sc) (op:=6) (name:=a) (x:=x) h3'
   generalize azV ck up sc 6 a ((ps.drop (ps.length - arI x.op)).map (·.1)) x=s at*
   obtain ⟨ps',h6,h7,h8⟩:=aHQ hb r (ps.take (ps.length - arI x.op)++ [((s,x),(avu (ave ck up b sc 5 nm) s,x))]) ⟨d,by rw [List.length_append,List.length_take,List.length_singleton,Nat.min_eq_left (Nat.sub_le _ _)];exact h3⟩ (fun z hz=>h5 z (by simp [hz])) (by
    intro q hq
    rcases List.mem_append.1 hq with hq|hq
    ·exact h q (List.mem_of_mem_take hq)
    ·rw [List.mem_singleton] at hq
     subst hq
     exact ⟨hs3,rfl,.inr ⟨rfl,fun _=>rfl⟩⟩)
   refine ⟨ps', ?_, ?_,h8⟩
   ·rw [List.map_append] at h6;exact h6
   ·rw [List.map_append] at h7;exact h7
theorem aMR {a nm:List UInt8} {b e:List Nd} (hb:aud b=0) (he:aud e=0) (hs:aud (awJ a b e)=0) (h5:∀ x ∈ e,x.op ≠ 5):
  ave ck up (awJ a b e) sc 5 nm=avu (ave ck up b sc 5 nm) (ave ck up e sc 6 a):=by
 obtain ⟨y,h1,_⟩:=azj (ck:=ck) (up:=up) (sc:=sc) (op:=6) (name:=a) he ⟨by omega,by omega⟩
 obtain ⟨z,h2,_⟩:=azj (ck:=ck) (up:=up) (sc:=sc) (op:=5) (name:=nm) hs ⟨by omega,by omega⟩
 obtain ⟨ps',h3,h4,h6⟩:=aHQ (ck:=ck) (up:=up) (sc:=sc) (a:=a) (nm:=nm) hb e [] ⟨1,(azv he).1⟩ h5 (by simp)
 rw [List.map_nil] at h3 h4
 rw [h1] at h3
 rw [h2] at h4
 match ps',h3,h4,h6 with
 | [q],h3,h4,h6=>
  simp only [List.map_cons,List.map_nil,List.cons.injEq,and_true] at h3 h4
  have:=(h6 q (by simp)).2.1
  rw [← h3,← h4] at this
  exact this
 | [],h3,_,_=>simp at h3
 |_::_::_,h3,_,_=>simp at h3
end
end Go.Proofs.Tryz
set_option maxRecDepth 100000
set_option linter.unusedVariables false
open Go AM
namespace Go.Proofs.Tryz
theorem a_f {nt:Nat} (hn:101≤nt) (b:List Nd) (qs:List Sq) (cu:List Nd) (k:Nat) (hw:k<2^62) (h1:(decide ((k:Int)<(cu.length:Int)))=true) (h5:((AV.toInt (List.headD (List.drop (((0+(Int.toNat (k:Int)))*5)+0) (ndL cu)) .dead))==((5:Nat):Int))=true) (hl:(Nat.ble ((((0+(Int.toNat (k:Int)))*5)+0)+1) (List.length (ndL cu)))=true) (hc:(chk (.int .i64) (List.headD (List.drop (((0+(Int.toNat (k:Int)))*5)+0) (ndL cu)) .dead))=true):adY prog ap [] nt (lT 0 (adW f8)) ⟨[(6,.bool false),(7,.bool true),(8,.ref 0 0 0 cu.length),(9,.sl (ndL b) b.length true),(10,.sl (scL (qs.map Sq.c)) qs.length false),(11,.int .i64 (k:Int))],[(0,⟨(ndL cu),0,false,0,5,true⟩)],.dead,[]⟩ (.normal) ⟨[(6,.bool false),(7,.bool true),(8,.ref 0 0 0 cu.length),(9,.sl (ndL b) b.length true),(10,.sl (scL (qs.map Sq.c)) qs.length false),(11,.int .i64 (((k+1):Nat):Int))],[(0,⟨(List.take (((0+(Int.toNat (k:Int)))*5)+0) (ndL cu)++ [.int .i64 7]++List.drop ((((0+(Int.toNat (k:Int)))*5)+0)+1) (ndL cu)),0,false,0,5,true⟩)],.dead,[]⟩:=pN 8 [] 2 3 (.c hl (.c (nnW k) (.c h1 (.c (aeF h5) (.c hc (.c (nnW k) (.c h1 (.c (aeF h1) .nil)))))))) (.v 39 (.eq (wk1 hw)) .nil) hn
theorem a_g {nt:Nat} (hn:101≤nt) (b:List Nd) (qs:List Sq) (cu:List Nd) (k:Nat) (hw:k<2^62) (h1:(decide ((k:Int)<(cu.length:Int)))=true) (h5:((AV.toInt (List.headD (List.drop (((0+(Int.toNat (k:Int)))*5)+0) (ndL cu)) .dead))==((5:Nat):Int))=false) (hc:(chk (.int .i64) (List.headD (List.drop (((0+(Int.toNat (k:Int)))*5)+0) (ndL cu)) .dead))=true):adY prog ap [] nt (lT 0 (adW f8)) ⟨[(6,.bool false),(7,.bool true),(8,.ref 0 0 0 cu.length),(9,.sl (ndL b) b.length true),(10,.sl (scL (qs.map Sq.c)) qs.length false),(11,.int .i64 (k:Int))],[(0,⟨(ndL cu),0,false,0,5,true⟩)],.dead,[]⟩ (.normal) ⟨[(6,.bool false),(7,.bool true),(8,.ref 0 0 0 cu.length),(9,.sl (ndL b) b.length true),(10,.sl (scL (qs.map Sq.c)) qs.length false),(11,.int .i64 (((k+1):Nat):Int))],[(0,⟨(ndL cu),0,false,0,5,true⟩)],.dead,[]⟩:=pN 8 [] 2 1 (.c (akx h5) (.c hc (.c (nnW k) (.c h1 (.c (aeF h1) .nil))))) (.v 39 (.eq (wk1 hw)) .nil) hn
theorem a_h {nt:Nat} (hn:101≤nt) (b:List Nd) (qs:List Sq) (cu:List Nd) (k:Nat) (hw:k<2^62) (h1:(decide ((k:Int)<(cu.length:Int)))=false):adY prog ap [] nt (lT 0 (adW f8)) ⟨[(6,.bool false),(7,.bool true),(8,.ref 0 0 0 cu.length),(9,.sl (ndL b) b.length true),(10,.sl (scL (qs.map Sq.c)) qs.length false),(11,.int .i64 (k:Int))],[(0,⟨(ndL cu),0,false,0,5,true⟩)],.dead,[]⟩ (.exit 0) ⟨[(6,.bool false),(7,.bool true),(8,.ref 0 0 0 cu.length),(9,.sl (ndL b) b.length true),(10,.sl (scL (qs.map Sq.c)) qs.length false)],[(0,⟨(ndL cu),0,false,0,5,true⟩)],.dead,[]⟩:=pN 8 [] 1 0 (.c (akx h1) .nil) (.nil) hn
theorem a_i {nt:Nat} (hn:101≤nt) (b w:List Nd) (qs:List Sq) (oo k:Nat) (S2 S3:List UInt8→Nat) (nm:List UInt8) (rx:List AV) (hk:k<2^62) (A2:∀ nm,CO 14 [.sl (ndL b) b.length true,.sl (scL (qs.map Sq.c)) qs.length false,.int .i64 5,.str nm] (.ret (.int .i64 ((S2 nm:Nat):Int)))) (A3:∀ nm,CO 14 [.sl (ndL w) w.length true,.sl (scL (qs.map Sq.c)) qs.length false,.int .i64 5,.str nm] (.ret (.int .i64 ((S3 nm:Nat):Int)))) (hx:(List.drop ((Int.toNat (k:Int))*1) [.str [111,116,104,101,114],.str [97],.str [98],.str [116,97,120],.str [119,97,103,101],.str [120,95,49],.str [97,50,51,52,53,54,55,56,57,48,49,50,51,52,53,54,55,56,57,48]])= [AV.str nm]++rx) (h7:(decide ((k:Int)<((7:Nat):Int)))=true) (h20:((((S2 nm):Nat):Int)==((0:Nat):Int))=true) (hf:((((S3 nm):Nat):Int)==((0:Nat):Int))=true):adY prog ap [] nt (lT 2 (adW f8)) ⟨[(7,.bool true),(9,.sl (ndL b) b.length true),(10,.sl (scL (qs.map Sq.c)) qs.length false),(12,.sl (ndL w) w.length true),(14,.int .i64 (oo:Int)),(66,.sl [.str [111,116,104,101,114],.str [97],.str [98],.str [116,97,120],.str [119,97,103,101],.str [120,95,49],.str [97,50,51,52,53,54,55,56,57,48,49,50,51,52,53,54,55,56,57,48]] 7 true),(67,.int .i64 7),(68,.int .i64 (k:Int))],[],.dead,[]⟩ (.normal) ⟨[(7,.bool true),(9,.sl (ndL b) b.length true),(10,.sl (scL (qs.map Sq.c)) qs.length false),(12,.sl (ndL w) w.length true),(14,.int .i64 (oo:Int)),(66,.sl [.str [111,116,104,101,114],.str [97],.str [98],.str [116,97,120],.str [119,97,103,101],.str [120,95,49],.str [97,50,51,52,53,54,55,56,57,48,49,50,51,52,53,54,55,56,57,48]] 7 true),(67,.int .i64 7),(68,.int .i64 (((k+1):Nat):Int))],[],.dead,[]⟩:=pN 8 [] 4 7 (.c (anS hf) (.k 1 (aeF h20) (.k 1 (nnW k) (.c h7 (.c (aeF h7) .nil))))) (.v 99 (.eq (wp1 hk)) (.c (A3 nm) (.c (A2 nm) (.v 70 (.ppt hx) .nil)))) hn
theorem a_j {nt:Nat} (hn:101≤nt) (b w:List Nd) (qs:List Sq) (oo k:Nat) (S2 S3:List UInt8→Nat) (nm:List UInt8) (rx:List AV) (hk:k<2^62) (A2:∀ nm,CO 14 [.sl (ndL b) b.length true,.sl (scL (qs.map Sq.c)) qs.length false,.int .i64 5,.str nm] (.ret (.int .i64 ((S2 nm:Nat):Int)))) (A3:∀ nm,CO 14 [.sl (ndL w) w.length true,.sl (scL (qs.map Sq.c)) qs.length false,.int .i64 5,.str nm] (.ret (.int .i64 ((S3 nm:Nat):Int)))) (hx:(List.drop ((Int.toNat (k:Int))*1) [.str [111,116,104,101,114],.str [97],.str [98],.str [116,97,120],.str [119,97,103,101],.str [120,95,49],.str [97,50,51,52,53,54,55,56,57,48,49,50,51,52,53,54,55,56,57,48]])= [AV.str nm]++rx) (h7:(decide ((k:Int)<((7:Nat):Int)))=true) (h20:((((S2 nm):Nat):Int)==((0:Nat):Int))=false) (ho0:((oo:Int)==((0:Nat):Int))=true) (hf:((((S3 nm):Nat):Int)==((0:Nat):Int))=true):adY prog ap [] nt (lT 2 (adW f8)) ⟨[(7,.bool true),(9,.sl (ndL b) b.length true),(10,.sl (scL (qs.map Sq.c)) qs.length false),(12,.sl (ndL w) w.length true),(14,.int .i64 (oo:Int)),(66,.sl [.str [111,116,104,101,114],.str [97],.str [98],.str [116,97,120],.str [119,97,103,101],.str [120,95,49],.str [97,50,51,52,53,54,55,56,57,48,49,50,51,52,53,54,55,56,57,48]] 7 true),(67,.int .i64 7),(68,.int .i64 (k:Int))],[],.dead,[]⟩ (.normal) ⟨[(7,.bool true),(9,.sl (ndL b) b.length true),(10,.sl (scL (qs.map Sq.c)) qs.length false),(12,.sl (ndL w) w.length true),(14,.int .i64 (oo:Int)),(66,.sl [.str [111,116,104,101,114],.str [97],.str [98],.str [116,97,120],.str [119,97,103,101],.str [120,95,49],.str [97,50,51,52,53,54,55,56,57,48,49,50,51,52,53,54,55,56,57,48]] 7 true),(67,.int .i64 7),(68,.int .i64 (((k+1):Nat):Int))],[],.dead,[]⟩:=pN 8 [] 4 5 (.c (anS hf) (.c (aeF ho0) (.c (akx h20) (.k 1 (nnW k) (.c h7 (.c (aeF h7) .nil)))))) (.v 99 (.eq (wp1 hk)) (.c (A3 nm) (.c (A2 nm) (.v 70 (.ppt hx) .nil)))) hn
theorem a_k {nt:Nat} (hn:101≤nt) (b w:List Nd) (qs:List Sq) (oo k:Nat) (S2 S3:List UInt8→Nat) (nm:List UInt8) (rx:List AV) (hk:k<2^62) (A2:∀ nm,CO 14 [.sl (ndL b) b.length true,.sl (scL (qs.map Sq.c)) qs.length false,.int .i64 5,.str nm] (.ret (.int .i64 ((S2 nm:Nat):Int)))) (A3:∀ nm,CO 14 [.sl (ndL w) w.length true,.sl (scL (qs.map Sq.c)) qs.length false,.int .i64 5,.str nm] (.ret (.int .i64 ((S3 nm:Nat):Int)))) (hx:(List.drop ((Int.toNat (k:Int))*1) [.str [111,116,104,101,114],.str [97],.str [98],.str [116,97,120],.str [119,97,103,101],.str [120,95,49],.str [97,50,51,52,53,54,55,56,57,48,49,50,51,52,53,54,55,56,57,48]])= [AV.str nm]++rx) (h7:(decide ((k:Int)<((7:Nat):Int)))=true) (h20:((((S2 nm):Nat):Int)==((0:Nat):Int))=false) (ho0:((oo:Int)==((0:Nat):Int))=false) (h22:((((S2 nm):Nat):Int)==((2:Nat):Int))=true) (ho3:(decide ((oo:Int)<((3:Nat):Int)))=true) (hf:((((S3 nm):Nat):Int)==(IntKind.wrap .i64 (((3:Nat):Int) - (oo:Int))))=true):adY prog ap [] nt (lT 2 (adW f8)) ⟨[(7,.bool true),(9,.sl (ndL b) b.length true),(10,.sl (scL (qs.map Sq.c)) qs.length false),(12,.sl (ndL w) w.length true),(14,.int .i64 (oo:Int)),(66,.sl [.str [111,116,104,101,114],.str [97],.str [98],.str [116,97,120],.str [119,97,103,101],.str [120,95,49],.str [97,50,51,52,53,54,55,56,57,48,49,50,51,52,53,54,55,56,57,48]] 7 true),(67,.int .i64 7),(68,.int .i64 (k:Int))],[],.dead,[]⟩ (.normal) ⟨[(7,.bool true),(9,.sl (ndL b) b.length true),(10,.sl (scL (qs.map Sq.c)) qs.length false),(12,.sl (ndL w) w.length true),(14,.int .i64 (oo:Int)),(66,.sl [.str [111,116,104,101,114],.str [97],.str [98],.str [116,97,120],.str [119,97,103,101],.str [120,95,49],.str [97,50,51,52,53,54,55,56,57,48,49,50,51,52,53,54,55,56,57,48]] 7 true),(67,.int .i64 7),(68,.int .i64 (((k+1):Nat):Int))],[],.dead,[]⟩:=pN 8 [] 6 25 (.c (anS hf) (.c (aeF ho3) (.c (aeF h22) (.c (akx ho0) (.c (akx h20) (.k 1 (nnW k) (.c h7 (.c (aeF h7) .nil)))))))) (.v 99 (.eq (wp1 hk)) (.c (A3 nm) (.c (A2 nm) (.v 70 (.ppt hx) .nil)))) hn
theorem a_l {nt:Nat} (hn:101≤nt) (b w:List Nd) (qs:List Sq) (oo k:Nat) (S2 S3:List UInt8→Nat) (nm:List UInt8) (rx:List AV) (hk:k<2^62) (A2:∀ nm,CO 14 [.sl (ndL b) b.length true,.sl (scL (qs.map Sq.c)) qs.length false,.int .i64 5,.str nm] (.ret (.int .i64 ((S2 nm:Nat):Int)))) (A3:∀ nm,CO 14 [.sl (ndL w) w.length true,.sl (scL (qs.map Sq.c)) qs.length false,.int .i64 5,.str nm] (.ret (.int .i64 ((S3 nm:Nat):Int)))) (hx:(List.drop ((Int.toNat (k:Int))*1) [.str [111,116,104,101,114],.str [97],.str [98],.str [116,97,120],.str [119,97,103,101],.str [120,95,49],.str [97,50,51,52,53,54,55,56,57,48,49,50,51,52,53,54,55,56,57,48]])= [AV.str nm]++rx) (h7:(decide ((k:Int)<((7:Nat):Int)))=true) (h20:((((S2 nm):Nat):Int)==((0:Nat):Int))=false) (ho0:((oo:Int)==((0:Nat):Int))=false) (h22:((((S2 nm):Nat):Int)==((2:Nat):Int))=true) (ho3:(decide ((oo:Int)<((3:Nat):Int)))=false) (h23:((((S2 nm):Nat):Int)==((3:Nat):Int))=false) (hf:((((S3 nm):Nat):Int)==(oo:Int))=true):adY prog ap [] nt (lT 2 (adW f8)) ⟨[(7,.bool true),(9,.sl (ndL b) b.length true),(10,.sl (scL (qs.map Sq.c)) qs.length false),(12,.sl (ndL w) w.length true),(14,.int .i64 (oo:Int)),(66,.sl [.str [111,116,104,101,114],.str [97],.str [98],.str [116,97,120],.str [119,97,103,101],.str [120,95,49],.str [97,50,51,52,53,54,55,56,57,48,49,50,51,52,53,54,55,56,57,48]] 7 true),(67,.int .i64 7),(68,.int .i64 (k:Int))],[],.dead,[]⟩ (.normal) ⟨[(7,.bool true),(9,.sl (ndL b) b.length true),(10,.sl (scL (qs.map Sq.c)) qs.length false),(12,.sl (ndL w) w.length true),(14,.int .i64 (oo:Int)),(66,.sl [.str [111,116,104,101,114],.str [97],.str [98],.str [116,97,120],.str [119,97,103,101],.str [120,95,49],.str [97,50,51,52,53,54,55,56,57,48,49,50,51,52,53,54,55,56,57,48]] 7 true),(67,.int .i64 7),(68,.int .i64 (((k+1):Nat):Int))],[],.dead,[]⟩:=pN 8 [] 7 9 (.c (anS hf) (.c (akx h23) (.c (akx ho3) (.c (aeF h22) (.c (akx ho0) (.c (akx h20) (.k 1 (nnW k) (.c h7 (.c (aeF h7) .nil))))))))) (.v 99 (.eq (wp1 hk)) (.c (A3 nm) (.c (A2 nm) (.v 70 (.ppt hx) .nil)))) hn
theorem a_m {nt:Nat} (hn:101≤nt) (b w:List Nd) (qs:List Sq) (oo k:Nat) (S2 S3:List UInt8→Nat) (nm:List UInt8) (rx:List AV) (hk:k<2^62) (A2:∀ nm,CO 14 [.sl (ndL b) b.length true,.sl (scL (qs.map Sq.c)) qs.length false,.int .i64 5,.str nm] (.ret (.int .i64 ((S2 nm:Nat):Int)))) (A3:∀ nm,CO 14 [.sl (ndL w) w.length true,.sl (scL (qs.map Sq.c)) qs.length false,.int .i64 5,.str nm] (.ret (.int .i64 ((S3 nm:Nat):Int)))) (hx:(List.drop ((Int.toNat (k:Int))*1) [.str [111,116,104,101,114],.str [97],.str [98],.str [116,97,120],.str [119,97,103,101],.str [120,95,49],.str [97,50,51,52,53,54,55,56,57,48,49,50,51,52,53,54,55,56,57,48]])= [AV.str nm]++rx) (h7:(decide ((k:Int)<((7:Nat):Int)))=true) (h20:((((S2 nm):Nat):Int)==((0:Nat):Int))=false) (ho0:((oo:Int)==((0:Nat):Int))=false) (h22:((((S2 nm):Nat):Int)==((2:Nat):Int))=false) (h23:((((S2 nm):Nat):Int)==((3:Nat):Int))=true) (hf:((((S3 nm):Nat):Int)==((3:Nat):Int))=true):adY prog ap [] nt (lT 2 (adW f8)) ⟨[(7,.bool true),(9,.sl (ndL b) b.length true),(10,.sl (scL (qs.map Sq.c)) qs.length false),(12,.sl (ndL w) w.length true),(14,.int .i64 (oo:Int)),(66,.sl [.str [111,116,104,101,114],.str [97],.str [98],.str [116,97,120],.str [119,97,103,101],.str [120,95,49],.str [97,50,51,52,53,54,55,56,57,48,49,50,51,52,53,54,55,56,57,48]] 7 true),(67,.int .i64 7),(68,.int .i64 (k:Int))],[],.dead,[]⟩ (.normal) ⟨[(7,.bool true),(9,.sl (ndL b) b.length true),(10,.sl (scL (qs.map Sq.c)) qs.length false),(12,.sl (ndL w) w.length true),(14,.int .i64 (oo:Int)),(66,.sl [.str [111,116,104,101,114],.str [97],.str [98],.str [116,97,120],.str [119,97,103,101],.str [120,95,49],.str [97,50,51,52,53,54,55,56,57,48,49,50,51,52,53,54,55,56,57,48]] 7 true),(67,.int .i64 7),(68,.int .i64 (((k+1):Nat):Int))],[],.dead,[]⟩:=pN 8 [] 7 33 (.c (anS hf) (.c (aeF h23) (.k 1 (akx h22) (.c (akx ho0) (.c (akx h20) (.k 1 (nnW k) (.c h7 (.c (aeF h7) .nil)))))))) (.v 99 (.eq (wp1 hk)) (.c (A3 nm) (.c (A2 nm) (.v 70 (.ppt hx) .nil)))) hn
theorem a_n {nt:Nat} (hn:101≤nt) (b w:List Nd) (qs:List Sq) (oo k:Nat) (S2 S3:List UInt8→Nat) (nm:List UInt8) (rx:List AV) (hk:k<2^62) (A2:∀ nm,CO 14 [.sl (ndL b) b.length true,.sl (scL (qs.map Sq.c)) qs.length false,.int .i64 5,.str nm] (.ret (.int .i64 ((S2 nm:Nat):Int)))) (A3:∀ nm,CO 14 [.sl (ndL w) w.length true,.sl (scL (qs.map Sq.c)) qs.length false,.int .i64 5,.str nm] (.ret (.int .i64 ((S3 nm:Nat):Int)))) (hx:(List.drop ((Int.toNat (k:Int))*1) [.str [111,116,104,101,114],.str [97],.str [98],.str [116,97,120],.str [119,97,103,101],.str [120,95,49],.str [97,50,51,52,53,54,55,56,57,48,49,50,51,52,53,54,55,56,57,48]])= [AV.str nm]++rx) (h7:(decide ((k:Int)<((7:Nat):Int)))=true) (h20:((((S2 nm):Nat):Int)==((0:Nat):Int))=false) (ho0:((oo:Int)==((0:Nat):Int))=false) (h22:((((S2 nm):Nat):Int)==((2:Nat):Int))=false) (h23:((((S2 nm):Nat):Int)==((3:Nat):Int))=false) (hf:((((S3 nm):Nat):Int)==(oo:Int))=true):adY prog ap [] nt (lT 2 (adW f8)) ⟨[(7,.bool true),(9,.sl (ndL b) b.length true),(10,.sl (scL (qs.map Sq.c)) qs.length false),(12,.sl (ndL w) w.length true),(14,.int .i64 (oo:Int)),(66,.sl [.str [111,116,104,101,114],.str [97],.str [98],.str [116,97,120],.str [119,97,103,101],.str [120,95,49],.str [97,50,51,52,53,54,55,56,57,48,49,50,51,52,53,54,55,56,57,48]] 7 true),(67,.int .i64 7),(68,.int .i64 (k:Int))],[],.dead,[]⟩ (.normal) ⟨[(7,.bool true),(9,.sl (ndL b) b.length true),(10,.sl (scL (qs.map Sq.c)) qs.length false),(12,.sl (ndL w) w.length true),(14,.int .i64 (oo:Int)),(66,.sl [.str [111,116,104,101,114],.str [97],.str [98],.str [116,97,120],.str [119,97,103,101],.str [120,95,49],.str [97,50,51,52,53,54,55,56,57,48,49,50,51,52,53,54,55,56,57,48]] 7 true),(67,.int .i64 7),(68,.int .i64 (((k+1):Nat):Int))],[],.dead,[]⟩:=pN 8 [] 7 1 (.c (anS hf) (.c (akx h23) (.k 1 (akx h22) (.c (akx ho0) (.c (akx h20) (.k 1 (nnW k) (.c h7 (.c (aeF h7) .nil)))))))) (.v 99 (.eq (wp1 hk)) (.c (A3 nm) (.c (A2 nm) (.v 70 (.ppt hx) .nil)))) hn
theorem a_o {nt:Nat} (hn:101≤nt) (b w:List Nd) (qs:List Sq) (oo k:Nat) (h7:(decide ((k:Int)<((7:Nat):Int)))=false):adY prog ap [] nt (lT 2 (adW f8)) ⟨[(7,.bool true),(9,.sl (ndL b) b.length true),(10,.sl (scL (qs.map Sq.c)) qs.length false),(12,.sl (ndL w) w.length true),(14,.int .i64 (oo:Int)),(66,.sl [.str [111,116,104,101,114],.str [97],.str [98],.str [116,97,120],.str [119,97,103,101],.str [120,95,49],.str [97,50,51,52,53,54,55,56,57,48,49,50,51,52,53,54,55,56,57,48]] 7 true),(67,.int .i64 7),(68,.int .i64 (k:Int))],[],.dead,[]⟩ (.exit 2) ⟨[(7,.bool true)],[],.dead,[]⟩:=pN 8 [] 1 0 (.c (akx h7) .nil) (.nil) hn
theorem mn0 (n:Nat):decide (((0:Nat):Int)≤(if ((14:Nat):Int)<(n:Int) then ((14:Nat):Int) else (n:Int)))=true:=by
 rw [decide_eq_true_iff];split<;>omega
theorem mn1 (n:Nat):decide ((if ((14:Nat):Int)<(n:Int) then ((14:Nat):Int) else (n:Int))≤(n:Int))=true:=by
 rw [decide_eq_true_iff];split<;>omega
theorem a9R (n:Nat):(Int.toNat (if ((14:Nat):Int)<(n:Int) then ((14:Nat):Int) else (n:Int)))=min 14 n:=by
 split<;>omega
theorem a1C (xs ys:List Int) (ts:List (Int × Int × Int)) (na nc nb:Bool) (e b e1 w:List Nd) (qs:List Sq) (oo:Nat) (hs:CO 10 [] (.ret (.bool true))) (m1:CO 11 [.sl (List.take ((Int.toNat (if ((14:Nat):Int)<(xs.length:Int) then ((14:Nat):Int) else (xs.length:Int)))*1) (iL xs)) ((Int.toNat (if ((14:Nat):Int)<(xs.length:Int) then ((14:Nat):Int) else (xs.length:Int))) - 0) na] (.ret (.own (ndL e) e.length 5))) (m2:CO 11 [.sl (List.take ((Int.toNat (if ((14:Nat):Int)<(ys.length:Int) then ((14:Nat):Int) else (ys.length:Int)))*1) (iL ys)) ((Int.toNat (if ((14:Nat):Int)<(ys.length:Int) then ((14:Nat):Int) else (ys.length:Int))) - 0) nc] (.ret (.own (ndL b) b.length 5))) (hS:CO 22 [.sl (List.take (e1.length*5) (ndL e1)) e1.length true,.str [97],.sl (ndL b) b.length true] (.ret (.tup [.nilS,.int .i64 2]))) (hc:CO 12 [.sl (tL ts) ts.length nb] (.ret (.nilS))) (l0:ajS prog ap [] 101 (.block 0 (.loop (lT 0 (adW f8)))) ⟨[(0,.sl (iL xs) xs.length na),(1,.sl (iL ys) ys.length nc),(2,.sl (tL ts) ts.length nb),(6,.bool false),(7,.bool true),(8,.ref 0 0 0 e.length),(9,.ref 1 0 0 b.length),(10,.nilS),(11,.int .i64 0),(12,.dead),(13,.dead),(14,.dead),(16,.dead),(17,.dead),(18,.dead),(37,.dead),(45,.dead),(57,.dead),(66,.dead),(67,.dead),(68,.dead),(69,.dead),(82,.dead),(88,.dead),(92,.dead),(98,.dead)],[(0,⟨(ndL e),0,false,0,5,true⟩),(1,⟨(ndL b),0,false,0,5,true⟩)],.dead,[]⟩ (.normal) ⟨[(6,.bool false),(7,.bool true),(8,.ref 0 0 0 e1.length),(9,.sl (ndL b) b.length true),(10,.sl (scL (qs.map Sq.c)) qs.length false)],[(0,⟨(ndL e1),0,false,0,5,true⟩)],.dead,[]⟩):CO 8 [.sl (iL xs) xs.length na,.sl (iL ys) ys.length nc,.sl (tL ts) ts.length nb] (.ret (.bool true)):=pK [0,2] 2 3 (.k 3 (mn0 ys.length) (.c (mn1 ys.length) (.k 1 (mn0 xs.length) (.c (mn1 xs.length) .nil)))) (.c hS (.l l0 (.c hc (.c m2 (.c m1 (.c hs .nil))))))
theorem a1D (xs ys:List Int) (ts:List (Int × Int × Int)) (na nc nb:Bool) (e b e1 w:List Nd) (qs:List Sq) (oo:Nat) (hs:CO 10 [] (.ret (.bool true))) (m1:CO 11 [.sl (List.take ((Int.toNat (if ((14:Nat):Int)<(xs.length:Int) then ((14:Nat):Int) else (xs.length:Int)))*1) (iL xs)) ((Int.toNat (if ((14:Nat):Int)<(xs.length:Int) then ((14:Nat):Int) else (xs.length:Int))) - 0) na] (.ret (.own (ndL e) e.length 5))) (m2:CO 11 [.sl (List.take ((Int.toNat (if ((14:Nat):Int)<(ys.length:Int) then ((14:Nat):Int) else (ys.length:Int)))*1) (iL ys)) ((Int.toNat (if ((14:Nat):Int)<(ys.length:Int) then ((14:Nat):Int) else (ys.length:Int))) - 0) nc] (.ret (.own (ndL b) b.length 5))) (hS:CO 22 [.sl (List.take (e1.length*5) (ndL e1)) e1.length true,.str [97],.sl (ndL b) b.length true] (.ret (.tup [.own (ndL w) w.length 5,.int .i64 0]))) (hA:CO 14 [.sl (List.take (e1.length*5) (ndL e1)) e1.length true,.sl (scL (qs.map Sq.c)) qs.length false,.int .i64 6,.str [97]] (.ret (.int .i64 (oo:Int)))) (hc:CO 12 [.sl (tL ts) ts.length nb] (.ret (.nilS))) (hn:CO 13 [] (.ret (.own [.str [111,116,104,101,114],.str [97],.str [98],.str [116,97,120],.str [119,97,103,101],.str [120,95,49],.str [97,50,51,52,53,54,55,56,57,48,49,50,51,52,53,54,55,56,57,48]] 7 1))) (l0:ajS prog ap [] 101 (.block 0 (.loop (lT 0 (adW f8)))) ⟨[(0,.sl (iL xs) xs.length na),(1,.sl (iL ys) ys.length nc),(2,.sl (tL ts) ts.length nb),(6,.bool false),(7,.bool true),(8,.ref 0 0 0 e.length),(9,.ref 1 0 0 b.length),(10,.nilS),(11,.int .i64 0),(12,.dead),(13,.dead),(14,.dead),(16,.dead),(17,.dead),(18,.dead),(37,.dead),(45,.dead),(57,.dead),(66,.dead),(67,.dead),(68,.dead),(69,.dead),(82,.dead),(88,.dead),(92,.dead),(98,.dead)],[(0,⟨(ndL e),0,false,0,5,true⟩),(1,⟨(ndL b),0,false,0,5,true⟩)],.dead,[]⟩ (.normal) ⟨[(6,.bool false),(7,.bool true),(8,.ref 0 0 0 e1.length),(9,.sl (ndL b) b.length true),(10,.sl (scL (qs.map Sq.c)) qs.length false)],[(0,⟨(ndL e1),0,false,0,5,true⟩)],.dead,[]⟩) (l2:ajS prog ap [] 101 (.block 2 (.loop (lT 2 (adW f8)))) ⟨[(0,.dead),(1,.dead),(2,.dead),(6,.bool false),(7,.bool true),(8,.ref 0 0 0 e1.length),(9,.sl (ndL b) b.length true),(10,.sl (scL (qs.map Sq.c)) qs.length false),(11,.dead),(12,.ref 1 0 0 w.length),(13,.int .i64 0),(14,.int .i64 (oo:Int)),(16,.dead),(17,.dead),(18,.dead),(37,.dead),(45,.dead),(57,.bool false),(66,.ref 2 0 0 7),(67,.int .i64 7),(68,.int .i64 0),(69,.dead),(82,.dead),(88,.dead),(92,.dead),(98,.dead)],[(0,⟨(ndL e1),0,true,(List.length (ndL e1)),5,true⟩),(1,⟨(ndL w),0,false,0,5,true⟩),(2,⟨[.str [111,116,104,101,114],.str [97],.str [98],.str [116,97,120],.str [119,97,103,101],.str [120,95,49],.str [97,50,51,52,53,54,55,56,57,48,49,50,51,52,53,54,55,56,57,48]],0,false,0,1,true⟩)],.dead,[]⟩ (.normal) ⟨[(7,.bool true)],[],.dead,[]⟩):CO 8 [.sl (iL xs) xs.length na,.sl (iL ys) ys.length nc,.sl (tL ts) ts.length nb] (.ret (.bool true)):=pK [0,2] 1 0 (.k 2 (mn0 ys.length) (.c (mn1 ys.length) (.k 1 (mn0 xs.length) (.c (mn1 xs.length) .nil)))) (.l l2 (.c hn (.c hA (.c hS (.l l0 (.c hc (.c m2 (.c m1 (.c hs .nil)))))))))
theorem a1A (xs ys:List Int) (ts:List (Int × Int × Int)) (na nc nb:Bool) (e b e1 w:List Nd) (qs:List Sq) (oo:Nat) (hs:CO 10 [] (.ret (.bool true))) (m1:CO 11 [.sl (List.take ((Int.toNat (if ((14:Nat):Int)<(xs.length:Int) then ((14:Nat):Int) else (xs.length:Int)))*1) (iL xs)) ((Int.toNat (if ((14:Nat):Int)<(xs.length:Int) then ((14:Nat):Int) else (xs.length:Int))) - 0) na] (.ret (.own (ndL e) e.length 5))) (m2:CO 11 [.sl (List.take ((Int.toNat (if ((14:Nat):Int)<(ys.length:Int) then ((14:Nat):Int) else (ys.length:Int)))*1) (iL ys)) ((Int.toNat (if ((14:Nat):Int)<(ys.length:Int) then ((14:Nat):Int) else (ys.length:Int))) - 0) nc] (.ret (.own (ndL b) b.length 5))) (hS:CO 22 [.sl (List.take (e1.length*5) (ndL e1)) e1.length true,.str [97],.sl (ndL b) b.length true] (.ret (.tup [.nilS,.int .i64 2]))) (hc:CO 12 [.sl (tL ts) ts.length nb] (.ret (.own (scL (qs.map Sq.c)) qs.length 4))) (l0:ajS prog ap [] 101 (.block 0 (.loop (lT 0 (adW f8)))) ⟨[(0,.sl (iL xs) xs.length na),(1,.sl (iL ys) ys.length nc),(2,.sl (tL ts) ts.length nb),(6,.bool false),(7,.bool true),(8,.ref 0 0 0 e.length),(9,.ref 1 0 0 b.length),(10,.ref 2 0 0 qs.length),(11,.int .i64 0),(12,.dead),(13,.dead),(14,.dead),(16,.dead),(17,.dead),(18,.dead),(37,.dead),(45,.dead),(57,.dead),(66,.dead),(67,.dead),(68,.dead),(69,.dead),(82,.dead),(88,.dead),(92,.dead),(98,.dead)],[(0,⟨(ndL e),0,false,0,5,true⟩),(1,⟨(ndL b),0,false,0,5,true⟩),(2,⟨(scL (qs.map Sq.c)),0,false,0,4,true⟩)],.dead,[]⟩ (.normal) ⟨[(6,.bool false),(7,.bool true),(8,.ref 0 0 0 e1.length),(9,.sl (ndL b) b.length true),(10,.sl (scL (qs.map Sq.c)) qs.length false)],[(0,⟨(ndL e1),0,false,0,5,true⟩)],.dead,[]⟩):CO 8 [.sl (iL xs) xs.length na,.sl (iL ys) ys.length nc,.sl (tL ts) ts.length nb] (.ret (.bool true)):=pK [0,2] 2 3 (.k 3 (mn0 ys.length) (.c (mn1 ys.length) (.k 1 (mn0 xs.length) (.c (mn1 xs.length) .nil)))) (.c hS (.l l0 (.c hc (.c m2 (.c m1 (.c hs .nil))))))
theorem a1B (xs ys:List Int) (ts:List (Int × Int × Int)) (na nc nb:Bool) (e b e1 w:List Nd) (qs:List Sq) (oo:Nat) (hs:CO 10 [] (.ret (.bool true))) (m1:CO 11 [.sl (List.take ((Int.toNat (if ((14:Nat):Int)<(xs.length:Int) then ((14:Nat):Int) else (xs.length:Int)))*1) (iL xs)) ((Int.toNat (if ((14:Nat):Int)<(xs.length:Int) then ((14:Nat):Int) else (xs.length:Int))) - 0) na] (.ret (.own (ndL e) e.length 5))) (m2:CO 11 [.sl (List.take ((Int.toNat (if ((14:Nat):Int)<(ys.length:Int) then ((14:Nat):Int) else (ys.length:Int)))*1) (iL ys)) ((Int.toNat (if ((14:Nat):Int)<(ys.length:Int) then ((14:Nat):Int) else (ys.length:Int))) - 0) nc] (.ret (.own (ndL b) b.length 5))) (hS:CO 22 [.sl (List.take (e1.length*5) (ndL e1)) e1.length true,.str [97],.sl (ndL b) b.length true] (.ret (.tup [.own (ndL w) w.length 5,.int .i64 0]))) (hA:CO 14 [.sl (List.take (e1.length*5) (ndL e1)) e1.length true,.sl (scL (qs.map Sq.c)) qs.length false,.int .i64 6,.str [97]] (.ret (.int .i64 (oo:Int)))) (hc:CO 12 [.sl (tL ts) ts.length nb] (.ret (.own (scL (qs.map Sq.c)) qs.length 4))) (hn:CO 13 [] (.ret (.own [.str [111,116,104,101,114],.str [97],.str [98],.str [116,97,120],.str [119,97,103,101],.str [120,95,49],.str [97,50,51,52,53,54,55,56,57,48,49,50,51,52,53,54,55,56,57,48]] 7 1))) (l0:ajS prog ap [] 101 (.block 0 (.loop (lT 0 (adW f8)))) ⟨[(0,.sl (iL xs) xs.length na),(1,.sl (iL ys) ys.length nc),(2,.sl (tL ts) ts.length nb),(6,.bool false),(7,.bool true),(8,.ref 0 0 0 e.length),(9,.ref 1 0 0 b.length),(10,.ref 2 0 0 qs.length),(11,.int .i64 0),(12,.dead),(13,.dead),(14,.dead),(16,.dead),(17,.dead),(18,.dead),(37,.dead),(45,.dead),(57,.dead),(66,.dead),(67,.dead),(68,.dead),(69,.dead),(82,.dead),(88,.dead),(92,.dead),(98,.dead)],[(0,⟨(ndL e),0,false,0,5,true⟩),(1,⟨(ndL b),0,false,0,5,true⟩),(2,⟨(scL (qs.map Sq.c)),0,false,0,4,true⟩)],.dead,[]⟩ (.normal) ⟨[(6,.bool false),(7,.bool true),(8,.ref 0 0 0 e1.length),(9,.sl (ndL b) b.length true),(10,.sl (scL (qs.map Sq.c)) qs.length false)],[(0,⟨(ndL e1),0,false,0,5,true⟩)],.dead,[]⟩) (l2:ajS prog ap [] 101 (.block 2 (.loop (lT 2 (adW f8)))) ⟨[(0,.dead),(1,.dead),(2,.dead),(6,.bool false),(7,.bool true),(8,.ref 0 0 0 e1.length),(9,.sl (ndL b) b.length true),(10,.sl (scL (qs.map Sq.c)) qs.length false),(11,.dead),(12,.ref 1 0 0 w.length),(13,.int .i64 0),(14,.int .i64 (oo:Int)),(16,.dead),(17,.dead),(18,.dead),(37,.dead),(45,.dead),(57,.bool false),(66,.ref 2 0 0 7),(67,.int .i64 7),(68,.int .i64 0),(69,.dead),(82,.dead),(88,.dead),(92,.dead),(98,.dead)],[(0,⟨(ndL e1),0,true,(List.length (ndL e1)),5,true⟩),(1,⟨(ndL w),0,false,0,5,true⟩),(2,⟨[.str [111,116,104,101,114],.str [97],.str [98],.str [116,97,120],.str [119,97,103,101],.str [120,95,49],.str [97,50,51,52,53,54,55,56,57,48,49,50,51,52,53,54,55,56,57,48]],0,false,0,1,true⟩)],.dead,[]⟩ (.normal) ⟨[(7,.bool true)],[],.dead,[]⟩):CO 8 [.sl (iL xs) xs.length na,.sl (iL ys) ys.length nc,.sl (tL ts) ts.length nb] (.ret (.bool true)):=pK [0,2] 1 0 (.k 2 (mn0 ys.length) (.c (mn1 ys.length) (.k 1 (mn0 xs.length) (.c (mn1 xs.length) .nil)))) (.l l2 (.c hn (.c hA (.c hS (.l l0 (.c hc (.c m2 (.c m1 (.c hs .nil)))))))))
end Go.Proofs.Tryz
set_option maxRecDepth 100000
open Go AM
namespace Go.Proofs.Tryz
def fpN (x:Nd):Nd:=if x.op=5 then ⟨7,x.neg,x.num,x.den,x.name⟩ else x
theorem aZf (x:Nd):(fpN x).op ≠ 5:=by
 unfold fpN;split
 ·simp
 ·assumption
theorem aZg {x:Nd} (h:x.sm):(fpN x).sm:=by unfold fpN;split;exact h;exact h
theorem aZe (x:Nd):arI (fpN x).op=arI x.op:=by
 unfold fpN;split
 ·rename_i h;rw [h];rfl
 ·rfl
theorem aOf {x:Nd} (h:al1 x=0):al1 (fpN x)=0:=by
 unfold fpN;split
 ·rename_i h5
  unfold al1 awD at*
  rw [h5] at h
  exact h
 ·exact h
theorem aOe:∀ (r:List Nd) (d e:Nat),au0 r d= .inl e→au0 (r.map fpN) d= .inl e
 | [],_,_,h=>h
 |x::r,d,e,h=>by
  obtain ⟨h1,h2,h3⟩:=awN h
  simp only [List.map_cons,au0,if_pos (aOf h1),aZe]
  rw [if_neg (by omega)]
  exact aOe r _ _ h3
theorem aNG:∀ (r:List Nd) (d e k:Nat),au0 r d= .inl e→au0 r (d+k)= .inl (e+k)
 | [],d,e,k,h=>by simp only [au0,Sum.inl.injEq] at*;omega
 |x::r,d,e,k,h=>by
  obtain ⟨h1,h2,h3⟩:=awN h
  simp only [au0,if_pos h1]
  rw [if_neg (by omega),show d+k - arI x.op+1=d - arI x.op+1+k by omega]
  exact aNG r _ _ k h3
theorem aNF:∀ (r s:List Nd) (d e:Nat),au0 r d= .inl e→au0 (r++s) d=au0 s e
 | [],s,d,e,h=>by simp only [au0,Sum.inl.injEq] at h;subst h;rfl
 |x::r,s,d,e,h=>by
  obtain ⟨h1,h2,h3⟩:=awN h
  simp only [List.cons_append,au0,if_pos h1]
  rw [if_neg (by omega)]
  exact aNF r s _ _ h3
theorem aHP {a:List UInt8} {b:List Nd} (hb:au0 b 0= .inl 1):∀ (r:List Nd) (d e:Nat),au0 r d= .inl e→au0 (awJ a b r) d= .inl e
 | [],_,_,h=>h
 | x::r,d,e,h=>by
  obtain ⟨h1,h2,h3⟩:=awN h
  rw [show awJ a b (x::r)=(if ax_ a x then b else [x])++awJ a b r by simp [awJ]]
  cases hh:ax_ a x with
  |true=>
   rw [if_pos rfl]
   have h4:=aNG b 0 1 d hb
   rw [Nat.zero_add] at h4
   rw [aNF b _ d _ h4]
   have har:arI x.op=0:=by rw [(aOn hh).1];rfl
   rw [har,Nat.sub_zero,Nat.add_comm] at h3
   exact aHP hb r _ _ h3
  |false=>
   rw [if_neg Bool.false_ne_true,List.singleton_append]
   simp only [au0,if_pos h1]
   rw [if_neg (by omega)]
   exact aHP hb r _ _ h3
def aMp (b:List Nd) (qs:List Sq) (p:Nat × List Nd):St:=⟨[(6,.bool false),(7,.bool true),(8,.ref 0 0 0 p.2.length),(9,.sl (ndL b) b.length true),(10,.sl (scL (qs.map Sq.c)) qs.length false),(11,.int .i64 (p.1:Int))],[(0,⟨ndL p.2,0,false,0,5,true⟩)],.dead,[]⟩
def aOO (b:List Nd) (qs:List Sq) (c:List Nd):St:=⟨[(6,.bool false),(7,.bool true),(8,.ref 0 0 0 c.length),(9,.sl (ndL b) b.length true),(10,.sl (scL (qs.map Sq.c)) qs.length false)],[(0,⟨ndL c,0,false,0,5,true⟩)],.dead,[]⟩
theorem aU_ {p r:List Nd} {x:Nd}:List.drop (((0+(Int.toNat (p.length:Int)))*5)+0) (ndL (p++x::r))=ndC x++ndL r:=by
 rw [Nat.zero_add,Nat.add_zero];exact aCa rfl
theorem aRD (b:List Nd) (qs:List Sq) {nt:Nat} (hn:101≤nt):∀ (r p:List Nd),p.length+r.length<2^62→aea prog ap [] nt (lT 0 (adW f8)) (fun _=> .exit 0) (aMp b qs) (aOO b qs) (p.length,p++r) (p++r.map fpN):=by
 intro r
 induction r with
 |nil=>
  intro p hl
  rw [List.map_nil,List.append_nil]
  exact .done (a_h hn b qs p p.length (by omega) (decide_eq_false (by omega)))
 | cons x r ih=>
  intro p hl
  rw [List.length_cons] at hl
  have hd:=aU_ (p:=p) (r:=r) (x:=x)
  have hh:List.headD (List.drop (((0+(Int.toNat (p.length:Int)))*5)+0) (ndL (p++x::r))) .dead= .int .i64 x.op:=by rw [hd];rfl
  have h1:decide ((p.length:Int)<(((p++x::r).length:Nat):Int))=true:=decide_eq_true (by rw [List.length_append,List.length_cons];omega)
  have hc:chk (.int .i64) (List.headD (List.drop (((0+(Int.toNat (p.length:Int)))*5)+0) (ndL (p++x::r))) .dead)=true:=by rw [hh];rfl
  have h2:=ih (p++ [fpN x]) (by rw [List.length_append,List.length_singleton];omega)
  rw [List.append_assoc,List.append_assoc,List.singleton_append,List.singleton_append,List.length_append,List.length_singleton] at h2
  rw [List.map_cons]
  refine .next ?_ h2
  by_cases h5:x.op=5
  ·have b5:((AV.toInt (List.headD (List.drop (((0+(Int.toNat (p.length:Int)))*5)+0) (ndL (p++x::r))) .dead))==((5:Nat):Int))=true:=by rw [hh];simp only [AV.toInt,h5];rfl
   have hb:Nat.ble ((((0+(Int.toNat (p.length:Int)))*5)+0)+1) (List.length (ndL (p++x::r)))=true:=by
    rw [Nat.ble_eq,aeb,av6,List.length_append,List.length_cons];omega
   have h3:=a_f hn b qs (p++x::r) p.length (by omega) h1 b5 hb hc
   have e1:(List.take (((0+(Int.toNat (p.length:Int)))*5)+0) (ndL (p++x::r))++ [.int .i64 7]++List.drop ((((0+(Int.toNat (p.length:Int)))*5)+0)+1) (ndL (p++x::r)))=ndL (p++fpN x::r):=by
    rw [← List.drop_drop,hd]
    have ht:List.take (((0+(Int.toNat (p.length:Int)))*5)+0) (ndL (p++x::r))=ndL p:=by
     rw [aB9,aeb]
     exact List.take_left' (by rw [av6];omega)
    rw [ht,aB9,aEQ,List.append_assoc]
    unfold fpN
    rw [if_pos h5]
    rfl
   rw [e1] at h3
   unfold aMp
   simp only
   rw [show (p++fpN x::r).length=(p++x::r).length by rw [List.length_append,List.length_append,List.length_cons,List.length_cons]]
   exact h3
  ·have b5:((AV.toInt (List.headD (List.drop (((0+(Int.toNat (p.length:Int)))*5)+0) (ndL (p++x::r))) .dead))==((5:Nat):Int))=false:=by rw [hh];exact beq_eq_false_iff_ne.2 h5
   have h3:=a_g hn b qs (p++x::r) p.length (by omega) h1 b5 hc
   rw [show fpN x=x by unfold fpN;rw [if_neg h5]]
   exact h3
def nmL:List (List UInt8):= [[111,116,104,101,114],[97],[98],[116,97,120],[119,97,103,101],[120,95,49],[97,50,51,52,53,54,55,56,57,48,49,50,51,52,53,54,55,56,57,48]]
theorem aRY {k:Nat} (h:k<7):List.drop ((Int.toNat (k:Int))*1) [.str [111,116,104,101,114],.str [97],.str [98],.str [116,97,120],.str [119,97,103,101],.str [120,95,49],.str [97,50,51,52,53,54,55,56,57,48,49,50,51,52,53,54,55,56,57,48]]= [AV.str (nmL.getD k [])]++(nmL.drop (k+1)).map .str:=by
 match k,h with
 |0,_=>rfl
 |1,_=>rfl
 |2,_=>rfl
 |3,_=>rfl
 |4,_=>rfl
 |5,_=>rfl
 |6,_=>rfl
def aMo (b w:List Nd) (qs:List Sq) (oo:Nat) (k:Nat):St:=⟨[(7,.bool true),(9,.sl (ndL b) b.length true),(10,.sl (scL (qs.map Sq.c)) qs.length false),(12,.sl (ndL w) w.length true),(14,.int .i64 (oo:Int)),(66,.sl [.str [111,116,104,101,114],.str [97],.str [98],.str [116,97,120],.str [119,97,103,101],.str [120,95,49],.str [97,50,51,52,53,54,55,56,57,48,49,50,51,52,53,54,55,56,57,48]] 7 true),(67,.int .i64 7),(68,.int .i64 (k:Int))],[],.dead,[]⟩
def aU1 (_:Unit):St:=⟨[(7,.bool true)],[],.dead,[]⟩
theorem aOP {nt:Nat} (hn:101≤nt) (b w:List Nd) (qs:List Sq) (oo k:Nat) (S2 S3:List UInt8→Nat) (hk:k<7) (ho:oo≤3) (h2:∀ nm,S2 nm≤3) (h3:∀ nm,S3 nm=avu (S2 nm) oo) (A2:∀ nm,CO 14 [.sl (ndL b) b.length true,.sl (scL (qs.map Sq.c)) qs.length false,.int .i64 5,.str nm] (.ret (.int .i64 ((S2 nm:Nat):Int)))) (A3:∀ nm,CO 14 [.sl (ndL w) w.length true,.sl (scL (qs.map Sq.c)) qs.length false,.int .i64 5,.str nm] (.ret (.int .i64 ((S3 nm:Nat):Int)))):
  adY prog ap [] nt (lT 2 (adW f8)) (aMo b w qs oo k) .normal (aMo b w qs oo (k+1)):=by
 have hx:=aRY hk
 generalize nmL.getD k []=nm at hx
 have h7:(decide ((k:Int)<((7:Nat):Int)))=true:=avS hk
 have h2:=h2 nm
 have h3:=h3 nm
 unfold avu at h3
 have bI:∀ {x y:Nat},x=y→(((x:Int)==(y:Int)))=true:=fun h=>by rw [h];exact beq_self_eq_true _
 have bN:∀ {x y:Nat},x ≠ y→(((x:Int)==(y:Int)))=false:=fun h=>beq_eq_false_iff_ne.2 (by omega)
 by_cases a0:S2 nm=0
 ·exact a_i hn b w qs oo k S2 S3 nm _ (by omega) A2 A3 hx h7 (bI a0) (bI (by rw [h3,if_pos (.inl a0)]))
 ·by_cases o0:oo=0
  ·exact a_j hn b w qs oo k S2 S3 nm _ (by omega) A2 A3 hx h7 (bN a0) (bI o0) (bI (by rw [h3,if_pos (.inr o0)]))
  ·rw [if_neg (by omega)] at h3
   by_cases a2:S2 nm=2
   ·by_cases o3:oo<3
    ·rw [if_pos ⟨a2,o3⟩] at h3
     have hw:IntKind.wrap .i64 (((3:Nat):Int) - (oo:Int))=((3 - oo:Nat):Int):=by
      rw [show ((3:Nat):Int) - (oo:Int)=((3 - oo:Nat):Int) by omega]
      exact an9 (by omega)
     exact a_k hn b w qs oo k S2 S3 nm _ (by omega) A2 A3 hx h7 (bN a0) (bN o0) (bI a2) (avS o3) (by rw [hw];exact bI h3)
    ·rw [if_neg (by omega),if_neg (by omega)] at h3
     exact a_l hn b w qs oo k S2 S3 nm _ (by omega) A2 A3 hx h7 (bN a0) (bN o0) (bI a2) (aDm (by omega)) (bN (by omega)) (bI h3)
   ·rw [if_neg (by omega)] at h3
    by_cases a3:S2 nm=3
    ·rw [if_pos a3] at h3
     exact a_m hn b w qs oo k S2 S3 nm _ (by omega) A2 A3 hx h7 (bN a0) (bN o0) (bN a2) (bI a3) (bI h3)
    ·rw [if_neg a3] at h3
     exact a_n hn b w qs oo k S2 S3 nm _ (by omega) A2 A3 hx h7 (bN a0) (bN o0) (bN a2) (bN a3) (bI h3)
theorem aU2 {nt:Nat} (hn:101≤nt) (b w:List Nd) (qs:List Sq) (oo:Nat) (S2 S3:List UInt8→Nat) (ho:oo≤3) (h2:∀ nm,S2 nm≤3) (h3:∀ nm,S3 nm=avu (S2 nm) oo) (A2:∀ nm,CO 14 [.sl (ndL b) b.length true,.sl (scL (qs.map Sq.c)) qs.length false,.int .i64 5,.str nm] (.ret (.int .i64 ((S2 nm:Nat):Int)))) (A3:∀ nm,CO 14 [.sl (ndL w) w.length true,.sl (scL (qs.map Sq.c)) qs.length false,.int .i64 5,.str nm] (.ret (.int .i64 ((S3 nm:Nat):Int)))):∀ (d k:Nat),k+d=7→
  aea prog ap [] nt (lT 2 (adW f8)) (fun _=> .exit 2) (aMo b w qs oo) aU1 k ():=by
 intro d
 induction d with
 |zero=>
  intro k hd
  exact .done (a_o hn b w qs oo k (aDm (by omega)))
 |succ d ih=>
  intro k hd
  exact .next (aOP hn b w qs oo k S2 S3 (by omega) ho h2 h3 A2 A3) (ih (k+1) (by omega))
theorem aOQ (e:List Nd):anX (.sl ((List.drop (0*5) (ndL e)).take (e.length*5)) e.length true) (.sl (ndL e) e.length true):=by
 rw [Nat.zero_mul,List.drop_zero,aPP];exact anX.refl _
theorem a0a (qs:List Sq):anX (.sl ((List.drop (0*4) (scL (qs.map Sq.c))).take (qs.length*4)) qs.length true) (.sl (scL (qs.map Sq.c)) qs.length false):=by
 rw [Nat.zero_mul,List.drop_zero,a2r];exact anX.sl _ _ _
theorem aZ5 (xs ys:List Int) (ts:List (Int × Int × Int)) (na nc nb:Bool) (e b:List Nd) (s':St) (h:ajS prog ap [] 101 (.block 0 (.loop (lT 0 (adW f8)))) (aMp b [] (0,e)) .normal s'):ajS prog ap [] 101 (.block 0 (.loop (lT 0 (adW f8)))) ⟨[(0,.sl (iL xs) xs.length na),(1,.sl (iL ys) ys.length nc),(2,.sl (tL ts) ts.length nb),(6,.bool false),(7,.bool true),(8,.ref 0 0 0 e.length),(9,.ref 1 0 0 b.length),(10,.nilS),(11,.int .i64 0),(12,.dead),(13,.dead),(14,.dead),(16,.dead),(17,.dead),(18,.dead),(37,.dead),(45,.dead),(57,.dead),(66,.dead),(67,.dead),(68,.dead),(69,.dead),(82,.dead),(88,.dead),(92,.dead),(98,.dead)],[(0,⟨(ndL e),0,false,0,5,true⟩),(1,⟨(ndL b),0,false,0,5,true⟩)],.dead,[]⟩ .normal s':=fun nt hn=>
 adY.ahead 1 ⟨ndL b,0,false,0,5,true⟩ (h nt hn) (Nat.zero_le _) rfl ⟨.same rfl,.same rfl,.same rfl,.fit .ref (aOQ b),.fit (.same rfl) (anX.nilS false rfl),.same rfl,trivial⟩ ⟨rfl,FzB.same rfl,by decide,rfl⟩
theorem aZ4 (xs ys:List Int) (ts:List (Int × Int × Int)) (na nc nb:Bool) (e b:List Nd) (qs:List Sq) (s':St) (h:ajS prog ap [] 101 (.block 0 (.loop (lT 0 (adW f8)))) (aMp b qs (0,e)) .normal s'):ajS prog ap [] 101 (.block 0 (.loop (lT 0 (adW f8)))) ⟨[(0,.sl (iL xs) xs.length na),(1,.sl (iL ys) ys.length nc),(2,.sl (tL ts) ts.length nb),(6,.bool false),(7,.bool true),(8,.ref 0 0 0 e.length),(9,.ref 1 0 0 b.length),(10,.ref 2 0 0 qs.length),(11,.int .i64 0),(12,.dead),(13,.dead),(14,.dead),(16,.dead),(17,.dead),(18,.dead),(37,.dead),(45,.dead),(57,.dead),(66,.dead),(67,.dead),(68,.dead),(69,.dead),(82,.dead),(88,.dead),(92,.dead),(98,.dead)],[(0,⟨(ndL e),0,false,0,5,true⟩),(1,⟨(ndL b),0,false,0,5,true⟩),(2,⟨(scL (qs.map Sq.c)),0,false,0,4,true⟩)],.dead,[]⟩ .normal s':=fun nt hn=>
 adY.ahead 2 ⟨scL (qs.map Sq.c),0,false,0,4,true⟩ (en':= [(6,.bool false),(7,.bool true),(8,.ref 0 0 0 e.length),(9,.ref 1 0 0 b.length),(10,.sl (scL (qs.map Sq.c)) qs.length false),(11,.int .i64 0)]) (hp':= [(0,⟨ndL e,0,false,0,5,true⟩),(1,⟨ndL b,0,false,0,5,true⟩)])
  (adY.ahead 1 ⟨ndL b,0,false,0,5,true⟩ (h nt hn) (Nat.zero_le _) rfl ⟨.same rfl,.same rfl,.same rfl,.fit .ref (aOQ b),.same rfl,.same rfl,trivial⟩ ⟨rfl,FzB.same rfl,by decide,rfl⟩)
  (Nat.zero_le _) rfl ⟨.same rfl,.same rfl,.same rfl,.same rfl,.fit .ref (a0a qs),.same rfl,trivial⟩ ⟨rfl,FzB.same rfl,by decide,rfl,FzB.same rfl,by decide,rfl⟩
theorem aZ6 (e1 b w:List Nd) (qs:List Sq) (oo:Nat) (s':St) (h:ajS prog ap [] 101 (.block 2 (.loop (lT 2 (adW f8)))) (aMo b w qs oo 0) .normal s'):ajS prog ap [] 101 (.block 2 (.loop (lT 2 (adW f8)))) ⟨[(0,.dead),(1,.dead),(2,.dead),(6,.bool false),(7,.bool true),(8,.ref 0 0 0 e1.length),(9,.sl (ndL b) b.length true),(10,.sl (scL (qs.map Sq.c)) qs.length false),(11,.dead),(12,.ref 1 0 0 w.length),(13,.int .i64 0),(14,.int .i64 (oo:Int)),(16,.dead),(17,.dead),(18,.dead),(37,.dead),(45,.dead),(57,.bool false),(66,.ref 2 0 0 7),(67,.int .i64 7),(68,.int .i64 0),(69,.dead),(82,.dead),(88,.dead),(92,.dead),(98,.dead)],[(0,⟨(ndL e1),0,true,(List.length (ndL e1)),5,true⟩),(1,⟨(ndL w),0,false,0,5,true⟩),(2,⟨[.str [111,116,104,101,114],.str [97],.str [98],.str [116,97,120],.str [119,97,103,101],.str [120,95,49],.str [97,50,51,52,53,54,55,56,57,48,49,50,51,52,53,54,55,56,57,48]],0,false,0,1,true⟩)],.dead,[]⟩ .normal s':=fun nt hn=>
 adY.ahead 2 ⟨[.str [111,116,104,101,114],.str [97],.str [98],.str [116,97,120],.str [119,97,103,101],.str [120,95,49],.str [97,50,51,52,53,54,55,56,57,48,49,50,51,52,53,54,55,56,57,48]],0,false,0,1,true⟩ (en':= [(7,.bool true),(9,.sl (ndL b) b.length true),(10,.sl (scL (qs.map Sq.c)) qs.length false),(12,.ref 1 0 0 w.length),(14,.int .i64 (oo:Int)),(66,.sl [.str [111,116,104,101,114],.str [97],.str [98],.str [116,97,120],.str [119,97,103,101],.str [120,95,49],.str [97,50,51,52,53,54,55,56,57,48,49,50,51,52,53,54,55,56,57,48]] 7 true),(67,.int .i64 7),(68,.int .i64 0)]) (hp':= [(0,⟨ndL e1,0,true,(List.length (ndL e1)),5,true⟩),(1,⟨ndL w,0,false,0,5,true⟩)])
  (adY.ahead 1 ⟨ndL w,0,false,0,5,true⟩ (en':= [(7,.bool true),(9,.sl (ndL b) b.length true),(10,.sl (scL (qs.map Sq.c)) qs.length false),(12,.sl (ndL w) w.length true),(14,.int .i64 (oo:Int)),(66,.sl [.str [111,116,104,101,114],.str [97],.str [98],.str [116,97,120],.str [119,97,103,101],.str [120,95,49],.str [97,50,51,52,53,54,55,56,57,48,49,50,51,52,53,54,55,56,57,48]] 7 true),(67,.int .i64 7),(68,.int .i64 0)]) (hp':= [(0,⟨ndL e1,0,true,(List.length (ndL e1)),5,true⟩)])
   (adY.ahead 0 ⟨ndL e1,0,true,(List.length (ndL e1)),5,true⟩ (h nt hn) (Nat.zero_le _) rfl ⟨.same rfl,.same rfl,.same rfl,.same rfl,.same rfl,.same rfl,.same rfl,.same rfl,trivial⟩ rfl)
   (Nat.zero_le _) rfl ⟨.same rfl,.same rfl,.same rfl,.fit .ref (aOQ w),.same rfl,.same rfl,.same rfl,.same rfl,trivial⟩ ⟨rfl,FzB.same rfl,by decide,rfl⟩)
  (Nat.zero_le _) rfl ⟨.same rfl,.same rfl,.same rfl,.same rfl,.same rfl,.ref,.same rfl,.same rfl,trivial⟩ ⟨rfl,FzB.same rfl,by decide,rfl,FzB.same rfl,by decide,rfl⟩
theorem aWd {α:Type} (l:List α):List.take (min 14 l.length) l=List.take 14 l:=by
 rcases Nat.le_total 14 l.length with h|h
 ·rw [Nat.min_eq_left h]
 ·rw [Nat.min_eq_right h,List.take_length,List.take_of_length_le h]
theorem a5f (xs:List Int) (na:Bool):AV.sl (List.take ((Int.toNat (if ((14:Nat):Int)<(xs.length:Int) then ((14:Nat):Int) else (xs.length:Int)))*1) (iL xs)) ((Int.toNat (if ((14:Nat):Int)<(xs.length:Int) then ((14:Nat):Int) else (xs.length:Int))) - 0) na= .sl (iL (xs.take 14)) (xs.take 14).length na:=by
 rw [a9R,Nat.mul_one,Nat.sub_zero,List.length_take]
 have h:List.take (min 14 xs.length) (iL xs)=iL (xs.take 14):=by
  unfold iL
  rw [← aWd xs,List.map_take]
 rw [h]
theorem aOR (xs:List Int) (nn:Bool):∃ e:List Nd,e ≠ []∧e.length≤29∧aud e=0∧(∀ x ∈ e,x.sm)∧CO 11 [AV.sl (List.take ((Int.toNat (if ((14:Nat):Int)<(xs.length:Int) then ((14:Nat):Int) else (xs.length:Int)))*1) (iL xs)) ((Int.toNat (if ((14:Nat):Int)<(xs.length:Int) then ((14:Nat):Int) else (xs.length:Int))) - 0) nn] (.ret (.own (ndL e) e.length 5)):=by
 rw [a5f]
 obtain ⟨e,h1,h2,_,h4,h5,h6⟩:=aMr (xs.take 14) nn
 refine ⟨e,h1, ?_,h4,h5,h6⟩
 rw [List.length_take] at h2
 omega
theorem aWG (xs ys:List Int) (ts:List (Int × Int × Int)) (na nc nb:Bool):CO 8 [.sl (iL xs) xs.length na,.sl (iL ys) ys.length nc,.sl (tL ts) ts.length nb] (.ret (.bool true)):=by
 obtain ⟨e,he,hel,hce,hse,hm1⟩:=aOR xs na
 obtain ⟨b,hb,hbl,hcb,hsb,hm2⟩:=aOR ys nc
 obtain ⟨qs,hM,hq,hc⟩:=aML ts nb
 have hk:aud (e.map fpN)=0:=aD8 (aOe e 0 1 (azv hce).1) (by rw [List.length_map];omega)
 have he1:e.map fpN ≠ []:=by cases e with|nil=>exact absurd rfl he|cons _ _=>exact List.cons_ne_nil _ _
 have hs1:∀ x ∈ e.map fpN,x.sm:=by
  intro x hx
  obtain ⟨y,hy,rfl⟩:=List.mem_map.1 hx
  exact aZg (hse y hy)
 have h5:∀ x ∈ e.map fpN,x.op ≠ 5:=by
  intro x hx
  obtain ⟨y,_,rfl⟩:=List.mem_map.1 hx
  exact aZf y
 have hS:=aPN (e.map fpN) b [97] true true (by rw [List.length_map];omega) he1 hb (by omega) hs1 hsb hk hcb
 have hL0:∀ q:List Sq,ajS prog ap [] 101 (.block 0 (.loop (lT 0 (adW f8)))) (aMp b q (0,e)) .normal (aOO b q (e.map fpN)):=fun q=>
  aea.blk (s:=aMp b q (0,e)) (s':=aOO b q (e.map fpN)) (id:=0) (fun nt hn=>aRD b q hn e [] (by rw [List.length_nil];omega)) (by simp) rfl (anT.refl _) (anT.refl _)
 have hel1:(e.map fpN).length≤29:=by rw [List.length_map];exact hel
 generalize e.map fpN=e1 at*
 rw [← aPP e1] at hS
 by_cases hw:60<(awJ [97] b e1).length
 ·rw [if_pos hw] at hS
  cases qs with
  |nil=>exact a1C xs ys ts na nc nb e b e1 [] [] 0 aAN hm1 hm2 hS hc (aZ5 xs ys ts na nc nb e b _ (hL0 []))
  |cons q0 q1=>exact a1A xs ys ts na nc nb e b e1 [] (q0::q1) 0 aAN hm1 hm2 hS hc (aZ4 xs ys ts na nc nb e b (q0::q1) _ (hL0 _))
 ·rw [if_neg hw] at hS
  have hkw:aud (awJ [97] b e1)=0:=aD8 (aHP (azv hcb).1 e1 0 1 (azv hk).1) (by omega)
  have hsw:∀ x ∈ awJ [97] b e1,x.sm:=by
   intro x hx
   unfold awJ at hx
   obtain ⟨y,hy,hx⟩:=List.mem_flatMap.1 hx
   split at hx
   ·exact hsb x hx
   ·rw [List.mem_singleton] at hx;subst hx;exact hs1 x hy
  have A1:=an8 e1 true qs false axe 6 [97] hs1 (by omega) (by omega) (aCP aJJ hM)
  have A2:∀ nm,CO 14 [.sl (ndL b) b.length true,.sl (scL (qs.map Sq.c)) qs.length false,.int .i64 5,.str nm] (.ret (.int .i64 ((aHK b qs 5 nm:Nat):Int))):=fun nm=>an8 b true qs false axe 5 nm hsb (by omega) (by omega) (aCP aJJ hM)
  have A3:∀ nm,CO 14 [.sl (ndL (awJ [97] b e1)) (awJ [97] b e1).length true,.sl (scL (qs.map Sq.c)) qs.length false,.int .i64 5,.str nm] (.ret (.int .i64 ((aHK (awJ [97] b e1) qs 5 nm:Nat):Int))):=fun nm=>an8 _ true qs false axe 5 nm hsw (by omega) (by omega) (aCP aJJ hM)
  have h3:∀ nm,aHK (awJ [97] b e1) qs 5 nm=avu (aHK b qs 5 nm) (aHK e1 qs 6 [97]):=fun nm=>aMR hcb hk hkw h5
  have hL2:ajS prog ap [] 101 (.block 2 (.loop (lT 2 (adW f8)))) (aMo b (awJ [97] b e1) qs (aHK e1 qs 6 [97]) 0) .normal (aU1 ()):=
   aea.blk (s:=aMo b (awJ [97] b e1) qs (aHK e1 qs 6 [97]) 0) (s':=aU1 ()) (id:=2) (fun nt hn=>aU2 hn b _ qs _ (aHK b qs 5) (aHK (awJ [97] b e1) qs 5) aKy (fun _=>aKy) h3 A2 A3 7 0 rfl) (by simp) rfl (anT.refl _) (anT.refl _)
  rw [← aPP e1] at A1
  generalize awJ [97] b e1=w at*
  cases qs with
  |nil=>exact a1D xs ys ts na nc nb e b e1 w [] _ aAN hm1 hm2 hS A1 hc a0s (aZ5 xs ys ts na nc nb e b _ (hL0 [])) (aZ6 e1 b w [] _ _ hL2)
  |cons q0 q1=>exact a1B xs ys ts na nc nb e b e1 w (q0::q1) _ aAN hm1 hm2 hS A1 hc a0s (aZ4 xs ys ts na nc nb e b (q0::q1) _ (hL0 _)) (aZ6 e1 b w (q0::q1) _ _ hL2)
end Go.Proofs.Tryz
set_option maxRecDepth 100000
open Go AM Go.ChangeShapes Go.WideShapes Go.ChangeAt Go.RowKit
namespace Go.Proofs.Tryz
noncomputable def aEE (t:TypeId) (d:DataW Unit):List Lit:=((axA prog 6 t d 0).getD []).map (·.2)
open Go.Proofs.YtcjindbblhcopaaGreatDoor
def aOE:List (String × DataW Unit):= [("unicode/utf8.acceptRanges",Rows.laid_unicode_utf8_acceptRanges),("tithing/expr.table",Rows.laid_tithing_expr_table),("unicode/utf8.first",Rows.laid_unicode_utf8_first)]
theorem aMv:aOE.filter (fun x=>x.2.handleName?.isSome)= []:=by kernel_rfl
theorem aZl {W:World} (h:laidMetH prog aOE W):aNv ap W:=by
 have c (i:Nat) (n:String) (d:DataW Unit) (hm:aOE[i]? =some (n,d)) (g:Nat) (t:TypeId) (hg:prog.globalNamed n=some g) (ht:(prog.globals[g]?).map (·.type)=some t)
   (hl:axA prog 6 t d 0=some ((aEE t d).zipIdx.map fun (l,i)=>(i,l))):=aKa h aMv (List.mem_of_getElem? hm) hg ht hl
 have c0:=c 1 _ _ rfl 0 105 (by kernel_rfl) (by kernel_rfl) (by kernel_rfl)
 have c2:=c 0 _ _ rfl 2 219 (by kernel_rfl) (by kernel_rfl) (by kernel_rfl)
 have key (k:Nat) (t:TypeId) (d:DataW Unit) (hx:(ap.gl[k]?).join=some ((aEE t d).map aIC)) (ho:(aEE t d).all aED=true) (hc:∀ (j:Nat) (l:Lit),(aEE t d)[j]? =some l→W.cell? ⟨k,j,none⟩=some (ayO l)):
   ∀ xs,(ap.gl[k]?).join=some xs→∃ ls:List Lit,xs=ls.map aIC∧ls.all aED=true∧∀ (j:Nat) (l:Lit),ls[j]? =some l→W.cell? ⟨k,j,none⟩=some (ayO l):=by
  intro xs hxs
  rw [hx] at hxs
  cases hxs
  exact ⟨_,rfl,ho,hc⟩
 intro k
 match k with
 |0=>exact key 0 _ _ (by kernel_rfl) (by kernel_rfl) c0
 |1=>intro xs hxs;exact absurd (show (none:Option (List AV))=some xs from hxs) (by simp)
 |2=>exact key 2 _ _ (by kernel_rfl) (by kernel_rfl) c2
 |3=>intro xs hxs;exact absurd (show (none:Option (List AV))=some xs from hxs) (by simp)
 |k+4=>
  intro xs hxs
  have:ap.gl.length=4:=by kernel_rfl
  rw [List.getElem?_eq_none (by omega)] at hxs
  cases hxs
theorem own:ownKnob prog.godebug=none:=by kernel_rfl
theorem a2X:laidOutB prog=true:=by kernel_rfl
noncomputable def aVW (t:TypeId) (d:DataW Unit):Obj→Obj
 | .cells _ t' fr=> .cells ((aEE t d).map ayO).toArray t' fr
 |o=>o
noncomputable def aWF (os:Os):World:=
 let w:=World.holding prog os ⟨#[],#[],[]⟩
 {w with heap:=((w.heap.modify 0 (aVW 105 Rows.laid_tithing_expr_table)).modify 1 (aVW 216 Rows.laid_unicode_utf8_first)).modify 2 (aVW 219 Rows.laid_unicode_utf8_acceptRanges)}
end Go.Proofs.Tryz
