/- Contracts of functions that the law reaches, each by its own hypotheses; joined by a program of mine. -/
import Derived.Test.YtcjindbblhcopaaGreatDoorC2
import Derived.Test.YtcjindbblhcopaaGreatDoorM5
import Derived.Test.YtcjindbblhcopaaGreatDoorC1
import Derived.Test.YtcjindbblhcopaaGreatDoorM4
import Derived.Test.YtcjindbblhcopaaGreatDoorCards
import Derived.Test.YtcjindbblhcopaaGreatDoorTie
import Derived.Deep.DeepHandedRow
set_option linter.unusedSimpArgs false
set_option linter.unusedVariables false
set_option maxRecDepth 100000
open Go AM
namespace Go.Proofs.Tryz
theorem wd1 {k:Nat} (h:k<2^62):AV.int .i64 (IntKind.wrap .i64 ((k:Int)+((1:Nat):Int)))= .int .i64 ((k+1:Nat):Int):=by
 have e:IntKind.wrap .i64 ((k:Int)+((1:Nat):Int))=((k+1:Nat):Int):=by rw [auI]<;>omega
 rw [e]
theorem nnW (k:Nat):decide (((0:Nat):Int)≤(k:Int))=true:=decide_eq_true (by omega)
theorem aw4 {k n:Nat} (h:k<n):decide ((k:Int)<(n:Int))=true:=decide_eq_true (by omega)
theorem aL5 {k n:Nat} (h:k≤n):decide ((k:Int)≤(n:Int))=true:=decide_eq_true (by omega)
def azm (w:List UInt8):List UInt8→Nat
 | []=>0
 |c::r=>if w.any (fun b=>c==b) then azm w r+1 else 0
theorem aG2 (w:List UInt8):∀ s,azm w s≤s.length
 | []=>Nat.le_refl _
 |c::r=>by
  unfold azm
  split
  ·have:=aG2 w r;simp only [List.length_cons];omega
  ·exact Nat.zero_le _
theorem aS3 (a b:UInt8):((a.toNat:Int)==(b.toNat:Int))=(a==b):=by
 by_cases h:a=b
 ·subst h;simp
 ·have:a.toNat ≠ b.toNat:=fun e=>h (UInt8.toNat_inj.1 e)
  rw [beq_eq_false_iff_ne.2 h,beq_eq_false_iff_ne.2 (by omega)]
def wia (s w:List UInt8) (bg:Int) (bd:Bool) (n:Nat) (p:Nat × Bool):St:=⟨[(0,.ptr 0 0 0),(1,.str w),(5,.int .i64 (n:Int)),(6,.bool p.2),(7,.int .i64 (p.1:Int))],[(0,⟨[.str s,.nilS,.int .i64 bg,.bool bd],0,false,0,0,true⟩)],.dead,[]⟩
def woa (s w:List UInt8) (bg:Int) (bd:Bool) (n:Nat) (inn:Bool):St:=⟨[(0,.ptr 0 0 0),(1,.str w),(5,.int .i64 (n:Int)),(6,.bool inn)],[(0,⟨[.str s,.nilS,.int .i64 bg,.bool bd],0,false,0,0,true⟩)],.dead,[]⟩
theorem wla {nt:Nat} (hn:55≤nt) (s w:List UInt8) (bg:Int) (bd:Bool) (n:Nat) (hns:n<s.length) (hw:w.length<2^40):∀ (d k:Nat) (inn:Bool),k+d=w.length→
  aeb prog ap [⟨[.str s,.nilS,.int .i64 bg,.bool bd],0,false,0,0,true⟩] nt (lT 2 (adW f92)) (fun _=> .exit 2) (wia s w bg bd n) (woa s w bg bd n) (k,inn) (inn||(w.drop k).any (fun b=>s.getD n 0==b)):=by
 intro d
 induction d with
 |zero=>
  intro k inn hk
  have b0:(decide ((k:Int)<(((List.length w):Nat):Int)))=false:=decide_eq_false (by omega)
  rw [List.drop_of_length_le (by omega),List.any_nil,Bool.or_false]
  exact .done (pN 92 [] 1 0 (.c (ajS b0) .nil) (.nil) hn)
 | succ d ih=>
  intro k inn hk
  have b0:(decide ((k:Int)<(((List.length w):Nat):Int)))=true:=decide_eq_true (by omega)
  have hkl:k<w.length:=by omega
  have hw:k<2^62:=by omega
  have e1:(w.drop k).any (fun b=>s.getD n 0==b)=(s.getD n 0==w.getD k 0||(w.drop (k+1)).any (fun b=>s.getD n 0==b)):=by
   rw [List.drop_eq_getElem_cons hkl,List.any_cons,List.getD_eq_getElem?_getD,List.getD_eq_getElem?_getD (l:=w),List.getElem?_eq_getElem hkl];rfl
  rw [e1]
  rcases tf inn with b1|b1
  ·have:=ih (k+1) true (by omega)
   rw [Bool.true_or] at this
   rw [show (inn||(s.getD n 0==w.getD k 0||(w.drop (k+1)).any (fun b=>s.getD n 0==b)))=true by rw [b1,Bool.true_or]]
   exact .next (pN 92 [] 2 3 (.c (al1 b1) (.c (al1 b0) .nil)) (.v 7 (.eq (wd1 hw)) .nil) hn) this
  ·have:=ih (k+1) (s.getD n 0==w.getD k 0) (by omega)
   rw [show (inn||(s.getD n 0==w.getD k 0||(w.drop (k+1)).any (fun b=>s.getD n 0==b)))=(s.getD n 0==w.getD k 0||(w.drop (k+1)).any (fun b=>s.getD n 0==b)) by rw [b1,Bool.false_or]]
   rw [← aS3 (s.getD n 0) (w.getD k 0)] at this ⊢
   exact .next (pN 92 [] 2 1 (.c (nnW k) (.c (aw4 hkl) (.c (nnW n) (.c (aw4 hns) (.k 1 (ajS b1) (.c (al1 b0) .nil)))))) (.v 7 (.eq (wd1 hw)) .nil) hn) this
def wsa (s w:List UInt8) (bg:Int) (bd:Bool) (n:Nat):St:=⟨[(0,.ptr 0 0 0),(1,.str w),(5,.int .i64 (n:Int))],[(0,⟨[.str s,.nilS,.int .i64 bg,.bool bd],0,false,0,0,true⟩)],.dead,[]⟩
def wra (s w:List UInt8) (bg:Int) (bd:Bool) (n:Nat):St:=⟨[(0,.ptr 0 0 0),(5,.int .i64 (n:Int))],[(0,⟨[.str s,.nilS,.int .i64 bg,.bool bd],0,false,0,0,true⟩)],.dead,[]⟩
theorem wma {nt:Nat} (hn:55≤nt) (s w:List UInt8) (bg:Int) (bd:Bool) (hs:s.length<2^40) (hw:w.length<2^40):∀ (r p:List UInt8),p++r=s→
  aeb prog ap [⟨[.str s,.nilS,.int .i64 bg,.bool bd],0,false,0,0,true⟩] nt (lT 0 (adW f92)) (fun _=> .exit 0) (wsa s w bg bd) (wra s w bg bd) p.length (p.length+azm w r):=by
 intro r
 induction r with
 |nil=>
  intro p hp
  have hl:p.length=s.length:=by rw [← hp];simp
  generalize p.length=n at*
  have b0:(decide ((n:Int)<(((List.length s):Nat):Int)))=false:=decide_eq_false (by omega)
  exact .done (pN 92 [2] 1 0 (.c (ajS b0) (.n 1 .nil)) (.nil) hn)
 | cons c r ih=>
  intro p hp
  have hl:p.length<s.length:=by rw [← hp];simp
  have hc:s.getD p.length 0=c:=by rw [← hp,List.getD_eq_getElem?_getD];simp
  have hnx:=ih (p++ [c]) (by rw [← hp];simp)
  rw [List.length_append,List.length_singleton] at hnx
  unfold azm
  generalize p.length=n at*
  have b0:(decide ((n:Int)<(((List.length s):Nat):Int)))=true:=decide_eq_true (by omega)
  have hw':n<2^62:=by omega
  have l0:∀ inn,inn=w.any (fun b=>c==b)→anO prog ap [⟨[.str s,.nilS,.int .i64 bg,.bool bd],0,false,0,0,true⟩] 55 (.block 2 (.loop (lT 2 (adW f92)))) ⟨[(0,.ptr 0 0 0),(1,.str w),(4,.dead),(5,.int .i64 (n:Int)),(6,.bool false),(7,.int .i64 0),(8,.dead),(15,.bool (decide ((n:Int)<(((List.length s):Nat):Int)))),(19,.dead),(36,.dead)],[(0,⟨[.str s,.nilS,.int .i64 bg,.bool bd],0,false,0,0,true⟩)],.dead,[]⟩ (.normal) ⟨[(0,.ptr 0 0 0),(1,.str w),(5,.int .i64 (n:Int)),(6,.bool inn)],[(0,⟨[.str s,.nilS,.int .i64 bg,.bool bd],0,false,0,0,true⟩)],.dead,[]⟩:=by
   intro inn hi
   have h:∀ nt,55≤nt→aeb prog ap [⟨[.str s,.nilS,.int .i64 bg,.bool bd],0,false,0,0,true⟩] nt (lT 2 (adW f92)) (fun _=> .exit 2) (wia s w bg bd n) (woa s w bg bd n) (0,false) inn:=by
    intro nt hn
    have:=wla hn s w bg bd n hl hw w.length 0 false (Nat.zero_add _)
    rw [List.drop_zero,hc,Bool.false_or,← hi] at this
    exact this
   exact aeb.blk h (by simp) rfl (anW.of ⟨rfl,rfl,rfl,rfl,rfl,trivial⟩) (anW.of ⟨rfl,rfl,rfl,rfl,trivial⟩)
  rcases tf (w.any (fun b=>c==b)) with b1|b1
  ·rw [if_pos b1]
   have hi:(true:Bool)=w.any (fun b=>c==b):=b1.symm
   have l0:=l0 true hi
   rw [show n+(azm w r+1)=n+1+azm w r by omega]
   have hw:=hw'
   exact .next (pN 92 [2] 2 1 (.k 1 (al1 b0) (.n 1 .nil)) (.v 38 (.eq (wd1 hw)) (.l l0 .nil)) hn) hnx
  ·rw [if_neg (by rw [b1];decide)]
   have hi:(false:Bool)=w.any (fun b=>c==b):=b1.symm
   have l0:=l0 false hi
   exact .done (pN 92 [2] 2 3 (.k 1 (al1 b0) (.n 1 .nil)) (.l l0 .nil) hn)
theorem wfa (s w:List UInt8) (bg:Int) (bd:Bool) (n:Nat) (hns:n≤s.length) (l0:anO prog ap [⟨[.str s,.nilS,.int .i64 bg,.bool bd],0,false,0,0,true⟩] 55 (.block 0 (.loop (lT 0 (adW f92)))) ⟨[(0,.ptr 0 0 0),(1,.str w),(4,.str []),(5,.int .i64 0),(6,.dead),(7,.dead),(8,.dead),(15,.dead),(19,.dead),(36,.dead)],[(0,⟨[.str s,.nilS,.int .i64 bg,.bool bd],0,false,0,0,true⟩)],.dead,[]⟩ (.normal) ⟨[(0,.ptr 0 0 0),(5,.int .i64 (n:Int))],[(0,⟨[.str s,.nilS,.int .i64 bg,.bool bd],0,false,0,0,true⟩)],.dead,[]⟩):adY prog ap 92 [.ptr 0 0 0,.str w] [⟨[.str s,.nilS,.int .i64 bg,.bool bd],0,false,0,0,true⟩] (.ret (.str (List.drop 0 (List.take (Int.toNat (n:Int)) s)))) [⟨[.str (List.drop (Int.toNat (n:Int)) (List.take (Int.toNat (((List.length s):Nat):Int)) s)),.nilS,.int .i64 bg,.bool bd],0,false,0,0,true⟩]:=pK [0] 0 0 (.k 1 (nnW n) (.c (aL5 hns) (.c (aL5 (Nat.le_refl s.length)) (.k 2 (nnW n) (.c (aL5 hns) (.n 1 .nil)))))) (.l l0 .nil)
theorem avx (s w:List UInt8) (bg:Int) (bd:Bool) (hs:s.length<2^40) (hw:w.length<2^40):adY prog ap 92 [.ptr 0 0 0,.str w] [⟨[.str s,.nilS,.int .i64 bg,.bool bd],0,false,0,0,true⟩] (.ret (.str (List.drop 0 (List.take (Int.toNat ((azm w s:Nat):Int)) s)))) [⟨[.str (List.drop (Int.toNat ((azm w s:Nat):Int)) (List.take (Int.toNat (((List.length s):Nat):Int)) s)),.nilS,.int .i64 bg,.bool bd],0,false,0,0,true⟩]:=by
 have h:∀ nt,55≤nt→aeb prog ap [⟨[.str s,.nilS,.int .i64 bg,.bool bd],0,false,0,0,true⟩] nt (lT 0 (adW f92)) (fun _=> .exit 0) (wsa s w bg bd) (wra s w bg bd) 0 (azm w s):=by
  intro nt hn
  have:=wma hn s w bg bd hs hw s [] rfl
  rw [List.length_nil,Nat.zero_add] at this
  exact this
 exact wfa s w bg bd (azm w s) (aG2 w s) (aeb.blk h (by simp) rfl (anW.of ⟨rfl,rfl,rfl,trivial⟩) (anW.of ⟨rfl,rfl,trivial⟩))
def wib (s w:List UInt8) (bg:Int) (bd:Bool) (m:Nat) (os:List AV) (n:Nat) (p:Nat × Bool):St:=⟨[(0,.ptr 0 0 0),(1,.str w),(5,.int .i64 (n:Int)),(6,.bool p.2),(7,.int .i64 (p.1:Int))],[(0,⟨[.str s,.ref 1 0 0 m,.int .i64 bg,.bool bd],0,false,0,0,false⟩),(1,⟨os,0,false,0,5,true⟩)],.dead,[]⟩
def wob (s w:List UInt8) (bg:Int) (bd:Bool) (m:Nat) (os:List AV) (n:Nat) (inn:Bool):St:=⟨[(0,.ptr 0 0 0),(1,.str w),(5,.int .i64 (n:Int)),(6,.bool inn)],[(0,⟨[.str s,.ref 1 0 0 m,.int .i64 bg,.bool bd],0,false,0,0,false⟩),(1,⟨os,0,false,0,5,true⟩)],.dead,[]⟩
theorem wlb {nt:Nat} (hn:55≤nt) (s w:List UInt8) (bg:Int) (bd:Bool) (m:Nat) (os:List AV) (n:Nat) (hns:n<s.length) (hw:w.length<2^40):∀ (d k:Nat) (inn:Bool),k+d=w.length→
  aeb prog ap [⟨[.str s,.ref 1 0 0 m,.int .i64 bg,.bool bd],0,false,0,0,false⟩,⟨os,0,false,0,5,true⟩] nt (lT 2 (adW f92)) (fun _=> .exit 2) (wib s w bg bd m os n) (wob s w bg bd m os n) (k,inn) (inn||(w.drop k).any (fun b=>s.getD n 0==b)):=by
 intro d
 induction d with
 |zero=>
  intro k inn hk
  have b0:(decide ((k:Int)<(((List.length w):Nat):Int)))=false:=decide_eq_false (by omega)
  rw [List.drop_of_length_le (by omega),List.any_nil,Bool.or_false]
  exact .done (pN 92 [] 1 0 (.c (ajS b0) .nil) (.nil) hn)
 | succ d ih=>
  intro k inn hk
  have b0:(decide ((k:Int)<(((List.length w):Nat):Int)))=true:=decide_eq_true (by omega)
  have hkl:k<w.length:=by omega
  have hw:k<2^62:=by omega
  have e1:(w.drop k).any (fun b=>s.getD n 0==b)=(s.getD n 0==w.getD k 0||(w.drop (k+1)).any (fun b=>s.getD n 0==b)):=by
   rw [List.drop_eq_getElem_cons hkl,List.any_cons,List.getD_eq_getElem?_getD,List.getD_eq_getElem?_getD (l:=w),List.getElem?_eq_getElem hkl];rfl
  rw [e1]
  rcases tf inn with b1|b1
  ·have:=ih (k+1) true (by omega)
   rw [Bool.true_or] at this
   rw [show (inn||(s.getD n 0==w.getD k 0||(w.drop (k+1)).any (fun b=>s.getD n 0==b)))=true by rw [b1,Bool.true_or]]
   exact .next (pN 92 [] 2 3 (.c (al1 b1) (.c (al1 b0) .nil)) (.v 7 (.eq (wd1 hw)) .nil) hn) this
  ·have:=ih (k+1) (s.getD n 0==w.getD k 0) (by omega)
   rw [show (inn||(s.getD n 0==w.getD k 0||(w.drop (k+1)).any (fun b=>s.getD n 0==b)))=(s.getD n 0==w.getD k 0||(w.drop (k+1)).any (fun b=>s.getD n 0==b)) by rw [b1,Bool.false_or]]
   rw [← aS3 (s.getD n 0) (w.getD k 0)] at this ⊢
   exact .next (pN 92 [] 2 1 (.c (nnW k) (.c (aw4 hkl) (.c (nnW n) (.c (aw4 hns) (.k 1 (ajS b1) (.c (al1 b0) .nil)))))) (.v 7 (.eq (wd1 hw)) .nil) hn) this
def wsb (s w:List UInt8) (bg:Int) (bd:Bool) (m:Nat) (os:List AV) (n:Nat):St:=⟨[(0,.ptr 0 0 0),(1,.str w),(5,.int .i64 (n:Int))],[(0,⟨[.str s,.ref 1 0 0 m,.int .i64 bg,.bool bd],0,false,0,0,false⟩),(1,⟨os,0,false,0,5,true⟩)],.dead,[]⟩
def wrb (s w:List UInt8) (bg:Int) (bd:Bool) (m:Nat) (os:List AV) (n:Nat):St:=⟨[(0,.ptr 0 0 0),(5,.int .i64 (n:Int))],[(0,⟨[.str s,.ref 1 0 0 m,.int .i64 bg,.bool bd],0,false,0,0,false⟩),(1,⟨os,0,false,0,5,true⟩)],.dead,[]⟩
theorem wmb {nt:Nat} (hn:55≤nt) (s w:List UInt8) (bg:Int) (bd:Bool) (m:Nat) (os:List AV) (hs:s.length<2^40) (hw:w.length<2^40):∀ (r p:List UInt8),p++r=s→
  aeb prog ap [⟨[.str s,.ref 1 0 0 m,.int .i64 bg,.bool bd],0,false,0,0,false⟩,⟨os,0,false,0,5,true⟩] nt (lT 0 (adW f92)) (fun _=> .exit 0) (wsb s w bg bd m os) (wrb s w bg bd m os) p.length (p.length+azm w r):=by
 intro r
 induction r with
 |nil=>
  intro p hp
  have hl:p.length=s.length:=by rw [← hp];simp
  generalize p.length=n at*
  have b0:(decide ((n:Int)<(((List.length s):Nat):Int)))=false:=decide_eq_false (by omega)
  exact .done (pN 92 [2] 1 0 (.c (ajS b0) (.n 1 .nil)) (.nil) hn)
 | cons c r ih=>
  intro p hp
  have hl:p.length<s.length:=by rw [← hp];simp
  have hc:s.getD p.length 0=c:=by rw [← hp,List.getD_eq_getElem?_getD];simp
  have hnx:=ih (p++ [c]) (by rw [← hp];simp)
  rw [List.length_append,List.length_singleton] at hnx
  unfold azm
  generalize p.length=n at*
  have b0:(decide ((n:Int)<(((List.length s):Nat):Int)))=true:=decide_eq_true (by omega)
  have hw':n<2^62:=by omega
  have l0:∀ inn,inn=w.any (fun b=>c==b)→anO prog ap [⟨[.str s,.ref 1 0 0 m,.int .i64 bg,.bool bd],0,false,0,0,false⟩,⟨os,0,false,0,5,true⟩] 55 (.block 2 (.loop (lT 2 (adW f92)))) ⟨[(0,.ptr 0 0 0),(1,.str w),(4,.dead),(5,.int .i64 (n:Int)),(6,.bool false),(7,.int .i64 0),(8,.dead),(15,.bool (decide ((n:Int)<(((List.length s):Nat):Int)))),(19,.dead),(36,.dead)],[(0,⟨[.str s,.ref 1 0 0 m,.int .i64 bg,.bool bd],0,false,0,0,false⟩),(1,⟨os,0,false,0,5,true⟩)],.dead,[]⟩ (.normal) ⟨[(0,.ptr 0 0 0),(1,.str w),(5,.int .i64 (n:Int)),(6,.bool inn)],[(0,⟨[.str s,.ref 1 0 0 m,.int .i64 bg,.bool bd],0,false,0,0,false⟩),(1,⟨os,0,false,0,5,true⟩)],.dead,[]⟩:=by
   intro inn hi
   have h:∀ nt,55≤nt→aeb prog ap [⟨[.str s,.ref 1 0 0 m,.int .i64 bg,.bool bd],0,false,0,0,false⟩,⟨os,0,false,0,5,true⟩] nt (lT 2 (adW f92)) (fun _=> .exit 2) (wib s w bg bd m os n) (wob s w bg bd m os n) (0,false) inn:=by
    intro nt hn
    have:=wlb hn s w bg bd m os n hl hw w.length 0 false (Nat.zero_add _)
    rw [List.drop_zero,hc,Bool.false_or,← hi] at this
    exact this
   exact aeb.blk h (by simp) rfl (anW.of ⟨rfl,rfl,rfl,rfl,rfl,trivial⟩) (anW.of ⟨rfl,rfl,rfl,rfl,trivial⟩)
  rcases tf (w.any (fun b=>c==b)) with b1|b1
  ·rw [if_pos b1]
   have hi:(true:Bool)=w.any (fun b=>c==b):=b1.symm
   have l0:=l0 true hi
   rw [show n+(azm w r+1)=n+1+azm w r by omega]
   have hw:=hw'
   exact .next (pN 92 [2] 2 1 (.k 1 (al1 b0) (.n 1 .nil)) (.v 38 (.eq (wd1 hw)) (.l l0 .nil)) hn) hnx
  ·rw [if_neg (by rw [b1];decide)]
   have hi:(false:Bool)=w.any (fun b=>c==b):=b1.symm
   have l0:=l0 false hi
   exact .done (pN 92 [2] 2 3 (.k 1 (al1 b0) (.n 1 .nil)) (.l l0 .nil) hn)
theorem wfb (s w:List UInt8) (bg:Int) (bd:Bool) (m:Nat) (os:List AV) (n:Nat) (hns:n≤s.length) (l0:anO prog ap [⟨[.str s,.ref 1 0 0 m,.int .i64 bg,.bool bd],0,false,0,0,false⟩,⟨os,0,false,0,5,true⟩] 55 (.block 0 (.loop (lT 0 (adW f92)))) ⟨[(0,.ptr 0 0 0),(1,.str w),(4,.str []),(5,.int .i64 0),(6,.dead),(7,.dead),(8,.dead),(15,.dead),(19,.dead),(36,.dead)],[(0,⟨[.str s,.ref 1 0 0 m,.int .i64 bg,.bool bd],0,false,0,0,false⟩),(1,⟨os,0,false,0,5,true⟩)],.dead,[]⟩ (.normal) ⟨[(0,.ptr 0 0 0),(5,.int .i64 (n:Int))],[(0,⟨[.str s,.ref 1 0 0 m,.int .i64 bg,.bool bd],0,false,0,0,false⟩),(1,⟨os,0,false,0,5,true⟩)],.dead,[]⟩):adY prog ap 92 [.ptr 0 0 0,.str w] [⟨[.str s,.ref 1 0 0 m,.int .i64 bg,.bool bd],0,false,0,0,false⟩,⟨os,0,false,0,5,true⟩] (.ret (.str (List.drop 0 (List.take (Int.toNat (n:Int)) s)))) [⟨[.str (List.drop (Int.toNat (n:Int)) (List.take (Int.toNat (((List.length s):Nat):Int)) s)),.ref 1 0 0 m,.int .i64 bg,.bool bd],0,false,0,0,false⟩,⟨os,0,false,0,5,true⟩]:=pK [0] 0 0 (.k 1 (nnW n) (.c (aL5 hns) (.c (aL5 (Nat.le_refl s.length)) (.k 2 (nnW n) (.c (aL5 hns) (.n 1 .nil)))))) (.l l0 .nil)
theorem awF (s w:List UInt8) (bg:Int) (bd:Bool) (m:Nat) (os:List AV) (hs:s.length<2^40) (hw:w.length<2^40):adY prog ap 92 [.ptr 0 0 0,.str w] [⟨[.str s,.ref 1 0 0 m,.int .i64 bg,.bool bd],0,false,0,0,false⟩,⟨os,0,false,0,5,true⟩] (.ret (.str (List.drop 0 (List.take (Int.toNat ((azm w s:Nat):Int)) s)))) [⟨[.str (List.drop (Int.toNat ((azm w s:Nat):Int)) (List.take (Int.toNat (((List.length s):Nat):Int)) s)),.ref 1 0 0 m,.int .i64 bg,.bool bd],0,false,0,0,false⟩,⟨os,0,false,0,5,true⟩]:=by
 have h:∀ nt,55≤nt→aeb prog ap [⟨[.str s,.ref 1 0 0 m,.int .i64 bg,.bool bd],0,false,0,0,false⟩,⟨os,0,false,0,5,true⟩] nt (lT 0 (adW f92)) (fun _=> .exit 0) (wsb s w bg bd m os) (wrb s w bg bd m os) 0 (azm w s):=by
  intro nt hn
  have:=wmb hn s w bg bd m os hs hw s [] rfl
  rw [List.length_nil,Nat.zero_add] at this
  exact this
 exact wfb s w bg bd m os (azm w s) (aG2 w s) (aeb.blk h (by simp) rfl (anW.of ⟨rfl,rfl,rfl,trivial⟩) (anW.of ⟨rfl,rfl,trivial⟩))
theorem toK {p q:Prop} (h:p) (e:p=q):q:=e ▸ h
theorem aun {x:Nat} (h:x<2^128):(adX x).length<2^33:=Nat.lt_of_le_of_lt (avS (k:=16) h) (by decide)
theorem cm0:CO 115 [.agg [.bool false,.str [1],.str [1]]] (.ret (.bool true)):=toK (auH false [1] [1] (by decide) (by decide)) (by kernel_rfl)
theorem cm1:CO 174 [.agg [.bool false,.str [1],.str [1]]] (.ret (.agg [.bool false,.str [1],.str [1]])):=cK (.c cm0 .nil)
theorem cm2:CO 182 [.agg [.bool false,.str [1],.str [1]]] (.ret (.agg [.bool true,.str [1],.str [1]])):=cK (.c cm1 .nil)
theorem cm3:CO 115 [.agg [.bool false,.str [],.str [1]]] (.ret (.bool true)):=toK (auH false [] [1] (by decide) (by decide)) (by kernel_rfl)
theorem cm4:CO 174 [.agg [.bool false,.str [],.str [1]]] (.ret (.agg [.bool false,.str [],.str [1]])):=cK (.c cm3 .nil)
theorem cm5:CO 115 [.agg [.bool true,.str [1],.str [1]]] (.ret (.bool true)):=toK (auH true [1] [1] (by decide) (by decide)) (by kernel_rfl)
theorem cm6:CO 174 [.agg [.bool true,.str [1],.str [1]]] (.ret (.agg [.bool true,.str [1],.str [1]])):=cK (.c cm5 .nil)
theorem cm7:CO 161 [.sl [] 0 true] (.ret (.sl [] 0 true)):=cK (.nil)
theorem cm8:CO 136 [.str []] (.ret (.sl [] 0 true)):=cK (.c cm7 .nil)
theorem cm9:CO 161 [.sl [.int .u32 1] 1 true] (.ret (.sl [.int .u32 1] 1 true)):=cK (.nil)
theorem aCo:CO 136 [.str [1]] (.ret (.sl [.int .u32 1] 1 true)):=cK (.c cm9 .nil)
theorem a2U:CO 161 [.sl [.int .u32 0] 1 true] (.ret (.sl [] 0 true)):=cK (.nil)
theorem a2V:CO 189 [.sl [] 0 true,.sl [.int .u32 1] 1 true] (.ret (.sl [] 0 true)):=cK (.c a2U .nil)
theorem a2W:CO 162 [.str [],.str [0]] (.ret (.str [])):=cK (.nil)
theorem a2X:CO 134 [.sl [] 0 true] (.ret (.str [])):=cK (.c a2W (.c cm7 .nil))
theorem aG8:CO 175 [.str [],.str [1]] (.ret (.str [])):=cK (.c a2X (.c a2V (.c aCo (.c cm8 .nil))))
theorem a2Y:CO 161 [.sl [.int .u32 1,.int .u32 0] 2 true] (.ret (.sl [.int .u32 1] 1 true)):=cK (.nil)
theorem a2Z:CO 189 [.sl [.int .u32 1] 1 true,.sl [.int .u32 1] 1 true] (.ret (.sl [.int .u32 1] 1 true)):=cK (.c a2Y .nil)
theorem a2_:CO 141 [.str [0,0,0,1],.int .u8 0] (.ret (.str [1])):=cK (.nil)
theorem a3a:CO 162 [.str [0,0,0,1],.str [0]] (.ret (.str [1])):=cK (.c a2_ .nil)
theorem aYc:CO 134 [.sl [.int .u32 1] 1 true] (.ret (.str [1])):=cK (.c a3a (.c cm9 .nil))
theorem aFP:CO 175 [.str [1],.str [1]] (.ret (.str [1])):=cK (.c aYc (.c a2Z (.c aCo (.c aCo .nil))))
theorem a3b:CO 183 [.sl [] 0 true,.sl [.int .u32 1] 1 true] (.ret (.int .i64 (-1))):=cK (.nil)
theorem a3c:CO 188 [.str [],.str [1]] (.ret (.tup [.str [],.bool false])):=cK (.c a3b (.c aCo (.c cm8 .nil)))
theorem a3d:CO 183 [.sl [.int .u32 1] 1 true,.sl [] 0 true] (.ret (.int .i64 1)):=cK (.nil)
theorem a3e:CO 204 [.sl [.int .u32 1] 1 true,.sl [] 0 true] (.ret (.sl [.int .u32 1] 1 true)):=cK (.c cm9 .nil)
theorem a3f:CO 188 [.str [1],.str []] (.ret (.tup [.str [1],.bool true])):=cK (.c aYc (.c a3e (.c a3d (.c cm8 (.c aCo .nil)))))
theorem a3g:CO 139 [.bool true,.str [1],.str [1]] (.ret (.agg [.bool true,.str [1],.str [1]])):=toK (ayJ true [1] [1] (by decide) (by decide) (by decide)) (by kernel_rfl)
theorem a3h:CO 172 [.agg [.bool false,.str [],.str [1]],.agg [.bool true,.str [1],.str [1]]] (.ret (.agg [.bool true,.str [1],.str [1]])):=cK (.c a3g (.c a3f (.c a3c (.c aFP (.c aFP (.c aG8 (.c cm6 (.c cm4 .nil))))))))
theorem a3i:CO 158 [.agg [.bool false,.str [],.str [1]],.agg [.bool false,.str [1],.str [1]]] (.ret (.agg [.bool true,.str [1],.str [1]])):=cK (.c a3h (.c cm2 .nil))
theorem a3j:CO 85 [.agg [.bool true,.str [1],.str [1]]] (.ret (.int .i64 (-1))):=toK (avj true [1] [1] (by decide) (by decide)) (by kernel_rfl)
theorem a3k:CO 129 [.agg [.bool false,.str [],.str [1]],.agg [.bool false,.str [1],.str [1]]] (.ret (.int .i64 (-1))):=cK (.c a3j (.c a3i .nil))
theorem a3l:CO 115 [.agg [.bool false,.str [2],.str [1]]] (.ret (.bool true)):=toK (auH false [2] [1] (by decide) (by decide)) (by kernel_rfl)
theorem a3m:CO 174 [.agg [.bool false,.str [2],.str [1]]] (.ret (.agg [.bool false,.str [2],.str [1]])):=cK (.c a3l .nil)
theorem a3n:CO 182 [.agg [.bool false,.str [2],.str [1]]] (.ret (.agg [.bool true,.str [2],.str [1]])):=cK (.c a3m .nil)
theorem a3o:CO 115 [.agg [.bool true,.str [2],.str [1]]] (.ret (.bool true)):=toK (auH true [2] [1] (by decide) (by decide)) (by kernel_rfl)
theorem a3p:CO 174 [.agg [.bool true,.str [2],.str [1]]] (.ret (.agg [.bool true,.str [2],.str [1]])):=cK (.c a3o .nil)
theorem aT6:CO 161 [.sl [.int .u32 2] 1 true] (.ret (.sl [.int .u32 2] 1 true)):=cK (.nil)
theorem aT7:CO 136 [.str [2]] (.ret (.sl [.int .u32 2] 1 true)):=cK (.c aT6 .nil)
theorem a3q:CO 161 [.sl [.int .u32 2,.int .u32 0] 2 true] (.ret (.sl [.int .u32 2] 1 true)):=cK (.nil)
theorem a3r:CO 189 [.sl [.int .u32 2] 1 true,.sl [.int .u32 1] 1 true] (.ret (.sl [.int .u32 2] 1 true)):=cK (.c a3q .nil)
theorem a3s:CO 141 [.str [0,0,0,2],.int .u8 0] (.ret (.str [2])):=cK (.nil)
theorem a3t:CO 162 [.str [0,0,0,2],.str [0]] (.ret (.str [2])):=cK (.c a3s .nil)
theorem aYs:CO 134 [.sl [.int .u32 2] 1 true] (.ret (.str [2])):=cK (.c a3t (.c aT6 .nil))
theorem a3u:CO 175 [.str [2],.str [1]] (.ret (.str [2])):=cK (.c aYs (.c a3r (.c aCo (.c aT7 .nil))))
theorem a3v:CO 183 [.sl [] 0 true,.sl [.int .u32 2] 1 true] (.ret (.int .i64 (-1))):=cK (.nil)
theorem a3w:CO 188 [.str [],.str [2]] (.ret (.tup [.str [],.bool false])):=cK (.c a3v (.c aT7 (.c cm8 .nil)))
theorem a3x:CO 183 [.sl [.int .u32 2] 1 true,.sl [] 0 true] (.ret (.int .i64 1)):=cK (.nil)
theorem a3y:CO 204 [.sl [.int .u32 2] 1 true,.sl [] 0 true] (.ret (.sl [.int .u32 2] 1 true)):=cK (.c aT6 .nil)
theorem a3z:CO 188 [.str [2],.str []] (.ret (.tup [.str [2],.bool true])):=cK (.c aYs (.c a3y (.c a3x (.c cm8 (.c aT7 .nil)))))
theorem a3A:CO 139 [.bool true,.str [2],.str [1]] (.ret (.agg [.bool true,.str [2],.str [1]])):=toK (ayJ true [2] [1] (by decide) (by decide) (by decide)) (by kernel_rfl)
theorem a3B:CO 172 [.agg [.bool false,.str [],.str [1]],.agg [.bool true,.str [2],.str [1]]] (.ret (.agg [.bool true,.str [2],.str [1]])):=cK (.c a3A (.c a3z (.c a3w (.c aFP (.c a3u (.c aG8 (.c a3p (.c cm4 .nil))))))))
theorem a3C:CO 158 [.agg [.bool false,.str [],.str [1]],.agg [.bool false,.str [2],.str [1]]] (.ret (.agg [.bool true,.str [2],.str [1]])):=cK (.c a3B (.c a3n .nil))
theorem a3D:CO 85 [.agg [.bool true,.str [2],.str [1]]] (.ret (.int .i64 (-1))):=toK (avj true [2] [1] (by decide) (by decide)) (by kernel_rfl)
theorem a3E:CO 129 [.agg [.bool false,.str [],.str [1]],.agg [.bool false,.str [2],.str [1]]] (.ret (.int .i64 (-1))):=cK (.c a3D (.c a3C .nil))
theorem a3F:CO 115 [.agg [.bool false,.str [3],.str [1]]] (.ret (.bool true)):=toK (auH false [3] [1] (by decide) (by decide)) (by kernel_rfl)
theorem a3G:CO 174 [.agg [.bool false,.str [3],.str [1]]] (.ret (.agg [.bool false,.str [3],.str [1]])):=cK (.c a3F .nil)
theorem a3H:CO 182 [.agg [.bool false,.str [3],.str [1]]] (.ret (.agg [.bool true,.str [3],.str [1]])):=cK (.c a3G .nil)
theorem a3I:CO 115 [.agg [.bool true,.str [3],.str [1]]] (.ret (.bool true)):=toK (auH true [3] [1] (by decide) (by decide)) (by kernel_rfl)
theorem a3J:CO 174 [.agg [.bool true,.str [3],.str [1]]] (.ret (.agg [.bool true,.str [3],.str [1]])):=cK (.c a3I .nil)
theorem aT8:CO 161 [.sl [.int .u32 3] 1 true] (.ret (.sl [.int .u32 3] 1 true)):=cK (.nil)
theorem aT9:CO 136 [.str [3]] (.ret (.sl [.int .u32 3] 1 true)):=cK (.c aT8 .nil)
theorem a3K:CO 161 [.sl [.int .u32 3,.int .u32 0] 2 true] (.ret (.sl [.int .u32 3] 1 true)):=cK (.nil)
theorem a3L:CO 189 [.sl [.int .u32 3] 1 true,.sl [.int .u32 1] 1 true] (.ret (.sl [.int .u32 3] 1 true)):=cK (.c a3K .nil)
theorem a3M:CO 141 [.str [0,0,0,3],.int .u8 0] (.ret (.str [3])):=cK (.nil)
theorem a3N:CO 162 [.str [0,0,0,3],.str [0]] (.ret (.str [3])):=cK (.c a3M .nil)
theorem aYt:CO 134 [.sl [.int .u32 3] 1 true] (.ret (.str [3])):=cK (.c a3N (.c aT8 .nil))
theorem a3O:CO 175 [.str [3],.str [1]] (.ret (.str [3])):=cK (.c aYt (.c a3L (.c aCo (.c aT9 .nil))))
theorem a3P:CO 183 [.sl [] 0 true,.sl [.int .u32 3] 1 true] (.ret (.int .i64 (-1))):=cK (.nil)
theorem a3Q:CO 188 [.str [],.str [3]] (.ret (.tup [.str [],.bool false])):=cK (.c a3P (.c aT9 (.c cm8 .nil)))
theorem a3R:CO 183 [.sl [.int .u32 3] 1 true,.sl [] 0 true] (.ret (.int .i64 1)):=cK (.nil)
theorem a3S:CO 204 [.sl [.int .u32 3] 1 true,.sl [] 0 true] (.ret (.sl [.int .u32 3] 1 true)):=cK (.c aT8 .nil)
theorem a3T:CO 188 [.str [3],.str []] (.ret (.tup [.str [3],.bool true])):=cK (.c aYt (.c a3S (.c a3R (.c cm8 (.c aT9 .nil)))))
theorem a3U:CO 139 [.bool true,.str [3],.str [1]] (.ret (.agg [.bool true,.str [3],.str [1]])):=toK (ayJ true [3] [1] (by decide) (by decide) (by decide)) (by kernel_rfl)
theorem a3V:CO 172 [.agg [.bool false,.str [],.str [1]],.agg [.bool true,.str [3],.str [1]]] (.ret (.agg [.bool true,.str [3],.str [1]])):=cK (.c a3U (.c a3T (.c a3Q (.c aFP (.c a3O (.c aG8 (.c a3J (.c cm4 .nil))))))))
theorem a3W:CO 158 [.agg [.bool false,.str [],.str [1]],.agg [.bool false,.str [3],.str [1]]] (.ret (.agg [.bool true,.str [3],.str [1]])):=cK (.c a3V (.c a3H .nil))
theorem a3X:CO 85 [.agg [.bool true,.str [3],.str [1]]] (.ret (.int .i64 (-1))):=toK (avj true [3] [1] (by decide) (by decide)) (by kernel_rfl)
theorem a3Y:CO 129 [.agg [.bool false,.str [],.str [1]],.agg [.bool false,.str [3],.str [1]]] (.ret (.int .i64 (-1))):=cK (.c a3X (.c a3W .nil))
theorem a3Z:CO 115 [.agg [.bool false,.str [4],.str [1]]] (.ret (.bool true)):=toK (auH false [4] [1] (by decide) (by decide)) (by kernel_rfl)
theorem a3_:CO 174 [.agg [.bool false,.str [4],.str [1]]] (.ret (.agg [.bool false,.str [4],.str [1]])):=cK (.c a3Z .nil)
theorem a4a:CO 182 [.agg [.bool false,.str [4],.str [1]]] (.ret (.agg [.bool true,.str [4],.str [1]])):=cK (.c a3_ .nil)
theorem a4b:CO 115 [.agg [.bool true,.str [4],.str [1]]] (.ret (.bool true)):=toK (auH true [4] [1] (by decide) (by decide)) (by kernel_rfl)
theorem a4c:CO 174 [.agg [.bool true,.str [4],.str [1]]] (.ret (.agg [.bool true,.str [4],.str [1]])):=cK (.c a4b .nil)
theorem aT_:CO 161 [.sl [.int .u32 4] 1 true] (.ret (.sl [.int .u32 4] 1 true)):=cK (.nil)
theorem aUa:CO 136 [.str [4]] (.ret (.sl [.int .u32 4] 1 true)):=cK (.c aT_ .nil)
theorem a4d:CO 161 [.sl [.int .u32 4,.int .u32 0] 2 true] (.ret (.sl [.int .u32 4] 1 true)):=cK (.nil)
theorem a4e:CO 189 [.sl [.int .u32 4] 1 true,.sl [.int .u32 1] 1 true] (.ret (.sl [.int .u32 4] 1 true)):=cK (.c a4d .nil)
theorem a4f:CO 141 [.str [0,0,0,4],.int .u8 0] (.ret (.str [4])):=cK (.nil)
theorem a4g:CO 162 [.str [0,0,0,4],.str [0]] (.ret (.str [4])):=cK (.c a4f .nil)
theorem aYu:CO 134 [.sl [.int .u32 4] 1 true] (.ret (.str [4])):=cK (.c a4g (.c aT_ .nil))
theorem a4i:CO 175 [.str [4],.str [1]] (.ret (.str [4])):=cK (.c aYu (.c a4e (.c aCo (.c aUa .nil))))
theorem a4j:CO 183 [.sl [] 0 true,.sl [.int .u32 4] 1 true] (.ret (.int .i64 (-1))):=cK (.nil)
theorem a4k:CO 188 [.str [],.str [4]] (.ret (.tup [.str [],.bool false])):=cK (.c a4j (.c aUa (.c cm8 .nil)))
theorem a4l:CO 183 [.sl [.int .u32 4] 1 true,.sl [] 0 true] (.ret (.int .i64 1)):=cK (.nil)
theorem a4m:CO 204 [.sl [.int .u32 4] 1 true,.sl [] 0 true] (.ret (.sl [.int .u32 4] 1 true)):=cK (.c aT_ .nil)
theorem a4n:CO 188 [.str [4],.str []] (.ret (.tup [.str [4],.bool true])):=cK (.c aYu (.c a4m (.c a4l (.c cm8 (.c aUa .nil)))))
theorem a4o:CO 139 [.bool true,.str [4],.str [1]] (.ret (.agg [.bool true,.str [4],.str [1]])):=toK (ayJ true [4] [1] (by decide) (by decide) (by decide)) (by kernel_rfl)
theorem a4p:CO 172 [.agg [.bool false,.str [],.str [1]],.agg [.bool true,.str [4],.str [1]]] (.ret (.agg [.bool true,.str [4],.str [1]])):=cK (.c a4o (.c a4n (.c a4k (.c aFP (.c a4i (.c aG8 (.c a4c (.c cm4 .nil))))))))
theorem a4q:CO 158 [.agg [.bool false,.str [],.str [1]],.agg [.bool false,.str [4],.str [1]]] (.ret (.agg [.bool true,.str [4],.str [1]])):=cK (.c a4p (.c a4a .nil))
theorem a4r:CO 85 [.agg [.bool true,.str [4],.str [1]]] (.ret (.int .i64 (-1))):=toK (avj true [4] [1] (by decide) (by decide)) (by kernel_rfl)
theorem aWQ:CO 129 [.agg [.bool false,.str [],.str [1]],.agg [.bool false,.str [4],.str [1]]] (.ret (.int .i64 (-1))):=cK (.c a4r (.c a4q .nil))
theorem aWR:CO 115 [.agg [.bool false,.str [5],.str [1]]] (.ret (.bool true)):=toK (auH false [5] [1] (by decide) (by decide)) (by kernel_rfl)
theorem aWS:CO 174 [.agg [.bool false,.str [5],.str [1]]] (.ret (.agg [.bool false,.str [5],.str [1]])):=cK (.c aWR .nil)
theorem aWT:CO 182 [.agg [.bool false,.str [5],.str [1]]] (.ret (.agg [.bool true,.str [5],.str [1]])):=cK (.c aWS .nil)
theorem aWU:CO 115 [.agg [.bool true,.str [5],.str [1]]] (.ret (.bool true)):=toK (auH true [5] [1] (by decide) (by decide)) (by kernel_rfl)
theorem aWV:CO 174 [.agg [.bool true,.str [5],.str [1]]] (.ret (.agg [.bool true,.str [5],.str [1]])):=cK (.c aWU .nil)
theorem aNH:CO 161 [.sl [.int .u32 5] 1 true] (.ret (.sl [.int .u32 5] 1 true)):=cK (.nil)
theorem aNI:CO 136 [.str [5]] (.ret (.sl [.int .u32 5] 1 true)):=cK (.c aNH .nil)
theorem aWW:CO 161 [.sl [.int .u32 5,.int .u32 0] 2 true] (.ret (.sl [.int .u32 5] 1 true)):=cK (.nil)
theorem aWX:CO 189 [.sl [.int .u32 5] 1 true,.sl [.int .u32 1] 1 true] (.ret (.sl [.int .u32 5] 1 true)):=cK (.c aWW .nil)
theorem aWY:CO 141 [.str [0,0,0,5],.int .u8 0] (.ret (.str [5])):=cK (.nil)
theorem aWZ:CO 162 [.str [0,0,0,5],.str [0]] (.ret (.str [5])):=cK (.c aWY .nil)
theorem aS8:CO 134 [.sl [.int .u32 5] 1 true] (.ret (.str [5])):=cK (.c aWZ (.c aNH .nil))
theorem aW0:CO 175 [.str [5],.str [1]] (.ret (.str [5])):=cK (.c aS8 (.c aWX (.c aCo (.c aNI .nil))))
theorem aW1:CO 183 [.sl [] 0 true,.sl [.int .u32 5] 1 true] (.ret (.int .i64 (-1))):=cK (.nil)
theorem aW2:CO 188 [.str [],.str [5]] (.ret (.tup [.str [],.bool false])):=cK (.c aW1 (.c aNI (.c cm8 .nil)))
theorem aW3:CO 183 [.sl [.int .u32 5] 1 true,.sl [] 0 true] (.ret (.int .i64 1)):=cK (.nil)
theorem aW4:CO 204 [.sl [.int .u32 5] 1 true,.sl [] 0 true] (.ret (.sl [.int .u32 5] 1 true)):=cK (.c aNH .nil)
theorem aW5:CO 188 [.str [5],.str []] (.ret (.tup [.str [5],.bool true])):=cK (.c aS8 (.c aW4 (.c aW3 (.c cm8 (.c aNI .nil)))))
theorem aW6:CO 139 [.bool true,.str [5],.str [1]] (.ret (.agg [.bool true,.str [5],.str [1]])):=toK (ayJ true [5] [1] (by decide) (by decide) (by decide)) (by kernel_rfl)
theorem aW7:CO 172 [.agg [.bool false,.str [],.str [1]],.agg [.bool true,.str [5],.str [1]]] (.ret (.agg [.bool true,.str [5],.str [1]])):=cK (.c aW6 (.c aW5 (.c aW2 (.c aFP (.c aW0 (.c aG8 (.c aWV (.c cm4 .nil))))))))
theorem aW8:CO 158 [.agg [.bool false,.str [],.str [1]],.agg [.bool false,.str [5],.str [1]]] (.ret (.agg [.bool true,.str [5],.str [1]])):=cK (.c aW7 (.c aWT .nil))
theorem aW9:CO 85 [.agg [.bool true,.str [5],.str [1]]] (.ret (.int .i64 (-1))):=toK (avj true [5] [1] (by decide) (by decide)) (by kernel_rfl)
theorem aW_:CO 129 [.agg [.bool false,.str [],.str [1]],.agg [.bool false,.str [5],.str [1]]] (.ret (.int .i64 (-1))):=cK (.c aW9 (.c aW8 .nil))
theorem aXa:CO 115 [.agg [.bool false,.str [6],.str [1]]] (.ret (.bool true)):=toK (auH false [6] [1] (by decide) (by decide)) (by kernel_rfl)
theorem aXb:CO 174 [.agg [.bool false,.str [6],.str [1]]] (.ret (.agg [.bool false,.str [6],.str [1]])):=cK (.c aXa .nil)
theorem aXc:CO 182 [.agg [.bool false,.str [6],.str [1]]] (.ret (.agg [.bool true,.str [6],.str [1]])):=cK (.c aXb .nil)
theorem aXd:CO 115 [.agg [.bool true,.str [6],.str [1]]] (.ret (.bool true)):=toK (auH true [6] [1] (by decide) (by decide)) (by kernel_rfl)
theorem aXe:CO 174 [.agg [.bool true,.str [6],.str [1]]] (.ret (.agg [.bool true,.str [6],.str [1]])):=cK (.c aXd .nil)
theorem aNJ:CO 161 [.sl [.int .u32 6] 1 true] (.ret (.sl [.int .u32 6] 1 true)):=cK (.nil)
theorem aNK:CO 136 [.str [6]] (.ret (.sl [.int .u32 6] 1 true)):=cK (.c aNJ .nil)
theorem aXf:CO 161 [.sl [.int .u32 6,.int .u32 0] 2 true] (.ret (.sl [.int .u32 6] 1 true)):=cK (.nil)
theorem aXg:CO 189 [.sl [.int .u32 6] 1 true,.sl [.int .u32 1] 1 true] (.ret (.sl [.int .u32 6] 1 true)):=cK (.c aXf .nil)
theorem aXh:CO 141 [.str [0,0,0,6],.int .u8 0] (.ret (.str [6])):=cK (.nil)
theorem aXi:CO 162 [.str [0,0,0,6],.str [0]] (.ret (.str [6])):=cK (.c aXh .nil)
theorem aS9:CO 134 [.sl [.int .u32 6] 1 true] (.ret (.str [6])):=cK (.c aXi (.c aNJ .nil))
theorem aXj:CO 175 [.str [6],.str [1]] (.ret (.str [6])):=cK (.c aS9 (.c aXg (.c aCo (.c aNK .nil))))
theorem aXk:CO 183 [.sl [] 0 true,.sl [.int .u32 6] 1 true] (.ret (.int .i64 (-1))):=cK (.nil)
theorem aXl:CO 188 [.str [],.str [6]] (.ret (.tup [.str [],.bool false])):=cK (.c aXk (.c aNK (.c cm8 .nil)))
theorem aXm:CO 183 [.sl [.int .u32 6] 1 true,.sl [] 0 true] (.ret (.int .i64 1)):=cK (.nil)
theorem aXn:CO 204 [.sl [.int .u32 6] 1 true,.sl [] 0 true] (.ret (.sl [.int .u32 6] 1 true)):=cK (.c aNJ .nil)
theorem aXo:CO 188 [.str [6],.str []] (.ret (.tup [.str [6],.bool true])):=cK (.c aS9 (.c aXn (.c aXm (.c cm8 (.c aNK .nil)))))
theorem aXp:CO 139 [.bool true,.str [6],.str [1]] (.ret (.agg [.bool true,.str [6],.str [1]])):=toK (ayJ true [6] [1] (by decide) (by decide) (by decide)) (by kernel_rfl)
theorem aXq:CO 172 [.agg [.bool false,.str [],.str [1]],.agg [.bool true,.str [6],.str [1]]] (.ret (.agg [.bool true,.str [6],.str [1]])):=cK (.c aXp (.c aXo (.c aXl (.c aFP (.c aXj (.c aG8 (.c aXe (.c cm4 .nil))))))))
theorem aXr:CO 158 [.agg [.bool false,.str [],.str [1]],.agg [.bool false,.str [6],.str [1]]] (.ret (.agg [.bool true,.str [6],.str [1]])):=cK (.c aXq (.c aXc .nil))
theorem aXs:CO 85 [.agg [.bool true,.str [6],.str [1]]] (.ret (.int .i64 (-1))):=toK (avj true [6] [1] (by decide) (by decide)) (by kernel_rfl)
theorem aXt:CO 129 [.agg [.bool false,.str [],.str [1]],.agg [.bool false,.str [6],.str [1]]] (.ret (.int .i64 (-1))):=cK (.c aXs (.c aXr .nil))
theorem aXu:CO 115 [.agg [.bool false,.str [7],.str [1]]] (.ret (.bool true)):=toK (auH false [7] [1] (by decide) (by decide)) (by kernel_rfl)
theorem aXv:CO 174 [.agg [.bool false,.str [7],.str [1]]] (.ret (.agg [.bool false,.str [7],.str [1]])):=cK (.c aXu .nil)
theorem aXw:CO 182 [.agg [.bool false,.str [7],.str [1]]] (.ret (.agg [.bool true,.str [7],.str [1]])):=cK (.c aXv .nil)
theorem aXx:CO 115 [.agg [.bool true,.str [7],.str [1]]] (.ret (.bool true)):=toK (auH true [7] [1] (by decide) (by decide)) (by kernel_rfl)
theorem aXy:CO 174 [.agg [.bool true,.str [7],.str [1]]] (.ret (.agg [.bool true,.str [7],.str [1]])):=cK (.c aXx .nil)
theorem aNL:CO 161 [.sl [.int .u32 7] 1 true] (.ret (.sl [.int .u32 7] 1 true)):=cK (.nil)
theorem aNM:CO 136 [.str [7]] (.ret (.sl [.int .u32 7] 1 true)):=cK (.c aNL .nil)
theorem aXz:CO 161 [.sl [.int .u32 7,.int .u32 0] 2 true] (.ret (.sl [.int .u32 7] 1 true)):=cK (.nil)
theorem aXA:CO 189 [.sl [.int .u32 7] 1 true,.sl [.int .u32 1] 1 true] (.ret (.sl [.int .u32 7] 1 true)):=cK (.c aXz .nil)
theorem aXB:CO 141 [.str [0,0,0,7],.int .u8 0] (.ret (.str [7])):=cK (.nil)
theorem aXC:CO 162 [.str [0,0,0,7],.str [0]] (.ret (.str [7])):=cK (.c aXB .nil)
theorem aS_:CO 134 [.sl [.int .u32 7] 1 true] (.ret (.str [7])):=cK (.c aXC (.c aNL .nil))
theorem aXD:CO 175 [.str [7],.str [1]] (.ret (.str [7])):=cK (.c aS_ (.c aXA (.c aCo (.c aNM .nil))))
theorem aXE:CO 183 [.sl [] 0 true,.sl [.int .u32 7] 1 true] (.ret (.int .i64 (-1))):=cK (.nil)
theorem aXF:CO 188 [.str [],.str [7]] (.ret (.tup [.str [],.bool false])):=cK (.c aXE (.c aNM (.c cm8 .nil)))
theorem aXG:CO 183 [.sl [.int .u32 7] 1 true,.sl [] 0 true] (.ret (.int .i64 1)):=cK (.nil)
theorem aXH:CO 204 [.sl [.int .u32 7] 1 true,.sl [] 0 true] (.ret (.sl [.int .u32 7] 1 true)):=cK (.c aNL .nil)
theorem aXI:CO 188 [.str [7],.str []] (.ret (.tup [.str [7],.bool true])):=cK (.c aS_ (.c aXH (.c aXG (.c cm8 (.c aNM .nil)))))
theorem aXJ:CO 139 [.bool true,.str [7],.str [1]] (.ret (.agg [.bool true,.str [7],.str [1]])):=toK (ayJ true [7] [1] (by decide) (by decide) (by decide)) (by kernel_rfl)
theorem aXK:CO 172 [.agg [.bool false,.str [],.str [1]],.agg [.bool true,.str [7],.str [1]]] (.ret (.agg [.bool true,.str [7],.str [1]])):=cK (.c aXJ (.c aXI (.c aXF (.c aFP (.c aXD (.c aG8 (.c aXy (.c cm4 .nil))))))))
theorem aXL:CO 158 [.agg [.bool false,.str [],.str [1]],.agg [.bool false,.str [7],.str [1]]] (.ret (.agg [.bool true,.str [7],.str [1]])):=cK (.c aXK (.c aXw .nil))
theorem aXM:CO 85 [.agg [.bool true,.str [7],.str [1]]] (.ret (.int .i64 (-1))):=toK (avj true [7] [1] (by decide) (by decide)) (by kernel_rfl)
theorem aXN:CO 129 [.agg [.bool false,.str [],.str [1]],.agg [.bool false,.str [7],.str [1]]] (.ret (.int .i64 (-1))):=cK (.c aXM (.c aXL .nil))
theorem aXO:CO 115 [.agg [.bool false,.str [8],.str [1]]] (.ret (.bool true)):=toK (auH false [8] [1] (by decide) (by decide)) (by kernel_rfl)
theorem aXP:CO 174 [.agg [.bool false,.str [8],.str [1]]] (.ret (.agg [.bool false,.str [8],.str [1]])):=cK (.c aXO .nil)
theorem aXQ:CO 182 [.agg [.bool false,.str [8],.str [1]]] (.ret (.agg [.bool true,.str [8],.str [1]])):=cK (.c aXP .nil)
theorem aXR:CO 115 [.agg [.bool true,.str [8],.str [1]]] (.ret (.bool true)):=toK (auH true [8] [1] (by decide) (by decide)) (by kernel_rfl)
theorem aXS:CO 174 [.agg [.bool true,.str [8],.str [1]]] (.ret (.agg [.bool true,.str [8],.str [1]])):=cK (.c aXR .nil)
theorem aNN:CO 161 [.sl [.int .u32 8] 1 true] (.ret (.sl [.int .u32 8] 1 true)):=cK (.nil)
theorem aNO:CO 136 [.str [8]] (.ret (.sl [.int .u32 8] 1 true)):=cK (.c aNN .nil)
theorem aXT:CO 161 [.sl [.int .u32 8,.int .u32 0] 2 true] (.ret (.sl [.int .u32 8] 1 true)):=cK (.nil)
theorem aXU:CO 189 [.sl [.int .u32 8] 1 true,.sl [.int .u32 1] 1 true] (.ret (.sl [.int .u32 8] 1 true)):=cK (.c aXT .nil)
theorem aXV:CO 141 [.str [0,0,0,8],.int .u8 0] (.ret (.str [8])):=cK (.nil)
theorem aXW:CO 162 [.str [0,0,0,8],.str [0]] (.ret (.str [8])):=cK (.c aXV .nil)
theorem aTa:CO 134 [.sl [.int .u32 8] 1 true] (.ret (.str [8])):=cK (.c aXW (.c aNN .nil))
theorem aXX:CO 175 [.str [8],.str [1]] (.ret (.str [8])):=cK (.c aTa (.c aXU (.c aCo (.c aNO .nil))))
theorem aXY:CO 183 [.sl [] 0 true,.sl [.int .u32 8] 1 true] (.ret (.int .i64 (-1))):=cK (.nil)
theorem aXZ:CO 188 [.str [],.str [8]] (.ret (.tup [.str [],.bool false])):=cK (.c aXY (.c aNO (.c cm8 .nil)))
theorem aX0:CO 183 [.sl [.int .u32 8] 1 true,.sl [] 0 true] (.ret (.int .i64 1)):=cK (.nil)
theorem aX1:CO 204 [.sl [.int .u32 8] 1 true,.sl [] 0 true] (.ret (.sl [.int .u32 8] 1 true)):=cK (.c aNN .nil)
theorem aX2:CO 188 [.str [8],.str []] (.ret (.tup [.str [8],.bool true])):=cK (.c aTa (.c aX1 (.c aX0 (.c cm8 (.c aNO .nil)))))
theorem aX3:CO 139 [.bool true,.str [8],.str [1]] (.ret (.agg [.bool true,.str [8],.str [1]])):=toK (ayJ true [8] [1] (by decide) (by decide) (by decide)) (by kernel_rfl)
theorem aX4:CO 172 [.agg [.bool false,.str [],.str [1]],.agg [.bool true,.str [8],.str [1]]] (.ret (.agg [.bool true,.str [8],.str [1]])):=cK (.c aX3 (.c aX2 (.c aXZ (.c aFP (.c aXX (.c aG8 (.c aXS (.c cm4 .nil))))))))
theorem aX5:CO 158 [.agg [.bool false,.str [],.str [1]],.agg [.bool false,.str [8],.str [1]]] (.ret (.agg [.bool true,.str [8],.str [1]])):=cK (.c aX4 (.c aXQ .nil))
theorem aX6:CO 85 [.agg [.bool true,.str [8],.str [1]]] (.ret (.int .i64 (-1))):=toK (avj true [8] [1] (by decide) (by decide)) (by kernel_rfl)
theorem aX7:CO 129 [.agg [.bool false,.str [],.str [1]],.agg [.bool false,.str [8],.str [1]]] (.ret (.int .i64 (-1))):=cK (.c aX6 (.c aX5 .nil))
theorem aX8:CO 115 [.agg [.bool false,.str [9],.str [1]]] (.ret (.bool true)):=toK (auH false [9] [1] (by decide) (by decide)) (by kernel_rfl)
theorem aX9:CO 174 [.agg [.bool false,.str [9],.str [1]]] (.ret (.agg [.bool false,.str [9],.str [1]])):=cK (.c aX8 .nil)
theorem aX_:CO 182 [.agg [.bool false,.str [9],.str [1]]] (.ret (.agg [.bool true,.str [9],.str [1]])):=cK (.c aX9 .nil)
theorem aYa:CO 115 [.agg [.bool true,.str [9],.str [1]]] (.ret (.bool true)):=toK (auH true [9] [1] (by decide) (by decide)) (by kernel_rfl)
theorem aYb:CO 174 [.agg [.bool true,.str [9],.str [1]]] (.ret (.agg [.bool true,.str [9],.str [1]])):=cK (.c aYa .nil)
theorem aNP:CO 161 [.sl [.int .u32 9] 1 true] (.ret (.sl [.int .u32 9] 1 true)):=cK (.nil)
theorem aNQ:CO 136 [.str [9]] (.ret (.sl [.int .u32 9] 1 true)):=cK (.c aNP .nil)
theorem aYd:CO 161 [.sl [.int .u32 9,.int .u32 0] 2 true] (.ret (.sl [.int .u32 9] 1 true)):=cK (.nil)
theorem aYe:CO 189 [.sl [.int .u32 9] 1 true,.sl [.int .u32 1] 1 true] (.ret (.sl [.int .u32 9] 1 true)):=cK (.c aYd .nil)
theorem aYf:CO 141 [.str [0,0,0,9],.int .u8 0] (.ret (.str [9])):=cK (.nil)
theorem aYg:CO 162 [.str [0,0,0,9],.str [0]] (.ret (.str [9])):=cK (.c aYf .nil)
theorem aTb:CO 134 [.sl [.int .u32 9] 1 true] (.ret (.str [9])):=cK (.c aYg (.c aNP .nil))
theorem aYh:CO 175 [.str [9],.str [1]] (.ret (.str [9])):=cK (.c aTb (.c aYe (.c aCo (.c aNQ .nil))))
theorem aYi:CO 183 [.sl [] 0 true,.sl [.int .u32 9] 1 true] (.ret (.int .i64 (-1))):=cK (.nil)
theorem aYj:CO 188 [.str [],.str [9]] (.ret (.tup [.str [],.bool false])):=cK (.c aYi (.c aNQ (.c cm8 .nil)))
theorem aYk:CO 183 [.sl [.int .u32 9] 1 true,.sl [] 0 true] (.ret (.int .i64 1)):=cK (.nil)
theorem aYl:CO 204 [.sl [.int .u32 9] 1 true,.sl [] 0 true] (.ret (.sl [.int .u32 9] 1 true)):=cK (.c aNP .nil)
theorem aYm:CO 188 [.str [9],.str []] (.ret (.tup [.str [9],.bool true])):=cK (.c aTb (.c aYl (.c aYk (.c cm8 (.c aNQ .nil)))))
theorem aYn:CO 139 [.bool true,.str [9],.str [1]] (.ret (.agg [.bool true,.str [9],.str [1]])):=toK (ayJ true [9] [1] (by decide) (by decide) (by decide)) (by kernel_rfl)
theorem aYo:CO 172 [.agg [.bool false,.str [],.str [1]],.agg [.bool true,.str [9],.str [1]]] (.ret (.agg [.bool true,.str [9],.str [1]])):=cK (.c aYn (.c aYm (.c aYj (.c aFP (.c aYh (.c aG8 (.c aYb (.c cm4 .nil))))))))
theorem aYp:CO 158 [.agg [.bool false,.str [],.str [1]],.agg [.bool false,.str [9],.str [1]]] (.ret (.agg [.bool true,.str [9],.str [1]])):=cK (.c aYo (.c aX_ .nil))
theorem aYq:CO 85 [.agg [.bool true,.str [9],.str [1]]] (.ret (.int .i64 (-1))):=toK (avj true [9] [1] (by decide) (by decide)) (by kernel_rfl)
theorem aYr:CO 129 [.agg [.bool false,.str [],.str [1]],.agg [.bool false,.str [9],.str [1]]] (.ret (.int .i64 (-1))):=cK (.c aYq (.c aYp .nil))
theorem aYv (n:Nat) (h:1≤n∧n≤9):CO 129 [.agg [.bool false,.str [],.str [1]],.agg [.bool false,.str [UInt8.ofNat n],.str [1]]] (.ret (.int .i64 (-1))):=by
 obtain ⟨h1,h2⟩:=h
 match n,h1,h2 with
 |1,_,_=>exact a3k
 |2,_,_=>exact a3E
 |3,_,_=>exact a3Y
 |4,_,_=>exact aWQ
 |5,_,_=>exact aW_
 |6,_,_=>exact aXt
 |7,_,_=>exact aXN
 |8,_,_=>exact aX7
 |9,_,_=>exact aYr
theorem awv {ns:List Nd} (h:ns.all (fun x=>Nat.ble (x.num.length+1) 8589934592 && Nat.ble (x.den.length+1) 8589934592)=true):∀ x ∈ ns,x.sm:=by
 intro x hx
 have:=List.all_eq_true.1 h x hx
 rw [Bool.and_eq_true] at this
 exact ⟨Nat.le_of_ble_eq_true this.1,Nat.le_of_ble_eq_true this.2⟩
def awI:Br→Br→Int:=fun _ _=> -1
theorem aAn {f:Nat}:aJv f awI []:=fun q hq=>by simp at hq
theorem aL3 {f:Nat} {a b:Br} (h:CO f [brF a,brF b] (.ret (.int .i64 (-1)))):aCP f awI [a,b]:=by
 intro i y x hy hx _ _
 match i with
 |0=>simp at hy hx;subst hy hx;exact h
 |i+1=>simp at hx
theorem aI7 {f:Nat} {a b:Br} {nm:List UInt8} {u1 u2:Int} (ha:a.sm) (hb:b.sm) (h:CO f [brF a,brF b] (.ret (.int .i64 (-1)))):aJv f awI [⟨nm,u1,u2,[a,b]⟩]:=by
 intro q hq
 rw [List.mem_singleton] at hq
 subst hq
 refine ⟨by simp, ?_,aL3 h⟩
 intro x hx
 simp only [List.mem_cons,List.not_mem_nil,or_false] at hx
 rcases hx with rfl|rfl
 ·exact ha
 ·exact hb
def aA4:List Nd:= [⟨6,false,[],[],[97]⟩,⟨5,false,[],[],[97]⟩,⟨9,false,[],[],[]⟩]
def azQ:List Sq:= [⟨[120],0,0,[⟨false,[],[1],false,[1],[10]⟩,⟨false,[5],[1],false,[1],[5]⟩]⟩]
def aFc:List Nd:= [⟨6,false,[],[],[97]⟩,⟨6,false,[],[],[97]⟩,⟨10,false,[],[],[]⟩]
def aFd:List Nd:= [⟨1,false,[5],[1],[]⟩,⟨3,true,[1],[2],[]⟩,⟨6,false,[],[],[97]⟩,⟨11,false,[],[],[]⟩,⟨10,false,[],[],[]⟩]
def axG:List Nd:= [⟨6,false,[],[],[97]⟩,⟨5,false,[],[],[98]⟩,⟨11,false,[],[],[]⟩]
def aFe:List Nd:= [⟨1,false,[1],[1],[]⟩,⟨6,false,[],[],[97]⟩,⟨12,false,[],[],[]⟩]
def aFf:List Nd:= [⟨6,false,[],[],[97]⟩,⟨3,true,[2],[1],[]⟩,⟨12,false,[],[],[]⟩]
def aA5:List Nd:= [⟨6,false,[],[],[97]⟩,⟨1,false,[3],[1],[]⟩,⟨16,false,[],[],[]⟩,⟨6,false,[],[],[98]⟩,⟨1,false,[],[1],[]⟩,⟨15,false,[],[],[]⟩]
def axH:List Nd:= [⟨6,false,[],[],[97]⟩,⟨24,false,[],[],[120]⟩]
def aTu:List Sq:= [⟨[120],0,0,[⟨false,[],[1],false,[1],[10]⟩,⟨false,[5],[1],true,[1],[5]⟩]⟩]
theorem avI:aJv 129 awI azQ:=aI7 ⟨⟨by decide,by decide⟩,⟨by decide,by decide⟩⟩ ⟨⟨by decide,by decide⟩,⟨by decide,by decide⟩⟩ (toK (aYv 5 (by omega)) (by kernel_rfl))
theorem aKB:aJv 129 awI aTu:=aI7 ⟨⟨by decide,by decide⟩,⟨by decide,by decide⟩⟩ ⟨⟨by decide,by decide⟩,⟨by decide,by decide⟩⟩ (toK (aYv 5 (by omega)) (by kernel_rfl))
def dE (l:List Nat):Env:=l.map fun t=>(t,.dead)
def rA (s:List UInt8) (k:Int):List Blk:= [⟨[.str s,.nilS,.int .i64 k,.bool false],0,false,0,0,true⟩]
def rB (s:List UInt8) (n:Nat) (k:Int) (os:List AV):List Blk:= [⟨[.str s,.ref 1 0 0 n,.int .i64 k,.bool false],0,false,0,0,false⟩,⟨os,0,false,0,5,true⟩]
def zo0:List AV:= [.int .i64 6,.bool false,.str [],.str [],.str [97],.int .i64 1,.bool false,.str [3],.str [1],.str [],.int .i64 16,.bool false,.str [],.str [],.str [],.int .i64 6,.bool false,.str [],.str [],.str [98],.int .i64 1,.bool false,.str [],.str [1],.str []]
def zo1:List AV:= [.int .i64 6,.bool false,.str [],.str [],.str [97],.int .i64 1,.bool false,.str [3],.str [1],.str [],.int .i64 16,.bool false,.str [],.str [],.str [],.int .i64 6,.bool false,.str [],.str [],.str [98]]
def zo2:List AV:= [.int .i64 1,.bool false,.str [5],.str [1],.str [],.int .i64 3,.bool true,.str [1],.str [2],.str [],.int .i64 6,.bool false,.str [],.str [],.str [97],.int .i64 11,.bool false,.str [],.str [],.str []]
def zo3:List AV:= [.int .i64 1,.bool false,.str [5],.str [1],.str [],.int .i64 3,.bool true,.str [1],.str [2],.str [],.int .i64 6,.bool false,.str [],.str [],.str [97]]
def zo4:List AV:= [.int .i64 6,.bool false,.str [],.str [],.str [97],.int .i64 1,.bool false,.str [3],.str [1],.str [],.int .i64 16,.bool false,.str [],.str [],.str []]
def zo5:List AV:= [.int .i64 6,.bool false,.str [],.str [],.str [97],.int .i64 5,.bool false,.str [],.str [],.str [97]]
def zo6:List AV:= [.int .i64 6,.bool false,.str [],.str [],.str [97],.int .i64 6,.bool false,.str [],.str [],.str [97]]
def zo7:List AV:= [.int .i64 6,.bool false,.str [],.str [],.str [97],.int .i64 5,.bool false,.str [],.str [],.str [98]]
def zo8:List AV:= [.int .i64 1,.bool false,.str [1],.str [1],.str [],.int .i64 6,.bool false,.str [],.str [],.str [97]]
def zo9:List AV:= [.int .i64 6,.bool false,.str [],.str [],.str [97],.int .i64 1,.bool false,.str [3],.str [1],.str []]
def aCj:List AV:= [.int .i64 1,.bool false,.str [5],.str [1],.str [],.int .i64 3,.bool true,.str [1],.str [2],.str []]
def aVX:List AV:= [.int .i64 6,.bool false,.str [],.str [],.str [97],.int .i64 3,.bool true,.str [2],.str [1],.str []]
def auX:List AV:= [.int .i64 6,.bool false,.str [],.str [],.str [97]]
def axD:List AV:= [.int .i64 1,.bool false,.str [5],.str [1],.str []]
def aAT:List AV:= [.int .i64 1,.bool false,.str [1],.str [1],.str []]
def zs0:List UInt8:= [97,98,99,100,101,102,103,104,105,106,107,108,109,110,111,112,113,114,115,116,117,118,119,120,121,122,48,49,50,51,52,53,54,55,56,57,95]
def zs1:List UInt8:= [105,102,40,108,101,115,115,40,111,119,110,46,97,44,32,36,51,41,44,32,111,119,110,46,98,44,32,36,48,41]
def zs2:List UInt8:= [97,98,99,100,101,102,103,104,105,106,107,108,109,110,111,112,113,114,115,116,117,118,119,120,121,122]
def zs3:List UInt8:= [40,108,101,115,115,40,111,119,110,46,97,44,32,36,51,41,44,32,111,119,110,46,98,44,32,36,48,41]
def zs4:List UInt8:= [108,101,115,115,40,111,119,110,46,97,44,32,36,51,41,44,32,111,119,110,46,98,44,32,36,48,41]
def zs5:List UInt8:= [115,117,98,40,36,53,44,32,109,117,108,40,45,49,47,50,44,32,111,119,110,46,97,41,41]
def zs6:List UInt8:= [40,111,119,110,46,97,44,32,36,51,41,44,32,111,119,110,46,98,44,32,36,48,41]
def zs7:List UInt8:= [40,36,53,44,32,109,117,108,40,45,49,47,50,44,32,111,119,110,46,97,41,41]
def zs8:List UInt8:= [111,119,110,46,97,44,32,36,51,41,44,32,111,119,110,46,98,44,32,36,48,41]
def zs9:List UInt8:= [36,53,44,32,109,117,108,40,45,49,47,50,44,32,111,119,110,46,97,41,41]
def aPZ:List UInt8:= [53,44,32,109,117,108,40,45,49,47,50,44,32,111,119,110,46,97,41,41]
def aM8:List UInt8:= [44,32,109,117,108,40,45,49,47,50,44,32,111,119,110,46,97,41,41]
def aJp:List UInt8:= [109,117,108,40,111,119,110,46,97,44,32,102,97,99,116,46,98,41]
def aHU:List UInt8:= [97,100,100,40,111,119,110,46,97,44,32,102,97,99,116,46,97,41]
def a1P:List UInt8:= [46,97,44,32,36,51,41,44,32,111,119,110,46,98,44,32,36,48,41]
def aJq:List UInt8:= [115,117,98,40,111,119,110,46,97,44,32,111,119,110,46,97,41]
def aVY:List UInt8:= [97,44,32,36,51,41,44,32,111,119,110,46,98,44,32,36,48,41]
def aM9:List UInt8:= [109,117,108,40,45,49,47,50,44,32,111,119,110,46,97,41,41]
def aVZ:List UInt8:= [44,32,36,51,41,44,32,111,119,110,46,98,44,32,36,48,41]
def aSR:List UInt8:= [40,111,119,110,46,97,44,32,102,97,99,116,46,97,41]
def aSS:List UInt8:= [40,111,119,110,46,97,44,32,102,97,99,116,46,98,41]
def aST:List UInt8:= [36,51,41,44,32,111,119,110,46,98,44,32,36,48,41]
def aSU:List UInt8:= [40,111,119,110,46,97,44,32,111,119,110,46,97,41]
def aJr:List UInt8:= [100,105,118,40,36,49,44,32,111,119,110,46,97,41]
def aJs:List UInt8:= [100,105,118,40,111,119,110,46,97,44,32,45,50,41]
def aM_:List UInt8:= [111,119,110,46,97,44,32,102,97,99,116,46,97,41]
def aNa:List UInt8:= [111,119,110,46,97,44,32,102,97,99,116,46,98,41]
def aSV:List UInt8:= [40,45,49,47,50,44,32,111,119,110,46,97,41,41]
def aP0:List UInt8:= [51,41,44,32,111,119,110,46,98,44,32,36,48,41]
def aJt:List UInt8:= [114,97,116,101,46,120,40,111,119,110,46,97,41]
def aNb:List UInt8:= [111,119,110,46,97,44,32,111,119,110,46,97,41]
def aKO:List UInt8:= [45,49,47,50,44,32,111,119,110,46,97,41,41]
def aNc:List UInt8:= [41,44,32,111,119,110,46,98,44,32,36,48,41]
def aV1:List UInt8:= [44,32,111,119,110,46,98,44,32,36,48,41]
def aDl:List UInt8:= [45,48,49,50,51,52,53,54,55,56,57,47]
def aSW:List UInt8:= [40,36,49,44,32,111,119,110,46,97,41]
def aSX:List UInt8:= [40,111,119,110,46,97,44,32,45,50,41]
def a1Q:List UInt8:= [46,97,44,32,102,97,99,116,46,97,41]
def a1R:List UInt8:= [46,97,44,32,102,97,99,116,46,98,41]
def a1S:List UInt8:= [46,97,44,32,111,119,110,46,97,41]
def aSY:List UInt8:= [36,49,44,32,111,119,110,46,97,41]
def aNd:List UInt8:= [111,119,110,46,97,44,32,45,50,41]
def aNe:List UInt8:= [111,119,110,46,98,44,32,36,48,41]
def aV2:List UInt8:= [97,44,32,102,97,99,116,46,97,41]
def aV3:List UInt8:= [97,44,32,102,97,99,116,46,98,41]
def a1T:List UInt8:= [46,120,40,111,119,110,46,97,41]
def aV4:List UInt8:= [97,44,32,111,119,110,46,97,41]
def aNf:List UInt8:= [44,32,111,119,110,46,97,41,41]
def aP1:List UInt8:= [49,44,32,111,119,110,46,97,41]
def aV5:List UInt8:= [44,32,102,97,99,116,46,97,41]
def aV6:List UInt8:= [44,32,102,97,99,116,46,98,41]
def aV7:List UInt8:= [120,40,111,119,110,46,97,41]
def aHV:List UInt8:= [44,32,111,119,110,46,97,41]
def aNg:List UInt8:= [111,119,110,46,97,41,41]
def a1U:List UInt8:= [40,111,119,110,46,97,41]
def aNh:List UInt8:= [102,97,99,116,46,97,41]
def aNi:List UInt8:= [102,97,99,116,46,98,41]
def a1V:List UInt8:= [46,97,44,32,45,50,41]
def a1W:List UInt8:= [46,98,44,32,36,48,41]
def azV:List UInt8:= [111,119,110,46,97,41]
def aV8:List UInt8:= [97,44,32,45,50,41]
def aV9:List UInt8:= [98,44,32,36,48,41]
def a1X:List UInt8:= [108,101,115,115]
def aV_:List UInt8:= [44,32,45,50,41]
def aWa:List UInt8:= [44,32,36,48,41]
def a1Y:List UInt8:= [102,97,99,116]
def aWb:List UInt8:= [45,49,47,50]
def a1Z:List UInt8:= [46,97,41,41]
theorem k0:adY prog ap 90 [.ptr 0 0 0,.str [36]] (rA aHU 1) (.ret (.bool false)) (rA aHU 1):=cK (.nil)
theorem k1:adY prog ap 92 [.ptr 0 0 0,.str zs2] (rA aHU 1) (.ret (.str [97,100,100])) (rA aSR 1):=toK (avx aHU zs2 (1) false (by decide) (by decide)) (by kernel_rfl)
theorem k2:adY prog ap 90 [.ptr 0 0 0,.str [46]] (rA aSR 1) (.ret (.bool false)) (rA aSR 1):=cK (.nil)
theorem k3:CO 93 [.int .i64 5] (.ret (.str [102,97,99,116,46])):=cK (.nil)
theorem k4:CO 93 [.int .i64 6] (.ret (.str [111,119,110,46])):=cK (.nil)
theorem k5:CO 93 [.int .i64 7] (.ret (.str [112,114,105,111,114,46])):=cK (.nil)
theorem k6:CO 93 [.int .i64 8] (.ret (.str [115,112,111,117,115,101,46])):=cK (.nil)
theorem k7:CO 93 [.int .i64 9] (.ret (.str [97,100,100])):=cK (.nil)
theorem k8:CO 93 [.int .i64 10] (.ret (.str [115,117,98])):=cK (.nil)
theorem k9:CO 93 [.int .i64 11] (.ret (.str [109,117,108])):=cK (.nil)
theorem k10:CO 93 [.int .i64 12] (.ret (.str [100,105,118])):=cK (.nil)
theorem k11:CO 93 [.int .i64 13] (.ret (.str [109,105,110])):=cK (.nil)
theorem k12:CO 93 [.int .i64 14] (.ret (.str [109,97,120])):=cK (.nil)
theorem k13:CO 93 [.int .i64 15] (.ret (.str [105,102])):=cK (.nil)
theorem k14:CO 93 [.int .i64 16] (.ret (.str a1X)):=cK (.nil)
theorem k15:CO 93 [.int .i64 17] (.ret (.str [101,113,117,97,108])):=cK (.nil)
theorem k16:CO 93 [.int .i64 18] (.ret (.str [97,110,100])):=cK (.nil)
theorem k17:CO 93 [.int .i64 19] (.ret (.str [111,114])):=cK (.nil)
theorem k18:CO 93 [.int .i64 20] (.ret (.str [110,111,116])):=cK (.nil)
theorem k19:CO 93 [.int .i64 21] (.ret (.str [100,111,119,110])):=cK (.nil)
theorem k20:CO 93 [.int .i64 22] (.ret (.str [117,112])):=cK (.nil)
theorem k21:CO 93 [.int .i64 23] (.ret (.str [110,101,97,114])):=cK (.nil)
theorem k22:CO 93 [.int .i64 24] (.ret (.str [114,97,116,101,46])):=cK (.nil)
theorem k23:CO 32 [.int .i64 9] (.ret (.bool false)):=cK (.nil)
theorem k24:CO 34 [.int .i64 9] (.ret (.bool false)):=cK (.nil)
theorem k25:CO 30 [.int .i64 9] (.ret (.int .i64 2)):=cK (.nil)
theorem k26:adY prog ap 90 [.ptr 0 0 0,.str [40]] (rA aSR 1) (.ret (.bool true)) (rA aM_ 1):=cK (.nil)
theorem k27:adY prog ap 90 [.ptr 0 0 0,.str [36]] (rA aM_ 2) (.ret (.bool false)) (rA aM_ 2):=cK (.nil)
theorem k28:adY prog ap 92 [.ptr 0 0 0,.str zs2] (rA aM_ 2) (.ret (.str [111,119,110])) (rA a1Q 2):=toK (avx aM_ zs2 (2) false (by decide) (by decide)) (by kernel_rfl)
theorem k29:adY prog ap 90 [.ptr 0 0 0,.str [46]] (rA a1Q 2) (.ret (.bool true)) (rA aV2 2):=cK (.nil)
theorem k30:CO 32 [.int .i64 6] (.ret (.bool true)):=cK (.nil)
theorem k31:adY prog ap 92 [.ptr 0 0 0,.str zs0] (rA aV2 2) (.ret (.str [97])) (rA aV5 2):=toK (avx aV2 zs0 (2) false (by decide) (by decide)) (by kernel_rfl)
theorem k32:CO 34 [.int .i64 6] (.ret (.bool false)):=cK (.nil)
theorem k33:CO 30 [.int .i64 6] (.ret (.int .i64 0)):=cK (.nil)
theorem k34:adY prog ap 56 [.ptr 0 0 0] (rA aM_ 1) (.ret (.tup [])) (rB aV5 1 2 auX):=cK (.c k33 (.c k33 (.c k32 (.c k31 (.c k30 (.c k22 (.c k21 (.c k20 (.c k19 (.c k18 (.c k17 (.c k16 (.c k15 (.c k14 (.c k13 (.c k12 (.c k11 (.c k10 (.c k9 (.c k8 (.c k7 (.c k6 (.c k5 (.c k4 (.c k3 (.c k29 (.c k28 (.c k27 .nil))))))))))))))))))))))))))))
theorem k35:adY prog ap 90 [.ptr 0 0 0,.str [44,32]] (rB aV5 1 2 auX) (.ret (.bool true)) (rB aNh 1 2 auX):=cK (.nil)
theorem k36:adY prog ap 90 [.ptr 0 0 0,.str [36]] (rB aNh 1 3 auX) (.ret (.bool false)) (rB aNh 1 3 auX):=cK (.nil)
theorem k37:adY prog ap 92 [.ptr 0 0 0,.str zs2] (rB aNh 1 3 auX) (.ret (.str a1Y)) (rB [46,97,41] 1 3 auX):=toK (awF aNh zs2 (3) false 1 auX (by decide) (by decide)) (by kernel_rfl)
theorem k38:adY prog ap 90 [.ptr 0 0 0,.str [46]] (rB [46,97,41] 1 3 auX) (.ret (.bool true)) (rB [97,41] 1 3 auX):=cK (.nil)
theorem k39:CO 32 [.int .i64 5] (.ret (.bool true)):=cK (.nil)
theorem k40:adY prog ap 92 [.ptr 0 0 0,.str zs0] (rB [97,41] 1 3 auX) (.ret (.str [97])) (rB [41] 1 3 auX):=toK (awF [97,41] zs0 (3) false 1 auX (by decide) (by decide)) (by kernel_rfl)
theorem k41:CO 34 [.int .i64 5] (.ret (.bool false)):=cK (.nil)
theorem k42:CO 30 [.int .i64 5] (.ret (.int .i64 0)):=cK (.nil)
theorem k43:adY prog ap 56 [.ptr 0 0 0] (rB aNh 1 2 auX) (.ret (.tup [])) [⟨[.str [41],.ref 1 1 0 2,.int .i64 3,.bool false],0,false,0,0,false⟩,⟨zo5,1,false,0,5,true⟩]:=cK (.c k42 (.c k42 (.c k41 (.c k40 (.c k39 (.c k22 (.c k21 (.c k20 (.c k19 (.c k18 (.c k17 (.c k16 (.c k15 (.c k14 (.c k13 (.c k12 (.c k11 (.c k10 (.c k9 (.c k8 (.c k7 (.c k6 (.c k5 (.c k4 (.c k3 (.c k38 (.c k37 (.c k36 .nil))))))))))))))))))))))))))))
theorem k44:adY prog ap 90 [.ptr 0 0 0,.str [41]] (rB [41] 2 3 zo5) (.ret (.bool true)) (rB [] 2 3 zo5):=cK (.nil)
theorem k45:adY prog ap 56 [.ptr 0 0 0] (rA aHU 0) (.ret (.tup [])) [⟨[.str [],.ref 1 0 0 3,.int .i64 3,.bool false],0,false,0,0,false⟩,⟨(ndL aA4),0,false,0,5,true⟩]:=cK (.c k44 (.c k25 (.c k25 (.c k43 (.c k35 (.c k25 (.c k34 (.c k26 (.c k25 (.c k24 (.c k23 (.c k22 (.c k21 (.c k20 (.c k19 (.c k18 (.c k17 (.c k16 (.c k15 (.c k14 (.c k13 (.c k12 (.c k11 (.c k10 (.c k9 (.c k8 (.c k7 (.c k6 (.c k5 (.c k4 (.c k3 (.c k2 (.c k1 (.c k0 .nil))))))))))))))))))))))))))))))))))
theorem k46:CO 94 [.int .i64 6] (.ret (.bool false)):=cK (.nil)
theorem k47:CO 74 [.agg auX] (.ret (.bool true)):=cK (.c k32 (.c k46 .nil))
theorem k48:CO 75 [.str [97]] (.ret (.bool true)):=cK (.nil)
theorem k49:CO 94 [.int .i64 5] (.ret (.bool false)):=cK (.nil)
theorem k50:CO 74 [.agg [.int .i64 5,.bool false,.str [],.str [],.str [97]]] (.ret (.bool true)):=cK (.c k41 (.c k49 .nil))
theorem k51:CO 94 [.int .i64 9] (.ret (.bool false)):=cK (.nil)
theorem k52:CO 74 [.agg [.int .i64 9,.bool false,.str [],.str [],.str []]] (.ret (.bool true)):=cK (.c k24 (.c k51 .nil))
theorem k53:CO 75 [.str []] (.ret (.bool false)):=cK (.nil)
theorem k54:CO 48 [.sl (ndL aA4) 3 true] (.ret (.int .i64 0)):=cK (.c k25 (.c k53 (.c k52 (.c k23 (.c k42 (.c k48 (.c k50 (.c k39 (.c k33 (.c k48 (.c k47 (.c k30 .nil))))))))))))
theorem k55:CO 57 [.sl (ndL aA4) 3 true] (.ret (.tup [.str aHU,.int .i64 0])):=cK (.c k24 (.c k51 (.c k7 (.c k25 (.c k41 (.c k49 (.c k3 (.c k42 (.c k32 (.c k46 (.c k4 (.c k33 (.c k54 .nil)))))))))))))
theorem k56:CO 27 [.str aHU] (.ret (.tup [.sl (ndL aA4) 3 true,.int .i64 0])):=cK (.c k55 (.c k45 .nil))
theorem k57:CO 36 [.int .i64 1] (.ret (.agg [.bool false,.str [1],.str [1]])):=toK (aKq 1 (by decide)) (by kernel_rfl)
theorem k58:CO 36 [.int .i64 10] (.ret (.agg [.bool false,.str [10],.str [1]])):=toK (aKq 10 (by decide)) (by kernel_rfl)
theorem k59:CO 70 [.agg [.bool false,.str [1],.str [1]]] (.ret (.agg [.bool false,.str [1],.str [1]])):=toK (awK false [1] [1] (by decide) (by decide)) (by kernel_rfl)
theorem k60:CO 70 [.agg [.bool false,.str [10],.str [1]]] (.ret (.agg [.bool false,.str [10],.str [1]])):=toK (awK false [10] [1] (by decide) (by decide)) (by kernel_rfl)
theorem k61:CO 76 [.str [1]] (.ret (.str [1])):=cK (.nil)
theorem k62:CO 107 [.str [1]] (.ret (.tup [.int .i64 1,.bool true])):=cK (.c k61 .nil)
theorem k63:CO 77 [.str [1],.int .i64 3] (.ret (.tup [.int .i64 1,.bool true])):=cK (.c k62 (.c k61 .nil))
theorem k64:CO 77 [.str [1],.int .i64 4] (.ret (.tup [.int .i64 1,.bool true])):=cK (.c k62 (.c k61 .nil))
theorem k65:CO 49 [.int .i64 1] (.ret (.str [1])):=toK (avb 1 (by decide)) (by kernel_rfl)
theorem k66:CO 50 [.str [1],.str [1]] (.ret (.str [1])):=cK (.c k65 (.c k64 (.c k63 .nil)))
theorem k67:CO 76 [.str [10]] (.ret (.str [10])):=cK (.nil)
theorem k68:CO 107 [.str [10]] (.ret (.tup [.int .i64 10,.bool true])):=cK (.c k67 .nil)
theorem k69:CO 77 [.str [10],.int .i64 4] (.ret (.tup [.int .i64 10,.bool true])):=cK (.c k68 (.c k67 .nil))
theorem k70:CO 49 [.int .i64 10] (.ret (.str [10])):=toK (avb 10 (by decide)) (by kernel_rfl)
theorem k71:CO 50 [.str [1],.str [10]] (.ret (.str [10])):=cK (.c k70 (.c k69 (.c k63 .nil)))
theorem k72:CO 51 [.bool false,.str [1],.str [10]] (.ret (.agg [.bool false,.str [1],.str [10]])):=toK (av6 false 1 10 (aun (by decide)) (aun (by decide)) (by decide)) (by kernel_rfl)
theorem k73:CO 58 [.agg [.bool false,.str [1],.str [1]],.agg [.bool false,.str [10],.str [1]]] (.ret (.tup [.agg [.bool false,.str [1],.str [10]],.bool true])):=cK (.c k72 (.c k71 (.c k66 (.c k60 (.c k59 .nil)))))
theorem k74:CO 36 [.int .i64 5] (.ret (.agg [.bool false,.str [5],.str [1]])):=toK (aKq 5 (by decide)) (by kernel_rfl)
theorem k75:CO 70 [.agg [.bool false,.str [5],.str [1]]] (.ret (.agg [.bool false,.str [5],.str [1]])):=toK (awK false [5] [1] (by decide) (by decide)) (by kernel_rfl)
theorem k76:CO 76 [.str [5]] (.ret (.str [5])):=cK (.nil)
theorem k77:CO 107 [.str [5]] (.ret (.tup [.int .i64 5,.bool true])):=cK (.c k76 .nil)
theorem k78:CO 77 [.str [5],.int .i64 4] (.ret (.tup [.int .i64 5,.bool true])):=cK (.c k77 (.c k76 .nil))
theorem k79:CO 49 [.int .i64 5] (.ret (.str [5])):=toK (avb 5 (by decide)) (by kernel_rfl)
theorem k80:CO 50 [.str [1],.str [5]] (.ret (.str [5])):=cK (.c k79 (.c k78 (.c k63 .nil)))
theorem k81:CO 51 [.bool false,.str [1],.str [5]] (.ret (.agg [.bool false,.str [1],.str [5]])):=toK (av6 false 1 5 (aun (by decide)) (aun (by decide)) (by decide)) (by kernel_rfl)
theorem k82:CO 58 [.agg [.bool false,.str [1],.str [1]],.agg [.bool false,.str [5],.str [1]]] (.ret (.tup [.agg [.bool false,.str [1],.str [5]],.bool true])):=cK (.c k81 (.c k80 (.c k66 (.c k75 (.c k59 .nil)))))
theorem k83:CO 36 [.int .i64 0] (.ret (.agg [.bool false,.str [],.str [1]])):=toK (aKq 0 (by decide)) (by kernel_rfl)
theorem k84:CO 28 [.int .i64 1] (.ret (.sl [.str [120],.int .i64 0,.int .i64 0,.sl [.bool false,.str [],.str [1],.bool false,.str [1],.str [10],.bool false,.str [5],.str [1],.bool false,.str [1],.str [5]] 2 true] 1 true)):=cK (.c k74 (.c k83 (.c k82 (.c k74 (.c k57 (.c k73 (.c k58 (.c k57 .nil))))))))
theorem k85:CO 14 [.sl (ndL aA4) 3 true,.sl [.str [120],.int .i64 0,.int .i64 0,.sl [.bool false,.str [],.str [1],.bool false,.str [1],.str [10],.bool false,.str [5],.str [1],.bool false,.str [1],.str [5]] 2 true] 1 true,.int .i64 6,.str [97]] (.ret (.int .i64 1)):=adY.args (args:= [.sl (ndL aA4) 3 true,.sl [.str [120],.int .i64 0,.int .i64 0,.sl [.bool false,.str [],.str [1],.bool false,.str [1],.str [10],.bool false,.str [5],.str [1],.bool false,.str [1],.str [5]] 2 false] 1 true,.int .i64 6,.str [97]]) (.cons (anT.refl _) (.cons (anT.slP (.same (.same (.same (.sl .nil))))) (.cons (anT.refl _) (.cons (anT.refl _) .nil)))) (toK (aub aA4 true azQ true awI 6 [97] (awv (by kernel_rfl)) (by decide) (by decide) (avI)) (by kernel_rfl))
theorem k86:CO 26 [.str aHU,.str [97],.int .i64 1] (.ret (.bool true)):=cK (.c k85 (.c k84 (.c k56 .nil)))
theorem k87:CO 14 [.sl (ndL aA4) 3 true,.sl [.str [120],.int .i64 0,.int .i64 0,.sl [.bool false,.str [],.str [1],.bool false,.str [1],.str [10],.bool false,.str [5],.str [1],.bool false,.str [1],.str [5]] 2 true] 1 true,.int .i64 6,.str [98]] (.ret (.int .i64 0)):=adY.args (args:= [.sl (ndL aA4) 3 true,.sl [.str [120],.int .i64 0,.int .i64 0,.sl [.bool false,.str [],.str [1],.bool false,.str [1],.str [10],.bool false,.str [5],.str [1],.bool false,.str [1],.str [5]] 2 false] 1 true,.int .i64 6,.str [98]]) (.cons (anT.refl _) (.cons (anT.slP (.same (.same (.same (.sl .nil))))) (.cons (anT.refl _) (.cons (anT.refl _) .nil)))) (toK (aub aA4 true azQ true awI 6 [98] (awv (by kernel_rfl)) (by decide) (by decide) (avI)) (by kernel_rfl))
theorem k88:CO 26 [.str aHU,.str [98],.int .i64 0] (.ret (.bool true)):=cK (.c k87 (.c k84 (.c k56 .nil)))
theorem k89:adY prog ap 90 [.ptr 0 0 0,.str [36]] (rA aJq 1) (.ret (.bool false)) (rA aJq 1):=cK (.nil)
theorem k90:adY prog ap 92 [.ptr 0 0 0,.str zs2] (rA aJq 1) (.ret (.str [115,117,98])) (rA aSU 1):=toK (avx aJq zs2 (1) false (by decide) (by decide)) (by kernel_rfl)
theorem k91:adY prog ap 90 [.ptr 0 0 0,.str [46]] (rA aSU 1) (.ret (.bool false)) (rA aSU 1):=cK (.nil)
theorem k92:CO 32 [.int .i64 10] (.ret (.bool false)):=cK (.nil)
theorem k93:CO 34 [.int .i64 10] (.ret (.bool false)):=cK (.nil)
theorem k94:CO 30 [.int .i64 10] (.ret (.int .i64 2)):=cK (.nil)
theorem k95:adY prog ap 90 [.ptr 0 0 0,.str [40]] (rA aSU 1) (.ret (.bool true)) (rA aNb 1):=cK (.nil)
theorem k96:adY prog ap 90 [.ptr 0 0 0,.str [36]] (rA aNb 2) (.ret (.bool false)) (rA aNb 2):=cK (.nil)
theorem k97:adY prog ap 92 [.ptr 0 0 0,.str zs2] (rA aNb 2) (.ret (.str [111,119,110])) (rA a1S 2):=toK (avx aNb zs2 (2) false (by decide) (by decide)) (by kernel_rfl)
theorem k98:adY prog ap 90 [.ptr 0 0 0,.str [46]] (rA a1S 2) (.ret (.bool true)) (rA aV4 2):=cK (.nil)
theorem k99:adY prog ap 92 [.ptr 0 0 0,.str zs0] (rA aV4 2) (.ret (.str [97])) (rA aHV 2):=toK (avx aV4 zs0 (2) false (by decide) (by decide)) (by kernel_rfl)
theorem a4w:adY prog ap 56 [.ptr 0 0 0] (rA aNb 1) (.ret (.tup [])) (rB aHV 1 2 auX):=cK (.c k33 (.c k33 (.c k32 (.c k99 (.c k30 (.c k22 (.c k21 (.c k20 (.c k19 (.c k18 (.c k17 (.c k16 (.c k15 (.c k14 (.c k13 (.c k12 (.c k11 (.c k10 (.c k9 (.c k8 (.c k7 (.c k6 (.c k5 (.c k4 (.c k3 (.c k98 (.c k97 (.c k96 .nil))))))))))))))))))))))))))))
theorem a4x:adY prog ap 90 [.ptr 0 0 0,.str [44,32]] (rB aHV 1 2 auX) (.ret (.bool true)) (rB azV 1 2 auX):=cK (.nil)
theorem a4y:adY prog ap 90 [.ptr 0 0 0,.str [36]] (rB azV 1 3 auX) (.ret (.bool false)) (rB azV 1 3 auX):=cK (.nil)
theorem a4z:adY prog ap 92 [.ptr 0 0 0,.str zs2] (rB azV 1 3 auX) (.ret (.str [111,119,110])) (rB [46,97,41] 1 3 auX):=toK (awF azV zs2 (3) false 1 auX (by decide) (by decide)) (by kernel_rfl)
theorem a4A:adY prog ap 56 [.ptr 0 0 0] (rB azV 1 2 auX) (.ret (.tup [])) [⟨[.str [41],.ref 1 1 0 2,.int .i64 3,.bool false],0,false,0,0,false⟩,⟨zo6,1,false,0,5,true⟩]:=cK (.c k33 (.c k33 (.c k32 (.c k40 (.c k30 (.c k22 (.c k21 (.c k20 (.c k19 (.c k18 (.c k17 (.c k16 (.c k15 (.c k14 (.c k13 (.c k12 (.c k11 (.c k10 (.c k9 (.c k8 (.c k7 (.c k6 (.c k5 (.c k4 (.c k3 (.c k38 (.c a4z (.c a4y .nil))))))))))))))))))))))))))))
theorem a4B:adY prog ap 90 [.ptr 0 0 0,.str [41]] (rB [41] 2 3 zo6) (.ret (.bool true)) (rB [] 2 3 zo6):=cK (.nil)
theorem a4C:adY prog ap 56 [.ptr 0 0 0] (rA aJq 0) (.ret (.tup [])) [⟨[.str [],.ref 1 0 0 3,.int .i64 3,.bool false],0,false,0,0,false⟩,⟨(ndL aFc),0,false,0,5,true⟩]:=cK (.c a4B (.c k94 (.c k94 (.c a4A (.c a4x (.c k94 (.c a4w (.c k95 (.c k94 (.c k93 (.c k92 (.c k22 (.c k21 (.c k20 (.c k19 (.c k18 (.c k17 (.c k16 (.c k15 (.c k14 (.c k13 (.c k12 (.c k11 (.c k10 (.c k9 (.c k8 (.c k7 (.c k6 (.c k5 (.c k4 (.c k3 (.c k91 (.c k90 (.c k89 .nil))))))))))))))))))))))))))))))))))
theorem aUz:CO 94 [.int .i64 10] (.ret (.bool false)):=cK (.nil)
theorem aY7:CO 74 [.agg [.int .i64 10,.bool false,.str [],.str [],.str []]] (.ret (.bool true)):=cK (.c k93 (.c aUz .nil))
theorem a4D:CO 48 [.sl (ndL aFc) 3 true] (.ret (.int .i64 0)):=cK (.c k94 (.c k53 (.c aY7 (.c k92 (.c k33 (.c k48 (.c k47 (.c k30 (.c k33 (.c k48 (.c k47 (.c k30 .nil))))))))))))
theorem a4E:CO 57 [.sl (ndL aFc) 3 true] (.ret (.tup [.str aJq,.int .i64 0])):=cK (.c k93 (.c aUz (.c k8 (.c k94 (.c k32 (.c k46 (.c k4 (.c k33 (.c k32 (.c k46 (.c k4 (.c k33 (.c a4D .nil)))))))))))))
theorem a4F:CO 27 [.str aJq] (.ret (.tup [.sl (ndL aFc) 3 true,.int .i64 0])):=cK (.c a4E (.c a4C .nil))
theorem a4G:CO 14 [.sl (ndL aFc) 3 true,.sl [.str [120],.int .i64 0,.int .i64 0,.sl [.bool false,.str [],.str [1],.bool false,.str [1],.str [10],.bool false,.str [5],.str [1],.bool false,.str [1],.str [5]] 2 true] 1 true,.int .i64 6,.str [97]] (.ret (.int .i64 3)):=adY.args (args:= [.sl (ndL aFc) 3 true,.sl [.str [120],.int .i64 0,.int .i64 0,.sl [.bool false,.str [],.str [1],.bool false,.str [1],.str [10],.bool false,.str [5],.str [1],.bool false,.str [1],.str [5]] 2 false] 1 true,.int .i64 6,.str [97]]) (.cons (anT.refl _) (.cons (anT.slP (.same (.same (.same (.sl .nil))))) (.cons (anT.refl _) (.cons (anT.refl _) .nil)))) (toK (aub aFc true azQ true awI 6 [97] (awv (by kernel_rfl)) (by decide) (by decide) (avI)) (by kernel_rfl))
theorem a4H:CO 26 [.str aJq,.str [97],.int .i64 3] (.ret (.bool true)):=cK (.c a4G (.c k84 (.c a4F .nil)))
theorem a4I:adY prog ap 90 [.ptr 0 0 0,.str [36]] (rA zs5 1) (.ret (.bool false)) (rA zs5 1):=cK (.nil)
theorem a4J:adY prog ap 92 [.ptr 0 0 0,.str zs2] (rA zs5 1) (.ret (.str [115,117,98])) (rA zs7 1):=toK (avx zs5 zs2 (1) false (by decide) (by decide)) (by kernel_rfl)
theorem a4K:adY prog ap 90 [.ptr 0 0 0,.str [46]] (rA zs7 1) (.ret (.bool false)) (rA zs7 1):=cK (.nil)
theorem a4L:adY prog ap 90 [.ptr 0 0 0,.str [40]] (rA zs7 1) (.ret (.bool true)) (rA zs9 1):=cK (.nil)
theorem a4M:adY prog ap 90 [.ptr 0 0 0,.str [36]] (rA zs9 2) (.ret (.bool true)) (rA aPZ 2):=cK (.nil)
theorem a4N:adY prog ap 92 [.ptr 0 0 0,.str aDl] (rA aPZ 2) (.ret (.str [53])) (rA aM8 2):=toK (avx aPZ aDl (2) false (by decide) (by decide)) (by kernel_rfl)
theorem aRb:CO 76 [.str []] (.ret (.str [])):=cK (.nil)
theorem aY8:CO 107 [.str []] (.ret (.tup [.int .i64 0,.bool true])):=cK (.c aRb .nil)
theorem a4O:CO 77 [.str [],.int .i64 3] (.ret (.tup [.int .i64 0,.bool true])):=cK (.c aY8 (.c aRb .nil))
theorem aRc:CO 49 [.int .i64 0] (.ret (.str [])):=toK (avb 0 (by decide)) (by kernel_rfl)
theorem aOn:CO 50 [.str [],.str [10]] (.ret (.str [])):=cK (.c aRc (.c k69 (.c a4O .nil)))
theorem aMl:CO 77 [.str [],.int .i64 7] (.ret (.tup [.int .i64 0,.bool true])):=cK (.c aY8 (.c aRb .nil))
theorem a4P:CO 77 [.str [5],.int .i64 7] (.ret (.tup [.int .i64 5,.bool true])):=cK (.c k77 (.c k76 .nil))
theorem a4Q:CO 61 [.str [],.str [5]] (.ret (.str [5])):=cK (.c k79 (.c a4P (.c aMl .nil)))
theorem a4R:CO 157 [.str [53]] (.ret (.tup [.str [5],.bool true])):=cK (.c a4Q (.c k79 (.c aOn (.c k70 .nil))))
theorem a4S:CO 77 [.str [1],.int .i64 7] (.ret (.tup [.int .i64 1,.bool true])):=cK (.c k62 (.c k61 .nil))
theorem aY9:CO 61 [.str [],.str [1]] (.ret (.str [1])):=cK (.c k65 (.c a4S (.c aMl .nil)))
theorem aJ8:CO 157 [.str [49]] (.ret (.tup [.str [1],.bool true])):=cK (.c aY9 (.c k65 (.c aOn (.c k70 .nil))))
theorem a4T:CO 128 [.str [5]] (.ret (.bool true)):=toK (aBu [5]) (by kernel_rfl)
theorem aJ9:CO 128 [.str [1]] (.ret (.bool true)):=toK (aBu [1]) (by kernel_rfl)
theorem a4U:CO 51 [.bool false,.str [5],.str [1]] (.ret (.agg [.bool false,.str [5],.str [1]])):=toK (av6 false 5 1 (aun (by decide)) (aun (by decide)) (by decide)) (by kernel_rfl)
theorem a4V:CO 96 [.bool false,.str [5],.str [1]] (.ret (.tup [.agg [.bool false,.str [5],.str [1]],.bool true])):=cK (.c a4U (.c aJ9 (.c a4T .nil)))
theorem a4W:CO 81 [.str [5],.str [10]] (.ret (.tup [.str [],.str [5],.bool true])):=toK (azA [5] [10] (by decide) (by decide) (by decide)) (by kernel_rfl)
theorem a4X:CO 127 [.str [5]] (.ret (.str [53])):=cK (.c k77 (.c a4W (.c k70 (.c k76 .nil))))
theorem aOo:CO 118 [.str [1],.str [1]] (.ret (.int .i64 0)):=cK (.c k61 (.c k61 .nil))
theorem aY_:CO 95 [.agg [.bool false,.str [5],.str [1]]] (.ret (.str [53])):=cK (.c aOo (.c k65 (.c a4X (.c k75 .nil))))
theorem a4Y:CO 126 [.str [53]] (.ret (.tup [.agg [.bool false,.str [5],.str [1]],.bool true])):=cK (.c aY_ (.c a4V (.c aJ8 (.c a4R .nil))))
theorem a4Z:adY prog ap 91 [.ptr 0 0 0] (rA aPZ 2) (.ret (.agg [.bool false,.str [5],.str [1]])) (rA aM8 2):=cK (.c a4Y (.c a4N .nil))
theorem aZa:anO prog ap (rA zs9 1) 206 (aE7 5 (adW f56)) ⟨([(0,.ptr 0 0 0),(2,.bool true)]++dE [3,4,5,6,7,8,9,10,11,12,13,14,15]++ [(41,.bool false),(47,.bool true)]++dE [65,70,100,102,117,122,128,133,139,145,158,166,170,175,184,188,192]),[(0,⟨[.str aPZ,.nilS,.int .i64 2,.bool false],0,false,0,0,true⟩)],.dead,[]⟩ (.normal) ⟨([(0,.ptr 0 0 0),(2,.bool true)]++dE [3,4,5,6,7,8,9,10,11,12,13,14,15]++ [(41,.bool false),(47,.bool true)]++dE [65,70,100,102,117,122,128,133,139,145,158,166,170,175,184,188,192]),[(0,⟨[.str aM8,.ref 1 0 0 1,.int .i64 2,.bool false],0,false,0,0,false⟩),(1,⟨axD,0,false,0,5,true⟩)],.dead,[]⟩:=fun nt hn=>aDH aHj (keep:=aAa ap 56) (i:=4) (b:=0) (d:=52) (nt0:=206) (ans:= [(.ret (.agg [.bool false,.str [5],.str [1]]),(rA aM8 2))]) (.cons (rfl:(.nilS:AV)=(.nilS:AV)) (.cons (rfl:(.nilS:AV)=(.nilS:AV)) (.cons a4Z .nil))) hn (by kernel_rfl)
theorem a4_:adY prog ap 56 [.ptr 0 0 0] (rA zs9 1) (.ret (.tup [])) (rB aM8 1 2 axD):=pK [1005] 4 8 (.n 9 .nil) (.l aZa (.c a4M .nil))
theorem a5a:adY prog ap 90 [.ptr 0 0 0,.str [44,32]] (rB aM8 1 2 axD) (.ret (.bool true)) (rB aM9 1 2 axD):=cK (.nil)
theorem a5b:adY prog ap 90 [.ptr 0 0 0,.str [36]] (rB aM9 1 3 axD) (.ret (.bool false)) (rB aM9 1 3 axD):=cK (.nil)
theorem a5c:adY prog ap 92 [.ptr 0 0 0,.str zs2] (rB aM9 1 3 axD) (.ret (.str [109,117,108])) (rB aSV 1 3 axD):=toK (awF aM9 zs2 (3) false 1 axD (by decide) (by decide)) (by kernel_rfl)
theorem a5d:adY prog ap 90 [.ptr 0 0 0,.str [46]] (rB aSV 1 3 axD) (.ret (.bool false)) (rB aSV 1 3 axD):=cK (.nil)
theorem aRd:CO 32 [.int .i64 11] (.ret (.bool false)):=cK (.nil)
theorem aOp:CO 34 [.int .i64 11] (.ret (.bool false)):=cK (.nil)
theorem aDh:CO 30 [.int .i64 11] (.ret (.int .i64 2)):=cK (.nil)
theorem a5e:adY prog ap 90 [.ptr 0 0 0,.str [40]] (rB aSV 1 3 axD) (.ret (.bool true)) (rB aKO 1 3 axD):=cK (.nil)
theorem a5f:adY prog ap 90 [.ptr 0 0 0,.str [36]] (rB aKO 1 4 axD) (.ret (.bool false)) (rB aKO 1 4 axD):=cK (.nil)
theorem a5g:adY prog ap 92 [.ptr 0 0 0,.str aDl] (rB aKO 1 4 axD) (.ret (.str aWb)) (rB aNf 1 4 axD):=toK (awF aKO aDl (4) false 1 axD (by decide) (by decide)) (by kernel_rfl)
theorem aZb:CO 49 [.int .i64 2] (.ret (.str [2])):=toK (avb 2 (by decide)) (by kernel_rfl)
theorem aRe:CO 76 [.str [2]] (.ret (.str [2])):=cK (.nil)
theorem aZc:CO 107 [.str [2]] (.ret (.tup [.int .i64 2,.bool true])):=cK (.c aRe .nil)
theorem a5h:CO 77 [.str [2],.int .i64 7] (.ret (.tup [.int .i64 2,.bool true])):=cK (.c aZc (.c aRe .nil))
theorem a5i:CO 61 [.str [],.str [2]] (.ret (.str [2])):=cK (.c aZb (.c a5h (.c aMl .nil)))
theorem aZd:CO 157 [.str [50]] (.ret (.tup [.str [2],.bool true])):=cK (.c a5i (.c aZb (.c aOn (.c k70 .nil))))
theorem aZe:CO 128 [.str [2]] (.ret (.bool true)):=toK (aBu [2]) (by kernel_rfl)
theorem a5j:CO 51 [.bool true,.str [1],.str [2]] (.ret (.agg [.bool true,.str [1],.str [2]])):=toK (av6 true 1 2 (aun (by decide)) (aun (by decide)) (by decide)) (by kernel_rfl)
theorem a5k:CO 96 [.bool true,.str [1],.str [2]] (.ret (.tup [.agg [.bool true,.str [1],.str [2]],.bool true])):=cK (.c a5j (.c aZe (.c aJ9 .nil)))
theorem a5l:CO 70 [.agg [.bool true,.str [1],.str [2]]] (.ret (.agg [.bool true,.str [1],.str [2]])):=toK (awK true [1] [2] (by decide) (by decide)) (by kernel_rfl)
theorem a5m:CO 81 [.str [1],.str [10]] (.ret (.tup [.str [],.str [1],.bool true])):=toK (azA [1] [10] (by decide) (by decide) (by decide)) (by kernel_rfl)
theorem aZf:CO 127 [.str [1]] (.ret (.str [49])):=cK (.c k62 (.c a5m (.c k70 (.c k61 .nil))))
theorem a5n:CO 118 [.str [2],.str [1]] (.ret (.int .i64 1)):=cK (.c k61 (.c aRe .nil))
theorem a5o:CO 81 [.str [2],.str [10]] (.ret (.tup [.str [],.str [2],.bool true])):=toK (azA [2] [10] (by decide) (by decide) (by decide)) (by kernel_rfl)
theorem aZg:CO 127 [.str [2]] (.ret (.str [50])):=cK (.c aZc (.c a5o (.c k70 (.c aRe .nil))))
theorem aZh:CO 95 [.agg [.bool true,.str [1],.str [2]]] (.ret (.str aWb)):=cK (.c aZg (.c a5n (.c k65 (.c aZf (.c a5l .nil)))))
theorem a5p:CO 126 [.str aWb] (.ret (.tup [.agg [.bool true,.str [1],.str [2]],.bool true])):=cK (.c aZh (.c a5k (.c aZd (.c aJ8 .nil))))
theorem a5q:adY prog ap 91 [.ptr 0 0 0] (rB aKO 1 4 axD) (.ret (.agg [.bool true,.str [1],.str [2]])) (rB aNf 1 4 axD):=cK (.c a5p (.c a5g .nil))
theorem a5r:adY prog ap 90 [.ptr 0 0 0,.str [100]] (rB aNf 1 4 axD) (.ret (.bool false)) (rB aNf 1 4 axD):=cK (.nil)
theorem a5s:adY prog ap 56 [.ptr 0 0 0] (rB aKO 1 3 axD) (.ret (.tup [])) [⟨[.str aNf,.ref 1 1 0 2,.int .i64 4,.bool false],0,false,0,0,false⟩,⟨aCj,1,false,0,5,true⟩]:=cK (.c a5r (.c a5q (.c a5f .nil)))
theorem a5t:adY prog ap 90 [.ptr 0 0 0,.str [44,32]] (rB aNf 2 4 aCj) (.ret (.bool true)) (rB aNg 2 4 aCj):=cK (.nil)
theorem a5u:adY prog ap 90 [.ptr 0 0 0,.str [36]] (rB aNg 2 5 aCj) (.ret (.bool false)) (rB aNg 2 5 aCj):=cK (.nil)
theorem a5v:adY prog ap 92 [.ptr 0 0 0,.str zs2] (rB aNg 2 5 aCj) (.ret (.str [111,119,110])) (rB a1Z 2 5 aCj):=toK (awF aNg zs2 (5) false 2 aCj (by decide) (by decide)) (by kernel_rfl)
theorem a5w:adY prog ap 90 [.ptr 0 0 0,.str [46]] (rB a1Z 2 5 aCj) (.ret (.bool true)) (rB [97,41,41] 2 5 aCj):=cK (.nil)
theorem a5x:adY prog ap 92 [.ptr 0 0 0,.str zs0] (rB [97,41,41] 2 5 aCj) (.ret (.str [97])) (rB [41,41] 2 5 aCj):=toK (awF [97,41,41] zs0 (5) false 2 aCj (by decide) (by decide)) (by kernel_rfl)
theorem a5y:adY prog ap 56 [.ptr 0 0 0] (rB aNg 2 4 aCj) (.ret (.tup [])) [⟨[.str [41,41],.ref 1 1 0 3,.int .i64 5,.bool false],0,false,0,0,false⟩,⟨zo3,1,false,0,5,true⟩]:=cK (.c k33 (.c k33 (.c k32 (.c a5x (.c k30 (.c k22 (.c k21 (.c k20 (.c k19 (.c k18 (.c k17 (.c k16 (.c k15 (.c k14 (.c k13 (.c k12 (.c k11 (.c k10 (.c k9 (.c k8 (.c k7 (.c k6 (.c k5 (.c k4 (.c k3 (.c a5w (.c a5v (.c a5u .nil))))))))))))))))))))))))))))
theorem a5z:adY prog ap 90 [.ptr 0 0 0,.str [41]] (rB [41,41] 3 5 zo3) (.ret (.bool true)) (rB [41] 3 5 zo3):=cK (.nil)
theorem a5A:adY prog ap 56 [.ptr 0 0 0] (rB aM9 1 2 axD) (.ret (.tup [])) [⟨[.str [41],.ref 1 3 0 4,.int .i64 5,.bool false],0,false,0,0,false⟩,⟨zo2,3,false,0,5,true⟩]:=cK (.c a5z (.c aDh (.c aDh (.c a5y (.c a5t (.c aDh (.c a5s (.c a5e (.c aDh (.c aOp (.c aRd (.c k22 (.c k21 (.c k20 (.c k19 (.c k18 (.c k17 (.c k16 (.c k15 (.c k14 (.c k13 (.c k12 (.c k11 (.c k10 (.c k9 (.c k8 (.c k7 (.c k6 (.c k5 (.c k4 (.c k3 (.c a5d (.c a5c (.c a5b .nil))))))))))))))))))))))))))))))))))
theorem a5B:adY prog ap 90 [.ptr 0 0 0,.str [41]] (rB [41] 4 5 zo2) (.ret (.bool true)) (rB [] 4 5 zo2):=cK (.nil)
theorem a5C:adY prog ap 56 [.ptr 0 0 0] (rA zs5 0) (.ret (.tup [])) [⟨[.str [],.ref 1 0 0 5,.int .i64 5,.bool false],0,false,0,0,false⟩,⟨(ndL aFd),0,false,0,5,true⟩]:=cK (.c a5B (.c k94 (.c k94 (.c a5A (.c a5a (.c k94 (.c a4_ (.c a4L (.c k94 (.c k93 (.c k92 (.c k22 (.c k21 (.c k20 (.c k19 (.c k18 (.c k17 (.c k16 (.c k15 (.c k14 (.c k13 (.c k12 (.c k11 (.c k10 (.c k9 (.c k8 (.c k7 (.c k6 (.c k5 (.c k4 (.c k3 (.c a4K (.c a4J (.c a4I .nil))))))))))))))))))))))))))))))))))
theorem aRf:CO 32 [.int .i64 1] (.ret (.bool false)):=cK (.nil)
theorem aIy:CO 94 [.int .i64 1] (.ret (.bool true)):=cK (.nil)
theorem a5D:CO 105 [.agg [.bool false,.str [5],.str [1]]] (.ret (.bool true)):=toK (axQ false [5] [1] (by decide) (by decide)) (by kernel_rfl)
theorem a5E:CO 74 [.agg axD] (.ret (.bool true)):=cK (.c a5D (.c aIy .nil))
theorem aIz:CO 30 [.int .i64 1] (.ret (.int .i64 0)):=cK (.nil)
theorem aZi:CO 32 [.int .i64 3] (.ret (.bool false)):=cK (.nil)
theorem aRg:CO 94 [.int .i64 3] (.ret (.bool true)):=cK (.nil)
theorem a5F:CO 105 [.agg [.bool true,.str [1],.str [2]]] (.ret (.bool true)):=toK (axQ true [1] [2] (by decide) (by decide)) (by kernel_rfl)
theorem a5G:CO 74 [.agg [.int .i64 3,.bool true,.str [1],.str [2],.str []]] (.ret (.bool true)):=cK (.c a5F (.c aRg .nil))
theorem aRh:CO 30 [.int .i64 3] (.ret (.int .i64 0)):=cK (.nil)
theorem aUA:CO 94 [.int .i64 11] (.ret (.bool false)):=cK (.nil)
theorem aZj:CO 74 [.agg [.int .i64 11,.bool false,.str [],.str [],.str []]] (.ret (.bool true)):=cK (.c aOp (.c aUA .nil))
theorem a5H:CO 48 [.sl (ndL aFd) 5 true] (.ret (.int .i64 0)):=cK (.c k94 (.c k53 (.c aY7 (.c k92 (.c aDh (.c k53 (.c aZj (.c aRd (.c k33 (.c k48 (.c k47 (.c k30 (.c aRh (.c k53 (.c a5G (.c aZi (.c aIz (.c k53 (.c a5E (.c aRf .nil))))))))))))))))))))
theorem aRi:CO 93 [.int .i64 1] (.ret (.str [36])):=cK (.nil)
theorem aZk:CO 93 [.int .i64 3] (.ret (.str [])):=cK (.nil)
theorem a5I:CO 57 [.sl (ndL aFd) 5 true] (.ret (.tup [.str zs5,.int .i64 0])):=cK (.c k93 (.c aUz (.c k8 (.c k94 (.c aOp (.c aUA (.c k9 (.c aDh (.c k32 (.c k46 (.c k4 (.c k33 (.c aZh (.c aRg (.c aZk (.c aRh (.c aY_ (.c aIy (.c aRi (.c aIz (.c a5H .nil)))))))))))))))))))))
theorem a5J:CO 27 [.str zs5] (.ret (.tup [.sl (ndL aFd) 5 true,.int .i64 0])):=cK (.c a5I (.c a5C .nil))
theorem a5K:CO 14 [.sl (ndL aFd) 5 true,.sl [.str [120],.int .i64 0,.int .i64 0,.sl [.bool false,.str [],.str [1],.bool false,.str [1],.str [10],.bool false,.str [5],.str [1],.bool false,.str [1],.str [5]] 2 true] 1 true,.int .i64 6,.str [97]] (.ret (.int .i64 1)):=adY.args (args:= [.sl (ndL aFd) 5 true,.sl [.str [120],.int .i64 0,.int .i64 0,.sl [.bool false,.str [],.str [1],.bool false,.str [1],.str [10],.bool false,.str [5],.str [1],.bool false,.str [1],.str [5]] 2 false] 1 true,.int .i64 6,.str [97]]) (.cons (anT.refl _) (.cons (anT.slP (.same (.same (.same (.sl .nil))))) (.cons (anT.refl _) (.cons (anT.refl _) .nil)))) (toK (aub aFd true azQ true awI 6 [97] (awv (by kernel_rfl)) (by decide) (by decide) (avI)) (by kernel_rfl))
theorem a5L:CO 26 [.str zs5,.str [97],.int .i64 1] (.ret (.bool true)):=cK (.c a5K (.c k84 (.c a5J .nil)))
theorem a5M:adY prog ap 90 [.ptr 0 0 0,.str [36]] (rA aJp 1) (.ret (.bool false)) (rA aJp 1):=cK (.nil)
theorem a5N:adY prog ap 92 [.ptr 0 0 0,.str zs2] (rA aJp 1) (.ret (.str [109,117,108])) (rA aSS 1):=toK (avx aJp zs2 (1) false (by decide) (by decide)) (by kernel_rfl)
theorem a5O:adY prog ap 90 [.ptr 0 0 0,.str [46]] (rA aSS 1) (.ret (.bool false)) (rA aSS 1):=cK (.nil)
theorem a5P:adY prog ap 90 [.ptr 0 0 0,.str [40]] (rA aSS 1) (.ret (.bool true)) (rA aNa 1):=cK (.nil)
theorem a5Q:adY prog ap 90 [.ptr 0 0 0,.str [36]] (rA aNa 2) (.ret (.bool false)) (rA aNa 2):=cK (.nil)
theorem a5R:adY prog ap 92 [.ptr 0 0 0,.str zs2] (rA aNa 2) (.ret (.str [111,119,110])) (rA a1R 2):=toK (avx aNa zs2 (2) false (by decide) (by decide)) (by kernel_rfl)
theorem a5S:adY prog ap 90 [.ptr 0 0 0,.str [46]] (rA a1R 2) (.ret (.bool true)) (rA aV3 2):=cK (.nil)
theorem a5T:adY prog ap 92 [.ptr 0 0 0,.str zs0] (rA aV3 2) (.ret (.str [97])) (rA aV6 2):=toK (avx aV3 zs0 (2) false (by decide) (by decide)) (by kernel_rfl)
theorem a5U:adY prog ap 56 [.ptr 0 0 0] (rA aNa 1) (.ret (.tup [])) (rB aV6 1 2 auX):=cK (.c k33 (.c k33 (.c k32 (.c a5T (.c k30 (.c k22 (.c k21 (.c k20 (.c k19 (.c k18 (.c k17 (.c k16 (.c k15 (.c k14 (.c k13 (.c k12 (.c k11 (.c k10 (.c k9 (.c k8 (.c k7 (.c k6 (.c k5 (.c k4 (.c k3 (.c a5S (.c a5R (.c a5Q .nil))))))))))))))))))))))))))))
theorem a5V:adY prog ap 90 [.ptr 0 0 0,.str [44,32]] (rB aV6 1 2 auX) (.ret (.bool true)) (rB aNi 1 2 auX):=cK (.nil)
theorem a5W:adY prog ap 90 [.ptr 0 0 0,.str [36]] (rB aNi 1 3 auX) (.ret (.bool false)) (rB aNi 1 3 auX):=cK (.nil)
theorem a5X:adY prog ap 92 [.ptr 0 0 0,.str zs2] (rB aNi 1 3 auX) (.ret (.str a1Y)) (rB [46,98,41] 1 3 auX):=toK (awF aNi zs2 (3) false 1 auX (by decide) (by decide)) (by kernel_rfl)
theorem a5Y:adY prog ap 90 [.ptr 0 0 0,.str [46]] (rB [46,98,41] 1 3 auX) (.ret (.bool true)) (rB [98,41] 1 3 auX):=cK (.nil)
theorem a5Z:adY prog ap 92 [.ptr 0 0 0,.str zs0] (rB [98,41] 1 3 auX) (.ret (.str [98])) (rB [41] 1 3 auX):=toK (awF [98,41] zs0 (3) false 1 auX (by decide) (by decide)) (by kernel_rfl)
theorem a5_:adY prog ap 56 [.ptr 0 0 0] (rB aNi 1 2 auX) (.ret (.tup [])) [⟨[.str [41],.ref 1 1 0 2,.int .i64 3,.bool false],0,false,0,0,false⟩,⟨zo7,1,false,0,5,true⟩]:=cK (.c k42 (.c k42 (.c k41 (.c a5Z (.c k39 (.c k22 (.c k21 (.c k20 (.c k19 (.c k18 (.c k17 (.c k16 (.c k15 (.c k14 (.c k13 (.c k12 (.c k11 (.c k10 (.c k9 (.c k8 (.c k7 (.c k6 (.c k5 (.c k4 (.c k3 (.c a5Y (.c a5X (.c a5W .nil))))))))))))))))))))))))))))
theorem a6a:adY prog ap 90 [.ptr 0 0 0,.str [41]] (rB [41] 2 3 zo7) (.ret (.bool true)) (rB [] 2 3 zo7):=cK (.nil)
theorem a6b:adY prog ap 56 [.ptr 0 0 0] (rA aJp 0) (.ret (.tup [])) [⟨[.str [],.ref 1 0 0 3,.int .i64 3,.bool false],0,false,0,0,false⟩,⟨(ndL axG),0,false,0,5,true⟩]:=cK (.c a6a (.c aDh (.c aDh (.c a5_ (.c a5V (.c aDh (.c a5U (.c a5P (.c aDh (.c aOp (.c aRd (.c k22 (.c k21 (.c k20 (.c k19 (.c k18 (.c k17 (.c k16 (.c k15 (.c k14 (.c k13 (.c k12 (.c k11 (.c k10 (.c k9 (.c k8 (.c k7 (.c k6 (.c k5 (.c k4 (.c k3 (.c a5O (.c a5N (.c a5M .nil))))))))))))))))))))))))))))))))))
theorem a6c:CO 74 [.agg [.int .i64 5,.bool false,.str [],.str [],.str [98]]] (.ret (.bool true)):=cK (.c k41 (.c k49 .nil))
theorem aZl:CO 75 [.str [98]] (.ret (.bool true)):=cK (.nil)
theorem a6d:CO 48 [.sl (ndL axG) 3 true] (.ret (.int .i64 0)):=cK (.c aDh (.c k53 (.c aZj (.c aRd (.c k42 (.c aZl (.c a6c (.c k39 (.c k33 (.c k48 (.c k47 (.c k30 .nil))))))))))))
theorem a6e:CO 57 [.sl (ndL axG) 3 true] (.ret (.tup [.str aJp,.int .i64 0])):=cK (.c aOp (.c aUA (.c k9 (.c aDh (.c k41 (.c k49 (.c k3 (.c k42 (.c k32 (.c k46 (.c k4 (.c k33 (.c a6d .nil)))))))))))))
theorem aZm:CO 27 [.str aJp] (.ret (.tup [.sl (ndL axG) 3 true,.int .i64 0])):=cK (.c a6e (.c a6b .nil))
theorem a6f:CO 14 [.sl (ndL axG) 3 true,.sl [.str [120],.int .i64 0,.int .i64 0,.sl [.bool false,.str [],.str [1],.bool false,.str [1],.str [10],.bool false,.str [5],.str [1],.bool false,.str [1],.str [5]] 2 true] 1 true,.int .i64 6,.str [97]] (.ret (.int .i64 3)):=adY.args (args:= [.sl (ndL axG) 3 true,.sl [.str [120],.int .i64 0,.int .i64 0,.sl [.bool false,.str [],.str [1],.bool false,.str [1],.str [10],.bool false,.str [5],.str [1],.bool false,.str [1],.str [5]] 2 false] 1 true,.int .i64 6,.str [97]]) (.cons (anT.refl _) (.cons (anT.slP (.same (.same (.same (.sl .nil))))) (.cons (anT.refl _) (.cons (anT.refl _) .nil)))) (toK (aub axG true azQ true awI 6 [97] (awv (by kernel_rfl)) (by decide) (by decide) (avI)) (by kernel_rfl))
theorem a6g:CO 26 [.str aJp,.str [97],.int .i64 3] (.ret (.bool true)):=cK (.c a6f (.c k84 (.c aZm .nil)))
theorem a6h:adY prog ap 90 [.ptr 0 0 0,.str [36]] (rA aJr 1) (.ret (.bool false)) (rA aJr 1):=cK (.nil)
theorem a6i:adY prog ap 92 [.ptr 0 0 0,.str zs2] (rA aJr 1) (.ret (.str [100,105,118])) (rA aSW 1):=toK (avx aJr zs2 (1) false (by decide) (by decide)) (by kernel_rfl)
theorem a6j:adY prog ap 90 [.ptr 0 0 0,.str [46]] (rA aSW 1) (.ret (.bool false)) (rA aSW 1):=cK (.nil)
theorem aRj:CO 32 [.int .i64 12] (.ret (.bool false)):=cK (.nil)
theorem aOq:CO 34 [.int .i64 12] (.ret (.bool false)):=cK (.nil)
theorem aDi:CO 30 [.int .i64 12] (.ret (.int .i64 2)):=cK (.nil)
theorem a6k:adY prog ap 90 [.ptr 0 0 0,.str [40]] (rA aSW 1) (.ret (.bool true)) (rA aSY 1):=cK (.nil)
theorem a6l:adY prog ap 90 [.ptr 0 0 0,.str [36]] (rA aSY 2) (.ret (.bool true)) (rA aP1 2):=cK (.nil)
theorem a6m:adY prog ap 92 [.ptr 0 0 0,.str aDl] (rA aP1 2) (.ret (.str [49])) (rA aHV 2):=toK (avx aP1 aDl (2) false (by decide) (by decide)) (by kernel_rfl)
theorem a6n:CO 51 [.bool false,.str [1],.str [1]] (.ret (.agg [.bool false,.str [1],.str [1]])):=toK (av6 false 1 1 (aun (by decide)) (aun (by decide)) (by decide)) (by kernel_rfl)
theorem a6o:CO 96 [.bool false,.str [1],.str [1]] (.ret (.tup [.agg [.bool false,.str [1],.str [1]],.bool true])):=cK (.c a6n (.c aJ9 (.c aJ9 .nil)))
theorem aZn:CO 95 [.agg [.bool false,.str [1],.str [1]]] (.ret (.str [49])):=cK (.c aOo (.c k65 (.c aZf (.c k59 .nil))))
theorem a6p:CO 126 [.str [49]] (.ret (.tup [.agg [.bool false,.str [1],.str [1]],.bool true])):=cK (.c aZn (.c a6o (.c aJ8 (.c aJ8 .nil))))
theorem a6q:adY prog ap 91 [.ptr 0 0 0] (rA aP1 2) (.ret (.agg [.bool false,.str [1],.str [1]])) (rA aHV 2):=cK (.c a6p (.c a6m .nil))
theorem aZo:anO prog ap (rA aSY 1) 206 (aE7 5 (adW f56)) ⟨([(0,.ptr 0 0 0),(2,.bool true)]++dE [3,4,5,6,7,8,9,10,11,12,13,14,15]++ [(41,.bool false),(47,.bool true)]++dE [65,70,100,102,117,122,128,133,139,145,158,166,170,175,184,188,192]),[(0,⟨[.str aP1,.nilS,.int .i64 2,.bool false],0,false,0,0,true⟩)],.dead,[]⟩ (.normal) ⟨([(0,.ptr 0 0 0),(2,.bool true)]++dE [3,4,5,6,7,8,9,10,11,12,13,14,15]++ [(41,.bool false),(47,.bool true)]++dE [65,70,100,102,117,122,128,133,139,145,158,166,170,175,184,188,192]),[(0,⟨[.str aHV,.ref 1 0 0 1,.int .i64 2,.bool false],0,false,0,0,false⟩),(1,⟨aAT,0,false,0,5,true⟩)],.dead,[]⟩:=fun nt hn=>aDH aHj (keep:=aAa ap 56) (i:=4) (b:=0) (d:=52) (nt0:=206) (ans:= [(.ret (.agg [.bool false,.str [1],.str [1]]),(rA aHV 2))]) (.cons (rfl:(.nilS:AV)=(.nilS:AV)) (.cons (rfl:(.nilS:AV)=(.nilS:AV)) (.cons a6q .nil))) hn (by kernel_rfl)
theorem a6r:adY prog ap 56 [.ptr 0 0 0] (rA aSY 1) (.ret (.tup [])) (rB aHV 1 2 aAT):=pK [1005] 4 8 (.n 9 .nil) (.l aZo (.c a6l .nil))
theorem a6s:adY prog ap 90 [.ptr 0 0 0,.str [44,32]] (rB aHV 1 2 aAT) (.ret (.bool true)) (rB azV 1 2 aAT):=cK (.nil)
theorem a6t:adY prog ap 90 [.ptr 0 0 0,.str [36]] (rB azV 1 3 aAT) (.ret (.bool false)) (rB azV 1 3 aAT):=cK (.nil)
theorem a6u:adY prog ap 92 [.ptr 0 0 0,.str zs2] (rB azV 1 3 aAT) (.ret (.str [111,119,110])) (rB [46,97,41] 1 3 aAT):=toK (awF azV zs2 (3) false 1 aAT (by decide) (by decide)) (by kernel_rfl)
theorem a6v:adY prog ap 90 [.ptr 0 0 0,.str [46]] (rB [46,97,41] 1 3 aAT) (.ret (.bool true)) (rB [97,41] 1 3 aAT):=cK (.nil)
theorem a6w:adY prog ap 92 [.ptr 0 0 0,.str zs0] (rB [97,41] 1 3 aAT) (.ret (.str [97])) (rB [41] 1 3 aAT):=toK (awF [97,41] zs0 (3) false 1 aAT (by decide) (by decide)) (by kernel_rfl)
theorem a6x:adY prog ap 56 [.ptr 0 0 0] (rB azV 1 2 aAT) (.ret (.tup [])) [⟨[.str [41],.ref 1 1 0 2,.int .i64 3,.bool false],0,false,0,0,false⟩,⟨zo8,1,false,0,5,true⟩]:=cK (.c k33 (.c k33 (.c k32 (.c a6w (.c k30 (.c k22 (.c k21 (.c k20 (.c k19 (.c k18 (.c k17 (.c k16 (.c k15 (.c k14 (.c k13 (.c k12 (.c k11 (.c k10 (.c k9 (.c k8 (.c k7 (.c k6 (.c k5 (.c k4 (.c k3 (.c a6v (.c a6u (.c a6t .nil))))))))))))))))))))))))))))
theorem a6y:adY prog ap 90 [.ptr 0 0 0,.str [41]] (rB [41] 2 3 zo8) (.ret (.bool true)) (rB [] 2 3 zo8):=cK (.nil)
theorem a6z:adY prog ap 56 [.ptr 0 0 0] (rA aJr 0) (.ret (.tup [])) [⟨[.str [],.ref 1 0 0 3,.int .i64 3,.bool false],0,false,0,0,false⟩,⟨(ndL aFe),0,false,0,5,true⟩]:=cK (.c a6y (.c aDi (.c aDi (.c a6x (.c a6s (.c aDi (.c a6r (.c a6k (.c aDi (.c aOq (.c aRj (.c k22 (.c k21 (.c k20 (.c k19 (.c k18 (.c k17 (.c k16 (.c k15 (.c k14 (.c k13 (.c k12 (.c k11 (.c k10 (.c k9 (.c k8 (.c k7 (.c k6 (.c k5 (.c k4 (.c k3 (.c a6j (.c a6i (.c a6h .nil))))))))))))))))))))))))))))))))))
theorem a6A:CO 105 [.agg [.bool false,.str [1],.str [1]]] (.ret (.bool true)):=toK (axQ false [1] [1] (by decide) (by decide)) (by kernel_rfl)
theorem a6B:CO 74 [.agg aAT] (.ret (.bool true)):=cK (.c a6A (.c aIy .nil))
theorem aUB:CO 94 [.int .i64 12] (.ret (.bool false)):=cK (.nil)
theorem aZp:CO 74 [.agg [.int .i64 12,.bool false,.str [],.str [],.str []]] (.ret (.bool true)):=cK (.c aOq (.c aUB .nil))
theorem a6C:CO 48 [.sl (ndL aFe) 3 true] (.ret (.int .i64 0)):=cK (.c aDi (.c k53 (.c aZp (.c aRj (.c k33 (.c k48 (.c k47 (.c k30 (.c aIz (.c k53 (.c a6B (.c aRf .nil))))))))))))
theorem a6D:CO 57 [.sl (ndL aFe) 3 true] (.ret (.tup [.str aJr,.int .i64 0])):=cK (.c aOq (.c aUB (.c k10 (.c aDi (.c k32 (.c k46 (.c k4 (.c k33 (.c aZn (.c aIy (.c aRi (.c aIz (.c a6C .nil)))))))))))))
theorem a6E:CO 27 [.str aJr] (.ret (.tup [.sl (ndL aFe) 3 true,.int .i64 0])):=cK (.c a6D (.c a6z .nil))
theorem a6F:CO 14 [.sl (ndL aFe) 3 true,.sl [.str [120],.int .i64 0,.int .i64 0,.sl [.bool false,.str [],.str [1],.bool false,.str [1],.str [10],.bool false,.str [5],.str [1],.bool false,.str [1],.str [5]] 2 true] 1 true,.int .i64 6,.str [97]] (.ret (.int .i64 3)):=adY.args (args:= [.sl (ndL aFe) 3 true,.sl [.str [120],.int .i64 0,.int .i64 0,.sl [.bool false,.str [],.str [1],.bool false,.str [1],.str [10],.bool false,.str [5],.str [1],.bool false,.str [1],.str [5]] 2 false] 1 true,.int .i64 6,.str [97]]) (.cons (anT.refl _) (.cons (anT.slP (.same (.same (.same (.sl .nil))))) (.cons (anT.refl _) (.cons (anT.refl _) .nil)))) (toK (aub aFe true azQ true awI 6 [97] (awv (by kernel_rfl)) (by decide) (by decide) (avI)) (by kernel_rfl))
theorem a6G:CO 26 [.str aJr,.str [97],.int .i64 3] (.ret (.bool true)):=cK (.c a6F (.c k84 (.c a6E .nil)))
theorem a6H:adY prog ap 90 [.ptr 0 0 0,.str [36]] (rA aJs 1) (.ret (.bool false)) (rA aJs 1):=cK (.nil)
theorem a6I:adY prog ap 92 [.ptr 0 0 0,.str zs2] (rA aJs 1) (.ret (.str [100,105,118])) (rA aSX 1):=toK (avx aJs zs2 (1) false (by decide) (by decide)) (by kernel_rfl)
theorem a6J:adY prog ap 90 [.ptr 0 0 0,.str [46]] (rA aSX 1) (.ret (.bool false)) (rA aSX 1):=cK (.nil)
theorem a6K:adY prog ap 90 [.ptr 0 0 0,.str [40]] (rA aSX 1) (.ret (.bool true)) (rA aNd 1):=cK (.nil)
theorem a6L:adY prog ap 90 [.ptr 0 0 0,.str [36]] (rA aNd 2) (.ret (.bool false)) (rA aNd 2):=cK (.nil)
theorem a6M:adY prog ap 92 [.ptr 0 0 0,.str zs2] (rA aNd 2) (.ret (.str [111,119,110])) (rA a1V 2):=toK (avx aNd zs2 (2) false (by decide) (by decide)) (by kernel_rfl)
theorem a6N:adY prog ap 90 [.ptr 0 0 0,.str [46]] (rA a1V 2) (.ret (.bool true)) (rA aV8 2):=cK (.nil)
theorem a6O:adY prog ap 92 [.ptr 0 0 0,.str zs0] (rA aV8 2) (.ret (.str [97])) (rA aV_ 2):=toK (avx aV8 zs0 (2) false (by decide) (by decide)) (by kernel_rfl)
theorem a6P:adY prog ap 56 [.ptr 0 0 0] (rA aNd 1) (.ret (.tup [])) (rB aV_ 1 2 auX):=cK (.c k33 (.c k33 (.c k32 (.c a6O (.c k30 (.c k22 (.c k21 (.c k20 (.c k19 (.c k18 (.c k17 (.c k16 (.c k15 (.c k14 (.c k13 (.c k12 (.c k11 (.c k10 (.c k9 (.c k8 (.c k7 (.c k6 (.c k5 (.c k4 (.c k3 (.c a6N (.c a6M (.c a6L .nil))))))))))))))))))))))))))))
theorem a6Q:adY prog ap 90 [.ptr 0 0 0,.str [44,32]] (rB aV_ 1 2 auX) (.ret (.bool true)) (rB [45,50,41] 1 2 auX):=cK (.nil)
theorem a6R:adY prog ap 90 [.ptr 0 0 0,.str [36]] (rB [45,50,41] 1 3 auX) (.ret (.bool false)) (rB [45,50,41] 1 3 auX):=cK (.nil)
theorem a6S:adY prog ap 92 [.ptr 0 0 0,.str aDl] (rB [45,50,41] 1 3 auX) (.ret (.str [45,50])) (rB [41] 1 3 auX):=toK (awF [45,50,41] aDl (3) false 1 auX (by decide) (by decide)) (by kernel_rfl)
theorem a6T:CO 51 [.bool true,.str [2],.str [1]] (.ret (.agg [.bool true,.str [2],.str [1]])):=toK (av6 true 2 1 (aun (by decide)) (aun (by decide)) (by decide)) (by kernel_rfl)
theorem a6U:CO 96 [.bool true,.str [2],.str [1]] (.ret (.tup [.agg [.bool true,.str [2],.str [1]],.bool true])):=cK (.c a6T (.c aJ9 (.c aZe .nil)))
theorem a6V:CO 70 [.agg [.bool true,.str [2],.str [1]]] (.ret (.agg [.bool true,.str [2],.str [1]])):=toK (awK true [2] [1] (by decide) (by decide)) (by kernel_rfl)
theorem aZq:CO 95 [.agg [.bool true,.str [2],.str [1]]] (.ret (.str [45,50])):=cK (.c aOo (.c k65 (.c aZg (.c a6V .nil))))
theorem a6W:CO 126 [.str [45,50]] (.ret (.tup [.agg [.bool true,.str [2],.str [1]],.bool true])):=cK (.c aZq (.c a6U (.c aJ8 (.c aZd .nil))))
theorem a6X:adY prog ap 91 [.ptr 0 0 0] (rB [45,50,41] 1 3 auX) (.ret (.agg [.bool true,.str [2],.str [1]])) (rB [41] 1 3 auX):=cK (.c a6W (.c a6S .nil))
theorem a6Y:adY prog ap 90 [.ptr 0 0 0,.str [100]] (rB [41] 1 3 auX) (.ret (.bool false)) (rB [41] 1 3 auX):=cK (.nil)
theorem a6Z:adY prog ap 56 [.ptr 0 0 0] (rB [45,50,41] 1 2 auX) (.ret (.tup [])) [⟨[.str [41],.ref 1 1 0 2,.int .i64 3,.bool false],0,false,0,0,false⟩,⟨aVX,1,false,0,5,true⟩]:=cK (.c a6Y (.c a6X (.c a6R .nil)))
theorem a6_:adY prog ap 90 [.ptr 0 0 0,.str [41]] (rB [41] 2 3 aVX) (.ret (.bool true)) (rB [] 2 3 aVX):=cK (.nil)
theorem a7a:adY prog ap 56 [.ptr 0 0 0] (rA aJs 0) (.ret (.tup [])) [⟨[.str [],.ref 1 0 0 3,.int .i64 3,.bool false],0,false,0,0,false⟩,⟨(ndL aFf),0,false,0,5,true⟩]:=cK (.c a6_ (.c aDi (.c aDi (.c a6Z (.c a6Q (.c aDi (.c a6P (.c a6K (.c aDi (.c aOq (.c aRj (.c k22 (.c k21 (.c k20 (.c k19 (.c k18 (.c k17 (.c k16 (.c k15 (.c k14 (.c k13 (.c k12 (.c k11 (.c k10 (.c k9 (.c k8 (.c k7 (.c k6 (.c k5 (.c k4 (.c k3 (.c a6J (.c a6I (.c a6H .nil))))))))))))))))))))))))))))))))))
theorem a7b:CO 105 [.agg [.bool true,.str [2],.str [1]]] (.ret (.bool true)):=toK (axQ true [2] [1] (by decide) (by decide)) (by kernel_rfl)
theorem a7c:CO 74 [.agg [.int .i64 3,.bool true,.str [2],.str [1],.str []]] (.ret (.bool true)):=cK (.c a7b (.c aRg .nil))
theorem a7d:CO 48 [.sl (ndL aFf) 3 true] (.ret (.int .i64 0)):=cK (.c aDi (.c k53 (.c aZp (.c aRj (.c aRh (.c k53 (.c a7c (.c aZi (.c k33 (.c k48 (.c k47 (.c k30 .nil))))))))))))
theorem a7e:CO 57 [.sl (ndL aFf) 3 true] (.ret (.tup [.str aJs,.int .i64 0])):=cK (.c aOq (.c aUB (.c k10 (.c aDi (.c aZq (.c aRg (.c aZk (.c aRh (.c k32 (.c k46 (.c k4 (.c k33 (.c a7d .nil)))))))))))))
theorem a7f:CO 27 [.str aJs] (.ret (.tup [.sl (ndL aFf) 3 true,.int .i64 0])):=cK (.c a7e (.c a7a .nil))
theorem a7g:CO 14 [.sl (ndL aFf) 3 true,.sl [.str [120],.int .i64 0,.int .i64 0,.sl [.bool false,.str [],.str [1],.bool false,.str [1],.str [10],.bool false,.str [5],.str [1],.bool false,.str [1],.str [5]] 2 true] 1 true,.int .i64 6,.str [97]] (.ret (.int .i64 2)):=adY.args (args:= [.sl (ndL aFf) 3 true,.sl [.str [120],.int .i64 0,.int .i64 0,.sl [.bool false,.str [],.str [1],.bool false,.str [1],.str [10],.bool false,.str [5],.str [1],.bool false,.str [1],.str [5]] 2 false] 1 true,.int .i64 6,.str [97]]) (.cons (anT.refl _) (.cons (anT.slP (.same (.same (.same (.sl .nil))))) (.cons (anT.refl _) (.cons (anT.refl _) .nil)))) (toK (aub aFf true azQ true awI 6 [97] (awv (by kernel_rfl)) (by decide) (by decide) (avI)) (by kernel_rfl))
theorem a7h:CO 26 [.str aJs,.str [97],.int .i64 2] (.ret (.bool true)):=cK (.c a7g (.c k84 (.c a7f .nil)))
theorem a7i:adY prog ap 90 [.ptr 0 0 0,.str [36]] (rA zs1 1) (.ret (.bool false)) (rA zs1 1):=cK (.nil)
theorem a7j:adY prog ap 92 [.ptr 0 0 0,.str zs2] (rA zs1 1) (.ret (.str [105,102])) (rA zs3 1):=toK (avx zs1 zs2 (1) false (by decide) (by decide)) (by kernel_rfl)
theorem a7k:adY prog ap 90 [.ptr 0 0 0,.str [46]] (rA zs3 1) (.ret (.bool false)) (rA zs3 1):=cK (.nil)
theorem aZr:CO 32 [.int .i64 15] (.ret (.bool false)):=cK (.nil)
theorem aUC:CO 34 [.int .i64 15] (.ret (.bool false)):=cK (.nil)
theorem aJ_:CO 30 [.int .i64 15] (.ret (.int .i64 3)):=cK (.nil)
theorem a7l:adY prog ap 90 [.ptr 0 0 0,.str [40]] (rA zs3 1) (.ret (.bool true)) (rA zs4 1):=cK (.nil)
theorem a7m:adY prog ap 90 [.ptr 0 0 0,.str [36]] (rA zs4 2) (.ret (.bool false)) (rA zs4 2):=cK (.nil)
theorem a7n:adY prog ap 92 [.ptr 0 0 0,.str zs2] (rA zs4 2) (.ret (.str a1X)) (rA zs6 2):=toK (avx zs4 zs2 (2) false (by decide) (by decide)) (by kernel_rfl)
theorem a7o:adY prog ap 90 [.ptr 0 0 0,.str [46]] (rA zs6 2) (.ret (.bool false)) (rA zs6 2):=cK (.nil)
theorem aZs:CO 32 [.int .i64 16] (.ret (.bool false)):=cK (.nil)
theorem aUD:CO 34 [.int .i64 16] (.ret (.bool false)):=cK (.nil)
theorem aMm:CO 30 [.int .i64 16] (.ret (.int .i64 2)):=cK (.nil)
theorem a7p:adY prog ap 90 [.ptr 0 0 0,.str [40]] (rA zs6 2) (.ret (.bool true)) (rA zs8 2):=cK (.nil)
theorem a7q:adY prog ap 90 [.ptr 0 0 0,.str [36]] (rA zs8 3) (.ret (.bool false)) (rA zs8 3):=cK (.nil)
theorem a7r:adY prog ap 92 [.ptr 0 0 0,.str zs2] (rA zs8 3) (.ret (.str [111,119,110])) (rA a1P 3):=toK (avx zs8 zs2 (3) false (by decide) (by decide)) (by kernel_rfl)
theorem a7s:adY prog ap 90 [.ptr 0 0 0,.str [46]] (rA a1P 3) (.ret (.bool true)) (rA aVY 3):=cK (.nil)
theorem a7t:adY prog ap 92 [.ptr 0 0 0,.str zs0] (rA aVY 3) (.ret (.str [97])) (rA aVZ 3):=toK (avx aVY zs0 (3) false (by decide) (by decide)) (by kernel_rfl)
theorem a7u:adY prog ap 56 [.ptr 0 0 0] (rA zs8 2) (.ret (.tup [])) (rB aVZ 1 3 auX):=cK (.c k33 (.c k33 (.c k32 (.c a7t (.c k30 (.c k22 (.c k21 (.c k20 (.c k19 (.c k18 (.c k17 (.c k16 (.c k15 (.c k14 (.c k13 (.c k12 (.c k11 (.c k10 (.c k9 (.c k8 (.c k7 (.c k6 (.c k5 (.c k4 (.c k3 (.c a7s (.c a7r (.c a7q .nil))))))))))))))))))))))))))))
theorem a7v:adY prog ap 90 [.ptr 0 0 0,.str [44,32]] (rB aVZ 1 3 auX) (.ret (.bool true)) (rB aST 1 3 auX):=cK (.nil)
theorem a7w:adY prog ap 90 [.ptr 0 0 0,.str [36]] (rB aST 1 4 auX) (.ret (.bool true)) (rB aP0 1 4 auX):=cK (.nil)
theorem a7x:adY prog ap 92 [.ptr 0 0 0,.str aDl] (rB aP0 1 4 auX) (.ret (.str [51])) (rB aNc 1 4 auX):=toK (awF aP0 aDl (4) false 1 auX (by decide) (by decide)) (by kernel_rfl)
theorem aZt:CO 49 [.int .i64 3] (.ret (.str [3])):=toK (avb 3 (by decide)) (by kernel_rfl)
theorem aUE:CO 76 [.str [3]] (.ret (.str [3])):=cK (.nil)
theorem aZu:CO 107 [.str [3]] (.ret (.tup [.int .i64 3,.bool true])):=cK (.c aUE .nil)
theorem a7y:CO 77 [.str [3],.int .i64 7] (.ret (.tup [.int .i64 3,.bool true])):=cK (.c aZu (.c aUE .nil))
theorem a7z:CO 61 [.str [],.str [3]] (.ret (.str [3])):=cK (.c aZt (.c a7y (.c aMl .nil)))
theorem a7A:CO 157 [.str [51]] (.ret (.tup [.str [3],.bool true])):=cK (.c a7z (.c aZt (.c aOn (.c k70 .nil))))
theorem a7B:CO 128 [.str [3]] (.ret (.bool true)):=toK (aBu [3]) (by kernel_rfl)
theorem a7C:CO 51 [.bool false,.str [3],.str [1]] (.ret (.agg [.bool false,.str [3],.str [1]])):=toK (av6 false 3 1 (aun (by decide)) (aun (by decide)) (by decide)) (by kernel_rfl)
theorem a7D:CO 96 [.bool false,.str [3],.str [1]] (.ret (.tup [.agg [.bool false,.str [3],.str [1]],.bool true])):=cK (.c a7C (.c aJ9 (.c a7B .nil)))
theorem a7E:CO 70 [.agg [.bool false,.str [3],.str [1]]] (.ret (.agg [.bool false,.str [3],.str [1]])):=toK (awK false [3] [1] (by decide) (by decide)) (by kernel_rfl)
theorem a7F:CO 81 [.str [3],.str [10]] (.ret (.tup [.str [],.str [3],.bool true])):=toK (azA [3] [10] (by decide) (by decide) (by decide)) (by kernel_rfl)
theorem a7G:CO 127 [.str [3]] (.ret (.str [51])):=cK (.c aZu (.c a7F (.c k70 (.c aUE .nil))))
theorem aZv:CO 95 [.agg [.bool false,.str [3],.str [1]]] (.ret (.str [51])):=cK (.c aOo (.c k65 (.c a7G (.c a7E .nil))))
theorem a7H:CO 126 [.str [51]] (.ret (.tup [.agg [.bool false,.str [3],.str [1]],.bool true])):=cK (.c aZv (.c a7D (.c aJ8 (.c a7A .nil))))
theorem a7I:adY prog ap 91 [.ptr 0 0 0] (rB aP0 1 4 auX) (.ret (.agg [.bool false,.str [3],.str [1]])) (rB aNc 1 4 auX):=cK (.c a7H (.c a7x .nil))
theorem aZw:anO prog ap (rB aST 1 3 auX) 206 (aE7 5 (adW f56)) ⟨([(0,.ptr 0 0 0),(2,.bool true)]++dE [3,4,5,6,7,8,9,10,11,12,13,14,15]++ [(41,.bool false),(47,.bool true)]++dE [65,70,100,102,117,122,128,133,139,145,158,166,170,175,184,188,192]),[(0,⟨[.str aP0,.ref 1 0 0 1,.int .i64 4,.bool false],0,false,0,0,false⟩),(1,⟨auX,0,false,0,5,true⟩)],.dead,[]⟩ (.normal) ⟨([(0,.ptr 0 0 0),(2,.bool true)]++dE [3,4,5,6,7,8,9,10,11,12,13,14,15]++ [(41,.bool false),(47,.bool true)]++dE [65,70,100,102,117,122,128,133,139,145,158,166,170,175,184,188,192]),[(0,⟨[.str aNc,.ref 1 1 0 2,.int .i64 4,.bool false],0,false,0,0,false⟩),(1,⟨zo9,1,false,0,5,true⟩)],.dead,[]⟩:=fun nt hn=>aDH aHj (keep:=aAa ap 56) (i:=4) (b:=0) (d:=52) (nt0:=206) (ans:= [(.ret (.agg [.bool false,.str [3],.str [1]]),(rB aNc 1 4 auX))]) (.cons (rfl:(.ref 1 0 0 1:AV)=(.ref 1 0 0 1:AV)) (.cons (rfl:(.ref 1 0 0 1:AV)=(.ref 1 0 0 1:AV)) (.cons a7I .nil))) hn (by kernel_rfl)
theorem a7J:adY prog ap 56 [.ptr 0 0 0] (rB aST 1 3 auX) (.ret (.tup [])) [⟨[.str aNc,.ref 1 1 0 2,.int .i64 4,.bool false],0,false,0,0,false⟩,⟨zo9,1,false,0,5,true⟩]:=pK [1005] 4 8 (.n 9 .nil) (.l aZw (.c a7w .nil))
theorem a7K:adY prog ap 90 [.ptr 0 0 0,.str [41]] (rB aNc 2 4 zo9) (.ret (.bool true)) (rB aV1 2 4 zo9):=cK (.nil)
theorem a7L:adY prog ap 56 [.ptr 0 0 0] (rA zs4 1) (.ret (.tup [])) (rB aV1 3 4 zo4):=cK (.c a7K (.c aMm (.c aMm (.c a7J (.c a7v (.c aMm (.c a7u (.c a7p (.c aMm (.c aUD (.c aZs (.c k22 (.c k21 (.c k20 (.c k19 (.c k18 (.c k17 (.c k16 (.c k15 (.c k14 (.c k13 (.c k12 (.c k11 (.c k10 (.c k9 (.c k8 (.c k7 (.c k6 (.c k5 (.c k4 (.c k3 (.c a7o (.c a7n (.c a7m .nil))))))))))))))))))))))))))))))))))
theorem a7M:adY prog ap 90 [.ptr 0 0 0,.str [44,32]] (rB aV1 3 4 zo4) (.ret (.bool true)) (rB aNe 3 4 zo4):=cK (.nil)
theorem a7N:adY prog ap 90 [.ptr 0 0 0,.str [36]] (rB aNe 3 5 zo4) (.ret (.bool false)) (rB aNe 3 5 zo4):=cK (.nil)
theorem a7O:adY prog ap 92 [.ptr 0 0 0,.str zs2] (rB aNe 3 5 zo4) (.ret (.str [111,119,110])) (rB a1W 3 5 zo4):=toK (awF aNe zs2 (5) false 3 zo4 (by decide) (by decide)) (by kernel_rfl)
theorem a7P:adY prog ap 90 [.ptr 0 0 0,.str [46]] (rB a1W 3 5 zo4) (.ret (.bool true)) (rB aV9 3 5 zo4):=cK (.nil)
theorem a7Q:adY prog ap 92 [.ptr 0 0 0,.str zs0] (rB aV9 3 5 zo4) (.ret (.str [98])) (rB aWa 3 5 zo4):=toK (awF aV9 zs0 (5) false 3 zo4 (by decide) (by decide)) (by kernel_rfl)
theorem a7R:adY prog ap 56 [.ptr 0 0 0] (rB aNe 3 4 zo4) (.ret (.tup [])) [⟨[.str aWa,.ref 1 1 0 4,.int .i64 5,.bool false],0,false,0,0,false⟩,⟨zo1,1,false,0,5,true⟩]:=cK (.c k33 (.c k33 (.c k32 (.c a7Q (.c k30 (.c k22 (.c k21 (.c k20 (.c k19 (.c k18 (.c k17 (.c k16 (.c k15 (.c k14 (.c k13 (.c k12 (.c k11 (.c k10 (.c k9 (.c k8 (.c k7 (.c k6 (.c k5 (.c k4 (.c k3 (.c a7P (.c a7O (.c a7N .nil))))))))))))))))))))))))))))
theorem a7S:adY prog ap 90 [.ptr 0 0 0,.str [44,32]] (rB aWa 4 5 zo1) (.ret (.bool true)) (rB [36,48,41] 4 5 zo1):=cK (.nil)
theorem a7T:adY prog ap 90 [.ptr 0 0 0,.str [36]] (rB [36,48,41] 4 6 zo1) (.ret (.bool true)) (rB [48,41] 4 6 zo1):=cK (.nil)
theorem a7U:adY prog ap 92 [.ptr 0 0 0,.str aDl] (rB [48,41] 4 6 zo1) (.ret (.str [48])) (rB [41] 4 6 zo1):=toK (awF [48,41] aDl (6) false 4 zo1 (by decide) (by decide)) (by kernel_rfl)
theorem a7V:CO 61 [.str [],.str []] (.ret (.str [])):=cK (.c aRc (.c aMl (.c aMl .nil)))
theorem a7W:CO 157 [.str [48]] (.ret (.tup [.str [],.bool true])):=cK (.c a7V (.c aRc (.c aOn (.c k70 .nil))))
theorem a7X:CO 128 [.str []] (.ret (.bool true)):=toK (aBu []) (by kernel_rfl)
theorem a7Y:CO 51 [.bool false,.str [],.str [1]] (.ret (.agg [.bool false,.str [],.str [1]])):=toK (av6 false 0 1 (aun (by decide)) (aun (by decide)) (by decide)) (by kernel_rfl)
theorem a7Z:CO 96 [.bool false,.str [],.str [1]] (.ret (.tup [.agg [.bool false,.str [],.str [1]],.bool true])):=cK (.c a7Y (.c aJ9 (.c a7X .nil)))
theorem a7_:CO 70 [.agg [.bool false,.str [],.str [1]]] (.ret (.agg [.bool false,.str [],.str [1]])):=toK (awK false [] [1] (by decide) (by decide)) (by kernel_rfl)
theorem a8a:CO 127 [.str []] (.ret (.str [48])):=cK (.c aRb .nil)
theorem aZx:CO 95 [.agg [.bool false,.str [],.str [1]]] (.ret (.str [48])):=cK (.c aOo (.c k65 (.c a8a (.c a7_ .nil))))
theorem a8b:CO 126 [.str [48]] (.ret (.tup [.agg [.bool false,.str [],.str [1]],.bool true])):=cK (.c aZx (.c a7Z (.c aJ8 (.c a7W .nil))))
theorem a8c:adY prog ap 91 [.ptr 0 0 0] (rB [48,41] 4 6 zo1) (.ret (.agg [.bool false,.str [],.str [1]])) (rB [41] 4 6 zo1):=cK (.c a8b (.c a7U .nil))
theorem aZy:anO prog ap (rB [36,48,41] 4 5 zo1) 206 (aE7 5 (adW f56)) ⟨([(0,.ptr 0 0 0),(2,.bool true)]++dE [3,4,5,6,7,8,9,10,11,12,13,14,15]++ [(41,.bool false),(47,.bool true)]++dE [65,70,100,102,117,122,128,133,139,145,158,166,170,175,184,188,192]),[(0,⟨[.str [48,41],.ref 1 0 0 4,.int .i64 6,.bool false],0,false,0,0,false⟩),(1,⟨zo1,0,false,0,5,true⟩)],.dead,[]⟩ (.normal) ⟨([(0,.ptr 0 0 0),(2,.bool true)]++dE [3,4,5,6,7,8,9,10,11,12,13,14,15]++ [(41,.bool false),(47,.bool true)]++dE [65,70,100,102,117,122,128,133,139,145,158,166,170,175,184,188,192]),[(0,⟨[.str [41],.ref 1 1 0 5,.int .i64 6,.bool false],0,false,0,0,false⟩),(1,⟨zo0,1,false,0,5,true⟩)],.dead,[]⟩:=fun nt hn=>aDH aHj (keep:=aAa ap 56) (i:=4) (b:=0) (d:=52) (nt0:=206) (ans:= [(.ret (.agg [.bool false,.str [],.str [1]]),(rB [41] 4 6 zo1))]) (.cons (rfl:(.ref 1 0 0 4:AV)=(.ref 1 0 0 4:AV)) (.cons (rfl:(.ref 1 0 0 4:AV)=(.ref 1 0 0 4:AV)) (.cons a8c .nil))) hn (by kernel_rfl)
theorem a8d:adY prog ap 56 [.ptr 0 0 0] (rB [36,48,41] 4 5 zo1) (.ret (.tup [])) [⟨[.str [41],.ref 1 1 0 5,.int .i64 6,.bool false],0,false,0,0,false⟩,⟨zo0,1,false,0,5,true⟩]:=pK [1005] 4 8 (.n 9 .nil) (.l aZy (.c a7T .nil))
theorem a8e:adY prog ap 90 [.ptr 0 0 0,.str [41]] (rB [41] 5 6 zo0) (.ret (.bool true)) (rB [] 5 6 zo0):=cK (.nil)
theorem a8f:adY prog ap 56 [.ptr 0 0 0] (rA zs1 0) (.ret (.tup [])) [⟨[.str [],.ref 1 0 0 6,.int .i64 6,.bool false],0,false,0,0,false⟩,⟨(ndL aA5),0,false,0,5,true⟩]:=cK (.c a8e (.c aJ_ (.c aJ_ (.c a8d (.c a7S (.c aJ_ (.c a7R (.c a7M (.c aJ_ (.c a7L (.c a7l (.c aJ_ (.c aUC (.c aZr (.c k22 (.c k21 (.c k20 (.c k19 (.c k18 (.c k17 (.c k16 (.c k15 (.c k14 (.c k13 (.c k12 (.c k11 (.c k10 (.c k9 (.c k8 (.c k7 (.c k6 (.c k5 (.c k4 (.c k3 (.c a7k (.c a7j (.c a7i .nil)))))))))))))))))))))))))))))))))))))
theorem a8g:CO 105 [.agg [.bool false,.str [3],.str [1]]] (.ret (.bool true)):=toK (axQ false [3] [1] (by decide) (by decide)) (by kernel_rfl)
theorem a8h:CO 74 [.agg [.int .i64 1,.bool false,.str [3],.str [1],.str []]] (.ret (.bool true)):=cK (.c a8g (.c aIy .nil))
theorem aZz:CO 94 [.int .i64 16] (.ret (.bool false)):=cK (.nil)
theorem a8i:CO 74 [.agg [.int .i64 16,.bool false,.str [],.str [],.str []]] (.ret (.bool true)):=cK (.c aUD (.c aZz .nil))
theorem a8j:CO 74 [.agg [.int .i64 6,.bool false,.str [],.str [],.str [98]]] (.ret (.bool true)):=cK (.c k32 (.c k46 .nil))
theorem a8k:CO 105 [.agg [.bool false,.str [],.str [1]]] (.ret (.bool true)):=toK (axQ false [] [1] (by decide) (by decide)) (by kernel_rfl)
theorem a8l:CO 74 [.agg [.int .i64 1,.bool false,.str [],.str [1],.str []]] (.ret (.bool true)):=cK (.c a8k (.c aIy .nil))
theorem aZA:CO 94 [.int .i64 15] (.ret (.bool false)):=cK (.nil)
theorem a8m:CO 74 [.agg [.int .i64 15,.bool false,.str [],.str [],.str []]] (.ret (.bool true)):=cK (.c aUC (.c aZA .nil))
theorem a8n:CO 48 [.sl (ndL aA5) 6 true] (.ret (.int .i64 0)):=cK (.c aJ_ (.c k53 (.c a8m (.c aZr (.c aIz (.c k53 (.c a8l (.c aRf (.c k33 (.c aZl (.c a8j (.c k30 (.c aMm (.c k53 (.c a8i (.c aZs (.c aIz (.c k53 (.c a8h (.c aRf (.c k33 (.c k48 (.c k47 (.c k30 .nil))))))))))))))))))))))))
theorem a8o:CO 57 [.sl (ndL aA5) 6 true] (.ret (.tup [.str zs1,.int .i64 0])):=cK (.c aUC (.c aZA (.c k13 (.c aJ_ (.c aZx (.c aIy (.c aRi (.c aIz (.c k32 (.c k46 (.c k4 (.c k33 (.c aUD (.c aZz (.c k14 (.c aMm (.c aZv (.c aIy (.c aRi (.c aIz (.c k32 (.c k46 (.c k4 (.c k33 (.c a8n .nil)))))))))))))))))))))))))
theorem aZB:CO 27 [.str zs1] (.ret (.tup [.sl (ndL aA5) 6 true,.int .i64 0])):=cK (.c a8o (.c a8f .nil))
theorem a8p:CO 14 [.sl (ndL aA5) 6 true,.sl [.str [120],.int .i64 0,.int .i64 0,.sl [.bool false,.str [],.str [1],.bool false,.str [1],.str [10],.bool false,.str [5],.str [1],.bool false,.str [1],.str [5]] 2 true] 1 true,.int .i64 6,.str [97]] (.ret (.int .i64 3)):=adY.args (args:= [.sl (ndL aA5) 6 true,.sl [.str [120],.int .i64 0,.int .i64 0,.sl [.bool false,.str [],.str [1],.bool false,.str [1],.str [10],.bool false,.str [5],.str [1],.bool false,.str [1],.str [5]] 2 false] 1 true,.int .i64 6,.str [97]]) (.cons (anT.refl _) (.cons (anT.slP (.same (.same (.same (.sl .nil))))) (.cons (anT.refl _) (.cons (anT.refl _) .nil)))) (toK (aub aA5 true azQ true awI 6 [97] (awv (by kernel_rfl)) (by decide) (by decide) (avI)) (by kernel_rfl))
theorem a8q:CO 26 [.str zs1,.str [97],.int .i64 3] (.ret (.bool true)):=cK (.c a8p (.c k84 (.c aZB .nil)))
theorem a8r:CO 14 [.sl (ndL aA5) 6 true,.sl [.str [120],.int .i64 0,.int .i64 0,.sl [.bool false,.str [],.str [1],.bool false,.str [1],.str [10],.bool false,.str [5],.str [1],.bool false,.str [1],.str [5]] 2 true] 1 true,.int .i64 6,.str [98]] (.ret (.int .i64 1)):=adY.args (args:= [.sl (ndL aA5) 6 true,.sl [.str [120],.int .i64 0,.int .i64 0,.sl [.bool false,.str [],.str [1],.bool false,.str [1],.str [10],.bool false,.str [5],.str [1],.bool false,.str [1],.str [5]] 2 false] 1 true,.int .i64 6,.str [98]]) (.cons (anT.refl _) (.cons (anT.slP (.same (.same (.same (.sl .nil))))) (.cons (anT.refl _) (.cons (anT.refl _) .nil)))) (toK (aub aA5 true azQ true awI 6 [98] (awv (by kernel_rfl)) (by decide) (by decide) (avI)) (by kernel_rfl))
theorem a8s:CO 26 [.str zs1,.str [98],.int .i64 1] (.ret (.bool true)):=cK (.c a8r (.c k84 (.c aZB .nil)))
theorem a8t:adY prog ap 90 [.ptr 0 0 0,.str [36]] (rA aJt 1) (.ret (.bool false)) (rA aJt 1):=cK (.nil)
theorem a8u:adY prog ap 92 [.ptr 0 0 0,.str zs2] (rA aJt 1) (.ret (.str [114,97,116,101])) (rA a1T 1):=toK (avx aJt zs2 (1) false (by decide) (by decide)) (by kernel_rfl)
theorem a8v:adY prog ap 90 [.ptr 0 0 0,.str [46]] (rA a1T 1) (.ret (.bool true)) (rA aV7 1):=cK (.nil)
theorem aZC:CO 32 [.int .i64 24] (.ret (.bool true)):=cK (.nil)
theorem a8w:adY prog ap 92 [.ptr 0 0 0,.str zs0] (rA aV7 1) (.ret (.str [120])) (rA a1U 1):=toK (avx aV7 zs0 (1) false (by decide) (by decide)) (by kernel_rfl)
theorem aUF:CO 34 [.int .i64 24] (.ret (.bool false)):=cK (.nil)
theorem aOr:CO 30 [.int .i64 24] (.ret (.int .i64 1)):=cK (.nil)
theorem a8x:adY prog ap 90 [.ptr 0 0 0,.str [40]] (rA a1U 1) (.ret (.bool true)) (rA azV 1):=cK (.nil)
theorem a8y:adY prog ap 90 [.ptr 0 0 0,.str [36]] (rA azV 2) (.ret (.bool false)) (rA azV 2):=cK (.nil)
theorem a8z:adY prog ap 92 [.ptr 0 0 0,.str zs2] (rA azV 2) (.ret (.str [111,119,110])) (rA [46,97,41] 2):=toK (avx azV zs2 (2) false (by decide) (by decide)) (by kernel_rfl)
theorem a8A:adY prog ap 90 [.ptr 0 0 0,.str [46]] (rA [46,97,41] 2) (.ret (.bool true)) (rA [97,41] 2):=cK (.nil)
theorem a8B:adY prog ap 92 [.ptr 0 0 0,.str zs0] (rA [97,41] 2) (.ret (.str [97])) (rA [41] 2):=toK (avx [97,41] zs0 (2) false (by decide) (by decide)) (by kernel_rfl)
theorem a8C:adY prog ap 56 [.ptr 0 0 0] (rA azV 1) (.ret (.tup [])) (rB [41] 1 2 auX):=cK (.c k33 (.c k33 (.c k32 (.c a8B (.c k30 (.c k22 (.c k21 (.c k20 (.c k19 (.c k18 (.c k17 (.c k16 (.c k15 (.c k14 (.c k13 (.c k12 (.c k11 (.c k10 (.c k9 (.c k8 (.c k7 (.c k6 (.c k5 (.c k4 (.c k3 (.c a8A (.c a8z (.c a8y .nil))))))))))))))))))))))))))))
theorem a8D:adY prog ap 90 [.ptr 0 0 0,.str [41]] (rB [41] 1 2 auX) (.ret (.bool true)) (rB [] 1 2 auX):=cK (.nil)
theorem a8E:adY prog ap 56 [.ptr 0 0 0] (rA aJt 0) (.ret (.tup [])) [⟨[.str [],.ref 1 0 0 2,.int .i64 2,.bool false],0,false,0,0,false⟩,⟨(ndL axH),0,false,0,5,true⟩]:=cK (.c a8D (.c aOr (.c aOr (.c a8C (.c a8x (.c aOr (.c aUF (.c a8w (.c aZC (.c k22 (.c k21 (.c k20 (.c k19 (.c k18 (.c k17 (.c k16 (.c k15 (.c k14 (.c k13 (.c k12 (.c k11 (.c k10 (.c k9 (.c k8 (.c k7 (.c k6 (.c k5 (.c k4 (.c k3 (.c a8v (.c a8u (.c a8t .nil))))))))))))))))))))))))))))))))
theorem aZD:CO 94 [.int .i64 24] (.ret (.bool false)):=cK (.nil)
theorem a8F:CO 74 [.agg [.int .i64 24,.bool false,.str [],.str [],.str [120]]] (.ret (.bool true)):=cK (.c aUF (.c aZD .nil))
theorem a8G:CO 75 [.str [120]] (.ret (.bool true)):=cK (.nil)
theorem a8H:CO 48 [.sl (ndL axH) 2 true] (.ret (.int .i64 0)):=cK (.c aOr (.c a8G (.c a8F (.c aZC (.c k33 (.c k48 (.c k47 (.c k30 .nil))))))))
theorem a8I:CO 57 [.sl (ndL axH) 2 true] (.ret (.tup [.str aJt,.int .i64 0])):=cK (.c aUF (.c aZD (.c k22 (.c aOr (.c k32 (.c k46 (.c k4 (.c k33 (.c a8H .nil)))))))))
theorem aZE:CO 27 [.str aJt] (.ret (.tup [.sl (ndL axH) 2 true,.int .i64 0])):=cK (.c a8I (.c a8E .nil))
theorem a8J:CO 14 [.sl (ndL axH) 2 true,.sl [.str [120],.int .i64 0,.int .i64 0,.sl [.bool false,.str [],.str [1],.bool false,.str [1],.str [10],.bool false,.str [5],.str [1],.bool false,.str [1],.str [5]] 2 true] 1 true,.int .i64 6,.str [97]] (.ret (.int .i64 1)):=adY.args (args:= [.sl (ndL axH) 2 true,.sl [.str [120],.int .i64 0,.int .i64 0,.sl [.bool false,.str [],.str [1],.bool false,.str [1],.str [10],.bool false,.str [5],.str [1],.bool false,.str [1],.str [5]] 2 false] 1 true,.int .i64 6,.str [97]]) (.cons (anT.refl _) (.cons (anT.slP (.same (.same (.same (.sl .nil))))) (.cons (anT.refl _) (.cons (anT.refl _) .nil)))) (toK (aub axH true azQ true awI 6 [97] (awv (by kernel_rfl)) (by decide) (by decide) (avI)) (by kernel_rfl))
theorem a8K:CO 26 [.str aJt,.str [97],.int .i64 1] (.ret (.bool true)):=cK (.c a8J (.c k84 (.c aZE .nil)))
theorem a8L:CO 36 [.int .i64 (-1)] (.ret (.agg [.bool true,.str [1],.str [1]])):=cK (.c k65 (.c aY9 (.c k65 (.c aRc .nil))))
theorem a8M:CO 70 [.agg [.bool true,.str [1],.str [1]]] (.ret (.agg [.bool true,.str [1],.str [1]])):=toK (awK true [1] [1] (by decide) (by decide)) (by kernel_rfl)
theorem a8N:CO 51 [.bool true,.str [1],.str [5]] (.ret (.agg [.bool true,.str [1],.str [5]])):=toK (av6 true 1 5 (aun (by decide)) (aun (by decide)) (by decide)) (by kernel_rfl)
theorem a8O:CO 58 [.agg [.bool true,.str [1],.str [1]],.agg [.bool false,.str [5],.str [1]]] (.ret (.tup [.agg [.bool true,.str [1],.str [5]],.bool true])):=cK (.c a8N (.c k80 (.c k66 (.c k75 (.c a8M .nil)))))
theorem a8P:CO 28 [.int .i64 (-1)] (.ret (.sl [.str [120],.int .i64 0,.int .i64 0,.sl [.bool false,.str [],.str [1],.bool false,.str [1],.str [10],.bool false,.str [5],.str [1],.bool true,.str [1],.str [5]] 2 true] 1 true)):=cK (.c k74 (.c k83 (.c a8O (.c k74 (.c a8L (.c k73 (.c k58 (.c k57 .nil))))))))
theorem a8Q:CO 14 [.sl (ndL axH) 2 true,.sl [.str [120],.int .i64 0,.int .i64 0,.sl [.bool false,.str [],.str [1],.bool false,.str [1],.str [10],.bool false,.str [5],.str [1],.bool true,.str [1],.str [5]] 2 true] 1 true,.int .i64 6,.str [97]] (.ret (.int .i64 3)):=adY.args (args:= [.sl (ndL axH) 2 true,.sl [.str [120],.int .i64 0,.int .i64 0,.sl [.bool false,.str [],.str [1],.bool false,.str [1],.str [10],.bool false,.str [5],.str [1],.bool true,.str [1],.str [5]] 2 false] 1 true,.int .i64 6,.str [97]]) (.cons (anT.refl _) (.cons (anT.slP (.same (.same (.same (.sl .nil))))) (.cons (anT.refl _) (.cons (anT.refl _) .nil)))) (toK (aub axH true aTu true awI 6 [97] (awv (by kernel_rfl)) (by decide) (by decide) (aKB)) (by kernel_rfl))
theorem a8R:CO 14 [.sl (ndL axH) 2 true,.nilS,.int .i64 6,.str [97]] (.ret (.int .i64 3)):=adY.args (args:= [.sl (ndL axH) 2 true,.sl [] 0 false,.int .i64 6,.str [97]]) (.cons (anT.refl _) (.cons (anT.nilS false rfl) (.cons (anT.refl _) (.cons (anT.refl _) .nil)))) (toK (aub axH true [] false awI 6 [97] (awv (by kernel_rfl)) (by decide) (by decide) (aAn)) (by kernel_rfl))
theorem a8S:CO 14 [.sl (ndL axG) 3 true,.nilS,.int .i64 5,.str [98]] (.ret (.int .i64 3)):=adY.args (args:= [.sl (ndL axG) 3 true,.sl [] 0 false,.int .i64 5,.str [98]]) (.cons (anT.refl _) (.cons (anT.nilS false rfl) (.cons (anT.refl _) (.cons (anT.refl _) .nil)))) (toK (aub axG true [] false awI 5 [98] (awv (by kernel_rfl)) (by decide) (by decide) (aAn)) (by kernel_rfl))
theorem a8T:CO 17 [.sl (ndL axH) 2 true,.sl [.str [120],.int .i64 0,.int .i64 0,.sl [.bool false,.str [],.str [1],.bool false,.str [1],.str [10],.bool false,.str [5],.str [1],.bool false,.str [1],.str [5]] 2 true] 1 true,.sl [.str [97],.str [98]] 2 true] (.ret (.bool true)):=adY.args (args:= [.sl (ndL axH) 2 true,.sl [.str [120],.int .i64 0,.int .i64 0,.sl [.bool false,.str [],.str [1],.bool false,.str [1],.str [10],.bool false,.str [5],.str [1],.bool false,.str [1],.str [5]] 2 false] 1 true,.sl [.str [97],.str [98]] 2 true]) (.cons (anT.refl _) (.cons (anT.slP (.same (.same (.same (.sl .nil))))) (.cons (anT.refl _) .nil))) (toK (awJ axH true azQ true awI [[97],[98]] true (awv (by kernel_rfl)) (by decide) (by decide) (avI) (by decide)) (by kernel_rfl))
theorem a8U:CO 17 [.sl (ndL axG) 3 true,.nilS,.sl [.str [97]] 1 true] (.ret (.bool false)):=adY.args (args:= [.sl (ndL axG) 3 true,.sl [] 0 false,.sl [.str [97]] 1 true]) (.cons (anT.refl _) (.cons (anT.nilS false rfl) (.cons (anT.refl _) .nil))) (toK (awJ axG true [] false awI [[97]] true (awv (by kernel_rfl)) (by decide) (by decide) (aAn) (by decide)) (by kernel_rfl))
theorem a8V:CO 17 [.sl (ndL axG) 3 true,.nilS,.sl [.str [98]] 1 true] (.ret (.bool true)):=adY.args (args:= [.sl (ndL axG) 3 true,.sl [] 0 false,.sl [.str [98]] 1 true]) (.cons (anT.refl _) (.cons (anT.nilS false rfl) (.cons (anT.refl _) .nil))) (toK (awJ axG true [] false awI [[98]] true (awv (by kernel_rfl)) (by decide) (by decide) (aAn) (by decide)) (by kernel_rfl))
theorem a8W:CO 17 [.nilS,.nilS,.nilS] (.ret (.bool false)):=adY.args (args:= [.sl [] 0 false,.sl [] 0 false,.sl [] 0 false]) (.cons (anT.nilS false rfl) (.cons (anT.nilS false rfl) (.cons (anT.nilS false rfl) .nil))) (toK (awJ [] false [] false awI [] false (awv (by kernel_rfl)) (by decide) (by decide) (aAn) (by decide)) (by kernel_rfl))
theorem a8X:CO 10 [] (.ret (.bool true)):=cK (.c a8W (.c a8V (.c a8U (.c a8T (.c k84 (.c a8S (.c a8R (.c a8Q (.c a8P (.c aZm (.c aZE (.c a8K (.c a8s (.c a8q (.c a7h (.c a6G (.c a6g (.c a5L (.c a4H (.c k88 (.c k86 .nil)))))))))))))))))))))
theorem aMI:CO 10 [] (.ret (.bool true)):=a8X
def anN (a:Int) (n:Nat):Nat:=(a % (n:Int)).toNat
theorem ava {a:Int} {n:Nat} (h:0<n):anN a n<n:=by
 unfold anN
 have h1:=Int.emod_nonneg a (b:=(n:Int)) (by omega)
 have h2:=Int.emod_lt_of_pos a (b:=(n:Int)) (by omega)
 omega
theorem w1p {k:Nat} (h:k<4611686018427387904):AV.int .i64 (IntKind.wrap .i64 (((1:Nat):Int)+(k:Int)))= .int .i64 ((1+k:Nat):Int):=by
 have e:IntKind.wrap .i64 (((1:Nat):Int)+(k:Int))=((1+k:Nat):Int):=by rw [auI]<;>omega
 rw [e]
theorem aZQ (a n:Int) (h0:lit true (decide ((Int.tmod a n)<((0:Nat):Int)))=true) (h1:(!(n==((0:Nat):Int)))=true):CO 29 [.int .i64 a,.int .i64 n] (.ret (.int .i64 (IntKind.wrap .i64 ((Int.tmod a n)+n)))):=pK [] 1 1 (.c h0 (.c h1 .nil)) (.nil)
theorem aZR (a n:Int) (h0:lit false (decide ((Int.tmod a n)<((0:Nat):Int)))=true) (h1:(!(n==((0:Nat):Int)))=true):CO 29 [.int .i64 a,.int .i64 n] (.ret (.int .i64 (Int.tmod a n))):=pK [] 1 0 (.c h0 (.c h1 .nil)) (.nil)
theorem au5 (a:Int) (n:Nat) (hn:0<n) (hn2:n≤4611686018427387904):CO 29 [.int .i64 a,.int .i64 (n:Int)] (.ret (.int .i64 ((anN a n:Nat):Int))):=by
 have hn0:(!((n:Int)==((0:Nat):Int)))=true:=by
  rw [beq_eq_false_iff_ne.2 (by omega)];rfl
 have h1:=Int.tmod_lt_of_pos a (b:=(n:Int)) (by omega)
 have h2: -(n:Int)<Int.tmod a n:=by
  have:=Int.tmod_lt_of_pos (-a) (b:=(n:Int)) (by omega)
  rw [Int.neg_tmod] at this
  omega
 have h3:=Int.emod_nonneg a (b:=(n:Int)) (by omega)
 have h4:=Int.emod_lt_of_pos a (b:=(n:Int)) (by omega)
 have h5:Int.tmod a n % (n:Int)=a % (n:Int):=by
  have e:=Int.mul_tdiv_add_tmod a (n:Int)
  have:a=Int.tmod a n+(n:Int)*(Int.tdiv a n):=by omega
  conv=>rhs;rw [this,Int.add_mul_emod_self_left]
 have hv:((anN a n:Nat):Int)=a % (n:Int):=Int.toNat_of_nonneg h3
 rw [hv]
 by_cases h:Int.tmod a n<0
 ·have hp:=aZQ a n (by simpa [lit] using h) hn0
  have e:IntKind.wrap .i64 (Int.tmod a n+(n:Int))=a % (n:Int):=by
   rw [auI (by omega) (by omega)]
   rw [← h5,← Int.add_emod_right,Int.emod_eq_of_lt (by omega) (by omega)]
  rw [e] at hp
  exact hp
 ·have hp:=aZR a n (by simp only [lit,Bool.not_eq_true',decide_eq_false_iff_not];exact h) hn0
  have e:Int.tmod a n=a % (n:Int):=by rw [← h5,Int.emod_eq_of_lt (by omega) (by omega)]
  rw [e] at hp
  exact hp
theorem aCF (a:Int) (k:Nat) (h0:(chk .str (List.headD (List.drop ((0+(Int.toNat (k:Int)))*1) [.str [97],.str [98],.str [116,97,120],.str [119,97,103,101],.str [120,95,49],.str [97,50,51,52,53,54,55,56,57,48,49,50,51,52,53,54,55,56,57,48]]) .dead))=true) (h1:(decide (((0:Nat):Int)≤(k:Int)))=true) (h2:(decide ((k:Int)<((6:Nat):Int)))=true) (c0:CO 29 [.int .i64 a,.int .i64 6] (.ret (.int .i64 (k:Int)))):CO 33 [.int .i64 a] (.ret (.str (AV.toStr (List.headD (List.drop ((0+(Int.toNat (k:Int)))*1) [.str [97],.str [98],.str [116,97,120],.str [119,97,103,101],.str [120,95,49],.str [97,50,51,52,53,54,55,56,57,48,49,50,51,52,53,54,55,56,57,48]]) .dead)))):=pK [] 0 0 (.c h0 (.c h1 (.c h2 .nil))) (.c c0 .nil)
def aLo (k:Nat):List UInt8:= [[97],[98],[116,97,120],[119,97,103,101],[120,95,49],[97,50,51,52,53,54,55,56,57,48,49,50,51,52,53,54,55,56,57,48]].getD k []
theorem aLp (a:Int):CO 33 [.int .i64 a] (.ret (.str (aLo (anN a 6)))):=by
 have hm:=au5 a 6 (by omega) (by omega)
 have hl:=ava (a:=a) (n:=6) (by omega)
 generalize anN a 6=k at*
 match k,hl,hm with
 |0,_,hm=>exact aCF a 0 rfl rfl rfl hm
 |1,_,hm=>exact aCF a 1 rfl rfl rfl hm
 |2,_,hm=>exact aCF a 2 rfl rfl rfl hm
 |3,_,hm=>exact aCF a 3 rfl rfl rfl hm
 |4,_,hm=>exact aCF a 4 rfl rfl rfl hm
 |5,_,hm=>exact aCF a 5 rfl rfl rfl hm
theorem aGB (k:Nat) (h:k<6):aA2 (aLo k)=true:=by
 match k,h with
 |0,_=>decide
 |1,_=>decide
 |2,_=>decide
 |3,_=>decide
 |4,_=>decide
 |5,_=>decide
theorem aRu (q0 q1 q2:Int) (a0 b1 s2 c0 c1 e0 e1 f0:Nat) (w:RQ) (ha0:a0<4611686018427387904) (hb1:b1<4611686018427387904) (hs2:s2<4611686018427387904) (hc0:c0<4611686018427387904) (hc1:c1<4611686018427387904) (he0:e0<4611686018427387904) (he1:e1<4611686018427387904) (hf0:f0<4611686018427387904) (h0:lit true ((s2:Int)==((1:Nat):Int))=true) (cc0:CO 29 [.int .i64 q0,.int .i64 1000] (.ret (.int .i64 (a0:Int)))) (cc1:CO 49 [.int .i64 (a0:Int)] (.ret (.str (adX a0)))) (cc2:CO 29 [.int .i64 q1,.int .i64 60] (.ret (.int .i64 (b1:Int)))) (cc3:CO 49 [.int .i64 (((1+b1):Nat):Int)] (.ret (.str (adX (1+b1))))) (cc4:CO 29 [.int .i64 q2,.int .i64 4] (.ret (.int .i64 (s2:Int)))) (cc5:CO 29 [.int .i64 q0,.int .i64 4611686018427387904] (.ret (.int .i64 (c0:Int)))) (cc6:CO 49 [.int .i64 (c0:Int)] (.ret (.str (adX c0)))) (cc7:CO 29 [.int .i64 q1,.int .i64 4611686018427387904] (.ret (.int .i64 (c1:Int)))) (cc8:CO 49 [.int .i64 (((1+c1):Nat):Int)] (.ret (.str (adX (1+c1))))) (cc9:CO 51 [.bool (decide (q0<((0:Nat):Int))),.str (adX c0),.str (adX (1+c1))] (.ret (.agg [.bool w.neg,.str (adX w.n),.str (adX w.d)]))):CO 19 [.agg [.int .i64 q0,.int .i64 q1,.int .i64 q2]] (.ret (.agg [.bool w.neg,.str (adX w.n),.str (adX w.d)])):=pK [] 1 1 (.k 13 h0 (.n 9 .nil)) (.c cc9 (.c cc8 (.v 26 (.eq (w1p hc1)) (.c cc7 (.c cc6 (.c cc5 (.c cc4 (.c cc3 (.v 12 (.eq (w1p hb1)) (.c cc2 (.c cc1 (.c cc0 .nil))))))))))))
theorem aRv (q0 q1 q2:Int) (a0 b1 s2 c0 c1 e0 e1 f0:Nat) (w:RQ) (ha0:a0<4611686018427387904) (hb1:b1<4611686018427387904) (hs2:s2<4611686018427387904) (hc0:c0<4611686018427387904) (hc1:c1<4611686018427387904) (he0:e0<4611686018427387904) (he1:e1<4611686018427387904) (hf0:f0<4611686018427387904) (h0:lit true ((s2:Int)==((2:Nat):Int))=true) (h1:lit false ((s2:Int)==((1:Nat):Int))=true) (cc0:CO 29 [.int .i64 q0,.int .i64 1000] (.ret (.int .i64 (a0:Int)))) (cc1:CO 49 [.int .i64 (a0:Int)] (.ret (.str (adX a0)))) (cc2:CO 29 [.int .i64 q1,.int .i64 60] (.ret (.int .i64 (b1:Int)))) (cc3:CO 49 [.int .i64 (((1+b1):Nat):Int)] (.ret (.str (adX (1+b1))))) (cc4:CO 29 [.int .i64 q2,.int .i64 4] (.ret (.int .i64 (s2:Int)))) (cc5:CO 29 [.int .i64 q0,.int .i64 4611686018427387904] (.ret (.int .i64 (c0:Int)))) (cc6:CO 49 [.int .i64 (c0:Int)] (.ret (.str (adX c0)))) (cc7:CO 29 [.int .i64 q1,.int .i64 4611686018427387904] (.ret (.int .i64 (c1:Int)))) (cc8:CO 49 [.int .i64 (c1:Int)] (.ret (.str (adX c1)))) (cc9:CO 50 [.str (adX c0),.str (adX c1)] (.ret (.str (adX (c0*c1))))) (cc10:CO 29 [.int .i64 q1,.int .i64 4611686018427387904] (.ret (.int .i64 (c1:Int)))) (cc11:CO 49 [.int .i64 (((1+c1):Nat):Int)] (.ret (.str (adX (1+c1))))) (cc12:CO 29 [.int .i64 q0,.int .i64 2147483648] (.ret (.int .i64 (f0:Int)))) (cc13:CO 49 [.int .i64 (((1+f0):Nat):Int)] (.ret (.str (adX (1+f0))))) (cc14:CO 50 [.str (adX (1+c1)),.str (adX (1+f0))] (.ret (.str (adX ((1+c1)*(1+f0)))))) (cc15:CO 51 [.bool (decide (q0<((0:Nat):Int))),.str (adX (c0*c1)),.str (adX ((1+c1)*(1+f0)))] (.ret (.agg [.bool w.neg,.str (adX w.n),.str (adX w.d)]))):CO 19 [.agg [.int .i64 q0,.int .i64 q1,.int .i64 q2]] (.ret (.agg [.bool w.neg,.str (adX w.n),.str (adX w.d)])):=pK [] 2 2 (.k 19 h0 (.c h1 (.n 9 .nil))) (.c cc15 (.c cc14 (.c cc13 (.v 47 (.eq (w1p hf0)) (.c cc12 (.c cc11 (.v 42 (.eq (w1p hc1)) (.c cc10 (.c cc9 (.c cc8 (.c cc7 (.c cc6 (.c cc5 (.c cc4 (.c cc3 (.v 12 (.eq (w1p hb1)) (.c cc2 (.c cc1 (.c cc0 .nil)))))))))))))))))))
theorem aRw (q0 q1 q2:Int) (a0 b1 s2 c0 c1 e0 e1 f0:Nat) (w:RQ) (ha0:a0<4611686018427387904) (hb1:b1<4611686018427387904) (hs2:s2<4611686018427387904) (hc0:c0<4611686018427387904) (hc1:c1<4611686018427387904) (he0:e0<4611686018427387904) (he1:e1<4611686018427387904) (hf0:f0<4611686018427387904) (h0:lit true ((s2:Int)==((3:Nat):Int))=true) (h1:lit false ((s2:Int)==((2:Nat):Int))=true) (h2:lit false ((s2:Int)==((1:Nat):Int))=true) (cc0:CO 29 [.int .i64 q0,.int .i64 1000] (.ret (.int .i64 (a0:Int)))) (cc1:CO 49 [.int .i64 (a0:Int)] (.ret (.str (adX a0)))) (cc2:CO 29 [.int .i64 q1,.int .i64 60] (.ret (.int .i64 (b1:Int)))) (cc3:CO 49 [.int .i64 (((1+b1):Nat):Int)] (.ret (.str (adX (1+b1))))) (cc4:CO 29 [.int .i64 q2,.int .i64 4] (.ret (.int .i64 (s2:Int)))) (cc5:CO 29 [.int .i64 q0,.int .i64 7] (.ret (.int .i64 (e0:Int)))) (cc6:CO 49 [.int .i64 (e0:Int)] (.ret (.str (adX e0)))) (cc7:CO 29 [.int .i64 q1,.int .i64 7] (.ret (.int .i64 (e1:Int)))) (cc8:CO 49 [.int .i64 (((1+e1):Nat):Int)] (.ret (.str (adX (1+e1))))) (cc9:CO 51 [.bool (decide (q0<((0:Nat):Int))),.str (adX e0),.str (adX (1+e1))] (.ret (.agg [.bool w.neg,.str (adX w.n),.str (adX w.d)]))):CO 19 [.agg [.int .i64 q0,.int .i64 q1,.int .i64 q2]] (.ret (.agg [.bool w.neg,.str (adX w.n),.str (adX w.d)])):=pK [] 3 4 (.k 13 h0 (.c h1 (.c h2 (.n 9 .nil)))) (.c cc9 (.c cc8 (.v 59 (.eq (w1p he1)) (.c cc7 (.c cc6 (.c cc5 (.c cc4 (.c cc3 (.v 12 (.eq (w1p hb1)) (.c cc2 (.c cc1 (.c cc0 .nil))))))))))))
theorem aRx (q0 q1 q2:Int) (a0 b1 s2 c0 c1 e0 e1 f0:Nat) (w:RQ) (ha0:a0<4611686018427387904) (hb1:b1<4611686018427387904) (hs2:s2<4611686018427387904) (hc0:c0<4611686018427387904) (hc1:c1<4611686018427387904) (he0:e0<4611686018427387904) (he1:e1<4611686018427387904) (hf0:f0<4611686018427387904) (h0:lit false ((s2:Int)==((3:Nat):Int))=true) (h1:lit false ((s2:Int)==((2:Nat):Int))=true) (h2:lit false ((s2:Int)==((1:Nat):Int))=true) (cc0:CO 29 [.int .i64 q0,.int .i64 1000] (.ret (.int .i64 (a0:Int)))) (cc1:CO 49 [.int .i64 (a0:Int)] (.ret (.str (adX a0)))) (cc2:CO 29 [.int .i64 q1,.int .i64 60] (.ret (.int .i64 (b1:Int)))) (cc3:CO 49 [.int .i64 (((1+b1):Nat):Int)] (.ret (.str (adX (1+b1))))) (cc4:CO 29 [.int .i64 q2,.int .i64 4] (.ret (.int .i64 (s2:Int)))) (cc5:CO 51 [.bool (decide (q0<((0:Nat):Int))),.str (adX a0),.str (adX (1+b1))] (.ret (.agg [.bool w.neg,.str (adX w.n),.str (adX w.d)]))):CO 19 [.agg [.int .i64 q0,.int .i64 q1,.int .i64 q2]] (.ret (.agg [.bool w.neg,.str (adX w.n),.str (adX w.d)])):=pK [] 3 0 (.k 7 h0 (.c h1 (.c h2 (.n 9 .nil)))) (.c cc5 (.c cc4 (.c cc3 (.v 12 (.eq (w1p hb1)) (.c cc2 (.c cc1 (.c cc0 .nil)))))))
def mdN (q0 q1 q2:Int):Nat:=if anN q2 4=1 then (anN q0 4611686018427387904) else if anN q2 4=2 then ((anN q0 4611686018427387904)*(anN q1 4611686018427387904)) else if anN q2 4=3 then (anN q0 7) else (anN q0 1000)
def mdD (q0 q1 q2:Int):Nat:=if anN q2 4=1 then (1+(anN q1 4611686018427387904)) else if anN q2 4=2 then ((1+(anN q1 4611686018427387904))*(1+(anN q0 2147483648))) else if anN q2 4=3 then (1+(anN q1 7)) else (1+(anN q1 60))
theorem aF5 {a b:Nat} (h:a=b):(((a:Int))==(b:Int))=true:=by subst h;simp
theorem ayt {a b:Nat} (h:a ≠ b):(((a:Int))==(b:Int))=false:=beq_eq_false_iff_ne.2 (by omega)
theorem aIK (q0 q1 q2:Int) (hmul:anN q2 4=2→∀ x y:Nat,x<9223372036854775808→y<9223372036854775808→CO 50 [.str (adX x),.str (adX y)] (.ret (.str (adX (x*y))))):CO 19 [.agg [.int .i64 q0,.int .i64 q1,.int .i64 q2]] (.ret (qA (aBm (decide (q0<((0:Nat):Int))) (mdN q0 q1 q2) (mdD q0 q1 q2)))):=by
 have ha0:(anN q0 1000)<4611686018427387904:=Nat.lt_of_lt_of_le (ava (by omega)) (by omega)
 have hb1:(anN q1 60)<4611686018427387904:=Nat.lt_of_lt_of_le (ava (by omega)) (by omega)
 have hs2:(anN q2 4)<4611686018427387904:=Nat.lt_of_lt_of_le (ava (by omega)) (by omega)
 have hc0:(anN q0 4611686018427387904)<4611686018427387904:=Nat.lt_of_lt_of_le (ava (by omega)) (by omega)
 have hc1:(anN q1 4611686018427387904)<4611686018427387904:=Nat.lt_of_lt_of_le (ava (by omega)) (by omega)
 have he0:(anN q0 7)<4611686018427387904:=Nat.lt_of_lt_of_le (ava (by omega)) (by omega)
 have he1:(anN q1 7)<4611686018427387904:=Nat.lt_of_lt_of_le (ava (by omega)) (by omega)
 have hf0:(anN q0 2147483648)<4611686018427387904:=Nat.lt_of_lt_of_le (ava (by omega)) (by omega)
 have hs4:anN q2 4<4:=ava (by omega)
 unfold mdN mdD
 by_cases e1:anN q2 4=1
 ·rw [if_pos e1,if_pos e1]
  exact aRu q0 q1 q2 (anN q0 1000) (anN q1 60) (anN q2 4) (anN q0 4611686018427387904) (anN q1 4611686018427387904) (anN q0 7) (anN q1 7) (anN q0 2147483648) (aBm (decide (q0<((0:Nat):Int))) (anN q0 4611686018427387904) (1+(anN q1 4611686018427387904))) ha0 hb1 hs2 hc0 hc1 he0 he1 hf0 (al1 (aF5 (by omega))) (au5 q0 1000 (by omega) (by omega)) (avb (anN q0 1000) (by have:=ha0;omega)) (au5 q1 60 (by omega) (by omega)) (avb (1+(anN q1 60)) (by have:=hb1;omega)) (au5 q2 4 (by omega) (by omega)) (au5 q0 4611686018427387904 (by omega) (by omega)) (avb (anN q0 4611686018427387904) (by have:=hc0;omega)) (au5 q1 4611686018427387904 (by omega) (by omega)) (avb (1+(anN q1 4611686018427387904)) (by have:=hc1;omega)) (av6 _ _ _ (Nat.lt_of_le_of_lt (avS (k:=8) (by have:=hc0;omega)) (by decide)) (Nat.lt_of_le_of_lt (avS (k:=8) (by have:=hc1;omega)) (by decide)) (by omega))
 ·rw [if_neg e1,if_neg e1]
  by_cases e2:anN q2 4=2
  ·rw [if_pos e2,if_pos e2]
   have hmul:=hmul e2
   exact aRv q0 q1 q2 (anN q0 1000) (anN q1 60) (anN q2 4) (anN q0 4611686018427387904) (anN q1 4611686018427387904) (anN q0 7) (anN q1 7) (anN q0 2147483648) (aBm (decide (q0<((0:Nat):Int))) ((anN q0 4611686018427387904)*(anN q1 4611686018427387904)) ((1+(anN q1 4611686018427387904))*(1+(anN q0 2147483648)))) ha0 hb1 hs2 hc0 hc1 he0 he1 hf0 (al1 (aF5 (by omega))) (ajS (ayt (by omega))) (au5 q0 1000 (by omega) (by omega)) (avb (anN q0 1000) (by have:=ha0;omega)) (au5 q1 60 (by omega) (by omega)) (avb (1+(anN q1 60)) (by have:=hb1;omega)) (au5 q2 4 (by omega) (by omega)) (au5 q0 4611686018427387904 (by omega) (by omega)) (avb (anN q0 4611686018427387904) (by have:=hc0;omega)) (au5 q1 4611686018427387904 (by omega) (by omega)) (avb (anN q1 4611686018427387904) (by have:=hc1;omega)) (hmul (anN q0 4611686018427387904) (anN q1 4611686018427387904) (by have:=hc0;have:=hc1;have:=hf0;omega) (by have:=hc0;have:=hc1;have:=hf0;omega)) (au5 q1 4611686018427387904 (by omega) (by omega)) (avb (1+(anN q1 4611686018427387904)) (by have:=hc1;omega)) (au5 q0 2147483648 (by omega) (by omega)) (avb (1+(anN q0 2147483648)) (by have:=hf0;omega)) (hmul (1+(anN q1 4611686018427387904)) (1+(anN q0 2147483648)) (by have:=hc0;have:=hc1;have:=hf0;omega) (by have:=hc0;have:=hc1;have:=hf0;omega)) (av6 _ _ _ (Nat.lt_of_le_of_lt (avS (k:=16) (by exact Nat.lt_of_le_of_lt (Nat.mul_le_mul (Nat.le_of_lt hc0) (Nat.le_of_lt hc1)) (by decide))) (by decide)) (Nat.lt_of_le_of_lt (avS (k:=16) (by exact Nat.lt_of_le_of_lt (Nat.mul_le_mul (Nat.le_of_lt (show 1+_<4611686018427387905 by have:=hc1;omega)) (Nat.le_of_lt (show 1+_<4611686018427387905 by have:=hf0;omega))) (by decide))) (by decide)) (Nat.mul_pos (by omega) (by omega)))
  ·rw [if_neg e2,if_neg e2]
   by_cases e3:anN q2 4=3
   ·rw [if_pos e3,if_pos e3]
    exact aRw q0 q1 q2 (anN q0 1000) (anN q1 60) (anN q2 4) (anN q0 4611686018427387904) (anN q1 4611686018427387904) (anN q0 7) (anN q1 7) (anN q0 2147483648) (aBm (decide (q0<((0:Nat):Int))) (anN q0 7) (1+(anN q1 7))) ha0 hb1 hs2 hc0 hc1 he0 he1 hf0 (al1 (aF5 (by omega))) (ajS (ayt (by omega))) (ajS (ayt (by omega))) (au5 q0 1000 (by omega) (by omega)) (avb (anN q0 1000) (by have:=ha0;omega)) (au5 q1 60 (by omega) (by omega)) (avb (1+(anN q1 60)) (by have:=hb1;omega)) (au5 q2 4 (by omega) (by omega)) (au5 q0 7 (by omega) (by omega)) (avb (anN q0 7) (by have:=he0;omega)) (au5 q1 7 (by omega) (by omega)) (avb (1+(anN q1 7)) (by have:=he1;omega)) (av6 _ _ _ (Nat.lt_of_le_of_lt (avS (k:=8) (by have:=he0;omega)) (by decide)) (Nat.lt_of_le_of_lt (avS (k:=8) (by have:=he1;omega)) (by decide)) (by omega))
   ·rw [if_neg e3,if_neg e3]
    exact aRx q0 q1 q2 (anN q0 1000) (anN q1 60) (anN q2 4) (anN q0 4611686018427387904) (anN q1 4611686018427387904) (anN q0 7) (anN q1 7) (anN q0 2147483648) (aBm (decide (q0<((0:Nat):Int))) (anN q0 1000) (1+(anN q1 60))) ha0 hb1 hs2 hc0 hc1 he0 he1 hf0 (ajS (ayt (by omega))) (ajS (ayt (by omega))) (ajS (ayt (by omega))) (au5 q0 1000 (by omega) (by omega)) (avb (anN q0 1000) (by have:=ha0;omega)) (au5 q1 60 (by omega) (by omega)) (avb (1+(anN q1 60)) (by have:=hb1;omega)) (au5 q2 4 (by omega) (by omega)) (av6 _ _ _ (Nat.lt_of_le_of_lt (avS (k:=8) (by have:=ha0;omega)) (by decide)) (Nat.lt_of_le_of_lt (avS (k:=8) (by have:=hb1;omega)) (by decide)) (by omega))
theorem aLc (q0 q1 q2:Int):0<mdD q0 q1 q2:=by
 unfold mdD
 split
 ·omega
 ·split
  ·exact Nat.mul_pos (by omega) (by omega)
  ·split<;>omega
theorem aTq (q0 q1 q2:Int):mdN q0 q1 q2<2^128∧mdD q0 q1 q2<2^128:=by
 have ha0:(anN q0 1000)<4611686018427387904:=Nat.lt_of_lt_of_le (ava (by omega)) (by omega)
 have hb1:(anN q1 60)<4611686018427387904:=Nat.lt_of_lt_of_le (ava (by omega)) (by omega)
 have hs2:(anN q2 4)<4611686018427387904:=Nat.lt_of_lt_of_le (ava (by omega)) (by omega)
 have hc0:(anN q0 4611686018427387904)<4611686018427387904:=Nat.lt_of_lt_of_le (ava (by omega)) (by omega)
 have hc1:(anN q1 4611686018427387904)<4611686018427387904:=Nat.lt_of_lt_of_le (ava (by omega)) (by omega)
 have he0:(anN q0 7)<4611686018427387904:=Nat.lt_of_lt_of_le (ava (by omega)) (by omega)
 have he1:(anN q1 7)<4611686018427387904:=Nat.lt_of_lt_of_le (ava (by omega)) (by omega)
 have hf0:(anN q0 2147483648)<4611686018427387904:=Nat.lt_of_lt_of_le (ava (by omega)) (by omega)
 unfold mdN mdD
 by_cases e1:anN q2 4=1
 ·rw [if_pos e1,if_pos e1];omega
 ·rw [if_neg e1,if_neg e1]
  by_cases e2:anN q2 4=2
  ·rw [if_pos e2,if_pos e2]
   exact ⟨by exact Nat.lt_of_le_of_lt (Nat.mul_le_mul (Nat.le_of_lt hc0) (Nat.le_of_lt hc1)) (by decide),by exact Nat.lt_of_le_of_lt (Nat.mul_le_mul (Nat.le_of_lt (show 1+_<4611686018427387905 by have:=hc1;omega)) (Nat.le_of_lt (show 1+_<4611686018427387905 by have:=hf0;omega))) (by decide)⟩
  ·rw [if_neg e2,if_neg e2]
   by_cases e3:anN q2 4=3
   ·rw [if_pos e3,if_pos e3];omega
   ·rw [if_neg e3,if_neg e3];omega
theorem aZ3 (w:RQ) (h0:lit true (!((adX w.n)== []))=true) (c0:CO 70 [.agg [.bool w.neg,.str (adX w.n),.str (adX w.d)]] (.ret (.agg [.bool w.neg,.str (adX w.n),.str (adX w.d)]))):CO 59 [.agg [.bool w.neg,.str (adX w.n),.str (adX w.d)]] (.ret (.agg [.bool (!w.neg),.str (adX w.n),.str (adX w.d)])):=pK [] 1 1 (.k 9 h0 (.n 5 .nil)) (.c c0 .nil)
theorem aVJ (q0 q1 q2:Int) (w:RQ) (sg:Int) (h0:lit false (sg==((0:Nat):Int))=true) (h1:lit true w.neg=true) (c0:CO 19 [.agg [.int .i64 q0,.int .i64 q1,.int .i64 q2]] (.ret (.agg [.bool w.neg,.str (adX w.n),.str (adX w.d)]))) (c1:CO 59 [.agg [.bool w.neg,.str (adX w.n),.str (adX w.d)]] (.ret (.agg [.bool false,.str (adX w.n),.str (adX w.d)]))) (c2:CO 45 [.agg [.bool false,.str (adX w.n),.str (adX w.d)]] (.ret (.int .i64 sg))):CO 35 [.agg [.int .i64 q0,.int .i64 q1,.int .i64 q2]] (.ret (.agg [.bool false,.str (adX w.n),.str (adX w.d)])):=pK [] 2 1 (.k 7 h0 (.k 7 h1 (.n 5 .nil))) (.c c2 (.c c1 (.c c0 .nil)))
theorem aVK (q0 q1 q2:Int) (w:RQ) (sg:Int) (h0:lit true (sg==((0:Nat):Int))=true) (h1:lit false w.neg=true) (c0:CO 19 [.agg [.int .i64 q0,.int .i64 q1,.int .i64 q2]] (.ret (.agg [.bool w.neg,.str (adX w.n),.str (adX w.d)]))) (c1:CO 45 [.agg [.bool w.neg,.str (adX w.n),.str (adX w.d)]] (.ret (.int .i64 sg))) (c2:CO 60 [] (.ret (.agg [.bool false,.str [1],.str [100]]))):CO 35 [.agg [.int .i64 q0,.int .i64 q1,.int .i64 q2]] (.ret (.agg [.bool false,.str [1],.str [100]])):=pK [] 2 2 (.k 4 h0 (.k 3 h1 (.n 5 .nil))) (.c c2 (.c c1 (.c c0 .nil)))
theorem aVL (q0 q1 q2:Int) (w:RQ) (sg:Int) (h0:lit false (sg==((0:Nat):Int))=true) (h1:lit false w.neg=true) (c0:CO 19 [.agg [.int .i64 q0,.int .i64 q1,.int .i64 q2]] (.ret (.agg [.bool w.neg,.str (adX w.n),.str (adX w.d)]))) (c1:CO 45 [.agg [.bool w.neg,.str (adX w.n),.str (adX w.d)]] (.ret (.int .i64 sg))):CO 35 [.agg [.int .i64 q0,.int .i64 q1,.int .i64 q2]] (.ret (.agg [.bool w.neg,.str (adX w.n),.str (adX w.d)])):=pK [] 2 0 (.k 7 h0 (.k 3 h1 (.n 5 .nil))) (.c c1 (.c c0 .nil))
theorem aUH (n:Int) (k8 k2:Nat) (w:RQ) (nam:Bool) (nm:List UInt8) (hk8:k8<4611686018427387904) (h0:lit false nam=true) (h1:lit true ((((1+k8):Nat):Int)==((4:Nat):Int))=true) (c0:CO 29 [.int .i64 n,.int .i64 8] (.ret (.int .i64 (k8:Int)))) (c1:CO 19 [.agg [.int .i64 (IntKind.wrap .i64 (Int.tdiv n ((8:Nat):Int))),.int .i64 (IntKind.wrap .i64 (Int.tdiv n ((24:Nat):Int))),.int .i64 (IntKind.wrap .i64 (((3:Nat):Int)*(Int.tmod (IntKind.wrap .i64 (Int.tdiv n ((8:Nat):Int))) ((2:Nat):Int))))]] (.ret (.agg [.bool w.neg,.str (adX w.n),.str (adX w.d)]))) (c2:CO 29 [.int .i64 (IntKind.wrap .i64 (Int.tdiv n ((8:Nat):Int))),.int .i64 2] (.ret (.int .i64 (k2:Int)))) (c3:CO 36 [.int .i64 (k2:Int)] (.ret (.agg [.bool false,.str (adX k2),.str (adX 1)]))) (c4:CO 32 [.int .i64 (((1+k8):Nat):Int)] (.ret (.bool nam))):CO 31 [.int .i64 n] (.ret (.agg [.int .i64 (((1+k8):Nat):Int),.bool false,.str (adX k2),.str (adX 1),.str []])):=pK [] 2 1 (.k 9 h0 (.k 2 h1 (.n 5 .nil))) (.c c4 (.c c3 (.c c2 (.c c1 (.v 7 (.eq (w1p hk8)) (.c c0 .nil))))))
theorem aUI (n:Int) (k8 k2:Nat) (w:RQ) (nam:Bool) (nm:List UInt8) (hk8:k8<4611686018427387904) (h0:lit true nam=true) (h1:lit false ((((1+k8):Nat):Int)==((4:Nat):Int))=true) (c0:CO 29 [.int .i64 n,.int .i64 8] (.ret (.int .i64 (k8:Int)))) (c1:CO 19 [.agg [.int .i64 (IntKind.wrap .i64 (Int.tdiv n ((8:Nat):Int))),.int .i64 (IntKind.wrap .i64 (Int.tdiv n ((24:Nat):Int))),.int .i64 (IntKind.wrap .i64 (((3:Nat):Int)*(Int.tmod (IntKind.wrap .i64 (Int.tdiv n ((8:Nat):Int))) ((2:Nat):Int))))]] (.ret (.agg [.bool w.neg,.str (adX w.n),.str (adX w.d)]))) (c2:CO 32 [.int .i64 (((1+k8):Nat):Int)] (.ret (.bool nam))) (c3:CO 33 [.int .i64 (IntKind.wrap .i64 (Int.tdiv n ((8:Nat):Int)))] (.ret (.str nm))):CO 31 [.int .i64 n] (.ret (.agg [.int .i64 (((1+k8):Nat):Int),.bool false,.str [],.str [],.str nm])):=pK [] 2 2 (.k 7 h0 (.c h1 (.n 5 .nil))) (.c c3 (.c c2 (.c c1 (.v 7 (.eq (w1p hk8)) (.c c0 .nil)))))
theorem aUJ (n:Int) (k8 k2:Nat) (w:RQ) (nam:Bool) (nm:List UInt8) (hk8:k8<4611686018427387904) (h0:lit false nam=true) (h1:lit false ((((1+k8):Nat):Int)==((4:Nat):Int))=true) (c0:CO 29 [.int .i64 n,.int .i64 8] (.ret (.int .i64 (k8:Int)))) (c1:CO 19 [.agg [.int .i64 (IntKind.wrap .i64 (Int.tdiv n ((8:Nat):Int))),.int .i64 (IntKind.wrap .i64 (Int.tdiv n ((24:Nat):Int))),.int .i64 (IntKind.wrap .i64 (((3:Nat):Int)*(Int.tmod (IntKind.wrap .i64 (Int.tdiv n ((8:Nat):Int))) ((2:Nat):Int))))]] (.ret (.agg [.bool w.neg,.str (adX w.n),.str (adX w.d)]))) (c2:CO 32 [.int .i64 (((1+k8):Nat):Int)] (.ret (.bool nam))):CO 31 [.int .i64 n] (.ret (.agg [.int .i64 (((1+k8):Nat):Int),.bool w.neg,.str (adX w.n),.str (adX w.d),.str []])):=pK [] 2 0 (.k 9 h0 (.c h1 (.n 5 .nil))) (.c c2 (.c c1 (.v 7 (.eq (w1p hk8)) (.c c0 .nil))))
theorem ce0:CO 76 [.str [0,0,0,0,0,0,0,1]] (.ret (.str [1])):=cK (.nil)
theorem ce1:CO 49 [.int .i64 1] (.ret (.str [1])):=cK (.c ce0 .nil)
theorem ce2:CO 76 [.str [0,0,0,0,0,0,0,100]] (.ret (.str [100])):=cK (.nil)
theorem ce3:CO 49 [.int .i64 100] (.ret (.str [100])):=cK (.c ce2 .nil)
theorem ce4:CO 128 [.str [1]] (.ret (.bool true)):=cK (.nil)
theorem ce5:CO 128 [.str [100]] (.ret (.bool true)):=cK (.nil)
theorem ce6:CO 76 [.str [1]] (.ret (.str [1])):=cK (.nil)
theorem ce7:CO 76 [.str [100]] (.ret (.str [100])):=cK (.nil)
theorem ce8:CO 107 [.str [1]] (.ret (.tup [.int .i64 1,.bool true])):=cK (.c ce6 .nil)
theorem ce9:CO 77 [.str [1],.int .i64 7] (.ret (.tup [.int .i64 1,.bool true])):=cK (.c ce8 (.c ce6 .nil))
theorem a2G:CO 107 [.str [100]] (.ret (.tup [.int .i64 100,.bool true])):=cK (.c ce7 .nil)
theorem aWE:CO 77 [.str [100],.int .i64 7] (.ret (.tup [.int .i64 100,.bool true])):=cK (.c a2G (.c ce7 .nil))
theorem a2H:CO 76 [.str []] (.ret (.str [])):=cK (.nil)
theorem aT4:CO 49 [.int .i64 0] (.ret (.str [])):=cK (.c a2H .nil)
theorem a2I:CO 81 [.str [1],.str [100]] (.ret (.tup [.str [],.str [1],.bool true])):=cK (.c ce1 (.c aT4 (.c aWE (.c ce9 (.c ce7 .nil)))))
theorem aWF:CO 81 [.str [100],.str [1]] (.ret (.tup [.str [100],.str [],.bool true])):=cK (.c aT4 (.c ce3 (.c ce9 (.c aWE (.c ce6 .nil)))))
theorem a2J:CO 80 [.str [1],.str [100]] (.ret (.str [1])):=cK (.c aWF (.c a2I (.c ce7 (.c ce6 .nil))))
theorem a2K:CO 81 [.str [1],.str [1]] (.ret (.tup [.str [1],.str [],.bool true])):=cK (.c aT4 (.c ce1 (.c ce9 (.c ce9 (.c ce6 .nil)))))
theorem a2L:CO 51 [.bool false,.str [1],.str [100]] (.ret (.agg [.bool false,.str [1],.str [100]])):=cK (.c aWF (.c a2K (.c a2J .nil)))
theorem a2M:CO 96 [.bool false,.str [1],.str [100]] (.ret (.tup [.agg [.bool false,.str [1],.str [100]],.bool true])):=cK (.c a2L (.c ce5 (.c ce4 .nil)))
theorem a2N:CO 60 [] (.ret (.agg [.bool false,.str [1],.str [100]])):=cK (.c a2M (.c ce3 (.c ce1 .nil)))
theorem nS {s:List UInt8} (h:nR s=true):adX (adF s)=s:=by
 rw [aB5]
 cases s with
 |nil=>rfl
 |cons c r=>
  have:(c==0)=false:=by simpa [nR] using h
  rw [List.dropWhile_cons,if_neg (by rw [this];decide)]
theorem avd {x:Nat} (h:x<2^128):(adX x).length<2^33:=Nat.lt_of_le_of_lt (avS (k:=16) h) (by decide)
theorem aK5 {w:RQ} (hw:w.ok) (hn:w.n<2^128) (hd:w.d<2^128):axE w.neg (adX w.n) (adX w.d)=true:=by
 have h1:=axl hn
 have h2:=axl hd
 unfold axE
 rw [aJ7 w hw,anZ,anZ,decide_eq_true (by omega),decide_eq_true (by omega)]
 rfl
theorem aKx {w:RQ} (hw:w.ok) (hneg:w.neg=false) (hn:0<w.n):azD w.neg (adX w.n) (adX w.d)=1:=by
 unfold azD
 rw [if_pos ⟨aJ7 w hw,by rw [anZ];exact hn⟩,hneg]
 rfl
theorem aSr {w:RQ} (hn:w.n=0):azD w.neg (adX w.n) (adX w.d)=0:=by
 unfold azD
 rw [if_neg]
 rw [anZ];omega
theorem aOF (neg:Bool) (n d:Nat) (hn:n<2^128) (hd:d<2^128):(aBm neg n d).n<2^128∧(aBm neg n d).d<2^128:=
 ⟨Nat.lt_of_le_of_lt (Nat.div_le_self _ _) hn,Nat.lt_of_le_of_lt (Nat.div_le_self _ _) hd⟩
theorem aPB (q0 q1:Int):∃ w:RQ,w.ok∧w.neg=false∧0<w.n∧w.n<2^128∧w.d<2^128∧CO 35 [.agg [.int .i64 q0,.int .i64 q1,.int .i64 3]] (.ret (qA w)):=by
 have h:=aIK q0 q1 3 (fun h=>absurd h (by decide))
 obtain ⟨b1,b2⟩:=aTq q0 q1 3
 obtain ⟨b3,b4⟩:=aOF (decide (q0<((0:Nat):Int))) _ _ b1 b2
 have hw:(aBm (decide (q0<((0:Nat):Int))) (mdN q0 q1 3) (mdD q0 q1 3)).ok:=aLb (aLc _ _ _)
 generalize aBm (decide (q0<((0:Nat):Int))) (mdN q0 q1 3) (mdD q0 q1 3)=w at*
 have cent:qA ⟨false,1,100⟩= .agg [.bool false,.str [1],.str [100]]:=by
  unfold qA
  rw [show adX 1= [1] from nS (s:= [1]) rfl,show adX 100= [100] from nS (s:= [100]) rfl]
 have cw:(⟨false,1,100⟩:RQ).ok:=⟨by decide,by decide,by simp⟩
 rcases tf w.neg with b0|b0
 ·have hp:=hw.2.2 b0
  have hne:(!((adX w.n)== []))=true:=by
   have:adX w.n ≠ []:=fun h=>by have:=aw0.1 h;omega
   simpa using this
  have hv:=awK w.neg (adX w.n) (adX w.d) (avd b3) (avd b4)
  rw [show vQ w.neg (adX w.n) (adX w.d)=w by unfold vQ;rw [if_pos (aJ7 w hw),anZ,anZ]] at hv
  have c1:=aZ3 w (al1 hne) hv
  rw [show (!w.neg)=false by rw [b0];rfl] at c1
  have ok':(⟨false,w.n,w.d⟩:RQ).ok:=⟨hw.1,hw.2.1,by simp⟩
  have cs:=aGD false (adX w.n) (adX w.d) (avd b3) (avd b4)
  rw [aKx (w:=⟨false,w.n,w.d⟩) ok' rfl hp] at cs
  exact ⟨⟨false,w.n,w.d⟩,ok',rfl,hp,b3,b4,aVJ q0 q1 3 w 1 (ajS (by decide)) (al1 b0) h c1 cs⟩
 ·have cs:=aGD w.neg (adX w.n) (adX w.d) (avd b3) (avd b4)
  rcases Nat.eq_zero_or_pos w.n with hz|hp
  ·rw [aSr hz] at cs
   have:=aVK q0 q1 3 w 0 (al1 (by decide)) (ajS b0) h cs a2N
   exact ⟨⟨false,1,100⟩,cw,rfl,by decide,by decide,by decide,by rw [cent];exact this⟩
  ·rw [aKx hw b0 hp] at cs
   exact ⟨w,hw,b0,hp,b3,b4,aVL q0 q1 3 w 1 (ajS (by decide)) (ajS b0) h cs⟩
theorem aGT {op:Int} (h:op=1∨op=2∨op=3) {w:RQ} (hw:w.ok) (hn:w.n<2^128) (hd:w.d<2^128):aeF ⟨op,w.neg,adX w.n,adX w.d,[]⟩=0:=by
 have hf:=aK5 hw hn hd
 rcases h with rfl|rfl|rfl<;>simp [aeF,awD,inI,axz,aFR,azb,hf]
theorem aFw {op:Int} (h:op=21∨op=22∨op=23) {w:RQ} (hw:w.ok) (hneg:w.neg=false) (hp:0<w.n) (hn:w.n<2^128) (hd:w.d<2^128):aeF ⟨op,w.neg,adX w.n,adX w.d,[]⟩=0:=by
 have hf:=aK5 hw hn hd
 have hs:=aKx hw hneg hp
 rcases h with rfl|rfl|rfl<;>simp [aeF,awD,inI,axz,aFR,azb,hf,hs]
theorem aJn {k:Nat} (h:k<2):aeF ⟨4,false,adX k,adX 1,[]⟩=0:=by
 have:k=0∨k=1:=by omega
 rcases this with rfl|rfl<;>simp [aeF,awD,inI,axz,eqS]
theorem aFu {op:Int} (h:op=5∨op=6∨op=7∨op=8∨op=24) {nm:List UInt8} (hn:aA2 nm=true):aeF ⟨op,false,[],[],nm⟩=0:=by
 rcases h with rfl|rfl|rfl|rfl|rfl<;>simp [aeF,awD,inI,axz,aFR,azb,hn]
theorem aFv {op:Int} (h:9≤op∧op≤20):aeF ⟨op,false,[],[],[]⟩=0:=by
 have h1:inI op=true:=decide_eq_true (by omega)
 have h2:axz op=false:=decide_eq_false (by omega)
 have h3:aFR op=false:=decide_eq_false (by omega)
 have h4:azb op=false:=decide_eq_false (by omega)
 have h5:(op==((4:Nat):Int))=false:=beq_eq_false_iff_ne.2 (by omega)
 unfold aeF awD
 rw [h1,h2,h3,h4,h5];rfl
theorem aRl (n:Int):∃ x:Nd,x.sm∧aeF x=0∧arI x.op=0∧CO 31 [.int .i64 n] (.ret (.agg (ndC x))):=by
 have c8:=au5 n 8 (by omega) (by omega)
 have h8:anN n 8<8:=ava (by omega)
 generalize anN n 8=k8 at*
 generalize hq:(IntKind.wrap .i64 (Int.tdiv n ((8:Nat):Int)))=q at*
 have hr: -2<Int.tmod q 2∧Int.tmod q 2<2:=by
  have h1:=Int.tmod_lt_of_pos q (b:=2) (by omega)
  have h2:=Int.tmod_lt_of_pos (-q) (b:=2) (by omega)
  rw [Int.neg_tmod] at h2
  omega
 have hne:anN (IntKind.wrap .i64 (((3:Nat):Int)*(Int.tmod q ((2:Nat):Int)))) 4 ≠ 2:=by
  rw [show ((2:Nat):Int)=2 from rfl]
  rw [auI (by omega) (by omega)]
  have:Int.tmod q 2= -1∨Int.tmod q 2=0∨Int.tmod q 2=1:=by omega
  rcases this with h|h|h<;>rw [h]<;>decide
 have cm:=aIK q (IntKind.wrap .i64 (Int.tdiv n ((24:Nat):Int))) (IntKind.wrap .i64 (((3:Nat):Int)*(Int.tmod q ((2:Nat):Int)))) (fun h=>absurd h hne)
 obtain ⟨b1,b2⟩:=aTq q (IntKind.wrap .i64 (Int.tdiv n ((24:Nat):Int))) (IntKind.wrap .i64 (((3:Nat):Int)*(Int.tmod q ((2:Nat):Int))))
 obtain ⟨b3,b4⟩:=aOF (decide (q<((0:Nat):Int))) _ _ b1 b2
 have hw:=aLb (neg:=decide (q<((0:Nat):Int))) (n:=mdN q (IntKind.wrap .i64 (Int.tdiv n ((24:Nat):Int))) (IntKind.wrap .i64 (((3:Nat):Int)*(Int.tmod q ((2:Nat):Int))))) (aLc q (IntKind.wrap .i64 (Int.tdiv n ((24:Nat):Int))) (IntKind.wrap .i64 (((3:Nat):Int)*(Int.tmod q ((2:Nat):Int)))))
 generalize aBm (decide (q<((0:Nat):Int))) (mdN q (IntKind.wrap .i64 (Int.tdiv n ((24:Nat):Int))) (IntKind.wrap .i64 (((3:Nat):Int)*(Int.tmod q ((2:Nat):Int))))) (mdD q (IntKind.wrap .i64 (Int.tdiv n ((24:Nat):Int))) (IntKind.wrap .i64 (((3:Nat):Int)*(Int.tmod q ((2:Nat):Int)))))=w at*
 have cn:=aLg (((1+k8:Nat):Int))
 have cp:=aLp q
 have hp:=aGB (anN q 6) (ava (by omega))
 generalize aLo (anN q 6)=nm at*
 have c2:=au5 q 2 (by omega) (by omega)
 have h2:anN q 2<2:=ava (by omega)
 generalize anN q 2=k2 at*
 have co:=aKq k2 (by omega)
 have l2:(adX k2).length<2^33:=avd (by omega)
 have l1:(adX 1).length<2^33:=avd (by decide)
 subst hq
 by_cases e4:k8=3
 ·rw [show axz ((1+k8:Nat):Int)=false by subst e4;rfl] at cn
  refine ⟨⟨((1+k8:Nat):Int),false,adX k2,adX 1,[]⟩,⟨l2,l1⟩, ?_,by subst e4;rfl,aUH n k8 k2 w false nm (by omega) (ajS rfl) (al1 (aF5 (by omega))) c8 cm c2 co cn⟩
  subst e4
  exact aJn h2
 ·by_cases e5:k8<3
  ·rw [show axz ((1+k8:Nat):Int)=false from decide_eq_false (by omega)] at cn
   exact ⟨⟨((1+k8:Nat):Int),w.neg,adX w.n,adX w.d,[]⟩,⟨avd b3,avd b4⟩,aGT (by omega) hw b3 b4,by unfold arI;simp only;(repeat' split)<;>omega,aUJ n k8 k2 w false nm (by omega) (ajS rfl) (ajS (ayt (by omega))) c8 cm cn⟩
  ·rw [show axz ((1+k8:Nat):Int)=true from decide_eq_true (by omega)] at cn
   exact ⟨⟨((1+k8:Nat):Int),false,[],[],nm⟩,⟨by simp,by simp⟩,aFu (by omega) hp,by unfold arI;simp only;(repeat' split)<;>omega,aUI n k8 k2 w true nm (by omega) (al1 rfl) (ajS (ayt (by omega))) c8 cm cn cp⟩
def iL (l:List Int):List AV:=l.map fun a=> .int .i64 a
theorem aQ7 {a:List Int} {i:Nat} (h:i<a.length):List.drop (Int.toNat (i:Int)*1) (iL a)= [AV.int .i64 (a.getD i 0)]++iL (a.drop (i+1)):=by
 unfold iL
 rw [ad_,Nat.mul_one,← List.map_drop,List.drop_eq_getElem_cons h,List.getD_eq_getElem?_getD,List.getElem?_eq_getElem h]
 rfl
theorem wp1 {k:Nat} (h:k<2^62):AV.int .i64 (IntKind.wrap .i64 ((k:Int)+((1:Nat):Int)))= .int .i64 ((k+1:Nat):Int):=by
 have e:IntKind.wrap .i64 ((k:Int)+((1:Nat):Int))=((k+1:Nat):Int):=by rw [auI]<;>omega
 rw [e]
theorem wms {a b:Nat} (h:a≤b) (hb:b<2^62):AV.int .i64 (IntKind.wrap .i64 ((b:Int) - (a:Int)))= .int .i64 ((b - a:Nat):Int):=by
 have e:IntKind.wrap .i64 ((b:Int) - (a:Int))=((b - a:Nat):Int):=by rw [auI]<;>omega
 rw [e]
theorem lms {a b:Nat} (h:b<2^62):b - a<2^62:=Nat.lt_of_le_of_lt (Nat.sub_le _ _) h
theorem aZZ {nt:Nat} (hn:85≤nt) (xs:List Int) (nn:Bool) (k dp k24 ar:Nat) (y:Nd) (x:Int) (rx:List AV) (hk:k<2^62) (hdp:dp<2^62) (hk24:k24<4611686018427387904) (hx:(List.drop ((Int.toNat (k:Int))*1) (iL xs))= [AV.int .i64 x]++rx) (h0:lit true ((ar:Int)==((0:Nat):Int))=true) (h1:(decide (((0:Nat):Int)≤(k:Int)))=true) (h2:(decide ((k:Int)<(xs.length:Int)))=true) (h3:lit true (decide ((k:Int)<((30:Nat):Int)))=true) (h4:lit true (decide ((k:Int)<(xs.length:Int)))=true) (c0:CO 29 [.int .i64 x,.int .i64 24] (.ret (.int .i64 (k24:Int)))) (c1:CO 30 [.int .i64 (((1+k24):Nat):Int)] (.ret (.int .i64 (ar:Int)))) (c2:CO 31 [.int .i64 (IntKind.wrap .i64 (Int.tdiv x ((24:Nat):Int)))] (.ret (.agg [.int .i64 y.op,.bool y.neg,.str y.num,.str y.den,.str y.name]))):ad1 prog ap [] nt (lT 0 (adW f11)) ⟨[(0,.sl (iL xs) xs.length nn),(3,.nilS),(4,.int .i64 (dp:Int)),(5,.int .i64 (k:Int))],[],.dead,[]⟩ (.normal) ⟨[(0,.sl (iL xs) xs.length nn),(3,.ref 0 0 0 1),(4,.int .i64 (((dp+1):Nat):Int)),(5,.int .i64 (((k+1):Nat):Int))],[(0,⟨[.int .i64 y.op,.bool y.neg,.str y.num,.str y.den,.str y.name],0,false,0,5,true⟩)],.dead,[]⟩:=pN 11 [] 5 15 (.k 5 h0 (.k 1 h1 (.c h2 (.c h3 (.c h4 .nil))))) (.v 19 (.eq (wp1 hk)) (.v 43 (.eq (wp1 hdp)) (.c c2 (.c c1 (.v 26 (.eq (w1p hk24)) (.c c0 (.v 22 (.ppt hx) .nil))))))) hn
theorem aZ0 {nt:Nat} (hn:85≤nt) (xs:List Int) (nn:Bool) (k dp k24 ar:Nat) (y:Nd) (x:Int) (rx:List AV) (hk:k<2^62) (hdp:dp<2^62) (hk24:k24<4611686018427387904) (hx:(List.drop ((Int.toNat (k:Int))*1) (iL xs))= [AV.int .i64 x]++rx) (h0:lit true (decide ((dp:Int)<(ar:Int)))=true) (h1:lit false ((ar:Int)==((0:Nat):Int))=true) (h2:(decide (((0:Nat):Int)≤(k:Int)))=true) (h3:(decide ((k:Int)<(xs.length:Int)))=true) (h4:lit true (decide ((k:Int)<((30:Nat):Int)))=true) (h5:lit true (decide ((k:Int)<(xs.length:Int)))=true) (c0:CO 29 [.int .i64 x,.int .i64 24] (.ret (.int .i64 (k24:Int)))) (c1:CO 30 [.int .i64 (((1+k24):Nat):Int)] (.ret (.int .i64 (ar:Int)))) (c2:CO 31 [.int .i64 (IntKind.wrap .i64 (Int.tdiv x ((24:Nat):Int)))] (.ret (.agg [.int .i64 y.op,.bool y.neg,.str y.num,.str y.den,.str y.name]))):ad1 prog ap [] nt (lT 0 (adW f11)) ⟨[(0,.sl (iL xs) xs.length nn),(3,.nilS),(4,.int .i64 (dp:Int)),(5,.int .i64 (k:Int))],[],.dead,[]⟩ (.normal) ⟨[(0,.sl (iL xs) xs.length nn),(3,.ref 0 0 0 1),(4,.int .i64 (((dp+1):Nat):Int)),(5,.int .i64 (((k+1):Nat):Int))],[(0,⟨[.int .i64 y.op,.bool y.neg,.str y.num,.str y.den,.str y.name],0,false,0,5,true⟩)],.dead,[]⟩:=pN 11 [] 5 11 (.k 4 h0 (.c h1 (.k 1 h2 (.c h3 (.c h4 (.c h5 .nil)))))) (.v 19 (.eq (wp1 hk)) (.v 43 (.eq (wp1 hdp)) (.c c2 (.c c1 (.v 26 (.eq (w1p hk24)) (.c c0 (.v 22 (.ppt hx) .nil))))))) hn
theorem aZ1 {nt:Nat} (hn:85≤nt) (xs:List Int) (nn:Bool) (k dp:Nat) (h0:lit false (decide ((k:Int)<(xs.length:Int)))=true):ad1 prog ap [] nt (lT 0 (adW f11)) ⟨[(0,.sl (iL xs) xs.length nn),(3,.nilS),(4,.int .i64 (dp:Int)),(5,.int .i64 (k:Int))],[],.dead,[]⟩ (.exit 0) ⟨[(3,.nilS),(4,.int .i64 (dp:Int))],[],.dead,[]⟩:=pN 11 [] 2 0 (.k 1 h0 .nil) (.nil) hn
theorem aZS {nt:Nat} (hn:85≤nt) (xs:List Int) (nn:Bool) (k dp k24 ar:Nat) (y:Nd) (x:Int) (rx:List AV) (os:List Nd) (hk:k<2^62) (hdp:dp<2^62) (hk24:k24<4611686018427387904) (hx:(List.drop ((Int.toNat (k:Int))*1) (iL xs))= [AV.int .i64 x]++rx) (h0:(Nat.ble (k+1) 1099511627776)=true) (h1:(Nat.ble (k*5) (List.length (ndL os)))=true) (h2:lit true ((ar:Int)==((0:Nat):Int))=true) (h3:(decide (((0:Nat):Int)≤(k:Int)))=true) (h4:(decide ((k:Int)<(xs.length:Int)))=true) (h5:lit true (decide ((k:Int)<((30:Nat):Int)))=true) (h6:lit true (decide ((k:Int)<(xs.length:Int)))=true) (c0:CO 29 [.int .i64 x,.int .i64 24] (.ret (.int .i64 (k24:Int)))) (c1:CO 30 [.int .i64 (((1+k24):Nat):Int)] (.ret (.int .i64 (ar:Int)))) (c2:CO 31 [.int .i64 (IntKind.wrap .i64 (Int.tdiv x ((24:Nat):Int)))] (.ret (.agg [.int .i64 y.op,.bool y.neg,.str y.num,.str y.den,.str y.name]))):ad1 prog ap [] nt (lT 0 (adW f11)) ⟨[(0,.sl (iL xs) xs.length nn),(3,.ref 0 0 0 k),(4,.int .i64 (dp:Int)),(5,.int .i64 (k:Int))],[(0,⟨(ndL os),0,false,0,5,true⟩)],.dead,[]⟩ (.normal) ⟨[(0,.sl (iL xs) xs.length nn),(3,.ref 0 0 0 (k+1)),(4,.int .i64 (((dp+1):Nat):Int)),(5,.int .i64 (((k+1):Nat):Int))],[(0,⟨((List.take (k*5) (ndL os))++ [.int .i64 y.op,.bool y.neg,.str y.num,.str y.den,.str y.name]),0,false,0,5,true⟩)],.dead,[]⟩:=pN 11 [] 4 15 (.k 1 h0 (.c h1 (.k 3 h2 (.k 1 h3 (.c h4 (.c h5 (.c h6 .nil))))))) (.v 19 (.eq (wp1 hk)) (.v 43 (.eq (wp1 hdp)) (.c c2 (.c c1 (.v 26 (.eq (w1p hk24)) (.c c0 (.v 22 (.ppt hx) .nil))))))) hn
theorem aZT {nt:Nat} (hn:85≤nt) (xs:List Int) (nn:Bool) (k dp k24 ar:Nat) (y:Nd) (x:Int) (rx:List AV) (os:List Nd) (hk:k<2^62) (hdp:dp<2^62) (hk24:k24<4611686018427387904) (hx:(List.drop ((Int.toNat (k:Int))*1) (iL xs))= [AV.int .i64 x]++rx) (h0:(Nat.ble (k+1) 1099511627776)=true) (h1:(Nat.ble (k*5) (List.length (ndL os)))=true) (h2:lit true (decide ((dp:Int)<(ar:Int)))=true) (h3:lit false ((ar:Int)==((0:Nat):Int))=true) (h4:(decide (((0:Nat):Int)≤(k:Int)))=true) (h5:(decide ((k:Int)<(xs.length:Int)))=true) (h6:lit true (decide ((k:Int)<((30:Nat):Int)))=true) (h7:lit true (decide ((k:Int)<(xs.length:Int)))=true) (c0:CO 29 [.int .i64 x,.int .i64 24] (.ret (.int .i64 (k24:Int)))) (c1:CO 30 [.int .i64 (((1+k24):Nat):Int)] (.ret (.int .i64 (ar:Int)))) (c2:CO 31 [.int .i64 (IntKind.wrap .i64 (Int.tdiv x ((24:Nat):Int)))] (.ret (.agg [.int .i64 y.op,.bool y.neg,.str y.num,.str y.den,.str y.name]))):ad1 prog ap [] nt (lT 0 (adW f11)) ⟨[(0,.sl (iL xs) xs.length nn),(3,.ref 0 0 0 k),(4,.int .i64 (dp:Int)),(5,.int .i64 (k:Int))],[(0,⟨(ndL os),0,false,0,5,true⟩)],.dead,[]⟩ (.normal) ⟨[(0,.sl (iL xs) xs.length nn),(3,.ref 0 0 0 (k+1)),(4,.int .i64 (((dp+1):Nat):Int)),(5,.int .i64 (((k+1):Nat):Int))],[(0,⟨((List.take (k*5) (ndL os))++ [.int .i64 y.op,.bool y.neg,.str y.num,.str y.den,.str y.name]),0,false,0,5,true⟩)],.dead,[]⟩:=pN 11 [] 4 11 (.k 1 h0 (.c h1 (.k 2 h2 (.c h3 (.k 1 h4 (.c h5 (.c h6 (.c h7 .nil)))))))) (.v 19 (.eq (wp1 hk)) (.v 43 (.eq (wp1 hdp)) (.c c2 (.c c1 (.v 26 (.eq (w1p hk24)) (.c c0 (.v 22 (.ppt hx) .nil))))))) hn
theorem aZU {nt:Nat} (hn:85≤nt) (xs:List Int) (nn:Bool) (k dp k24 ar:Nat) (nam ste:Bool) (nm:List UInt8) (x:Int) (rx:List AV) (os:List Nd) (hk:k<2^62) (hdp:dp<2^62) (hk24:k24<4611686018427387904) (har:ar≤dp) (hx:(List.drop ((Int.toNat (k:Int))*1) (iL xs))= [AV.int .i64 x]++rx) (h0:(Nat.ble (k+1) 1099511627776)=true) (h1:(Nat.ble (k*5) (List.length (ndL os)))=true) (h2:lit false ste=true) (h3:lit true nam=true) (h4:lit false (decide ((dp:Int)<(ar:Int)))=true) (h5:lit false ((ar:Int)==((0:Nat):Int))=true) (h6:(decide (((0:Nat):Int)≤(k:Int)))=true) (h7:(decide ((k:Int)<(xs.length:Int)))=true) (h8:lit true (decide ((k:Int)<((30:Nat):Int)))=true) (h9:lit true (decide ((k:Int)<(xs.length:Int)))=true) (c0:CO 29 [.int .i64 x,.int .i64 24] (.ret (.int .i64 (k24:Int)))) (c1:CO 30 [.int .i64 (((1+k24):Nat):Int)] (.ret (.int .i64 (ar:Int)))) (c2:CO 32 [.int .i64 (((1+k24):Nat):Int)] (.ret (.bool nam))) (c3:CO 33 [.int .i64 (IntKind.wrap .i64 (Int.tdiv x ((24:Nat):Int)))] (.ret (.str nm))) (c4:CO 34 [.int .i64 (((1+k24):Nat):Int)] (.ret (.bool ste))):ad1 prog ap [] nt (lT 0 (adW f11)) ⟨[(0,.sl (iL xs) xs.length nn),(3,.ref 0 0 0 k),(4,.int .i64 (dp:Int)),(5,.int .i64 (k:Int))],[(0,⟨(ndL os),0,false,0,5,true⟩)],.dead,[]⟩ (.normal) ⟨[(0,.sl (iL xs) xs.length nn),(3,.ref 0 0 0 (k+1)),(4,.int .i64 (((dp - ar+1):Nat):Int)),(5,.int .i64 (((k+1):Nat):Int))],[(0,⟨((List.take (k*5) (ndL os))++ [.int .i64 (((1+k24):Nat):Int),.bool false,.str [],.str [],.str nm]),0,false,0,5,true⟩)],.dead,[]⟩:=pN 11 [] 6 19 (.k 1 h0 (.c h1 (.k 6 h2 (.k 2 h3 (.k 1 h4 (.c h5 (.k 1 h6 (.c h7 (.c h8 (.c h9 .nil)))))))))) (.v 19 (.eq (wp1 hk)) (.v 68 (.eq (wp1 (lms (a:=ar) hdp))) (.v 67 (.eq (wms har hdp)) (.c c4 (.c c3 (.c c2 (.c c1 (.v 26 (.eq (w1p hk24)) (.c c0 (.v 22 (.ppt hx) .nil)))))))))) hn
theorem aZV {nt:Nat} (hn:85≤nt) (xs:List Int) (nn:Bool) (k dp k24 ar:Nat) (nam ste:Bool) (w:RQ) (x:Int) (rx:List AV) (os:List Nd) (hk:k<2^62) (hdp:dp<2^62) (hk24:k24<4611686018427387904) (har:ar≤dp) (hx:(List.drop ((Int.toNat (k:Int))*1) (iL xs))= [AV.int .i64 x]++rx) (h0:(Nat.ble (k+1) 1099511627776)=true) (h1:(Nat.ble (k*5) (List.length (ndL os)))=true) (h2:lit true ste=true) (h3:lit false nam=true) (h4:lit false (decide ((dp:Int)<(ar:Int)))=true) (h5:lit false ((ar:Int)==((0:Nat):Int))=true) (h6:(decide (((0:Nat):Int)≤(k:Int)))=true) (h7:(decide ((k:Int)<(xs.length:Int)))=true) (h8:lit true (decide ((k:Int)<((30:Nat):Int)))=true) (h9:lit true (decide ((k:Int)<(xs.length:Int)))=true) (c0:CO 29 [.int .i64 x,.int .i64 24] (.ret (.int .i64 (k24:Int)))) (c1:CO 30 [.int .i64 (((1+k24):Nat):Int)] (.ret (.int .i64 (ar:Int)))) (c2:CO 32 [.int .i64 (((1+k24):Nat):Int)] (.ret (.bool nam))) (c3:CO 34 [.int .i64 (((1+k24):Nat):Int)] (.ret (.bool ste))) (c4:CO 35 [.agg [.int .i64 (IntKind.wrap .i64 (Int.tdiv x ((24:Nat):Int))),.int .i64 (IntKind.wrap .i64 (Int.tdiv x ((48:Nat):Int))),.int .i64 3]] (.ret (.agg [.bool w.neg,.str (adX w.n),.str (adX w.d)]))):ad1 prog ap [] nt (lT 0 (adW f11)) ⟨[(0,.sl (iL xs) xs.length nn),(3,.ref 0 0 0 k),(4,.int .i64 (dp:Int)),(5,.int .i64 (k:Int))],[(0,⟨(ndL os),0,false,0,5,true⟩)],.dead,[]⟩ (.normal) ⟨[(0,.sl (iL xs) xs.length nn),(3,.ref 0 0 0 (k+1)),(4,.int .i64 (((dp - ar+1):Nat):Int)),(5,.int .i64 (((k+1):Nat):Int))],[(0,⟨((List.take (k*5) (ndL os))++ [.int .i64 (((1+k24):Nat):Int),.bool w.neg,.str (adX w.n),.str (adX w.d),.str []]),0,false,0,5,true⟩)],.dead,[]⟩:=pN 11 [] 6 35 (.k 1 h0 (.c h1 (.k 9 h2 (.c h3 (.k 1 h4 (.c h5 (.k 1 h6 (.c h7 (.c h8 (.c h9 .nil)))))))))) (.v 19 (.eq (wp1 hk)) (.v 68 (.eq (wp1 (lms (a:=ar) hdp))) (.v 67 (.eq (wms har hdp)) (.c c4 (.c c3 (.c c2 (.c c1 (.v 26 (.eq (w1p hk24)) (.c c0 (.v 22 (.ppt hx) .nil)))))))))) hn
theorem aZW {nt:Nat} (hn:85≤nt) (xs:List Int) (nn:Bool) (k dp k24 ar:Nat) (nam ste:Bool) (x:Int) (rx:List AV) (os:List Nd) (hk:k<2^62) (hdp:dp<2^62) (hk24:k24<4611686018427387904) (har:ar≤dp) (hx:(List.drop ((Int.toNat (k:Int))*1) (iL xs))= [AV.int .i64 x]++rx) (h0:(Nat.ble (k+1) 1099511627776)=true) (h1:(Nat.ble (k*5) (List.length (ndL os)))=true) (h2:lit false ste=true) (h3:lit false nam=true) (h4:lit false (decide ((dp:Int)<(ar:Int)))=true) (h5:lit false ((ar:Int)==((0:Nat):Int))=true) (h6:(decide (((0:Nat):Int)≤(k:Int)))=true) (h7:(decide ((k:Int)<(xs.length:Int)))=true) (h8:lit true (decide ((k:Int)<((30:Nat):Int)))=true) (h9:lit true (decide ((k:Int)<(xs.length:Int)))=true) (c0:CO 29 [.int .i64 x,.int .i64 24] (.ret (.int .i64 (k24:Int)))) (c1:CO 30 [.int .i64 (((1+k24):Nat):Int)] (.ret (.int .i64 (ar:Int)))) (c2:CO 32 [.int .i64 (((1+k24):Nat):Int)] (.ret (.bool nam))) (c3:CO 34 [.int .i64 (((1+k24):Nat):Int)] (.ret (.bool ste))):ad1 prog ap [] nt (lT 0 (adW f11)) ⟨[(0,.sl (iL xs) xs.length nn),(3,.ref 0 0 0 k),(4,.int .i64 (dp:Int)),(5,.int .i64 (k:Int))],[(0,⟨(ndL os),0,false,0,5,true⟩)],.dead,[]⟩ (.normal) ⟨[(0,.sl (iL xs) xs.length nn),(3,.ref 0 0 0 (k+1)),(4,.int .i64 (((dp - ar+1):Nat):Int)),(5,.int .i64 (((k+1):Nat):Int))],[(0,⟨((List.take (k*5) (ndL os))++ [.int .i64 (((1+k24):Nat):Int),.bool false,.str [],.str [],.str []]),0,false,0,5,true⟩)],.dead,[]⟩:=pN 11 [] 6 3 (.k 1 h0 (.c h1 (.k 6 h2 (.c h3 (.k 1 h4 (.c h5 (.k 1 h6 (.c h7 (.c h8 (.c h9 .nil)))))))))) (.v 19 (.eq (wp1 hk)) (.v 68 (.eq (wp1 (lms (a:=ar) hdp))) (.v 67 (.eq (wms har hdp)) (.c c3 (.c c2 (.c c1 (.v 26 (.eq (w1p hk24)) (.c c0 (.v 22 (.ppt hx) .nil))))))))) hn
theorem aZX {nt:Nat} (hn:85≤nt) (xs:List Int) (nn:Bool) (k dp:Nat) (os:List Nd) (h0:lit false (decide ((k:Int)<((30:Nat):Int)))=true) (h1:lit true (decide ((k:Int)<(xs.length:Int)))=true):ad1 prog ap [] nt (lT 0 (adW f11)) ⟨[(0,.sl (iL xs) xs.length nn),(3,.ref 0 0 0 k),(4,.int .i64 (dp:Int)),(5,.int .i64 (k:Int))],[(0,⟨(ndL os),0,false,0,5,true⟩)],.dead,[]⟩ (.exit 0) ⟨[(3,.ref 0 0 0 k),(4,.int .i64 (dp:Int))],[(0,⟨(ndL os),0,false,0,5,true⟩)],.dead,[]⟩:=pN 11 [] 2 1 (.c h0 (.c h1 .nil)) (.nil) hn
theorem aZY {nt:Nat} (hn:85≤nt) (xs:List Int) (nn:Bool) (k dp:Nat) (os:List Nd) (h0:lit false (decide ((k:Int)<(xs.length:Int)))=true):ad1 prog ap [] nt (lT 0 (adW f11)) ⟨[(0,.sl (iL xs) xs.length nn),(3,.ref 0 0 0 k),(4,.int .i64 (dp:Int)),(5,.int .i64 (k:Int))],[(0,⟨(ndL os),0,false,0,5,true⟩)],.dead,[]⟩ (.exit 0) ⟨[(3,.ref 0 0 0 k),(4,.int .i64 (dp:Int))],[(0,⟨(ndL os),0,false,0,5,true⟩)],.dead,[]⟩:=pN 11 [] 2 0 (.k 1 h0 .nil) (.nil) hn
theorem aIn {k n:Nat} (h:n≤k):decide ((k:Int)<(n:Int))=false:=decide_eq_false (by omega)
def apN (os:List Nd) (k:Nat):AV:=match os with| []=> .nilS|_::_=> .ref 0 0 0 k
def hpN (os:List Nd):Hp:=match os with| []=> []|a::r=> [(0,⟨ndL (a::r),0,false,0,5,true⟩)]
def aUM (xs:List Int) (nn:Bool) (p:Nat × List Nd × Nat):St:=⟨[(0,.sl (iL xs) xs.length nn),(3,apN p.2.1 p.1),(4,.int .i64 (p.2.2:Int)),(5,.int .i64 (p.1:Int))],hpN p.2.1,.dead,[]⟩
def aZP (p:Nat × List Nd × Nat):St:=⟨[(3,apN p.2.1 p.1),(4,.int .i64 (p.2.2:Int))],hpN p.2.1,.dead,[]⟩
structure MkI (os:List Nd) (dp:Nat):Prop where
 sm:∀ x ∈ os,x.sm
 ck:au9 os 0= .inl dp
theorem aIf {y:Nd} (hw:aeF y=0):∀ (os:List Nd) (d e:Nat),au9 os d= .inl e→arI y.op≤e→au9 (os++ [y]) d= .inl (e - arI y.op+1)
 | [],d,e,h,ha=>by
  simp only [au9,Sum.inl.injEq] at h
  subst h
  simp only [List.nil_append,au9,if_pos hw]
  rw [if_neg (by omega)]
 | x::r,d,e,h,ha=>by
  simp only [List.cons_append,au9] at h ⊢
  split at h
  ·rename_i hx
   rw [if_pos hx]
   split at h
   ·cases h
   ·rename_i hd
    rw [if_neg hd]
    exact aIf hw r _ e h ha
  ·cases h
theorem aHv:∀ (os:List Nd) (d e:Nat),au9 os d= .inl e→e≤d+os.length∧(os ≠ []→1≤e)
 | [],d,e,h=>by
  simp only [au9,Sum.inl.injEq] at h
  subst h
  exact ⟨by simp,by simp⟩
 | x::r,d,e,h=>by
  simp only [au9] at h
  split at h
  ·split at h
   ·cases h
   ·obtain ⟨h1,h2⟩:=aHv r _ e h
    refine ⟨by simp only [List.length_cons];omega,fun _=> ?_⟩
    cases r with
    |nil=>simp only [au9,Sum.inl.injEq] at h;omega
    |cons _ _=>exact h2 (by simp)
  ·cases h
theorem MkI.snoc {os:List Nd} {dp:Nat} (h:MkI os dp) {y:Nd} (hs:y.sm) (hw:aeF y=0) (ha:arI y.op≤dp):MkI (os++ [y]) (dp - arI y.op+1):=by
 refine ⟨fun x hx=> ?_,aIf hw os 0 dp h.ck ha⟩
 rcases List.mem_append.1 hx with hx|hx
 ·exact h.sm x hx
 ·rw [List.mem_singleton] at hx;subst hx;exact hs
theorem aAE {os:List Nd} {k:Nat} (h:os.length=k) (y:Nd):List.take (k*5) (ndL os)++ [AV.int .i64 y.op,.bool y.neg,.str y.num,.str y.den,.str y.name]=ndL (os++ [y]):=by
 rw [List.take_of_length_le (by rw [au3];omega),axM]
 rfl
theorem aOJ (xs:List Int) (nn:Bool) (os:List Nd) (k dp:Nat) (hI:MkI os dp) (hk:os.length=k) (h30:k<30) (hkl:k<xs.length):
  ∃ (y:Nd) (dp':Nat),MkI (os++ [y]) dp'∧∀ nt,85≤nt→ad1 prog ap [] nt (lT 0 (adW f11)) (aUM xs nn (k,os,dp)) .normal (aUM xs nn (k+1,os++ [y],dp')):=by
 obtain ⟨hdl,_⟩:=aHv os 0 dp hI.ck
 have hdp:dp<2^62:=by omega
 have hx:=aQ7 hkl
 generalize xs.getD k 0=x at hx
 have c29:=au5 x 24 (by omega) (by omega)
 have h24:anN x 24<24:=ava (by omega)
 have c30:=aAu ((1+anN x 24:Nat):Int)
 have c32:=aLg ((1+anN x 24:Nat):Int)
 have c34:=aSt ((1+anN x 24:Nat):Int)
 obtain ⟨y,hys,hyw,hya,cy⟩:=aRl (IntKind.wrap .i64 (Int.tdiv x ((24:Nat):Int)))
 have hleaf:MkI (os++ [y]) (dp+1):=by
  have:=hI.snoc hys hyw (by omega)
  rwa [hya,Nat.sub_zero] at this
 by_cases e0:arI ((1+anN x 24:Nat):Int)=0
 ·refine ⟨y,dp+1,hleaf,fun nt hn=> ?_⟩
  cases os with
  |nil=>
   simp only [List.length_nil] at hk
   subst hk
   exact aZZ hn xs nn 0 dp (anN x 24) (arI ((1+anN x 24:Nat):Int)) y x _ (by omega) hdp (by omega) hx (al1 (aF5 e0)) (nnW 0) (aw4 hkl) (al1 (aw4 h30)) (al1 (aw4 hkl)) c29 c30 cy
  |cons a r=>
   have h:=aAE hk y
   have h2:=aZS hn xs nn k dp (anN x 24) (arI ((1+anN x 24:Nat):Int)) y x _ (a::r) (by omega) hdp (by omega) hx (Nat.ble_eq_true_of_le (by omega)) (Nat.ble_eq_true_of_le (by rw [au3];omega)) (al1 (aF5 e0)) (nnW k) (aw4 hkl) (al1 (aw4 h30)) (al1 (aw4 hkl)) c29 c30 cy
   rw [h] at h2
   exact h2
 ·by_cases e1:dp<arI ((1+anN x 24:Nat):Int)
  ·refine ⟨y,dp+1,hleaf,fun nt hn=> ?_⟩
   cases os with
   |nil=>
    simp only [List.length_nil] at hk
    subst hk
    exact aZ0 hn xs nn 0 dp (anN x 24) (arI ((1+anN x 24:Nat):Int)) y x _ (by omega) hdp (by omega) hx (al1 (aw4 e1)) (ajS (ayt e0)) (nnW 0) (aw4 hkl) (al1 (aw4 h30)) (al1 (aw4 hkl)) c29 c30 cy
   |cons a r=>
    have h:=aAE hk y
    have h2:=aZT hn xs nn k dp (anN x 24) (arI ((1+anN x 24:Nat):Int)) y x _ (a::r) (by omega) hdp (by omega) hx (Nat.ble_eq_true_of_le (by omega)) (Nat.ble_eq_true_of_le (by rw [au3];omega)) (al1 (aw4 e1)) (ajS (ayt e0)) (nnW k) (aw4 hkl) (al1 (aw4 h30)) (al1 (aw4 hkl)) c29 c30 cy
    rw [h] at h2
    exact h2
  ·have e1:arI ((1+anN x 24:Nat):Int)≤dp:=by omega
   cases os with
   |nil=>
    exfalso
    have:=hI.ck
    simp only [au9,Sum.inl.injEq] at this
    omega
   | cons a r=>
    have hk:=hk
    rcases tf (axz ((1+anN x 24:Nat):Int)) with e2|e2
    ·have cp:=aLp (IntKind.wrap .i64 (Int.tdiv x ((24:Nat):Int)))
     have hp:=aGB (anN (IntKind.wrap .i64 (Int.tdiv x ((24:Nat):Int))) 6) (ava (by omega))
     generalize aLo (anN (IntKind.wrap .i64 (Int.tdiv x ((24:Nat):Int))) 6)=nm at*
     have e2':=of_decide_eq_true e2
     have e3:azb ((1+anN x 24:Nat):Int)=false:=decide_eq_false (by omega)
     refine ⟨⟨((1+anN x 24:Nat):Int),false,[],[],nm⟩,_,hI.snoc ⟨by simp,by simp⟩ (aFu (by omega) hp) e1,fun nt hn=> ?_⟩
     have h:=aAE hk ⟨((1+anN x 24:Nat):Int),false,[],[],nm⟩
     have h2:=aZU hn xs nn k dp (anN x 24) (arI ((1+anN x 24:Nat):Int)) (axz ((1+anN x 24:Nat):Int)) (azb ((1+anN x 24:Nat):Int)) nm x _ (a::r) (by omega) hdp (by omega) (by omega) hx (Nat.ble_eq_true_of_le (by omega)) (Nat.ble_eq_true_of_le (by rw [au3];omega)) (ajS e3) (al1 e2) (ajS (aIn e1)) (ajS (ayt e0)) (nnW k) (aw4 hkl) (al1 (aw4 h30)) (al1 (aw4 hkl)) c29 c30 c32 cp c34
     rw [h] at h2
     exact h2
    ·rcases tf (azb ((1+anN x 24:Nat):Int)) with e3|e3
     ·obtain ⟨w,w1,w2,w3,w4,w5,cw⟩:=aPB (IntKind.wrap .i64 (Int.tdiv x ((24:Nat):Int))) (IntKind.wrap .i64 (Int.tdiv x ((48:Nat):Int)))
      have e3':=of_decide_eq_true e3
      refine ⟨⟨((1+anN x 24:Nat):Int),w.neg,adX w.n,adX w.d,[]⟩,_,hI.snoc ⟨avd w4,avd w5⟩ (aFw (by omega) w1 w2 w3 w4 w5) e1,fun nt hn=> ?_⟩
      have h:=aAE hk ⟨((1+anN x 24:Nat):Int),w.neg,adX w.n,adX w.d,[]⟩
      have h2:=aZV hn xs nn k dp (anN x 24) (arI ((1+anN x 24:Nat):Int)) (axz ((1+anN x 24:Nat):Int)) (azb ((1+anN x 24:Nat):Int)) w x _ (a::r) (by omega) hdp (by omega) (by omega) hx (Nat.ble_eq_true_of_le (by omega)) (Nat.ble_eq_true_of_le (by rw [au3];omega)) (al1 e3) (ajS e2) (ajS (aIn e1)) (ajS (ayt e0)) (nnW k) (aw4 hkl) (al1 (aw4 h30)) (al1 (aw4 hkl)) c29 c30 c32 c34 cw
      rw [h] at h2
      exact h2
     ·have e2':=of_decide_eq_false e2
      have e3':=of_decide_eq_false e3
      have hop:9≤((1+anN x 24:Nat):Int)∧((1+anN x 24:Nat):Int)≤20:=by
       have:¬ ((1+anN x 24:Nat):Int)<9:=by
        intro hlt
        apply e0
        unfold arI
        rw [if_neg (by omega),if_neg (by omega),if_neg (by omega)]
       omega
      refine ⟨⟨((1+anN x 24:Nat):Int),false,[],[],[]⟩,_,hI.snoc ⟨by simp,by simp⟩ (aFv hop) e1,fun nt hn=> ?_⟩
      have h:=aAE hk ⟨((1+anN x 24:Nat):Int),false,[],[],[]⟩
      have h2:=aZW hn xs nn k dp (anN x 24) (arI ((1+anN x 24:Nat):Int)) (axz ((1+anN x 24:Nat):Int)) (azb ((1+anN x 24:Nat):Int)) x _ (a::r) (by omega) hdp (by omega) (by omega) hx (Nat.ble_eq_true_of_le (by omega)) (Nat.ble_eq_true_of_le (by rw [au3];omega)) (ajS e3) (ajS e2) (ajS (aIn e1)) (ajS (ayt e0)) (nnW k) (aw4 hkl) (al1 (aw4 h30)) (al1 (aw4 hkl)) c29 c30 c32 c34
      rw [h] at h2
      exact h2
theorem aRD (xs:List Int) (nn:Bool):∀ (d k:Nat) (os:List Nd) (dp:Nat),k+d=min xs.length 30→os.length=k→MkI os dp→
  ∃ (os':List Nd) (dp':Nat),MkI os' dp'∧os'.length=min xs.length 30∧∀ nt,85≤nt→aeb prog ap [] nt (lT 0 (adW f11)) (fun _=> .exit 0) (aUM xs nn) aZP (k,os,dp) (os'.length,os',dp'):=by
 intro d
 induction d with
 | zero=>
  intro k os dp hd hk hI
  refine ⟨os,dp,hI,by omega,fun nt hn=> ?_⟩
  rw [hk]
  refine .done ?_
  obtain ⟨hdl,_⟩:=aHv os 0 dp hI.ck
  have hdp:dp<2^62:=by omega
  by_cases hkl:xs.length≤k
  ·cases os with
   |nil=>exact aZ1 hn xs nn k dp (ajS (aIn hkl))
   |cons a r=>exact aZY hn xs nn k dp (a::r) (ajS (aIn hkl))
  ·have h30:30≤k:=by omega
   have hkl:k<xs.length:=by omega
   cases os with
   |nil=>simp only [List.length_nil] at hk;omega
   |cons a r=>exact aZX hn xs nn k dp (a::r) (ajS (aIn h30)) (al1 (aw4 hkl))
 |succ d ih=>
  intro k os dp hd hk hI
  obtain ⟨y,dp1,h1,h2⟩:=aOJ xs nn os k dp hI hk (by omega) (by omega)
  obtain ⟨os',dp',h3,h4,h5⟩:=ih (k+1) (os++ [y]) dp1 (by omega) (by simp [hk]) h1
  exact ⟨os',dp',h3,h4,fun nt hn=> .next (h2 nt hn) (h5 nt hn)⟩
theorem a2y {nt:Nat} (hn:85≤nt) (k dp:Nat) (os:List Nd) (hdp:dp<2^62) (h1d:1≤dp) (h0:(Nat.ble (k+1) 1099511627776)=true) (h1:(Nat.ble (k*5) (List.length (ndL os)))=true) (h2:lit true (decide (((1:Nat):Int)<(dp:Int)))=true):ad1 prog ap [] nt (lT 2 (adW f11)) ⟨[(3,.ref 0 0 0 k),(4,.int .i64 (dp:Int))],[(0,⟨(ndL os),0,false,0,5,true⟩)],.dead,[]⟩ (.normal) ⟨[(3,.ref 0 0 0 (k+1)),(4,.int .i64 (((dp - 1):Nat):Int))],[(0,⟨((List.take (k*5) (ndL os))++ [.int .i64 9,.bool false,.str [],.str [],.str []]),0,false,0,5,true⟩)],.dead,[]⟩:=pN 11 [] 1 1 (.k 1 h0 (.c h1 (.k 1 h2 .nil))) (.v 83 (.eq (wms h1d hdp)) .nil) hn
theorem a2z {nt:Nat} (hn:85≤nt) (k dp:Nat) (os:List Nd) (h0:lit false (decide (((1:Nat):Int)<(dp:Int)))=true):ad1 prog ap [] nt (lT 2 (adW f11)) ⟨[(3,.ref 0 0 0 k),(4,.int .i64 (dp:Int))],[(0,⟨(ndL os),0,false,0,5,true⟩)],.dead,[]⟩ (.exit 2) ⟨[(3,.ref 0 0 0 k)],[(0,⟨(ndL os),0,false,0,5,true⟩)],.dead,[]⟩:=pN 11 [] 1 0 (.c h0 .nil) (.nil) hn
theorem aZO (xs:List Int) (nn:Bool) (l0:anO prog ap [] 85 (.block 0 (.loop (lT 0 (adW f11)))) ⟨[(0,.sl (iL xs) xs.length nn),(2,.nilS),(3,.nilS),(4,.int .i64 0),(5,.int .i64 0),(6,.dead),(7,.dead),(8,.dead),(9,.dead),(17,.dead),(35,.dead),(47,.dead),(53,.dead),(70,.dead),(77,.dead)],[],.dead,[]⟩ (.normal) ⟨[(3,.nilS),(4,.int .i64 0)],[],.dead,[]⟩) (c0:CO 36 [.int .i64 1] (.ret (.agg [.bool false,.str (adX 1),.str (adX 1)]))):CO 11 [.sl (iL xs) xs.length nn] (.ret (.own [.int .i64 3,.bool false,.str (adX 1),.str (adX 1),.str []] 1 5)):=pK [0] 3 1 (.n 5 .nil) (.c c0 (.l l0 .nil))
theorem aZN (xs:List Int) (nn:Bool) (k dp k2:Nat) (os es:List Nd) (h0:((dp:Int)==((0:Nat):Int))=false) (l0:anO prog ap [] 85 (.block 0 (.loop (lT 0 (adW f11)))) ⟨[(0,.sl (iL xs) xs.length nn),(2,.nilS),(3,.nilS),(4,.int .i64 0),(5,.int .i64 0),(6,.dead),(7,.dead),(8,.dead),(9,.dead),(17,.dead),(35,.dead),(47,.dead),(53,.dead),(70,.dead),(77,.dead)],[],.dead,[]⟩ (.normal) ⟨[(3,.ref 0 0 0 k),(4,.int .i64 (dp:Int))],[(0,⟨(ndL os),0,false,0,5,true⟩)],.dead,[]⟩) (l1:anO prog ap [] 85 (.block 2 (.loop (lT 2 (adW f11)))) ⟨[(0,.dead),(2,.dead),(3,.ref 0 0 0 k),(4,.int .i64 (dp:Int)),(5,.dead),(6,.dead),(7,.dead),(8,.dead),(9,.dead),(17,.dead),(35,.dead),(47,.dead),(53,.dead),(70,.bool ((dp:Int)==((0:Nat):Int))),(77,.dead)],[(0,⟨(ndL os),0,false,0,5,true⟩)],.dead,[]⟩ (.normal) ⟨[(3,.ref 0 0 0 k2)],[(0,⟨(ndL es),0,false,0,5,true⟩)],.dead,[]⟩):CO 11 [.sl (iL xs) xs.length nn] (.ret (.own (List.take (k2*5) (ndL es)) k2 5)):=pK [0,2] 1 0 (.c (ajS h0) .nil) (.l l1 (.l l0 .nil))
def a2x (p:Nat × List Nd × Nat):St:=⟨[(3,.ref 0 0 0 p.1),(4,.int .i64 (p.2.2:Int))],[(0,⟨ndL p.2.1,0,false,0,5,true⟩)],.dead,[]⟩
def aWn (p:Nat × List Nd):St:=⟨[(3,.ref 0 0 0 p.1)],[(0,⟨ndL p.2,0,false,0,5,true⟩)],.dead,[]⟩
def ax0:Nd:=⟨9,false,[],[],[]⟩
theorem aQb {nt:Nat} (hn:85≤nt):∀ (j k:Nat) (os:List Nd),os.length=k→k+j<2^40→
  aeb prog ap [] nt (lT 2 (adW f11)) (fun _=> .exit 2) a2x aWn (k,os,j+1) (k+j,os++List.replicate j ax0):=by
 intro j
 induction j with
 |zero=>
  intro k os hk hj
  rw [List.replicate_zero,List.append_nil]
  exact .done (a2z hn k 1 os (ajS (aIn (Nat.le_refl 1))))
 |succ j ih=>
  intro k os hk hj
  have h:=ih (k+1) (os++ [ax0]) (by simp [hk]) (by omega)
  rw [show k+1+j=k+(j+1) by omega,List.append_assoc,show [ax0]++List.replicate j ax0=List.replicate (j+1) ax0 from rfl] at h
  refine .next ?_ h
  have h2:=a2y hn k (j+1+1) os (by omega) (by omega) (Nat.ble_eq_true_of_le (by omega)) (Nat.ble_eq_true_of_le (by rw [au3];omega)) (al1 (aw4 (by omega)))
  rw [show List.take (k*5) (ndL os)++ [AV.int .i64 9,.bool false,.str [],.str [],.str []]=ndL (os++ [ax0]) from aAE hk ax0,show j+1+1 - 1=j+1 from rfl] at h2
  exact h2
theorem MkI.adds:∀ (j:Nat),∀ {os:List Nd},MkI os (j+1)→MkI (os++List.replicate j ax0) 1
 |0,os,h=>by rw [List.replicate_zero,List.append_nil];exact h
 |j+1,os,h=>by
  have h1:=h.snoc (y:=ax0) ⟨by simp [ax0],by simp [ax0]⟩ (aFv ⟨by decide,by decide⟩) (by show 2≤_;omega)
  have h2:=MkI.adds j h1
  rw [List.append_assoc] at h2
  exact h2
def ifN (e:List Nd):Nat:=e.countP (fun x=>x.op==15)
theorem aEq (x:Nd) (r:List Nd):ifN (x::r)=ifN r+(if x.op=15 then 1 else 0):=by
 unfold ifN
 rw [List.countP_cons]
 simp only [beq_iff_eq]
theorem aOl:∀ (r:List Nd) (d e:Nat),au9 r d= .inl e→e+ifN r≤d+r.length
 | [],d,e,h=>by
  simp only [au9,Sum.inl.injEq] at h
  subst h
  simp [ifN]
 | x ::r,d,e,h=>by
  simp only [au9] at h
  split at h
  ·split at h
   ·cases h
   ·have h1:=aOl r _ e h
    rw [aEq,List.length_cons]
    by_cases h5:x.op=15
    ·have:arI x.op=3:=by rw [h5];rfl
     rw [if_pos h5]
     omega
    ·rw [if_neg h5]
     omega
  ·cases h
theorem aMo (xs:List Int) (nn:Bool):∃ e:List Nd,e.length+ifN e≤2*min xs.length 30+1∧e ≠ []∧e.length<60∧an_ e=0∧(∀ x ∈ e,x.sm)∧CO 11 [.sl (iL xs) xs.length nn] (.ret (.own (ndL e) e.length 5)):=by
 obtain ⟨os,dp,hI,hl,hL⟩:=aRD xs nn (min xs.length 30) 0 [] 0 (by omega) rfl ⟨by simp,rfl⟩
 obtain ⟨hd,hd1⟩:=aHv os 0 dp hI.ck
 rcases Nat.eq_zero_or_pos os.length with h0|hp
 ·have:os= []:=List.length_eq_zero_iff.1 h0
  subst this
  have hd0:dp=0:=by simpa using hd
  subst hd0
  have h:=aZO xs nn (aeb.blk hL (by simp) rfl (anW.of ⟨rfl,rfl,rfl,rfl,trivial⟩) (anW.of ⟨rfl,rfl,trivial⟩)) (aKq 1 (by omega))
  refine ⟨[⟨3,false,adX 1,adX 1,[]⟩],by rw [aEq,if_neg (by decide)];simp [ifN],by simp,by simp, ?_, ?_,h⟩
  ·have hw:aeF ⟨3,false,adX 1,adX 1,[]⟩=0:=aGT (w:=⟨false,1,1⟩) (.inr (.inr rfl)) ⟨by decide,by decide,by simp⟩ (by decide) (by decide)
   unfold an_
   simp only [au9,hw]
   rfl
  ·intro x hx
   rw [List.mem_singleton] at hx
   subst hx
   exact ⟨avd (by decide),avd (by decide)⟩
 ·have hne:os ≠ []:=fun h=>by subst h;simp at hp
  have hd1:=hd1 hne
  obtain ⟨j,rfl⟩:∃ j,dp=j+1:=⟨dp - 1,by omega⟩
  have hA:=MkI.adds j hI
  have hel:(os++List.replicate j ax0).length=os.length+j:=by simp
  have h:=aZN xs nn os.length (j+1) (os.length+j) os (os++List.replicate j ax0) (ayt (by omega))
   (aeb.blk hL (by simp) rfl (anW.of ⟨rfl,rfl,rfl,rfl,trivial⟩) (by
    cases os with
    |nil=>exact absurd rfl hne
    |cons a r=>exact anW.of ⟨rfl,rfl,trivial⟩))
   (aeb.blk (fun nt hn=>aQb hn j os.length os rfl (by omega)) (by simp) rfl (anW.of ⟨rfl,rfl,trivial⟩) (anW.of ⟨rfl,trivial⟩))
  rw [List.take_of_length_le (by rw [au3,hel];omega)] at h
  refine ⟨os++List.replicate j ax0, ?_,by simp [hne],by rw [hel];omega, ?_,hA.sm,by rw [hel];exact h⟩
  ·have h1:=aOl _ 0 _ hA.ck
   have h2:=aOl _ 0 _ hI.ck
   have h3:ifN (os++List.replicate j ax0)=ifN os:=by
    unfold ifN
    rw [List.countP_append,List.countP_replicate]
    rfl
   rw [hel,h3]
   omega
  unfold an_
  rw [if_neg (by rw [hel];omega),hA.ck]
  rfl
theorem nm0:CO 29 [.int .i64 0,.int .i64 6] (.ret (.int .i64 0)):=cK (.nil)
theorem nm1:CO 33 [.int .i64 0] (.ret (.str [97])):=cK (.c nm0 .nil)
theorem nm2:CO 29 [.int .i64 1,.int .i64 6] (.ret (.int .i64 1)):=cK (.nil)
theorem nm3:CO 33 [.int .i64 1] (.ret (.str [98])):=cK (.c nm2 .nil)
theorem nm4:CO 29 [.int .i64 2,.int .i64 6] (.ret (.int .i64 2)):=cK (.nil)
theorem nm5:CO 33 [.int .i64 2] (.ret (.str [116,97,120])):=cK (.c nm4 .nil)
theorem nm6:CO 29 [.int .i64 3,.int .i64 6] (.ret (.int .i64 3)):=cK (.nil)
theorem nm7:CO 33 [.int .i64 3] (.ret (.str [119,97,103,101])):=cK (.c nm6 .nil)
theorem nm8:CO 29 [.int .i64 4,.int .i64 6] (.ret (.int .i64 4)):=cK (.nil)
theorem nm9:CO 33 [.int .i64 4] (.ret (.str [120,95,49])):=cK (.c nm8 .nil)
theorem a9h:CO 29 [.int .i64 5,.int .i64 6] (.ret (.int .i64 5)):=cK (.nil)
theorem a9i:CO 33 [.int .i64 5] (.ret (.str [97,50,51,52,53,54,55,56,57,48,49,50,51,52,53,54,55,56,57,48])):=cK (.c a9h .nil)
theorem a9j:CO 13 [] (.ret (.own [.str [111,116,104,101,114],.str [97],.str [98],.str [116,97,120],.str [119,97,103,101],.str [120,95,49],.str [97,50,51,52,53,54,55,56,57,48,49,50,51,52,53,54,55,56,57,48]] 7 1)):=cK (.c a9i (.c nm9 (.c nm7 (.c nm5 (.c nm3 (.c nm1 .nil))))))
theorem azR (e:List Nd):List.take (e.length*5) (ndL e)=ndL e:=List.take_of_length_le (by rw [au3];omega)
def aPt (e:List Nd) (qs:List Sq) (op:Int) (nm:List UInt8):Nat:=avg (ckS awI) (upS awI) e (qs.map Sq.c) op nm
theorem a9O {x:List Value} (h:avE [.int .i64] x):∃ a:Int,x.map azl= [AV.int .i64 a]:=by
 rcases h with _|@⟨_,a,_,_,h⟩|_|_
 cases h
 exact ⟨a,rfl⟩
theorem a2f (l:List Int):(l.flatMap fun a=> [AV.int .i64 a])=iL l:=by
 induction l with
 |nil=>rfl
 |cons a r ih=>rw [List.flatMap_cons,ih];rfl
end Go.Proofs.Tryz
set_option maxRecDepth 100000
open Go AM
namespace Go.Proofs.Tryz
abbrev EV:=Nat × Nd
def svO (a:List EV) (i:Nat):Nat:=(a.getD i (0,zNd)).1
def ndO (a:List EV) (i:Nat):Nd:=(a.getD i (0,zNd)).2
def aFN (a:List EV):Nat:=a.foldl (fun s q=>avs s q.1) 0
def aZ2 (a:List EV):Nat:=cond (aAd (ndO a 0).op) (aCb (ndO a 0).neg (svO a 1)) (cond (aAd (ndO a 1).op) (aCb (ndO a 1).neg (svO a 0)) 3)
def aYD (a:List EV):Nat:=cond (aAd (ndO a 1).op) (cond (azD (ndO a 1).neg (ndO a 1).num (ndO a 1).den==((0:Nat):Int)) 3 (aCb (ndO a 1).neg (svO a 0))) 3
def aWH (a:List EV):Nat:=cond (((svO a 0:Nat):Int)==((0:Nat):Int)) (avs (svO a 1) (svO a 2)) 3
def aLz (ck:Sc→Int) (up:Sc→Bool) (sc:List Sc) (a:List EV) (x:Nd):Nat:=
 if x.op=9∨x.op=13∨x.op=14∨x.op=21∨x.op=22∨x.op=23 then aFN a else if x.op=10 then avs (svO a 0) (azf (svO a 1)) else if x.op=11 then aZ2 a else if x.op=12 then aYD a else if x.op=15 then aWH a else if x.op=24 then aGF ck up x.name sc (svO a 0) else 3
def aGM (ck:Sc→Int) (up:Sc→Bool) (sc:List Sc) (op:Int) (name:List UInt8) (a:List EV) (x:Nd):Nat:=
 cond (x.op==op && x.name==name) 1 (cond (((aFN a:Nat):Int)==((0:Nat):Int)) 0 (aLz ck up sc a x))
def azB (ck:Sc→Int) (up:Sc→Bool) (sc:List Sc) (op:Int) (name:List UInt8):List Nd→List EV→List EV
 | [],st=>st
 |x::r,st=>azB ck up sc op name r (st.take (st.length - arI x.op)++ [(aGM ck up sc op name (st.drop (st.length - arI x.op)) x,x)])
section
variable {ck:Sc→Int} {up:Sc→Bool} {sc:List Sc} {op:Int} {name:List UInt8}
theorem aE_:∀ (a b:List Nd) (st:List EV),azB ck up sc op name (a++b) st=azB ck up sc op name b (azB ck up sc op name a st)
 | [],_,_=>rfl
 |x::r,b,st=>by simp only [List.cons_append,azB];exact aE_ r b _
theorem ax3 {x:Nd} {r:List Nd} {d e:Nat} (h:au9 (x::r) d= .inl e):aeF x=0∧arI x.op≤d∧au9 r (d - arI x.op+1)= .inl e:=by
 simp only [au9] at h
 split at h
 ·rename_i hx
  split at h
  ·cases h
  ·exact ⟨hx,by omega,h⟩
 ·cases h
theorem aFa:∀ (r:List Nd) (st0 st:List EV),(∃ e,au9 r st.length= .inl e)→azB ck up sc op name r (st0++st)=st0++azB ck up sc op name r st
 | [],_,_,_=>rfl
 |x::r,st0,st,⟨e,he⟩=>by
  obtain ⟨_,h2,h3⟩:=ax3 he
  simp only [azB]
  rw [show (st0++st).length - arI x.op=st0.length+(st.length - arI x.op) by rw [List.length_append];omega,List.take_length_add_append,List.drop_length_add_append,List.append_assoc]
  exact aFa r st0 _ ⟨e,by rw [List.length_append,List.length_take,List.length_singleton,Nat.min_eq_left (Nat.sub_le _ _)];exact h3⟩
theorem aI0:∀ (r:List Nd) (st:List EV) (e:Nat),au9 r st.length= .inl e→(azB ck up sc op name r st).length=e
 | [],st,e,h=>by simpa [au9,azB] using h
 |x::r,st,e,h=>by
  obtain ⟨_,h2,h3⟩:=ax3 h
  simp only [azB]
  exact aI0 r _ e (by rw [List.length_append,List.length_take,List.length_singleton,Nat.min_eq_left (Nat.sub_le _ _)];exact h3)
theorem aGn {f:Nat→EV} {a:List Nat} {i:Nat} (h:i<a.length):(a.map f).getD i (0,zNd)=f (a.getD i 0):=by
 rw [List.getD_eq_getElem?_getD,List.getD_eq_getElem?_getD,List.getElem?_map,List.getElem?_eq_getElem h];rfl
theorem aSu {e:List Nd} {A:List (List Nat)} {ss:List Nat} {k:Nat} {x:Nd} (hl:(A.getD k []).length=arI x.op):aFk ck up e A sc op name ss k x=aGM ck up sc op name ((A.getD k []).map fun j=>(ss.getD j 0,e.getD j zNd)) x:=by
 have hall:awR A ss k=aFN ((A.getD k []).map fun j=>(ss.getD j 0,e.getD j zNd)):=by
  unfold awR aFN
  rw [List.foldl_map]
 have hop:∀ i,i<arI x.op→avO A ss k i=svO ((A.getD k []).map fun j=>(ss.getD j 0,e.getD j zNd)) i:=by
  intro i hi
  unfold svO avO
  rw [aGn (by omega)]
 have hnd:∀ i,i<arI x.op→ndA e A k i=ndO ((A.getD k []).map fun j=>(ss.getD j 0,e.getD j zNd)) i:=by
  intro i hi
  unfold ndO ndA
  rw [aGn (by omega)]
 have har:∀ o:Int,x.op=o→arI x.op=arI o:=fun o h=>by rw [h]
 unfold aFk aGM
 rw [hall]
 congr 2
 unfold aPq aLz
 rw [hall]
 split
 ·rfl
 ·split
  ·rename_i h
   have:=har _ h
   rw [show arI 10=2 from rfl] at this
   rw [hop 0 (by omega),hop 1 (by omega)]
  ·split
   ·rename_i h
    have:=har _ h
    rw [show arI 11=2 from rfl] at this
    unfold aEK aZ2
    rw [hop 0 (by omega),hop 1 (by omega),hnd 0 (by omega),hnd 1 (by omega)]
   ·split
    ·rename_i h
     have:=har _ h
     rw [show arI 12=2 from rfl] at this
     unfold aD_ aYD
     rw [hop 0 (by omega),hnd 1 (by omega)]
    ·split
     ·rename_i h
      have:=har _ h
      rw [show arI 15=3 from rfl] at this
      unfold aG7 aWH
      rw [hop 0 (by omega),hop 1 (by omega),hop 2 (by omega)]
     ·split
      ·rename_i h
       have:=har _ h
       rw [show arI 24=1 from rfl] at this
       rw [hop 0 (by omega)]
      ·rfl
theorem aI4 {e:List Nd} {A:List (List Nat)}:∀ (r:List Nd) (k:Nat) (st ss:List Nat),(∃ d,au9 r st.length= .inl d)→A.drop k=aBc r k st→e.drop k=r→ss.length=e.length→(∀ j ∈ st,j<k)→
  azB ck up sc op name r (st.map fun j=>(ss.getD j 0,e.getD j zNd))=(stR r k st).map fun j=>((aA6 ck up e A sc op name r k ss).getD j 0,e.getD j zNd)
 | [],k,st,ss,_,_,_,_,_=>rfl
 | x::r,k,st,ss,⟨d,hd⟩,hA,he,hs,hst=>by
  obtain ⟨_,h2,h3⟩:=ax3 hd
  have hkl:k<e.length:=by
   by_cases h:k<e.length
   ·exact h
   ·rw [List.drop_of_length_le (by omega)] at he;cases he
  have hx:e.getD k zNd=x:=by
   rw [List.drop_eq_getElem_cons hkl,List.cons.injEq] at he
   rw [List.getD_eq_getElem?_getD,List.getElem?_eq_getElem hkl,← he.1];rfl
  have her:e.drop (k+1)=r:=by
   rw [List.drop_eq_getElem_cons hkl,List.cons.injEq] at he
   exact he.2
  simp only [aBc] at hA
  have hAl:k<A.length:=by
   by_cases h:k<A.length
   ·exact h
   ·rw [List.drop_of_length_le (by omega)] at hA;cases hA
  rw [List.drop_eq_getElem_cons hAl,List.cons.injEq] at hA
  have hAk:A.getD k []=st.drop (st.length - arI x.op):=by
   rw [List.getD_eq_getElem?_getD,List.getElem?_eq_getElem hAl,← hA.1];rfl
  simp only [azB,aA6,stR]
  have hv:=aSu (ck:=ck) (up:=up) (sc:=sc) (op:=op) (name:=name) (e:=e) (A:=A) (ss:=ss) (k:=k) (x:=x) (by rw [hAk,List.length_drop];omega)
  rw [hAk] at hv
  rw [List.length_map,← List.map_take,← List.map_drop,← hv]
  generalize aFk ck up e A sc op name ss k x=v
  have ih:=aI4 (e:=e) (A:=A) r (k+1) (st.take (st.length - arI x.op)++ [k]) (ss.set k v) ⟨d,by rw [List.length_append,List.length_take,List.length_singleton,Nat.min_eq_left (Nat.sub_le _ _)];exact h3⟩ hA.2 her (by rw [List.length_set];exact hs) (by
   intro j hj
   rcases List.mem_append.1 hj with hj|hj
   ·have:=hst j (List.mem_of_mem_take hj);omega
   ·rw [List.mem_singleton.1 hj];omega)
  rw [← ih]
  congr 1
  rw [List.map_append]
  congr 1
  ·apply List.map_congr_left
   intro j hj
   have:=hst j (List.mem_of_mem_take hj)
   have e1:(ss.set k v).getD j 0=ss.getD j 0:=by rw [List.getD_eq_getElem?_getD,List.getD_eq_getElem?_getD,List.getElem?_set_ne (by omega)]
   rw [e1]
  ·simp only [List.map_cons,List.map_nil]
   have e1:(ss.set k v).getD k 0=v:=by rw [List.getD_eq_getElem?_getD,List.getElem?_set_self (by omega)];rfl
   rw [hx,e1]
theorem aI9:∀ (r:List Nd) (x:Nd) (k:Nat) (st:List Nat),∃ t,stR (r++ [x]) k st=t++ [k+r.length]
 | [],x,k,st=> ⟨_,rfl⟩
 |y::r,x,k,st=>by
  obtain ⟨t,ht⟩:=aI9 r x (k+1) (st.take (st.length - arI y.op)++ [k])
  exact ⟨t,by simp only [List.cons_append,stR];rw [ht,List.length_cons];congr 2;omega⟩
theorem azo {e:List Nd} (h:an_ e=0):au9 e 0= .inl 1∧e.length≤60:=by
 unfold an_ at h
 split at h
 ·cases h
 ·refine ⟨?_,by omega⟩
  split at h
  ·rename_i d hd
   split at h
   ·rename_i h1;rw [hd,h1]
   ·cases h
  ·rename_i w hw
   exact absurd h (aG6 e 0 w hw)
theorem aBf {e:List Nd} (h:au9 e 0= .inl 1) (hl:e.length≤60):an_ e=0:=by
 unfold an_
 rw [if_neg (by omega),h];rfl
theorem aCI {e:List Nd} (h:an_ e=0) (ho:5≤op∧op≤8):∃ y,azB ck up sc op name e []= [(avg ck up e sc op name,y)]∧e.getLast? =some y:=by
 obtain ⟨h1,h2⟩:=azo h
 have hne:e ≠ []:=by rintro rfl;simp [au9] at h1
 obtain ⟨r,x,hr⟩:∃ r x,e=r++ [x]:=⟨e.dropLast,e.getLast hne,(List.dropLast_concat_getLast hne).symm⟩
 have hs:=aI4 (ck:=ck) (up:=up) (sc:=sc) (op:=op) (name:=name) (e:=e) (A:=avy e) e 0 [] (List.replicate e.length 0) ⟨1,h1⟩ rfl rfl (by simp) (by simp)
 obtain ⟨t,ht⟩:=aI9 r x 0 []
 rw [← hr,Nat.zero_add] at ht
 have hl:=aI0 (ck:=ck) (up:=up) (sc:=sc) (op:=op) (name:=name) e [] 1 h1
 rw [List.map_nil] at hs
 rw [hs,ht] at hl
 have ht0:t= []:=by
  rw [List.length_map,List.length_append,List.length_singleton] at hl
  exact List.length_eq_zero_iff.1 (by omega)
 subst ht0
 have hel:e.length - 1=r.length:=by rw [hr];simp
 refine ⟨x, ?_,by rw [hr];simp⟩
 rw [hs,ht]
 simp only [List.nil_append,List.map_cons,List.map_nil]
 unfold avg
 rw [if_pos ⟨h,ho⟩,hel]
 congr 1
 rw [show e.getD r.length zNd=x by rw [hr,List.getD_eq_getElem?_getD];simp]
theorem aLA {e:List Nd} (h:an_ e=0) (ho:5≤op∧op≤8) (st:List EV):∃ y,azB ck up sc op name e st=st++ [(avg ck up e sc op name,y)]∧e.getLast? =some y:=by
 obtain ⟨y,h1,h2⟩:=aCI (ck:=ck) (up:=up) (sc:=sc) (op:=op) (name:=name) h ho
 refine ⟨y, ?_,h2⟩
 have:=aFa (ck:=ck) (up:=up) (sc:=sc) (op:=op) (name:=name) e st [] ⟨1,(azo h).1⟩
 rw [List.append_nil] at this
 rw [this,h1]
theorem aPu {e:List Nd} (h:an_ e=0) (ho:5≤op∧op≤8) {s:Nat} {y:Nd} (hr:azB ck up sc op name e []= [(s,y)]):avg ck up e sc op name=s:=by
 obtain ⟨y',h1,_⟩:=aCI (ck:=ck) (up:=up) (sc:=sc) (op:=op) (name:=name) h ho
 rw [h1] at hr
 simp only [List.cons.injEq,Prod.mk.injEq,and_true] at hr
 exact hr.1
end
end Go.Proofs.Tryz
set_option maxRecDepth 100000
open Go AM
namespace Go.Proofs.Tryz
section
variable {ck:Sc→Int} {up:Sc→Bool} {sc:List Sc}
theorem aY6 {a b:Nat} (h:a≤3) (h':b≤3):avs a b≤3:=by unfold avs;split;exact h';split;exact h;omega
theorem aTf:∀ (a:List EV) (s:Nat),s≤3→(∀ q ∈ a,q.1≤3)→a.foldl (fun s q=>avs s q.1) s≤3
 | [],_,hs,_=>hs
 |q::r,s,hs,h=>aTf r _ (aY6 hs (h q (by simp))) fun x hx=>h x (by simp [hx])
theorem aQe {a:List EV} (h:∀ q ∈ a,q.1≤3):aFN a≤3:=aTf a 0 (by omega) h
end
end Go.Proofs.Tryz
set_option maxRecDepth 100000
open Go AM
namespace Go.Proofs.Tryz
theorem aNA:∀ (r:List Nd) (d e k:Nat),au9 r d= .inl e→au9 r (d+k)= .inl (e+k)
 | [],d,e,k,h=>by simp only [au9,Sum.inl.injEq] at*;omega
 |x::r,d,e,k,h=>by
  obtain ⟨h1,h2,h3⟩:=ax3 h
  simp only [au9,if_pos h1]
  rw [if_neg (by omega),show d+k - arI x.op+1=d - arI x.op+1+k by omega]
  exact aNA r _ _ k h3
theorem aD4:∀ (r s:List Nd) (d e:Nat),au9 r d= .inl e→au9 (r++s) d=au9 s e
 | [],s,d,e,h=>by simp only [au9,Sum.inl.injEq] at h;subst h;rfl
 |x::r,s,d,e,h=>by
  obtain ⟨h1,h2,h3⟩:=ax3 h
  simp only [List.cons_append,au9,if_pos h1]
  rw [if_neg (by omega)]
  exact aD4 r s _ _ h3
theorem aBq {p r:List Nd} {x:Nd}:List.drop (((0+(Int.toNat (p.length:Int)))*5)+0) (ndL (p++x::r))=ndC x++ndL r:=by
 rw [Nat.zero_add,Nat.add_zero];exact aDC rfl
def nmL:List (List UInt8):= [[111,116,104,101,114],[97],[98],[116,97,120],[119,97,103,101],[120,95,49],[97,50,51,52,53,54,55,56,57,48,49,50,51,52,53,54,55,56,57,48]]
theorem aRM {k:Nat} (h:k<7):List.drop ((Int.toNat (k:Int))*1) [.str [111,116,104,101,114],.str [97],.str [98],.str [116,97,120],.str [119,97,103,101],.str [120,95,49],.str [97,50,51,52,53,54,55,56,57,48,49,50,51,52,53,54,55,56,57,48]]= [AV.str (nmL.getD k [])]++(nmL.drop (k+1)).map .str:=by
 match k,h with
 |0,_=>rfl
 |1,_=>rfl
 |2,_=>rfl
 |3,_=>rfl
 |4,_=>rfl
 |5,_=>rfl
 |6,_=>rfl
end Go.Proofs.Tryz
set_option maxRecDepth 100000
open Go AM
namespace Go.Proofs.Tryz
def plO (op:Int):Int:=if op.tmod 3=0 then 9 else if op.tmod 3=1 then 13 else 14
def upN:Nd:=⟨22,false,adX 2,adX 1,[]⟩
def opN (op:Int):Nd:=⟨op,false,[],[],[]⟩
def plN (x:Nd):List Nd:=if x.op=15 then [opN 14,opN 13] else if arI x.op=2 then [opN (plO x.op)] else if x.op=20∨x.op=24 then [upN] else [x]
def plQ (e:List Nd):List Nd:=e.flatMap plN
theorem aEW (x:Nd) (r:List Nd):plQ (x::r)=plN x++plQ r:=by simp [plQ]
theorem aEV (op:Int):plO op=9∨plO op=13∨plO op=14:=by unfold plO;split;exact .inl rfl;split;exact .inr (.inl rfl);exact .inr (.inr rfl)
theorem aU1 (op:Int):arI (plO op)=2:=by rcases aEV op with h|h|h<;>rw [h]<;>rfl
theorem aPV:aeF upN=0:=aFw (w:=⟨false,2,1⟩) (.inr (.inl rfl)) ⟨by decide,by decide,by simp⟩ rfl (by decide) (by decide) (by decide)
theorem aB6 {op:Int} (h:op=9∨op=13∨op=14):aeF (opN op)=0:=aFv (by omega)
theorem aAx {x:Nd} {d e k:Nat} (hw:aeF x=0) (ha:arI x.op=k) (h:k≤d) (he:d - k+1=e):au9 [x] d= .inl e:=by
 simp only [au9,if_pos hw]
 rw [if_neg (by omega),ha,he]
theorem aRW {x:Nd} {d:Nat} (hw:aeF x=0) (ha:arI x.op≤d):au9 (plN x) d= .inl (d - arI x.op+1):=by
 unfold plN
 split
 ·rename_i h
  have h3:arI x.op=3:=by rw [h];rfl
  rw [h3] at ha ⊢
  rw [show [opN 14,opN 13]= [opN 14]++ [opN 13] from rfl,aD4 _ _ d (d - 2+1) (aAx (aB6 (.inr (.inr rfl))) (k:=2) rfl (by omega) rfl)]
  exact aAx (aB6 (.inr (.inl rfl))) (k:=2) rfl (by omega) (by omega)
 ·split
  ·rename_i h
   rw [h] at ha ⊢
   exact aAx (aB6 (aEV _)) (aU1 _) ha rfl
  ·split
   ·rename_i h
    have h1:arI x.op=1:=by rcases h with h|h<;>rw [h]<;>rfl
    rw [h1] at ha ⊢
    exact aAx aPV (k:=1) rfl ha rfl
   ·exact aAx hw rfl ha rfl
theorem aHF:∀ (r:List Nd) (d e:Nat),au9 r d= .inl e→au9 (plQ r) d= .inl e
 | [],_,_,h=>h
 |x::r,d,e,h=>by
  obtain ⟨h1,h2,h3⟩:=ax3 h
  rw [aEW,aD4 _ _ d _ (aRW h1 h2)]
  exact aHF r _ _ h3
theorem aHG:∀ (r:List Nd),(plQ r).length=r.length+ifN r
 | []=>rfl
 | x::r=>by
  rw [aEW,List.length_append,aHG r,aEq,List.length_cons]
  unfold plN
  by_cases h:x.op=15
  ·rw [if_pos h,if_pos h]
   simp only [List.length_cons,List.length_nil];omega
  ·rw [if_neg h,if_neg h]
   split
   ·simp only [List.length_cons,List.length_nil];omega
   ·split
    ·simp only [List.length_cons,List.length_nil];omega
    ·simp only [List.length_cons,List.length_nil];omega
theorem a1O:upN.sm:=⟨avd (by decide),avd (by decide)⟩
theorem aGA (op:Int):(opN op).sm:=⟨by simp [opN],by simp [opN]⟩
theorem aO9 {e:List Nd} (h:∀ x ∈ e,x.sm):∀ x ∈ plQ e,x.sm:=by
 intro x hx
 unfold plQ at hx
 obtain ⟨y,hy,hx⟩:=List.mem_flatMap.1 hx
 unfold plN at hx
 split at hx
 ·simp only [List.mem_cons,List.not_mem_nil,or_false] at hx
  rcases hx with rfl|rfl<;>exact aGA _
 ·split at hx
  ·rw [List.mem_singleton] at hx;subst hx;exact aGA _
  ·split at hx
   ·rw [List.mem_singleton] at hx;subst hx;exact a1O
   ·rw [List.mem_singleton] at hx;subst hx;exact h x hy
def plI (op:Int):Prop:=arI op=0∨op=9∨op=13∨op=14∨op=21∨op=22∨op=23
theorem aO8 (e:List Nd):∀ x ∈ plQ e,plI x.op:=by
 intro x hx
 unfold plQ at hx
 obtain ⟨y,hy,hx⟩:=List.mem_flatMap.1 hx
 unfold plN at hx
 split at hx
 ·simp only [List.mem_cons,List.not_mem_nil,or_false] at hx
  rcases hx with rfl|rfl
  ·exact .inr (.inr (.inr (.inl rfl)))
  ·exact .inr (.inr (.inl rfl))
 ·split at hx
  ·rw [List.mem_singleton] at hx;subst hx
   rcases aEV y.op with h|h|h
   ·exact .inr (.inl h)
   ·exact .inr (.inr (.inl h))
   ·exact .inr (.inr (.inr (.inl h)))
  ·split at hx
   ·rw [List.mem_singleton] at hx;subst hx;exact .inr (.inr (.inr (.inr (.inr (.inl rfl)))))
   ·rename_i a15 a2 a1
    rw [List.mem_singleton] at hx;subst hx
    unfold plI
    by_cases h2:(9≤x.op∧x.op≤14)∨(16≤x.op∧x.op≤19)
    ·exact absurd (by unfold arI;rw [if_neg a15,if_pos h2]) a2
    ·by_cases h1:20≤x.op∧x.op≤24
     ·right;omega
     ·left;unfold arI;rw [if_neg a15,if_neg h2,if_neg h1]
theorem aRa {s t:Nat} (hs:s≤1) (ht:t≤1):avs s t≤1:=by
 unfold avs;split;exact ht;split;exact hs;omega
theorem aMk (s t:Nat):avs s t=avs t s:=by
 unfold avs;repeat' split
 all_goals omega
theorem aQf {a:List EV} (h:∀ q ∈ a,q.1≤1):aFN a≤1:=by
 unfold aFN
 have:∀ (a:List EV) (s:Nat),s≤1→(∀ q ∈ a,q.1≤1)→a.foldl (fun s q=>avs s q.1) s≤1:=by
  intro a
  induction a with
  |nil=>intro s hs _;exact hs
  |cons q a ih=>
   intro s hs h
   exact ih _ (aRa hs (h q (by simp))) (fun x hx=>h x (by simp [hx]))
 exact this a 0 (by omega) h
section
variable {ck:Sc→Int} {up:Sc→Bool} {sc:List Sc} {op:Int} {name:List UInt8}
theorem aR0 {a:List EV} {x:Nd} (h:∀ q ∈ a,q.1≤1) (hl:a.length=arI x.op) (hx:plI x.op):aGM ck up sc op name a x≤1:=by
 unfold aGM
 have ha:=aQf h
 cases (x.op==op && x.name==name) with
 |true=>exact Nat.le_refl 1
 | false=>
  rw [cond_false]
  rcases tf (((aFN a:Nat):Int)==((0:Nat):Int)) with h0|h0
  ·rw [h0];exact Nat.zero_le _
  ·rw [h0,cond_false]
   rcases hx with hx|hx
   ·rw [hx] at hl
    have:a= []:=List.length_eq_zero_iff.1 hl
    subst this
    exact absurd h0 (by decide)
   ·unfold aLz
    rw [if_pos (by omega)]
    exact ha
theorem aO_:∀ (r:List Nd) (st:List EV) (e:Nat),au9 r st.length= .inl e→(∀ x ∈ r,plI x.op)→(∀ q ∈ st,q.1≤1)→∀ q ∈ azB ck up sc op name r st,q.1≤1
 | [],_,_,_,_,h=>h
 | x::r,st,e,hc,hp,h=>by
  obtain ⟨_,h2,h3⟩:=ax3 hc
  simp only [azB]
  refine aO_ r _ e (by rw [List.length_append,List.length_take,List.length_singleton,Nat.min_eq_left (Nat.sub_le _ _)];exact h3) (fun y hy=>hp y (by simp [hy])) ?_
  intro q hq
  rcases List.mem_append.1 hq with hq|hq
  ·exact h q (List.mem_of_mem_take hq)
  ·rw [List.mem_singleton] at hq
   subst hq
   exact aR0 (fun q hq=>h q (List.mem_of_mem_drop hq)) (by rw [List.length_drop];omega) (hp x (by simp))
theorem aIS {e:List Nd} (h:an_ e=0) (ho:5≤op∧op≤8) (hp:∀ x ∈ e,plI x.op):avg ck up e sc op name≤1:=by
 obtain ⟨y,h1,_⟩:=aCI (ck:=ck) (up:=up) (sc:=sc) (op:=op) (name:=name) h ho
 have:=aO_ (ck:=ck) (up:=up) (sc:=sc) (op:=op) (name:=name) e [] 1 (azo h).1 hp (by simp) (avg ck up e sc op name,y) (by rw [h1];simp)
 exact this
theorem aGL {a b:List Nd} {x:Nd} (hx:x.op=9∨x.op=13∨x.op=14) (ho:5≤op∧op≤8) (ha:an_ a=0) (hb:an_ b=0) (hm:an_ (a++b++ [x])=0):avg ck up (a++b++ [x]) sc op name=avs (avg ck up a sc op name) (avg ck up b sc op name):=by
 obtain ⟨y,hy,_⟩:=aLA (ck:=ck) (up:=up) (sc:=sc) (op:=op) (name:=name) ha ho []
 obtain ⟨z,hz,_⟩:=aLA (ck:=ck) (up:=up) (sc:=sc) (op:=op) (name:=name) hb ho [(avg ck up a sc op name,y)]
 refine aPu hm ho (y:=x) ?_
 rw [aE_,aE_,hy,List.nil_append,hz]
 generalize avg ck up a sc op name=s
 generalize avg ck up b sc op name=t
 have har:arI x.op=2:=by rcases hx with h|h|h<;>rw [h]<;>rfl
 simp only [azB,List.cons_append,List.nil_append,List.length_cons,List.length_nil,har]
 rw [show 0+1+1 - 2=0 from rfl,List.take_zero,List.drop_zero,List.nil_append]
 congr 2
 unfold aGM
 rw [show (x.op==op)=false from beq_eq_false_iff_ne.2 (by omega),Bool.false_and,cond_false]
 have hj:aFN [(s,y),(t,z)]=avs s t:=by simp [aFN,avs]
 rw [hj]
 rcases tf (((avs s t:Nat):Int)==((0:Nat):Int)) with h0|h0
 ·rw [h0,cond_true]
  have:=of_decide_eq_true h0
  omega
 ·rw [h0,cond_false]
  unfold aLz
  rw [if_pos (by omega),hj]
theorem aJj {a b:List Nd} {x:Nd} (hx:x.op=9∨x.op=13∨x.op=14) (ho:5≤op∧op≤8) (ha:an_ a=0) (hb:an_ b=0) (hm:an_ (a++b++ [x])=0) (hn:an_ (b++a++ [x])=0):avg ck up (a++b++ [x]) sc op name=avg ck up (b++a++ [x]) sc op name:=by
 rw [aGL hx ho ha hb hm,aGL hx ho hb ha hn,aMk]
end
theorem aDJ {a b:List Nd} {x:Nd} (hx:x.op=9∨x.op=13∨x.op=14) (hw:aeF x=0) (ha:an_ a=0) (hb:an_ b=0) (hl:a.length+b.length+1≤60):an_ (a++b++ [x])=0:=by
 refine aBf ?_ (by simp only [List.length_append,List.length_singleton];omega)
 have h1:=(azo ha).1
 have h2:=aNA b 0 1 1 (azo hb).1
 rw [Nat.zero_add] at h2
 have har:arI x.op=2:=by rcases hx with h|h|h<;>rw [h]<;>rfl
 rw [List.append_assoc,aD4 a _ 0 1 h1,aD4 b _ 1 _ h2]
 exact aAx hw har (by omega) rfl
theorem mc0 (c n:Nat):decide (((0:Nat):Int)≤(if (c:Int)<(n:Int) then (c:Int) else (n:Int)))=true:=by
 rw [decide_eq_true_iff];split<;>omega
theorem mc1 (c n:Nat):decide ((if (c:Int)<(n:Int) then (c:Int) else (n:Int))≤(n:Int))=true:=by
 rw [decide_eq_true_iff];split<;>omega
theorem mcn (c n:Nat):(Int.toNat (if (c:Int)<(n:Int) then (c:Int) else (n:Int)))=min c n:=by
 split<;>omega
theorem a1H {α:Type} (c:Nat) (l:List α):List.take (min c l.length) l=List.take c l:=by
 rcases Nat.le_total c l.length with h|h
 ·rw [Nat.min_eq_left h]
 ·rw [Nat.min_eq_right h,List.take_length,List.take_of_length_le h]
def ilC (c:Nat) (xs:List Int) (nn:Bool):AV:=AV.sl (List.take ((Int.toNat (if (c:Int)<(xs.length:Int) then (c:Int) else (xs.length:Int)))*1) (iL xs)) ((Int.toNat (if (c:Int)<(xs.length:Int) then (c:Int) else (xs.length:Int))) - 0) nn
theorem aJ4 (c:Nat) (xs:List Int) (nn:Bool):ilC c xs nn= .sl (iL (xs.take c)) (xs.take c).length nn:=by
 unfold ilC
 rw [mcn,Nat.mul_one,Nat.sub_zero,List.length_take]
 have h:List.take (min c xs.length) (iL xs)=iL (xs.take c):=by
  unfold iL
  rw [← a1H c xs,List.map_take]
 rw [h]
theorem aTo (c:Nat) (hc:c≤30) (xs:List Int) (nn:Bool):∃ e:List Nd,e.length+ifN e≤2*c+1∧e ≠ []∧an_ e=0∧(∀ x ∈ e,x.sm)∧CO 11 [ilC c xs nn] (.ret (.own (ndL e) e.length 5)):=by
 rw [aJ4]
 obtain ⟨e,h1,h2,_,h4,h5,h6⟩:=aMo (xs.take c) nn
 refine ⟨e, ?_,h2,h4,h5,h6⟩
 rw [List.length_take] at h1
 omega
end Go.Proofs.Tryz
set_option maxRecDepth 100000
set_option linter.unusedVariables false
open Go AM
namespace Go.Proofs.Tryz
def axA (cu:List Nd) (k:Nat):St:=⟨[(3,.ref 0 0 0 cu.length),(4,.int .i64 (k:Int))],[(0,⟨(ndL cu),0,false,0,5,true⟩)],.dead,[]⟩
def aLn (cu:List Nd):St:=⟨[(3,.ref 0 0 0 cu.length)],[(0,⟨(ndL cu),0,false,0,5,true⟩)],.dead,[]⟩
theorem a0q {nt:Nat} (hn:73≤nt) (cu:List Nd) (k:Nat) (o o1 tb:Int) (hw:k<2^62) (c30:CO 30 [.int .i64 o] (.ret (.int .i64 ((arI o:Nat):Int)))) (hx:AV.int .i64 (AV.toInt (List.headD (List.drop (((0+(Int.toNat (k:Int)))*5)+0) (ndL cu)) .dead))= .int .i64 o) (ht:AV.int .i64 (AV.toInt (List.headD (List.drop ((0+(Int.toNat (Int.tmod o ((3:Nat):Int))))*1) [.int .i64 9,.int .i64 13,.int .i64 14]) .dead))= .int .i64 tb) (hy:AV.int .i64 (AV.toInt (List.headD (List.drop (((0+(Int.toNat (k:Int)))*5)+0) (List.take ((0+(Int.toNat (k:Int)))*5) (ndL cu)++ [.int .i64 tb,.bool false,.str [],.str [],.str []]++List.drop (((0+(Int.toNat (k:Int)))*5)+5) (ndL cu))) .dead))= .int .i64 o1) (b0:(o1==((15:Nat):Int))=false) (b1:(chk (.int .i64) (List.headD (List.drop (((0+(Int.toNat (k:Int)))*5)+0) (List.take ((0+(Int.toNat (k:Int)))*5) (ndL cu)++ [.int .i64 tb,.bool false,.str [],.str [],.str []]++List.drop (((0+(Int.toNat (k:Int)))*5)+5) (ndL cu))) .dead))=true) (b2:(decide (((0:Nat):Int)≤(k:Int)))=true) (b4:(o1==((24:Nat):Int))=false) (b5:(o1==((20:Nat):Int))=false) (b6:(Nat.ble (((0+(Int.toNat (k:Int)))*5)+5) (List.length (ndL cu)))=true) (b7:(chk (.int .i64) (List.headD (List.drop ((0+(Int.toNat (Int.tmod o ((3:Nat):Int))))*1) [.int .i64 9,.int .i64 13,.int .i64 14]) .dead))=true) (b8:(decide (((0:Nat):Int)≤(Int.tmod o ((3:Nat):Int))))=true) (b9:(decide ((Int.tmod o ((3:Nat):Int))<((3:Nat):Int)))=true) (b10:(chk (.int .i64) (List.headD (List.drop (((0+(Int.toNat (k:Int)))*5)+0) (ndL cu)) .dead))=true) (b11:((((arI o):Nat):Int)==((2:Nat):Int))=true) (b12:(decide ((k:Int)<(cu.length:Int)))=true):ad1 prog ap [] nt (lT 0 (adW f20)) (axA cu k) (.normal) ⟨[(3,.ref 0 0 0 cu.length),(4,.int .i64 (((k+1):Nat):Int))],[(0,⟨(List.take ((0+(Int.toNat (k:Int)))*5) (ndL cu)++ [.int .i64 tb,.bool false,.str [],.str [],.str []]++List.drop (((0+(Int.toNat (k:Int)))*5)+5) (ndL cu)),0,false,0,5,true⟩)],.dead,[]⟩:=pN 20 [] 5 3 (.c (ajS b0) (.c b1 (.c b2 (.c b12 (.c (ajS b4) (.c b1 (.c b2 (.c b12 (.c (ajS b5) (.c b1 (.c b2 (.c b12 (.c b6 (.c b2 (.c b12 (.c b7 (.c b8 (.c b9 (.k 1 b10 (.c b2 (.c b12 (.c (al1 b11) (.c b10 (.c b2 (.c b12 (.c (al1 b12) .nil)))))))))))))))))))))))))) (.v 12 (.eq (wk1 hw)) (.v 56 (.eq hy) (.v 44 (.eq hy) (.v 37 (.eq hy) (.v 30 (.eq ht) (.v 27 (.eq hx) (.c c30 (.v 17 (.eq hx) .nil)))))))) hn
theorem a0r {nt:Nat} (hn:73≤nt) (cu:List Nd) (k:Nat) (o o1 tb:Int) (hw:k<2^62) (c30:CO 30 [.int .i64 o] (.ret (.int .i64 ((arI o:Nat):Int)))) (c36:CO 36 [.int .i64 2] (.ret (.agg [.bool false,.str (adX 2),.str (adX 1)]))) (hx:AV.int .i64 (AV.toInt (List.headD (List.drop (((0+(Int.toNat (k:Int)))*5)+0) (ndL cu)) .dead))= .int .i64 o) (hy:AV.int .i64 (AV.toInt (List.headD (List.drop (((0+(Int.toNat (k:Int)))*5)+0) (List.take ((0+(Int.toNat (k:Int)))*5) (ndL cu)++ [.int .i64 22,.bool false,.str (adX 2),.str (adX 1),.str []]++List.drop (((0+(Int.toNat (k:Int)))*5)+5) (ndL cu))) .dead))= .int .i64 o1) (b0:(o1==((15:Nat):Int))=false) (b1:(chk (.int .i64) (List.headD (List.drop (((0+(Int.toNat (k:Int)))*5)+0) (List.take ((0+(Int.toNat (k:Int)))*5) (ndL cu)++ [.int .i64 22,.bool false,.str (adX 2),.str (adX 1),.str []]++List.drop (((0+(Int.toNat (k:Int)))*5)+5) (ndL cu))) .dead))=true) (b2:(decide (((0:Nat):Int)≤(k:Int)))=true) (b4:(Nat.ble (((0+(Int.toNat (k:Int)))*5)+5) (List.length (ndL cu)))=true) (b5:(o==((20:Nat):Int))=true) (b6:(chk (.int .i64) (List.headD (List.drop (((0+(Int.toNat (k:Int)))*5)+0) (ndL cu)) .dead))=true) (b7:((((arI o):Nat):Int)==((2:Nat):Int))=false) (b8:(decide ((k:Int)<(cu.length:Int)))=true):ad1 prog ap [] nt (lT 0 (adW f20)) (axA cu k) (.normal) ⟨[(3,.ref 0 0 0 cu.length),(4,.int .i64 (((k+1):Nat):Int))],[(0,⟨(List.take ((0+(Int.toNat (k:Int)))*5) (ndL cu)++ [.int .i64 22,.bool false,.str (adX 2),.str (adX 1),.str []]++List.drop (((0+(Int.toNat (k:Int)))*5)+5) (ndL cu)),0,false,0,5,true⟩)],.dead,[]⟩:=pN 20 [] 5 13 (.c (ajS b0) (.c b1 (.c b2 (.c b8 (.c b4 (.c b2 (.c b8 (.k 1 (al1 b5) (.c b6 (.c b2 (.c b8 (.c (ajS b7) (.c b6 (.c b2 (.c b8 (.c (al1 b8) .nil)))))))))))))))) (.v 12 (.eq (wk1 hw)) (.v 56 (.eq hy) (.c c36 (.v 37 (.eq hx) (.c c30 (.v 17 (.eq hx) .nil)))))) hn
theorem a0s {nt:Nat} (hn:73≤nt) (cu:List Nd) (k:Nat) (o o1 tb:Int) (hw:k<2^62) (c30:CO 30 [.int .i64 o] (.ret (.int .i64 ((arI o:Nat):Int)))) (c36:CO 36 [.int .i64 2] (.ret (.agg [.bool false,.str (adX 2),.str (adX 1)]))) (hx:AV.int .i64 (AV.toInt (List.headD (List.drop (((0+(Int.toNat (k:Int)))*5)+0) (ndL cu)) .dead))= .int .i64 o) (hy:AV.int .i64 (AV.toInt (List.headD (List.drop (((0+(Int.toNat (k:Int)))*5)+0) (List.take ((0+(Int.toNat (k:Int)))*5) (ndL cu)++ [.int .i64 22,.bool false,.str (adX 2),.str (adX 1),.str []]++List.drop (((0+(Int.toNat (k:Int)))*5)+5) (ndL cu))) .dead))= .int .i64 o1) (b0:(o1==((15:Nat):Int))=false) (b1:(chk (.int .i64) (List.headD (List.drop (((0+(Int.toNat (k:Int)))*5)+0) (List.take ((0+(Int.toNat (k:Int)))*5) (ndL cu)++ [.int .i64 22,.bool false,.str (adX 2),.str (adX 1),.str []]++List.drop (((0+(Int.toNat (k:Int)))*5)+5) (ndL cu))) .dead))=true) (b2:(decide (((0:Nat):Int)≤(k:Int)))=true) (b4:(Nat.ble (((0+(Int.toNat (k:Int)))*5)+5) (List.length (ndL cu)))=true) (b5:(o==((24:Nat):Int))=true) (b6:(chk (.int .i64) (List.headD (List.drop (((0+(Int.toNat (k:Int)))*5)+0) (ndL cu)) .dead))=true) (b7:(o==((20:Nat):Int))=false) (b8:((((arI o):Nat):Int)==((2:Nat):Int))=false) (b9:(decide ((k:Int)<(cu.length:Int)))=true):ad1 prog ap [] nt (lT 0 (adW f20)) (axA cu k) (.normal) ⟨[(3,.ref 0 0 0 cu.length),(4,.int .i64 (((k+1):Nat):Int))],[(0,⟨(List.take ((0+(Int.toNat (k:Int)))*5) (ndL cu)++ [.int .i64 22,.bool false,.str (adX 2),.str (adX 1),.str []]++List.drop (((0+(Int.toNat (k:Int)))*5)+5) (ndL cu)),0,false,0,5,true⟩)],.dead,[]⟩:=pN 20 [] 5 9 (.c (ajS b0) (.c b1 (.c b2 (.c b9 (.c b4 (.c b2 (.c b9 (.c (al1 b5) (.c b6 (.c b2 (.c b9 (.c (ajS b7) (.c b6 (.c b2 (.c b9 (.c (ajS b8) (.c b6 (.c b2 (.c b9 (.c (al1 b9) .nil)))))))))))))))))))) (.v 12 (.eq (wk1 hw)) (.v 56 (.eq hy) (.c c36 (.v 44 (.eq hx) (.v 37 (.eq hx) (.c c30 (.v 17 (.eq hx) .nil))))))) hn
theorem a0t {nt:Nat} (hn:73≤nt) (cu:List Nd) (k:Nat) (o o1 tb:Int) (hw:k<2^62) (c30:CO 30 [.int .i64 o] (.ret (.int .i64 ((arI o:Nat):Int)))) (hx:AV.int .i64 (AV.toInt (List.headD (List.drop (((0+(Int.toNat (k:Int)))*5)+0) (ndL cu)) .dead))= .int .i64 o) (b0:(Nat.beq (List.length (List.take (((Int.toNat (cu.length:Int)) - (Int.toNat (IntKind.wrap .i64 ((k:Int)+((1:Nat):Int)))))*5) (List.drop ((0+(Int.toNat (IntKind.wrap .i64 ((k:Int)+((1:Nat):Int)))))*5) (ndL cu)))) (((Int.toNat (cu.length:Int)) - (Int.toNat (IntKind.wrap .i64 ((k:Int)+((1:Nat):Int)))))*5))=true) (b1:(Nat.ble (((0+((Int.toNat (k:Int)) - 0))+2)+((Int.toNat (cu.length:Int)) - (Int.toNat (IntKind.wrap .i64 ((k:Int)+((1:Nat):Int)))))) 1099511627776)=true) (b2:(Nat.ble (((0+((Int.toNat (k:Int)) - 0))+2)*5) (List.length ((List.take ((0+((Int.toNat (k:Int)) - 0))*5) ([]++(List.take (((Int.toNat (k:Int)) - 0)*5) (ndL cu))))++ [.int .i64 14,.bool false,.str [],.str [],.str [],.int .i64 13,.bool false,.str [],.str [],.str []])))=true) (b3:(decide (((0:Nat):Int)≤(IntKind.wrap .i64 ((k:Int)+((1:Nat):Int)))))=true) (b4:(decide ((IntKind.wrap .i64 ((k:Int)+((1:Nat):Int)))≤(cu.length:Int)))=true) (b5:(decide ((cu.length:Int)≤(cu.length:Int)))=true) (b6:(Nat.ble ((0+((Int.toNat (k:Int)) - 0))+2) 1099511627776)=true) (b7:(Nat.ble ((0+((Int.toNat (k:Int)) - 0))*5) (List.length ([]++(List.take (((Int.toNat (k:Int)) - 0)*5) (ndL cu)))))=true) (b8:(Nat.beq (List.length (List.take (((Int.toNat (k:Int)) - 0)*5) (ndL cu))) (((Int.toNat (k:Int)) - 0)*5))=true) (b9:(Nat.ble (0+((Int.toNat (k:Int)) - 0)) 1099511627776)=true) (b10:(decide (((0:Nat):Int)≤(k:Int)))=true) (b11:(decide ((k:Int)≤(cu.length:Int)))=true) (b12:(o==((15:Nat):Int))=true) (b13:(chk (.int .i64) (List.headD (List.drop (((0+(Int.toNat (k:Int)))*5)+0) (ndL cu)) .dead))=true) (b15:(o==((24:Nat):Int))=false) (b16:(o==((20:Nat):Int))=false) (b17:((((arI o):Nat):Int)==((2:Nat):Int))=false) (b18:(decide ((k:Int)<(cu.length:Int)))=true):ad1 prog ap [] nt (lT 0 (adW f20)) (axA cu k) (.normal) ⟨[(3,.ref 0 0 0 (((0+((Int.toNat (k:Int)) - 0))+2)+((Int.toNat (cu.length:Int)) - (Int.toNat (IntKind.wrap .i64 ((k:Int)+((1:Nat):Int))))))),(4,.int .i64 (((k+1):Nat):Int))],[(0,⟨((List.take (((0+((Int.toNat (k:Int)) - 0))+2)*5) ((List.take ((0+((Int.toNat (k:Int)) - 0))*5) ([]++(List.take (((Int.toNat (k:Int)) - 0)*5) (ndL cu))))++ [.int .i64 14,.bool false,.str [],.str [],.str [],.int .i64 13,.bool false,.str [],.str [],.str []]))++(List.take (((Int.toNat (cu.length:Int)) - (Int.toNat (IntKind.wrap .i64 ((k:Int)+((1:Nat):Int)))))*5) (List.drop ((0+(Int.toNat (IntKind.wrap .i64 ((k:Int)+((1:Nat):Int)))))*5) (ndL cu)))),0,false,0,5,true⟩)],.dead,[]⟩:=pN 20 [] 5 17 (.c b0 (.c b1 (.c b2 (.k 1 b3 (.c b4 (.c b5 (.k 1 b6 (.c b7 (.k 1 b8 (.c b9 (.k 3 b10 (.c b11 (.c (al1 b12) (.c b13 (.c b10 (.c b18 (.c (ajS b15) (.c b13 (.c b10 (.c b18 (.c (ajS b16) (.c b13 (.c b10 (.c b18 (.c (ajS b17) (.c b13 (.c b10 (.c b18 (.c (al1 b18) .nil))))))))))))))))))))))))))))) (.v 12 (.eq (wk1 hw)) (.v 56 (.eq hx) (.v 44 (.eq hx) (.v 37 (.eq hx) (.c c30 (.v 17 (.eq hx) .nil)))))) hn
theorem a0u {nt:Nat} (hn:73≤nt) (cu:List Nd) (k:Nat) (o o1 tb:Int) (hw:k<2^62) (c30:CO 30 [.int .i64 o] (.ret (.int .i64 ((arI o:Nat):Int)))) (hx:AV.int .i64 (AV.toInt (List.headD (List.drop (((0+(Int.toNat (k:Int)))*5)+0) (ndL cu)) .dead))= .int .i64 o) (b0:(o==((15:Nat):Int))=false) (b1:(chk (.int .i64) (List.headD (List.drop (((0+(Int.toNat (k:Int)))*5)+0) (ndL cu)) .dead))=true) (b2:(decide (((0:Nat):Int)≤(k:Int)))=true) (b4:(o==((24:Nat):Int))=false) (b5:(o==((20:Nat):Int))=false) (b6:((((arI o):Nat):Int)==((2:Nat):Int))=false) (b7:(decide ((k:Int)<(cu.length:Int)))=true):ad1 prog ap [] nt (lT 0 (adW f20)) (axA cu k) (.normal) ⟨[(3,.ref 0 0 0 cu.length),(4,.int .i64 (((k+1):Nat):Int))],[(0,⟨(ndL cu),0,false,0,5,true⟩)],.dead,[]⟩:=pN 20 [] 5 1 (.c (ajS b0) (.c b1 (.c b2 (.c b7 (.c (ajS b4) (.c b1 (.c b2 (.c b7 (.c (ajS b5) (.c b1 (.c b2 (.c b7 (.c (ajS b6) (.c b1 (.c b2 (.c b7 (.c (al1 b7) .nil))))))))))))))))) (.v 12 (.eq (wk1 hw)) (.v 56 (.eq hx) (.v 44 (.eq hx) (.v 37 (.eq hx) (.c c30 (.v 17 (.eq hx) .nil)))))) hn
theorem a0v {nt:Nat} (hn:73≤nt) (cu:List Nd) (k:Nat) (o o1 tb:Int) (hw:k<2^62) (b0:(decide ((k:Int)<(cu.length:Int)))=false):ad1 prog ap [] nt (lT 0 (adW f20)) (axA cu k) (.exit 0) (aLn cu):=pN 20 [] 1 0 (.c (ajS b0) .nil) (.nil) hn
theorem plF (xs:List Int) (na:Bool) (e e1:List Nd) (hm:CO 11 [.sl (iL xs) xs.length na] (.ret (.own (ndL e) e.length 5))) (l0:anO prog ap [] 73 (.block 0 (.loop (lT 0 (adW f20)))) ⟨[(0,.sl (iL xs) xs.length na),(2,.nilS),(3,.ref 0 0 0 e.length),(4,.int .i64 0),(10,.dead),(19,.dead),(46,.dead),(57,.dead)],[(0,⟨(ndL e),0,false,0,5,true⟩)],.dead,[]⟩ (.normal) ⟨[(3,.ref 0 0 0 e1.length)],[(0,⟨(ndL e1),0,false,0,5,true⟩)],.dead,[]⟩):CO 20 [.sl (iL xs) xs.length na] (.ret (.own (List.take (e1.length*5) (ndL e1)) e1.length 5)):=pK [0] 0 0 .nil (.l l0 (.c hm .nil))
def aHr (w1 w2 w3 w4:List Nd) (k:Nat):St:=⟨[(7,.bool true),(11,.sl (ndL w1) w1.length true),(12,.sl (ndL w2) w2.length true),(15,.sl (ndL w3) w3.length true),(16,.sl (ndL w4) w4.length true),(91,.sl [.str [111,116,104,101,114],.str [97],.str [98],.str [116,97,120],.str [119,97,103,101],.str [120,95,49],.str [97,50,51,52,53,54,55,56,57,48,49,50,51,52,53,54,55,56,57,48]] 7 true),(92,.int .i64 7),(93,.int .i64 (k:Int))],[],.dead,[]⟩
theorem aZG {nt:Nat} (hn:115≤nt) (w1 w2 w3 w4:List Nd) (k:Nat) (S1 S2 S3 S4:List UInt8→Nat) (nm:List UInt8) (rx:List AV) (hk:k<2^62) (A1:∀ nm,CO 14 [.sl (ndL w1) w1.length true,.nilS,.int .i64 6,.str nm] (.ret (.int .i64 ((S1 nm:Nat):Int)))) (A2:∀ nm,CO 14 [.sl (ndL w2) w2.length true,.nilS,.int .i64 6,.str nm] (.ret (.int .i64 ((S2 nm:Nat):Int)))) (A3:∀ nm,CO 14 [.sl (ndL w3) w3.length true,.nilS,.int .i64 5,.str nm] (.ret (.int .i64 ((S3 nm:Nat):Int)))) (A4:∀ nm,CO 14 [.sl (ndL w4) w4.length true,.nilS,.int .i64 5,.str nm] (.ret (.int .i64 ((S4 nm:Nat):Int)))) (hx:(List.drop ((Int.toNat (k:Int))*1) [.str [111,116,104,101,114],.str [97],.str [98],.str [116,97,120],.str [119,97,103,101],.str [120,95,49],.str [97,50,51,52,53,54,55,56,57,48,49,50,51,52,53,54,55,56,57,48]])= [AV.str nm]++rx) (b0:((((S3 nm):Nat):Int)==(((S4 nm):Nat):Int))=true) (b1:((((S1 nm):Nat):Int)==(((S2 nm):Nat):Int))=true) (b2:(decide (((0:Nat):Int)≤(k:Int)))=true) (b4:(decide ((k:Int)<((7:Nat):Int)))=true):ad1 prog ap [] nt (lT 0 (adW f7)) (aHr w1 w2 w3 w4 k) (.normal) (aHr w1 w2 w3 w4 (k+1)):=pN 7 [] 3 1 (.c (anS b0) (.c (anS b1) (.k 1 b2 (.c b4 (.c (al1 b4) .nil))))) (.v 113 (.eq (wp1 hk)) (.c (A4 nm) (.c (A3 nm) (.c (A2 nm) (.c (A1 nm) (.v 95 (.ppt hx) .nil)))))) hn
def aIB:St:=⟨[(7,.bool true)],[],.dead,[]⟩
theorem aZH {nt:Nat} (hn:115≤nt) (w1 w2 w3 w4:List Nd) (k:Nat) (b0:(decide ((k:Int)<((7:Nat):Int)))=false):ad1 prog ap [] nt (lT 0 (adW f7)) (aHr w1 w2 w3 w4 k) (.exit 0) aIB:=pN 7 [] 1 0 (.c (ajS b0) .nil) (.nil) hn
def aZI (xs ys:List Int) (na nc:Bool) (op xo:Int) (a b c d w1 w2 w3 w4:List Nd):St:=⟨[(0,.sl (iL xs) xs.length na),(1,.sl (iL ys) ys.length nc),(2,.int .u8 op),(6,.bool false),(7,.bool true),(8,.ref 0 0 0 a.length),(9,.ref 1 0 0 b.length),(10,.ptr 2 0 0),(11,.ref 3 0 0 (((0+a.length)+b.length)+1)),(12,.ref 4 0 0 (((0+b.length)+a.length)+1)),(13,.ref 5 0 0 c.length),(14,.ref 6 0 0 d.length),(15,.ref 7 0 0 (((0+c.length)+d.length)+1)),(16,.ref 8 0 0 (((0+d.length)+c.length)+1)),(18,.dead),(62,.bool false),(91,.ref 9 0 0 7),(92,.int .i64 7),(93,.int .i64 0),(94,.dead),(112,.dead)],[(0,⟨(ndL a),0,false,0,5,true⟩),(1,⟨(ndL b),0,false,0,5,true⟩),(2,⟨[.int .i64 xo,.bool false,.str [],.str [],.str []],0,false,0,0,true⟩),(3,⟨(ndL w1),0,true,(List.length (ndL w1)),5,true⟩),(4,⟨(ndL w2),0,false,0,5,true⟩),(5,⟨(ndL c),0,false,0,5,true⟩),(6,⟨(ndL d),0,false,0,5,true⟩),(7,⟨(ndL w3),0,false,0,5,true⟩),(8,⟨(ndL w4),0,false,0,5,true⟩),(9,⟨[.str [111,116,104,101,114],.str [97],.str [98],.str [116,97,120],.str [119,97,103,101],.str [120,95,49],.str [97,50,51,52,53,54,55,56,57,48,49,50,51,52,53,54,55,56,57,48]],0,false,0,1,true⟩)],.dead,[]⟩
theorem laF (xs ys:List Int) (na nc:Bool) (op xo:Int) (a b c d w1 w2 w3 w4:List Nd) (hxo:AV.int .i64 (AV.toInt (List.headD (List.drop ((0+(Int.toNat (Int.tmod op ((3:Nat):Int))))*1) [.int .i64 9,.int .i64 13,.int .i64 14]) .dead))= .int .i64 xo) (b0:(Nat.ble (((0+d.length)+c.length)+1) 1099511627776)=true) (b1:(Nat.ble (((0+d.length)+c.length)*5) (List.length ((List.take ((0+d.length)*5) ([]++(List.take (d.length*5) (ndL d))))++(List.take (c.length*5) (ndL c)))))=true) (b2:(Nat.beq (List.length (List.take (c.length*5) (ndL c))) (c.length*5))=true) (b3:(Nat.ble ((0+d.length)+c.length) 1099511627776)=true) (b4:(Nat.ble ((0+d.length)*5) (List.length ([]++(List.take (d.length*5) (ndL d)))))=true) (b5:(Nat.beq (List.length (List.take (d.length*5) (ndL d))) (d.length*5))=true) (b6:(Nat.ble (0+d.length) 1099511627776)=true) (b7:(Nat.ble (((0+c.length)+d.length)+1) 1099511627776)=true) (b8:(Nat.ble (((0+c.length)+d.length)*5) (List.length ((List.take ((0+c.length)*5) ([]++(List.take (c.length*5) (ndL c))))++(List.take (d.length*5) (ndL d)))))=true) (b9:(Nat.ble ((0+c.length)+d.length) 1099511627776)=true) (b10:(Nat.ble ((0+c.length)*5) (List.length ([]++(List.take (c.length*5) (ndL c)))))=true) (b11:(Nat.ble (0+c.length) 1099511627776)=true) (b12:(decide (((0:Nat):Int)≤(if ((14:Nat):Int)<(ys.length:Int) then ((14:Nat):Int) else (ys.length:Int))))=true) (b13:(decide ((if ((14:Nat):Int)<(ys.length:Int) then ((14:Nat):Int) else (ys.length:Int))≤(ys.length:Int)))=true) (b14:(decide (((0:Nat):Int)≤(if ((14:Nat):Int)<(xs.length:Int) then ((14:Nat):Int) else (xs.length:Int))))=true) (b15:(decide ((if ((14:Nat):Int)<(xs.length:Int) then ((14:Nat):Int) else (xs.length:Int))≤(xs.length:Int)))=true) (b16:(Nat.ble (((0+b.length)+a.length)+1) 1099511627776)=true) (b17:(Nat.ble (((0+b.length)+a.length)*5) (List.length ((List.take ((0+b.length)*5) ([]++(List.take (b.length*5) (ndL b))))++(List.take (a.length*5) (ndL a)))))=true) (b18:(Nat.beq (List.length (List.take (a.length*5) (ndL a))) (a.length*5))=true) (b19:(Nat.ble ((0+b.length)+a.length) 1099511627776)=true) (b20:(Nat.ble ((0+b.length)*5) (List.length ([]++(List.take (b.length*5) (ndL b)))))=true) (b21:(Nat.beq (List.length (List.take (b.length*5) (ndL b))) (b.length*5))=true) (b22:(Nat.ble (0+b.length) 1099511627776)=true) (b23:(Nat.ble (((0+a.length)+b.length)+1) 1099511627776)=true) (b24:(Nat.ble (((0+a.length)+b.length)*5) (List.length ((List.take ((0+a.length)*5) ([]++(List.take (a.length*5) (ndL a))))++(List.take (b.length*5) (ndL b)))))=true) (b25:(Nat.ble ((0+a.length)+b.length) 1099511627776)=true) (b26:(Nat.ble ((0+a.length)*5) (List.length ([]++(List.take (a.length*5) (ndL a)))))=true) (b27:(Nat.ble (0+a.length) 1099511627776)=true) (b28:(chk (.int .i64) (List.headD (List.drop ((0+(Int.toNat (Int.tmod op ((3:Nat):Int))))*1) [.int .i64 9,.int .i64 13,.int .i64 14]) .dead))=true) (b29:(decide (((0:Nat):Int)≤(Int.tmod op ((3:Nat):Int))))=true) (b30:(decide ((Int.tmod op ((3:Nat):Int))<((3:Nat):Int)))=true) (hB1:((List.take (((0+a.length)+b.length)*5) ((List.take ((0+a.length)*5) ([]++(List.take (a.length*5) (ndL a))))++(List.take (b.length*5) (ndL b))))++ [.int .i64 xo,.bool false,.str [],.str [],.str []])=(ndL w1)) (hB2:((List.take (((0+b.length)+a.length)*5) ((List.take ((0+b.length)*5) ([]++(List.take (b.length*5) (ndL b))))++(List.take (a.length*5) (ndL a))))++ [.int .i64 xo,.bool false,.str [],.str [],.str []])=(ndL w2)) (hB3:((List.take (((0+c.length)+d.length)*5) ((List.take ((0+c.length)*5) ([]++(List.take (c.length*5) (ndL c))))++(List.take (d.length*5) (ndL d))))++ [.int .i64 xo,.bool false,.str [],.str [],.str []])=(ndL w3)) (hB4:((List.take (((0+d.length)+c.length)*5) ((List.take ((0+d.length)*5) ([]++(List.take (d.length*5) (ndL d))))++(List.take (c.length*5) (ndL c))))++ [.int .i64 xo,.bool false,.str [],.str [],.str []])=(ndL w4)) (hs:CO 10 [] (.ret (.bool true))) (m20x:CO 20 [.sl (List.take ((Int.toNat (if ((14:Nat):Int)<(xs.length:Int) then ((14:Nat):Int) else (xs.length:Int)))*1) (iL xs)) ((Int.toNat (if ((14:Nat):Int)<(xs.length:Int) then ((14:Nat):Int) else (xs.length:Int))) - 0) na] (.ret (.own (ndL a) a.length 5))) (m20y:CO 20 [.sl (List.take ((Int.toNat (if ((14:Nat):Int)<(ys.length:Int) then ((14:Nat):Int) else (ys.length:Int)))*1) (iL ys)) ((Int.toNat (if ((14:Nat):Int)<(ys.length:Int) then ((14:Nat):Int) else (ys.length:Int))) - 0) nc] (.ret (.own (ndL b) b.length 5))) (hn:CO 13 [] (.ret (.own [.str [111,116,104,101,114],.str [97],.str [98],.str [116,97,120],.str [119,97,103,101],.str [120,95,49],.str [97,50,51,52,53,54,55,56,57,48,49,50,51,52,53,54,55,56,57,48]] 7 1))) (hr:CO 17 [.sl (List.take ((((0+a.length)+b.length)+1)*5) (ndL w1)) (((0+a.length)+b.length)+1) true,.nilS,.sl [.str [111,116,104,101,114],.str [97],.str [98],.str [116,97,120],.str [119,97,103,101],.str [120,95,49],.str [97,50,51,52,53,54,55,56,57,48,49,50,51,52,53,54,55,56,57,48]] 7 true] (.ret (.bool true))) (hk:CO 21 [.sl (List.take ((((0+a.length)+b.length)+1)*5) (ndL w1)) (((0+a.length)+b.length)+1) true] (.ret (.int .i64 0))) (m11x:CO 11 [.sl (List.take ((Int.toNat (if ((14:Nat):Int)<(xs.length:Int) then ((14:Nat):Int) else (xs.length:Int)))*1) (iL xs)) ((Int.toNat (if ((14:Nat):Int)<(xs.length:Int) then ((14:Nat):Int) else (xs.length:Int))) - 0) na] (.ret (.own (ndL c) c.length 5))) (m11y:CO 11 [.sl (List.take ((Int.toNat (if ((14:Nat):Int)<(ys.length:Int) then ((14:Nat):Int) else (ys.length:Int)))*1) (iL ys)) ((Int.toNat (if ((14:Nat):Int)<(ys.length:Int) then ((14:Nat):Int) else (ys.length:Int))) - 0) nc] (.ret (.own (ndL d) d.length 5))) (l0:anO prog ap [] 115 (.block 0 (.loop (lT 0 (adW f7)))) (aZI xs ys na nc op xo a b c d w1 w2 w3 w4) (.normal) aIB):CO 7 [.sl (iL xs) xs.length na,.sl (iL ys) ys.length nc,.int .u8 op] (.ret (.bool true)):=pK [0] 2 0 (.k 1 b0 (.c b1 (.k 6 b2 (.c b3 (.c b4 (.k 1 b5 (.c b6 (.k 3 b7 (.c b8 (.k 6 b5 (.c b9 (.c b10 (.k 1 b2 (.c b11 (.k 3 b12 (.c b13 (.k 1 b14 (.c b15 (.k 3 b16 (.c b17 (.k 6 b18 (.c b19 (.c b20 (.k 1 b21 (.c b22 (.k 3 b23 (.c b24 (.k 6 b21 (.c b25 (.c b26 (.k 1 b18 (.c b27 (.k 3 b28 (.c b29 (.c b30 (.k 2 b12 (.c b13 (.k 1 b14 (.c b15 .nil))))))))))))))))))))))))))))))))))))))) (.l l0 (.c hn (.b 90 hB4 (.b 82 hB3 (.c m11y (.c m11x (.c hk (.c hr (.c hn (.b 53 hB2 (.b 45 hB1 (.v 36 (.eq hxo) (.c m20y (.c m20x (.c hs .nil)))))))))))))))
end Go.Proofs.Tryz
set_option maxRecDepth 100000
open Go AM
namespace Go.Proofs.Tryz
theorem aTw {o:Int} (h:0≤o):List.headD (List.drop ((0+(Int.toNat (Int.tmod o ((3:Nat):Int))))*1) [AV.int .i64 9,.int .i64 13,.int .i64 14]) .dead= .int .i64 (plO o)∧decide (((0:Nat):Int)≤(Int.tmod o ((3:Nat):Int)))=true∧decide ((Int.tmod o ((3:Nat):Int))<((3:Nat):Int))=true:=by
 have h1:0≤Int.tmod o ((3:Nat):Int):=Int.tmod_nonneg _ h
 have h2:Int.tmod o ((3:Nat):Int)<((3:Nat):Int):=Int.tmod_lt_of_pos o (by decide)
 unfold plO
 rw [show Int.tmod o 3=Int.tmod o ((3:Nat):Int) from rfl]
 generalize Int.tmod o ((3:Nat):Int)=t at*
 have:t=0∨t=1∨t=2:=by omega
 refine ⟨?_,decide_eq_true h1,decide_eq_true h2⟩
 rcases this with rfl|rfl|rfl<;>rfl
theorem aOP {p r:List Nd} {x:Nd} (y:Nd):List.take ((0+(Int.toNat (p.length:Int)))*5) (ndL (p++x::r))++ndC y++List.drop (((0+(Int.toNat (p.length:Int)))*5)+5) (ndL (p++x::r))=ndL (p++y::r):=by
 have hd:=aBq (p:=p) (r:=r) (x:=x)
 rw [Nat.add_zero] at hd
 rw [← List.drop_drop,hd]
 have ht:List.take ((0+(Int.toNat (p.length:Int)))*5) (ndL (p++x::r))=ndL p:=by
  rw [axM,ad_]
  exact List.take_left' (by rw [au3];omega)
 rw [ht,axM,aEL,List.append_assoc]
 rfl
theorem of2:CO 36 [.int .i64 2] (.ret (.agg [.bool false,.str (adX 2),.str (adX 1)])):=aKq 2 (by omega)
theorem aPa {nt:Nat} (hn:73≤nt) (p r:List Nd) (x:Nd) (ha:arI x.op=2) (hl:p.length+r.length<2^38):ad1 prog ap [] nt (lT 0 (adW f20)) (axA (p++x::r) p.length) .normal (axA (p++opN (plO x.op)::r) (p.length+1)):=by
 have hd:=aBq (p:=p) (r:=r) (x:=x)
 have hh:List.headD (List.drop (((0+(Int.toNat (p.length:Int)))*5)+0) (ndL (p++x::r))) .dead= .int .i64 x.op:=by rw [hd];rfl
 have e1:List.take ((0+(Int.toNat (p.length:Int)))*5) (ndL (p++x::r))++ [AV.int .i64 (plO x.op),.bool false,.str [],.str [],.str []]++List.drop (((0+(Int.toNat (p.length:Int)))*5)+5) (ndL (p++x::r))=ndL (p++opN (plO x.op)::r):=aOP (opN (plO x.op))
 have hh2:List.headD (List.drop (((0+(Int.toNat (p.length:Int)))*5)+0) (List.take ((0+(Int.toNat (p.length:Int)))*5) (ndL (p++x::r))++ [AV.int .i64 (plO x.op),.bool false,.str [],.str [],.str []]++List.drop (((0+(Int.toNat (p.length:Int)))*5)+5) (ndL (p++x::r)))) .dead= .int .i64 (plO x.op):=by rw [e1,aBq];rfl
 have hp:(0:Int)≤x.op:=by
  unfold arI at ha
  split at ha
  ·cases ha
  ·split at ha
   ·omega
   ·split at ha<;>cases ha
 obtain ⟨t1,t2,t3⟩:=aTw hp
 have ho:=aEV x.op
 have h1:decide ((p.length:Int)<(((p++x::r).length:Nat):Int))=true:=decide_eq_true (by rw [List.length_append,List.length_cons];omega)
 have h:=a0q hn (p++x::r) p.length x.op (plO x.op) (plO x.op) (by omega) (aAu x.op) (by rw [hh];rfl) (by rw [t1];rfl) (by rw [hh2];rfl)
  (decide_eq_false (by omega)) (by rw [hh2];rfl) (nnW _) (decide_eq_false (by omega)) (decide_eq_false (by omega)) (by rw [Nat.ble_eq,ad_,au3,List.length_append,List.length_cons];omega)
  (by rw [t1];rfl) t2 t3 (by rw [hh];rfl) (by rw [ha];rfl) h1
 rw [e1] at h
 unfold axA at h ⊢
 rw [show (p++opN (plO x.op)::r).length=(p++x::r).length by rw [List.length_append,List.length_append,List.length_cons,List.length_cons]]
 exact h
theorem a0x {nt:Nat} (hn:73≤nt) (p r:List Nd) (x:Nd) (hx:x.op=20∨x.op=24) (hl:p.length+r.length<2^38):ad1 prog ap [] nt (lT 0 (adW f20)) (axA (p++x::r) p.length) .normal (axA (p++upN::r) (p.length+1)):=by
 have hd:=aBq (p:=p) (r:=r) (x:=x)
 have hh:List.headD (List.drop (((0+(Int.toNat (p.length:Int)))*5)+0) (ndL (p++x::r))) .dead= .int .i64 x.op:=by rw [hd];rfl
 have e1:List.take ((0+(Int.toNat (p.length:Int)))*5) (ndL (p++x::r))++ [AV.int .i64 22,.bool false,.str (adX 2),.str (adX 1),.str []]++List.drop (((0+(Int.toNat (p.length:Int)))*5)+5) (ndL (p++x::r))=ndL (p++upN::r):=aOP upN
 have hh2:List.headD (List.drop (((0+(Int.toNat (p.length:Int)))*5)+0) (List.take ((0+(Int.toNat (p.length:Int)))*5) (ndL (p++x::r))++ [AV.int .i64 22,.bool false,.str (adX 2),.str (adX 1),.str []]++List.drop (((0+(Int.toNat (p.length:Int)))*5)+5) (ndL (p++x::r)))) .dead= .int .i64 22:=by rw [e1,aBq];rfl
 have ha:arI x.op=1:=by rcases hx with h|h<;>rw [h]<;>rfl
 have h1:decide ((p.length:Int)<(((p++x::r).length:Nat):Int))=true:=decide_eq_true (by rw [List.length_append,List.length_cons];omega)
 have hb:Nat.ble (((0+(Int.toNat (p.length:Int)))*5)+5) (List.length (ndL (p++x::r)))=true:=by rw [Nat.ble_eq,ad_,au3,List.length_append,List.length_cons];omega
 have h:ad1 prog ap [] nt (lT 0 (adW f20)) (axA (p++x::r) p.length) .normal ⟨[(3,.ref 0 0 0 (p++x::r).length),(4,.int .i64 ((p.length+1:Nat):Int))],[(0,⟨List.take ((0+(Int.toNat (p.length:Int)))*5) (ndL (p++x::r))++ [AV.int .i64 22,.bool false,.str (adX 2),.str (adX 1),.str []]++List.drop (((0+(Int.toNat (p.length:Int)))*5)+5) (ndL (p++x::r)),0,false,0,5,true⟩)],.dead,[]⟩:=by
  by_cases h20:x.op=20
  ·exact a0r hn (p++x::r) p.length x.op 22 0 (by omega) (aAu x.op) of2 (by rw [hh];rfl) (by rw [hh2];rfl) rfl (by rw [hh2];rfl) (nnW _) hb (decide_eq_true h20) (by rw [hh];rfl) (by rw [ha];rfl) h1
  ·exact a0s hn (p++x::r) p.length x.op 22 0 (by omega) (aAu x.op) of2 (by rw [hh];rfl) (by rw [hh2];rfl) rfl (by rw [hh2];rfl) (nnW _) hb (decide_eq_true (by omega)) (by rw [hh];rfl) (decide_eq_false h20) (by rw [ha];rfl) h1
 rw [e1] at h
 unfold axA at h ⊢
 rw [show (p++upN::r).length=(p++x::r).length by rw [List.length_append,List.length_append,List.length_cons,List.length_cons]]
 exact h
theorem aRZ {nt:Nat} (hn:73≤nt) (p r:List Nd) (x:Nd) (ha:arI x.op ≠ 2) (h0:x.op ≠ 20) (h4:x.op ≠ 24) (h5:x.op ≠ 15) (hl:p.length+r.length<2^38):ad1 prog ap [] nt (lT 0 (adW f20)) (axA (p++x::r) p.length) .normal (axA (p++x::r) (p.length+1)):=by
 have hd:=aBq (p:=p) (r:=r) (x:=x)
 have hh:List.headD (List.drop (((0+(Int.toNat (p.length:Int)))*5)+0) (ndL (p++x::r))) .dead= .int .i64 x.op:=by rw [hd];rfl
 have h1:decide ((p.length:Int)<(((p++x::r).length:Nat):Int))=true:=decide_eq_true (by rw [List.length_append,List.length_cons];omega)
 exact a0u hn (p++x::r) p.length x.op 0 0 (by omega) (aAu x.op) (by rw [hh];rfl) (decide_eq_false h5) (by rw [hh];rfl) (nnW _) (decide_eq_false h4) (decide_eq_false h0) (decide_eq_false (by omega)) h1
theorem a0w {nt:Nat} (hn:73≤nt) (p r:List Nd) (x:Nd) (h5:x.op=15) (hl:p.length+r.length<2^38):ad1 prog ap [] nt (lT 0 (adW f20)) (axA (p++x::r) p.length) .normal (axA (p++opN 14::opN 13::r) (p.length+1)):=by
 have hd:=aBq (p:=p) (r:=r) (x:=x)
 have hh:List.headD (List.drop (((0+(Int.toNat (p.length:Int)))*5)+0) (ndL (p++x::r))) .dead= .int .i64 x.op:=by rw [hd];rfl
 have ha:arI x.op=3:=by rw [h5];rfl
 have hlen:(p++x::r).length=p.length+1+r.length:=by rw [List.length_append,List.length_cons];omega
 have h1:decide ((p.length:Int)<(((p++x::r).length:Nat):Int))=true:=decide_eq_true (by omega)
 have hw:IntKind.wrap .i64 ((p.length:Int)+((1:Nat):Int))=((p.length+1:Nat):Int):=(AV.int.inj (wk1 (by omega))).2
 have e0:List.take (((Int.toNat (p.length:Int)) - 0)*5) (ndL (p++x::r))=ndL p:=by
  rw [axM,ad_,Nat.sub_zero]
  exact List.take_left' (by rw [au3])
 have e2:List.take (((Int.toNat (((p++x::r).length:Nat):Int)) - (Int.toNat (IntKind.wrap .i64 ((p.length:Int)+((1:Nat):Int)))))*5) (List.drop ((0+(Int.toNat (IntKind.wrap .i64 ((p.length:Int)+((1:Nat):Int)))))*5) (ndL (p++x::r)))=ndL r:=by
  rw [hw,ad_,ad_,hlen,show (0+(p.length+1))*5=(p.length*5)+5 by omega,← List.drop_drop]
  have:List.drop (p.length*5) (ndL (p++x::r))=ndC x++ndL r:=by rw [ad_,Nat.zero_add,Nat.add_zero] at hd;exact hd
  rw [this]
  show List.take _ (ndL r)=ndL r
  exact List.take_of_length_le (by rw [au3];omega)
 have h:=a0t hn (p++x::r) p.length x.op 0 0 (by omega) (aAu x.op) (by rw [hh];rfl)
  (by rw [e2,hw,ad_,ad_,hlen,au3,Nat.beq_eq];omega)
  (by rw [Nat.ble_eq,hw,ad_,ad_,ad_,hlen];omega)
  (by rw [e0,Nat.ble_eq,ad_,List.nil_append,List.length_append,List.length_take,au3];simp only [List.length_cons,List.length_nil];omega)
  (by rw [hw];exact nnW _) (decide_eq_true (by rw [hw,hlen];omega)) (decide_eq_true (Int.le_refl _)) (by rw [Nat.ble_eq,ad_];omega)
  (by rw [e0,Nat.ble_eq,ad_,List.nil_append,au3];omega) (by rw [e0,ad_,au3,Nat.beq_eq];omega) (by rw [Nat.ble_eq,ad_];omega) (nnW _) (decide_eq_true (by rw [hlen];omega))
  (decide_eq_true h5) (by rw [hh];rfl) (decide_eq_false (by omega)) (decide_eq_false (by omega)) (by rw [ha];rfl) h1
 rw [e0,e2,List.nil_append] at h
 have e3:List.take ((0+((Int.toNat (p.length:Int)) - 0))*5) (ndL p)=ndL p:=by
  rw [ad_];exact List.take_of_length_le (by rw [au3];omega)
 have e4:ndL p++ [AV.int .i64 14,.bool false,.str [],.str [],.str [],.int .i64 13,.bool false,.str [],.str [],.str []]=ndL (p++ [opN 14,opN 13]):=by rw [axM];rfl
 have e5:List.take (((0+((Int.toNat (p.length:Int)) - 0))+2)*5) (ndL (p++ [opN 14,opN 13]))++ndL r=ndL (p++opN 14::opN 13::r):=by
  rw [ad_,List.take_of_length_le (by rw [au3,List.length_append];simp only [List.length_cons,List.length_nil];omega),← axM,List.append_assoc]
  rfl
 rw [e3,e4,e5] at h
 unfold axA at h ⊢
 rw [show (p++opN 14::opN 13::r).length=(((0+((Int.toNat (p.length:Int)) - 0))+2)+((Int.toNat (((p++x::r).length:Nat):Int)) - (Int.toNat (IntKind.wrap .i64 ((p.length:Int)+((1:Nat):Int)))))) by
  rw [hw,ad_,ad_,ad_,hlen,List.length_append];simp only [List.length_cons];omega]
 exact h
theorem aRX {nt:Nat} (hn:73≤nt):∀ (r p:List Nd),p.length+2*r.length<2^38→aeb prog ap [] nt (lT 0 (adW f20)) (fun _=> .exit 0) (fun q:Nat × List Nd=>axA q.2 q.1) aLn (p.length,p++r) (p++plQ r):=by
 intro r
 induction r with
 |nil=>
  intro p hl
  rw [show plQ []= [] from rfl,List.append_nil]
  exact .done (a0v hn p p.length 0 0 0 (by simp only [List.length_nil] at hl;omega) (decide_eq_false (by omega)))
 | cons x r ih=>
  intro p hl
  rw [List.length_cons] at hl
  rw [aEW]
  have one:∀ y:Nd,plN x= [y]→ad1 prog ap [] nt (lT 0 (adW f20)) (axA (p++x::r) p.length) .normal (axA (p++y::r) (p.length+1))→aeb prog ap [] nt (lT 0 (adW f20)) (fun _=> .exit 0) (fun q:Nat × List Nd=>axA q.2 q.1) aLn (p.length,p++x::r) (p++(plN x++plQ r)):=by
   intro y hy h
   have h2:=ih (p++ [y]) (by rw [List.length_append,List.length_singleton];omega)
   rw [List.append_assoc,List.append_assoc,List.singleton_append,List.length_append,List.length_singleton] at h2
   rw [hy]
   exact .next h h2
  by_cases h5:x.op=15
  ·have hN:plN x= [opN 14,opN 13]:=by unfold plN;rw [if_pos h5]
   have h2:=ih (p++ [opN 14,opN 13]) (by rw [List.length_append];simp only [List.length_cons,List.length_nil];omega)
   rw [List.append_assoc,List.append_assoc,show (p++ [opN 14,opN 13]).length=p.length+1+1 by rw [List.length_append];rfl] at h2
   rw [hN]
   have h3:ad1 prog ap [] nt (lT 0 (adW f20)) (axA (p++opN 14::opN 13::r) (p.length+1)) .normal (axA (p++([opN 14,opN 13]++r)) (p.length+1+1)):=by
    have h3:=aPa hn (p++ [opN 14]) r (opN 13) rfl (by rw [List.length_append,List.length_singleton];omega)
    rw [List.append_assoc,List.append_assoc,List.length_append,List.length_singleton] at h3
    exact h3
   have h4:aeb prog ap [] nt (lT 0 (adW f20)) (fun _=> .exit 0) (fun q:Nat × List Nd=>axA q.2 q.1) aLn (p.length+1,p++opN 14::opN 13::r) (p++([opN 14,opN 13]++plQ r)):=by
    refine .next ?_ h2
    exact h3
   exact .next (a0w hn p r x h5 (by omega)) h4
  ·by_cases ha:arI x.op=2
   ·exact one _ (by unfold plN;rw [if_neg h5,if_pos ha]) (aPa hn p r x ha (by omega))
   ·by_cases hu:x.op=20∨x.op=24
    ·exact one _ (by unfold plN;rw [if_neg h5,if_neg ha,if_pos hu]) (a0x hn p r x hu (by omega))
    ·exact one _ (by unfold plN;rw [if_neg h5,if_neg ha,if_neg hu]) (aRZ hn p r x ha (by omega) (by omega) h5 (by omega))
theorem aIT (xs:List Int) (na:Bool) (e:List Nd) (hl:e.length<2^30) (hm:CO 11 [.sl (iL xs) xs.length na] (.ret (.own (ndL e) e.length 5))):CO 20 [.sl (iL xs) xs.length na] (.ret (.own (ndL (plQ e)) (plQ e).length 5)):=by
 have hL:=fun (nt:Nat) (hn:73≤nt)=>aRX hn e [] (by rw [List.length_nil];omega)
 have h:=plF xs na e (plQ e) hm (aeb.blk hL (by simp) rfl (anW.of ⟨rfl,rfl,trivial⟩) (anW.of ⟨rfl,trivial⟩))
 rw [azR] at h
 exact h
theorem aOv {nt:Nat} (hn:115≤nt) (w1 w2 w3 w4:List Nd) (k:Nat) (S1 S2 S3 S4:List UInt8→Nat) (hk:k<7) (h1:∀ nm,S1 nm=S2 nm) (h3:∀ nm,S3 nm=S4 nm) (A1:∀ nm,CO 14 [.sl (ndL w1) w1.length true,.nilS,.int .i64 6,.str nm] (.ret (.int .i64 ((S1 nm:Nat):Int)))) (A2:∀ nm,CO 14 [.sl (ndL w2) w2.length true,.nilS,.int .i64 6,.str nm] (.ret (.int .i64 ((S2 nm:Nat):Int)))) (A3:∀ nm,CO 14 [.sl (ndL w3) w3.length true,.nilS,.int .i64 5,.str nm] (.ret (.int .i64 ((S3 nm:Nat):Int)))) (A4:∀ nm,CO 14 [.sl (ndL w4) w4.length true,.nilS,.int .i64 5,.str nm] (.ret (.int .i64 ((S4 nm:Nat):Int)))):
  ad1 prog ap [] nt (lT 0 (adW f7)) (aHr w1 w2 w3 w4 k) .normal (aHr w1 w2 w3 w4 (k+1)):=by
 have hx:=aRM hk
 generalize nmL.getD k []=nm at hx
 have h7:(decide ((k:Int)<((7:Nat):Int)))=true:=aw4 hk
 exact aZG hn w1 w2 w3 w4 k S1 S2 S3 S4 nm _ (by omega) A1 A2 A3 A4 hx (by rw [h3];exact beq_self_eq_true _) (by rw [h1];exact beq_self_eq_true _) (nnW k) h7
theorem aUG {nt:Nat} (hn:115≤nt) (w1 w2 w3 w4:List Nd) (S1 S2 S3 S4:List UInt8→Nat) (h1:∀ nm,S1 nm=S2 nm) (h3:∀ nm,S3 nm=S4 nm) (A1:∀ nm,CO 14 [.sl (ndL w1) w1.length true,.nilS,.int .i64 6,.str nm] (.ret (.int .i64 ((S1 nm:Nat):Int)))) (A2:∀ nm,CO 14 [.sl (ndL w2) w2.length true,.nilS,.int .i64 6,.str nm] (.ret (.int .i64 ((S2 nm:Nat):Int)))) (A3:∀ nm,CO 14 [.sl (ndL w3) w3.length true,.nilS,.int .i64 5,.str nm] (.ret (.int .i64 ((S3 nm:Nat):Int)))) (A4:∀ nm,CO 14 [.sl (ndL w4) w4.length true,.nilS,.int .i64 5,.str nm] (.ret (.int .i64 ((S4 nm:Nat):Int)))):∀ (d k:Nat),k+d=7→
  aeb prog ap [] nt (lT 0 (adW f7)) (fun _=> .exit 0) (aHr w1 w2 w3 w4) (fun _:Unit=>aIB) k ():=by
 intro d
 induction d with
 |zero=>
  intro k hd
  exact .done (aZH hn w1 w2 w3 w4 k (aIn (by omega)))
 |succ d ih=>
  intro k hd
  exact .next (aOv hn w1 w2 w3 w4 k S1 S2 S3 S4 (by omega) h1 h3 A1 A2 A3 A4) (ih (k+1) (by omega))
theorem a9e (xs ys:List Int) (na nc:Bool) (op xo:Int) (a b c d w1 w2 w3 w4:List Nd) (f1:anT (.sl ((List.drop (0*5) (ndL w1)).take ((((0+a.length)+b.length)+1)*5)) (((0+a.length)+b.length)+1) true) (.sl (ndL w1) w1.length true)) (f2:anT (.sl ((List.drop (0*5) (ndL w2)).take ((((0+b.length)+a.length)+1)*5)) (((0+b.length)+a.length)+1) true) (.sl (ndL w2) w2.length true)) (f3:anT (.sl ((List.drop (0*5) (ndL w3)).take ((((0+c.length)+d.length)+1)*5)) (((0+c.length)+d.length)+1) true) (.sl (ndL w3) w3.length true)) (f4:anT (.sl ((List.drop (0*5) (ndL w4)).take ((((0+d.length)+c.length)+1)*5)) (((0+d.length)+c.length)+1) true) (.sl (ndL w4) w4.length true)) (s2:St) (h:anO prog ap [] 115 (.block 0 (.loop (lT 0 (adW f7)))) (aHr w1 w2 w3 w4 0) .normal s2):anO prog ap [] 115 (.block 0 (.loop (lT 0 (adW f7)))) (aZI xs ys na nc op xo a b c d w1 w2 w3 w4) .normal s2:=by
 intro nt hn
 refine ad1.tidy [7,11,12,15,16,91,92,93] (s1:=⟨[(7,.bool true),(11,.ref 0 0 0 (((0+a.length)+b.length)+1)),(12,.ref 1 0 0 (((0+b.length)+a.length)+1)),(15,.ref 2 0 0 (((0+c.length)+d.length)+1)),(16,.ref 3 0 0 (((0+d.length)+c.length)+1)),(91,.ref 4 0 0 7),(92,.int .i64 7),(93,.int .i64 0)],[(0,⟨(ndL w1),0,true,(List.length (ndL w1)),5,true⟩),(1,⟨(ndL w2),0,false,0,5,true⟩),(2,⟨(ndL w3),0,false,0,5,true⟩),(3,⟨(ndL w4),0,false,0,5,true⟩),(4,⟨[.str [111,116,104,101,114],.str [97],.str [98],.str [116,97,120],.str [119,97,103,101],.str [120,95,49],.str [97,50,51,52,53,54,55,56,57,48,49,50,51,52,53,54,55,56,57,48]],0,false,0,1,true⟩)],.dead,[]⟩) ?_ (by kernel_rfl) rfl
 refine ad1.ahead 4 ⟨[.str [111,116,104,101,114],.str [97],.str [98],.str [116,97,120],.str [119,97,103,101],.str [120,95,49],.str [97,50,51,52,53,54,55,56,57,48,49,50,51,52,53,54,55,56,57,48]],0,false,0,1,true⟩ (en':= [(7,.bool true),(11,.ref 0 0 0 (((0+a.length)+b.length)+1)),(12,.ref 1 0 0 (((0+b.length)+a.length)+1)),(15,.ref 2 0 0 (((0+c.length)+d.length)+1)),(16,.ref 3 0 0 (((0+d.length)+c.length)+1)),(91,.sl [.str [111,116,104,101,114],.str [97],.str [98],.str [116,97,120],.str [119,97,103,101],.str [120,95,49],.str [97,50,51,52,53,54,55,56,57,48,49,50,51,52,53,54,55,56,57,48]] 7 true),(92,.int .i64 7),(93,.int .i64 0)]) (hp':= [(0,⟨(ndL w1),0,true,(List.length (ndL w1)),5,true⟩),(1,⟨(ndL w2),0,false,0,5,true⟩),(2,⟨(ndL w3),0,false,0,5,true⟩),(3,⟨(ndL w4),0,false,0,5,true⟩)]) ?_ (Nat.zero_le _) rfl ⟨.same rfl,.same rfl,.same rfl,.same rfl,.same rfl,.ref,.same rfl,.same rfl,trivial⟩ ⟨rfl,FzB.same rfl,by decide,rfl,FzB.same rfl,by decide,rfl,FzB.same rfl,by decide,rfl,FzB.same rfl,by decide,rfl⟩
 refine ad1.ahead 3 ⟨(ndL w4),0,false,0,5,true⟩ (en':= [(7,.bool true),(11,.ref 0 0 0 (((0+a.length)+b.length)+1)),(12,.ref 1 0 0 (((0+b.length)+a.length)+1)),(15,.ref 2 0 0 (((0+c.length)+d.length)+1)),(16,.sl (ndL w4) w4.length true),(91,.sl [.str [111,116,104,101,114],.str [97],.str [98],.str [116,97,120],.str [119,97,103,101],.str [120,95,49],.str [97,50,51,52,53,54,55,56,57,48,49,50,51,52,53,54,55,56,57,48]] 7 true),(92,.int .i64 7),(93,.int .i64 0)]) (hp':= [(0,⟨(ndL w1),0,true,(List.length (ndL w1)),5,true⟩),(1,⟨(ndL w2),0,false,0,5,true⟩),(2,⟨(ndL w3),0,false,0,5,true⟩)]) ?_ (Nat.zero_le _) rfl ⟨.same rfl,.same rfl,.same rfl,.same rfl,.fit .ref f4,.same rfl,.same rfl,.same rfl,trivial⟩ ⟨rfl,FzB.same rfl,by decide,rfl,FzB.same rfl,by decide,rfl,FzB.same rfl,by decide,rfl⟩
 refine ad1.ahead 2 ⟨(ndL w3),0,false,0,5,true⟩ (en':= [(7,.bool true),(11,.ref 0 0 0 (((0+a.length)+b.length)+1)),(12,.ref 1 0 0 (((0+b.length)+a.length)+1)),(15,.sl (ndL w3) w3.length true),(16,.sl (ndL w4) w4.length true),(91,.sl [.str [111,116,104,101,114],.str [97],.str [98],.str [116,97,120],.str [119,97,103,101],.str [120,95,49],.str [97,50,51,52,53,54,55,56,57,48,49,50,51,52,53,54,55,56,57,48]] 7 true),(92,.int .i64 7),(93,.int .i64 0)]) (hp':= [(0,⟨(ndL w1),0,true,(List.length (ndL w1)),5,true⟩),(1,⟨(ndL w2),0,false,0,5,true⟩)]) ?_ (Nat.zero_le _) rfl ⟨.same rfl,.same rfl,.same rfl,.fit .ref f3,.same rfl,.same rfl,.same rfl,.same rfl,trivial⟩ ⟨rfl,FzB.same rfl,by decide,rfl,FzB.same rfl,by decide,rfl⟩
 refine ad1.ahead 1 ⟨(ndL w2),0,false,0,5,true⟩ (en':= [(7,.bool true),(11,.ref 0 0 0 (((0+a.length)+b.length)+1)),(12,.sl (ndL w2) w2.length true),(15,.sl (ndL w3) w3.length true),(16,.sl (ndL w4) w4.length true),(91,.sl [.str [111,116,104,101,114],.str [97],.str [98],.str [116,97,120],.str [119,97,103,101],.str [120,95,49],.str [97,50,51,52,53,54,55,56,57,48,49,50,51,52,53,54,55,56,57,48]] 7 true),(92,.int .i64 7),(93,.int .i64 0)]) (hp':= [(0,⟨(ndL w1),0,true,(List.length (ndL w1)),5,true⟩)]) ?_ (Nat.zero_le _) rfl ⟨.same rfl,.same rfl,.fit .ref f2,.same rfl,.same rfl,.same rfl,.same rfl,.same rfl,trivial⟩ ⟨rfl,FzB.same rfl,by decide,rfl⟩
 refine ad1.ahead 0 ⟨(ndL w1),0,true,(List.length (ndL w1)),5,true⟩ (en':= [(7,.bool true),(11,.sl (ndL w1) w1.length true),(12,.sl (ndL w2) w2.length true),(15,.sl (ndL w3) w3.length true),(16,.sl (ndL w4) w4.length true),(91,.sl [.str [111,116,104,101,114],.str [97],.str [98],.str [116,97,120],.str [119,97,103,101],.str [120,95,49],.str [97,50,51,52,53,54,55,56,57,48,49,50,51,52,53,54,55,56,57,48]] 7 true),(92,.int .i64 7),(93,.int .i64 0)]) (hp':= []) ?_ (Nat.zero_le _) rfl ⟨.same rfl,.fit .ref f1,.same rfl,.same rfl,.same rfl,.same rfl,.same rfl,.same rfl,trivial⟩ rfl
 exact h nt hn
theorem aDY (a b:List Nd) (x:Nd):((0+a.length)+b.length)+1=(a++b++ [x]).length:=by simp only [List.length_append,List.length_singleton];omega
theorem aBE (a b:List Nd) (x:Nd):(List.take (((0+a.length)+b.length)*5) ((List.take ((0+a.length)*5) ([]++(List.take (a.length*5) (ndL a))))++(List.take (b.length*5) (ndL b))))++ndC x=ndL (a++b++ [x]):=by
 rw [azR,azR,List.nil_append,Nat.zero_add,azR,← axM,show (a.length+b.length)*5=(a++b).length*5 by rw [List.length_append],azR,axM]
 simp [ndL]
theorem aDr (a b:List Nd) (x:Nd):anT (.sl ((List.drop (0*5) (ndL (a++b++ [x]))).take ((((0+a.length)+b.length)+1)*5)) (((0+a.length)+b.length)+1) true) (.sl (ndL (a++b++ [x])) (a++b++ [x]).length true):=by
 rw [aDY a b x,Nat.zero_mul,List.drop_zero,azR];exact anT.refl _
theorem azN {n:Nat} (h:n<1000):Nat.ble n 1099511627776=true:=Nat.ble_eq_true_of_le (by omega)
theorem aQk (a b:List Nd):(Nat.ble (((0+a.length)+b.length)*5) (List.length ((List.take ((0+a.length)*5) ([]++(List.take (a.length*5) (ndL a))))++(List.take (b.length*5) (ndL b)))))=true:=by
 rw [Nat.ble_eq,azR,azR,List.nil_append,Nat.zero_add,azR,List.length_append,au3,au3];omega
theorem aQm (a:List Nd):(Nat.beq (List.length (List.take (a.length*5) (ndL a))) (a.length*5))=true:=by rw [azR,au3];exact Nat.beq_refl _
theorem aQl (a:List Nd):(Nat.ble ((0+a.length)*5) (List.length ([]++(List.take (a.length*5) (ndL a)))))=true:=by rw [azR,List.nil_append,au3,Nat.zero_add];exact Nat.ble_eq_true_of_le (Nat.le_refl _)
theorem aPA:aJv 129 awI []:=by intro q hq;cases hq
theorem aHN {a b:List Nd} {x:Nd} (ha:∀ y ∈ a,y.sm) (hb:∀ y ∈ b,y.sm) (hx:x.sm):∀ y ∈ a++b++ [x],y.sm:=by
 intro y hy
 rcases List.mem_append.1 hy with hy|hy
 ·rcases List.mem_append.1 hy with hy|hy
  ·exact ha y hy
  ·exact hb y hy
 ·rw [List.mem_singleton] at hy;subst hy;exact hx
theorem aDG {e:List Nd} (op:Int) (hs:∀ y ∈ e,y.sm) (hl:e.length<2^40):∀ nm,CO 14 [.sl (ndL e) e.length true,.nilS,.int .i64 op,.str nm] (.ret (.int .i64 ((aPt e [] op nm:Nat):Int))):=fun nm=>
 adY.args (.cons (anT.refl _) (.cons (anT.nilS false rfl) (.cons (anT.refl _) (.cons (anT.refl _) .nil)))) (aub e true [] false awI op nm hs hl (by decide) aPA)
theorem aRY {e:List Nd} (hs:∀ y ∈ e,y.sm) (hl:e.length<2^40) (hc:an_ e=0) (hp:∀ x ∈ e,plI x.op):CO 17 [.sl (ndL e) e.length true,.nilS,.sl [.str [111,116,104,101,114],.str [97],.str [98],.str [116,97,120],.str [119,97,103,101],.str [120,95,49],.str [97,50,51,52,53,54,55,56,57,48,49,50,51,52,53,54,55,56,57,48]] 7 true] (.ret (.bool true)):=by
 have h:=awJ e true [] false awI nmL true hs hl (by decide) aPA (by decide)
 have hr:aDF awI e [] nmL=true:=by
  unfold aDF
  rw [hc,Bool.and_eq_true]
  refine ⟨rfl,List.all_eq_true.2 fun x _=> ?_⟩
  have h1:avg (ckS awI) (upS awI) e (([]:List Sq).map Sq.c) 6 x≤1:=aIS hc ⟨by decide,by decide⟩ hp
  have h2:avg (ckS awI) (upS awI) e (([]:List Sq).map Sq.c) 8 x≤1:=aIS hc ⟨by decide,by decide⟩ hp
  dsimp only [aPj]
  rw [decide_eq_false (by omega),decide_eq_false (by omega)]
  rfl
 rw [hr] at h
 exact adY.args (.cons (anT.refl _) (.cons (anT.nilS false rfl) (.cons (anT.refl _) .nil))) h
theorem a0y (xs ys:List Int) (na nc:Bool) (op:Int) (ho:0≤op):CO 7 [.sl (iL xs) xs.length na,.sl (iL ys) ys.length nc,.int .u8 op] (.ret (.bool true)):=by
 obtain ⟨c,hcl,hcn,hcc,hcs,mc⟩:=aTo 14 (by omega) xs na
 obtain ⟨d,hdl,hdn,hdc,hds,md⟩:=aTo 14 (by omega) ys nc
 have pa:CO 20 [ilC 14 xs na] (.ret (.own (ndL (plQ c)) (plQ c).length 5)):=by
  rw [aJ4] at mc ⊢;exact aIT _ na c (by omega) mc
 have pb:CO 20 [ilC 14 ys nc] (.ret (.own (ndL (plQ d)) (plQ d).length 5)):=by
  rw [aJ4] at md ⊢;exact aIT _ nc d (by omega) md
 have hal:=aHG c
 have hbl:=aHG d
 have hac:an_ (plQ c)=0:=aBf (aHF c 0 1 (azo hcc).1) (by omega)
 have hbc:an_ (plQ d)=0:=aBf (aHF d 0 1 (azo hdc).1) (by omega)
 have has:=aO9 hcs
 have hbs:=aO9 hds
 have hai:=aO8 c
 have hbi:=aO8 d
 generalize plQ c=a at*
 generalize plQ d=b at*
 obtain ⟨t1,t2,t3⟩:=aTw ho
 have hx:=aEV op
 generalize plO op=xo at*
 have hw:aeF (opN xo)=0:=aB6 hx
 have k1:=aDJ (a:=a) (b:=b) (x:=opN xo) hx hw hac hbc (by omega)
 have k2:=aDJ (a:=b) (b:=a) (x:=opN xo) hx hw hbc hac (by omega)
 have k3:=aDJ (a:=c) (b:=d) (x:=opN xo) hx hw hcc hdc (by omega)
 have k4:=aDJ (a:=d) (b:=c) (x:=opN xo) hx hw hdc hcc (by omega)
 have s1:=aHN has hbs (aGA xo)
 have s2:=aHN hbs has (aGA xo)
 have s3:=aHN hcs hds (aGA xo)
 have s4:=aHN hds hcs (aGA xo)
 have l1:=aDY a b (opN xo)
 have l2:=aDY b a (opN xo)
 have l3:=aDY c d (opN xo)
 have l4:=aDY d c (opN xo)
 have q1:∀ nm,aPt (a++b++ [opN xo]) [] 6 nm=aPt (b++a++ [opN xo]) [] 6 nm:=fun nm=>aJj hx ⟨by decide,by decide⟩ hac hbc k1 k2
 have q3:∀ nm,aPt (c++d++ [opN xo]) [] 5 nm=aPt (d++c++ [opN xo]) [] 5 nm:=fun nm=>aJj hx ⟨by decide,by decide⟩ hcc hdc k3 k4
 have i1:∀ y ∈ a++b++ [opN xo],plI y.op:=by
  intro y hy
  rcases List.mem_append.1 hy with hy|hy
  ·rcases List.mem_append.1 hy with hy|hy
   ·exact hai y hy
   ·exact hbi y hy
  ·rw [List.mem_singleton] at hy;subst hy
   rcases hx with h|h|h
   ·exact .inr (.inl h)
   ·exact .inr (.inr (.inl h))
   ·exact .inr (.inr (.inr (.inl h)))
 have c1:=aBE a b (opN xo)
 have c2:=aBE b a (opN xo)
 have c3:=aBE c d (opN xo)
 have c4:=aBE d c (opN xo)
 have f1:=aDr a b (opN xo)
 have f2:=aDr b a (opN xo)
 have f3:=aDr c d (opN xo)
 have f4:=aDr d c (opN xo)
 have hr:=aRY s1 (by omega) k1 i1
 have hk:=aBN (a++b++ [opN xo]) true s1
 rw [k1] at hk
 have A1:=aDG 6 s1 (by omega)
 have A2:=aDG 6 s2 (by omega)
 have A3:=aDG 5 s3 (by omega)
 have A4:=aDG 5 s4 (by omega)
 have e1:AV.sl (List.take ((((0+a.length)+b.length)+1)*5) (ndL (a++b++ [opN xo]))) (((0+a.length)+b.length)+1) true= .sl (ndL (a++b++ [opN xo])) (a++b++ [opN xo]).length true:=by rw [l1,azR]
 rw [← e1] at hr hk
 generalize a++b++ [opN xo]=w1 at*
 generalize b++a++ [opN xo]=w2 at*
 generalize c++d++ [opN xo]=w3 at*
 generalize d++c++ [opN xo]=w4 at*
 have hL:anO prog ap [] 115 (.block 0 (.loop (lT 0 (adW f7)))) (aHr w1 w2 w3 w4 0) .normal aIB:=
  aeb.blk (s:=aHr w1 w2 w3 w4 0) (s':=aIB) (id:=0) (fun nt hn=>aUG hn w1 w2 w3 w4 _ _ _ _ q1 q3 A1 A2 A3 A4 7 0 rfl) (by simp) rfl (anW.refl _) (anW.refl _)
 exact laF xs ys na nc op xo a b c d w1 w2 w3 w4 (by rw [t1];rfl) (azN (by omega)) (aQk d c) (aQm c) (azN (by omega)) (aQl d) (aQm d) (azN (by omega)) (azN (by omega)) (aQk c d) (azN (by omega)) (aQl c) (azN (by omega)) (mc0 14 _) (mc1 14 _) (mc0 14 _) (mc1 14 _) (azN (by omega)) (aQk b a) (aQm a) (azN (by omega)) (aQl b) (aQm b) (azN (by omega)) (azN (by omega)) (aQk a b) (azN (by omega)) (aQl a) (azN (by omega)) (by rw [t1];rfl) t2 t3 c1 c2 c3 c4 aMI pa pb a9j hr hk mc md (a9e xs ys na nc op xo a b c d w1 w2 w3 w4 f1 f2 f3 f4 _ hL)
end Go.Proofs.Tryz
set_option maxRecDepth 100000
open Go AM Go.ChangeShapes Go.WideShapes Go.ChangeAt Go.RowKit
namespace Go.Proofs.Tryz
noncomputable def aEB (t:TypeId) (d:DataW Unit):List Lit:=((axu prog 6 t d 0).getD []).map (·.2)
open Go.Proofs.YtcjindbblhcopaaGreatDoor
def aOw:List (String × DataW Unit):= [("unicode/utf8.acceptRanges",Rows.laid_unicode_utf8_acceptRanges),("tithing/expr.table",Rows.laid_tithing_expr_table),("unicode/utf8.first",Rows.laid_unicode_utf8_first)]
theorem aMs:aOw.filter (fun x=>x.2.handleName?.isSome)= []:=by kernel_rfl
theorem aYW {W:World} (h:laidMetH prog aOw W):aNq ap W:=by
 have c (i:Nat) (n:String) (d:DataW Unit) (hm:aOw[i]? =some (n,d)) (g:Nat) (t:TypeId) (hg:prog.globalNamed n=some g) (ht:(prog.globals[g]?).map (·.type)=some t)
   (hl:axu prog 6 t d 0=some ((aEB t d).zipIdx.map fun (l,i)=>(i,l))):=aKc h aMs (List.mem_of_getElem? hm) hg ht hl
 have c0:=c 1 _ _ rfl 0 105 (by kernel_rfl) (by kernel_rfl) (by kernel_rfl)
 have c2:=c 0 _ _ rfl 2 219 (by kernel_rfl) (by kernel_rfl) (by kernel_rfl)
 have key (k:Nat) (t:TypeId) (d:DataW Unit) (hx:(ap.gl[k]?).join=some ((aEB t d).map aIE)) (ho:(aEB t d).all aEA=true) (hc:∀ (j:Nat) (l:Lit),(aEB t d)[j]? =some l→W.cell? ⟨k,j,none⟩=some (ayI l)):
   ∀ xs,(ap.gl[k]?).join=some xs→∃ ls:List Lit,xs=ls.map aIE∧ls.all aEA=true∧∀ (j:Nat) (l:Lit),ls[j]? =some l→W.cell? ⟨k,j,none⟩=some (ayI l):=by
  intro xs hxs
  rw [hx] at hxs
  cases hxs
  exact ⟨_,rfl,ho,hc⟩
 intro k
 match k with
 |0=>exact key 0 _ _ (by kernel_rfl) (by kernel_rfl) c0
 |1=>intro xs hxs;exact absurd (show (none:Option (List AV))=some xs from hxs) (by simp)
 |2=>exact key 2 _ _ (by kernel_rfl) (by kernel_rfl) c2
 |3=>intro xs hxs;exact absurd (show (none:Option (List AV))=some xs from hxs) (by simp)
 |k+4=>
  intro xs hxs
  have:ap.gl.length=4:=by kernel_rfl
  rw [List.getElem?_eq_none (by omega)] at hxs
  cases hxs
theorem own:ownKnob prog.godebug=none:=by kernel_rfl
theorem a2m:laidOutB prog=true:=by kernel_rfl
noncomputable def aVC (t:TypeId) (d:DataW Unit):Obj→Obj
 | .cells _ t' fr=> .cells ((aEB t d).map ayI).toArray t' fr
 |o=>o
noncomputable def aWh (os:Os):World:=
 let w:=World.holding prog os ⟨#[],#[],[]⟩
 {w with heap:=((w.heap.modify 0 (aVC 105 Rows.laid_tithing_expr_table)).modify 1 (aVC 216 Rows.laid_unicode_utf8_first)).modify 2 (aVC 219 Rows.laid_unicode_utf8_acceptRanges)}
end Go.Proofs.Tryz
