/- Contracts of functions that the law reaches, each by its own hypotheses; joined by a program of mine. -/
import Derived.Test.YtcjindbblhcopaaGreatDoorC2
import Derived.Test.YtcjindbblhcopaaGreatDoorM5
import Derived.Test.YtcjindbblhcopaaGreatDoorC1
import Derived.Test.YtcjindbblhcopaaGreatDoorM4
import Derived.Test.YtcjindbblhcopaaGreatDoorCards
import Derived.Test.YtcjindbblhcopaaGreatDoorTie
import Derived.Deep.DeepHandedRow
set_option linter.unusedSimpArgs false
set_option linter.unusedVariables false
set_option maxRecDepth 100000
open Go AM
namespace Go.Proofs.Tryz
theorem Q7 {k:Nat} (h:k<2^62):AV.int .i64 (IntKind.wrap .i64 ((k:Int)+((1:Nat):Int)))= .int .i64 ((k+1:Nat):Int):=by
 have e:IntKind.wrap .i64 ((k:Int)+((1:Nat):Int))=((k+1:Nat):Int):=by rw [bH]<;>omega
 rw [e]
theorem rp (k:Nat):decide (((0:Nat):Int)≤(k:Int))=true:=decide_eq_true (by omega)
theorem dm {k n:Nat} (h:k<n):decide ((k:Int)<(n:Int))=true:=decide_eq_true (by omega)
theorem Fw {k n:Nat} (h:k≤n):decide ((k:Int)≤(n:Int))=true:=decide_eq_true (by omega)
def kQ (w:List UInt8):List UInt8→Nat
 | []=>0
 |c::r=>if w.any (fun b=>c==b) then kQ w r+1 else 0
theorem yQ (w:List UInt8):∀ s,kQ w s≤s.length
 | []=>Nat.le_refl _
 |c::r=>by
  unfold kQ
  split
  ·have:=yQ w r;simp only [List.length_cons];omega
  ·exact Nat.zero_le _
theorem Nl (a b:UInt8):((a.toNat:Int)==(b.toNat:Int))=(a==b):=by
 by_cases h:a=b
 ·subst h;simp
 ·have:a.toNat ≠ b.toNat:=fun e=>h (UInt8.toNat_inj.1 e)
  rw [beq_eq_false_iff_ne.2 h,beq_eq_false_iff_ne.2 (by omega)]
def wia (s w:List UInt8) (bg:Int) (bd:Bool) (n:Nat) (p:Nat × Bool):St:=⟨[(0,.ptr 0 0 0),(1,.str w),(5,.int .i64 (n:Int)),(6,.bool p.2),(7,.int .i64 (p.1:Int))],[(0,⟨[.str s,.nilS,.int .i64 bg,.bool bd],0,false,0,0,true⟩)],.dead,[]⟩
def woa (s w:List UInt8) (bg:Int) (bd:Bool) (n:Nat) (inn:Bool):St:=⟨[(0,.ptr 0 0 0),(1,.str w),(5,.int .i64 (n:Int)),(6,.bool inn)],[(0,⟨[.str s,.nilS,.int .i64 bg,.bool bd],0,false,0,0,true⟩)],.dead,[]⟩
theorem wla {nt:Nat} (hn:55≤nt) (s w:List UInt8) (bg:Int) (bd:Bool) (n:Nat) (hns:n<s.length) (hw:w.length<2^40):∀ (d k:Nat) (inn:Bool),k+d=w.length→
  aw prog ap [⟨[.str s,.nilS,.int .i64 bg,.bool bd],0,false,0,0,true⟩] nt (aa 2 (af f92)) (fun _=> .exit 2) (wia s w bg bd n) (woa s w bg bd n) (k,inn) (inn||(w.drop k).any (fun b=>s.getD n 0==b)):=by
 intro d
 induction d with
 |zero=>
  intro k inn hk
  have b0:(decide ((k:Int)<(((List.length w):Nat):Int)))=false:=decide_eq_false (by omega)
  rw [List.drop_of_length_le (by omega),List.any_nil,Bool.or_false]
  exact .done (pN 92 [] 1 0 (.c (aB b0) .nil) (.nil) hn)
 | succ d ih=>
  intro k inn hk
  have b0:(decide ((k:Int)<(((List.length w):Nat):Int)))=true:=decide_eq_true (by omega)
  have hkl:k<w.length:=by omega
  have hw:k<2^62:=by omega
  have e1:(w.drop k).any (fun b=>s.getD n 0==b)=(s.getD n 0==w.getD k 0||(w.drop (k+1)).any (fun b=>s.getD n 0==b)):=by
   rw [List.drop_eq_getElem_cons hkl,List.any_cons,List.getD_eq_getElem?_getD,List.getD_eq_getElem?_getD (l:=w),List.getElem?_eq_getElem hkl];rfl
  rw [e1]
  rcases tf inn with b1|b1
  ·have:=ih (k+1) true (by omega)
   rw [Bool.true_or] at this
   rw [show (inn||(s.getD n 0==w.getD k 0||(w.drop (k+1)).any (fun b=>s.getD n 0==b)))=true by rw [b1,Bool.true_or]]
   exact .next (pN 92 [] 2 3 (.c (ay b1) (.c (ay b0) .nil)) (.v 7 (.eq (Q7 hw)) .nil) hn) this
  ·have:=ih (k+1) (s.getD n 0==w.getD k 0) (by omega)
   rw [show (inn||(s.getD n 0==w.getD k 0||(w.drop (k+1)).any (fun b=>s.getD n 0==b)))=(s.getD n 0==w.getD k 0||(w.drop (k+1)).any (fun b=>s.getD n 0==b)) by rw [b1,Bool.false_or]]
   rw [← Nl (s.getD n 0) (w.getD k 0)] at this ⊢
   exact .next (pN 92 [] 2 1 (.c (rp k) (.c (dm hkl) (.c (rp n) (.c (dm hns) (.k 1 (aB b1) (.c (ay b0) .nil)))))) (.v 7 (.eq (Q7 hw)) .nil) hn) this
def wsa (s w:List UInt8) (bg:Int) (bd:Bool) (n:Nat):St:=⟨[(0,.ptr 0 0 0),(1,.str w),(5,.int .i64 (n:Int))],[(0,⟨[.str s,.nilS,.int .i64 bg,.bool bd],0,false,0,0,true⟩)],.dead,[]⟩
def wra (s w:List UInt8) (bg:Int) (bd:Bool) (n:Nat):St:=⟨[(0,.ptr 0 0 0),(5,.int .i64 (n:Int))],[(0,⟨[.str s,.nilS,.int .i64 bg,.bool bd],0,false,0,0,true⟩)],.dead,[]⟩
theorem wma {nt:Nat} (hn:55≤nt) (s w:List UInt8) (bg:Int) (bd:Bool) (hs:s.length<2^40) (hw:w.length<2^40):∀ (r p:List UInt8),p++r=s→
  aw prog ap [⟨[.str s,.nilS,.int .i64 bg,.bool bd],0,false,0,0,true⟩] nt (aa 0 (af f92)) (fun _=> .exit 0) (wsa s w bg bd) (wra s w bg bd) p.length (p.length+kQ w r):=by
 intro r
 induction r with
 |nil=>
  intro p hp
  have hl:p.length=s.length:=by rw [← hp];simp
  generalize p.length=n at*
  have b0:(decide ((n:Int)<(((List.length s):Nat):Int)))=false:=decide_eq_false (by omega)
  exact .done (pN 92 [2] 1 0 (.c (aB b0) (.n 1 .nil)) (.nil) hn)
 | cons c r ih=>
  intro p hp
  have hl:p.length<s.length:=by rw [← hp];simp
  have hc:s.getD p.length 0=c:=by rw [← hp,List.getD_eq_getElem?_getD];simp
  have hnx:=ih (p++ [c]) (by rw [← hp];simp)
  rw [List.length_append,List.length_singleton] at hnx
  unfold kQ
  generalize p.length=n at*
  have b0:(decide ((n:Int)<(((List.length s):Nat):Int)))=true:=decide_eq_true (by omega)
  have hw':n<2^62:=by omega
  have l0:∀ inn,inn=w.any (fun b=>c==b)→az prog ap [⟨[.str s,.nilS,.int .i64 bg,.bool bd],0,false,0,0,true⟩] 55 (.block 2 (.loop (aa 2 (af f92)))) ⟨[(0,.ptr 0 0 0),(1,.str w),(4,.dead),(5,.int .i64 (n:Int)),(6,.bool false),(7,.int .i64 0),(8,.dead),(15,.bool (decide ((n:Int)<(((List.length s):Nat):Int)))),(19,.dead),(36,.dead)],[(0,⟨[.str s,.nilS,.int .i64 bg,.bool bd],0,false,0,0,true⟩)],.dead,[]⟩ (.normal) ⟨[(0,.ptr 0 0 0),(1,.str w),(5,.int .i64 (n:Int)),(6,.bool inn)],[(0,⟨[.str s,.nilS,.int .i64 bg,.bool bd],0,false,0,0,true⟩)],.dead,[]⟩:=by
   intro inn hi
   have h:∀ nt,55≤nt→aw prog ap [⟨[.str s,.nilS,.int .i64 bg,.bool bd],0,false,0,0,true⟩] nt (aa 2 (af f92)) (fun _=> .exit 2) (wia s w bg bd n) (woa s w bg bd n) (0,false) inn:=by
    intro nt hn
    have:=wla hn s w bg bd n hl hw w.length 0 false (Nat.zero_add _)
    rw [List.drop_zero,hc,Bool.false_or,← hi] at this
    exact this
   exact aw.blk h (by simp) rfl (aK.of ⟨rfl,rfl,rfl,rfl,rfl,trivial⟩) (aK.of ⟨rfl,rfl,rfl,rfl,trivial⟩)
  rcases tf (w.any (fun b=>c==b)) with b1|b1
  ·rw [if_pos b1]
   have hi:(true:Bool)=w.any (fun b=>c==b):=b1.symm
   have l0:=l0 true hi
   rw [show n+(kQ w r+1)=n+1+kQ w r by omega]
   have hw:=hw'
   exact .next (pN 92 [2] 2 1 (.k 1 (ay b0) (.n 1 .nil)) (.v 38 (.eq (Q7 hw)) (.l l0 .nil)) hn) hnx
  ·rw [if_neg (by rw [b1];decide)]
   have hi:(false:Bool)=w.any (fun b=>c==b):=b1.symm
   have l0:=l0 false hi
   exact .done (pN 92 [2] 2 3 (.k 1 (ay b0) (.n 1 .nil)) (.l l0 .nil) hn)
theorem wfa (s w:List UInt8) (bg:Int) (bd:Bool) (n:Nat) (hns:n≤s.length) (l0:az prog ap [⟨[.str s,.nilS,.int .i64 bg,.bool bd],0,false,0,0,true⟩] 55 (.block 0 (.loop (aa 0 (af f92)))) ⟨[(0,.ptr 0 0 0),(1,.str w),(4,.str []),(5,.int .i64 0),(6,.dead),(7,.dead),(8,.dead),(15,.dead),(19,.dead),(36,.dead)],[(0,⟨[.str s,.nilS,.int .i64 bg,.bool bd],0,false,0,0,true⟩)],.dead,[]⟩ (.normal) ⟨[(0,.ptr 0 0 0),(5,.int .i64 (n:Int))],[(0,⟨[.str s,.nilS,.int .i64 bg,.bool bd],0,false,0,0,true⟩)],.dead,[]⟩):ai prog ap 92 [.ptr 0 0 0,.str w] [⟨[.str s,.nilS,.int .i64 bg,.bool bd],0,false,0,0,true⟩] (.ret (.str (List.drop 0 (List.take (Int.toNat (n:Int)) s)))) [⟨[.str (List.drop (Int.toNat (n:Int)) (List.take (Int.toNat (((List.length s):Nat):Int)) s)),.nilS,.int .i64 bg,.bool bd],0,false,0,0,true⟩]:=pK [0] 0 0 (.k 1 (rp n) (.c (Fw hns) (.c (Fw (Nat.le_refl s.length)) (.k 2 (rp n) (.c (Fw hns) (.n 1 .nil)))))) (.l l0 .nil)
theorem da (s w:List UInt8) (bg:Int) (bd:Bool) (hs:s.length<2^40) (hw:w.length<2^40):ai prog ap 92 [.ptr 0 0 0,.str w] [⟨[.str s,.nilS,.int .i64 bg,.bool bd],0,false,0,0,true⟩] (.ret (.str (List.drop 0 (List.take (Int.toNat ((kQ w s:Nat):Int)) s)))) [⟨[.str (List.drop (Int.toNat ((kQ w s:Nat):Int)) (List.take (Int.toNat (((List.length s):Nat):Int)) s)),.nilS,.int .i64 bg,.bool bd],0,false,0,0,true⟩]:=by
 have h:∀ nt,55≤nt→aw prog ap [⟨[.str s,.nilS,.int .i64 bg,.bool bd],0,false,0,0,true⟩] nt (aa 0 (af f92)) (fun _=> .exit 0) (wsa s w bg bd) (wra s w bg bd) 0 (kQ w s):=by
  intro nt hn
  have:=wma hn s w bg bd hs hw s [] rfl
  rw [List.length_nil,Nat.zero_add] at this
  exact this
 exact wfa s w bg bd (kQ w s) (yQ w s) (aw.blk h (by simp) rfl (aK.of ⟨rfl,rfl,rfl,trivial⟩) (aK.of ⟨rfl,rfl,trivial⟩))
def wib (s w:List UInt8) (bg:Int) (bd:Bool) (m:Nat) (os:List AV) (n:Nat) (p:Nat × Bool):St:=⟨[(0,.ptr 0 0 0),(1,.str w),(5,.int .i64 (n:Int)),(6,.bool p.2),(7,.int .i64 (p.1:Int))],[(0,⟨[.str s,.ref 1 0 0 m,.int .i64 bg,.bool bd],0,false,0,0,false⟩),(1,⟨os,0,false,0,5,true⟩)],.dead,[]⟩
def wob (s w:List UInt8) (bg:Int) (bd:Bool) (m:Nat) (os:List AV) (n:Nat) (inn:Bool):St:=⟨[(0,.ptr 0 0 0),(1,.str w),(5,.int .i64 (n:Int)),(6,.bool inn)],[(0,⟨[.str s,.ref 1 0 0 m,.int .i64 bg,.bool bd],0,false,0,0,false⟩),(1,⟨os,0,false,0,5,true⟩)],.dead,[]⟩
theorem wlb {nt:Nat} (hn:55≤nt) (s w:List UInt8) (bg:Int) (bd:Bool) (m:Nat) (os:List AV) (n:Nat) (hns:n<s.length) (hw:w.length<2^40):∀ (d k:Nat) (inn:Bool),k+d=w.length→
  aw prog ap [⟨[.str s,.ref 1 0 0 m,.int .i64 bg,.bool bd],0,false,0,0,false⟩,⟨os,0,false,0,5,true⟩] nt (aa 2 (af f92)) (fun _=> .exit 2) (wib s w bg bd m os n) (wob s w bg bd m os n) (k,inn) (inn||(w.drop k).any (fun b=>s.getD n 0==b)):=by
 intro d
 induction d with
 |zero=>
  intro k inn hk
  have b0:(decide ((k:Int)<(((List.length w):Nat):Int)))=false:=decide_eq_false (by omega)
  rw [List.drop_of_length_le (by omega),List.any_nil,Bool.or_false]
  exact .done (pN 92 [] 1 0 (.c (aB b0) .nil) (.nil) hn)
 | succ d ih=>
  intro k inn hk
  have b0:(decide ((k:Int)<(((List.length w):Nat):Int)))=true:=decide_eq_true (by omega)
  have hkl:k<w.length:=by omega
  have hw:k<2^62:=by omega
  have e1:(w.drop k).any (fun b=>s.getD n 0==b)=(s.getD n 0==w.getD k 0||(w.drop (k+1)).any (fun b=>s.getD n 0==b)):=by
   rw [List.drop_eq_getElem_cons hkl,List.any_cons,List.getD_eq_getElem?_getD,List.getD_eq_getElem?_getD (l:=w),List.getElem?_eq_getElem hkl];rfl
  rw [e1]
  rcases tf inn with b1|b1
  ·have:=ih (k+1) true (by omega)
   rw [Bool.true_or] at this
   rw [show (inn||(s.getD n 0==w.getD k 0||(w.drop (k+1)).any (fun b=>s.getD n 0==b)))=true by rw [b1,Bool.true_or]]
   exact .next (pN 92 [] 2 3 (.c (ay b1) (.c (ay b0) .nil)) (.v 7 (.eq (Q7 hw)) .nil) hn) this
  ·have:=ih (k+1) (s.getD n 0==w.getD k 0) (by omega)
   rw [show (inn||(s.getD n 0==w.getD k 0||(w.drop (k+1)).any (fun b=>s.getD n 0==b)))=(s.getD n 0==w.getD k 0||(w.drop (k+1)).any (fun b=>s.getD n 0==b)) by rw [b1,Bool.false_or]]
   rw [← Nl (s.getD n 0) (w.getD k 0)] at this ⊢
   exact .next (pN 92 [] 2 1 (.c (rp k) (.c (dm hkl) (.c (rp n) (.c (dm hns) (.k 1 (aB b1) (.c (ay b0) .nil)))))) (.v 7 (.eq (Q7 hw)) .nil) hn) this
def wsb (s w:List UInt8) (bg:Int) (bd:Bool) (m:Nat) (os:List AV) (n:Nat):St:=⟨[(0,.ptr 0 0 0),(1,.str w),(5,.int .i64 (n:Int))],[(0,⟨[.str s,.ref 1 0 0 m,.int .i64 bg,.bool bd],0,false,0,0,false⟩),(1,⟨os,0,false,0,5,true⟩)],.dead,[]⟩
def wrb (s w:List UInt8) (bg:Int) (bd:Bool) (m:Nat) (os:List AV) (n:Nat):St:=⟨[(0,.ptr 0 0 0),(5,.int .i64 (n:Int))],[(0,⟨[.str s,.ref 1 0 0 m,.int .i64 bg,.bool bd],0,false,0,0,false⟩),(1,⟨os,0,false,0,5,true⟩)],.dead,[]⟩
theorem wmb {nt:Nat} (hn:55≤nt) (s w:List UInt8) (bg:Int) (bd:Bool) (m:Nat) (os:List AV) (hs:s.length<2^40) (hw:w.length<2^40):∀ (r p:List UInt8),p++r=s→
  aw prog ap [⟨[.str s,.ref 1 0 0 m,.int .i64 bg,.bool bd],0,false,0,0,false⟩,⟨os,0,false,0,5,true⟩] nt (aa 0 (af f92)) (fun _=> .exit 0) (wsb s w bg bd m os) (wrb s w bg bd m os) p.length (p.length+kQ w r):=by
 intro r
 induction r with
 |nil=>
  intro p hp
  have hl:p.length=s.length:=by rw [← hp];simp
  generalize p.length=n at*
  have b0:(decide ((n:Int)<(((List.length s):Nat):Int)))=false:=decide_eq_false (by omega)
  exact .done (pN 92 [2] 1 0 (.c (aB b0) (.n 1 .nil)) (.nil) hn)
 | cons c r ih=>
  intro p hp
  have hl:p.length<s.length:=by rw [← hp];simp
  have hc:s.getD p.length 0=c:=by rw [← hp,List.getD_eq_getElem?_getD];simp
  have hnx:=ih (p++ [c]) (by rw [← hp];simp)
  rw [List.length_append,List.length_singleton] at hnx
  unfold kQ
  generalize p.length=n at*
  have b0:(decide ((n:Int)<(((List.length s):Nat):Int)))=true:=decide_eq_true (by omega)
  have hw':n<2^62:=by omega
  have l0:∀ inn,inn=w.any (fun b=>c==b)→az prog ap [⟨[.str s,.ref 1 0 0 m,.int .i64 bg,.bool bd],0,false,0,0,false⟩,⟨os,0,false,0,5,true⟩] 55 (.block 2 (.loop (aa 2 (af f92)))) ⟨[(0,.ptr 0 0 0),(1,.str w),(4,.dead),(5,.int .i64 (n:Int)),(6,.bool false),(7,.int .i64 0),(8,.dead),(15,.bool (decide ((n:Int)<(((List.length s):Nat):Int)))),(19,.dead),(36,.dead)],[(0,⟨[.str s,.ref 1 0 0 m,.int .i64 bg,.bool bd],0,false,0,0,false⟩),(1,⟨os,0,false,0,5,true⟩)],.dead,[]⟩ (.normal) ⟨[(0,.ptr 0 0 0),(1,.str w),(5,.int .i64 (n:Int)),(6,.bool inn)],[(0,⟨[.str s,.ref 1 0 0 m,.int .i64 bg,.bool bd],0,false,0,0,false⟩),(1,⟨os,0,false,0,5,true⟩)],.dead,[]⟩:=by
   intro inn hi
   have h:∀ nt,55≤nt→aw prog ap [⟨[.str s,.ref 1 0 0 m,.int .i64 bg,.bool bd],0,false,0,0,false⟩,⟨os,0,false,0,5,true⟩] nt (aa 2 (af f92)) (fun _=> .exit 2) (wib s w bg bd m os n) (wob s w bg bd m os n) (0,false) inn:=by
    intro nt hn
    have:=wlb hn s w bg bd m os n hl hw w.length 0 false (Nat.zero_add _)
    rw [List.drop_zero,hc,Bool.false_or,← hi] at this
    exact this
   exact aw.blk h (by simp) rfl (aK.of ⟨rfl,rfl,rfl,rfl,rfl,trivial⟩) (aK.of ⟨rfl,rfl,rfl,rfl,trivial⟩)
  rcases tf (w.any (fun b=>c==b)) with b1|b1
  ·rw [if_pos b1]
   have hi:(true:Bool)=w.any (fun b=>c==b):=b1.symm
   have l0:=l0 true hi
   rw [show n+(kQ w r+1)=n+1+kQ w r by omega]
   have hw:=hw'
   exact .next (pN 92 [2] 2 1 (.k 1 (ay b0) (.n 1 .nil)) (.v 38 (.eq (Q7 hw)) (.l l0 .nil)) hn) hnx
  ·rw [if_neg (by rw [b1];decide)]
   have hi:(false:Bool)=w.any (fun b=>c==b):=b1.symm
   have l0:=l0 false hi
   exact .done (pN 92 [2] 2 3 (.k 1 (ay b0) (.n 1 .nil)) (.l l0 .nil) hn)
theorem wfb (s w:List UInt8) (bg:Int) (bd:Bool) (m:Nat) (os:List AV) (n:Nat) (hns:n≤s.length) (l0:az prog ap [⟨[.str s,.ref 1 0 0 m,.int .i64 bg,.bool bd],0,false,0,0,false⟩,⟨os,0,false,0,5,true⟩] 55 (.block 0 (.loop (aa 0 (af f92)))) ⟨[(0,.ptr 0 0 0),(1,.str w),(4,.str []),(5,.int .i64 0),(6,.dead),(7,.dead),(8,.dead),(15,.dead),(19,.dead),(36,.dead)],[(0,⟨[.str s,.ref 1 0 0 m,.int .i64 bg,.bool bd],0,false,0,0,false⟩),(1,⟨os,0,false,0,5,true⟩)],.dead,[]⟩ (.normal) ⟨[(0,.ptr 0 0 0),(5,.int .i64 (n:Int))],[(0,⟨[.str s,.ref 1 0 0 m,.int .i64 bg,.bool bd],0,false,0,0,false⟩),(1,⟨os,0,false,0,5,true⟩)],.dead,[]⟩):ai prog ap 92 [.ptr 0 0 0,.str w] [⟨[.str s,.ref 1 0 0 m,.int .i64 bg,.bool bd],0,false,0,0,false⟩,⟨os,0,false,0,5,true⟩] (.ret (.str (List.drop 0 (List.take (Int.toNat (n:Int)) s)))) [⟨[.str (List.drop (Int.toNat (n:Int)) (List.take (Int.toNat (((List.length s):Nat):Int)) s)),.ref 1 0 0 m,.int .i64 bg,.bool bd],0,false,0,0,false⟩,⟨os,0,false,0,5,true⟩]:=pK [0] 0 0 (.k 1 (rp n) (.c (Fw hns) (.c (Fw (Nat.le_refl s.length)) (.k 2 (rp n) (.c (Fw hns) (.n 1 .nil)))))) (.l l0 .nil)
theorem fq (s w:List UInt8) (bg:Int) (bd:Bool) (m:Nat) (os:List AV) (hs:s.length<2^40) (hw:w.length<2^40):ai prog ap 92 [.ptr 0 0 0,.str w] [⟨[.str s,.ref 1 0 0 m,.int .i64 bg,.bool bd],0,false,0,0,false⟩,⟨os,0,false,0,5,true⟩] (.ret (.str (List.drop 0 (List.take (Int.toNat ((kQ w s:Nat):Int)) s)))) [⟨[.str (List.drop (Int.toNat ((kQ w s:Nat):Int)) (List.take (Int.toNat (((List.length s):Nat):Int)) s)),.ref 1 0 0 m,.int .i64 bg,.bool bd],0,false,0,0,false⟩,⟨os,0,false,0,5,true⟩]:=by
 have h:∀ nt,55≤nt→aw prog ap [⟨[.str s,.ref 1 0 0 m,.int .i64 bg,.bool bd],0,false,0,0,false⟩,⟨os,0,false,0,5,true⟩] nt (aa 0 (af f92)) (fun _=> .exit 0) (wsb s w bg bd m os) (wrb s w bg bd m os) 0 (kQ w s):=by
  intro nt hn
  have:=wmb hn s w bg bd m os hs hw s [] rfl
  rw [List.length_nil,Nat.zero_add] at this
  exact this
 exact wfb s w bg bd m os (kQ w s) (yQ w s) (aw.blk h (by simp) rfl (aK.of ⟨rfl,rfl,rfl,trivial⟩) (aK.of ⟨rfl,rfl,trivial⟩))
theorem bK {p q:Prop} (h:p) (e:p=q):q:=e ▸ h
theorem bE {x:Nat} (h:x<2^128):(ae x).length<2^33:=Nat.lt_of_le_of_lt (dK (k:=16) h) (by decide)
theorem cm0:CO 115 [.agg [.bool false,.str [1],.str [1]]] (.ret (.bool true)):=bK (bG false [1] [1] (by decide) (by decide)) (by kernel_rfl)
theorem QY:CO 174 [.agg [.bool false,.str [1],.str [1]]] (.ret (.agg [.bool false,.str [1],.str [1]])):=cK (.c cm0 .nil)
theorem XP:CO 182 [.agg [.bool false,.str [1],.str [1]]] (.ret (.agg [.bool true,.str [1],.str [1]])):=cK (.c QY .nil)
theorem cm3:CO 115 [.agg [.bool false,.str [],.str [1]]] (.ret (.bool true)):=bK (bG false [] [1] (by decide) (by decide)) (by kernel_rfl)
theorem KD:CO 174 [.agg [.bool false,.str [],.str [1]]] (.ret (.agg [.bool false,.str [],.str [1]])):=cK (.c cm3 .nil)
theorem cm5:CO 115 [.agg [.bool true,.str [1],.str [1]]] (.ret (.bool true)):=bK (bG true [1] [1] (by decide) (by decide)) (by kernel_rfl)
theorem cm6:CO 174 [.agg [.bool true,.str [1],.str [1]]] (.ret (.agg [.bool true,.str [1],.str [1]])):=cK (.c cm5 .nil)
theorem cm7:CO 161 [.sl [] 0 true] (.ret (.sl [] 0 true)):=cK (.nil)
theorem yZ:CO 136 [.str []] (.ret (.sl [] 0 true)):=cK (.c cm7 .nil)
theorem ZA:CO 161 [.sl [.int .u32 1] 1 true] (.ret (.sl [.int .u32 1] 1 true)):=cK (.nil)
theorem qO:CO 136 [.str [1]] (.ret (.sl [.int .u32 1] 1 true)):=cK (.c ZA .nil)
theorem Yw:CO 161 [.sl [.int .u32 0] 1 true] (.ret (.sl [] 0 true)):=cK (.nil)
theorem Yx:CO 189 [.sl [] 0 true,.sl [.int .u32 1] 1 true] (.ret (.sl [] 0 true)):=cK (.c Yw .nil)
theorem Yy:CO 162 [.str [],.str [0]] (.ret (.str [])):=cK (.nil)
theorem Yz:CO 134 [.sl [] 0 true] (.ret (.str [])):=cK (.c Yy (.c cm7 .nil))
theorem yY:CO 175 [.str [],.str [1]] (.ret (.str [])):=cK (.c Yz (.c Yx (.c qO (.c yZ .nil))))
theorem YA:CO 161 [.sl [.int .u32 1,.int .u32 0] 2 true] (.ret (.sl [.int .u32 1] 1 true)):=cK (.nil)
theorem YB:CO 189 [.sl [.int .u32 1] 1 true,.sl [.int .u32 1] 1 true] (.ret (.sl [.int .u32 1] 1 true)):=cK (.c YA .nil)
theorem YC:CO 141 [.str [0,0,0,1],.int .u8 0] (.ret (.str [1])):=cK (.nil)
theorem YD:CO 162 [.str [0,0,0,1],.str [0]] (.ret (.str [1])):=cK (.c YC .nil)
theorem Tp:CO 134 [.sl [.int .u32 1] 1 true] (.ret (.str [1])):=cK (.c YD (.c ZA .nil))
theorem xd:CO 175 [.str [1],.str [1]] (.ret (.str [1])):=cK (.c Tp (.c YB (.c qO (.c qO .nil))))
theorem YE:CO 183 [.sl [] 0 true,.sl [.int .u32 1] 1 true] (.ret (.int .i64 (-1))):=cK (.nil)
theorem YF:CO 188 [.str [],.str [1]] (.ret (.tup [.str [],.bool false])):=cK (.c YE (.c qO (.c yZ .nil)))
theorem YG:CO 183 [.sl [.int .u32 1] 1 true,.sl [] 0 true] (.ret (.int .i64 1)):=cK (.nil)
theorem YH:CO 204 [.sl [.int .u32 1] 1 true,.sl [] 0 true] (.ret (.sl [.int .u32 1] 1 true)):=cK (.c ZA .nil)
theorem YI:CO 188 [.str [1],.str []] (.ret (.tup [.str [1],.bool true])):=cK (.c Tp (.c YH (.c YG (.c yZ (.c qO .nil)))))
theorem YJ:CO 139 [.bool true,.str [1],.str [1]] (.ret (.agg [.bool true,.str [1],.str [1]])):=bK (jM true [1] [1] (by decide) (by decide) (by decide)) (by kernel_rfl)
theorem YK:CO 172 [.agg [.bool false,.str [],.str [1]],.agg [.bool true,.str [1],.str [1]]] (.ret (.agg [.bool true,.str [1],.str [1]])):=cK (.c YJ (.c YI (.c YF (.c xd (.c xd (.c yY (.c cm6 (.c KD .nil))))))))
theorem YL:CO 158 [.agg [.bool false,.str [],.str [1]],.agg [.bool false,.str [1],.str [1]]] (.ret (.agg [.bool true,.str [1],.str [1]])):=cK (.c YK (.c XP .nil))
theorem YM:CO 85 [.agg [.bool true,.str [1],.str [1]]] (.ret (.int .i64 (-1))):=bK (cL true [1] [1] (by decide) (by decide)) (by kernel_rfl)
theorem YN:CO 129 [.agg [.bool false,.str [],.str [1]],.agg [.bool false,.str [1],.str [1]]] (.ret (.int .i64 (-1))):=cK (.c YM (.c YL .nil))
theorem YO:CO 115 [.agg [.bool false,.str [2],.str [1]]] (.ret (.bool true)):=bK (bG false [2] [1] (by decide) (by decide)) (by kernel_rfl)
theorem YP:CO 174 [.agg [.bool false,.str [2],.str [1]]] (.ret (.agg [.bool false,.str [2],.str [1]])):=cK (.c YO .nil)
theorem YQ:CO 182 [.agg [.bool false,.str [2],.str [1]]] (.ret (.agg [.bool true,.str [2],.str [1]])):=cK (.c YP .nil)
theorem YR:CO 115 [.agg [.bool true,.str [2],.str [1]]] (.ret (.bool true)):=bK (bG true [2] [1] (by decide) (by decide)) (by kernel_rfl)
theorem YS:CO 174 [.agg [.bool true,.str [2],.str [1]]] (.ret (.agg [.bool true,.str [2],.str [1]])):=cK (.c YR .nil)
theorem OB:CO 161 [.sl [.int .u32 2] 1 true] (.ret (.sl [.int .u32 2] 1 true)):=cK (.nil)
theorem OC:CO 136 [.str [2]] (.ret (.sl [.int .u32 2] 1 true)):=cK (.c OB .nil)
theorem YT:CO 161 [.sl [.int .u32 2,.int .u32 0] 2 true] (.ret (.sl [.int .u32 2] 1 true)):=cK (.nil)
theorem YU:CO 189 [.sl [.int .u32 2] 1 true,.sl [.int .u32 1] 1 true] (.ret (.sl [.int .u32 2] 1 true)):=cK (.c YT .nil)
theorem YV:CO 141 [.str [0,0,0,2],.int .u8 0] (.ret (.str [2])):=cK (.nil)
theorem YW:CO 162 [.str [0,0,0,2],.str [0]] (.ret (.str [2])):=cK (.c YV .nil)
theorem TJ:CO 134 [.sl [.int .u32 2] 1 true] (.ret (.str [2])):=cK (.c YW (.c OB .nil))
theorem YX:CO 175 [.str [2],.str [1]] (.ret (.str [2])):=cK (.c TJ (.c YU (.c qO (.c OC .nil))))
theorem YY:CO 183 [.sl [] 0 true,.sl [.int .u32 2] 1 true] (.ret (.int .i64 (-1))):=cK (.nil)
theorem YZ:CO 188 [.str [],.str [2]] (.ret (.tup [.str [],.bool false])):=cK (.c YY (.c OC (.c yZ .nil)))
theorem Y0:CO 183 [.sl [.int .u32 2] 1 true,.sl [] 0 true] (.ret (.int .i64 1)):=cK (.nil)
theorem Y1:CO 204 [.sl [.int .u32 2] 1 true,.sl [] 0 true] (.ret (.sl [.int .u32 2] 1 true)):=cK (.c OB .nil)
theorem Y2:CO 188 [.str [2],.str []] (.ret (.tup [.str [2],.bool true])):=cK (.c TJ (.c Y1 (.c Y0 (.c yZ (.c OC .nil)))))
theorem Y3:CO 139 [.bool true,.str [2],.str [1]] (.ret (.agg [.bool true,.str [2],.str [1]])):=bK (jM true [2] [1] (by decide) (by decide) (by decide)) (by kernel_rfl)
theorem Y4:CO 172 [.agg [.bool false,.str [],.str [1]],.agg [.bool true,.str [2],.str [1]]] (.ret (.agg [.bool true,.str [2],.str [1]])):=cK (.c Y3 (.c Y2 (.c YZ (.c xd (.c YX (.c yY (.c YS (.c KD .nil))))))))
theorem Y5:CO 158 [.agg [.bool false,.str [],.str [1]],.agg [.bool false,.str [2],.str [1]]] (.ret (.agg [.bool true,.str [2],.str [1]])):=cK (.c Y4 (.c YQ .nil))
theorem Y6:CO 85 [.agg [.bool true,.str [2],.str [1]]] (.ret (.int .i64 (-1))):=bK (cL true [2] [1] (by decide) (by decide)) (by kernel_rfl)
theorem Y7:CO 129 [.agg [.bool false,.str [],.str [1]],.agg [.bool false,.str [2],.str [1]]] (.ret (.int .i64 (-1))):=cK (.c Y6 (.c Y5 .nil))
theorem Y8:CO 115 [.agg [.bool false,.str [3],.str [1]]] (.ret (.bool true)):=bK (bG false [3] [1] (by decide) (by decide)) (by kernel_rfl)
theorem Y9:CO 174 [.agg [.bool false,.str [3],.str [1]]] (.ret (.agg [.bool false,.str [3],.str [1]])):=cK (.c Y8 .nil)
theorem Y_:CO 182 [.agg [.bool false,.str [3],.str [1]]] (.ret (.agg [.bool true,.str [3],.str [1]])):=cK (.c Y9 .nil)
theorem Za:CO 115 [.agg [.bool true,.str [3],.str [1]]] (.ret (.bool true)):=bK (bG true [3] [1] (by decide) (by decide)) (by kernel_rfl)
theorem Zb:CO 174 [.agg [.bool true,.str [3],.str [1]]] (.ret (.agg [.bool true,.str [3],.str [1]])):=cK (.c Za .nil)
theorem OD:CO 161 [.sl [.int .u32 3] 1 true] (.ret (.sl [.int .u32 3] 1 true)):=cK (.nil)
theorem OE:CO 136 [.str [3]] (.ret (.sl [.int .u32 3] 1 true)):=cK (.c OD .nil)
theorem Zc:CO 161 [.sl [.int .u32 3,.int .u32 0] 2 true] (.ret (.sl [.int .u32 3] 1 true)):=cK (.nil)
theorem Zd:CO 189 [.sl [.int .u32 3] 1 true,.sl [.int .u32 1] 1 true] (.ret (.sl [.int .u32 3] 1 true)):=cK (.c Zc .nil)
theorem Ze:CO 141 [.str [0,0,0,3],.int .u8 0] (.ret (.str [3])):=cK (.nil)
theorem Zf:CO 162 [.str [0,0,0,3],.str [0]] (.ret (.str [3])):=cK (.c Ze .nil)
theorem TK:CO 134 [.sl [.int .u32 3] 1 true] (.ret (.str [3])):=cK (.c Zf (.c OD .nil))
theorem Zg:CO 175 [.str [3],.str [1]] (.ret (.str [3])):=cK (.c TK (.c Zd (.c qO (.c OE .nil))))
theorem Zh:CO 183 [.sl [] 0 true,.sl [.int .u32 3] 1 true] (.ret (.int .i64 (-1))):=cK (.nil)
theorem Zi:CO 188 [.str [],.str [3]] (.ret (.tup [.str [],.bool false])):=cK (.c Zh (.c OE (.c yZ .nil)))
theorem Zj:CO 183 [.sl [.int .u32 3] 1 true,.sl [] 0 true] (.ret (.int .i64 1)):=cK (.nil)
theorem Zk:CO 204 [.sl [.int .u32 3] 1 true,.sl [] 0 true] (.ret (.sl [.int .u32 3] 1 true)):=cK (.c OD .nil)
theorem Zl:CO 188 [.str [3],.str []] (.ret (.tup [.str [3],.bool true])):=cK (.c TK (.c Zk (.c Zj (.c yZ (.c OE .nil)))))
theorem Zm:CO 139 [.bool true,.str [3],.str [1]] (.ret (.agg [.bool true,.str [3],.str [1]])):=bK (jM true [3] [1] (by decide) (by decide) (by decide)) (by kernel_rfl)
theorem Zn:CO 172 [.agg [.bool false,.str [],.str [1]],.agg [.bool true,.str [3],.str [1]]] (.ret (.agg [.bool true,.str [3],.str [1]])):=cK (.c Zm (.c Zl (.c Zi (.c xd (.c Zg (.c yY (.c Zb (.c KD .nil))))))))
theorem Zo:CO 158 [.agg [.bool false,.str [],.str [1]],.agg [.bool false,.str [3],.str [1]]] (.ret (.agg [.bool true,.str [3],.str [1]])):=cK (.c Zn (.c Y_ .nil))
theorem Zp:CO 85 [.agg [.bool true,.str [3],.str [1]]] (.ret (.int .i64 (-1))):=bK (cL true [3] [1] (by decide) (by decide)) (by kernel_rfl)
theorem Zq:CO 129 [.agg [.bool false,.str [],.str [1]],.agg [.bool false,.str [3],.str [1]]] (.ret (.int .i64 (-1))):=cK (.c Zp (.c Zo .nil))
theorem Zr:CO 115 [.agg [.bool false,.str [4],.str [1]]] (.ret (.bool true)):=bK (bG false [4] [1] (by decide) (by decide)) (by kernel_rfl)
theorem Zs:CO 174 [.agg [.bool false,.str [4],.str [1]]] (.ret (.agg [.bool false,.str [4],.str [1]])):=cK (.c Zr .nil)
theorem Zt:CO 182 [.agg [.bool false,.str [4],.str [1]]] (.ret (.agg [.bool true,.str [4],.str [1]])):=cK (.c Zs .nil)
theorem Zu:CO 115 [.agg [.bool true,.str [4],.str [1]]] (.ret (.bool true)):=bK (bG true [4] [1] (by decide) (by decide)) (by kernel_rfl)
theorem Zv:CO 174 [.agg [.bool true,.str [4],.str [1]]] (.ret (.agg [.bool true,.str [4],.str [1]])):=cK (.c Zu .nil)
theorem OG:CO 161 [.sl [.int .u32 4] 1 true] (.ret (.sl [.int .u32 4] 1 true)):=cK (.nil)
theorem OH:CO 136 [.str [4]] (.ret (.sl [.int .u32 4] 1 true)):=cK (.c OG .nil)
theorem Zw:CO 161 [.sl [.int .u32 4,.int .u32 0] 2 true] (.ret (.sl [.int .u32 4] 1 true)):=cK (.nil)
theorem Zx:CO 189 [.sl [.int .u32 4] 1 true,.sl [.int .u32 1] 1 true] (.ret (.sl [.int .u32 4] 1 true)):=cK (.c Zw .nil)
theorem Zy:CO 141 [.str [0,0,0,4],.int .u8 0] (.ret (.str [4])):=cK (.nil)
theorem Zz:CO 162 [.str [0,0,0,4],.str [0]] (.ret (.str [4])):=cK (.c Zy .nil)
theorem TL:CO 134 [.sl [.int .u32 4] 1 true] (.ret (.str [4])):=cK (.c Zz (.c OG .nil))
theorem ZB:CO 175 [.str [4],.str [1]] (.ret (.str [4])):=cK (.c TL (.c Zx (.c qO (.c OH .nil))))
theorem ZC:CO 183 [.sl [] 0 true,.sl [.int .u32 4] 1 true] (.ret (.int .i64 (-1))):=cK (.nil)
theorem ZE:CO 188 [.str [],.str [4]] (.ret (.tup [.str [],.bool false])):=cK (.c ZC (.c OH (.c yZ .nil)))
theorem ZF:CO 183 [.sl [.int .u32 4] 1 true,.sl [] 0 true] (.ret (.int .i64 1)):=cK (.nil)
theorem ZG:CO 204 [.sl [.int .u32 4] 1 true,.sl [] 0 true] (.ret (.sl [.int .u32 4] 1 true)):=cK (.c OG .nil)
theorem ZH:CO 188 [.str [4],.str []] (.ret (.tup [.str [4],.bool true])):=cK (.c TL (.c ZG (.c ZF (.c yZ (.c OH .nil)))))
theorem ZI:CO 139 [.bool true,.str [4],.str [1]] (.ret (.agg [.bool true,.str [4],.str [1]])):=bK (jM true [4] [1] (by decide) (by decide) (by decide)) (by kernel_rfl)
theorem ZJ:CO 172 [.agg [.bool false,.str [],.str [1]],.agg [.bool true,.str [4],.str [1]]] (.ret (.agg [.bool true,.str [4],.str [1]])):=cK (.c ZI (.c ZH (.c ZE (.c xd (.c ZB (.c yY (.c Zv (.c KD .nil))))))))
theorem ZK:CO 158 [.agg [.bool false,.str [],.str [1]],.agg [.bool false,.str [4],.str [1]]] (.ret (.agg [.bool true,.str [4],.str [1]])):=cK (.c ZJ (.c Zt .nil))
theorem ZL:CO 85 [.agg [.bool true,.str [4],.str [1]]] (.ret (.int .i64 (-1))):=bK (cL true [4] [1] (by decide) (by decide)) (by kernel_rfl)
theorem RH:CO 129 [.agg [.bool false,.str [],.str [1]],.agg [.bool false,.str [4],.str [1]]] (.ret (.int .i64 (-1))):=cK (.c ZL (.c ZK .nil))
theorem RI:CO 115 [.agg [.bool false,.str [5],.str [1]]] (.ret (.bool true)):=bK (bG false [5] [1] (by decide) (by decide)) (by kernel_rfl)
theorem RJ:CO 174 [.agg [.bool false,.str [5],.str [1]]] (.ret (.agg [.bool false,.str [5],.str [1]])):=cK (.c RI .nil)
theorem RL:CO 182 [.agg [.bool false,.str [5],.str [1]]] (.ret (.agg [.bool true,.str [5],.str [1]])):=cK (.c RJ .nil)
theorem RM:CO 115 [.agg [.bool true,.str [5],.str [1]]] (.ret (.bool true)):=bK (bG true [5] [1] (by decide) (by decide)) (by kernel_rfl)
theorem RN:CO 174 [.agg [.bool true,.str [5],.str [1]]] (.ret (.agg [.bool true,.str [5],.str [1]])):=cK (.c RM .nil)
theorem Hs:CO 161 [.sl [.int .u32 5] 1 true] (.ret (.sl [.int .u32 5] 1 true)):=cK (.nil)
theorem Ht:CO 136 [.str [5]] (.ret (.sl [.int .u32 5] 1 true)):=cK (.c Hs .nil)
theorem RO:CO 161 [.sl [.int .u32 5,.int .u32 0] 2 true] (.ret (.sl [.int .u32 5] 1 true)):=cK (.nil)
theorem RP:CO 189 [.sl [.int .u32 5] 1 true,.sl [.int .u32 1] 1 true] (.ret (.sl [.int .u32 5] 1 true)):=cK (.c RO .nil)
theorem RT:CO 141 [.str [0,0,0,5],.int .u8 0] (.ret (.str [5])):=cK (.nil)
theorem RU:CO 162 [.str [0,0,0,5],.str [0]] (.ret (.str [5])):=cK (.c RT .nil)
theorem Nr:CO 134 [.sl [.int .u32 5] 1 true] (.ret (.str [5])):=cK (.c RU (.c Hs .nil))
theorem RV:CO 175 [.str [5],.str [1]] (.ret (.str [5])):=cK (.c Nr (.c RP (.c qO (.c Ht .nil))))
theorem RW:CO 183 [.sl [] 0 true,.sl [.int .u32 5] 1 true] (.ret (.int .i64 (-1))):=cK (.nil)
theorem RX:CO 188 [.str [],.str [5]] (.ret (.tup [.str [],.bool false])):=cK (.c RW (.c Ht (.c yZ .nil)))
theorem RY:CO 183 [.sl [.int .u32 5] 1 true,.sl [] 0 true] (.ret (.int .i64 1)):=cK (.nil)
theorem RZ:CO 204 [.sl [.int .u32 5] 1 true,.sl [] 0 true] (.ret (.sl [.int .u32 5] 1 true)):=cK (.c Hs .nil)
theorem R1:CO 188 [.str [5],.str []] (.ret (.tup [.str [5],.bool true])):=cK (.c Nr (.c RZ (.c RY (.c yZ (.c Ht .nil)))))
theorem R2:CO 139 [.bool true,.str [5],.str [1]] (.ret (.agg [.bool true,.str [5],.str [1]])):=bK (jM true [5] [1] (by decide) (by decide) (by decide)) (by kernel_rfl)
theorem R3:CO 172 [.agg [.bool false,.str [],.str [1]],.agg [.bool true,.str [5],.str [1]]] (.ret (.agg [.bool true,.str [5],.str [1]])):=cK (.c R2 (.c R1 (.c RX (.c xd (.c RV (.c yY (.c RN (.c KD .nil))))))))
theorem R4:CO 158 [.agg [.bool false,.str [],.str [1]],.agg [.bool false,.str [5],.str [1]]] (.ret (.agg [.bool true,.str [5],.str [1]])):=cK (.c R3 (.c RL .nil))
theorem R5:CO 85 [.agg [.bool true,.str [5],.str [1]]] (.ret (.int .i64 (-1))):=bK (cL true [5] [1] (by decide) (by decide)) (by kernel_rfl)
theorem R6:CO 129 [.agg [.bool false,.str [],.str [1]],.agg [.bool false,.str [5],.str [1]]] (.ret (.int .i64 (-1))):=cK (.c R5 (.c R4 .nil))
theorem R7:CO 115 [.agg [.bool false,.str [6],.str [1]]] (.ret (.bool true)):=bK (bG false [6] [1] (by decide) (by decide)) (by kernel_rfl)
theorem R8:CO 174 [.agg [.bool false,.str [6],.str [1]]] (.ret (.agg [.bool false,.str [6],.str [1]])):=cK (.c R7 .nil)
theorem R9:CO 182 [.agg [.bool false,.str [6],.str [1]]] (.ret (.agg [.bool true,.str [6],.str [1]])):=cK (.c R8 .nil)
theorem R_:CO 115 [.agg [.bool true,.str [6],.str [1]]] (.ret (.bool true)):=bK (bG true [6] [1] (by decide) (by decide)) (by kernel_rfl)
theorem Sa:CO 174 [.agg [.bool true,.str [6],.str [1]]] (.ret (.agg [.bool true,.str [6],.str [1]])):=cK (.c R_ .nil)
theorem Hu:CO 161 [.sl [.int .u32 6] 1 true] (.ret (.sl [.int .u32 6] 1 true)):=cK (.nil)
theorem Hv:CO 136 [.str [6]] (.ret (.sl [.int .u32 6] 1 true)):=cK (.c Hu .nil)
theorem Sb:CO 161 [.sl [.int .u32 6,.int .u32 0] 2 true] (.ret (.sl [.int .u32 6] 1 true)):=cK (.nil)
theorem Sd:CO 189 [.sl [.int .u32 6] 1 true,.sl [.int .u32 1] 1 true] (.ret (.sl [.int .u32 6] 1 true)):=cK (.c Sb .nil)
theorem Se:CO 141 [.str [0,0,0,6],.int .u8 0] (.ret (.str [6])):=cK (.nil)
theorem Sf:CO 162 [.str [0,0,0,6],.str [0]] (.ret (.str [6])):=cK (.c Se .nil)
theorem Ns:CO 134 [.sl [.int .u32 6] 1 true] (.ret (.str [6])):=cK (.c Sf (.c Hu .nil))
theorem Sg:CO 175 [.str [6],.str [1]] (.ret (.str [6])):=cK (.c Ns (.c Sd (.c qO (.c Hv .nil))))
theorem Sh:CO 183 [.sl [] 0 true,.sl [.int .u32 6] 1 true] (.ret (.int .i64 (-1))):=cK (.nil)
theorem Si:CO 188 [.str [],.str [6]] (.ret (.tup [.str [],.bool false])):=cK (.c Sh (.c Hv (.c yZ .nil)))
theorem Sj:CO 183 [.sl [.int .u32 6] 1 true,.sl [] 0 true] (.ret (.int .i64 1)):=cK (.nil)
theorem Sk:CO 204 [.sl [.int .u32 6] 1 true,.sl [] 0 true] (.ret (.sl [.int .u32 6] 1 true)):=cK (.c Hu .nil)
theorem Sl:CO 188 [.str [6],.str []] (.ret (.tup [.str [6],.bool true])):=cK (.c Ns (.c Sk (.c Sj (.c yZ (.c Hv .nil)))))
theorem Sm:CO 139 [.bool true,.str [6],.str [1]] (.ret (.agg [.bool true,.str [6],.str [1]])):=bK (jM true [6] [1] (by decide) (by decide) (by decide)) (by kernel_rfl)
theorem Sn:CO 172 [.agg [.bool false,.str [],.str [1]],.agg [.bool true,.str [6],.str [1]]] (.ret (.agg [.bool true,.str [6],.str [1]])):=cK (.c Sm (.c Sl (.c Si (.c xd (.c Sg (.c yY (.c Sa (.c KD .nil))))))))
theorem Sr:CO 158 [.agg [.bool false,.str [],.str [1]],.agg [.bool false,.str [6],.str [1]]] (.ret (.agg [.bool true,.str [6],.str [1]])):=cK (.c Sn (.c R9 .nil))
theorem Ss:CO 85 [.agg [.bool true,.str [6],.str [1]]] (.ret (.int .i64 (-1))):=bK (cL true [6] [1] (by decide) (by decide)) (by kernel_rfl)
theorem Su:CO 129 [.agg [.bool false,.str [],.str [1]],.agg [.bool false,.str [6],.str [1]]] (.ret (.int .i64 (-1))):=cK (.c Ss (.c Sr .nil))
theorem Sv:CO 115 [.agg [.bool false,.str [7],.str [1]]] (.ret (.bool true)):=bK (bG false [7] [1] (by decide) (by decide)) (by kernel_rfl)
theorem Sw:CO 174 [.agg [.bool false,.str [7],.str [1]]] (.ret (.agg [.bool false,.str [7],.str [1]])):=cK (.c Sv .nil)
theorem Sy:CO 182 [.agg [.bool false,.str [7],.str [1]]] (.ret (.agg [.bool true,.str [7],.str [1]])):=cK (.c Sw .nil)
theorem Sz:CO 115 [.agg [.bool true,.str [7],.str [1]]] (.ret (.bool true)):=bK (bG true [7] [1] (by decide) (by decide)) (by kernel_rfl)
theorem SA:CO 174 [.agg [.bool true,.str [7],.str [1]]] (.ret (.agg [.bool true,.str [7],.str [1]])):=cK (.c Sz .nil)
theorem Hw:CO 161 [.sl [.int .u32 7] 1 true] (.ret (.sl [.int .u32 7] 1 true)):=cK (.nil)
theorem Hy:CO 136 [.str [7]] (.ret (.sl [.int .u32 7] 1 true)):=cK (.c Hw .nil)
theorem SB:CO 161 [.sl [.int .u32 7,.int .u32 0] 2 true] (.ret (.sl [.int .u32 7] 1 true)):=cK (.nil)
theorem SD:CO 189 [.sl [.int .u32 7] 1 true,.sl [.int .u32 1] 1 true] (.ret (.sl [.int .u32 7] 1 true)):=cK (.c SB .nil)
theorem SE:CO 141 [.str [0,0,0,7],.int .u8 0] (.ret (.str [7])):=cK (.nil)
theorem SF:CO 162 [.str [0,0,0,7],.str [0]] (.ret (.str [7])):=cK (.c SE .nil)
theorem Nt:CO 134 [.sl [.int .u32 7] 1 true] (.ret (.str [7])):=cK (.c SF (.c Hw .nil))
theorem SG:CO 175 [.str [7],.str [1]] (.ret (.str [7])):=cK (.c Nt (.c SD (.c qO (.c Hy .nil))))
theorem SH:CO 183 [.sl [] 0 true,.sl [.int .u32 7] 1 true] (.ret (.int .i64 (-1))):=cK (.nil)
theorem SI:CO 188 [.str [],.str [7]] (.ret (.tup [.str [],.bool false])):=cK (.c SH (.c Hy (.c yZ .nil)))
theorem SJ:CO 183 [.sl [.int .u32 7] 1 true,.sl [] 0 true] (.ret (.int .i64 1)):=cK (.nil)
theorem SK:CO 204 [.sl [.int .u32 7] 1 true,.sl [] 0 true] (.ret (.sl [.int .u32 7] 1 true)):=cK (.c Hw .nil)
theorem SL:CO 188 [.str [7],.str []] (.ret (.tup [.str [7],.bool true])):=cK (.c Nt (.c SK (.c SJ (.c yZ (.c Hy .nil)))))
theorem SM:CO 139 [.bool true,.str [7],.str [1]] (.ret (.agg [.bool true,.str [7],.str [1]])):=bK (jM true [7] [1] (by decide) (by decide) (by decide)) (by kernel_rfl)
theorem SN:CO 172 [.agg [.bool false,.str [],.str [1]],.agg [.bool true,.str [7],.str [1]]] (.ret (.agg [.bool true,.str [7],.str [1]])):=cK (.c SM (.c SL (.c SI (.c xd (.c SG (.c yY (.c SA (.c KD .nil))))))))
theorem SQ:CO 158 [.agg [.bool false,.str [],.str [1]],.agg [.bool false,.str [7],.str [1]]] (.ret (.agg [.bool true,.str [7],.str [1]])):=cK (.c SN (.c Sy .nil))
theorem SR:CO 85 [.agg [.bool true,.str [7],.str [1]]] (.ret (.int .i64 (-1))):=bK (cL true [7] [1] (by decide) (by decide)) (by kernel_rfl)
theorem SS:CO 129 [.agg [.bool false,.str [],.str [1]],.agg [.bool false,.str [7],.str [1]]] (.ret (.int .i64 (-1))):=cK (.c SR (.c SQ .nil))
theorem ST:CO 115 [.agg [.bool false,.str [8],.str [1]]] (.ret (.bool true)):=bK (bG false [8] [1] (by decide) (by decide)) (by kernel_rfl)
theorem SU:CO 174 [.agg [.bool false,.str [8],.str [1]]] (.ret (.agg [.bool false,.str [8],.str [1]])):=cK (.c ST .nil)
theorem SV:CO 182 [.agg [.bool false,.str [8],.str [1]]] (.ret (.agg [.bool true,.str [8],.str [1]])):=cK (.c SU .nil)
theorem SW:CO 115 [.agg [.bool true,.str [8],.str [1]]] (.ret (.bool true)):=bK (bG true [8] [1] (by decide) (by decide)) (by kernel_rfl)
theorem SX:CO 174 [.agg [.bool true,.str [8],.str [1]]] (.ret (.agg [.bool true,.str [8],.str [1]])):=cK (.c SW .nil)
theorem Hz:CO 161 [.sl [.int .u32 8] 1 true] (.ret (.sl [.int .u32 8] 1 true)):=cK (.nil)
theorem HA:CO 136 [.str [8]] (.ret (.sl [.int .u32 8] 1 true)):=cK (.c Hz .nil)
theorem SY:CO 161 [.sl [.int .u32 8,.int .u32 0] 2 true] (.ret (.sl [.int .u32 8] 1 true)):=cK (.nil)
theorem SZ:CO 189 [.sl [.int .u32 8] 1 true,.sl [.int .u32 1] 1 true] (.ret (.sl [.int .u32 8] 1 true)):=cK (.c SY .nil)
theorem S5:CO 141 [.str [0,0,0,8],.int .u8 0] (.ret (.str [8])):=cK (.nil)
theorem S6:CO 162 [.str [0,0,0,8],.str [0]] (.ret (.str [8])):=cK (.c S5 .nil)
theorem Nu:CO 134 [.sl [.int .u32 8] 1 true] (.ret (.str [8])):=cK (.c S6 (.c Hz .nil))
theorem S7:CO 175 [.str [8],.str [1]] (.ret (.str [8])):=cK (.c Nu (.c SZ (.c qO (.c HA .nil))))
theorem S8:CO 183 [.sl [] 0 true,.sl [.int .u32 8] 1 true] (.ret (.int .i64 (-1))):=cK (.nil)
theorem S9:CO 188 [.str [],.str [8]] (.ret (.tup [.str [],.bool false])):=cK (.c S8 (.c HA (.c yZ .nil)))
theorem S_:CO 183 [.sl [.int .u32 8] 1 true,.sl [] 0 true] (.ret (.int .i64 1)):=cK (.nil)
theorem Ta:CO 204 [.sl [.int .u32 8] 1 true,.sl [] 0 true] (.ret (.sl [.int .u32 8] 1 true)):=cK (.c Hz .nil)
theorem Tc:CO 188 [.str [8],.str []] (.ret (.tup [.str [8],.bool true])):=cK (.c Nu (.c Ta (.c S_ (.c yZ (.c HA .nil)))))
theorem Td:CO 139 [.bool true,.str [8],.str [1]] (.ret (.agg [.bool true,.str [8],.str [1]])):=bK (jM true [8] [1] (by decide) (by decide) (by decide)) (by kernel_rfl)
theorem Te:CO 172 [.agg [.bool false,.str [],.str [1]],.agg [.bool true,.str [8],.str [1]]] (.ret (.agg [.bool true,.str [8],.str [1]])):=cK (.c Td (.c Tc (.c S9 (.c xd (.c S7 (.c yY (.c SX (.c KD .nil))))))))
theorem Tf:CO 158 [.agg [.bool false,.str [],.str [1]],.agg [.bool false,.str [8],.str [1]]] (.ret (.agg [.bool true,.str [8],.str [1]])):=cK (.c Te (.c SV .nil))
theorem Tg:CO 85 [.agg [.bool true,.str [8],.str [1]]] (.ret (.int .i64 (-1))):=bK (cL true [8] [1] (by decide) (by decide)) (by kernel_rfl)
theorem Th:CO 129 [.agg [.bool false,.str [],.str [1]],.agg [.bool false,.str [8],.str [1]]] (.ret (.int .i64 (-1))):=cK (.c Tg (.c Tf .nil))
theorem Ti:CO 115 [.agg [.bool false,.str [9],.str [1]]] (.ret (.bool true)):=bK (bG false [9] [1] (by decide) (by decide)) (by kernel_rfl)
theorem Tj:CO 174 [.agg [.bool false,.str [9],.str [1]]] (.ret (.agg [.bool false,.str [9],.str [1]])):=cK (.c Ti .nil)
theorem Tk:CO 182 [.agg [.bool false,.str [9],.str [1]]] (.ret (.agg [.bool true,.str [9],.str [1]])):=cK (.c Tj .nil)
theorem Tm:CO 115 [.agg [.bool true,.str [9],.str [1]]] (.ret (.bool true)):=bK (bG true [9] [1] (by decide) (by decide)) (by kernel_rfl)
theorem Tn:CO 174 [.agg [.bool true,.str [9],.str [1]]] (.ret (.agg [.bool true,.str [9],.str [1]])):=cK (.c Tm .nil)
theorem HB:CO 161 [.sl [.int .u32 9] 1 true] (.ret (.sl [.int .u32 9] 1 true)):=cK (.nil)
theorem HC:CO 136 [.str [9]] (.ret (.sl [.int .u32 9] 1 true)):=cK (.c HB .nil)
theorem Tq:CO 161 [.sl [.int .u32 9,.int .u32 0] 2 true] (.ret (.sl [.int .u32 9] 1 true)):=cK (.nil)
theorem Tt:CO 189 [.sl [.int .u32 9] 1 true,.sl [.int .u32 1] 1 true] (.ret (.sl [.int .u32 9] 1 true)):=cK (.c Tq .nil)
theorem Tu:CO 141 [.str [0,0,0,9],.int .u8 0] (.ret (.str [9])):=cK (.nil)
theorem Tv:CO 162 [.str [0,0,0,9],.str [0]] (.ret (.str [9])):=cK (.c Tu .nil)
theorem Nv:CO 134 [.sl [.int .u32 9] 1 true] (.ret (.str [9])):=cK (.c Tv (.c HB .nil))
theorem Tw:CO 175 [.str [9],.str [1]] (.ret (.str [9])):=cK (.c Nv (.c Tt (.c qO (.c HC .nil))))
theorem Tx:CO 183 [.sl [] 0 true,.sl [.int .u32 9] 1 true] (.ret (.int .i64 (-1))):=cK (.nil)
theorem Ty:CO 188 [.str [],.str [9]] (.ret (.tup [.str [],.bool false])):=cK (.c Tx (.c HC (.c yZ .nil)))
theorem Tz:CO 183 [.sl [.int .u32 9] 1 true,.sl [] 0 true] (.ret (.int .i64 1)):=cK (.nil)
theorem TA:CO 204 [.sl [.int .u32 9] 1 true,.sl [] 0 true] (.ret (.sl [.int .u32 9] 1 true)):=cK (.c HB .nil)
theorem TB:CO 188 [.str [9],.str []] (.ret (.tup [.str [9],.bool true])):=cK (.c Nv (.c TA (.c Tz (.c yZ (.c HC .nil)))))
theorem TC:CO 139 [.bool true,.str [9],.str [1]] (.ret (.agg [.bool true,.str [9],.str [1]])):=bK (jM true [9] [1] (by decide) (by decide) (by decide)) (by kernel_rfl)
theorem TE:CO 172 [.agg [.bool false,.str [],.str [1]],.agg [.bool true,.str [9],.str [1]]] (.ret (.agg [.bool true,.str [9],.str [1]])):=cK (.c TC (.c TB (.c Ty (.c xd (.c Tw (.c yY (.c Tn (.c KD .nil))))))))
theorem TF:CO 158 [.agg [.bool false,.str [],.str [1]],.agg [.bool false,.str [9],.str [1]]] (.ret (.agg [.bool true,.str [9],.str [1]])):=cK (.c TE (.c Tk .nil))
theorem TG:CO 85 [.agg [.bool true,.str [9],.str [1]]] (.ret (.int .i64 (-1))):=bK (cL true [9] [1] (by decide) (by decide)) (by kernel_rfl)
theorem TH:CO 129 [.agg [.bool false,.str [],.str [1]],.agg [.bool false,.str [9],.str [1]]] (.ret (.int .i64 (-1))):=cK (.c TG (.c TF .nil))
theorem OI (n:Nat) (h:1≤n∧n≤9):CO 129 [.agg [.bool false,.str [],.str [1]],.agg [.bool false,.str [UInt8.ofNat n],.str [1]]] (.ret (.int .i64 (-1))):=by
 obtain ⟨h1,h2⟩:=h
 match n,h1,h2 with
 |1,_,_=>exact YN
 |2,_,_=>exact Y7
 |3,_,_=>exact Zq
 |4,_,_=>exact RH
 |5,_,_=>exact R6
 |6,_,_=>exact Su
 |7,_,_=>exact SS
 |8,_,_=>exact Th
 |9,_,_=>exact TH
theorem eX {ns:List Nd} (h:ns.all (fun x=>Nat.ble (x.num.length+1) 8589934592 && Nat.ble (x.den.length+1) 8589934592)=true):∀ x ∈ ns,x.sm:=by
 intro x hx
 have:=List.all_eq_true.1 h x hx
 rw [Bool.and_eq_true] at this
 exact ⟨Nat.le_of_ble_eq_true this.1,Nat.le_of_ble_eq_true this.2⟩
def gu:Br→Br→Int:=fun _ _=> -1
theorem mR {f:Nat}:Cq f gu []:=fun q hq=>by simp at hq
theorem xH {f:Nat} {a b:Br} (h:CO f [Kw a,Kw b] (.ret (.int .i64 (-1)))):px f gu [a,b]:=by
 intro i y x hy hx _ _
 match i with
 |0=>simp at hy hx;subst hy hx;exact h
 |i+1=>simp at hx
theorem Fu {f:Nat} {a:Br}:px f gu [a]:=by
 intro i y x hy hx _ _
 simp at hx
theorem BP {f:Nat} {a b:Br} {nm:List UInt8} {u1 u2:Int} (ha:a.sm) (hb:b.sm) (h:CO f [Kw a,Kw b] (.ret (.int .i64 (-1)))):Cq f gu [⟨nm,u1,u2,[a,b]⟩]:=by
 intro q hq
 rw [List.mem_singleton] at hq
 subst hq
 refine ⟨by simp, ?_,xH h⟩
 intro x hx
 simp only [List.mem_cons,List.not_mem_nil,or_false] at hx
 rcases hx with rfl|rfl
 ·exact ha
 ·exact hb
def Ni (q:Sq):Prop:=∃ b:Br,b.sm∧b.fn=false∧b.fa= []∧b.fd= [1]∧(q.l= [b]∨∃ (c:Br) (n:Nat),1≤n∧n≤9∧c.sm∧c.fn=false∧c.fa= [UInt8.ofNat n]∧c.fd= [1]∧q.l= [b,c])
theorem rI {f:Nat} (hf:∀ n:Nat,1≤n∧n≤9→CO f [.agg [.bool false,.str [],.str [1]],.agg [.bool false,.str [UInt8.ofNat n],.str [1]]] (.ret (.int .i64 (-1)))) {qs:List Sq} (h:∀ q ∈ qs,Ni q):Cq f gu qs:=by
 intro q hq
 obtain ⟨b,h1,h2,h3,h4,h5⟩:=h q hq
 rcases h5 with h5|⟨c,n,h6,h7,h8,h9,h10,h11,h5⟩
 ·rw [h5]
  refine ⟨by simp, ?_,Fu⟩
  intro x hx
  rw [List.mem_singleton] at hx
  exact hx ▸ h1
 ·rw [h5]
  refine ⟨by simp, ?_,xH ?_⟩
  ·intro x hx
   simp only [List.mem_cons,List.not_mem_nil,or_false] at hx
   rcases hx with rfl|rfl
   ·exact h1
   ·exact h8
  ·have:=hf n ⟨h6,h7⟩
   unfold Kw
   rw [h2,h3,h4,h9,h10,h11]
   exact this
def oh:List Nd:= [⟨6,false,[],[],[97]⟩,⟨5,false,[],[],[97]⟩,⟨9,false,[],[],[]⟩]
def lL:List Sq:= [⟨[120],0,0,[⟨false,[],[1],false,[1],[10]⟩,⟨false,[5],[1],false,[1],[5]⟩]⟩]
def wm:List Nd:= [⟨6,false,[],[],[97]⟩,⟨6,false,[],[],[97]⟩,⟨10,false,[],[],[]⟩]
def wo:List Nd:= [⟨1,false,[5],[1],[]⟩,⟨3,true,[1],[2],[]⟩,⟨6,false,[],[],[97]⟩,⟨11,false,[],[],[]⟩,⟨10,false,[],[],[]⟩]
def iy:List Nd:= [⟨6,false,[],[],[97]⟩,⟨5,false,[],[],[98]⟩,⟨11,false,[],[],[]⟩]
def wq:List Nd:= [⟨1,false,[1],[1],[]⟩,⟨6,false,[],[],[97]⟩,⟨12,false,[],[],[]⟩]
def wu:List Nd:= [⟨6,false,[],[],[97]⟩,⟨3,true,[2],[1],[]⟩,⟨12,false,[],[],[]⟩]
def ol:List Nd:= [⟨6,false,[],[],[97]⟩,⟨1,false,[3],[1],[]⟩,⟨16,false,[],[],[]⟩,⟨6,false,[],[],[98]⟩,⟨1,false,[],[1],[]⟩,⟨15,false,[],[],[]⟩]
def iz:List Nd:= [⟨6,false,[],[],[97]⟩,⟨24,false,[],[],[120]⟩]
def NP:List Sq:= [⟨[120],0,0,[⟨false,[],[1],false,[1],[10]⟩,⟨false,[5],[1],true,[1],[5]⟩]⟩]
theorem dx:Cq 129 gu lL:=BP ⟨⟨by decide,by decide⟩,⟨by decide,by decide⟩⟩ ⟨⟨by decide,by decide⟩,⟨by decide,by decide⟩⟩ (bK (OI 5 (by omega)) (by kernel_rfl))
theorem DH:Cq 129 gu NP:=BP ⟨⟨by decide,by decide⟩,⟨by decide,by decide⟩⟩ ⟨⟨by decide,by decide⟩,⟨by decide,by decide⟩⟩ (bK (OI 5 (by omega)) (by kernel_rfl))
def dE (l:List Nat):dY:=l.map fun t=>(t,.dead)
def rA (s:List UInt8) (k:Int):List aL:= [⟨[.str s,.nilS,.int .i64 k,.bool false],0,false,0,0,true⟩]
def rB (s:List UInt8) (n:Nat) (k:Int) (os:List AV):List aL:= [⟨[.str s,.ref 1 0 0 n,.int .i64 k,.bool false],0,false,0,0,false⟩,⟨os,0,false,0,5,true⟩]
def X3:List AV:= [.int .i64 6,.bool false,.str [],.str [],.str [97],.int .i64 1,.bool false,.str [3],.str [1],.str [],.int .i64 16,.bool false,.str [],.str [],.str [],.int .i64 6,.bool false,.str [],.str [],.str [98],.int .i64 1,.bool false,.str [],.str [1],.str []]
def E9:List AV:= [.int .i64 6,.bool false,.str [],.str [],.str [97],.int .i64 1,.bool false,.str [3],.str [1],.str [],.int .i64 16,.bool false,.str [],.str [],.str [],.int .i64 6,.bool false,.str [],.str [],.str [98]]
def zo2:List AV:= [.int .i64 1,.bool false,.str [5],.str [1],.str [],.int .i64 3,.bool true,.str [1],.str [2],.str [],.int .i64 6,.bool false,.str [],.str [],.str [97],.int .i64 11,.bool false,.str [],.str [],.str []]
def zo3:List AV:= [.int .i64 1,.bool false,.str [5],.str [1],.str [],.int .i64 3,.bool true,.str [1],.str [2],.str [],.int .i64 6,.bool false,.str [],.str [],.str [97]]
def E_:List AV:= [.int .i64 6,.bool false,.str [],.str [],.str [97],.int .i64 1,.bool false,.str [3],.str [1],.str [],.int .i64 16,.bool false,.str [],.str [],.str []]
def zo5:List AV:= [.int .i64 6,.bool false,.str [],.str [],.str [97],.int .i64 5,.bool false,.str [],.str [],.str [97]]
def zo6:List AV:= [.int .i64 6,.bool false,.str [],.str [],.str [97],.int .i64 6,.bool false,.str [],.str [],.str [97]]
def zo7:List AV:= [.int .i64 6,.bool false,.str [],.str [],.str [97],.int .i64 5,.bool false,.str [],.str [],.str [98]]
def zo8:List AV:= [.int .i64 1,.bool false,.str [1],.str [1],.str [],.int .i64 6,.bool false,.str [],.str [],.str [97]]
def X4:List AV:= [.int .i64 6,.bool false,.str [],.str [],.str [97],.int .i64 1,.bool false,.str [3],.str [1],.str []]
def qI:List AV:= [.int .i64 1,.bool false,.str [5],.str [1],.str [],.int .i64 3,.bool true,.str [1],.str [2],.str []]
def QI:List AV:= [.int .i64 6,.bool false,.str [],.str [],.str [97],.int .i64 3,.bool true,.str [2],.str [1],.str []]
def bM:List AV:= [.int .i64 6,.bool false,.str [],.str [],.str [97]]
def ij:List AV:= [.int .i64 1,.bool false,.str [5],.str [1],.str []]
def nQ:List AV:= [.int .i64 1,.bool false,.str [1],.str [1],.str []]
def tU:List UInt8:= [97,98,99,100,101,102,103,104,105,106,107,108,109,110,111,112,113,114,115,116,117,118,119,120,121,122,48,49,50,51,52,53,54,55,56,57,95]
def M3:List UInt8:= [105,102,40,108,101,115,115,40,111,119,110,46,97,44,32,36,51,41,44,32,111,119,110,46,98,44,32,36,48,41]
def jG:List UInt8:= [97,98,99,100,101,102,103,104,105,106,107,108,109,110,111,112,113,114,115,116,117,118,119,120,121,122]
def X5:List UInt8:= [40,108,101,115,115,40,111,119,110,46,97,44,32,36,51,41,44,32,111,119,110,46,98,44,32,36,48,41]
def Q8:List UInt8:= [108,101,115,115,40,111,119,110,46,97,44,32,36,51,41,44,32,111,119,110,46,98,44,32,36,48,41]
def NW:List UInt8:= [115,117,98,40,36,53,44,32,109,117,108,40,45,49,47,50,44,32,111,119,110,46,97,41,41]
def X6:List UInt8:= [40,111,119,110,46,97,44,32,36,51,41,44,32,111,119,110,46,98,44,32,36,48,41]
def X7:List UInt8:= [40,36,53,44,32,109,117,108,40,45,49,47,50,44,32,111,119,110,46,97,41,41]
def Q9:List UInt8:= [111,119,110,46,97,44,32,36,51,41,44,32,111,119,110,46,98,44,32,36,48,41]
def X8:List UInt8:= [36,53,44,32,109,117,108,40,45,49,47,50,44,32,111,119,110,46,97,41,41]
def JV:List UInt8:= [53,44,32,109,117,108,40,45,49,47,50,44,32,111,119,110,46,97,41,41]
def GK:List UInt8:= [44,32,109,117,108,40,45,49,47,50,44,32,111,119,110,46,97,41,41]
def Cj:List UInt8:= [109,117,108,40,111,119,110,46,97,44,32,102,97,99,116,46,98,41]
def Ag:List UInt8:= [97,100,100,40,111,119,110,46,97,44,32,102,97,99,116,46,97,41]
def Xy:List UInt8:= [46,97,44,32,36,51,41,44,32,111,119,110,46,98,44,32,36,48,41]
def Ck:List UInt8:= [115,117,98,40,111,119,110,46,97,44,32,111,119,110,46,97,41]
def QJ:List UInt8:= [97,44,32,36,51,41,44,32,111,119,110,46,98,44,32,36,48,41]
def GL:List UInt8:= [109,117,108,40,45,49,47,50,44,32,111,119,110,46,97,41,41]
def QK:List UInt8:= [44,32,36,51,41,44,32,111,119,110,46,98,44,32,36,48,41]
def M4:List UInt8:= [40,111,119,110,46,97,44,32,102,97,99,116,46,97,41]
def M5:List UInt8:= [40,111,119,110,46,97,44,32,102,97,99,116,46,98,41]
def M6:List UInt8:= [36,51,41,44,32,111,119,110,46,98,44,32,36,48,41]
def M7:List UInt8:= [40,111,119,110,46,97,44,32,111,119,110,46,97,41]
def Cl:List UInt8:= [100,105,118,40,36,49,44,32,111,119,110,46,97,41]
def Cm:List UInt8:= [100,105,118,40,111,119,110,46,97,44,32,45,50,41]
def GM:List UInt8:= [111,119,110,46,97,44,32,102,97,99,116,46,97,41]
def GN:List UInt8:= [111,119,110,46,97,44,32,102,97,99,116,46,98,41]
def M8:List UInt8:= [40,45,49,47,50,44,32,111,119,110,46,97,41,41]
def JW:List UInt8:= [51,41,44,32,111,119,110,46,98,44,32,36,48,41]
def Cn:List UInt8:= [114,97,116,101,46,120,40,111,119,110,46,97,41]
def GP:List UInt8:= [111,119,110,46,97,44,32,111,119,110,46,97,41]
def DY:List UInt8:= [45,49,47,50,44,32,111,119,110,46,97,41,41]
def GQ:List UInt8:= [41,44,32,111,119,110,46,98,44,32,36,48,41]
def QL:List UInt8:= [44,32,111,119,110,46,98,44,32,36,48,41]
def sU:List UInt8:= [45,48,49,50,51,52,53,54,55,56,57,47]
def M9:List UInt8:= [40,36,49,44,32,111,119,110,46,97,41]
def M_:List UInt8:= [40,111,119,110,46,97,44,32,45,50,41]
def Xz:List UInt8:= [46,97,44,32,102,97,99,116,46,97,41]
def XB:List UInt8:= [46,97,44,32,102,97,99,116,46,98,41]
def XC:List UInt8:= [46,97,44,32,111,119,110,46,97,41]
def Na:List UInt8:= [36,49,44,32,111,119,110,46,97,41]
def GR:List UInt8:= [111,119,110,46,97,44,32,45,50,41]
def GS:List UInt8:= [111,119,110,46,98,44,32,36,48,41]
def QM:List UInt8:= [97,44,32,102,97,99,116,46,97,41]
def QN:List UInt8:= [97,44,32,102,97,99,116,46,98,41]
def XD:List UInt8:= [46,120,40,111,119,110,46,97,41]
def QO:List UInt8:= [97,44,32,111,119,110,46,97,41]
def GU:List UInt8:= [44,32,111,119,110,46,97,41,41]
def JX:List UInt8:= [49,44,32,111,119,110,46,97,41]
def QP:List UInt8:= [44,32,102,97,99,116,46,97,41]
def QQ:List UInt8:= [44,32,102,97,99,116,46,98,41]
def QR:List UInt8:= [120,40,111,119,110,46,97,41]
def Ah:List UInt8:= [44,32,111,119,110,46,97,41]
def GV:List UInt8:= [111,119,110,46,97,41,41]
def XE:List UInt8:= [40,111,119,110,46,97,41]
def GW:List UInt8:= [102,97,99,116,46,97,41]
def GX:List UInt8:= [102,97,99,116,46,98,41]
def XF:List UInt8:= [46,97,44,32,45,50,41]
def XG:List UInt8:= [46,98,44,32,36,48,41]
def lR:List UInt8:= [111,119,110,46,97,41]
def QS:List UInt8:= [97,44,32,45,50,41]
def QT:List UInt8:= [98,44,32,36,48,41]
def XH:List UInt8:= [108,101,115,115]
def QU:List UInt8:= [44,32,45,50,41]
def QV:List UInt8:= [44,32,36,48,41]
def XI:List UInt8:= [102,97,99,116]
def QW:List UInt8:= [45,49,47,50]
def XJ:List UInt8:= [46,97,41,41]
theorem k0:ai prog ap 90 [.ptr 0 0 0,.str [36]] (rA Ag 1) (.ret (.bool false)) (rA Ag 1):=cK (.nil)
theorem k1:ai prog ap 92 [.ptr 0 0 0,.str jG] (rA Ag 1) (.ret (.str [97,100,100])) (rA M4 1):=bK (da Ag jG (1) false (by decide) (by decide)) (by kernel_rfl)
theorem k2:ai prog ap 90 [.ptr 0 0 0,.str [46]] (rA M4 1) (.ret (.bool false)) (rA M4 1):=cK (.nil)
theorem k3:CO 93 [.int .i64 5] (.ret (.str [102,97,99,116,46])):=cK (.nil)
theorem k4:CO 93 [.int .i64 6] (.ret (.str [111,119,110,46])):=cK (.nil)
theorem k5:CO 93 [.int .i64 7] (.ret (.str [112,114,105,111,114,46])):=cK (.nil)
theorem k6:CO 93 [.int .i64 8] (.ret (.str [115,112,111,117,115,101,46])):=cK (.nil)
theorem k7:CO 93 [.int .i64 9] (.ret (.str [97,100,100])):=cK (.nil)
theorem k8:CO 93 [.int .i64 10] (.ret (.str [115,117,98])):=cK (.nil)
theorem k9:CO 93 [.int .i64 11] (.ret (.str [109,117,108])):=cK (.nil)
theorem tE:CO 93 [.int .i64 12] (.ret (.str [100,105,118])):=cK (.nil)
theorem wO:CO 93 [.int .i64 13] (.ret (.str [109,105,110])):=cK (.nil)
theorem wP:CO 93 [.int .i64 14] (.ret (.str [109,97,120])):=cK (.nil)
theorem uV:CO 93 [.int .i64 15] (.ret (.str [105,102])):=cK (.nil)
theorem uW:CO 93 [.int .i64 16] (.ret (.str XH)):=cK (.nil)
theorem wQ:CO 93 [.int .i64 17] (.ret (.str [101,113,117,97,108])):=cK (.nil)
theorem wR:CO 93 [.int .i64 18] (.ret (.str [97,110,100])):=cK (.nil)
theorem wS:CO 93 [.int .i64 19] (.ret (.str [111,114])):=cK (.nil)
theorem wT:CO 93 [.int .i64 20] (.ret (.str [110,111,116])):=cK (.nil)
theorem wU:CO 93 [.int .i64 21] (.ret (.str [100,111,119,110])):=cK (.nil)
theorem wV:CO 93 [.int .i64 22] (.ret (.str [117,112])):=cK (.nil)
theorem wW:CO 93 [.int .i64 23] (.ret (.str [110,101,97,114])):=cK (.nil)
theorem uX:CO 93 [.int .i64 24] (.ret (.str [114,97,116,101,46])):=cK (.nil)
theorem k23:CO 32 [.int .i64 9] (.ret (.bool false)):=cK (.nil)
theorem kM:CO 34 [.int .i64 9] (.ret (.bool false)):=cK (.nil)
theorem Q3:CO 30 [.int .i64 9] (.ret (.int .i64 2)):=cK (.nil)
theorem k26:ai prog ap 90 [.ptr 0 0 0,.str [40]] (rA M4 1) (.ret (.bool true)) (rA GM 1):=cK (.nil)
theorem k27:ai prog ap 90 [.ptr 0 0 0,.str [36]] (rA GM 2) (.ret (.bool false)) (rA GM 2):=cK (.nil)
theorem k28:ai prog ap 92 [.ptr 0 0 0,.str jG] (rA GM 2) (.ret (.str [111,119,110])) (rA Xz 2):=bK (da GM jG (2) false (by decide) (by decide)) (by kernel_rfl)
theorem k29:ai prog ap 90 [.ptr 0 0 0,.str [46]] (rA Xz 2) (.ret (.bool true)) (rA QM 2):=cK (.nil)
theorem xU:CO 32 [.int .i64 6] (.ret (.bool true)):=cK (.nil)
theorem k31:ai prog ap 92 [.ptr 0 0 0,.str tU] (rA QM 2) (.ret (.str [97])) (rA QP 2):=bK (da QM tU (2) false (by decide) (by decide)) (by kernel_rfl)
theorem wX:CO 34 [.int .i64 6] (.ret (.bool false)):=cK (.nil)
theorem kN:CO 30 [.int .i64 6] (.ret (.int .i64 0)):=cK (.nil)
theorem k34:ai prog ap 56 [.ptr 0 0 0] (rA GM 1) (.ret (.tup [])) (rB QP 1 2 bM):=cK (.c kN (.c kN (.c wX (.c k31 (.c xU (.c uX (.c wW (.c wV (.c wU (.c wT (.c wS (.c wR (.c wQ (.c uW (.c uV (.c wP (.c wO (.c tE (.c k9 (.c k8 (.c k7 (.c k6 (.c k5 (.c k4 (.c k3 (.c k29 (.c k28 (.c k27 .nil))))))))))))))))))))))))))))
theorem k35:ai prog ap 90 [.ptr 0 0 0,.str [44,32]] (rB QP 1 2 bM) (.ret (.bool true)) (rB GW 1 2 bM):=cK (.nil)
theorem k36:ai prog ap 90 [.ptr 0 0 0,.str [36]] (rB GW 1 3 bM) (.ret (.bool false)) (rB GW 1 3 bM):=cK (.nil)
theorem k37:ai prog ap 92 [.ptr 0 0 0,.str jG] (rB GW 1 3 bM) (.ret (.str XI)) (rB [46,97,41] 1 3 bM):=bK (fq GW jG (3) false 1 bM (by decide) (by decide)) (by kernel_rfl)
theorem k38:ai prog ap 90 [.ptr 0 0 0,.str [46]] (rB [46,97,41] 1 3 bM) (.ret (.bool true)) (rB [97,41] 1 3 bM):=cK (.nil)
theorem XS:CO 32 [.int .i64 5] (.ret (.bool true)):=cK (.nil)
theorem k40:ai prog ap 92 [.ptr 0 0 0,.str tU] (rB [97,41] 1 3 bM) (.ret (.str [97])) (rB [41] 1 3 bM):=bK (fq [97,41] tU (3) false 1 bM (by decide) (by decide)) (by kernel_rfl)
theorem Q4:CO 34 [.int .i64 5] (.ret (.bool false)):=cK (.nil)
theorem NG:CO 30 [.int .i64 5] (.ret (.int .i64 0)):=cK (.nil)
theorem k43:ai prog ap 56 [.ptr 0 0 0] (rB GW 1 2 bM) (.ret (.tup [])) [⟨[.str [41],.ref 1 1 0 2,.int .i64 3,.bool false],0,false,0,0,false⟩,⟨zo5,1,false,0,5,true⟩]:=cK (.c NG (.c NG (.c Q4 (.c k40 (.c XS (.c uX (.c wW (.c wV (.c wU (.c wT (.c wS (.c wR (.c wQ (.c uW (.c uV (.c wP (.c wO (.c tE (.c k9 (.c k8 (.c k7 (.c k6 (.c k5 (.c k4 (.c k3 (.c k38 (.c k37 (.c k36 .nil))))))))))))))))))))))))))))
theorem k44:ai prog ap 90 [.ptr 0 0 0,.str [41]] (rB [41] 2 3 zo5) (.ret (.bool true)) (rB [] 2 3 zo5):=cK (.nil)
theorem k45:ai prog ap 56 [.ptr 0 0 0] (rA Ag 0) (.ret (.tup [])) [⟨[.str [],.ref 1 0 0 3,.int .i64 3,.bool false],0,false,0,0,false⟩,⟨(aF oh),0,false,0,5,true⟩]:=cK (.c k44 (.c Q3 (.c Q3 (.c k43 (.c k35 (.c Q3 (.c k34 (.c k26 (.c Q3 (.c kM (.c k23 (.c uX (.c wW (.c wV (.c wU (.c wT (.c wS (.c wR (.c wQ (.c uW (.c uV (.c wP (.c wO (.c tE (.c k9 (.c k8 (.c k7 (.c k6 (.c k5 (.c k4 (.c k3 (.c k2 (.c k1 (.c k0 .nil))))))))))))))))))))))))))))))))))
theorem G1:CO 94 [.int .i64 6] (.ret (.bool false)):=cK (.nil)
theorem Lj:CO 74 [.agg bM] (.ret (.bool true)):=cK (.c wX (.c G1 .nil))
theorem J2:CO 75 [.str [97]] (.ret (.bool true)):=cK (.nil)
theorem XT:CO 94 [.int .i64 5] (.ret (.bool false)):=cK (.nil)
theorem k50:CO 74 [.agg [.int .i64 5,.bool false,.str [],.str [],.str [97]]] (.ret (.bool true)):=cK (.c Q4 (.c XT .nil))
theorem k51:CO 94 [.int .i64 9] (.ret (.bool false)):=cK (.nil)
theorem k52:CO 74 [.agg [.int .i64 9,.bool false,.str [],.str [],.str []]] (.ret (.bool true)):=cK (.c kM (.c k51 .nil))
theorem Df:CO 75 [.str []] (.ret (.bool false)):=cK (.nil)
theorem k54:CO 48 [.sl (aF oh) 3 true] (.ret (.int .i64 0)):=cK (.c Q3 (.c Df (.c k52 (.c k23 (.c NG (.c J2 (.c k50 (.c XS (.c kN (.c J2 (.c Lj (.c xU .nil))))))))))))
theorem k55:CO 57 [.sl (aF oh) 3 true] (.ret (.tup [.str Ag,.int .i64 0])):=cK (.c kM (.c k51 (.c k7 (.c Q3 (.c Q4 (.c XT (.c k3 (.c NG (.c wX (.c G1 (.c k4 (.c kN (.c k54 .nil)))))))))))))
theorem k56:CO 27 [.str Ag] (.ret (.tup [.sl (aF oh) 3 true,.int .i64 0])):=cK (.c k55 (.c k45 .nil))
theorem k57:CO 36 [.int .i64 1] (.ret (.agg [.bool false,.str [1],.str [1]])):=bK (sP 1 (by decide)) (by kernel_rfl)
theorem k58:CO 36 [.int .i64 10] (.ret (.agg [.bool false,.str [10],.str [1]])):=bK (sP 10 (by decide)) (by kernel_rfl)
theorem k59:CO 70 [.agg [.bool false,.str [1],.str [1]]] (.ret (.agg [.bool false,.str [1],.str [1]])):=bK (fB false [1] [1] (by decide) (by decide)) (by kernel_rfl)
theorem k60:CO 70 [.agg [.bool false,.str [10],.str [1]]] (.ret (.agg [.bool false,.str [10],.str [1]])):=bK (fB false [10] [1] (by decide) (by decide)) (by kernel_rfl)
theorem NH:CO 76 [.str [1]] (.ret (.str [1])):=cK (.nil)
theorem XU:CO 107 [.str [1]] (.ret (.tup [.int .i64 1,.bool true])):=cK (.c NH .nil)
theorem k63:CO 77 [.str [1],.int .i64 3] (.ret (.tup [.int .i64 1,.bool true])):=cK (.c XU (.c NH .nil))
theorem k64:CO 77 [.str [1],.int .i64 4] (.ret (.tup [.int .i64 1,.bool true])):=cK (.c XU (.c NH .nil))
theorem Ik:CO 49 [.int .i64 1] (.ret (.str [1])):=bK (b_ 1 (by decide)) (by kernel_rfl)
theorem k66:CO 50 [.str [1],.str [1]] (.ret (.str [1])):=cK (.c Ik (.c k64 (.c k63 .nil)))
theorem k67:CO 76 [.str [10]] (.ret (.str [10])):=cK (.nil)
theorem k68:CO 107 [.str [10]] (.ret (.tup [.int .i64 10,.bool true])):=cK (.c k67 .nil)
theorem k69:CO 77 [.str [10],.int .i64 4] (.ret (.tup [.int .i64 10,.bool true])):=cK (.c k68 (.c k67 .nil))
theorem J3:CO 49 [.int .i64 10] (.ret (.str [10])):=bK (b_ 10 (by decide)) (by kernel_rfl)
theorem k71:CO 50 [.str [1],.str [10]] (.ret (.str [10])):=cK (.c J3 (.c k69 (.c k63 .nil)))
theorem k72:CO 51 [.bool false,.str [1],.str [10]] (.ret (.agg [.bool false,.str [1],.str [10]])):=bK (ep false 1 10 (bE (by decide)) (bE (by decide)) (by decide)) (by kernel_rfl)
theorem k73:CO 58 [.agg [.bool false,.str [1],.str [1]],.agg [.bool false,.str [10],.str [1]]] (.ret (.tup [.agg [.bool false,.str [1],.str [10]],.bool true])):=cK (.c k72 (.c k71 (.c k66 (.c k60 (.c k59 .nil)))))
theorem XV:CO 36 [.int .i64 5] (.ret (.agg [.bool false,.str [5],.str [1]])):=bK (sP 5 (by decide)) (by kernel_rfl)
theorem k75:CO 70 [.agg [.bool false,.str [5],.str [1]]] (.ret (.agg [.bool false,.str [5],.str [1]])):=bK (fB false [5] [1] (by decide) (by decide)) (by kernel_rfl)
theorem XW:CO 76 [.str [5]] (.ret (.str [5])):=cK (.nil)
theorem k77:CO 107 [.str [5]] (.ret (.tup [.int .i64 5,.bool true])):=cK (.c XW .nil)
theorem k78:CO 77 [.str [5],.int .i64 4] (.ret (.tup [.int .i64 5,.bool true])):=cK (.c k77 (.c XW .nil))
theorem k79:CO 49 [.int .i64 5] (.ret (.str [5])):=bK (b_ 5 (by decide)) (by kernel_rfl)
theorem k80:CO 50 [.str [1],.str [5]] (.ret (.str [5])):=cK (.c k79 (.c k78 (.c k63 .nil)))
theorem k81:CO 51 [.bool false,.str [1],.str [5]] (.ret (.agg [.bool false,.str [1],.str [5]])):=bK (ep false 1 5 (bE (by decide)) (bE (by decide)) (by decide)) (by kernel_rfl)
theorem k82:CO 58 [.agg [.bool false,.str [1],.str [1]],.agg [.bool false,.str [5],.str [1]]] (.ret (.tup [.agg [.bool false,.str [1],.str [5]],.bool true])):=cK (.c k81 (.c k80 (.c k66 (.c k75 (.c k59 .nil)))))
theorem k83:CO 36 [.int .i64 0] (.ret (.agg [.bool false,.str [],.str [1]])):=bK (sP 0 (by decide)) (by kernel_rfl)
theorem Il:CO 28 [.int .i64 1] (.ret (.sl [.str [120],.int .i64 0,.int .i64 0,.sl [.bool false,.str [],.str [1],.bool false,.str [1],.str [10],.bool false,.str [5],.str [1],.bool false,.str [1],.str [5]] 2 true] 1 true)):=cK (.c XV (.c k83 (.c k82 (.c XV (.c k57 (.c k73 (.c k58 (.c k57 .nil))))))))
theorem k85:CO 14 [.sl (aF oh) 3 true,.sl [.str [120],.int .i64 0,.int .i64 0,.sl [.bool false,.str [],.str [1],.bool false,.str [1],.str [10],.bool false,.str [5],.str [1],.bool false,.str [1],.str [5]] 2 true] 1 true,.int .i64 6,.str [97]] (.ret (.int .i64 1)):=ai.args (args:= [.sl (aF oh) 3 true,.sl [.str [120],.int .i64 0,.int .i64 0,.sl [.bool false,.str [],.str [1],.bool false,.str [1],.str [10],.bool false,.str [5],.str [1],.bool false,.str [1],.str [5]] 2 false] 1 true,.int .i64 6,.str [97]]) (.cons (aM.refl _) (.cons (aM.slP (.same (.same (.same (.sl .nil))))) (.cons (aM.refl _) (.cons (aM.refl _) .nil)))) (bK (aZ oh true lL true gu 6 [97] (eX (by kernel_rfl)) (by decide) (by decide) (dx)) (by kernel_rfl))
theorem k86:CO 26 [.str Ag,.str [97],.int .i64 1] (.ret (.bool true)):=cK (.c k85 (.c Il (.c k56 .nil)))
theorem k87:CO 14 [.sl (aF oh) 3 true,.sl [.str [120],.int .i64 0,.int .i64 0,.sl [.bool false,.str [],.str [1],.bool false,.str [1],.str [10],.bool false,.str [5],.str [1],.bool false,.str [1],.str [5]] 2 true] 1 true,.int .i64 6,.str [98]] (.ret (.int .i64 0)):=ai.args (args:= [.sl (aF oh) 3 true,.sl [.str [120],.int .i64 0,.int .i64 0,.sl [.bool false,.str [],.str [1],.bool false,.str [1],.str [10],.bool false,.str [5],.str [1],.bool false,.str [1],.str [5]] 2 false] 1 true,.int .i64 6,.str [98]]) (.cons (aM.refl _) (.cons (aM.slP (.same (.same (.same (.sl .nil))))) (.cons (aM.refl _) (.cons (aM.refl _) .nil)))) (bK (aZ oh true lL true gu 6 [98] (eX (by kernel_rfl)) (by decide) (by decide) (dx)) (by kernel_rfl))
theorem k88:CO 26 [.str Ag,.str [98],.int .i64 0] (.ret (.bool true)):=cK (.c k87 (.c Il (.c k56 .nil)))
theorem k89:ai prog ap 90 [.ptr 0 0 0,.str [36]] (rA Ck 1) (.ret (.bool false)) (rA Ck 1):=cK (.nil)
theorem k90:ai prog ap 92 [.ptr 0 0 0,.str jG] (rA Ck 1) (.ret (.str [115,117,98])) (rA M7 1):=bK (da Ck jG (1) false (by decide) (by decide)) (by kernel_rfl)
theorem k91:ai prog ap 90 [.ptr 0 0 0,.str [46]] (rA M7 1) (.ret (.bool false)) (rA M7 1):=cK (.nil)
theorem XX:CO 32 [.int .i64 10] (.ret (.bool false)):=cK (.nil)
theorem U_:CO 34 [.int .i64 10] (.ret (.bool false)):=cK (.nil)
theorem G3:CO 30 [.int .i64 10] (.ret (.int .i64 2)):=cK (.nil)
theorem k95:ai prog ap 90 [.ptr 0 0 0,.str [40]] (rA M7 1) (.ret (.bool true)) (rA GP 1):=cK (.nil)
theorem k96:ai prog ap 90 [.ptr 0 0 0,.str [36]] (rA GP 2) (.ret (.bool false)) (rA GP 2):=cK (.nil)
theorem k97:ai prog ap 92 [.ptr 0 0 0,.str jG] (rA GP 2) (.ret (.str [111,119,110])) (rA XC 2):=bK (da GP jG (2) false (by decide) (by decide)) (by kernel_rfl)
theorem k98:ai prog ap 90 [.ptr 0 0 0,.str [46]] (rA XC 2) (.ret (.bool true)) (rA QO 2):=cK (.nil)
theorem k99:ai prog ap 92 [.ptr 0 0 0,.str tU] (rA QO 2) (.ret (.str [97])) (rA Ah 2):=bK (da QO tU (2) false (by decide) (by decide)) (by kernel_rfl)
theorem ZR:ai prog ap 56 [.ptr 0 0 0] (rA GP 1) (.ret (.tup [])) (rB Ah 1 2 bM):=cK (.c kN (.c kN (.c wX (.c k99 (.c xU (.c uX (.c wW (.c wV (.c wU (.c wT (.c wS (.c wR (.c wQ (.c uW (.c uV (.c wP (.c wO (.c tE (.c k9 (.c k8 (.c k7 (.c k6 (.c k5 (.c k4 (.c k3 (.c k98 (.c k97 (.c k96 .nil))))))))))))))))))))))))))))
theorem ZS:ai prog ap 90 [.ptr 0 0 0,.str [44,32]] (rB Ah 1 2 bM) (.ret (.bool true)) (rB lR 1 2 bM):=cK (.nil)
theorem ZT:ai prog ap 90 [.ptr 0 0 0,.str [36]] (rB lR 1 3 bM) (.ret (.bool false)) (rB lR 1 3 bM):=cK (.nil)
theorem ZU:ai prog ap 92 [.ptr 0 0 0,.str jG] (rB lR 1 3 bM) (.ret (.str [111,119,110])) (rB [46,97,41] 1 3 bM):=bK (fq lR jG (3) false 1 bM (by decide) (by decide)) (by kernel_rfl)
theorem ZV:ai prog ap 56 [.ptr 0 0 0] (rB lR 1 2 bM) (.ret (.tup [])) [⟨[.str [41],.ref 1 1 0 2,.int .i64 3,.bool false],0,false,0,0,false⟩,⟨zo6,1,false,0,5,true⟩]:=cK (.c kN (.c kN (.c wX (.c k40 (.c xU (.c uX (.c wW (.c wV (.c wU (.c wT (.c wS (.c wR (.c wQ (.c uW (.c uV (.c wP (.c wO (.c tE (.c k9 (.c k8 (.c k7 (.c k6 (.c k5 (.c k4 (.c k3 (.c k38 (.c ZU (.c ZT .nil))))))))))))))))))))))))))))
theorem ZW:ai prog ap 90 [.ptr 0 0 0,.str [41]] (rB [41] 2 3 zo6) (.ret (.bool true)) (rB [] 2 3 zo6):=cK (.nil)
theorem ZX:ai prog ap 56 [.ptr 0 0 0] (rA Ck 0) (.ret (.tup [])) [⟨[.str [],.ref 1 0 0 3,.int .i64 3,.bool false],0,false,0,0,false⟩,⟨(aF wm),0,false,0,5,true⟩]:=cK (.c ZW (.c G3 (.c G3 (.c ZV (.c ZS (.c G3 (.c ZR (.c k95 (.c G3 (.c U_ (.c XX (.c uX (.c wW (.c wV (.c wU (.c wT (.c wS (.c wR (.c wQ (.c uW (.c uV (.c wP (.c wO (.c tE (.c k9 (.c k8 (.c k7 (.c k6 (.c k5 (.c k4 (.c k3 (.c k91 (.c k90 (.c k89 .nil))))))))))))))))))))))))))))))))))
theorem Pc:CO 94 [.int .i64 10] (.ret (.bool false)):=cK (.nil)
theorem Ux:CO 74 [.agg [.int .i64 10,.bool false,.str [],.str [],.str []]] (.ret (.bool true)):=cK (.c U_ (.c Pc .nil))
theorem ZY:CO 48 [.sl (aF wm) 3 true] (.ret (.int .i64 0)):=cK (.c G3 (.c Df (.c Ux (.c XX (.c kN (.c J2 (.c Lj (.c xU (.c kN (.c J2 (.c Lj (.c xU .nil))))))))))))
theorem ZZ:CO 57 [.sl (aF wm) 3 true] (.ret (.tup [.str Ck,.int .i64 0])):=cK (.c U_ (.c Pc (.c k8 (.c G3 (.c wX (.c G1 (.c k4 (.c kN (.c wX (.c G1 (.c k4 (.c kN (.c ZY .nil)))))))))))))
theorem Z0:CO 27 [.str Ck] (.ret (.tup [.sl (aF wm) 3 true,.int .i64 0])):=cK (.c ZZ (.c ZX .nil))
theorem Z1:CO 14 [.sl (aF wm) 3 true,.sl [.str [120],.int .i64 0,.int .i64 0,.sl [.bool false,.str [],.str [1],.bool false,.str [1],.str [10],.bool false,.str [5],.str [1],.bool false,.str [1],.str [5]] 2 true] 1 true,.int .i64 6,.str [97]] (.ret (.int .i64 3)):=ai.args (args:= [.sl (aF wm) 3 true,.sl [.str [120],.int .i64 0,.int .i64 0,.sl [.bool false,.str [],.str [1],.bool false,.str [1],.str [10],.bool false,.str [5],.str [1],.bool false,.str [1],.str [5]] 2 false] 1 true,.int .i64 6,.str [97]]) (.cons (aM.refl _) (.cons (aM.slP (.same (.same (.same (.sl .nil))))) (.cons (aM.refl _) (.cons (aM.refl _) .nil)))) (bK (aZ wm true lL true gu 6 [97] (eX (by kernel_rfl)) (by decide) (by decide) (dx)) (by kernel_rfl))
theorem Z2:CO 26 [.str Ck,.str [97],.int .i64 3] (.ret (.bool true)):=cK (.c Z1 (.c Il (.c Z0 .nil)))
theorem Z3:ai prog ap 90 [.ptr 0 0 0,.str [36]] (rA NW 1) (.ret (.bool false)) (rA NW 1):=cK (.nil)
theorem Z4:ai prog ap 92 [.ptr 0 0 0,.str jG] (rA NW 1) (.ret (.str [115,117,98])) (rA X7 1):=bK (da NW jG (1) false (by decide) (by decide)) (by kernel_rfl)
theorem Z5:ai prog ap 90 [.ptr 0 0 0,.str [46]] (rA X7 1) (.ret (.bool false)) (rA X7 1):=cK (.nil)
theorem Z6:ai prog ap 90 [.ptr 0 0 0,.str [40]] (rA X7 1) (.ret (.bool true)) (rA X8 1):=cK (.nil)
theorem Z7:ai prog ap 90 [.ptr 0 0 0,.str [36]] (rA X8 2) (.ret (.bool true)) (rA JV 2):=cK (.nil)
theorem Z8:ai prog ap 92 [.ptr 0 0 0,.str sU] (rA JV 2) (.ret (.str [53])) (rA GK 2):=bK (da JV sU (2) false (by decide) (by decide)) (by kernel_rfl)
theorem La:CO 76 [.str []] (.ret (.str [])):=cK (.nil)
theorem Uy:CO 107 [.str []] (.ret (.tup [.int .i64 0,.bool true])):=cK (.c La .nil)
theorem Z9:CO 77 [.str [],.int .i64 3] (.ret (.tup [.int .i64 0,.bool true])):=cK (.c Uy (.c La .nil))
theorem Lb:CO 49 [.int .i64 0] (.ret (.str [])):=bK (b_ 0 (by decide)) (by kernel_rfl)
theorem Ie:CO 50 [.str [],.str [10]] (.ret (.str [])):=cK (.c Lb (.c k69 (.c Z9 .nil)))
theorem FL:CO 77 [.str [],.int .i64 7] (.ret (.tup [.int .i64 0,.bool true])):=cK (.c Uy (.c La .nil))
theorem Z_:CO 77 [.str [5],.int .i64 7] (.ret (.tup [.int .i64 5,.bool true])):=cK (.c k77 (.c XW .nil))
theorem aaa:CO 61 [.str [],.str [5]] (.ret (.str [5])):=cK (.c k79 (.c Z_ (.c FL .nil)))
theorem aab:CO 157 [.str [53]] (.ret (.tup [.str [5],.bool true])):=cK (.c aaa (.c k79 (.c Ie (.c J3 .nil))))
theorem aac:CO 77 [.str [1],.int .i64 7] (.ret (.tup [.int .i64 1,.bool true])):=cK (.c XU (.c NH .nil))
theorem Uz:CO 61 [.str [],.str [1]] (.ret (.str [1])):=cK (.c Ik (.c aac (.c FL .nil)))
theorem Db:CO 157 [.str [49]] (.ret (.tup [.str [1],.bool true])):=cK (.c Uz (.c Ik (.c Ie (.c J3 .nil))))
theorem aad:CO 128 [.str [5]] (.ret (.bool true)):=bK (oZ [5]) (by kernel_rfl)
theorem Dc:CO 128 [.str [1]] (.ret (.bool true)):=bK (oZ [1]) (by kernel_rfl)
theorem aae:CO 51 [.bool false,.str [5],.str [1]] (.ret (.agg [.bool false,.str [5],.str [1]])):=bK (ep false 5 1 (bE (by decide)) (bE (by decide)) (by decide)) (by kernel_rfl)
theorem aaf:CO 96 [.bool false,.str [5],.str [1]] (.ret (.tup [.agg [.bool false,.str [5],.str [1]],.bool true])):=cK (.c aae (.c Dc (.c aad .nil)))
theorem aag:CO 81 [.str [5],.str [10]] (.ret (.tup [.str [],.str [5],.bool true])):=bK (lj [5] [10] (by decide) (by decide) (by decide)) (by kernel_rfl)
theorem aah:CO 127 [.str [5]] (.ret (.str [53])):=cK (.c k77 (.c aag (.c J3 (.c XW .nil))))
theorem Ig:CO 118 [.str [1],.str [1]] (.ret (.int .i64 0)):=cK (.c NH (.c NH .nil))
theorem UA:CO 95 [.agg [.bool false,.str [5],.str [1]]] (.ret (.str [53])):=cK (.c Ig (.c Ik (.c aah (.c k75 .nil))))
theorem aai:CO 126 [.str [53]] (.ret (.tup [.agg [.bool false,.str [5],.str [1]],.bool true])):=cK (.c UA (.c aaf (.c Db (.c aab .nil))))
theorem aaj:ai prog ap 91 [.ptr 0 0 0] (rA JV 2) (.ret (.agg [.bool false,.str [5],.str [1]])) (rA GK 2):=cK (.c aai (.c Z8 .nil))
theorem UB:az prog ap (rA X8 1) 206 (mM 5 (af f56)) ⟨([(0,.ptr 0 0 0),(2,.bool true)]++dE [3,4,5,6,7,8,9,10,11,12,13,14,15]++ [(41,.bool false),(47,.bool true)]++dE [65,70,100,102,117,122,128,133,139,145,158,166,170,175,184,188,192]),[(0,⟨[.str JV,.nilS,.int .i64 2,.bool false],0,false,0,0,true⟩)],.dead,[]⟩ (.normal) ⟨([(0,.ptr 0 0 0),(2,.bool true)]++dE [3,4,5,6,7,8,9,10,11,12,13,14,15]++ [(41,.bool false),(47,.bool true)]++dE [65,70,100,102,117,122,128,133,139,145,158,166,170,175,184,188,192]),[(0,⟨[.str GK,.ref 1 0 0 1,.int .i64 2,.bool false],0,false,0,0,false⟩),(1,⟨ij,0,false,0,5,true⟩)],.dead,[]⟩:=fun nt hn=>tK zq (keep:=mC ap 56) (i:=4) (b:=0) (d:=52) (nt0:=206) (ans:= [(.ret (.agg [.bool false,.str [5],.str [1]]),(rA GK 2))]) (.cons (rfl:(.nilS:AV)=(.nilS:AV)) (.cons (rfl:(.nilS:AV)=(.nilS:AV)) (.cons aaj .nil))) hn (by kernel_rfl)
theorem aak:ai prog ap 56 [.ptr 0 0 0] (rA X8 1) (.ret (.tup [])) (rB GK 1 2 ij):=pK [1005] 4 8 (.n 9 .nil) (.l UB (.c Z7 .nil))
theorem aal:ai prog ap 90 [.ptr 0 0 0,.str [44,32]] (rB GK 1 2 ij) (.ret (.bool true)) (rB GL 1 2 ij):=cK (.nil)
theorem aam:ai prog ap 90 [.ptr 0 0 0,.str [36]] (rB GL 1 3 ij) (.ret (.bool false)) (rB GL 1 3 ij):=cK (.nil)
theorem aan:ai prog ap 92 [.ptr 0 0 0,.str jG] (rB GL 1 3 ij) (.ret (.str [109,117,108])) (rB M8 1 3 ij):=bK (fq GL jG (3) false 1 ij (by decide) (by decide)) (by kernel_rfl)
theorem aao:ai prog ap 90 [.ptr 0 0 0,.str [46]] (rB M8 1 3 ij) (.ret (.bool false)) (rB M8 1 3 ij):=cK (.nil)
theorem Lc:CO 32 [.int .i64 11] (.ret (.bool false)):=cK (.nil)
theorem Ih:CO 34 [.int .i64 11] (.ret (.bool false)):=cK (.nil)
theorem sN:CO 30 [.int .i64 11] (.ret (.int .i64 2)):=cK (.nil)
theorem aap:ai prog ap 90 [.ptr 0 0 0,.str [40]] (rB M8 1 3 ij) (.ret (.bool true)) (rB DY 1 3 ij):=cK (.nil)
theorem aaq:ai prog ap 90 [.ptr 0 0 0,.str [36]] (rB DY 1 4 ij) (.ret (.bool false)) (rB DY 1 4 ij):=cK (.nil)
theorem aar:ai prog ap 92 [.ptr 0 0 0,.str sU] (rB DY 1 4 ij) (.ret (.str QW)) (rB GU 1 4 ij):=bK (fq DY sU (4) false 1 ij (by decide) (by decide)) (by kernel_rfl)
theorem UC:CO 49 [.int .i64 2] (.ret (.str [2])):=bK (b_ 2 (by decide)) (by kernel_rfl)
theorem Ld:CO 76 [.str [2]] (.ret (.str [2])):=cK (.nil)
theorem UD:CO 107 [.str [2]] (.ret (.tup [.int .i64 2,.bool true])):=cK (.c Ld .nil)
theorem aas:CO 77 [.str [2],.int .i64 7] (.ret (.tup [.int .i64 2,.bool true])):=cK (.c UD (.c Ld .nil))
theorem aat:CO 61 [.str [],.str [2]] (.ret (.str [2])):=cK (.c UC (.c aas (.c FL .nil)))
theorem UE:CO 157 [.str [50]] (.ret (.tup [.str [2],.bool true])):=cK (.c aat (.c UC (.c Ie (.c J3 .nil))))
theorem UF:CO 128 [.str [2]] (.ret (.bool true)):=bK (oZ [2]) (by kernel_rfl)
theorem aau:CO 51 [.bool true,.str [1],.str [2]] (.ret (.agg [.bool true,.str [1],.str [2]])):=bK (ep true 1 2 (bE (by decide)) (bE (by decide)) (by decide)) (by kernel_rfl)
theorem aav:CO 96 [.bool true,.str [1],.str [2]] (.ret (.tup [.agg [.bool true,.str [1],.str [2]],.bool true])):=cK (.c aau (.c UF (.c Dc .nil)))
theorem aaw:CO 70 [.agg [.bool true,.str [1],.str [2]]] (.ret (.agg [.bool true,.str [1],.str [2]])):=bK (fB true [1] [2] (by decide) (by decide)) (by kernel_rfl)
theorem aax:CO 81 [.str [1],.str [10]] (.ret (.tup [.str [],.str [1],.bool true])):=bK (lj [1] [10] (by decide) (by decide) (by decide)) (by kernel_rfl)
theorem UG:CO 127 [.str [1]] (.ret (.str [49])):=cK (.c XU (.c aax (.c J3 (.c NH .nil))))
theorem aay:CO 118 [.str [2],.str [1]] (.ret (.int .i64 1)):=cK (.c NH (.c Ld .nil))
theorem aaz:CO 81 [.str [2],.str [10]] (.ret (.tup [.str [],.str [2],.bool true])):=bK (lj [2] [10] (by decide) (by decide) (by decide)) (by kernel_rfl)
theorem UH:CO 127 [.str [2]] (.ret (.str [50])):=cK (.c UD (.c aaz (.c J3 (.c Ld .nil))))
theorem UI:CO 95 [.agg [.bool true,.str [1],.str [2]]] (.ret (.str QW)):=cK (.c UH (.c aay (.c Ik (.c UG (.c aaw .nil)))))
theorem aaA:CO 126 [.str QW] (.ret (.tup [.agg [.bool true,.str [1],.str [2]],.bool true])):=cK (.c UI (.c aav (.c UE (.c Db .nil))))
theorem aaB:ai prog ap 91 [.ptr 0 0 0] (rB DY 1 4 ij) (.ret (.agg [.bool true,.str [1],.str [2]])) (rB GU 1 4 ij):=cK (.c aaA (.c aar .nil))
theorem aaC:ai prog ap 90 [.ptr 0 0 0,.str [100]] (rB GU 1 4 ij) (.ret (.bool false)) (rB GU 1 4 ij):=cK (.nil)
theorem aaD:ai prog ap 56 [.ptr 0 0 0] (rB DY 1 3 ij) (.ret (.tup [])) [⟨[.str GU,.ref 1 1 0 2,.int .i64 4,.bool false],0,false,0,0,false⟩,⟨qI,1,false,0,5,true⟩]:=cK (.c aaC (.c aaB (.c aaq .nil)))
theorem aaE:ai prog ap 90 [.ptr 0 0 0,.str [44,32]] (rB GU 2 4 qI) (.ret (.bool true)) (rB GV 2 4 qI):=cK (.nil)
theorem aaF:ai prog ap 90 [.ptr 0 0 0,.str [36]] (rB GV 2 5 qI) (.ret (.bool false)) (rB GV 2 5 qI):=cK (.nil)
theorem aaG:ai prog ap 92 [.ptr 0 0 0,.str jG] (rB GV 2 5 qI) (.ret (.str [111,119,110])) (rB XJ 2 5 qI):=bK (fq GV jG (5) false 2 qI (by decide) (by decide)) (by kernel_rfl)
theorem aaH:ai prog ap 90 [.ptr 0 0 0,.str [46]] (rB XJ 2 5 qI) (.ret (.bool true)) (rB [97,41,41] 2 5 qI):=cK (.nil)
theorem aaI:ai prog ap 92 [.ptr 0 0 0,.str tU] (rB [97,41,41] 2 5 qI) (.ret (.str [97])) (rB [41,41] 2 5 qI):=bK (fq [97,41,41] tU (5) false 2 qI (by decide) (by decide)) (by kernel_rfl)
theorem aaJ:ai prog ap 56 [.ptr 0 0 0] (rB GV 2 4 qI) (.ret (.tup [])) [⟨[.str [41,41],.ref 1 1 0 3,.int .i64 5,.bool false],0,false,0,0,false⟩,⟨zo3,1,false,0,5,true⟩]:=cK (.c kN (.c kN (.c wX (.c aaI (.c xU (.c uX (.c wW (.c wV (.c wU (.c wT (.c wS (.c wR (.c wQ (.c uW (.c uV (.c wP (.c wO (.c tE (.c k9 (.c k8 (.c k7 (.c k6 (.c k5 (.c k4 (.c k3 (.c aaH (.c aaG (.c aaF .nil))))))))))))))))))))))))))))
theorem aaK:ai prog ap 90 [.ptr 0 0 0,.str [41]] (rB [41,41] 3 5 zo3) (.ret (.bool true)) (rB [41] 3 5 zo3):=cK (.nil)
theorem aaL:ai prog ap 56 [.ptr 0 0 0] (rB GL 1 2 ij) (.ret (.tup [])) [⟨[.str [41],.ref 1 3 0 4,.int .i64 5,.bool false],0,false,0,0,false⟩,⟨zo2,3,false,0,5,true⟩]:=cK (.c aaK (.c sN (.c sN (.c aaJ (.c aaE (.c sN (.c aaD (.c aap (.c sN (.c Ih (.c Lc (.c uX (.c wW (.c wV (.c wU (.c wT (.c wS (.c wR (.c wQ (.c uW (.c uV (.c wP (.c wO (.c tE (.c k9 (.c k8 (.c k7 (.c k6 (.c k5 (.c k4 (.c k3 (.c aao (.c aan (.c aam .nil))))))))))))))))))))))))))))))))))
theorem aaM:ai prog ap 90 [.ptr 0 0 0,.str [41]] (rB [41] 4 5 zo2) (.ret (.bool true)) (rB [] 4 5 zo2):=cK (.nil)
theorem aaN:ai prog ap 56 [.ptr 0 0 0] (rA NW 0) (.ret (.tup [])) [⟨[.str [],.ref 1 0 0 5,.int .i64 5,.bool false],0,false,0,0,false⟩,⟨(aF wo),0,false,0,5,true⟩]:=cK (.c aaM (.c G3 (.c G3 (.c aaL (.c aal (.c G3 (.c aak (.c Z6 (.c G3 (.c U_ (.c XX (.c uX (.c wW (.c wV (.c wU (.c wT (.c wS (.c wR (.c wQ (.c uW (.c uV (.c wP (.c wO (.c tE (.c k9 (.c k8 (.c k7 (.c k6 (.c k5 (.c k4 (.c k3 (.c Z5 (.c Z4 (.c Z3 .nil))))))))))))))))))))))))))))))))))
theorem Le:CO 32 [.int .i64 1] (.ret (.bool false)):=cK (.nil)
theorem A_:CO 94 [.int .i64 1] (.ret (.bool true)):=cK (.nil)
theorem aaO:CO 105 [.agg [.bool false,.str [5],.str [1]]] (.ret (.bool true)):=bK (iH false [5] [1] (by decide) (by decide)) (by kernel_rfl)
theorem aaP:CO 74 [.agg ij] (.ret (.bool true)):=cK (.c aaO (.c A_ .nil))
theorem Ba:CO 30 [.int .i64 1] (.ret (.int .i64 0)):=cK (.nil)
theorem UJ:CO 32 [.int .i64 3] (.ret (.bool false)):=cK (.nil)
theorem Lf:CO 94 [.int .i64 3] (.ret (.bool true)):=cK (.nil)
theorem aaQ:CO 105 [.agg [.bool true,.str [1],.str [2]]] (.ret (.bool true)):=bK (iH true [1] [2] (by decide) (by decide)) (by kernel_rfl)
theorem aaR:CO 74 [.agg [.int .i64 3,.bool true,.str [1],.str [2],.str []]] (.ret (.bool true)):=cK (.c aaQ (.c Lf .nil))
theorem Lg:CO 30 [.int .i64 3] (.ret (.int .i64 0)):=cK (.nil)
theorem Pd:CO 94 [.int .i64 11] (.ret (.bool false)):=cK (.nil)
theorem UK:CO 74 [.agg [.int .i64 11,.bool false,.str [],.str [],.str []]] (.ret (.bool true)):=cK (.c Ih (.c Pd .nil))
theorem aaS:CO 48 [.sl (aF wo) 5 true] (.ret (.int .i64 0)):=cK (.c G3 (.c Df (.c Ux (.c XX (.c sN (.c Df (.c UK (.c Lc (.c kN (.c J2 (.c Lj (.c xU (.c Lg (.c Df (.c aaR (.c UJ (.c Ba (.c Df (.c aaP (.c Le .nil))))))))))))))))))))
theorem Lh:CO 93 [.int .i64 1] (.ret (.str [36])):=cK (.nil)
theorem UL:CO 93 [.int .i64 3] (.ret (.str [])):=cK (.nil)
theorem aaT:CO 57 [.sl (aF wo) 5 true] (.ret (.tup [.str NW,.int .i64 0])):=cK (.c U_ (.c Pc (.c k8 (.c G3 (.c Ih (.c Pd (.c k9 (.c sN (.c wX (.c G1 (.c k4 (.c kN (.c UI (.c Lf (.c UL (.c Lg (.c UA (.c A_ (.c Lh (.c Ba (.c aaS .nil)))))))))))))))))))))
theorem aaU:CO 27 [.str NW] (.ret (.tup [.sl (aF wo) 5 true,.int .i64 0])):=cK (.c aaT (.c aaN .nil))
theorem aaV:CO 14 [.sl (aF wo) 5 true,.sl [.str [120],.int .i64 0,.int .i64 0,.sl [.bool false,.str [],.str [1],.bool false,.str [1],.str [10],.bool false,.str [5],.str [1],.bool false,.str [1],.str [5]] 2 true] 1 true,.int .i64 6,.str [97]] (.ret (.int .i64 1)):=ai.args (args:= [.sl (aF wo) 5 true,.sl [.str [120],.int .i64 0,.int .i64 0,.sl [.bool false,.str [],.str [1],.bool false,.str [1],.str [10],.bool false,.str [5],.str [1],.bool false,.str [1],.str [5]] 2 false] 1 true,.int .i64 6,.str [97]]) (.cons (aM.refl _) (.cons (aM.slP (.same (.same (.same (.sl .nil))))) (.cons (aM.refl _) (.cons (aM.refl _) .nil)))) (bK (aZ wo true lL true gu 6 [97] (eX (by kernel_rfl)) (by decide) (by decide) (dx)) (by kernel_rfl))
theorem aaW:CO 26 [.str NW,.str [97],.int .i64 1] (.ret (.bool true)):=cK (.c aaV (.c Il (.c aaU .nil)))
theorem aaX:ai prog ap 90 [.ptr 0 0 0,.str [36]] (rA Cj 1) (.ret (.bool false)) (rA Cj 1):=cK (.nil)
theorem aaY:ai prog ap 92 [.ptr 0 0 0,.str jG] (rA Cj 1) (.ret (.str [109,117,108])) (rA M5 1):=bK (da Cj jG (1) false (by decide) (by decide)) (by kernel_rfl)
theorem aaZ:ai prog ap 90 [.ptr 0 0 0,.str [46]] (rA M5 1) (.ret (.bool false)) (rA M5 1):=cK (.nil)
theorem aa0:ai prog ap 90 [.ptr 0 0 0,.str [40]] (rA M5 1) (.ret (.bool true)) (rA GN 1):=cK (.nil)
theorem aa1:ai prog ap 90 [.ptr 0 0 0,.str [36]] (rA GN 2) (.ret (.bool false)) (rA GN 2):=cK (.nil)
theorem aa2:ai prog ap 92 [.ptr 0 0 0,.str jG] (rA GN 2) (.ret (.str [111,119,110])) (rA XB 2):=bK (da GN jG (2) false (by decide) (by decide)) (by kernel_rfl)
theorem aa3:ai prog ap 90 [.ptr 0 0 0,.str [46]] (rA XB 2) (.ret (.bool true)) (rA QN 2):=cK (.nil)
theorem aa4:ai prog ap 92 [.ptr 0 0 0,.str tU] (rA QN 2) (.ret (.str [97])) (rA QQ 2):=bK (da QN tU (2) false (by decide) (by decide)) (by kernel_rfl)
theorem aa5:ai prog ap 56 [.ptr 0 0 0] (rA GN 1) (.ret (.tup [])) (rB QQ 1 2 bM):=cK (.c kN (.c kN (.c wX (.c aa4 (.c xU (.c uX (.c wW (.c wV (.c wU (.c wT (.c wS (.c wR (.c wQ (.c uW (.c uV (.c wP (.c wO (.c tE (.c k9 (.c k8 (.c k7 (.c k6 (.c k5 (.c k4 (.c k3 (.c aa3 (.c aa2 (.c aa1 .nil))))))))))))))))))))))))))))
theorem aa6:ai prog ap 90 [.ptr 0 0 0,.str [44,32]] (rB QQ 1 2 bM) (.ret (.bool true)) (rB GX 1 2 bM):=cK (.nil)
theorem aa7:ai prog ap 90 [.ptr 0 0 0,.str [36]] (rB GX 1 3 bM) (.ret (.bool false)) (rB GX 1 3 bM):=cK (.nil)
theorem aa8:ai prog ap 92 [.ptr 0 0 0,.str jG] (rB GX 1 3 bM) (.ret (.str XI)) (rB [46,98,41] 1 3 bM):=bK (fq GX jG (3) false 1 bM (by decide) (by decide)) (by kernel_rfl)
theorem aa9:ai prog ap 90 [.ptr 0 0 0,.str [46]] (rB [46,98,41] 1 3 bM) (.ret (.bool true)) (rB [98,41] 1 3 bM):=cK (.nil)
theorem aa_:ai prog ap 92 [.ptr 0 0 0,.str tU] (rB [98,41] 1 3 bM) (.ret (.str [98])) (rB [41] 1 3 bM):=bK (fq [98,41] tU (3) false 1 bM (by decide) (by decide)) (by kernel_rfl)
theorem aba:ai prog ap 56 [.ptr 0 0 0] (rB GX 1 2 bM) (.ret (.tup [])) [⟨[.str [41],.ref 1 1 0 2,.int .i64 3,.bool false],0,false,0,0,false⟩,⟨zo7,1,false,0,5,true⟩]:=cK (.c NG (.c NG (.c Q4 (.c aa_ (.c XS (.c uX (.c wW (.c wV (.c wU (.c wT (.c wS (.c wR (.c wQ (.c uW (.c uV (.c wP (.c wO (.c tE (.c k9 (.c k8 (.c k7 (.c k6 (.c k5 (.c k4 (.c k3 (.c aa9 (.c aa8 (.c aa7 .nil))))))))))))))))))))))))))))
theorem abb:ai prog ap 90 [.ptr 0 0 0,.str [41]] (rB [41] 2 3 zo7) (.ret (.bool true)) (rB [] 2 3 zo7):=cK (.nil)
theorem abd:ai prog ap 56 [.ptr 0 0 0] (rA Cj 0) (.ret (.tup [])) [⟨[.str [],.ref 1 0 0 3,.int .i64 3,.bool false],0,false,0,0,false⟩,⟨(aF iy),0,false,0,5,true⟩]:=cK (.c abb (.c sN (.c sN (.c aba (.c aa6 (.c sN (.c aa5 (.c aa0 (.c sN (.c Ih (.c Lc (.c uX (.c wW (.c wV (.c wU (.c wT (.c wS (.c wR (.c wQ (.c uW (.c uV (.c wP (.c wO (.c tE (.c k9 (.c k8 (.c k7 (.c k6 (.c k5 (.c k4 (.c k3 (.c aaZ (.c aaY (.c aaX .nil))))))))))))))))))))))))))))))))))
theorem abe:CO 74 [.agg [.int .i64 5,.bool false,.str [],.str [],.str [98]]] (.ret (.bool true)):=cK (.c Q4 (.c XT .nil))
theorem UM:CO 75 [.str [98]] (.ret (.bool true)):=cK (.nil)
theorem abf:CO 48 [.sl (aF iy) 3 true] (.ret (.int .i64 0)):=cK (.c sN (.c Df (.c UK (.c Lc (.c NG (.c UM (.c abe (.c XS (.c kN (.c J2 (.c Lj (.c xU .nil))))))))))))
theorem abg:CO 57 [.sl (aF iy) 3 true] (.ret (.tup [.str Cj,.int .i64 0])):=cK (.c Ih (.c Pd (.c k9 (.c sN (.c Q4 (.c XT (.c k3 (.c NG (.c wX (.c G1 (.c k4 (.c kN (.c abf .nil)))))))))))))
theorem UN:CO 27 [.str Cj] (.ret (.tup [.sl (aF iy) 3 true,.int .i64 0])):=cK (.c abg (.c abd .nil))
theorem abh:CO 14 [.sl (aF iy) 3 true,.sl [.str [120],.int .i64 0,.int .i64 0,.sl [.bool false,.str [],.str [1],.bool false,.str [1],.str [10],.bool false,.str [5],.str [1],.bool false,.str [1],.str [5]] 2 true] 1 true,.int .i64 6,.str [97]] (.ret (.int .i64 3)):=ai.args (args:= [.sl (aF iy) 3 true,.sl [.str [120],.int .i64 0,.int .i64 0,.sl [.bool false,.str [],.str [1],.bool false,.str [1],.str [10],.bool false,.str [5],.str [1],.bool false,.str [1],.str [5]] 2 false] 1 true,.int .i64 6,.str [97]]) (.cons (aM.refl _) (.cons (aM.slP (.same (.same (.same (.sl .nil))))) (.cons (aM.refl _) (.cons (aM.refl _) .nil)))) (bK (aZ iy true lL true gu 6 [97] (eX (by kernel_rfl)) (by decide) (by decide) (dx)) (by kernel_rfl))
theorem abj:CO 26 [.str Cj,.str [97],.int .i64 3] (.ret (.bool true)):=cK (.c abh (.c Il (.c UN .nil)))
theorem abk:ai prog ap 90 [.ptr 0 0 0,.str [36]] (rA Cl 1) (.ret (.bool false)) (rA Cl 1):=cK (.nil)
theorem abl:ai prog ap 92 [.ptr 0 0 0,.str jG] (rA Cl 1) (.ret (.str [100,105,118])) (rA M9 1):=bK (da Cl jG (1) false (by decide) (by decide)) (by kernel_rfl)
theorem abm:ai prog ap 90 [.ptr 0 0 0,.str [46]] (rA M9 1) (.ret (.bool false)) (rA M9 1):=cK (.nil)
theorem Li:CO 32 [.int .i64 12] (.ret (.bool false)):=cK (.nil)
theorem Ii:CO 34 [.int .i64 12] (.ret (.bool false)):=cK (.nil)
theorem sO:CO 30 [.int .i64 12] (.ret (.int .i64 2)):=cK (.nil)
theorem abn:ai prog ap 90 [.ptr 0 0 0,.str [40]] (rA M9 1) (.ret (.bool true)) (rA Na 1):=cK (.nil)
theorem abo:ai prog ap 90 [.ptr 0 0 0,.str [36]] (rA Na 2) (.ret (.bool true)) (rA JX 2):=cK (.nil)
theorem abp:ai prog ap 92 [.ptr 0 0 0,.str sU] (rA JX 2) (.ret (.str [49])) (rA Ah 2):=bK (da JX sU (2) false (by decide) (by decide)) (by kernel_rfl)
theorem abq:CO 51 [.bool false,.str [1],.str [1]] (.ret (.agg [.bool false,.str [1],.str [1]])):=bK (ep false 1 1 (bE (by decide)) (bE (by decide)) (by decide)) (by kernel_rfl)
theorem abr:CO 96 [.bool false,.str [1],.str [1]] (.ret (.tup [.agg [.bool false,.str [1],.str [1]],.bool true])):=cK (.c abq (.c Dc (.c Dc .nil)))
theorem UO:CO 95 [.agg [.bool false,.str [1],.str [1]]] (.ret (.str [49])):=cK (.c Ig (.c Ik (.c UG (.c k59 .nil))))
theorem abt:CO 126 [.str [49]] (.ret (.tup [.agg [.bool false,.str [1],.str [1]],.bool true])):=cK (.c UO (.c abr (.c Db (.c Db .nil))))
theorem abu:ai prog ap 91 [.ptr 0 0 0] (rA JX 2) (.ret (.agg [.bool false,.str [1],.str [1]])) (rA Ah 2):=cK (.c abt (.c abp .nil))
theorem UQ:az prog ap (rA Na 1) 206 (mM 5 (af f56)) ⟨([(0,.ptr 0 0 0),(2,.bool true)]++dE [3,4,5,6,7,8,9,10,11,12,13,14,15]++ [(41,.bool false),(47,.bool true)]++dE [65,70,100,102,117,122,128,133,139,145,158,166,170,175,184,188,192]),[(0,⟨[.str JX,.nilS,.int .i64 2,.bool false],0,false,0,0,true⟩)],.dead,[]⟩ (.normal) ⟨([(0,.ptr 0 0 0),(2,.bool true)]++dE [3,4,5,6,7,8,9,10,11,12,13,14,15]++ [(41,.bool false),(47,.bool true)]++dE [65,70,100,102,117,122,128,133,139,145,158,166,170,175,184,188,192]),[(0,⟨[.str Ah,.ref 1 0 0 1,.int .i64 2,.bool false],0,false,0,0,false⟩),(1,⟨nQ,0,false,0,5,true⟩)],.dead,[]⟩:=fun nt hn=>tK zq (keep:=mC ap 56) (i:=4) (b:=0) (d:=52) (nt0:=206) (ans:= [(.ret (.agg [.bool false,.str [1],.str [1]]),(rA Ah 2))]) (.cons (rfl:(.nilS:AV)=(.nilS:AV)) (.cons (rfl:(.nilS:AV)=(.nilS:AV)) (.cons abu .nil))) hn (by kernel_rfl)
theorem abv:ai prog ap 56 [.ptr 0 0 0] (rA Na 1) (.ret (.tup [])) (rB Ah 1 2 nQ):=pK [1005] 4 8 (.n 9 .nil) (.l UQ (.c abo .nil))
theorem abw:ai prog ap 90 [.ptr 0 0 0,.str [44,32]] (rB Ah 1 2 nQ) (.ret (.bool true)) (rB lR 1 2 nQ):=cK (.nil)
theorem abx:ai prog ap 90 [.ptr 0 0 0,.str [36]] (rB lR 1 3 nQ) (.ret (.bool false)) (rB lR 1 3 nQ):=cK (.nil)
theorem aby:ai prog ap 92 [.ptr 0 0 0,.str jG] (rB lR 1 3 nQ) (.ret (.str [111,119,110])) (rB [46,97,41] 1 3 nQ):=bK (fq lR jG (3) false 1 nQ (by decide) (by decide)) (by kernel_rfl)
theorem abz:ai prog ap 90 [.ptr 0 0 0,.str [46]] (rB [46,97,41] 1 3 nQ) (.ret (.bool true)) (rB [97,41] 1 3 nQ):=cK (.nil)
theorem abA:ai prog ap 92 [.ptr 0 0 0,.str tU] (rB [97,41] 1 3 nQ) (.ret (.str [97])) (rB [41] 1 3 nQ):=bK (fq [97,41] tU (3) false 1 nQ (by decide) (by decide)) (by kernel_rfl)
theorem abB:ai prog ap 56 [.ptr 0 0 0] (rB lR 1 2 nQ) (.ret (.tup [])) [⟨[.str [41],.ref 1 1 0 2,.int .i64 3,.bool false],0,false,0,0,false⟩,⟨zo8,1,false,0,5,true⟩]:=cK (.c kN (.c kN (.c wX (.c abA (.c xU (.c uX (.c wW (.c wV (.c wU (.c wT (.c wS (.c wR (.c wQ (.c uW (.c uV (.c wP (.c wO (.c tE (.c k9 (.c k8 (.c k7 (.c k6 (.c k5 (.c k4 (.c k3 (.c abz (.c aby (.c abx .nil))))))))))))))))))))))))))))
theorem abC:ai prog ap 90 [.ptr 0 0 0,.str [41]] (rB [41] 2 3 zo8) (.ret (.bool true)) (rB [] 2 3 zo8):=cK (.nil)
theorem abD:ai prog ap 56 [.ptr 0 0 0] (rA Cl 0) (.ret (.tup [])) [⟨[.str [],.ref 1 0 0 3,.int .i64 3,.bool false],0,false,0,0,false⟩,⟨(aF wq),0,false,0,5,true⟩]:=cK (.c abC (.c sO (.c sO (.c abB (.c abw (.c sO (.c abv (.c abn (.c sO (.c Ii (.c Li (.c uX (.c wW (.c wV (.c wU (.c wT (.c wS (.c wR (.c wQ (.c uW (.c uV (.c wP (.c wO (.c tE (.c k9 (.c k8 (.c k7 (.c k6 (.c k5 (.c k4 (.c k3 (.c abm (.c abl (.c abk .nil))))))))))))))))))))))))))))))))))
theorem abE:CO 105 [.agg [.bool false,.str [1],.str [1]]] (.ret (.bool true)):=bK (iH false [1] [1] (by decide) (by decide)) (by kernel_rfl)
theorem abF:CO 74 [.agg nQ] (.ret (.bool true)):=cK (.c abE (.c A_ .nil))
theorem Pe:CO 94 [.int .i64 12] (.ret (.bool false)):=cK (.nil)
theorem UR:CO 74 [.agg [.int .i64 12,.bool false,.str [],.str [],.str []]] (.ret (.bool true)):=cK (.c Ii (.c Pe .nil))
theorem abG:CO 48 [.sl (aF wq) 3 true] (.ret (.int .i64 0)):=cK (.c sO (.c Df (.c UR (.c Li (.c kN (.c J2 (.c Lj (.c xU (.c Ba (.c Df (.c abF (.c Le .nil))))))))))))
theorem abH:CO 57 [.sl (aF wq) 3 true] (.ret (.tup [.str Cl,.int .i64 0])):=cK (.c Ii (.c Pe (.c tE (.c sO (.c wX (.c G1 (.c k4 (.c kN (.c UO (.c A_ (.c Lh (.c Ba (.c abG .nil)))))))))))))
theorem abI:CO 27 [.str Cl] (.ret (.tup [.sl (aF wq) 3 true,.int .i64 0])):=cK (.c abH (.c abD .nil))
theorem abJ:CO 14 [.sl (aF wq) 3 true,.sl [.str [120],.int .i64 0,.int .i64 0,.sl [.bool false,.str [],.str [1],.bool false,.str [1],.str [10],.bool false,.str [5],.str [1],.bool false,.str [1],.str [5]] 2 true] 1 true,.int .i64 6,.str [97]] (.ret (.int .i64 3)):=ai.args (args:= [.sl (aF wq) 3 true,.sl [.str [120],.int .i64 0,.int .i64 0,.sl [.bool false,.str [],.str [1],.bool false,.str [1],.str [10],.bool false,.str [5],.str [1],.bool false,.str [1],.str [5]] 2 false] 1 true,.int .i64 6,.str [97]]) (.cons (aM.refl _) (.cons (aM.slP (.same (.same (.same (.sl .nil))))) (.cons (aM.refl _) (.cons (aM.refl _) .nil)))) (bK (aZ wq true lL true gu 6 [97] (eX (by kernel_rfl)) (by decide) (by decide) (dx)) (by kernel_rfl))
theorem abK:CO 26 [.str Cl,.str [97],.int .i64 3] (.ret (.bool true)):=cK (.c abJ (.c Il (.c abI .nil)))
theorem abL:ai prog ap 90 [.ptr 0 0 0,.str [36]] (rA Cm 1) (.ret (.bool false)) (rA Cm 1):=cK (.nil)
theorem abM:ai prog ap 92 [.ptr 0 0 0,.str jG] (rA Cm 1) (.ret (.str [100,105,118])) (rA M_ 1):=bK (da Cm jG (1) false (by decide) (by decide)) (by kernel_rfl)
theorem abN:ai prog ap 90 [.ptr 0 0 0,.str [46]] (rA M_ 1) (.ret (.bool false)) (rA M_ 1):=cK (.nil)
theorem abO:ai prog ap 90 [.ptr 0 0 0,.str [40]] (rA M_ 1) (.ret (.bool true)) (rA GR 1):=cK (.nil)
theorem abP:ai prog ap 90 [.ptr 0 0 0,.str [36]] (rA GR 2) (.ret (.bool false)) (rA GR 2):=cK (.nil)
theorem abQ:ai prog ap 92 [.ptr 0 0 0,.str jG] (rA GR 2) (.ret (.str [111,119,110])) (rA XF 2):=bK (da GR jG (2) false (by decide) (by decide)) (by kernel_rfl)
theorem abR:ai prog ap 90 [.ptr 0 0 0,.str [46]] (rA XF 2) (.ret (.bool true)) (rA QS 2):=cK (.nil)
theorem abS:ai prog ap 92 [.ptr 0 0 0,.str tU] (rA QS 2) (.ret (.str [97])) (rA QU 2):=bK (da QS tU (2) false (by decide) (by decide)) (by kernel_rfl)
theorem abT:ai prog ap 56 [.ptr 0 0 0] (rA GR 1) (.ret (.tup [])) (rB QU 1 2 bM):=cK (.c kN (.c kN (.c wX (.c abS (.c xU (.c uX (.c wW (.c wV (.c wU (.c wT (.c wS (.c wR (.c wQ (.c uW (.c uV (.c wP (.c wO (.c tE (.c k9 (.c k8 (.c k7 (.c k6 (.c k5 (.c k4 (.c k3 (.c abR (.c abQ (.c abP .nil))))))))))))))))))))))))))))
theorem abU:ai prog ap 90 [.ptr 0 0 0,.str [44,32]] (rB QU 1 2 bM) (.ret (.bool true)) (rB [45,50,41] 1 2 bM):=cK (.nil)
theorem abV:ai prog ap 90 [.ptr 0 0 0,.str [36]] (rB [45,50,41] 1 3 bM) (.ret (.bool false)) (rB [45,50,41] 1 3 bM):=cK (.nil)
theorem abW:ai prog ap 92 [.ptr 0 0 0,.str sU] (rB [45,50,41] 1 3 bM) (.ret (.str [45,50])) (rB [41] 1 3 bM):=bK (fq [45,50,41] sU (3) false 1 bM (by decide) (by decide)) (by kernel_rfl)
theorem abX:CO 51 [.bool true,.str [2],.str [1]] (.ret (.agg [.bool true,.str [2],.str [1]])):=bK (ep true 2 1 (bE (by decide)) (bE (by decide)) (by decide)) (by kernel_rfl)
theorem abY:CO 96 [.bool true,.str [2],.str [1]] (.ret (.tup [.agg [.bool true,.str [2],.str [1]],.bool true])):=cK (.c abX (.c Dc (.c UF .nil)))
theorem abZ:CO 70 [.agg [.bool true,.str [2],.str [1]]] (.ret (.agg [.bool true,.str [2],.str [1]])):=bK (fB true [2] [1] (by decide) (by decide)) (by kernel_rfl)
theorem US:CO 95 [.agg [.bool true,.str [2],.str [1]]] (.ret (.str [45,50])):=cK (.c Ig (.c Ik (.c UH (.c abZ .nil))))
theorem ab0:CO 126 [.str [45,50]] (.ret (.tup [.agg [.bool true,.str [2],.str [1]],.bool true])):=cK (.c US (.c abY (.c Db (.c UE .nil))))
theorem ab1:ai prog ap 91 [.ptr 0 0 0] (rB [45,50,41] 1 3 bM) (.ret (.agg [.bool true,.str [2],.str [1]])) (rB [41] 1 3 bM):=cK (.c ab0 (.c abW .nil))
theorem ab2:ai prog ap 90 [.ptr 0 0 0,.str [100]] (rB [41] 1 3 bM) (.ret (.bool false)) (rB [41] 1 3 bM):=cK (.nil)
theorem ab3:ai prog ap 56 [.ptr 0 0 0] (rB [45,50,41] 1 2 bM) (.ret (.tup [])) [⟨[.str [41],.ref 1 1 0 2,.int .i64 3,.bool false],0,false,0,0,false⟩,⟨QI,1,false,0,5,true⟩]:=cK (.c ab2 (.c ab1 (.c abV .nil)))
theorem ab4:ai prog ap 90 [.ptr 0 0 0,.str [41]] (rB [41] 2 3 QI) (.ret (.bool true)) (rB [] 2 3 QI):=cK (.nil)
theorem ab5:ai prog ap 56 [.ptr 0 0 0] (rA Cm 0) (.ret (.tup [])) [⟨[.str [],.ref 1 0 0 3,.int .i64 3,.bool false],0,false,0,0,false⟩,⟨(aF wu),0,false,0,5,true⟩]:=cK (.c ab4 (.c sO (.c sO (.c ab3 (.c abU (.c sO (.c abT (.c abO (.c sO (.c Ii (.c Li (.c uX (.c wW (.c wV (.c wU (.c wT (.c wS (.c wR (.c wQ (.c uW (.c uV (.c wP (.c wO (.c tE (.c k9 (.c k8 (.c k7 (.c k6 (.c k5 (.c k4 (.c k3 (.c abN (.c abM (.c abL .nil))))))))))))))))))))))))))))))))))
theorem ab6:CO 105 [.agg [.bool true,.str [2],.str [1]]] (.ret (.bool true)):=bK (iH true [2] [1] (by decide) (by decide)) (by kernel_rfl)
theorem ab7:CO 74 [.agg [.int .i64 3,.bool true,.str [2],.str [1],.str []]] (.ret (.bool true)):=cK (.c ab6 (.c Lf .nil))
theorem ab8:CO 48 [.sl (aF wu) 3 true] (.ret (.int .i64 0)):=cK (.c sO (.c Df (.c UR (.c Li (.c Lg (.c Df (.c ab7 (.c UJ (.c kN (.c J2 (.c Lj (.c xU .nil))))))))))))
theorem ab9:CO 57 [.sl (aF wu) 3 true] (.ret (.tup [.str Cm,.int .i64 0])):=cK (.c Ii (.c Pe (.c tE (.c sO (.c US (.c Lf (.c UL (.c Lg (.c wX (.c G1 (.c k4 (.c kN (.c ab8 .nil)))))))))))))
theorem ab_:CO 27 [.str Cm] (.ret (.tup [.sl (aF wu) 3 true,.int .i64 0])):=cK (.c ab9 (.c ab5 .nil))
theorem aca:CO 14 [.sl (aF wu) 3 true,.sl [.str [120],.int .i64 0,.int .i64 0,.sl [.bool false,.str [],.str [1],.bool false,.str [1],.str [10],.bool false,.str [5],.str [1],.bool false,.str [1],.str [5]] 2 true] 1 true,.int .i64 6,.str [97]] (.ret (.int .i64 2)):=ai.args (args:= [.sl (aF wu) 3 true,.sl [.str [120],.int .i64 0,.int .i64 0,.sl [.bool false,.str [],.str [1],.bool false,.str [1],.str [10],.bool false,.str [5],.str [1],.bool false,.str [1],.str [5]] 2 false] 1 true,.int .i64 6,.str [97]]) (.cons (aM.refl _) (.cons (aM.slP (.same (.same (.same (.sl .nil))))) (.cons (aM.refl _) (.cons (aM.refl _) .nil)))) (bK (aZ wu true lL true gu 6 [97] (eX (by kernel_rfl)) (by decide) (by decide) (dx)) (by kernel_rfl))
theorem acb:CO 26 [.str Cm,.str [97],.int .i64 2] (.ret (.bool true)):=cK (.c aca (.c Il (.c ab_ .nil)))
theorem acd:ai prog ap 90 [.ptr 0 0 0,.str [36]] (rA M3 1) (.ret (.bool false)) (rA M3 1):=cK (.nil)
theorem ace:ai prog ap 92 [.ptr 0 0 0,.str jG] (rA M3 1) (.ret (.str [105,102])) (rA X5 1):=bK (da M3 jG (1) false (by decide) (by decide)) (by kernel_rfl)
theorem acf:ai prog ap 90 [.ptr 0 0 0,.str [46]] (rA X5 1) (.ret (.bool false)) (rA X5 1):=cK (.nil)
theorem UT:CO 32 [.int .i64 15] (.ret (.bool false)):=cK (.nil)
theorem Pf:CO 34 [.int .i64 15] (.ret (.bool false)):=cK (.nil)
theorem De:CO 30 [.int .i64 15] (.ret (.int .i64 3)):=cK (.nil)
theorem acg:ai prog ap 90 [.ptr 0 0 0,.str [40]] (rA X5 1) (.ret (.bool true)) (rA Q8 1):=cK (.nil)
theorem ach:ai prog ap 90 [.ptr 0 0 0,.str [36]] (rA Q8 2) (.ret (.bool false)) (rA Q8 2):=cK (.nil)
theorem aci:ai prog ap 92 [.ptr 0 0 0,.str jG] (rA Q8 2) (.ret (.str XH)) (rA X6 2):=bK (da Q8 jG (2) false (by decide) (by decide)) (by kernel_rfl)
theorem acj:ai prog ap 90 [.ptr 0 0 0,.str [46]] (rA X6 2) (.ret (.bool false)) (rA X6 2):=cK (.nil)
theorem UU:CO 32 [.int .i64 16] (.ret (.bool false)):=cK (.nil)
theorem Pg:CO 34 [.int .i64 16] (.ret (.bool false)):=cK (.nil)
theorem FM:CO 30 [.int .i64 16] (.ret (.int .i64 2)):=cK (.nil)
theorem ack:ai prog ap 90 [.ptr 0 0 0,.str [40]] (rA X6 2) (.ret (.bool true)) (rA Q9 2):=cK (.nil)
theorem acl:ai prog ap 90 [.ptr 0 0 0,.str [36]] (rA Q9 3) (.ret (.bool false)) (rA Q9 3):=cK (.nil)
theorem acm:ai prog ap 92 [.ptr 0 0 0,.str jG] (rA Q9 3) (.ret (.str [111,119,110])) (rA Xy 3):=bK (da Q9 jG (3) false (by decide) (by decide)) (by kernel_rfl)
theorem acn:ai prog ap 90 [.ptr 0 0 0,.str [46]] (rA Xy 3) (.ret (.bool true)) (rA QJ 3):=cK (.nil)
theorem aco:ai prog ap 92 [.ptr 0 0 0,.str tU] (rA QJ 3) (.ret (.str [97])) (rA QK 3):=bK (da QJ tU (3) false (by decide) (by decide)) (by kernel_rfl)
theorem acp:ai prog ap 56 [.ptr 0 0 0] (rA Q9 2) (.ret (.tup [])) (rB QK 1 3 bM):=cK (.c kN (.c kN (.c wX (.c aco (.c xU (.c uX (.c wW (.c wV (.c wU (.c wT (.c wS (.c wR (.c wQ (.c uW (.c uV (.c wP (.c wO (.c tE (.c k9 (.c k8 (.c k7 (.c k6 (.c k5 (.c k4 (.c k3 (.c acn (.c acm (.c acl .nil))))))))))))))))))))))))))))
theorem acq:ai prog ap 90 [.ptr 0 0 0,.str [44,32]] (rB QK 1 3 bM) (.ret (.bool true)) (rB M6 1 3 bM):=cK (.nil)
theorem acr:ai prog ap 90 [.ptr 0 0 0,.str [36]] (rB M6 1 4 bM) (.ret (.bool true)) (rB JW 1 4 bM):=cK (.nil)
theorem acs:ai prog ap 92 [.ptr 0 0 0,.str sU] (rB JW 1 4 bM) (.ret (.str [51])) (rB GQ 1 4 bM):=bK (fq JW sU (4) false 1 bM (by decide) (by decide)) (by kernel_rfl)
theorem UV:CO 49 [.int .i64 3] (.ret (.str [3])):=bK (b_ 3 (by decide)) (by kernel_rfl)
theorem Ph:CO 76 [.str [3]] (.ret (.str [3])):=cK (.nil)
theorem UW:CO 107 [.str [3]] (.ret (.tup [.int .i64 3,.bool true])):=cK (.c Ph .nil)
theorem acu:CO 77 [.str [3],.int .i64 7] (.ret (.tup [.int .i64 3,.bool true])):=cK (.c UW (.c Ph .nil))
theorem acv:CO 61 [.str [],.str [3]] (.ret (.str [3])):=cK (.c UV (.c acu (.c FL .nil)))
theorem acw:CO 157 [.str [51]] (.ret (.tup [.str [3],.bool true])):=cK (.c acv (.c UV (.c Ie (.c J3 .nil))))
theorem acx:CO 128 [.str [3]] (.ret (.bool true)):=bK (oZ [3]) (by kernel_rfl)
theorem acy:CO 51 [.bool false,.str [3],.str [1]] (.ret (.agg [.bool false,.str [3],.str [1]])):=bK (ep false 3 1 (bE (by decide)) (bE (by decide)) (by decide)) (by kernel_rfl)
theorem acz:CO 96 [.bool false,.str [3],.str [1]] (.ret (.tup [.agg [.bool false,.str [3],.str [1]],.bool true])):=cK (.c acy (.c Dc (.c acx .nil)))
theorem acA:CO 70 [.agg [.bool false,.str [3],.str [1]]] (.ret (.agg [.bool false,.str [3],.str [1]])):=bK (fB false [3] [1] (by decide) (by decide)) (by kernel_rfl)
theorem acB:CO 81 [.str [3],.str [10]] (.ret (.tup [.str [],.str [3],.bool true])):=bK (lj [3] [10] (by decide) (by decide) (by decide)) (by kernel_rfl)
theorem acC:CO 127 [.str [3]] (.ret (.str [51])):=cK (.c UW (.c acB (.c J3 (.c Ph .nil))))
theorem UX:CO 95 [.agg [.bool false,.str [3],.str [1]]] (.ret (.str [51])):=cK (.c Ig (.c Ik (.c acC (.c acA .nil))))
theorem acD:CO 126 [.str [51]] (.ret (.tup [.agg [.bool false,.str [3],.str [1]],.bool true])):=cK (.c UX (.c acz (.c Db (.c acw .nil))))
theorem acE:ai prog ap 91 [.ptr 0 0 0] (rB JW 1 4 bM) (.ret (.agg [.bool false,.str [3],.str [1]])) (rB GQ 1 4 bM):=cK (.c acD (.c acs .nil))
theorem UY:az prog ap (rB M6 1 3 bM) 206 (mM 5 (af f56)) ⟨([(0,.ptr 0 0 0),(2,.bool true)]++dE [3,4,5,6,7,8,9,10,11,12,13,14,15]++ [(41,.bool false),(47,.bool true)]++dE [65,70,100,102,117,122,128,133,139,145,158,166,170,175,184,188,192]),[(0,⟨[.str JW,.ref 1 0 0 1,.int .i64 4,.bool false],0,false,0,0,false⟩),(1,⟨bM,0,false,0,5,true⟩)],.dead,[]⟩ (.normal) ⟨([(0,.ptr 0 0 0),(2,.bool true)]++dE [3,4,5,6,7,8,9,10,11,12,13,14,15]++ [(41,.bool false),(47,.bool true)]++dE [65,70,100,102,117,122,128,133,139,145,158,166,170,175,184,188,192]),[(0,⟨[.str GQ,.ref 1 1 0 2,.int .i64 4,.bool false],0,false,0,0,false⟩),(1,⟨X4,1,false,0,5,true⟩)],.dead,[]⟩:=fun nt hn=>tK zq (keep:=mC ap 56) (i:=4) (b:=0) (d:=52) (nt0:=206) (ans:= [(.ret (.agg [.bool false,.str [3],.str [1]]),(rB GQ 1 4 bM))]) (.cons (rfl:(.ref 1 0 0 1:AV)=(.ref 1 0 0 1:AV)) (.cons (rfl:(.ref 1 0 0 1:AV)=(.ref 1 0 0 1:AV)) (.cons acE .nil))) hn (by kernel_rfl)
theorem acF:ai prog ap 56 [.ptr 0 0 0] (rB M6 1 3 bM) (.ret (.tup [])) [⟨[.str GQ,.ref 1 1 0 2,.int .i64 4,.bool false],0,false,0,0,false⟩,⟨X4,1,false,0,5,true⟩]:=pK [1005] 4 8 (.n 9 .nil) (.l UY (.c acr .nil))
theorem acG:ai prog ap 90 [.ptr 0 0 0,.str [41]] (rB GQ 2 4 X4) (.ret (.bool true)) (rB QL 2 4 X4):=cK (.nil)
theorem acH:ai prog ap 56 [.ptr 0 0 0] (rA Q8 1) (.ret (.tup [])) (rB QL 3 4 E_):=cK (.c acG (.c FM (.c FM (.c acF (.c acq (.c FM (.c acp (.c ack (.c FM (.c Pg (.c UU (.c uX (.c wW (.c wV (.c wU (.c wT (.c wS (.c wR (.c wQ (.c uW (.c uV (.c wP (.c wO (.c tE (.c k9 (.c k8 (.c k7 (.c k6 (.c k5 (.c k4 (.c k3 (.c acj (.c aci (.c ach .nil))))))))))))))))))))))))))))))))))
theorem acI:ai prog ap 90 [.ptr 0 0 0,.str [44,32]] (rB QL 3 4 E_) (.ret (.bool true)) (rB GS 3 4 E_):=cK (.nil)
theorem acJ:ai prog ap 90 [.ptr 0 0 0,.str [36]] (rB GS 3 5 E_) (.ret (.bool false)) (rB GS 3 5 E_):=cK (.nil)
theorem acK:ai prog ap 92 [.ptr 0 0 0,.str jG] (rB GS 3 5 E_) (.ret (.str [111,119,110])) (rB XG 3 5 E_):=bK (fq GS jG (5) false 3 E_ (by decide) (by decide)) (by kernel_rfl)
theorem acL:ai prog ap 90 [.ptr 0 0 0,.str [46]] (rB XG 3 5 E_) (.ret (.bool true)) (rB QT 3 5 E_):=cK (.nil)
theorem acM:ai prog ap 92 [.ptr 0 0 0,.str tU] (rB QT 3 5 E_) (.ret (.str [98])) (rB QV 3 5 E_):=bK (fq QT tU (5) false 3 E_ (by decide) (by decide)) (by kernel_rfl)
theorem acN:ai prog ap 56 [.ptr 0 0 0] (rB GS 3 4 E_) (.ret (.tup [])) [⟨[.str QV,.ref 1 1 0 4,.int .i64 5,.bool false],0,false,0,0,false⟩,⟨E9,1,false,0,5,true⟩]:=cK (.c kN (.c kN (.c wX (.c acM (.c xU (.c uX (.c wW (.c wV (.c wU (.c wT (.c wS (.c wR (.c wQ (.c uW (.c uV (.c wP (.c wO (.c tE (.c k9 (.c k8 (.c k7 (.c k6 (.c k5 (.c k4 (.c k3 (.c acL (.c acK (.c acJ .nil))))))))))))))))))))))))))))
theorem acO:ai prog ap 90 [.ptr 0 0 0,.str [44,32]] (rB QV 4 5 E9) (.ret (.bool true)) (rB [36,48,41] 4 5 E9):=cK (.nil)
theorem acP:ai prog ap 90 [.ptr 0 0 0,.str [36]] (rB [36,48,41] 4 6 E9) (.ret (.bool true)) (rB [48,41] 4 6 E9):=cK (.nil)
theorem acQ:ai prog ap 92 [.ptr 0 0 0,.str sU] (rB [48,41] 4 6 E9) (.ret (.str [48])) (rB [41] 4 6 E9):=bK (fq [48,41] sU (6) false 4 E9 (by decide) (by decide)) (by kernel_rfl)
theorem acR:CO 61 [.str [],.str []] (.ret (.str [])):=cK (.c Lb (.c FL (.c FL .nil)))
theorem acS:CO 157 [.str [48]] (.ret (.tup [.str [],.bool true])):=cK (.c acR (.c Lb (.c Ie (.c J3 .nil))))
theorem acT:CO 128 [.str []] (.ret (.bool true)):=bK (oZ []) (by kernel_rfl)
theorem acU:CO 51 [.bool false,.str [],.str [1]] (.ret (.agg [.bool false,.str [],.str [1]])):=bK (ep false 0 1 (bE (by decide)) (bE (by decide)) (by decide)) (by kernel_rfl)
theorem acV:CO 96 [.bool false,.str [],.str [1]] (.ret (.tup [.agg [.bool false,.str [],.str [1]],.bool true])):=cK (.c acU (.c Dc (.c acT .nil)))
theorem acW:CO 70 [.agg [.bool false,.str [],.str [1]]] (.ret (.agg [.bool false,.str [],.str [1]])):=bK (fB false [] [1] (by decide) (by decide)) (by kernel_rfl)
theorem acX:CO 127 [.str []] (.ret (.str [48])):=cK (.c La .nil)
theorem UZ:CO 95 [.agg [.bool false,.str [],.str [1]]] (.ret (.str [48])):=cK (.c Ig (.c Ik (.c acX (.c acW .nil))))
theorem acY:CO 126 [.str [48]] (.ret (.tup [.agg [.bool false,.str [],.str [1]],.bool true])):=cK (.c UZ (.c acV (.c Db (.c acS .nil))))
theorem acZ:ai prog ap 91 [.ptr 0 0 0] (rB [48,41] 4 6 E9) (.ret (.agg [.bool false,.str [],.str [1]])) (rB [41] 4 6 E9):=cK (.c acY (.c acQ .nil))
theorem U3:az prog ap (rB [36,48,41] 4 5 E9) 206 (mM 5 (af f56)) ⟨([(0,.ptr 0 0 0),(2,.bool true)]++dE [3,4,5,6,7,8,9,10,11,12,13,14,15]++ [(41,.bool false),(47,.bool true)]++dE [65,70,100,102,117,122,128,133,139,145,158,166,170,175,184,188,192]),[(0,⟨[.str [48,41],.ref 1 0 0 4,.int .i64 6,.bool false],0,false,0,0,false⟩),(1,⟨E9,0,false,0,5,true⟩)],.dead,[]⟩ (.normal) ⟨([(0,.ptr 0 0 0),(2,.bool true)]++dE [3,4,5,6,7,8,9,10,11,12,13,14,15]++ [(41,.bool false),(47,.bool true)]++dE [65,70,100,102,117,122,128,133,139,145,158,166,170,175,184,188,192]),[(0,⟨[.str [41],.ref 1 1 0 5,.int .i64 6,.bool false],0,false,0,0,false⟩),(1,⟨X3,1,false,0,5,true⟩)],.dead,[]⟩:=fun nt hn=>tK zq (keep:=mC ap 56) (i:=4) (b:=0) (d:=52) (nt0:=206) (ans:= [(.ret (.agg [.bool false,.str [],.str [1]]),(rB [41] 4 6 E9))]) (.cons (rfl:(.ref 1 0 0 4:AV)=(.ref 1 0 0 4:AV)) (.cons (rfl:(.ref 1 0 0 4:AV)=(.ref 1 0 0 4:AV)) (.cons acZ .nil))) hn (by kernel_rfl)
theorem ac0:ai prog ap 56 [.ptr 0 0 0] (rB [36,48,41] 4 5 E9) (.ret (.tup [])) [⟨[.str [41],.ref 1 1 0 5,.int .i64 6,.bool false],0,false,0,0,false⟩,⟨X3,1,false,0,5,true⟩]:=pK [1005] 4 8 (.n 9 .nil) (.l U3 (.c acP .nil))
theorem ac1:ai prog ap 90 [.ptr 0 0 0,.str [41]] (rB [41] 5 6 X3) (.ret (.bool true)) (rB [] 5 6 X3):=cK (.nil)
theorem ac2:ai prog ap 56 [.ptr 0 0 0] (rA M3 0) (.ret (.tup [])) [⟨[.str [],.ref 1 0 0 6,.int .i64 6,.bool false],0,false,0,0,false⟩,⟨(aF ol),0,false,0,5,true⟩]:=cK (.c ac1 (.c De (.c De (.c ac0 (.c acO (.c De (.c acN (.c acI (.c De (.c acH (.c acg (.c De (.c Pf (.c UT (.c uX (.c wW (.c wV (.c wU (.c wT (.c wS (.c wR (.c wQ (.c uW (.c uV (.c wP (.c wO (.c tE (.c k9 (.c k8 (.c k7 (.c k6 (.c k5 (.c k4 (.c k3 (.c acf (.c ace (.c acd .nil)))))))))))))))))))))))))))))))))))))
theorem ac3:CO 105 [.agg [.bool false,.str [3],.str [1]]] (.ret (.bool true)):=bK (iH false [3] [1] (by decide) (by decide)) (by kernel_rfl)
theorem ac4:CO 74 [.agg [.int .i64 1,.bool false,.str [3],.str [1],.str []]] (.ret (.bool true)):=cK (.c ac3 (.c A_ .nil))
theorem U4:CO 94 [.int .i64 16] (.ret (.bool false)):=cK (.nil)
theorem ac5:CO 74 [.agg [.int .i64 16,.bool false,.str [],.str [],.str []]] (.ret (.bool true)):=cK (.c Pg (.c U4 .nil))
theorem ac6:CO 74 [.agg [.int .i64 6,.bool false,.str [],.str [],.str [98]]] (.ret (.bool true)):=cK (.c wX (.c G1 .nil))
theorem ac7:CO 105 [.agg [.bool false,.str [],.str [1]]] (.ret (.bool true)):=bK (iH false [] [1] (by decide) (by decide)) (by kernel_rfl)
theorem ac8:CO 74 [.agg [.int .i64 1,.bool false,.str [],.str [1],.str []]] (.ret (.bool true)):=cK (.c ac7 (.c A_ .nil))
theorem U5:CO 94 [.int .i64 15] (.ret (.bool false)):=cK (.nil)
theorem ac9:CO 74 [.agg [.int .i64 15,.bool false,.str [],.str [],.str []]] (.ret (.bool true)):=cK (.c Pf (.c U5 .nil))
theorem ac_:CO 48 [.sl (aF ol) 6 true] (.ret (.int .i64 0)):=cK (.c De (.c Df (.c ac9 (.c UT (.c Ba (.c Df (.c ac8 (.c Le (.c kN (.c UM (.c ac6 (.c xU (.c FM (.c Df (.c ac5 (.c UU (.c Ba (.c Df (.c ac4 (.c Le (.c kN (.c J2 (.c Lj (.c xU .nil))))))))))))))))))))))))
theorem ada:CO 57 [.sl (aF ol) 6 true] (.ret (.tup [.str M3,.int .i64 0])):=cK (.c Pf (.c U5 (.c uV (.c De (.c UZ (.c A_ (.c Lh (.c Ba (.c wX (.c G1 (.c k4 (.c kN (.c Pg (.c U4 (.c uW (.c FM (.c UX (.c A_ (.c Lh (.c Ba (.c wX (.c G1 (.c k4 (.c kN (.c ac_ .nil)))))))))))))))))))))))))
theorem U6:CO 27 [.str M3] (.ret (.tup [.sl (aF ol) 6 true,.int .i64 0])):=cK (.c ada (.c ac2 .nil))
theorem adb:CO 14 [.sl (aF ol) 6 true,.sl [.str [120],.int .i64 0,.int .i64 0,.sl [.bool false,.str [],.str [1],.bool false,.str [1],.str [10],.bool false,.str [5],.str [1],.bool false,.str [1],.str [5]] 2 true] 1 true,.int .i64 6,.str [97]] (.ret (.int .i64 3)):=ai.args (args:= [.sl (aF ol) 6 true,.sl [.str [120],.int .i64 0,.int .i64 0,.sl [.bool false,.str [],.str [1],.bool false,.str [1],.str [10],.bool false,.str [5],.str [1],.bool false,.str [1],.str [5]] 2 false] 1 true,.int .i64 6,.str [97]]) (.cons (aM.refl _) (.cons (aM.slP (.same (.same (.same (.sl .nil))))) (.cons (aM.refl _) (.cons (aM.refl _) .nil)))) (bK (aZ ol true lL true gu 6 [97] (eX (by kernel_rfl)) (by decide) (by decide) (dx)) (by kernel_rfl))
theorem adc:CO 26 [.str M3,.str [97],.int .i64 3] (.ret (.bool true)):=cK (.c adb (.c Il (.c U6 .nil)))
theorem ade:CO 14 [.sl (aF ol) 6 true,.sl [.str [120],.int .i64 0,.int .i64 0,.sl [.bool false,.str [],.str [1],.bool false,.str [1],.str [10],.bool false,.str [5],.str [1],.bool false,.str [1],.str [5]] 2 true] 1 true,.int .i64 6,.str [98]] (.ret (.int .i64 1)):=ai.args (args:= [.sl (aF ol) 6 true,.sl [.str [120],.int .i64 0,.int .i64 0,.sl [.bool false,.str [],.str [1],.bool false,.str [1],.str [10],.bool false,.str [5],.str [1],.bool false,.str [1],.str [5]] 2 false] 1 true,.int .i64 6,.str [98]]) (.cons (aM.refl _) (.cons (aM.slP (.same (.same (.same (.sl .nil))))) (.cons (aM.refl _) (.cons (aM.refl _) .nil)))) (bK (aZ ol true lL true gu 6 [98] (eX (by kernel_rfl)) (by decide) (by decide) (dx)) (by kernel_rfl))
theorem adf:CO 26 [.str M3,.str [98],.int .i64 1] (.ret (.bool true)):=cK (.c ade (.c Il (.c U6 .nil)))
theorem adg:ai prog ap 90 [.ptr 0 0 0,.str [36]] (rA Cn 1) (.ret (.bool false)) (rA Cn 1):=cK (.nil)
theorem adh:ai prog ap 92 [.ptr 0 0 0,.str jG] (rA Cn 1) (.ret (.str [114,97,116,101])) (rA XD 1):=bK (da Cn jG (1) false (by decide) (by decide)) (by kernel_rfl)
theorem adi:ai prog ap 90 [.ptr 0 0 0,.str [46]] (rA XD 1) (.ret (.bool true)) (rA QR 1):=cK (.nil)
theorem U7:CO 32 [.int .i64 24] (.ret (.bool true)):=cK (.nil)
theorem adj:ai prog ap 92 [.ptr 0 0 0,.str tU] (rA QR 1) (.ret (.str [120])) (rA XE 1):=bK (da QR tU (1) false (by decide) (by decide)) (by kernel_rfl)
theorem Pi:CO 34 [.int .i64 24] (.ret (.bool false)):=cK (.nil)
theorem Ij:CO 30 [.int .i64 24] (.ret (.int .i64 1)):=cK (.nil)
theorem adk:ai prog ap 90 [.ptr 0 0 0,.str [40]] (rA XE 1) (.ret (.bool true)) (rA lR 1):=cK (.nil)
theorem adl:ai prog ap 90 [.ptr 0 0 0,.str [36]] (rA lR 2) (.ret (.bool false)) (rA lR 2):=cK (.nil)
theorem adm:ai prog ap 92 [.ptr 0 0 0,.str jG] (rA lR 2) (.ret (.str [111,119,110])) (rA [46,97,41] 2):=bK (da lR jG (2) false (by decide) (by decide)) (by kernel_rfl)
theorem adn:ai prog ap 90 [.ptr 0 0 0,.str [46]] (rA [46,97,41] 2) (.ret (.bool true)) (rA [97,41] 2):=cK (.nil)
theorem ado:ai prog ap 92 [.ptr 0 0 0,.str tU] (rA [97,41] 2) (.ret (.str [97])) (rA [41] 2):=bK (da [97,41] tU (2) false (by decide) (by decide)) (by kernel_rfl)
theorem adp:ai prog ap 56 [.ptr 0 0 0] (rA lR 1) (.ret (.tup [])) (rB [41] 1 2 bM):=cK (.c kN (.c kN (.c wX (.c ado (.c xU (.c uX (.c wW (.c wV (.c wU (.c wT (.c wS (.c wR (.c wQ (.c uW (.c uV (.c wP (.c wO (.c tE (.c k9 (.c k8 (.c k7 (.c k6 (.c k5 (.c k4 (.c k3 (.c adn (.c adm (.c adl .nil))))))))))))))))))))))))))))
theorem adq:ai prog ap 90 [.ptr 0 0 0,.str [41]] (rB [41] 1 2 bM) (.ret (.bool true)) (rB [] 1 2 bM):=cK (.nil)
theorem adr:ai prog ap 56 [.ptr 0 0 0] (rA Cn 0) (.ret (.tup [])) [⟨[.str [],.ref 1 0 0 2,.int .i64 2,.bool false],0,false,0,0,false⟩,⟨(aF iz),0,false,0,5,true⟩]:=cK (.c adq (.c Ij (.c Ij (.c adp (.c adk (.c Ij (.c Pi (.c adj (.c U7 (.c uX (.c wW (.c wV (.c wU (.c wT (.c wS (.c wR (.c wQ (.c uW (.c uV (.c wP (.c wO (.c tE (.c k9 (.c k8 (.c k7 (.c k6 (.c k5 (.c k4 (.c k3 (.c adi (.c adh (.c adg .nil))))))))))))))))))))))))))))))))
theorem U8:CO 94 [.int .i64 24] (.ret (.bool false)):=cK (.nil)
theorem ads:CO 74 [.agg [.int .i64 24,.bool false,.str [],.str [],.str [120]]] (.ret (.bool true)):=cK (.c Pi (.c U8 .nil))
theorem adt:CO 75 [.str [120]] (.ret (.bool true)):=cK (.nil)
theorem adu:CO 48 [.sl (aF iz) 2 true] (.ret (.int .i64 0)):=cK (.c Ij (.c adt (.c ads (.c U7 (.c kN (.c J2 (.c Lj (.c xU .nil))))))))
theorem adv:CO 57 [.sl (aF iz) 2 true] (.ret (.tup [.str Cn,.int .i64 0])):=cK (.c Pi (.c U8 (.c uX (.c Ij (.c wX (.c G1 (.c k4 (.c kN (.c adu .nil)))))))))
theorem U9:CO 27 [.str Cn] (.ret (.tup [.sl (aF iz) 2 true,.int .i64 0])):=cK (.c adv (.c adr .nil))
theorem adw:CO 14 [.sl (aF iz) 2 true,.sl [.str [120],.int .i64 0,.int .i64 0,.sl [.bool false,.str [],.str [1],.bool false,.str [1],.str [10],.bool false,.str [5],.str [1],.bool false,.str [1],.str [5]] 2 true] 1 true,.int .i64 6,.str [97]] (.ret (.int .i64 1)):=ai.args (args:= [.sl (aF iz) 2 true,.sl [.str [120],.int .i64 0,.int .i64 0,.sl [.bool false,.str [],.str [1],.bool false,.str [1],.str [10],.bool false,.str [5],.str [1],.bool false,.str [1],.str [5]] 2 false] 1 true,.int .i64 6,.str [97]]) (.cons (aM.refl _) (.cons (aM.slP (.same (.same (.same (.sl .nil))))) (.cons (aM.refl _) (.cons (aM.refl _) .nil)))) (bK (aZ iz true lL true gu 6 [97] (eX (by kernel_rfl)) (by decide) (by decide) (dx)) (by kernel_rfl))
theorem adx:CO 26 [.str Cn,.str [97],.int .i64 1] (.ret (.bool true)):=cK (.c adw (.c Il (.c U9 .nil)))
theorem ady:CO 36 [.int .i64 (-1)] (.ret (.agg [.bool true,.str [1],.str [1]])):=cK (.c Ik (.c Uz (.c Ik (.c Lb .nil))))
theorem adz:CO 70 [.agg [.bool true,.str [1],.str [1]]] (.ret (.agg [.bool true,.str [1],.str [1]])):=bK (fB true [1] [1] (by decide) (by decide)) (by kernel_rfl)
theorem adA:CO 51 [.bool true,.str [1],.str [5]] (.ret (.agg [.bool true,.str [1],.str [5]])):=bK (ep true 1 5 (bE (by decide)) (bE (by decide)) (by decide)) (by kernel_rfl)
theorem adB:CO 58 [.agg [.bool true,.str [1],.str [1]],.agg [.bool false,.str [5],.str [1]]] (.ret (.tup [.agg [.bool true,.str [1],.str [5]],.bool true])):=cK (.c adA (.c k80 (.c k66 (.c k75 (.c adz .nil)))))
theorem adC:CO 28 [.int .i64 (-1)] (.ret (.sl [.str [120],.int .i64 0,.int .i64 0,.sl [.bool false,.str [],.str [1],.bool false,.str [1],.str [10],.bool false,.str [5],.str [1],.bool true,.str [1],.str [5]] 2 true] 1 true)):=cK (.c XV (.c k83 (.c adB (.c XV (.c ady (.c k73 (.c k58 (.c k57 .nil))))))))
theorem adD:CO 14 [.sl (aF iz) 2 true,.sl [.str [120],.int .i64 0,.int .i64 0,.sl [.bool false,.str [],.str [1],.bool false,.str [1],.str [10],.bool false,.str [5],.str [1],.bool true,.str [1],.str [5]] 2 true] 1 true,.int .i64 6,.str [97]] (.ret (.int .i64 3)):=ai.args (args:= [.sl (aF iz) 2 true,.sl [.str [120],.int .i64 0,.int .i64 0,.sl [.bool false,.str [],.str [1],.bool false,.str [1],.str [10],.bool false,.str [5],.str [1],.bool true,.str [1],.str [5]] 2 false] 1 true,.int .i64 6,.str [97]]) (.cons (aM.refl _) (.cons (aM.slP (.same (.same (.same (.sl .nil))))) (.cons (aM.refl _) (.cons (aM.refl _) .nil)))) (bK (aZ iz true NP true gu 6 [97] (eX (by kernel_rfl)) (by decide) (by decide) (DH)) (by kernel_rfl))
theorem adE:CO 14 [.sl (aF iz) 2 true,.nilS,.int .i64 6,.str [97]] (.ret (.int .i64 3)):=ai.args (args:= [.sl (aF iz) 2 true,.sl [] 0 false,.int .i64 6,.str [97]]) (.cons (aM.refl _) (.cons (aM.nilS false rfl) (.cons (aM.refl _) (.cons (aM.refl _) .nil)))) (bK (aZ iz true [] false gu 6 [97] (eX (by kernel_rfl)) (by decide) (by decide) (mR)) (by kernel_rfl))
theorem adF:CO 14 [.sl (aF iy) 3 true,.nilS,.int .i64 5,.str [98]] (.ret (.int .i64 3)):=ai.args (args:= [.sl (aF iy) 3 true,.sl [] 0 false,.int .i64 5,.str [98]]) (.cons (aM.refl _) (.cons (aM.nilS false rfl) (.cons (aM.refl _) (.cons (aM.refl _) .nil)))) (bK (aZ iy true [] false gu 5 [98] (eX (by kernel_rfl)) (by decide) (by decide) (mR)) (by kernel_rfl))
theorem adG:CO 17 [.sl (aF iz) 2 true,.sl [.str [120],.int .i64 0,.int .i64 0,.sl [.bool false,.str [],.str [1],.bool false,.str [1],.str [10],.bool false,.str [5],.str [1],.bool false,.str [1],.str [5]] 2 true] 1 true,.sl [.str [97],.str [98]] 2 true] (.ret (.bool true)):=ai.args (args:= [.sl (aF iz) 2 true,.sl [.str [120],.int .i64 0,.int .i64 0,.sl [.bool false,.str [],.str [1],.bool false,.str [1],.str [10],.bool false,.str [5],.str [1],.bool false,.str [1],.str [5]] 2 false] 1 true,.sl [.str [97],.str [98]] 2 true]) (.cons (aM.refl _) (.cons (aM.slP (.same (.same (.same (.sl .nil))))) (.cons (aM.refl _) .nil))) (bK (gM iz true lL true gu [[97],[98]] true (eX (by kernel_rfl)) (by decide) (by decide) (dx) (by decide)) (by kernel_rfl))
theorem adH:CO 17 [.sl (aF iy) 3 true,.nilS,.sl [.str [97]] 1 true] (.ret (.bool false)):=ai.args (args:= [.sl (aF iy) 3 true,.sl [] 0 false,.sl [.str [97]] 1 true]) (.cons (aM.refl _) (.cons (aM.nilS false rfl) (.cons (aM.refl _) .nil))) (bK (gM iy true [] false gu [[97]] true (eX (by kernel_rfl)) (by decide) (by decide) (mR) (by decide)) (by kernel_rfl))
theorem adI:CO 17 [.sl (aF iy) 3 true,.nilS,.sl [.str [98]] 1 true] (.ret (.bool true)):=ai.args (args:= [.sl (aF iy) 3 true,.sl [] 0 false,.sl [.str [98]] 1 true]) (.cons (aM.refl _) (.cons (aM.nilS false rfl) (.cons (aM.refl _) .nil))) (bK (gM iy true [] false gu [[98]] true (eX (by kernel_rfl)) (by decide) (by decide) (mR) (by decide)) (by kernel_rfl))
theorem adJ:CO 17 [.nilS,.nilS,.nilS] (.ret (.bool false)):=ai.args (args:= [.sl [] 0 false,.sl [] 0 false,.sl [] 0 false]) (.cons (aM.nilS false rfl) (.cons (aM.nilS false rfl) (.cons (aM.nilS false rfl) .nil))) (bK (gM [] false [] false gu [] false (eX (by kernel_rfl)) (by decide) (by decide) (mR) (by decide)) (by kernel_rfl))
theorem adK:CO 10 [] (.ret (.bool true)):=cK (.c adJ (.c adI (.c adH (.c adG (.c Il (.c adF (.c adE (.c adD (.c adC (.c UN (.c U9 (.c adx (.c adf (.c adc (.c acb (.c abK (.c abj (.c aaW (.c Z2 (.c k88 (.c k86 .nil)))))))))))))))))))))
theorem yw:CO 10 [] (.ret (.bool true)):=adK
def aC (a:Int) (n:Nat):Nat:=(a % (n:Int)).toNat
theorem bZ {a:Int} {n:Nat} (h:0<n):aC a n<n:=by
 unfold aC
 have h1:=Int.emod_nonneg a (b:=(n:Int)) (by omega)
 have h2:=Int.emod_lt_of_pos a (b:=(n:Int)) (by omega)
 omega
theorem yF {k:Nat} (h:k<4611686018427387904):AV.int .i64 (IntKind.wrap .i64 (((1:Nat):Int)+(k:Int)))= .int .i64 ((1+k:Nat):Int):=by
 have e:IntKind.wrap .i64 (((1:Nat):Int)+(k:Int))=((1+k:Nat):Int):=by rw [bH]<;>omega
 rw [e]
theorem Vj (a n:Int) (h0:lit true (decide ((Int.tmod a n)<((0:Nat):Int)))=true) (h1:(!(n==((0:Nat):Int)))=true):CO 29 [.int .i64 a,.int .i64 n] (.ret (.int .i64 (IntKind.wrap .i64 ((Int.tmod a n)+n)))):=pK [] 1 1 (.c h0 (.c h1 .nil)) (.nil)
theorem Vk (a n:Int) (h0:lit false (decide ((Int.tmod a n)<((0:Nat):Int)))=true) (h1:(!(n==((0:Nat):Int)))=true):CO 29 [.int .i64 a,.int .i64 n] (.ret (.int .i64 (Int.tmod a n))):=pK [] 1 0 (.c h0 (.c h1 .nil)) (.nil)
theorem bT (a:Int) (n:Nat) (hn:0<n) (hn2:n≤4611686018427387904):CO 29 [.int .i64 a,.int .i64 (n:Int)] (.ret (.int .i64 ((aC a n:Nat):Int))):=by
 have hn0:(!((n:Int)==((0:Nat):Int)))=true:=by
  rw [beq_eq_false_iff_ne.2 (by omega)];rfl
 have h1:=Int.tmod_lt_of_pos a (b:=(n:Int)) (by omega)
 have h2: -(n:Int)<Int.tmod a n:=by
  have:=Int.tmod_lt_of_pos (-a) (b:=(n:Int)) (by omega)
  rw [Int.neg_tmod] at this
  omega
 have h3:=Int.emod_nonneg a (b:=(n:Int)) (by omega)
 have h4:=Int.emod_lt_of_pos a (b:=(n:Int)) (by omega)
 have h5:Int.tmod a n % (n:Int)=a % (n:Int):=by
  have e:=Int.mul_tdiv_add_tmod a (n:Int)
  have:a=Int.tmod a n+(n:Int)*(Int.tdiv a n):=by omega
  conv=>rhs;rw [this,Int.add_mul_emod_self_left]
 have hv:((aC a n:Nat):Int)=a % (n:Int):=Int.toNat_of_nonneg h3
 rw [hv]
 by_cases h:Int.tmod a n<0
 ·have hp:=Vj a n (by simpa [lit] using h) hn0
  have e:IntKind.wrap .i64 (Int.tmod a n+(n:Int))=a % (n:Int):=by
   rw [bH (by omega) (by omega)]
   rw [← h5,← Int.add_emod_right,Int.emod_eq_of_lt (by omega) (by omega)]
  rw [e] at hp
  exact hp
 ·have hp:=Vk a n (by simp only [lit,Bool.not_eq_true',decide_eq_false_iff_not];exact h) hn0
  have e:Int.tmod a n=a % (n:Int):=by rw [← h5,Int.emod_eq_of_lt (by omega) (by omega)]
  rw [e] at hp
  exact hp
theorem rz (a:Int) (k:Nat) (h0:(chk .str (List.headD (List.drop ((0+(Int.toNat (k:Int)))*1) [.str [97],.str [98],.str [116,97,120],.str [119,97,103,101],.str [120,95,49],.str [97,50,51,52,53,54,55,56,57,48,49,50,51,52,53,54,55,56,57,48]]) .dead))=true) (h1:(decide (((0:Nat):Int)≤(k:Int)))=true) (h2:(decide ((k:Int)<((6:Nat):Int)))=true) (c0:CO 29 [.int .i64 a,.int .i64 6] (.ret (.int .i64 (k:Int)))):CO 33 [.int .i64 a] (.ret (.str (AV.toStr (List.headD (List.drop ((0+(Int.toNat (k:Int)))*1) [.str [97],.str [98],.str [116,97,120],.str [119,97,103,101],.str [120,95,49],.str [97,50,51,52,53,54,55,56,57,48,49,50,51,52,53,54,55,56,57,48]]) .dead)))):=pK [] 0 0 (.c h0 (.c h1 (.c h2 .nil))) (.c c0 .nil)
def Bz (k:Nat):List UInt8:= [[97],[98],[116,97,120],[119,97,103,101],[120,95,49],[97,50,51,52,53,54,55,56,57,48,49,50,51,52,53,54,55,56,57,48]].getD k []
theorem zU (a:Int):CO 33 [.int .i64 a] (.ret (.str (Bz (aC a 6)))):=by
 have hm:=bT a 6 (by omega) (by omega)
 have hl:=bZ (a:=a) (n:=6) (by omega)
 generalize aC a 6=k at*
 match k,hl,hm with
 |0,_,hm=>exact rz a 0 rfl rfl rfl hm
 |1,_,hm=>exact rz a 1 rfl rfl rfl hm
 |2,_,hm=>exact rz a 2 rfl rfl rfl hm
 |3,_,hm=>exact rz a 3 rfl rfl rfl hm
 |4,_,hm=>exact rz a 4 rfl rfl rfl hm
 |5,_,hm=>exact rz a 5 rfl rfl rfl hm
theorem yj (k:Nat) (h:k<6):n_ (Bz k)=true:=by
 match k,h with
 |0,_=>decide
 |1,_=>decide
 |2,_=>decide
 |3,_=>decide
 |4,_=>decide
 |5,_=>decide
theorem Lx (q0 q1 q2:Int) (a0 b1 s2 c0 c1 e0 e1 f0:Nat) (w:RQ) (ha0:a0<4611686018427387904) (hb1:b1<4611686018427387904) (hs2:s2<4611686018427387904) (hc0:c0<4611686018427387904) (hc1:c1<4611686018427387904) (he0:e0<4611686018427387904) (he1:e1<4611686018427387904) (hf0:f0<4611686018427387904) (h0:lit true ((s2:Int)==((1:Nat):Int))=true) (cc0:CO 29 [.int .i64 q0,.int .i64 1000] (.ret (.int .i64 (a0:Int)))) (cc1:CO 49 [.int .i64 (a0:Int)] (.ret (.str (ae a0)))) (cc2:CO 29 [.int .i64 q1,.int .i64 60] (.ret (.int .i64 (b1:Int)))) (cc3:CO 49 [.int .i64 (((1+b1):Nat):Int)] (.ret (.str (ae (1+b1))))) (cc4:CO 29 [.int .i64 q2,.int .i64 4] (.ret (.int .i64 (s2:Int)))) (cc5:CO 29 [.int .i64 q0,.int .i64 4611686018427387904] (.ret (.int .i64 (c0:Int)))) (cc6:CO 49 [.int .i64 (c0:Int)] (.ret (.str (ae c0)))) (cc7:CO 29 [.int .i64 q1,.int .i64 4611686018427387904] (.ret (.int .i64 (c1:Int)))) (cc8:CO 49 [.int .i64 (((1+c1):Nat):Int)] (.ret (.str (ae (1+c1))))) (cc9:CO 51 [.bool (decide (q0<((0:Nat):Int))),.str (ae c0),.str (ae (1+c1))] (.ret (.agg [.bool w.neg,.str (ae w.n),.str (ae w.d)]))):CO 19 [.agg [.int .i64 q0,.int .i64 q1,.int .i64 q2]] (.ret (.agg [.bool w.neg,.str (ae w.n),.str (ae w.d)])):=pK [] 1 1 (.k 13 h0 (.n 9 .nil)) (.c cc9 (.c cc8 (.v 26 (.eq (yF hc1)) (.c cc7 (.c cc6 (.c cc5 (.c cc4 (.c cc3 (.v 12 (.eq (yF hb1)) (.c cc2 (.c cc1 (.c cc0 .nil))))))))))))
theorem Ly (q0 q1 q2:Int) (a0 b1 s2 c0 c1 e0 e1 f0:Nat) (w:RQ) (ha0:a0<4611686018427387904) (hb1:b1<4611686018427387904) (hs2:s2<4611686018427387904) (hc0:c0<4611686018427387904) (hc1:c1<4611686018427387904) (he0:e0<4611686018427387904) (he1:e1<4611686018427387904) (hf0:f0<4611686018427387904) (h0:lit true ((s2:Int)==((2:Nat):Int))=true) (h1:lit false ((s2:Int)==((1:Nat):Int))=true) (cc0:CO 29 [.int .i64 q0,.int .i64 1000] (.ret (.int .i64 (a0:Int)))) (cc1:CO 49 [.int .i64 (a0:Int)] (.ret (.str (ae a0)))) (cc2:CO 29 [.int .i64 q1,.int .i64 60] (.ret (.int .i64 (b1:Int)))) (cc3:CO 49 [.int .i64 (((1+b1):Nat):Int)] (.ret (.str (ae (1+b1))))) (cc4:CO 29 [.int .i64 q2,.int .i64 4] (.ret (.int .i64 (s2:Int)))) (cc5:CO 29 [.int .i64 q0,.int .i64 4611686018427387904] (.ret (.int .i64 (c0:Int)))) (cc6:CO 49 [.int .i64 (c0:Int)] (.ret (.str (ae c0)))) (cc7:CO 29 [.int .i64 q1,.int .i64 4611686018427387904] (.ret (.int .i64 (c1:Int)))) (cc8:CO 49 [.int .i64 (c1:Int)] (.ret (.str (ae c1)))) (cc9:CO 50 [.str (ae c0),.str (ae c1)] (.ret (.str (ae (c0*c1))))) (cc10:CO 29 [.int .i64 q1,.int .i64 4611686018427387904] (.ret (.int .i64 (c1:Int)))) (cc11:CO 49 [.int .i64 (((1+c1):Nat):Int)] (.ret (.str (ae (1+c1))))) (cc12:CO 29 [.int .i64 q0,.int .i64 2147483648] (.ret (.int .i64 (f0:Int)))) (cc13:CO 49 [.int .i64 (((1+f0):Nat):Int)] (.ret (.str (ae (1+f0))))) (cc14:CO 50 [.str (ae (1+c1)),.str (ae (1+f0))] (.ret (.str (ae ((1+c1)*(1+f0)))))) (cc15:CO 51 [.bool (decide (q0<((0:Nat):Int))),.str (ae (c0*c1)),.str (ae ((1+c1)*(1+f0)))] (.ret (.agg [.bool w.neg,.str (ae w.n),.str (ae w.d)]))):CO 19 [.agg [.int .i64 q0,.int .i64 q1,.int .i64 q2]] (.ret (.agg [.bool w.neg,.str (ae w.n),.str (ae w.d)])):=pK [] 2 2 (.k 19 h0 (.c h1 (.n 9 .nil))) (.c cc15 (.c cc14 (.c cc13 (.v 47 (.eq (yF hf0)) (.c cc12 (.c cc11 (.v 42 (.eq (yF hc1)) (.c cc10 (.c cc9 (.c cc8 (.c cc7 (.c cc6 (.c cc5 (.c cc4 (.c cc3 (.v 12 (.eq (yF hb1)) (.c cc2 (.c cc1 (.c cc0 .nil)))))))))))))))))))
theorem LA (q0 q1 q2:Int) (a0 b1 s2 c0 c1 e0 e1 f0:Nat) (w:RQ) (ha0:a0<4611686018427387904) (hb1:b1<4611686018427387904) (hs2:s2<4611686018427387904) (hc0:c0<4611686018427387904) (hc1:c1<4611686018427387904) (he0:e0<4611686018427387904) (he1:e1<4611686018427387904) (hf0:f0<4611686018427387904) (h0:lit true ((s2:Int)==((3:Nat):Int))=true) (h1:lit false ((s2:Int)==((2:Nat):Int))=true) (h2:lit false ((s2:Int)==((1:Nat):Int))=true) (cc0:CO 29 [.int .i64 q0,.int .i64 1000] (.ret (.int .i64 (a0:Int)))) (cc1:CO 49 [.int .i64 (a0:Int)] (.ret (.str (ae a0)))) (cc2:CO 29 [.int .i64 q1,.int .i64 60] (.ret (.int .i64 (b1:Int)))) (cc3:CO 49 [.int .i64 (((1+b1):Nat):Int)] (.ret (.str (ae (1+b1))))) (cc4:CO 29 [.int .i64 q2,.int .i64 4] (.ret (.int .i64 (s2:Int)))) (cc5:CO 29 [.int .i64 q0,.int .i64 7] (.ret (.int .i64 (e0:Int)))) (cc6:CO 49 [.int .i64 (e0:Int)] (.ret (.str (ae e0)))) (cc7:CO 29 [.int .i64 q1,.int .i64 7] (.ret (.int .i64 (e1:Int)))) (cc8:CO 49 [.int .i64 (((1+e1):Nat):Int)] (.ret (.str (ae (1+e1))))) (cc9:CO 51 [.bool (decide (q0<((0:Nat):Int))),.str (ae e0),.str (ae (1+e1))] (.ret (.agg [.bool w.neg,.str (ae w.n),.str (ae w.d)]))):CO 19 [.agg [.int .i64 q0,.int .i64 q1,.int .i64 q2]] (.ret (.agg [.bool w.neg,.str (ae w.n),.str (ae w.d)])):=pK [] 3 4 (.k 13 h0 (.c h1 (.c h2 (.n 9 .nil)))) (.c cc9 (.c cc8 (.v 59 (.eq (yF he1)) (.c cc7 (.c cc6 (.c cc5 (.c cc4 (.c cc3 (.v 12 (.eq (yF hb1)) (.c cc2 (.c cc1 (.c cc0 .nil))))))))))))
theorem LB (q0 q1 q2:Int) (a0 b1 s2 c0 c1 e0 e1 f0:Nat) (w:RQ) (ha0:a0<4611686018427387904) (hb1:b1<4611686018427387904) (hs2:s2<4611686018427387904) (hc0:c0<4611686018427387904) (hc1:c1<4611686018427387904) (he0:e0<4611686018427387904) (he1:e1<4611686018427387904) (hf0:f0<4611686018427387904) (h0:lit false ((s2:Int)==((3:Nat):Int))=true) (h1:lit false ((s2:Int)==((2:Nat):Int))=true) (h2:lit false ((s2:Int)==((1:Nat):Int))=true) (cc0:CO 29 [.int .i64 q0,.int .i64 1000] (.ret (.int .i64 (a0:Int)))) (cc1:CO 49 [.int .i64 (a0:Int)] (.ret (.str (ae a0)))) (cc2:CO 29 [.int .i64 q1,.int .i64 60] (.ret (.int .i64 (b1:Int)))) (cc3:CO 49 [.int .i64 (((1+b1):Nat):Int)] (.ret (.str (ae (1+b1))))) (cc4:CO 29 [.int .i64 q2,.int .i64 4] (.ret (.int .i64 (s2:Int)))) (cc5:CO 51 [.bool (decide (q0<((0:Nat):Int))),.str (ae a0),.str (ae (1+b1))] (.ret (.agg [.bool w.neg,.str (ae w.n),.str (ae w.d)]))):CO 19 [.agg [.int .i64 q0,.int .i64 q1,.int .i64 q2]] (.ret (.agg [.bool w.neg,.str (ae w.n),.str (ae w.d)])):=pK [] 3 0 (.k 7 h0 (.c h1 (.c h2 (.n 9 .nil)))) (.c cc5 (.c cc4 (.c cc3 (.v 12 (.eq (yF hb1)) (.c cc2 (.c cc1 (.c cc0 .nil)))))))
def NK (q0 q1 q2:Int):Nat:=if aC q2 4=1 then (aC q0 4611686018427387904) else if aC q2 4=2 then ((aC q0 4611686018427387904)*(aC q1 4611686018427387904)) else if aC q2 4=3 then (aC q0 7) else (aC q0 1000)
def LC (q0 q1 q2:Int):Nat:=if aC q2 4=1 then (1+(aC q1 4611686018427387904)) else if aC q2 4=2 then ((1+(aC q1 4611686018427387904))*(1+(aC q0 2147483648))) else if aC q2 4=3 then (1+(aC q1 7)) else (1+(aC q1 60))
theorem xA {a b:Nat} (h:a=b):(((a:Int))==(b:Int))=true:=by subst h;simp
theorem jx {a b:Nat} (h:a ≠ b):(((a:Int))==(b:Int))=false:=beq_eq_false_iff_ne.2 (by omega)
theorem ql (q0 q1 q2:Int) (hmul:aC q2 4=2→∀ x y:Nat,x<9223372036854775808→y<9223372036854775808→CO 50 [.str (ae x),.str (ae y)] (.ret (.str (ae (x*y))))):CO 19 [.agg [.int .i64 q0,.int .i64 q1,.int .i64 q2]] (.ret (qA (oN (decide (q0<((0:Nat):Int))) (NK q0 q1 q2) (LC q0 q1 q2)))):=by
 have ha0:(aC q0 1000)<4611686018427387904:=Nat.lt_of_lt_of_le (bZ (by omega)) (by omega)
 have hb1:(aC q1 60)<4611686018427387904:=Nat.lt_of_lt_of_le (bZ (by omega)) (by omega)
 have hs2:(aC q2 4)<4611686018427387904:=Nat.lt_of_lt_of_le (bZ (by omega)) (by omega)
 have hc0:(aC q0 4611686018427387904)<4611686018427387904:=Nat.lt_of_lt_of_le (bZ (by omega)) (by omega)
 have hc1:(aC q1 4611686018427387904)<4611686018427387904:=Nat.lt_of_lt_of_le (bZ (by omega)) (by omega)
 have he0:(aC q0 7)<4611686018427387904:=Nat.lt_of_lt_of_le (bZ (by omega)) (by omega)
 have he1:(aC q1 7)<4611686018427387904:=Nat.lt_of_lt_of_le (bZ (by omega)) (by omega)
 have hf0:(aC q0 2147483648)<4611686018427387904:=Nat.lt_of_lt_of_le (bZ (by omega)) (by omega)
 have hs4:aC q2 4<4:=bZ (by omega)
 unfold NK LC
 by_cases e1:aC q2 4=1
 ·rw [if_pos e1,if_pos e1]
  exact Lx q0 q1 q2 (aC q0 1000) (aC q1 60) (aC q2 4) (aC q0 4611686018427387904) (aC q1 4611686018427387904) (aC q0 7) (aC q1 7) (aC q0 2147483648) (oN (decide (q0<((0:Nat):Int))) (aC q0 4611686018427387904) (1+(aC q1 4611686018427387904))) ha0 hb1 hs2 hc0 hc1 he0 he1 hf0 (ay (xA (by omega))) (bT q0 1000 (by omega) (by omega)) (b_ (aC q0 1000) (by have:=ha0;omega)) (bT q1 60 (by omega) (by omega)) (b_ (1+(aC q1 60)) (by have:=hb1;omega)) (bT q2 4 (by omega) (by omega)) (bT q0 4611686018427387904 (by omega) (by omega)) (b_ (aC q0 4611686018427387904) (by have:=hc0;omega)) (bT q1 4611686018427387904 (by omega) (by omega)) (b_ (1+(aC q1 4611686018427387904)) (by have:=hc1;omega)) (ep _ _ _ (Nat.lt_of_le_of_lt (dK (k:=8) (by have:=hc0;omega)) (by decide)) (Nat.lt_of_le_of_lt (dK (k:=8) (by have:=hc1;omega)) (by decide)) (by omega))
 ·rw [if_neg e1,if_neg e1]
  by_cases e2:aC q2 4=2
  ·rw [if_pos e2,if_pos e2]
   have hmul:=hmul e2
   exact Ly q0 q1 q2 (aC q0 1000) (aC q1 60) (aC q2 4) (aC q0 4611686018427387904) (aC q1 4611686018427387904) (aC q0 7) (aC q1 7) (aC q0 2147483648) (oN (decide (q0<((0:Nat):Int))) ((aC q0 4611686018427387904)*(aC q1 4611686018427387904)) ((1+(aC q1 4611686018427387904))*(1+(aC q0 2147483648)))) ha0 hb1 hs2 hc0 hc1 he0 he1 hf0 (ay (xA (by omega))) (aB (jx (by omega))) (bT q0 1000 (by omega) (by omega)) (b_ (aC q0 1000) (by have:=ha0;omega)) (bT q1 60 (by omega) (by omega)) (b_ (1+(aC q1 60)) (by have:=hb1;omega)) (bT q2 4 (by omega) (by omega)) (bT q0 4611686018427387904 (by omega) (by omega)) (b_ (aC q0 4611686018427387904) (by have:=hc0;omega)) (bT q1 4611686018427387904 (by omega) (by omega)) (b_ (aC q1 4611686018427387904) (by have:=hc1;omega)) (hmul (aC q0 4611686018427387904) (aC q1 4611686018427387904) (by have:=hc0;have:=hc1;have:=hf0;omega) (by have:=hc0;have:=hc1;have:=hf0;omega)) (bT q1 4611686018427387904 (by omega) (by omega)) (b_ (1+(aC q1 4611686018427387904)) (by have:=hc1;omega)) (bT q0 2147483648 (by omega) (by omega)) (b_ (1+(aC q0 2147483648)) (by have:=hf0;omega)) (hmul (1+(aC q1 4611686018427387904)) (1+(aC q0 2147483648)) (by have:=hc0;have:=hc1;have:=hf0;omega) (by have:=hc0;have:=hc1;have:=hf0;omega)) (ep _ _ _ (Nat.lt_of_le_of_lt (dK (k:=16) (by exact Nat.lt_of_le_of_lt (Nat.mul_le_mul (Nat.le_of_lt hc0) (Nat.le_of_lt hc1)) (by decide))) (by decide)) (Nat.lt_of_le_of_lt (dK (k:=16) (by exact Nat.lt_of_le_of_lt (Nat.mul_le_mul (Nat.le_of_lt (show 1+_<4611686018427387905 by have:=hc1;omega)) (Nat.le_of_lt (show 1+_<4611686018427387905 by have:=hf0;omega))) (by decide))) (by decide)) (Nat.mul_pos (by omega) (by omega)))
  ·rw [if_neg e2,if_neg e2]
   by_cases e3:aC q2 4=3
   ·rw [if_pos e3,if_pos e3]
    exact LA q0 q1 q2 (aC q0 1000) (aC q1 60) (aC q2 4) (aC q0 4611686018427387904) (aC q1 4611686018427387904) (aC q0 7) (aC q1 7) (aC q0 2147483648) (oN (decide (q0<((0:Nat):Int))) (aC q0 7) (1+(aC q1 7))) ha0 hb1 hs2 hc0 hc1 he0 he1 hf0 (ay (xA (by omega))) (aB (jx (by omega))) (aB (jx (by omega))) (bT q0 1000 (by omega) (by omega)) (b_ (aC q0 1000) (by have:=ha0;omega)) (bT q1 60 (by omega) (by omega)) (b_ (1+(aC q1 60)) (by have:=hb1;omega)) (bT q2 4 (by omega) (by omega)) (bT q0 7 (by omega) (by omega)) (b_ (aC q0 7) (by have:=he0;omega)) (bT q1 7 (by omega) (by omega)) (b_ (1+(aC q1 7)) (by have:=he1;omega)) (ep _ _ _ (Nat.lt_of_le_of_lt (dK (k:=8) (by have:=he0;omega)) (by decide)) (Nat.lt_of_le_of_lt (dK (k:=8) (by have:=he1;omega)) (by decide)) (by omega))
   ·rw [if_neg e3,if_neg e3]
    exact LB q0 q1 q2 (aC q0 1000) (aC q1 60) (aC q2 4) (aC q0 4611686018427387904) (aC q1 4611686018427387904) (aC q0 7) (aC q1 7) (aC q0 2147483648) (oN (decide (q0<((0:Nat):Int))) (aC q0 1000) (1+(aC q1 60))) ha0 hb1 hs2 hc0 hc1 he0 he1 hf0 (aB (jx (by omega))) (aB (jx (by omega))) (aB (jx (by omega))) (bT q0 1000 (by omega) (by omega)) (b_ (aC q0 1000) (by have:=ha0;omega)) (bT q1 60 (by omega) (by omega)) (b_ (1+(aC q1 60)) (by have:=hb1;omega)) (bT q2 4 (by omega) (by omega)) (ep _ _ _ (Nat.lt_of_le_of_lt (dK (k:=8) (by have:=ha0;omega)) (by decide)) (Nat.lt_of_le_of_lt (dK (k:=8) (by have:=hb1;omega)) (by decide)) (by omega))
theorem zG (q0 q1 q2:Int):0<LC q0 q1 q2:=by
 unfold LC
 split
 ·omega
 ·split
  ·exact Nat.mul_pos (by omega) (by omega)
  ·split<;>omega
theorem Es (q0 q1 q2:Int):NK q0 q1 q2<2^128∧LC q0 q1 q2<2^128:=by
 have ha0:(aC q0 1000)<4611686018427387904:=Nat.lt_of_lt_of_le (bZ (by omega)) (by omega)
 have hb1:(aC q1 60)<4611686018427387904:=Nat.lt_of_lt_of_le (bZ (by omega)) (by omega)
 have hs2:(aC q2 4)<4611686018427387904:=Nat.lt_of_lt_of_le (bZ (by omega)) (by omega)
 have hc0:(aC q0 4611686018427387904)<4611686018427387904:=Nat.lt_of_lt_of_le (bZ (by omega)) (by omega)
 have hc1:(aC q1 4611686018427387904)<4611686018427387904:=Nat.lt_of_lt_of_le (bZ (by omega)) (by omega)
 have he0:(aC q0 7)<4611686018427387904:=Nat.lt_of_lt_of_le (bZ (by omega)) (by omega)
 have he1:(aC q1 7)<4611686018427387904:=Nat.lt_of_lt_of_le (bZ (by omega)) (by omega)
 have hf0:(aC q0 2147483648)<4611686018427387904:=Nat.lt_of_lt_of_le (bZ (by omega)) (by omega)
 unfold NK LC
 by_cases e1:aC q2 4=1
 ·rw [if_pos e1,if_pos e1];omega
 ·rw [if_neg e1,if_neg e1]
  by_cases e2:aC q2 4=2
  ·rw [if_pos e2,if_pos e2]
   exact ⟨by exact Nat.lt_of_le_of_lt (Nat.mul_le_mul (Nat.le_of_lt hc0) (Nat.le_of_lt hc1)) (by decide),by exact Nat.lt_of_le_of_lt (Nat.mul_le_mul (Nat.le_of_lt (show 1+_<4611686018427387905 by have:=hc1;omega)) (Nat.le_of_lt (show 1+_<4611686018427387905 by have:=hf0;omega))) (by decide)⟩
  ·rw [if_neg e2,if_neg e2]
   by_cases e3:aC q2 4=3
   ·rw [if_pos e3,if_pos e3];omega
   ·rw [if_neg e3,if_neg e3];omega
theorem Vx (w:RQ) (h0:lit true (!((ae w.n)== []))=true) (c0:CO 70 [.agg [.bool w.neg,.str (ae w.n),.str (ae w.d)]] (.ret (.agg [.bool w.neg,.str (ae w.n),.str (ae w.d)]))):CO 59 [.agg [.bool w.neg,.str (ae w.n),.str (ae w.d)]] (.ret (.agg [.bool (!w.neg),.str (ae w.n),.str (ae w.d)])):=pK [] 1 1 (.k 9 h0 (.n 5 .nil)) (.c c0 .nil)
theorem Qu (q0 q1 q2:Int) (w:RQ) (sg:Int) (h0:lit false (sg==((0:Nat):Int))=true) (h1:lit true w.neg=true) (c0:CO 19 [.agg [.int .i64 q0,.int .i64 q1,.int .i64 q2]] (.ret (.agg [.bool w.neg,.str (ae w.n),.str (ae w.d)]))) (c1:CO 59 [.agg [.bool w.neg,.str (ae w.n),.str (ae w.d)]] (.ret (.agg [.bool false,.str (ae w.n),.str (ae w.d)]))) (c2:CO 45 [.agg [.bool false,.str (ae w.n),.str (ae w.d)]] (.ret (.int .i64 sg))):CO 35 [.agg [.int .i64 q0,.int .i64 q1,.int .i64 q2]] (.ret (.agg [.bool false,.str (ae w.n),.str (ae w.d)])):=pK [] 2 1 (.k 7 h0 (.k 7 h1 (.n 5 .nil))) (.c c2 (.c c1 (.c c0 .nil)))
theorem Qv (q0 q1 q2:Int) (w:RQ) (sg:Int) (h0:lit true (sg==((0:Nat):Int))=true) (h1:lit false w.neg=true) (c0:CO 19 [.agg [.int .i64 q0,.int .i64 q1,.int .i64 q2]] (.ret (.agg [.bool w.neg,.str (ae w.n),.str (ae w.d)]))) (c1:CO 45 [.agg [.bool w.neg,.str (ae w.n),.str (ae w.d)]] (.ret (.int .i64 sg))) (c2:CO 60 [] (.ret (.agg [.bool false,.str [1],.str [100]]))):CO 35 [.agg [.int .i64 q0,.int .i64 q1,.int .i64 q2]] (.ret (.agg [.bool false,.str [1],.str [100]])):=pK [] 2 2 (.k 4 h0 (.k 3 h1 (.n 5 .nil))) (.c c2 (.c c1 (.c c0 .nil)))
theorem Qw (q0 q1 q2:Int) (w:RQ) (sg:Int) (h0:lit false (sg==((0:Nat):Int))=true) (h1:lit false w.neg=true) (c0:CO 19 [.agg [.int .i64 q0,.int .i64 q1,.int .i64 q2]] (.ret (.agg [.bool w.neg,.str (ae w.n),.str (ae w.d)]))) (c1:CO 45 [.agg [.bool w.neg,.str (ae w.n),.str (ae w.d)]] (.ret (.int .i64 sg))):CO 35 [.agg [.int .i64 q0,.int .i64 q1,.int .i64 q2]] (.ret (.agg [.bool w.neg,.str (ae w.n),.str (ae w.d)])):=pK [] 2 0 (.k 7 h0 (.k 3 h1 (.n 5 .nil))) (.c c1 (.c c0 .nil))
theorem Pj (n:Int) (k8 k2:Nat) (w:RQ) (nam:Bool) (nm:List UInt8) (hk8:k8<4611686018427387904) (h0:lit false nam=true) (h1:lit true ((((1+k8):Nat):Int)==((4:Nat):Int))=true) (c0:CO 29 [.int .i64 n,.int .i64 8] (.ret (.int .i64 (k8:Int)))) (c1:CO 19 [.agg [.int .i64 (IntKind.wrap .i64 (Int.tdiv n ((8:Nat):Int))),.int .i64 (IntKind.wrap .i64 (Int.tdiv n ((24:Nat):Int))),.int .i64 (IntKind.wrap .i64 (((3:Nat):Int)*(Int.tmod (IntKind.wrap .i64 (Int.tdiv n ((8:Nat):Int))) ((2:Nat):Int))))]] (.ret (.agg [.bool w.neg,.str (ae w.n),.str (ae w.d)]))) (c2:CO 29 [.int .i64 (IntKind.wrap .i64 (Int.tdiv n ((8:Nat):Int))),.int .i64 2] (.ret (.int .i64 (k2:Int)))) (c3:CO 36 [.int .i64 (k2:Int)] (.ret (.agg [.bool false,.str (ae k2),.str (ae 1)]))) (c4:CO 32 [.int .i64 (((1+k8):Nat):Int)] (.ret (.bool nam))):CO 31 [.int .i64 n] (.ret (.agg [.int .i64 (((1+k8):Nat):Int),.bool false,.str (ae k2),.str (ae 1),.str []])):=pK [] 2 1 (.k 9 h0 (.k 2 h1 (.n 5 .nil))) (.c c4 (.c c3 (.c c2 (.c c1 (.v 7 (.eq (yF hk8)) (.c c0 .nil))))))
theorem Pk (n:Int) (k8 k2:Nat) (w:RQ) (nam:Bool) (nm:List UInt8) (hk8:k8<4611686018427387904) (h0:lit true nam=true) (h1:lit false ((((1+k8):Nat):Int)==((4:Nat):Int))=true) (c0:CO 29 [.int .i64 n,.int .i64 8] (.ret (.int .i64 (k8:Int)))) (c1:CO 19 [.agg [.int .i64 (IntKind.wrap .i64 (Int.tdiv n ((8:Nat):Int))),.int .i64 (IntKind.wrap .i64 (Int.tdiv n ((24:Nat):Int))),.int .i64 (IntKind.wrap .i64 (((3:Nat):Int)*(Int.tmod (IntKind.wrap .i64 (Int.tdiv n ((8:Nat):Int))) ((2:Nat):Int))))]] (.ret (.agg [.bool w.neg,.str (ae w.n),.str (ae w.d)]))) (c2:CO 32 [.int .i64 (((1+k8):Nat):Int)] (.ret (.bool nam))) (c3:CO 33 [.int .i64 (IntKind.wrap .i64 (Int.tdiv n ((8:Nat):Int)))] (.ret (.str nm))):CO 31 [.int .i64 n] (.ret (.agg [.int .i64 (((1+k8):Nat):Int),.bool false,.str [],.str [],.str nm])):=pK [] 2 2 (.k 7 h0 (.c h1 (.n 5 .nil))) (.c c3 (.c c2 (.c c1 (.v 7 (.eq (yF hk8)) (.c c0 .nil)))))
theorem Pm (n:Int) (k8 k2:Nat) (w:RQ) (nam:Bool) (nm:List UInt8) (hk8:k8<4611686018427387904) (h0:lit false nam=true) (h1:lit false ((((1+k8):Nat):Int)==((4:Nat):Int))=true) (c0:CO 29 [.int .i64 n,.int .i64 8] (.ret (.int .i64 (k8:Int)))) (c1:CO 19 [.agg [.int .i64 (IntKind.wrap .i64 (Int.tdiv n ((8:Nat):Int))),.int .i64 (IntKind.wrap .i64 (Int.tdiv n ((24:Nat):Int))),.int .i64 (IntKind.wrap .i64 (((3:Nat):Int)*(Int.tmod (IntKind.wrap .i64 (Int.tdiv n ((8:Nat):Int))) ((2:Nat):Int))))]] (.ret (.agg [.bool w.neg,.str (ae w.n),.str (ae w.d)]))) (c2:CO 32 [.int .i64 (((1+k8):Nat):Int)] (.ret (.bool nam))):CO 31 [.int .i64 n] (.ret (.agg [.int .i64 (((1+k8):Nat):Int),.bool w.neg,.str (ae w.n),.str (ae w.d),.str []])):=pK [] 2 0 (.k 9 h0 (.c h1 (.n 5 .nil))) (.c c2 (.c c1 (.v 7 (.eq (yF hk8)) (.c c0 .nil))))
theorem ce0:CO 76 [.str [0,0,0,0,0,0,0,1]] (.ret (.str [1])):=cK (.nil)
theorem XM:CO 49 [.int .i64 1] (.ret (.str [1])):=cK (.c ce0 .nil)
theorem ce2:CO 76 [.str [0,0,0,0,0,0,0,100]] (.ret (.str [100])):=cK (.nil)
theorem Yp:CO 49 [.int .i64 100] (.ret (.str [100])):=cK (.c ce2 .nil)
theorem ce4:CO 128 [.str [1]] (.ret (.bool true)):=cK (.nil)
theorem ce5:CO 128 [.str [100]] (.ret (.bool true)):=cK (.nil)
theorem Rx:CO 76 [.str [1]] (.ret (.str [1])):=cK (.nil)
theorem XN:CO 76 [.str [100]] (.ret (.str [100])):=cK (.nil)
theorem ce8:CO 107 [.str [1]] (.ret (.tup [.int .i64 1,.bool true])):=cK (.c Rx .nil)
theorem XO:CO 77 [.str [1],.int .i64 7] (.ret (.tup [.int .i64 1,.bool true])):=cK (.c ce8 (.c Rx .nil))
theorem Yh:CO 107 [.str [100]] (.ret (.tup [.int .i64 100,.bool true])):=cK (.c XN .nil)
theorem Rv:CO 77 [.str [100],.int .i64 7] (.ret (.tup [.int .i64 100,.bool true])):=cK (.c Yh (.c XN .nil))
theorem Yi:CO 76 [.str []] (.ret (.str [])):=cK (.nil)
theorem Oz:CO 49 [.int .i64 0] (.ret (.str [])):=cK (.c Yi .nil)
theorem Yj:CO 81 [.str [1],.str [100]] (.ret (.tup [.str [],.str [1],.bool true])):=cK (.c XM (.c Oz (.c Rv (.c XO (.c XN .nil)))))
theorem Rw:CO 81 [.str [100],.str [1]] (.ret (.tup [.str [100],.str [],.bool true])):=cK (.c Oz (.c Yp (.c XO (.c Rv (.c Rx .nil)))))
theorem Yk:CO 80 [.str [1],.str [100]] (.ret (.str [1])):=cK (.c Rw (.c Yj (.c XN (.c Rx .nil))))
theorem Yl:CO 81 [.str [1],.str [1]] (.ret (.tup [.str [1],.str [],.bool true])):=cK (.c Oz (.c XM (.c XO (.c XO (.c Rx .nil)))))
theorem Ym:CO 51 [.bool false,.str [1],.str [100]] (.ret (.agg [.bool false,.str [1],.str [100]])):=cK (.c Rw (.c Yl (.c Yk .nil)))
theorem Yn:CO 96 [.bool false,.str [1],.str [100]] (.ret (.tup [.agg [.bool false,.str [1],.str [100]],.bool true])):=cK (.c Ym (.c ce5 (.c ce4 .nil)))
theorem Yo:CO 60 [] (.ret (.agg [.bool false,.str [1],.str [100]])):=cK (.c Yn (.c Yp (.c XM .nil)))
theorem nS {s:List UInt8} (h:nR s=true):ae (ac s)=s:=by
 rw [qo]
 cases s with
 |nil=>rfl
 |cons c r=>
  have:(c==0)=false:=by simpa [nR] using h
  rw [List.dropWhile_cons,if_neg (by rw [this];decide)]
theorem bf {x:Nat} (h:x<2^128):(ae x).length<2^33:=Nat.lt_of_le_of_lt (dK (k:=16) h) (by decide)
theorem Eh {w:RQ} (hw:w.ok) (hn:w.n<2^128) (hd:w.d<2^128):il w.neg (ae w.n) (ae w.d)=true:=by
 have h1:=gK hn
 have h2:=gK hd
 unfold il
 rw [Da w hw,aO,aO,decide_eq_true (by omega),decide_eq_true (by omega)]
 rfl
theorem DD {w:RQ} (hw:w.ok) (hneg:w.neg=false) (hn:0<w.n):lp w.neg (ae w.n) (ae w.d)=1:=by
 unfold lp
 rw [if_pos ⟨Da w hw,by rw [aO];exact hn⟩,hneg]
 rfl
theorem MA {w:RQ} (hn:w.n=0):lp w.neg (ae w.n) (ae w.d)=0:=by
 unfold lp
 rw [if_neg]
 rw [aO];omega
theorem zE (neg:Bool) (n d:Nat) (hn:n<2^128) (hd:d<2^128):(oN neg n d).n<2^128∧(oN neg n d).d<2^128:=
 ⟨Nat.lt_of_le_of_lt (Nat.div_le_self _ _) hn,Nat.lt_of_le_of_lt (Nat.div_le_self _ _) hd⟩
theorem Jw (q0 q1:Int):∃ w:RQ,w.ok∧w.neg=false∧0<w.n∧w.n<2^128∧w.d<2^128∧CO 35 [.agg [.int .i64 q0,.int .i64 q1,.int .i64 3]] (.ret (qA w)):=by
 have h:=ql q0 q1 3 (fun h=>absurd h (by decide))
 obtain ⟨b1,b2⟩:=Es q0 q1 3
 obtain ⟨b3,b4⟩:=zE (decide (q0<((0:Nat):Int))) _ _ b1 b2
 have hw:(oN (decide (q0<((0:Nat):Int))) (NK q0 q1 3) (LC q0 q1 3)).ok:=zF (zG _ _ _)
 generalize oN (decide (q0<((0:Nat):Int))) (NK q0 q1 3) (LC q0 q1 3)=w at*
 have cent:qA ⟨false,1,100⟩= .agg [.bool false,.str [1],.str [100]]:=by
  unfold qA
  rw [show ae 1= [1] from nS (s:= [1]) rfl,show ae 100= [100] from nS (s:= [100]) rfl]
 have cw:(⟨false,1,100⟩:RQ).ok:=⟨by decide,by decide,by simp⟩
 rcases tf w.neg with b0|b0
 ·have hp:=hw.2.2 b0
  have hne:(!((ae w.n)== []))=true:=by
   have:ae w.n ≠ []:=fun h=>by have:=fT.1 h;omega
   simpa using this
  have hv:=fB w.neg (ae w.n) (ae w.d) (bf b3) (bf b4)
  rw [show vQ w.neg (ae w.n) (ae w.d)=w by unfold vQ;rw [if_pos (Da w hw),aO,aO]] at hv
  have c1:=Vx w (ay hne) hv
  rw [show (!w.neg)=false by rw [b0];rfl] at c1
  have ok':(⟨false,w.n,w.d⟩:RQ).ok:=⟨hw.1,hw.2.1,by simp⟩
  have cs:=ym false (ae w.n) (ae w.d) (bf b3) (bf b4)
  rw [DD (w:=⟨false,w.n,w.d⟩) ok' rfl hp] at cs
  exact ⟨⟨false,w.n,w.d⟩,ok',rfl,hp,b3,b4,Qu q0 q1 3 w 1 (aB (by decide)) (ay b0) h c1 cs⟩
 ·have cs:=ym w.neg (ae w.n) (ae w.d) (bf b3) (bf b4)
  rcases Nat.eq_zero_or_pos w.n with hz|hp
  ·rw [MA hz] at cs
   have:=Qv q0 q1 3 w 0 (ay (by decide)) (aB b0) h cs Yo
   exact ⟨⟨false,1,100⟩,cw,rfl,by decide,by decide,by decide,by rw [cent];exact this⟩
  ·rw [DD hw b0 hp] at cs
   exact ⟨w,hw,b0,hp,b3,b4,Qw q0 q1 3 w 1 (aB (by decide)) (aB b0) h cs⟩
theorem nK {op:Int} (h:op=1∨op=2∨op=3) {w:RQ} (hw:w.ok) (hn:w.n<2^128) (hd:w.d<2^128):aA ⟨op,w.neg,ae w.n,ae w.d,[]⟩=0:=by
 have hf:=Eh hw hn hd
 rcases h with rfl|rfl|rfl<;>simp [aA,fk,GZ,ib,xf,kH,hf]
theorem DW {op:Int} (h:op=21∨op=22∨op=23) {w:RQ} (hw:w.ok) (hneg:w.neg=false) (hp:0<w.n) (hn:w.n<2^128) (hd:w.d<2^128):aA ⟨op,w.neg,ae w.n,ae w.d,[]⟩=0:=by
 have hf:=Eh hw hn hd
 have hs:=DD hw hneg hp
 rcases h with rfl|rfl|rfl<;>simp [aA,fk,GZ,ib,xf,kH,hf,hs]
theorem Ch {k:Nat} (h:k<2):aA ⟨4,false,ae k,ae 1,[]⟩=0:=by
 have:k=0∨k=1:=by omega
 rcases this with rfl|rfl<;>simp [aA,fk,GZ,ib,pu]
theorem wL {op:Int} (h:op=5∨op=6∨op=7∨op=8∨op=24) {nm:List UInt8} (hn:n_ nm=true):aA ⟨op,false,[],[],nm⟩=0:=by
 rcases h with rfl|rfl|rfl|rfl|rfl<;>simp [aA,fk,GZ,ib,xf,kH,hn]
theorem qH {op:Int} (h:9≤op∧op≤20):aA ⟨op,false,[],[],[]⟩=0:=by
 have h1:GZ op=true:=decide_eq_true (by omega)
 have h2:ib op=false:=decide_eq_false (by omega)
 have h3:xf op=false:=decide_eq_false (by omega)
 have h4:kH op=false:=decide_eq_false (by omega)
 have h5:(op==((4:Nat):Int))=false:=beq_eq_false_iff_ne.2 (by omega)
 unfold aA fk
 rw [h1,h2,h3,h4,h5];rfl
theorem Ll (n:Int):∃ x:Nd,x.sm∧aA x=0∧bX x.op=0∧CO 31 [.int .i64 n] (.ret (.agg (lO x))):=by
 have c8:=bT n 8 (by omega) (by omega)
 have h8:aC n 8<8:=bZ (by omega)
 generalize aC n 8=k8 at*
 generalize hq:(IntKind.wrap .i64 (Int.tdiv n ((8:Nat):Int)))=q at*
 have hr: -2<Int.tmod q 2∧Int.tmod q 2<2:=by
  have h1:=Int.tmod_lt_of_pos q (b:=2) (by omega)
  have h2:=Int.tmod_lt_of_pos (-q) (b:=2) (by omega)
  rw [Int.neg_tmod] at h2
  omega
 have hne:aC (IntKind.wrap .i64 (((3:Nat):Int)*(Int.tmod q ((2:Nat):Int)))) 4 ≠ 2:=by
  rw [show ((2:Nat):Int)=2 from rfl]
  rw [bH (by omega) (by omega)]
  have:Int.tmod q 2= -1∨Int.tmod q 2=0∨Int.tmod q 2=1:=by omega
  rcases this with h|h|h<;>rw [h]<;>decide
 have cm:=ql q (IntKind.wrap .i64 (Int.tdiv n ((24:Nat):Int))) (IntKind.wrap .i64 (((3:Nat):Int)*(Int.tmod q ((2:Nat):Int)))) (fun h=>absurd h hne)
 obtain ⟨b1,b2⟩:=Es q (IntKind.wrap .i64 (Int.tdiv n ((24:Nat):Int))) (IntKind.wrap .i64 (((3:Nat):Int)*(Int.tmod q ((2:Nat):Int))))
 obtain ⟨b3,b4⟩:=zE (decide (q<((0:Nat):Int))) _ _ b1 b2
 have hw:=zF (neg:=decide (q<((0:Nat):Int))) (n:=NK q (IntKind.wrap .i64 (Int.tdiv n ((24:Nat):Int))) (IntKind.wrap .i64 (((3:Nat):Int)*(Int.tmod q ((2:Nat):Int))))) (zG q (IntKind.wrap .i64 (Int.tdiv n ((24:Nat):Int))) (IntKind.wrap .i64 (((3:Nat):Int)*(Int.tmod q ((2:Nat):Int)))))
 generalize oN (decide (q<((0:Nat):Int))) (NK q (IntKind.wrap .i64 (Int.tdiv n ((24:Nat):Int))) (IntKind.wrap .i64 (((3:Nat):Int)*(Int.tmod q ((2:Nat):Int))))) (LC q (IntKind.wrap .i64 (Int.tdiv n ((24:Nat):Int))) (IntKind.wrap .i64 (((3:Nat):Int)*(Int.tmod q ((2:Nat):Int)))))=w at*
 have cn:=Ex (((1+k8:Nat):Int))
 have cp:=zU q
 have hp:=yj (aC q 6) (bZ (by omega))
 generalize Bz (aC q 6)=nm at*
 have c2:=bT q 2 (by omega) (by omega)
 have h2:aC q 2<2:=bZ (by omega)
 generalize aC q 2=k2 at*
 have co:=sP k2 (by omega)
 have l2:(ae k2).length<2^33:=bf (by omega)
 have l1:(ae 1).length<2^33:=bf (by decide)
 subst hq
 by_cases e4:k8=3
 ·rw [show ib ((1+k8:Nat):Int)=false by subst e4;rfl] at cn
  refine ⟨⟨((1+k8:Nat):Int),false,ae k2,ae 1,[]⟩,⟨l2,l1⟩, ?_,by subst e4;rfl,Pj n k8 k2 w false nm (by omega) (aB rfl) (ay (xA (by omega))) c8 cm c2 co cn⟩
  subst e4
  exact Ch h2
 ·by_cases e5:k8<3
  ·rw [show ib ((1+k8:Nat):Int)=false from decide_eq_false (by omega)] at cn
   exact ⟨⟨((1+k8:Nat):Int),w.neg,ae w.n,ae w.d,[]⟩,⟨bf b3,bf b4⟩,nK (by omega) hw b3 b4,by unfold bX;simp only;(repeat' split)<;>omega,Pm n k8 k2 w false nm (by omega) (aB rfl) (aB (jx (by omega))) c8 cm cn⟩
  ·rw [show ib ((1+k8:Nat):Int)=true from decide_eq_true (by omega)] at cn
   exact ⟨⟨((1+k8:Nat):Int),false,[],[],nm⟩,⟨by simp,by simp⟩,wL (by omega) hp,by unfold bX;simp only;(repeat' split)<;>omega,Pk n k8 k2 w true nm (by omega) (ay rfl) (aB (jx (by omega))) c8 cm cn cp⟩
def iL (l:List Int):List AV:=l.map fun a=> .int .i64 a
theorem K6 {a:List Int} {i:Nat} (h:i<a.length):List.drop (Int.toNat (i:Int)*1) (iL a)= [AV.int .i64 (a.getD i 0)]++iL (a.drop (i+1)):=by
 unfold iL
 rw [av,Nat.mul_one,← List.map_drop,List.drop_eq_getElem_cons h,List.getD_eq_getElem?_getD,List.getElem?_eq_getElem h]
 rfl
theorem tT {k:Nat} (h:k<2^62):AV.int .i64 (IntKind.wrap .i64 ((k:Int)+((1:Nat):Int)))= .int .i64 ((k+1:Nat):Int):=by
 have e:IntKind.wrap .i64 ((k:Int)+((1:Nat):Int))=((k+1:Nat):Int):=by rw [bH]<;>omega
 rw [e]
theorem X2 {a b:Nat} (h:a≤b) (hb:b<2^62):AV.int .i64 (IntKind.wrap .i64 ((b:Int) - (a:Int)))= .int .i64 ((b - a:Nat):Int):=by
 have e:IntKind.wrap .i64 ((b:Int) - (a:Int))=((b - a:Nat):Int):=by rw [bH]<;>omega
 rw [e]
theorem lms {a b:Nat} (h:b<2^62):b - a<2^62:=Nat.lt_of_le_of_lt (Nat.sub_le _ _) h
theorem Vs {nt:Nat} (hn:85≤nt) (xs:List Int) (nn:Bool) (k dp kM ar:Nat) (y:Nd) (x:Int) (rx:List AV) (hk:k<2^62) (hdp:dp<2^62) (hk24:kM<4611686018427387904) (hx:(List.drop ((Int.toNat (k:Int))*1) (iL xs))= [AV.int .i64 x]++rx) (h0:lit true ((ar:Int)==((0:Nat):Int))=true) (h1:(decide (((0:Nat):Int)≤(k:Int)))=true) (h2:(decide ((k:Int)<(xs.length:Int)))=true) (h3:lit true (decide ((k:Int)<((30:Nat):Int)))=true) (h4:lit true (decide ((k:Int)<(xs.length:Int)))=true) (c0:CO 29 [.int .i64 x,.int .i64 24] (.ret (.int .i64 (kM:Int)))) (c1:CO 30 [.int .i64 (((1+kM):Nat):Int)] (.ret (.int .i64 (ar:Int)))) (c2:CO 31 [.int .i64 (IntKind.wrap .i64 (Int.tdiv x ((24:Nat):Int)))] (.ret (.agg [.int .i64 y.op,.bool y.neg,.str y.num,.str y.den,.str y.name]))):ah prog ap [] nt (aa 0 (af f11)) ⟨[(0,.sl (iL xs) xs.length nn),(3,.nilS),(4,.int .i64 (dp:Int)),(5,.int .i64 (k:Int))],[],.dead,[]⟩ (.normal) ⟨[(0,.sl (iL xs) xs.length nn),(3,.ref 0 0 0 1),(4,.int .i64 (((dp+1):Nat):Int)),(5,.int .i64 (((k+1):Nat):Int))],[(0,⟨[.int .i64 y.op,.bool y.neg,.str y.num,.str y.den,.str y.name],0,false,0,5,true⟩)],.dead,[]⟩:=pN 11 [] 5 15 (.k 5 h0 (.k 1 h1 (.c h2 (.c h3 (.c h4 .nil))))) (.v 19 (.eq (tT hk)) (.v 43 (.eq (tT hdp)) (.c c2 (.c c1 (.v 26 (.eq (yF hk24)) (.c c0 (.v 22 (.ppt hx) .nil))))))) hn
theorem Vt {nt:Nat} (hn:85≤nt) (xs:List Int) (nn:Bool) (k dp kM ar:Nat) (y:Nd) (x:Int) (rx:List AV) (hk:k<2^62) (hdp:dp<2^62) (hk24:kM<4611686018427387904) (hx:(List.drop ((Int.toNat (k:Int))*1) (iL xs))= [AV.int .i64 x]++rx) (h0:lit true (decide ((dp:Int)<(ar:Int)))=true) (h1:lit false ((ar:Int)==((0:Nat):Int))=true) (h2:(decide (((0:Nat):Int)≤(k:Int)))=true) (h3:(decide ((k:Int)<(xs.length:Int)))=true) (h4:lit true (decide ((k:Int)<((30:Nat):Int)))=true) (h5:lit true (decide ((k:Int)<(xs.length:Int)))=true) (c0:CO 29 [.int .i64 x,.int .i64 24] (.ret (.int .i64 (kM:Int)))) (c1:CO 30 [.int .i64 (((1+kM):Nat):Int)] (.ret (.int .i64 (ar:Int)))) (c2:CO 31 [.int .i64 (IntKind.wrap .i64 (Int.tdiv x ((24:Nat):Int)))] (.ret (.agg [.int .i64 y.op,.bool y.neg,.str y.num,.str y.den,.str y.name]))):ah prog ap [] nt (aa 0 (af f11)) ⟨[(0,.sl (iL xs) xs.length nn),(3,.nilS),(4,.int .i64 (dp:Int)),(5,.int .i64 (k:Int))],[],.dead,[]⟩ (.normal) ⟨[(0,.sl (iL xs) xs.length nn),(3,.ref 0 0 0 1),(4,.int .i64 (((dp+1):Nat):Int)),(5,.int .i64 (((k+1):Nat):Int))],[(0,⟨[.int .i64 y.op,.bool y.neg,.str y.num,.str y.den,.str y.name],0,false,0,5,true⟩)],.dead,[]⟩:=pN 11 [] 5 11 (.k 4 h0 (.c h1 (.k 1 h2 (.c h3 (.c h4 (.c h5 .nil)))))) (.v 19 (.eq (tT hk)) (.v 43 (.eq (tT hdp)) (.c c2 (.c c1 (.v 26 (.eq (yF hk24)) (.c c0 (.v 22 (.ppt hx) .nil))))))) hn
theorem Vu {nt:Nat} (hn:85≤nt) (xs:List Int) (nn:Bool) (k dp:Nat) (h0:lit false (decide ((k:Int)<(xs.length:Int)))=true):ah prog ap [] nt (aa 0 (af f11)) ⟨[(0,.sl (iL xs) xs.length nn),(3,.nilS),(4,.int .i64 (dp:Int)),(5,.int .i64 (k:Int))],[],.dead,[]⟩ (.exit 0) ⟨[(3,.nilS),(4,.int .i64 (dp:Int))],[],.dead,[]⟩:=pN 11 [] 2 0 (.k 1 h0 .nil) (.nil) hn
theorem Vl {nt:Nat} (hn:85≤nt) (xs:List Int) (nn:Bool) (k dp kM ar:Nat) (y:Nd) (x:Int) (rx:List AV) (os:List Nd) (hk:k<2^62) (hdp:dp<2^62) (hk24:kM<4611686018427387904) (hx:(List.drop ((Int.toNat (k:Int))*1) (iL xs))= [AV.int .i64 x]++rx) (h0:(Nat.ble (k+1) 1099511627776)=true) (h1:(Nat.ble (k*5) (List.length (aF os)))=true) (h2:lit true ((ar:Int)==((0:Nat):Int))=true) (h3:(decide (((0:Nat):Int)≤(k:Int)))=true) (h4:(decide ((k:Int)<(xs.length:Int)))=true) (h5:lit true (decide ((k:Int)<((30:Nat):Int)))=true) (h6:lit true (decide ((k:Int)<(xs.length:Int)))=true) (c0:CO 29 [.int .i64 x,.int .i64 24] (.ret (.int .i64 (kM:Int)))) (c1:CO 30 [.int .i64 (((1+kM):Nat):Int)] (.ret (.int .i64 (ar:Int)))) (c2:CO 31 [.int .i64 (IntKind.wrap .i64 (Int.tdiv x ((24:Nat):Int)))] (.ret (.agg [.int .i64 y.op,.bool y.neg,.str y.num,.str y.den,.str y.name]))):ah prog ap [] nt (aa 0 (af f11)) ⟨[(0,.sl (iL xs) xs.length nn),(3,.ref 0 0 0 k),(4,.int .i64 (dp:Int)),(5,.int .i64 (k:Int))],[(0,⟨(aF os),0,false,0,5,true⟩)],.dead,[]⟩ (.normal) ⟨[(0,.sl (iL xs) xs.length nn),(3,.ref 0 0 0 (k+1)),(4,.int .i64 (((dp+1):Nat):Int)),(5,.int .i64 (((k+1):Nat):Int))],[(0,⟨((List.take (k*5) (aF os))++ [.int .i64 y.op,.bool y.neg,.str y.num,.str y.den,.str y.name]),0,false,0,5,true⟩)],.dead,[]⟩:=pN 11 [] 4 15 (.k 1 h0 (.c h1 (.k 3 h2 (.k 1 h3 (.c h4 (.c h5 (.c h6 .nil))))))) (.v 19 (.eq (tT hk)) (.v 43 (.eq (tT hdp)) (.c c2 (.c c1 (.v 26 (.eq (yF hk24)) (.c c0 (.v 22 (.ppt hx) .nil))))))) hn
theorem Vm {nt:Nat} (hn:85≤nt) (xs:List Int) (nn:Bool) (k dp kM ar:Nat) (y:Nd) (x:Int) (rx:List AV) (os:List Nd) (hk:k<2^62) (hdp:dp<2^62) (hk24:kM<4611686018427387904) (hx:(List.drop ((Int.toNat (k:Int))*1) (iL xs))= [AV.int .i64 x]++rx) (h0:(Nat.ble (k+1) 1099511627776)=true) (h1:(Nat.ble (k*5) (List.length (aF os)))=true) (h2:lit true (decide ((dp:Int)<(ar:Int)))=true) (h3:lit false ((ar:Int)==((0:Nat):Int))=true) (h4:(decide (((0:Nat):Int)≤(k:Int)))=true) (h5:(decide ((k:Int)<(xs.length:Int)))=true) (h6:lit true (decide ((k:Int)<((30:Nat):Int)))=true) (h7:lit true (decide ((k:Int)<(xs.length:Int)))=true) (c0:CO 29 [.int .i64 x,.int .i64 24] (.ret (.int .i64 (kM:Int)))) (c1:CO 30 [.int .i64 (((1+kM):Nat):Int)] (.ret (.int .i64 (ar:Int)))) (c2:CO 31 [.int .i64 (IntKind.wrap .i64 (Int.tdiv x ((24:Nat):Int)))] (.ret (.agg [.int .i64 y.op,.bool y.neg,.str y.num,.str y.den,.str y.name]))):ah prog ap [] nt (aa 0 (af f11)) ⟨[(0,.sl (iL xs) xs.length nn),(3,.ref 0 0 0 k),(4,.int .i64 (dp:Int)),(5,.int .i64 (k:Int))],[(0,⟨(aF os),0,false,0,5,true⟩)],.dead,[]⟩ (.normal) ⟨[(0,.sl (iL xs) xs.length nn),(3,.ref 0 0 0 (k+1)),(4,.int .i64 (((dp+1):Nat):Int)),(5,.int .i64 (((k+1):Nat):Int))],[(0,⟨((List.take (k*5) (aF os))++ [.int .i64 y.op,.bool y.neg,.str y.num,.str y.den,.str y.name]),0,false,0,5,true⟩)],.dead,[]⟩:=pN 11 [] 4 11 (.k 1 h0 (.c h1 (.k 2 h2 (.c h3 (.k 1 h4 (.c h5 (.c h6 (.c h7 .nil)))))))) (.v 19 (.eq (tT hk)) (.v 43 (.eq (tT hdp)) (.c c2 (.c c1 (.v 26 (.eq (yF hk24)) (.c c0 (.v 22 (.ppt hx) .nil))))))) hn
theorem Vn {nt:Nat} (hn:85≤nt) (xs:List Int) (nn:Bool) (k dp kM ar:Nat) (nam ste:Bool) (nm:List UInt8) (x:Int) (rx:List AV) (os:List Nd) (hk:k<2^62) (hdp:dp<2^62) (hk24:kM<4611686018427387904) (har:ar≤dp) (hx:(List.drop ((Int.toNat (k:Int))*1) (iL xs))= [AV.int .i64 x]++rx) (h0:(Nat.ble (k+1) 1099511627776)=true) (h1:(Nat.ble (k*5) (List.length (aF os)))=true) (h2:lit false ste=true) (h3:lit true nam=true) (h4:lit false (decide ((dp:Int)<(ar:Int)))=true) (h5:lit false ((ar:Int)==((0:Nat):Int))=true) (h6:(decide (((0:Nat):Int)≤(k:Int)))=true) (h7:(decide ((k:Int)<(xs.length:Int)))=true) (h8:lit true (decide ((k:Int)<((30:Nat):Int)))=true) (h9:lit true (decide ((k:Int)<(xs.length:Int)))=true) (c0:CO 29 [.int .i64 x,.int .i64 24] (.ret (.int .i64 (kM:Int)))) (c1:CO 30 [.int .i64 (((1+kM):Nat):Int)] (.ret (.int .i64 (ar:Int)))) (c2:CO 32 [.int .i64 (((1+kM):Nat):Int)] (.ret (.bool nam))) (c3:CO 33 [.int .i64 (IntKind.wrap .i64 (Int.tdiv x ((24:Nat):Int)))] (.ret (.str nm))) (c4:CO 34 [.int .i64 (((1+kM):Nat):Int)] (.ret (.bool ste))):ah prog ap [] nt (aa 0 (af f11)) ⟨[(0,.sl (iL xs) xs.length nn),(3,.ref 0 0 0 k),(4,.int .i64 (dp:Int)),(5,.int .i64 (k:Int))],[(0,⟨(aF os),0,false,0,5,true⟩)],.dead,[]⟩ (.normal) ⟨[(0,.sl (iL xs) xs.length nn),(3,.ref 0 0 0 (k+1)),(4,.int .i64 (((dp - ar+1):Nat):Int)),(5,.int .i64 (((k+1):Nat):Int))],[(0,⟨((List.take (k*5) (aF os))++ [.int .i64 (((1+kM):Nat):Int),.bool false,.str [],.str [],.str nm]),0,false,0,5,true⟩)],.dead,[]⟩:=pN 11 [] 6 19 (.k 1 h0 (.c h1 (.k 6 h2 (.k 2 h3 (.k 1 h4 (.c h5 (.k 1 h6 (.c h7 (.c h8 (.c h9 .nil)))))))))) (.v 19 (.eq (tT hk)) (.v 68 (.eq (tT (lms (a:=ar) hdp))) (.v 67 (.eq (X2 har hdp)) (.c c4 (.c c3 (.c c2 (.c c1 (.v 26 (.eq (yF hk24)) (.c c0 (.v 22 (.ppt hx) .nil)))))))))) hn
theorem Vo {nt:Nat} (hn:85≤nt) (xs:List Int) (nn:Bool) (k dp kM ar:Nat) (nam ste:Bool) (w:RQ) (x:Int) (rx:List AV) (os:List Nd) (hk:k<2^62) (hdp:dp<2^62) (hk24:kM<4611686018427387904) (har:ar≤dp) (hx:(List.drop ((Int.toNat (k:Int))*1) (iL xs))= [AV.int .i64 x]++rx) (h0:(Nat.ble (k+1) 1099511627776)=true) (h1:(Nat.ble (k*5) (List.length (aF os)))=true) (h2:lit true ste=true) (h3:lit false nam=true) (h4:lit false (decide ((dp:Int)<(ar:Int)))=true) (h5:lit false ((ar:Int)==((0:Nat):Int))=true) (h6:(decide (((0:Nat):Int)≤(k:Int)))=true) (h7:(decide ((k:Int)<(xs.length:Int)))=true) (h8:lit true (decide ((k:Int)<((30:Nat):Int)))=true) (h9:lit true (decide ((k:Int)<(xs.length:Int)))=true) (c0:CO 29 [.int .i64 x,.int .i64 24] (.ret (.int .i64 (kM:Int)))) (c1:CO 30 [.int .i64 (((1+kM):Nat):Int)] (.ret (.int .i64 (ar:Int)))) (c2:CO 32 [.int .i64 (((1+kM):Nat):Int)] (.ret (.bool nam))) (c3:CO 34 [.int .i64 (((1+kM):Nat):Int)] (.ret (.bool ste))) (c4:CO 35 [.agg [.int .i64 (IntKind.wrap .i64 (Int.tdiv x ((24:Nat):Int))),.int .i64 (IntKind.wrap .i64 (Int.tdiv x ((48:Nat):Int))),.int .i64 3]] (.ret (.agg [.bool w.neg,.str (ae w.n),.str (ae w.d)]))):ah prog ap [] nt (aa 0 (af f11)) ⟨[(0,.sl (iL xs) xs.length nn),(3,.ref 0 0 0 k),(4,.int .i64 (dp:Int)),(5,.int .i64 (k:Int))],[(0,⟨(aF os),0,false,0,5,true⟩)],.dead,[]⟩ (.normal) ⟨[(0,.sl (iL xs) xs.length nn),(3,.ref 0 0 0 (k+1)),(4,.int .i64 (((dp - ar+1):Nat):Int)),(5,.int .i64 (((k+1):Nat):Int))],[(0,⟨((List.take (k*5) (aF os))++ [.int .i64 (((1+kM):Nat):Int),.bool w.neg,.str (ae w.n),.str (ae w.d),.str []]),0,false,0,5,true⟩)],.dead,[]⟩:=pN 11 [] 6 35 (.k 1 h0 (.c h1 (.k 9 h2 (.c h3 (.k 1 h4 (.c h5 (.k 1 h6 (.c h7 (.c h8 (.c h9 .nil)))))))))) (.v 19 (.eq (tT hk)) (.v 68 (.eq (tT (lms (a:=ar) hdp))) (.v 67 (.eq (X2 har hdp)) (.c c4 (.c c3 (.c c2 (.c c1 (.v 26 (.eq (yF hk24)) (.c c0 (.v 22 (.ppt hx) .nil)))))))))) hn
theorem Vp {nt:Nat} (hn:85≤nt) (xs:List Int) (nn:Bool) (k dp kM ar:Nat) (nam ste:Bool) (x:Int) (rx:List AV) (os:List Nd) (hk:k<2^62) (hdp:dp<2^62) (hk24:kM<4611686018427387904) (har:ar≤dp) (hx:(List.drop ((Int.toNat (k:Int))*1) (iL xs))= [AV.int .i64 x]++rx) (h0:(Nat.ble (k+1) 1099511627776)=true) (h1:(Nat.ble (k*5) (List.length (aF os)))=true) (h2:lit false ste=true) (h3:lit false nam=true) (h4:lit false (decide ((dp:Int)<(ar:Int)))=true) (h5:lit false ((ar:Int)==((0:Nat):Int))=true) (h6:(decide (((0:Nat):Int)≤(k:Int)))=true) (h7:(decide ((k:Int)<(xs.length:Int)))=true) (h8:lit true (decide ((k:Int)<((30:Nat):Int)))=true) (h9:lit true (decide ((k:Int)<(xs.length:Int)))=true) (c0:CO 29 [.int .i64 x,.int .i64 24] (.ret (.int .i64 (kM:Int)))) (c1:CO 30 [.int .i64 (((1+kM):Nat):Int)] (.ret (.int .i64 (ar:Int)))) (c2:CO 32 [.int .i64 (((1+kM):Nat):Int)] (.ret (.bool nam))) (c3:CO 34 [.int .i64 (((1+kM):Nat):Int)] (.ret (.bool ste))):ah prog ap [] nt (aa 0 (af f11)) ⟨[(0,.sl (iL xs) xs.length nn),(3,.ref 0 0 0 k),(4,.int .i64 (dp:Int)),(5,.int .i64 (k:Int))],[(0,⟨(aF os),0,false,0,5,true⟩)],.dead,[]⟩ (.normal) ⟨[(0,.sl (iL xs) xs.length nn),(3,.ref 0 0 0 (k+1)),(4,.int .i64 (((dp - ar+1):Nat):Int)),(5,.int .i64 (((k+1):Nat):Int))],[(0,⟨((List.take (k*5) (aF os))++ [.int .i64 (((1+kM):Nat):Int),.bool false,.str [],.str [],.str []]),0,false,0,5,true⟩)],.dead,[]⟩:=pN 11 [] 6 3 (.k 1 h0 (.c h1 (.k 6 h2 (.c h3 (.k 1 h4 (.c h5 (.k 1 h6 (.c h7 (.c h8 (.c h9 .nil)))))))))) (.v 19 (.eq (tT hk)) (.v 68 (.eq (tT (lms (a:=ar) hdp))) (.v 67 (.eq (X2 har hdp)) (.c c3 (.c c2 (.c c1 (.v 26 (.eq (yF hk24)) (.c c0 (.v 22 (.ppt hx) .nil))))))))) hn
theorem Vq {nt:Nat} (hn:85≤nt) (xs:List Int) (nn:Bool) (k dp:Nat) (os:List Nd) (h0:lit false (decide ((k:Int)<((30:Nat):Int)))=true) (h1:lit true (decide ((k:Int)<(xs.length:Int)))=true):ah prog ap [] nt (aa 0 (af f11)) ⟨[(0,.sl (iL xs) xs.length nn),(3,.ref 0 0 0 k),(4,.int .i64 (dp:Int)),(5,.int .i64 (k:Int))],[(0,⟨(aF os),0,false,0,5,true⟩)],.dead,[]⟩ (.exit 0) ⟨[(3,.ref 0 0 0 k),(4,.int .i64 (dp:Int))],[(0,⟨(aF os),0,false,0,5,true⟩)],.dead,[]⟩:=pN 11 [] 2 1 (.c h0 (.c h1 .nil)) (.nil) hn
theorem Vr {nt:Nat} (hn:85≤nt) (xs:List Int) (nn:Bool) (k dp:Nat) (os:List Nd) (h0:lit false (decide ((k:Int)<(xs.length:Int)))=true):ah prog ap [] nt (aa 0 (af f11)) ⟨[(0,.sl (iL xs) xs.length nn),(3,.ref 0 0 0 k),(4,.int .i64 (dp:Int)),(5,.int .i64 (k:Int))],[(0,⟨(aF os),0,false,0,5,true⟩)],.dead,[]⟩ (.exit 0) ⟨[(3,.ref 0 0 0 k),(4,.int .i64 (dp:Int))],[(0,⟨(aF os),0,false,0,5,true⟩)],.dead,[]⟩:=pN 11 [] 2 0 (.k 1 h0 .nil) (.nil) hn
theorem uz {k n:Nat} (h:n≤k):decide ((k:Int)<(n:Int))=false:=decide_eq_false (by omega)
def apN (os:List Nd) (k:Nat):AV:=match os with| []=> .nilS|_::_=> .ref 0 0 0 k
def hpN (os:List Nd):Hp:=match os with| []=> []|a::r=> [(0,⟨aF (a::r),0,false,0,5,true⟩)]
def Pp (xs:List Int) (nn:Bool) (p:Nat × List Nd × Nat):St:=⟨[(0,.sl (iL xs) xs.length nn),(3,apN p.2.1 p.1),(4,.int .i64 (p.2.2:Int)),(5,.int .i64 (p.1:Int))],hpN p.2.1,.dead,[]⟩
def Vi (p:Nat × List Nd × Nat):St:=⟨[(3,apN p.2.1 p.1),(4,.int .i64 (p.2.2:Int))],hpN p.2.1,.dead,[]⟩
structure Fb (os:List Nd) (dp:Nat):Prop where
 sm:∀ x ∈ os,x.sm
 ck:cO os 0= .inl dp
theorem AG {y:Nd} (hw:aA y=0):∀ (os:List Nd) (d e:Nat),cO os d= .inl e→bX y.op≤e→cO (os++ [y]) d= .inl (e - bX y.op+1)
 | [],d,e,h,ha=>by
  simp only [cO,Sum.inl.injEq] at h
  subst h
  simp only [List.nil_append,cO,if_pos hw]
  rw [if_neg (by omega)]
 | x::r,d,e,h,ha=>by
  simp only [List.cons_append,cO] at h ⊢
  split at h
  ·rename_i hx
   rw [if_pos hx]
   split at h
   ·cases h
   ·rename_i hd
    rw [if_neg hd]
    exact AG hw r _ e h ha
  ·cases h
theorem zI:∀ (os:List Nd) (d e:Nat),cO os d= .inl e→e≤d+os.length∧(os ≠ []→1≤e)
 | [],d,e,h=>by
  simp only [cO,Sum.inl.injEq] at h
  subst h
  exact ⟨by simp,by simp⟩
 | x::r,d,e,h=>by
  simp only [cO] at h
  split at h
  ·split at h
   ·cases h
   ·obtain ⟨h1,h2⟩:=zI r _ e h
    refine ⟨by simp only [List.length_cons];omega,fun _=> ?_⟩
    cases r with
    |nil=>simp only [cO,Sum.inl.injEq] at h;omega
    |cons _ _=>exact h2 (by simp)
  ·cases h
theorem Fb.snoc {os:List Nd} {dp:Nat} (h:Fb os dp) {y:Nd} (hs:y.sm) (hw:aA y=0) (ha:bX y.op≤dp):Fb (os++ [y]) (dp - bX y.op+1):=by
 refine ⟨fun x hx=> ?_,AG hw os 0 dp h.ck ha⟩
 rcases List.mem_append.1 hx with hx|hx
 ·exact h.sm x hx
 ·rw [List.mem_singleton] at hx;subst hx;exact hs
theorem ny {os:List Nd} {k:Nat} (h:os.length=k) (y:Nd):List.take (k*5) (aF os)++ [AV.int .i64 y.op,.bool y.neg,.str y.num,.str y.den,.str y.name]=aF (os++ [y]):=by
 rw [List.take_of_length_le (by rw [fe];omega),tH]
 rfl
theorem ID (xs:List Int) (nn:Bool) (os:List Nd) (k dp:Nat) (hI:Fb os dp) (hk:os.length=k) (h30:k<30) (hkl:k<xs.length):
  ∃ (y:Nd) (dp':Nat),Fb (os++ [y]) dp'∧∀ nt,85≤nt→ah prog ap [] nt (aa 0 (af f11)) (Pp xs nn (k,os,dp)) .normal (Pp xs nn (k+1,os++ [y],dp')):=by
 obtain ⟨hdl,_⟩:=zI os 0 dp hI.ck
 have hdp:dp<2^62:=by omega
 have hx:=K6 hkl
 generalize xs.getD k 0=x at hx
 have c29:=bT x 24 (by omega) (by omega)
 have h24:aC x 24<24:=bZ (by omega)
 have c30:=Kr ((1+aC x 24:Nat):Int)
 have c32:=Ex ((1+aC x 24:Nat):Int)
 have c34:=MC ((1+aC x 24:Nat):Int)
 obtain ⟨y,hys,hyw,hya,cy⟩:=Ll (IntKind.wrap .i64 (Int.tdiv x ((24:Nat):Int)))
 have hleaf:Fb (os++ [y]) (dp+1):=by
  have:=hI.snoc hys hyw (by omega)
  rwa [hya,Nat.sub_zero] at this
 by_cases e0:bX ((1+aC x 24:Nat):Int)=0
 ·refine ⟨y,dp+1,hleaf,fun nt hn=> ?_⟩
  cases os with
  |nil=>
   simp only [List.length_nil] at hk
   subst hk
   exact Vs hn xs nn 0 dp (aC x 24) (bX ((1+aC x 24:Nat):Int)) y x _ (by omega) hdp (by omega) hx (ay (xA e0)) (rp 0) (dm hkl) (ay (dm h30)) (ay (dm hkl)) c29 c30 cy
  |cons a r=>
   have h:=ny hk y
   have h2:=Vl hn xs nn k dp (aC x 24) (bX ((1+aC x 24:Nat):Int)) y x _ (a::r) (by omega) hdp (by omega) hx (Nat.ble_eq_true_of_le (by omega)) (Nat.ble_eq_true_of_le (by rw [fe];omega)) (ay (xA e0)) (rp k) (dm hkl) (ay (dm h30)) (ay (dm hkl)) c29 c30 cy
   rw [h] at h2
   exact h2
 ·by_cases e1:dp<bX ((1+aC x 24:Nat):Int)
  ·refine ⟨y,dp+1,hleaf,fun nt hn=> ?_⟩
   cases os with
   |nil=>
    simp only [List.length_nil] at hk
    subst hk
    exact Vt hn xs nn 0 dp (aC x 24) (bX ((1+aC x 24:Nat):Int)) y x _ (by omega) hdp (by omega) hx (ay (dm e1)) (aB (jx e0)) (rp 0) (dm hkl) (ay (dm h30)) (ay (dm hkl)) c29 c30 cy
   |cons a r=>
    have h:=ny hk y
    have h2:=Vm hn xs nn k dp (aC x 24) (bX ((1+aC x 24:Nat):Int)) y x _ (a::r) (by omega) hdp (by omega) hx (Nat.ble_eq_true_of_le (by omega)) (Nat.ble_eq_true_of_le (by rw [fe];omega)) (ay (dm e1)) (aB (jx e0)) (rp k) (dm hkl) (ay (dm h30)) (ay (dm hkl)) c29 c30 cy
    rw [h] at h2
    exact h2
  ·have e1:bX ((1+aC x 24:Nat):Int)≤dp:=by omega
   cases os with
   |nil=>
    exfalso
    have:=hI.ck
    simp only [cO,Sum.inl.injEq] at this
    omega
   | cons a r=>
    have hk:=hk
    rcases tf (ib ((1+aC x 24:Nat):Int)) with e2|e2
    ·have cp:=zU (IntKind.wrap .i64 (Int.tdiv x ((24:Nat):Int)))
     have hp:=yj (aC (IntKind.wrap .i64 (Int.tdiv x ((24:Nat):Int))) 6) (bZ (by omega))
     generalize Bz (aC (IntKind.wrap .i64 (Int.tdiv x ((24:Nat):Int))) 6)=nm at*
     have e2':=of_decide_eq_true e2
     have e3:kH ((1+aC x 24:Nat):Int)=false:=decide_eq_false (by omega)
     refine ⟨⟨((1+aC x 24:Nat):Int),false,[],[],nm⟩,_,hI.snoc ⟨by simp,by simp⟩ (wL (by omega) hp) e1,fun nt hn=> ?_⟩
     have h:=ny hk ⟨((1+aC x 24:Nat):Int),false,[],[],nm⟩
     have h2:=Vn hn xs nn k dp (aC x 24) (bX ((1+aC x 24:Nat):Int)) (ib ((1+aC x 24:Nat):Int)) (kH ((1+aC x 24:Nat):Int)) nm x _ (a::r) (by omega) hdp (by omega) (by omega) hx (Nat.ble_eq_true_of_le (by omega)) (Nat.ble_eq_true_of_le (by rw [fe];omega)) (aB e3) (ay e2) (aB (uz e1)) (aB (jx e0)) (rp k) (dm hkl) (ay (dm h30)) (ay (dm hkl)) c29 c30 c32 cp c34
     rw [h] at h2
     exact h2
    ·rcases tf (kH ((1+aC x 24:Nat):Int)) with e3|e3
     ·obtain ⟨w,w1,w2,w3,w4,w5,cw⟩:=Jw (IntKind.wrap .i64 (Int.tdiv x ((24:Nat):Int))) (IntKind.wrap .i64 (Int.tdiv x ((48:Nat):Int)))
      have e3':=of_decide_eq_true e3
      refine ⟨⟨((1+aC x 24:Nat):Int),w.neg,ae w.n,ae w.d,[]⟩,_,hI.snoc ⟨bf w4,bf w5⟩ (DW (by omega) w1 w2 w3 w4 w5) e1,fun nt hn=> ?_⟩
      have h:=ny hk ⟨((1+aC x 24:Nat):Int),w.neg,ae w.n,ae w.d,[]⟩
      have h2:=Vo hn xs nn k dp (aC x 24) (bX ((1+aC x 24:Nat):Int)) (ib ((1+aC x 24:Nat):Int)) (kH ((1+aC x 24:Nat):Int)) w x _ (a::r) (by omega) hdp (by omega) (by omega) hx (Nat.ble_eq_true_of_le (by omega)) (Nat.ble_eq_true_of_le (by rw [fe];omega)) (ay e3) (aB e2) (aB (uz e1)) (aB (jx e0)) (rp k) (dm hkl) (ay (dm h30)) (ay (dm hkl)) c29 c30 c32 c34 cw
      rw [h] at h2
      exact h2
     ·have e2':=of_decide_eq_false e2
      have e3':=of_decide_eq_false e3
      have hop:9≤((1+aC x 24:Nat):Int)∧((1+aC x 24:Nat):Int)≤20:=by
       have:¬ ((1+aC x 24:Nat):Int)<9:=by
        intro hlt
        apply e0
        unfold bX
        rw [if_neg (by omega),if_neg (by omega),if_neg (by omega)]
       omega
      refine ⟨⟨((1+aC x 24:Nat):Int),false,[],[],[]⟩,_,hI.snoc ⟨by simp,by simp⟩ (qH hop) e1,fun nt hn=> ?_⟩
      have h:=ny hk ⟨((1+aC x 24:Nat):Int),false,[],[],[]⟩
      have h2:=Vp hn xs nn k dp (aC x 24) (bX ((1+aC x 24:Nat):Int)) (ib ((1+aC x 24:Nat):Int)) (kH ((1+aC x 24:Nat):Int)) x _ (a::r) (by omega) hdp (by omega) (by omega) hx (Nat.ble_eq_true_of_le (by omega)) (Nat.ble_eq_true_of_le (by rw [fe];omega)) (aB e3) (aB e2) (aB (uz e1)) (aB (jx e0)) (rp k) (dm hkl) (ay (dm h30)) (ay (dm hkl)) c29 c30 c32 c34
      rw [h] at h2
      exact h2
theorem LI (xs:List Int) (nn:Bool):∀ (d k:Nat) (os:List Nd) (dp:Nat),k+d=min xs.length 30→os.length=k→Fb os dp→
  ∃ (os':List Nd) (dp':Nat),Fb os' dp'∧os'.length=min xs.length 30∧∀ nt,85≤nt→aw prog ap [] nt (aa 0 (af f11)) (fun _=> .exit 0) (Pp xs nn) Vi (k,os,dp) (os'.length,os',dp'):=by
 intro d
 induction d with
 | zero=>
  intro k os dp hd hk hI
  refine ⟨os,dp,hI,by omega,fun nt hn=> ?_⟩
  rw [hk]
  refine .done ?_
  obtain ⟨hdl,_⟩:=zI os 0 dp hI.ck
  have hdp:dp<2^62:=by omega
  by_cases hkl:xs.length≤k
  ·cases os with
   |nil=>exact Vu hn xs nn k dp (aB (uz hkl))
   |cons a r=>exact Vr hn xs nn k dp (a::r) (aB (uz hkl))
  ·have h30:30≤k:=by omega
   have hkl:k<xs.length:=by omega
   cases os with
   |nil=>simp only [List.length_nil] at hk;omega
   |cons a r=>exact Vq hn xs nn k dp (a::r) (aB (uz h30)) (ay (dm hkl))
 |succ d ih=>
  intro k os dp hd hk hI
  obtain ⟨y,dp1,h1,h2⟩:=ID xs nn os k dp hI hk (by omega) (by omega)
  obtain ⟨os',dp',h3,h4,h5⟩:=ih (k+1) (os++ [y]) dp1 (by omega) (by simp [hk]) h1
  exact ⟨os',dp',h3,h4,fun nt hn=> .next (h2 nt hn) (h5 nt hn)⟩
theorem X_ {nt:Nat} (hn:85≤nt) (k dp:Nat) (os:List Nd) (hdp:dp<2^62) (h1d:1≤dp) (h0:(Nat.ble (k+1) 1099511627776)=true) (h1:(Nat.ble (k*5) (List.length (aF os)))=true) (h2:lit true (decide (((1:Nat):Int)<(dp:Int)))=true):ah prog ap [] nt (aa 2 (af f11)) ⟨[(3,.ref 0 0 0 k),(4,.int .i64 (dp:Int))],[(0,⟨(aF os),0,false,0,5,true⟩)],.dead,[]⟩ (.normal) ⟨[(3,.ref 0 0 0 (k+1)),(4,.int .i64 (((dp - 1):Nat):Int))],[(0,⟨((List.take (k*5) (aF os))++ [.int .i64 9,.bool false,.str [],.str [],.str []]),0,false,0,5,true⟩)],.dead,[]⟩:=pN 11 [] 1 1 (.k 1 h0 (.c h1 (.k 1 h2 .nil))) (.v 83 (.eq (X2 h1d hdp)) .nil) hn
theorem Ya {nt:Nat} (hn:85≤nt) (k dp:Nat) (os:List Nd) (h0:lit false (decide (((1:Nat):Int)<(dp:Int)))=true):ah prog ap [] nt (aa 2 (af f11)) ⟨[(3,.ref 0 0 0 k),(4,.int .i64 (dp:Int))],[(0,⟨(aF os),0,false,0,5,true⟩)],.dead,[]⟩ (.exit 2) ⟨[(3,.ref 0 0 0 k)],[(0,⟨(aF os),0,false,0,5,true⟩)],.dead,[]⟩:=pN 11 [] 1 0 (.c h0 .nil) (.nil) hn
theorem Vh (xs:List Int) (nn:Bool) (l0:az prog ap [] 85 (.block 0 (.loop (aa 0 (af f11)))) ⟨[(0,.sl (iL xs) xs.length nn),(2,.nilS),(3,.nilS),(4,.int .i64 0),(5,.int .i64 0),(6,.dead),(7,.dead),(8,.dead),(9,.dead),(17,.dead),(35,.dead),(47,.dead),(53,.dead),(70,.dead),(77,.dead)],[],.dead,[]⟩ (.normal) ⟨[(3,.nilS),(4,.int .i64 0)],[],.dead,[]⟩) (c0:CO 36 [.int .i64 1] (.ret (.agg [.bool false,.str (ae 1),.str (ae 1)]))):CO 11 [.sl (iL xs) xs.length nn] (.ret (.own [.int .i64 3,.bool false,.str (ae 1),.str (ae 1),.str []] 1 5)):=pK [0] 3 1 (.n 5 .nil) (.c c0 (.l l0 .nil))
theorem Vg (xs:List Int) (nn:Bool) (k dp k2:Nat) (os es:List Nd) (h0:((dp:Int)==((0:Nat):Int))=false) (l0:az prog ap [] 85 (.block 0 (.loop (aa 0 (af f11)))) ⟨[(0,.sl (iL xs) xs.length nn),(2,.nilS),(3,.nilS),(4,.int .i64 0),(5,.int .i64 0),(6,.dead),(7,.dead),(8,.dead),(9,.dead),(17,.dead),(35,.dead),(47,.dead),(53,.dead),(70,.dead),(77,.dead)],[],.dead,[]⟩ (.normal) ⟨[(3,.ref 0 0 0 k),(4,.int .i64 (dp:Int))],[(0,⟨(aF os),0,false,0,5,true⟩)],.dead,[]⟩) (l1:az prog ap [] 85 (.block 2 (.loop (aa 2 (af f11)))) ⟨[(0,.dead),(2,.dead),(3,.ref 0 0 0 k),(4,.int .i64 (dp:Int)),(5,.dead),(6,.dead),(7,.dead),(8,.dead),(9,.dead),(17,.dead),(35,.dead),(47,.dead),(53,.dead),(70,.bool ((dp:Int)==((0:Nat):Int))),(77,.dead)],[(0,⟨(aF os),0,false,0,5,true⟩)],.dead,[]⟩ (.normal) ⟨[(3,.ref 0 0 0 k2)],[(0,⟨(aF es),0,false,0,5,true⟩)],.dead,[]⟩):CO 11 [.sl (iL xs) xs.length nn] (.ret (.own (List.take (k2*5) (aF es)) k2 5)):=pK [0,2] 1 0 (.c (aB h0) .nil) (.l l1 (.l l0 .nil))
def X9 (p:Nat × List Nd × Nat):St:=⟨[(3,.ref 0 0 0 p.1),(4,.int .i64 (p.2.2:Int))],[(0,⟨aF p.2.1,0,false,0,5,true⟩)],.dead,[]⟩
def Rb (p:Nat × List Nd):St:=⟨[(3,.ref 0 0 0 p.1)],[(0,⟨aF p.2,0,false,0,5,true⟩)],.dead,[]⟩
def iS:Nd:=⟨9,false,[],[],[]⟩
theorem J_ {nt:Nat} (hn:85≤nt):∀ (j k:Nat) (os:List Nd),os.length=k→k+j<2^40→
  aw prog ap [] nt (aa 2 (af f11)) (fun _=> .exit 2) X9 Rb (k,os,j+1) (k+j,os++List.replicate j iS):=by
 intro j
 induction j with
 |zero=>
  intro k os hk hj
  rw [List.replicate_zero,List.append_nil]
  exact .done (Ya hn k 1 os (aB (uz (Nat.le_refl 1))))
 |succ j ih=>
  intro k os hk hj
  have h:=ih (k+1) (os++ [iS]) (by simp [hk]) (by omega)
  rw [show k+1+j=k+(j+1) by omega,List.append_assoc,show [iS]++List.replicate j iS=List.replicate (j+1) iS from rfl] at h
  refine .next ?_ h
  have h2:=X_ hn k (j+1+1) os (by omega) (by omega) (Nat.ble_eq_true_of_le (by omega)) (Nat.ble_eq_true_of_le (by rw [fe];omega)) (ay (dm (by omega)))
  rw [show List.take (k*5) (aF os)++ [AV.int .i64 9,.bool false,.str [],.str [],.str []]=aF (os++ [iS]) from ny hk iS,show j+1+1 - 1=j+1 from rfl] at h2
  exact h2
theorem Fb.adds:∀ (j:Nat),∀ {os:List Nd},Fb os (j+1)→Fb (os++List.replicate j iS) 1
 |0,os,h=>by rw [List.replicate_zero,List.append_nil];exact h
 |j+1,os,h=>by
  have h1:=h.snoc (y:=iS) ⟨by simp [iS],by simp [iS]⟩ (qH ⟨by decide,by decide⟩) (by show 2≤_;omega)
  have h2:=Fb.adds j h1
  rw [List.append_assoc] at h2
  exact h2
def Ia (e:List Nd):Nat:=e.countP (fun x=>x.op==15)
theorem A9 (x:Nd) (r:List Nd):Ia (x::r)=Ia r+(if x.op=15 then 1 else 0):=by
 unfold Ia
 rw [List.countP_cons]
 simp only [beq_iff_eq]
theorem Ib:∀ (r:List Nd) (d e:Nat),cO r d= .inl e→e+Ia r≤d+r.length
 | [],d,e,h=>by
  simp only [cO,Sum.inl.injEq] at h
  subst h
  simp [Ia]
 | x ::r,d,e,h=>by
  simp only [cO] at h
  split at h
  ·split at h
   ·cases h
   ·have h1:=Ib r _ e h
    rw [A9,List.length_cons]
    by_cases h5:x.op=15
    ·have:bX x.op=3:=by rw [h5];rfl
     rw [if_pos h5]
     omega
    ·rw [if_neg h5]
     omega
  ·cases h
theorem FP (xs:List Int) (nn:Bool):∃ e:List Nd,e.length+Ia e≤2*min xs.length 30+1∧e ≠ []∧e.length<60∧bC e=0∧(∀ x ∈ e,x.sm)∧CO 11 [.sl (iL xs) xs.length nn] (.ret (.own (aF e) e.length 5)):=by
 obtain ⟨os,dp,hI,hl,hL⟩:=LI xs nn (min xs.length 30) 0 [] 0 (by omega) rfl ⟨by simp,rfl⟩
 obtain ⟨hd,hd1⟩:=zI os 0 dp hI.ck
 rcases Nat.eq_zero_or_pos os.length with h0|hp
 ·have:os= []:=List.length_eq_zero_iff.1 h0
  subst this
  have hd0:dp=0:=by simpa using hd
  subst hd0
  have h:=Vh xs nn (aw.blk hL (by simp) rfl (aK.of ⟨rfl,rfl,rfl,rfl,trivial⟩) (aK.of ⟨rfl,rfl,trivial⟩)) (sP 1 (by omega))
  refine ⟨[⟨3,false,ae 1,ae 1,[]⟩],by rw [A9,if_neg (by decide)];simp [Ia],by simp,by simp, ?_, ?_,h⟩
  ·have hw:aA ⟨3,false,ae 1,ae 1,[]⟩=0:=nK (w:=⟨false,1,1⟩) (.inr (.inr rfl)) ⟨by decide,by decide,by simp⟩ (by decide) (by decide)
   unfold bC
   simp only [cO,hw]
   rfl
  ·intro x hx
   rw [List.mem_singleton] at hx
   subst hx
   exact ⟨bf (by decide),bf (by decide)⟩
 ·have hne:os ≠ []:=fun h=>by subst h;simp at hp
  have hd1:=hd1 hne
  obtain ⟨j,rfl⟩:∃ j,dp=j+1:=⟨dp - 1,by omega⟩
  have hA:=Fb.adds j hI
  have hel:(os++List.replicate j iS).length=os.length+j:=by simp
  have h:=Vg xs nn os.length (j+1) (os.length+j) os (os++List.replicate j iS) (jx (by omega))
   (aw.blk hL (by simp) rfl (aK.of ⟨rfl,rfl,rfl,rfl,trivial⟩) (by
    cases os with
    |nil=>exact absurd rfl hne
    |cons a r=>exact aK.of ⟨rfl,rfl,trivial⟩))
   (aw.blk (fun nt hn=>J_ hn j os.length os rfl (by omega)) (by simp) rfl (aK.of ⟨rfl,rfl,trivial⟩) (aK.of ⟨rfl,trivial⟩))
  rw [List.take_of_length_le (by rw [fe,hel];omega)] at h
  refine ⟨os++List.replicate j iS, ?_,by simp [hne],by rw [hel];omega, ?_,hA.sm,by rw [hel];exact h⟩
  ·have h1:=Ib _ 0 _ hA.ck
   have h2:=Ib _ 0 _ hI.ck
   have h3:Ia (os++List.replicate j iS)=Ia os:=by
    unfold Ia
    rw [List.countP_append,List.countP_replicate]
    rfl
   rw [hel,h3]
   omega
  unfold bC
  rw [if_neg (by rw [hel];omega),hA.ck]
  rfl
def tL (l:List (Int × Int × Int)):List AV:=l.flatMap fun q=> [.int .i64 q.1,.int .i64 q.2.1,.int .i64 q.2.2]
theorem MF {l:List (Int × Int × Int)} {k:Nat} (h:k<l.length):List.drop (Int.toNat (k:Int)*3) (tL l)= [AV.int .i64 (l.getD k (0,0,0)).1,.int .i64 (l.getD k (0,0,0)).2.1,.int .i64 (l.getD k (0,0,0)).2.2]++tL (l.drop (k+1)):=by
 rw [av]
 induction l generalizing k with
 |nil=>simp at h
 | cons x r ih=>
  cases k with
  |zero=>simp [tL]
  |succ k=>
   have h':k<r.length:=by simpa using h
   have:=ih h'
   show List.drop ((k+1)*3) ([AV.int .i64 x.1,.int .i64 x.2.1,.int .i64 x.2.2]++tL r)=_
   rw [show (k+1)*3=3+k*3 by omega,← List.drop_drop,show List.drop 3 ([AV.int .i64 x.1,.int .i64 x.2.1,.int .i64 x.2.2]++tL r)=tL r from rfl,this]
   simp
theorem WL {nt:Nat} (hn:77≤nt) (ts:List (Int × Int × Int)) (nn:Bool) (k:Nat) (nm:List UInt8) (os bx:List AV) (bn:Nat):ah prog ap [] nt (mM 9 (af f12)) ⟨[(0,.sl (tL ts) ts.length nn),(3,.nilS),(4,.int .i64 (k:Int)),(5,.ptr 0 0 0)],[(0,⟨[.str nm,.int .i64 1,.int .i64 0,.sl bx bn false],0,false,0,0,true⟩)],.dead,[]⟩ (.normal) ⟨[(0,.sl (tL ts) ts.length nn),(3,.ref 0 0 0 1),(4,.int .i64 (k:Int))],[(0,⟨[.str nm,.int .i64 1,.int .i64 0,.sl bx bn false],0,false,0,4,true⟩)],.dead,[]⟩:=pN 12 [] 1 0 (.n 7 .nil) (.nil) hn
theorem WK {nt:Nat} (hn:77≤nt) (ts:List (Int × Int × Int)) (nn:Bool) (k:Nat) (nm:List UInt8) (os bx:List AV) (bn:Nat) (h0:(Nat.ble (k+1) 1099511627776)=true) (h1:(Nat.ble (k*4) (List.length os))=true):ah prog ap [] nt (mM 9 (af f12)) ⟨[(0,.sl (tL ts) ts.length nn),(3,.ref 0 0 0 k),(4,.int .i64 (k:Int)),(5,.ptr 1 0 0)],[(0,⟨os,0,false,0,4,true⟩),(1,⟨[.str nm,.int .i64 1,.int .i64 0,.sl bx bn false],0,false,0,0,true⟩)],.dead,[]⟩ (.normal) ⟨[(0,.sl (tL ts) ts.length nn),(3,.ref 0 0 0 (k+1)),(4,.int .i64 (k:Int))],[(0,⟨((List.take (k*4) os)++ [.str nm,.int .i64 1,.int .i64 0,.sl bx bn false]),0,false,0,4,true⟩)],.dead,[]⟩:=pN 12 [] 0 0 (.k 1 h0 (.c h1 (.n 5 .nil))) (.nil) hn
theorem WR {nt:Nat} (hn:77≤nt) (ts:List (Int × Int × Int)) (nn:Bool) (k k9:Nat) (w1 w2:RQ) (nm:List UInt8) (q:Int × Int × Int) (rx:List AV) (hk:k<2^62) (hk9:k9<4611686018427387904) (hx:(List.drop ((Int.toNat (k:Int))*3) (tL ts))= [AV.int .i64 q.1,.int .i64 q.2.1,.int .i64 q.2.2]++rx) (h0:(decide (((0:Nat):Int)≤(k:Int)))=true) (h1:(decide ((k:Int)<(ts.length:Int)))=true) (h2:lit true (!((Int.tmod q.2.2 ((3:Nat):Int))==((0:Nat):Int)))=true) (h3:lit true (decide ((k:Int)<((6:Nat):Int)))=true) (h4:lit true (decide ((k:Int)<(ts.length:Int)))=true) (c0:CO 33 [.int .i64 (k:Int)] (.ret (.str nm))) (c1:CO 36 [.int .i64 0] (.ret (.agg [.bool false,.str (ae 0),.str (ae 1)]))) (c2:CO 19 [.agg [.int .i64 q.1,.int .i64 q.2.1,.int .i64 3]] (.ret (.agg [.bool w1.neg,.str (ae w1.n),.str (ae w1.d)]))) (c3:CO 29 [.int .i64 q.2.2,.int .i64 9] (.ret (.int .i64 (k9:Int)))) (c4:CO 36 [.int .i64 (((1+k9):Nat):Int)] (.ret (.agg [.bool false,.str (ae (1+k9)),.str (ae 1)]))) (c5:CO 19 [.agg [.int .i64 q.2.1,.int .i64 q.1,.int .i64 3]] (.ret (.agg [.bool w2.neg,.str (ae w2.n),.str (ae w2.d)]))) (l0:az prog ap [] 77 (mM 9 (af f12)) ⟨[(0,.sl (tL ts) ts.length nn),(2,.dead),(3,.nilS),(4,.int .i64 (k:Int)),(5,.ptr 0 0 0),(13,.bool (decide ((k:Int)<((6:Nat):Int)))),(45,.bool (!((Int.tmod q.2.2 ((3:Nat):Int))==((0:Nat):Int))))],[(0,⟨[.str nm,.int .i64 1,.int .i64 0,.ref 1 0 0 2],0,false,0,0,false⟩),(1,⟨[.bool false,.str (ae 0),.str (ae 1),.bool w1.neg,.str (ae w1.n),.str (ae w1.d),.bool false,.str (ae (1+k9)),.str (ae 1),.bool w2.neg,.str (ae w2.n),.str (ae w2.d)],0,false,0,6,true⟩)],.dead,[]⟩ (.normal) ⟨[(0,.sl (tL ts) ts.length nn),(3,.ref 0 0 0 1),(4,.int .i64 (k:Int))],[(0,⟨[.str nm,.int .i64 1,.int .i64 0,.sl [.bool false,.str (ae 0),.str (ae 1),.bool w1.neg,.str (ae w1.n),.str (ae w1.d),.bool false,.str (ae (1+k9)),.str (ae 1),.bool w2.neg,.str (ae w2.n),.str (ae w2.d)] 2 false],0,false,0,4,true⟩)],.dead,[]⟩):ah prog ap [] nt (aa 0 (af f12)) ⟨[(0,.sl (tL ts) ts.length nn),(3,.nilS),(4,.int .i64 (k:Int))],[],.dead,[]⟩ (.normal) ⟨[(0,.sl (tL ts) ts.length nn),(3,.ref 0 0 0 1),(4,.int .i64 (((k+1):Nat):Int))],[(0,⟨[.str nm,.int .i64 1,.int .i64 0,.sl [.bool false,.str (ae 0),.str (ae 1),.bool w1.neg,.str (ae w1.n),.str (ae w1.d),.bool false,.str (ae (1+k9)),.str (ae 1),.bool w2.neg,.str (ae w2.n),.str (ae w2.d)] 2 false],0,false,0,4,true⟩)],.dead,[]⟩:=pN 12 [1009] 4 11 (.k 8 h0 (.c h1 (.k 3 h0 (.c h1 (.k 3 h0 (.c h1 (.k 1 h2 (.k 4 h0 (.c h1 (.k 7 h0 (.c h1 (.k 3 h0 (.c h1 (.k 2 h3 (.c h4 .nil))))))))))))))) (.v 15 (.eq (tT hk)) (.l l0 (.c c5 (.v 63 (.ppt hx) (.v 58 (.ppt hx) (.c c4 (.v 54 (.eq (yF hk9)) (.c c3 (.v 50 (.ppt hx) (.v 41 (.ppt hx) (.c c2 (.v 30 (.ppt hx) (.v 25 (.ppt hx) (.c c1 (.c c0 .nil))))))))))))))) hn
theorem WS {nt:Nat} (hn:77≤nt) (ts:List (Int × Int × Int)) (nn:Bool) (k:Nat) (w1:RQ) (nm:List UInt8) (q:Int × Int × Int) (rx:List AV) (hk:k<2^62) (hx:(List.drop ((Int.toNat (k:Int))*3) (tL ts))= [AV.int .i64 q.1,.int .i64 q.2.1,.int .i64 q.2.2]++rx) (h0:lit false (!((Int.tmod q.2.2 ((3:Nat):Int))==((0:Nat):Int)))=true) (h1:(decide (((0:Nat):Int)≤(k:Int)))=true) (h2:(decide ((k:Int)<(ts.length:Int)))=true) (h3:lit true (decide ((k:Int)<((6:Nat):Int)))=true) (h4:lit true (decide ((k:Int)<(ts.length:Int)))=true) (c0:CO 33 [.int .i64 (k:Int)] (.ret (.str nm))) (c1:CO 36 [.int .i64 0] (.ret (.agg [.bool false,.str (ae 0),.str (ae 1)]))) (c2:CO 19 [.agg [.int .i64 q.1,.int .i64 q.2.1,.int .i64 3]] (.ret (.agg [.bool w1.neg,.str (ae w1.n),.str (ae w1.d)]))) (l0:az prog ap [] 77 (mM 9 (af f12)) ⟨[(0,.sl (tL ts) ts.length nn),(2,.dead),(3,.nilS),(4,.int .i64 (k:Int)),(5,.ptr 0 0 0),(13,.bool (decide ((k:Int)<((6:Nat):Int)))),(45,.bool (!((Int.tmod q.2.2 ((3:Nat):Int))==((0:Nat):Int))))],[(0,⟨[.str nm,.int .i64 1,.int .i64 0,.ref 1 0 0 1],0,false,0,0,false⟩),(1,⟨[.bool false,.str (ae 0),.str (ae 1),.bool w1.neg,.str (ae w1.n),.str (ae w1.d)],0,false,0,6,true⟩)],.dead,[]⟩ (.normal) ⟨[(0,.sl (tL ts) ts.length nn),(3,.ref 0 0 0 1),(4,.int .i64 (k:Int))],[(0,⟨[.str nm,.int .i64 1,.int .i64 0,.sl [.bool false,.str (ae 0),.str (ae 1),.bool w1.neg,.str (ae w1.n),.str (ae w1.d)] 1 false],0,false,0,4,true⟩)],.dead,[]⟩):ah prog ap [] nt (aa 0 (af f12)) ⟨[(0,.sl (tL ts) ts.length nn),(3,.nilS),(4,.int .i64 (k:Int))],[],.dead,[]⟩ (.normal) ⟨[(0,.sl (tL ts) ts.length nn),(3,.ref 0 0 0 1),(4,.int .i64 (((k+1):Nat):Int))],[(0,⟨[.str nm,.int .i64 1,.int .i64 0,.sl [.bool false,.str (ae 0),.str (ae 1),.bool w1.neg,.str (ae w1.n),.str (ae w1.d)] 1 false],0,false,0,4,true⟩)],.dead,[]⟩:=pN 12 [1009] 4 3 (.c h0 (.k 4 h1 (.c h2 (.k 7 h1 (.c h2 (.k 3 h1 (.c h2 (.k 2 h3 (.c h4 .nil))))))))) (.v 15 (.eq (tT hk)) (.l l0 (.v 41 (.ppt hx) (.c c2 (.v 30 (.ppt hx) (.v 25 (.ppt hx) (.c c1 (.c c0 .nil)))))))) hn
theorem WT {nt:Nat} (hn:77≤nt) (ts:List (Int × Int × Int)) (nn:Bool) (k:Nat) (h0:lit false (decide ((k:Int)<(ts.length:Int)))=true):ah prog ap [] nt (aa 0 (af f12)) ⟨[(0,.sl (tL ts) ts.length nn),(3,.nilS),(4,.int .i64 (k:Int))],[],.dead,[]⟩ (.exit 0) ⟨[(3,.nilS)],[],.dead,[]⟩:=pN 12 [1009] 2 0 (.k 1 h0 .nil) (.nil) hn
theorem WM {nt:Nat} (hn:77≤nt) (ts:List (Int × Int × Int)) (nn:Bool) (k k9:Nat) (w1 w2:RQ) (nm:List UInt8) (q:Int × Int × Int) (rx:List AV) (os:List AV) (hk:k<2^62) (hk9:k9<4611686018427387904) (hx:(List.drop ((Int.toNat (k:Int))*3) (tL ts))= [AV.int .i64 q.1,.int .i64 q.2.1,.int .i64 q.2.2]++rx) (h0:(decide (((0:Nat):Int)≤(k:Int)))=true) (h1:(decide ((k:Int)<(ts.length:Int)))=true) (h2:lit true (!((Int.tmod q.2.2 ((3:Nat):Int))==((0:Nat):Int)))=true) (h3:lit true (decide ((k:Int)<((6:Nat):Int)))=true) (h4:lit true (decide ((k:Int)<(ts.length:Int)))=true) (c0:CO 33 [.int .i64 (k:Int)] (.ret (.str nm))) (c1:CO 36 [.int .i64 0] (.ret (.agg [.bool false,.str (ae 0),.str (ae 1)]))) (c2:CO 19 [.agg [.int .i64 q.1,.int .i64 q.2.1,.int .i64 3]] (.ret (.agg [.bool w1.neg,.str (ae w1.n),.str (ae w1.d)]))) (c3:CO 29 [.int .i64 q.2.2,.int .i64 9] (.ret (.int .i64 (k9:Int)))) (c4:CO 36 [.int .i64 (((1+k9):Nat):Int)] (.ret (.agg [.bool false,.str (ae (1+k9)),.str (ae 1)]))) (c5:CO 19 [.agg [.int .i64 q.2.1,.int .i64 q.1,.int .i64 3]] (.ret (.agg [.bool w2.neg,.str (ae w2.n),.str (ae w2.d)]))) (l0:az prog ap [] 77 (mM 9 (af f12)) ⟨[(0,.sl (tL ts) ts.length nn),(2,.dead),(3,.ref 0 0 0 k),(4,.int .i64 (k:Int)),(5,.ptr 1 0 0),(13,.bool (decide ((k:Int)<((6:Nat):Int)))),(45,.bool (!((Int.tmod q.2.2 ((3:Nat):Int))==((0:Nat):Int))))],[(0,⟨os,0,false,0,4,true⟩),(1,⟨[.str nm,.int .i64 1,.int .i64 0,.ref 2 0 0 2],0,false,0,0,false⟩),(2,⟨[.bool false,.str (ae 0),.str (ae 1),.bool w1.neg,.str (ae w1.n),.str (ae w1.d),.bool false,.str (ae (1+k9)),.str (ae 1),.bool w2.neg,.str (ae w2.n),.str (ae w2.d)],0,false,0,6,true⟩)],.dead,[]⟩ (.normal) ⟨[(0,.sl (tL ts) ts.length nn),(3,.ref 0 0 0 (k+1)),(4,.int .i64 (k:Int))],[(0,⟨((List.take (k*4) os)++ [.str nm,.int .i64 1,.int .i64 0,.sl [.bool false,.str (ae 0),.str (ae 1),.bool w1.neg,.str (ae w1.n),.str (ae w1.d),.bool false,.str (ae (1+k9)),.str (ae 1),.bool w2.neg,.str (ae w2.n),.str (ae w2.d)] 2 false]),0,false,0,4,true⟩)],.dead,[]⟩):ah prog ap [] nt (aa 0 (af f12)) ⟨[(0,.sl (tL ts) ts.length nn),(3,.ref 0 0 0 k),(4,.int .i64 (k:Int))],[(0,⟨os,0,false,0,4,true⟩)],.dead,[]⟩ (.normal) ⟨[(0,.sl (tL ts) ts.length nn),(3,.ref 0 0 0 (k+1)),(4,.int .i64 (((k+1):Nat):Int))],[(0,⟨((List.take (k*4) os)++ [.str nm,.int .i64 1,.int .i64 0,.sl [.bool false,.str (ae 0),.str (ae 1),.bool w1.neg,.str (ae w1.n),.str (ae w1.d),.bool false,.str (ae (1+k9)),.str (ae 1),.bool w2.neg,.str (ae w2.n),.str (ae w2.d)] 2 false]),0,false,0,4,true⟩)],.dead,[]⟩:=pN 12 [1009] 4 11 (.k 8 h0 (.c h1 (.k 3 h0 (.c h1 (.k 3 h0 (.c h1 (.k 1 h2 (.k 4 h0 (.c h1 (.k 7 h0 (.c h1 (.k 3 h0 (.c h1 (.k 2 h3 (.c h4 .nil))))))))))))))) (.v 15 (.eq (tT hk)) (.l l0 (.c c5 (.v 63 (.ppt hx) (.v 58 (.ppt hx) (.c c4 (.v 54 (.eq (yF hk9)) (.c c3 (.v 50 (.ppt hx) (.v 41 (.ppt hx) (.c c2 (.v 30 (.ppt hx) (.v 25 (.ppt hx) (.c c1 (.c c0 .nil))))))))))))))) hn
theorem WN {nt:Nat} (hn:77≤nt) (ts:List (Int × Int × Int)) (nn:Bool) (k:Nat) (w1:RQ) (nm:List UInt8) (q:Int × Int × Int) (rx:List AV) (os:List AV) (hk:k<2^62) (hx:(List.drop ((Int.toNat (k:Int))*3) (tL ts))= [AV.int .i64 q.1,.int .i64 q.2.1,.int .i64 q.2.2]++rx) (h0:lit false (!((Int.tmod q.2.2 ((3:Nat):Int))==((0:Nat):Int)))=true) (h1:(decide (((0:Nat):Int)≤(k:Int)))=true) (h2:(decide ((k:Int)<(ts.length:Int)))=true) (h3:lit true (decide ((k:Int)<((6:Nat):Int)))=true) (h4:lit true (decide ((k:Int)<(ts.length:Int)))=true) (c0:CO 33 [.int .i64 (k:Int)] (.ret (.str nm))) (c1:CO 36 [.int .i64 0] (.ret (.agg [.bool false,.str (ae 0),.str (ae 1)]))) (c2:CO 19 [.agg [.int .i64 q.1,.int .i64 q.2.1,.int .i64 3]] (.ret (.agg [.bool w1.neg,.str (ae w1.n),.str (ae w1.d)]))) (l0:az prog ap [] 77 (mM 9 (af f12)) ⟨[(0,.sl (tL ts) ts.length nn),(2,.dead),(3,.ref 0 0 0 k),(4,.int .i64 (k:Int)),(5,.ptr 1 0 0),(13,.bool (decide ((k:Int)<((6:Nat):Int)))),(45,.bool (!((Int.tmod q.2.2 ((3:Nat):Int))==((0:Nat):Int))))],[(0,⟨os,0,false,0,4,true⟩),(1,⟨[.str nm,.int .i64 1,.int .i64 0,.ref 2 0 0 1],0,false,0,0,false⟩),(2,⟨[.bool false,.str (ae 0),.str (ae 1),.bool w1.neg,.str (ae w1.n),.str (ae w1.d)],0,false,0,6,true⟩)],.dead,[]⟩ (.normal) ⟨[(0,.sl (tL ts) ts.length nn),(3,.ref 0 0 0 (k+1)),(4,.int .i64 (k:Int))],[(0,⟨((List.take (k*4) os)++ [.str nm,.int .i64 1,.int .i64 0,.sl [.bool false,.str (ae 0),.str (ae 1),.bool w1.neg,.str (ae w1.n),.str (ae w1.d)] 1 false]),0,false,0,4,true⟩)],.dead,[]⟩):ah prog ap [] nt (aa 0 (af f12)) ⟨[(0,.sl (tL ts) ts.length nn),(3,.ref 0 0 0 k),(4,.int .i64 (k:Int))],[(0,⟨os,0,false,0,4,true⟩)],.dead,[]⟩ (.normal) ⟨[(0,.sl (tL ts) ts.length nn),(3,.ref 0 0 0 (k+1)),(4,.int .i64 (((k+1):Nat):Int))],[(0,⟨((List.take (k*4) os)++ [.str nm,.int .i64 1,.int .i64 0,.sl [.bool false,.str (ae 0),.str (ae 1),.bool w1.neg,.str (ae w1.n),.str (ae w1.d)] 1 false]),0,false,0,4,true⟩)],.dead,[]⟩:=pN 12 [1009] 4 3 (.c h0 (.k 4 h1 (.c h2 (.k 7 h1 (.c h2 (.k 3 h1 (.c h2 (.k 2 h3 (.c h4 .nil))))))))) (.v 15 (.eq (tT hk)) (.l l0 (.v 41 (.ppt hx) (.c c2 (.v 30 (.ppt hx) (.v 25 (.ppt hx) (.c c1 (.c c0 .nil)))))))) hn
theorem WO {nt:Nat} (hn:77≤nt) (ts:List (Int × Int × Int)) (nn:Bool) (k:Nat) (os:List AV) (h0:lit false (decide ((k:Int)<((6:Nat):Int)))=true) (h1:lit true (decide ((k:Int)<(ts.length:Int)))=true):ah prog ap [] nt (aa 0 (af f12)) ⟨[(0,.sl (tL ts) ts.length nn),(3,.ref 0 0 0 k),(4,.int .i64 (k:Int))],[(0,⟨os,0,false,0,4,true⟩)],.dead,[]⟩ (.exit 0) ⟨[(3,.ref 0 0 0 k)],[(0,⟨os,0,false,0,4,true⟩)],.dead,[]⟩:=pN 12 [1009] 2 1 (.c h0 (.c h1 .nil)) (.nil) hn
theorem WP {nt:Nat} (hn:77≤nt) (ts:List (Int × Int × Int)) (nn:Bool) (k:Nat) (os:List AV) (h0:lit false (decide ((k:Int)<(ts.length:Int)))=true):ah prog ap [] nt (aa 0 (af f12)) ⟨[(0,.sl (tL ts) ts.length nn),(3,.ref 0 0 0 k),(4,.int .i64 (k:Int))],[(0,⟨os,0,false,0,4,true⟩)],.dead,[]⟩ (.exit 0) ⟨[(3,.ref 0 0 0 k)],[(0,⟨os,0,false,0,4,true⟩)],.dead,[]⟩:=pN 12 [1009] 2 0 (.k 1 h0 .nil) (.nil) hn
def spN (os:List Sq) (k:Nat):AV:=match os with| []=> .nilS|_::_=> .ref 0 0 0 k
def shN (os:List Sq):Hp:=match os with| []=> []|a::r=> [(0,⟨cR ((a::r).map Sq.c),0,false,0,4,true⟩)]
def Qr (ts:List (Int × Int × Int)) (nn:Bool) (p:Nat × List Sq):St:=⟨[(0,.sl (tL ts) ts.length nn),(3,spN p.2 p.1),(4,.int .i64 (p.1:Int))],shN p.2,.dead,[]⟩
def WU (p:Nat × List Sq):St:=⟨[(3,spN p.2 p.1)],shN p.2,.dead,[]⟩
theorem Vw:ae 0= []:=dH
theorem Pw:ae 1= [1]:=nS (s:= [1]) rfl
theorem ad2 {n:Nat} (h:1≤n∧n≤9):ae n= [UInt8.ofNat n]:=by
 obtain ⟨h1,h2⟩:=h
 match n,h1,h2 with
 |1,_,_=>exact nS (s:= [1]) rfl
 |2,_,_=>exact nS (s:= [2]) rfl
 |3,_,_=>exact nS (s:= [3]) rfl
 |4,_,_=>exact nS (s:= [4]) rfl
 |5,_,_=>exact nS (s:= [5]) rfl
 |6,_,_=>exact nS (s:= [6]) rfl
 |7,_,_=>exact nS (s:= [7]) rfl
 |8,_,_=>exact nS (s:= [8]) rfl
 |9,_,_=>exact nS (s:= [9]) rfl
theorem ES {qs:List Sq} {k:Nat} (h:qs.length=k) (q:Sq):List.take (k*4) (cR (qs.map Sq.c))++ [AV.str q.nm,.int .i64 q.u1,.int .i64 q.u2,.sl (gq q.l) q.l.length false]=cR ((qs++ [q]).map Sq.c):=by
 rw [List.take_of_length_le (by rw [jf,List.length_map];omega),List.map_append]
 unfold cR
 rw [List.flatMap_append]
 rfl
theorem NJ (a b:Int):∃ w:RQ,w.n<2^128∧w.d<2^128∧CO 19 [.agg [.int .i64 a,.int .i64 b,.int .i64 3]] (.ret (.agg [.bool w.neg,.str (ae w.n),.str (ae w.d)])):=by
 have h:=ql a b 3 (fun h=>absurd h (by decide))
 obtain ⟨b1,b2⟩:=Es a b 3
 obtain ⟨b3,b4⟩:=zE (decide (a<((0:Nat):Int))) _ _ b1 b2
 exact ⟨_,b3,b4,h⟩
def ui (w:RQ):Br:=⟨false,ae 0,ae 1,w.neg,ae w.n,ae w.d⟩
def Fj (n:Nat) (w:RQ):Br:=⟨false,ae n,ae 1,w.neg,ae w.n,ae w.d⟩
theorem Nk {w:RQ} (h:w.n<2^128) (h':w.d<2^128):(ui w).sm:=⟨⟨bf (x:=0) (by decide),bf (x:=1) (by decide)⟩,bf h,bf h'⟩
theorem Rn {n:Nat} (hn:n<2^128) {w:RQ} (h:w.n<2^128) (h':w.d<2^128):(Fj n w).sm:=⟨⟨bf hn,bf (x:=1) (by decide)⟩,bf h,bf h'⟩
theorem aef (nm:List UInt8) {w:RQ} (h:w.n<2^128) (h':w.d<2^128):Ni ⟨nm,1,0,[ui w]⟩:=⟨ui w,Nk h h',rfl,Vw,Pw,.inl rfl⟩
theorem aeg (nm:List UInt8) {n:Nat} (hn:1≤n∧n≤9) {w v:RQ} (h:w.n<2^128) (h':w.d<2^128) (k:v.n<2^128) (k':v.d<2^128):Ni ⟨nm,1,0,[ui w,Fj n v]⟩:=
 ⟨ui w,Nk h h',rfl,Vw,Pw,.inr ⟨Fj n v,n,hn.1,hn.2,Rn (by omega) k k',rfl,ad2 hn,Pw,rfl⟩⟩
theorem Jo (ts:List (Int × Int × Int)) (nn:Bool) (qs:List Sq) (k:Nat) (hk:qs.length=k) (h6:k<6) (hkl:k<ts.length) (hM:∀ q ∈ qs,Ni q):
  ∃ q:Sq,Ni q∧∀ nt,77≤nt→ah prog ap [] nt (aa 0 (af f12)) (Qr ts nn (k,qs)) .normal (Qr ts nn (k+1,qs++ [q])):=by
 have hx:=MF hkl
 generalize ts.getD k (0,0,0)=q at hx
 have cp:=zU (k:Int)
 generalize Bz (aC (k:Int) 6)=nm at cp
 obtain ⟨w1,a1,a2,QY⟩:=NJ q.1 q.2.1
 obtain ⟨w2,a3,a4,XP⟩:=NJ q.2.1 q.1
 have c9:=bT q.2.2 9 (by omega) (by omega)
 have h9:aC q.2.2 9<9:=bZ (by omega)
 rcases tf (Int.tmod q.2.2 ((3:Nat):Int)==((0:Nat):Int)) with e0|e0
 ·refine ⟨⟨nm,1,0,[ui w1]⟩,aef nm a1 a2,fun nt hn=> ?_⟩
  cases qs with
  |nil=>
   simp only [List.length_nil] at hk
   subst hk
   exact WS hn ts nn 0 w1 nm q _ (by omega) hx (aG e0) (rp 0) (dm hkl) (ay (dm h6)) (ay (dm hkl)) cp (sP 0 (by omega)) QY (fun nt hn=>ah.ahead 1 ⟨[.bool false,.str (ae 0),.str (ae 1),.bool w1.neg,.str (ae w1.n),.str (ae w1.d)],0,false,0,6,true⟩ (en':= [(0,.sl (tL ts) ts.length nn),(3,.nilS),(4,.int .i64 ((0:Nat):Int)),(5,.ptr 0 0 0)]) (hp':= [(0,⟨[.str nm,.int .i64 1,.int .i64 0,.sl [.bool false,.str (ae 0),.str (ae 1),.bool w1.neg,.str (ae w1.n),.str (ae w1.d)] 1 false],0,false,0,0,true⟩)]) (WL hn ts nn 0 nm [] [.bool false,.str (ae 0),.str (ae 1),.bool w1.neg,.str (ae w1.n),.str (ae w1.d)] 1) (Nat.zero_le _) rfl ⟨Fz.same rfl,Fz.same rfl,Fz.same rfl,Fz.same rfl,trivial⟩ ⟨rfl,⟨rfl,rfl,rfl,rfl,.inr ⟨.cons (.same rfl) (.cons (.same rfl) (.cons (.same rfl) (.cons (.fit .ref (aM.sl _ _ _)) .nil))),fun _=>rfl⟩⟩,by decide,rfl⟩)
  |cons a r=>
   generalize hq:a::r=qs at*
   have h:List.take (k*4) (cR (qs.map Sq.c))++ [AV.str nm,.int .i64 1,.int .i64 0,.sl [.bool false,.str (ae 0),.str (ae 1),.bool w1.neg,.str (ae w1.n),.str (ae w1.d)] 1 false]=cR (List.map Sq.c (qs++ [(⟨nm,1,0,[ui w1]⟩:Sq)])):=ES hk ⟨nm,1,0,[ui w1]⟩
   have h2:=WN hn ts nn k w1 nm q _ (cR (qs.map Sq.c)) (by omega) hx (aG e0) (rp k) (dm hkl) (ay (dm h6)) (ay (dm hkl)) cp (sP 0 (by omega)) QY (fun nt hn=>ah.ahead 2 ⟨[.bool false,.str (ae 0),.str (ae 1),.bool w1.neg,.str (ae w1.n),.str (ae w1.d)],0,false,0,6,true⟩ (en':= [(0,.sl (tL ts) ts.length nn),(3,.ref 0 0 0 k),(4,.int .i64 (k:Int)),(5,.ptr 1 0 0)]) (hp':= [(0,⟨cR (qs.map Sq.c),0,false,0,4,true⟩),(1,⟨[.str nm,.int .i64 1,.int .i64 0,.sl [.bool false,.str (ae 0),.str (ae 1),.bool w1.neg,.str (ae w1.n),.str (ae w1.d)] 1 false],0,false,0,0,true⟩)]) (WK hn ts nn k nm (cR (qs.map Sq.c)) [.bool false,.str (ae 0),.str (ae 1),.bool w1.neg,.str (ae w1.n),.str (ae w1.d)] 1 (Nat.ble_eq_true_of_le (by omega)) (Nat.ble_eq_true_of_le (by rw [jf,List.length_map];omega))) (Nat.zero_le _) rfl ⟨Fz.same rfl,Fz.same rfl,Fz.same rfl,Fz.same rfl,trivial⟩ ⟨rfl,gS.same rfl,by decide,rfl,⟨rfl,rfl,rfl,rfl,.inr ⟨.cons (.same rfl) (.cons (.same rfl) (.cons (.same rfl) (.cons (.fit .ref (aM.sl _ _ _)) .nil))),fun _=>rfl⟩⟩,by decide,rfl⟩)
   rw [h] at h2
   subst hq
   exact h2
 ·refine ⟨⟨nm,1,0,[ui w1,Fj (1+aC q.2.2 9) w2]⟩,aeg nm (by omega) a1 a2 a3 a4,fun nt hn=> ?_⟩
  cases qs with
  |nil=>
   simp only [List.length_nil] at hk
   subst hk
   exact WR hn ts nn 0 (aC q.2.2 9) w1 w2 nm q _ (by omega) (by omega) hx (rp 0) (dm hkl) (cG e0) (ay (dm h6)) (ay (dm hkl)) cp (sP 0 (by omega)) QY c9 (sP (1+aC q.2.2 9) (by omega)) XP (fun nt hn=>ah.ahead 1 ⟨[.bool false,.str (ae 0),.str (ae 1),.bool w1.neg,.str (ae w1.n),.str (ae w1.d),.bool false,.str (ae (1+aC q.2.2 9)),.str (ae 1),.bool w2.neg,.str (ae w2.n),.str (ae w2.d)],0,false,0,6,true⟩ (en':= [(0,.sl (tL ts) ts.length nn),(3,.nilS),(4,.int .i64 ((0:Nat):Int)),(5,.ptr 0 0 0)]) (hp':= [(0,⟨[.str nm,.int .i64 1,.int .i64 0,.sl [.bool false,.str (ae 0),.str (ae 1),.bool w1.neg,.str (ae w1.n),.str (ae w1.d),.bool false,.str (ae (1+aC q.2.2 9)),.str (ae 1),.bool w2.neg,.str (ae w2.n),.str (ae w2.d)] 2 false],0,false,0,0,true⟩)]) (WL hn ts nn 0 nm [] [.bool false,.str (ae 0),.str (ae 1),.bool w1.neg,.str (ae w1.n),.str (ae w1.d),.bool false,.str (ae (1+aC q.2.2 9)),.str (ae 1),.bool w2.neg,.str (ae w2.n),.str (ae w2.d)] 2) (Nat.zero_le _) rfl ⟨Fz.same rfl,Fz.same rfl,Fz.same rfl,Fz.same rfl,trivial⟩ ⟨rfl,⟨rfl,rfl,rfl,rfl,.inr ⟨.cons (.same rfl) (.cons (.same rfl) (.cons (.same rfl) (.cons (.fit .ref (aM.sl _ _ _)) .nil))),fun _=>rfl⟩⟩,by decide,rfl⟩)
  |cons a r=>
   generalize hq:a::r=qs at*
   have h:List.take (k*4) (cR (qs.map Sq.c))++ [AV.str nm,.int .i64 1,.int .i64 0,.sl [.bool false,.str (ae 0),.str (ae 1),.bool w1.neg,.str (ae w1.n),.str (ae w1.d),.bool false,.str (ae (1+aC q.2.2 9)),.str (ae 1),.bool w2.neg,.str (ae w2.n),.str (ae w2.d)] 2 false]=cR (List.map Sq.c (qs++ [(⟨nm,1,0,[ui w1,Fj (1+aC q.2.2 9) w2]⟩:Sq)])):=ES hk ⟨nm,1,0,[ui w1,Fj (1+aC q.2.2 9) w2]⟩
   have h2:=WM hn ts nn k (aC q.2.2 9) w1 w2 nm q _ (cR (qs.map Sq.c)) (by omega) (by omega) hx (rp k) (dm hkl) (cG e0) (ay (dm h6)) (ay (dm hkl)) cp (sP 0 (by omega)) QY c9 (sP (1+aC q.2.2 9) (by omega)) XP (fun nt hn=>ah.ahead 2 ⟨[.bool false,.str (ae 0),.str (ae 1),.bool w1.neg,.str (ae w1.n),.str (ae w1.d),.bool false,.str (ae (1+aC q.2.2 9)),.str (ae 1),.bool w2.neg,.str (ae w2.n),.str (ae w2.d)],0,false,0,6,true⟩ (en':= [(0,.sl (tL ts) ts.length nn),(3,.ref 0 0 0 k),(4,.int .i64 (k:Int)),(5,.ptr 1 0 0)]) (hp':= [(0,⟨cR (qs.map Sq.c),0,false,0,4,true⟩),(1,⟨[.str nm,.int .i64 1,.int .i64 0,.sl [.bool false,.str (ae 0),.str (ae 1),.bool w1.neg,.str (ae w1.n),.str (ae w1.d),.bool false,.str (ae (1+aC q.2.2 9)),.str (ae 1),.bool w2.neg,.str (ae w2.n),.str (ae w2.d)] 2 false],0,false,0,0,true⟩)]) (WK hn ts nn k nm (cR (qs.map Sq.c)) [.bool false,.str (ae 0),.str (ae 1),.bool w1.neg,.str (ae w1.n),.str (ae w1.d),.bool false,.str (ae (1+aC q.2.2 9)),.str (ae 1),.bool w2.neg,.str (ae w2.n),.str (ae w2.d)] 2 (Nat.ble_eq_true_of_le (by omega)) (Nat.ble_eq_true_of_le (by rw [jf,List.length_map];omega))) (Nat.zero_le _) rfl ⟨Fz.same rfl,Fz.same rfl,Fz.same rfl,Fz.same rfl,trivial⟩ ⟨rfl,gS.same rfl,by decide,rfl,⟨rfl,rfl,rfl,rfl,.inr ⟨.cons (.same rfl) (.cons (.same rfl) (.cons (.same rfl) (.cons (.fit .ref (aM.sl _ _ _)) .nil))),fun _=>rfl⟩⟩,by decide,rfl⟩)
   rw [h] at h2
   subst hq
   exact h2
theorem Mw (ts:List (Int × Int × Int)) (nn:Bool):∀ (d k:Nat) (qs:List Sq),k+d=min ts.length 6→qs.length=k→(∀ q ∈ qs,Ni q)→
  ∃ qs':List Sq,(∀ q ∈ qs',Ni q)∧qs'.length=min ts.length 6∧∀ nt,77≤nt→aw prog ap [] nt (aa 0 (af f12)) (fun _=> .exit 0) (Qr ts nn) WU (k,qs) (qs'.length,qs'):=by
 intro d
 induction d with
 | zero=>
  intro k qs hd hk hM
  refine ⟨qs,hM,by omega,fun nt hn=> ?_⟩
  rw [hk]
  refine .done ?_
  by_cases hkl:ts.length≤k
  ·cases qs with
   |nil=>exact WT hn ts nn k (aB (uz hkl))
   |cons a r=>exact WP hn ts nn k (cR ((a::r).map Sq.c)) (aB (uz hkl))
  ·have h6:6≤k:=by omega
   have hkl:k<ts.length:=by omega
   cases qs with
   |nil=>simp only [List.length_nil] at hk;omega
   |cons a r=>exact WO hn ts nn k (cR ((a::r).map Sq.c)) (aB (uz h6)) (ay (dm hkl))
 | succ d ih=>
  intro k qs hd hk hM
  obtain ⟨q,h1,h2⟩:=Jo ts nn qs k hk (by omega) (by omega) hM
  obtain ⟨qs',h3,h4,h5⟩:=ih (k+1) (qs++ [q]) (by omega) (by simp [hk]) (fun x hx=>by
   rcases List.mem_append.1 hx with hx|hx
   ·exact hM x hx
   ·rw [List.mem_singleton] at hx;exact hx ▸ h1)
  exact ⟨qs',h3,h4,fun nt hn=> .next (h2 nt hn) (h5 nt hn)⟩
theorem Wy (ts:List (Int × Int × Int)) (nn:Bool) (l0:az prog ap [] 77 (.block 0 (.loop (aa 0 (af f12)))) ⟨[(0,.sl (tL ts) ts.length nn),(2,.nilS),(3,.nilS),(4,.int .i64 0),(5,.dead),(13,.dead),(45,.dead)],[],.dead,[]⟩ (.normal) ⟨[(3,.nilS)],[],.dead,[]⟩):CO 12 [.sl (tL ts) ts.length nn] (.ret (.nilS)):=pK [0] 0 0 .nil (.l l0 .nil)
theorem Wx (ts:List (Int × Int × Int)) (nn:Bool) (k:Nat) (os:List AV) (l0:az prog ap [] 77 (.block 0 (.loop (aa 0 (af f12)))) ⟨[(0,.sl (tL ts) ts.length nn),(2,.nilS),(3,.nilS),(4,.int .i64 0),(5,.dead),(13,.dead),(45,.dead)],[],.dead,[]⟩ (.normal) ⟨[(3,.ref 0 0 0 k)],[(0,⟨os,0,false,0,4,true⟩)],.dead,[]⟩):CO 12 [.sl (tL ts) ts.length nn] (.ret (.own (List.take (k*4) os) k 4)):=pK [0] 0 0 .nil (.l l0 .nil)
theorem Gg (ts:List (Int × Int × Int)) (nn:Bool):∃ qs:List Sq,(∀ q ∈ qs,Ni q)∧qs.length≤6∧CO 12 [.sl (tL ts) ts.length nn] (.ret (match qs with| []=> .nilS|_::_=> .own (cR (qs.map Sq.c)) qs.length 4)):=by
 obtain ⟨qs,h1,h2,hL⟩:=Mw ts nn (min ts.length 6) 0 [] (by omega) rfl (by simp)
 refine ⟨qs,h1,by omega, ?_⟩
 cases qs with
 |nil=>exact Wy ts nn (aw.blk hL (by simp) rfl (aK.of ⟨rfl,rfl,rfl,trivial⟩) (aK.of ⟨rfl,trivial⟩))
 |cons a r=>
  have h:=Wx ts nn (a::r).length (cR ((a::r).map Sq.c)) (aw.blk hL (by simp) rfl (aK.of ⟨rfl,rfl,rfl,trivial⟩) (aK.of ⟨rfl,trivial⟩))
  rw [List.take_of_length_le (by rw [jf,List.length_map];omega)] at h
  exact h
theorem nm0:CO 29 [.int .i64 0,.int .i64 6] (.ret (.int .i64 0)):=cK (.nil)
theorem nm1:CO 33 [.int .i64 0] (.ret (.str [97])):=cK (.c nm0 .nil)
theorem nm2:CO 29 [.int .i64 1,.int .i64 6] (.ret (.int .i64 1)):=cK (.nil)
theorem nm3:CO 33 [.int .i64 1] (.ret (.str [98])):=cK (.c nm2 .nil)
theorem nm4:CO 29 [.int .i64 2,.int .i64 6] (.ret (.int .i64 2)):=cK (.nil)
theorem nm5:CO 33 [.int .i64 2] (.ret (.str [116,97,120])):=cK (.c nm4 .nil)
theorem nm6:CO 29 [.int .i64 3,.int .i64 6] (.ret (.int .i64 3)):=cK (.nil)
theorem nm7:CO 33 [.int .i64 3] (.ret (.str [119,97,103,101])):=cK (.c nm6 .nil)
theorem nm8:CO 29 [.int .i64 4,.int .i64 6] (.ret (.int .i64 4)):=cK (.nil)
theorem nm9:CO 33 [.int .i64 4] (.ret (.str [120,95,49])):=cK (.c nm8 .nil)
theorem ad3:CO 29 [.int .i64 5,.int .i64 6] (.ret (.int .i64 5)):=cK (.nil)
theorem ad4:CO 33 [.int .i64 5] (.ret (.str [97,50,51,52,53,54,55,56,57,48,49,50,51,52,53,54,55,56,57,48])):=cK (.c ad3 .nil)
theorem Vy:CO 13 [] (.ret (.own [.str [111,116,104,101,114],.str [97],.str [98],.str [116,97,120],.str [119,97,103,101],.str [120,95,49],.str [97,50,51,52,53,54,55,56,57,48,49,50,51,52,53,54,55,56,57,48]] 7 1)):=cK (.c ad4 (.c nm9 (.c nm7 (.c nm5 (.c nm3 (.c nm1 .nil))))))
theorem BV (e:List Nd):List.take (e.length*5) (aF e)=aF e:=List.take_of_length_le (by rw [fe];omega)
theorem Xg (qs:List Sq):List.take (qs.length*4) (cR (qs.map Sq.c))=cR (qs.map Sq.c):=List.take_of_length_le (by rw [jf,List.length_map];omega)
theorem CJ:∀ n:Nat,1≤n∧n≤9→CO 129 [.agg [.bool false,.str [],.str [1]],.agg [.bool false,.str [UInt8.ofNat n],.str [1]]] (.ret (.int .i64 (-1))):=fun n h=>OI n h
def xo (e:List Nd) (qs:List Sq) (op:Int) (nm:List UInt8):Nat:=dG (GY gu) (G7 gu) e (qs.map Sq.c) op nm
theorem aeF {x:List Value} (h:cV [.int .i64] x):∃ a:Int,x.map jH= [AV.int .i64 a]:=by
 rcases h with _|@⟨_,a,_,_,h⟩|_|_
 cases h
 exact ⟨a,rfl⟩
theorem XR (l:List Int):(l.flatMap fun a=> [AV.int .i64 a])=iL l:=by
 induction l with
 |nil=>rfl
 |cons a r ih=>rw [List.flatMap_cons,ih];rfl
theorem ae3 {x:List Value} (h:cV [.int .i64,.int .i64,.int .i64] x):∃ q:Int × Int × Int,x.map jH= [AV.int .i64 q.1,.int .i64 q.2.1,.int .i64 q.2.2]:=by
 rcases h with _|@⟨_,a,_,_,h⟩|_|_
 rcases h with _|@⟨_,b,_,_,h⟩|_|_
 rcases h with _|@⟨_,c,_,_,h⟩|_|_
 cases h
 exact ⟨(a,b,c),rfl⟩
end Go.Proofs.Tryz
set_option maxRecDepth 100000
set_option linter.unusedVariables false
open Go AM
namespace Go.Proofs.Tryz
theorem adX {nt:Nat} (hn:92≤nt) (u v o:List Nat) (i j c a x y:Nat) (h61:AV.int .i64 (AV.toInt (List.headD (List.drop ((0+(Int.toNat (((i+j):Nat):Int)))*1) (ag o)) .dead))= .int .i64 (x:Int)) (h65:AV.int .i64 (AV.toInt (List.headD (List.drop ((Int.toNat (i:Int))*1) (ag u)) .dead))= .int .i64 (a:Int)) (h69:AV.int .i64 (AV.toInt (List.headD (List.drop ((Int.toNat (j:Int))*1) (ag v)) .dead))= .int .i64 (y:Int)) (h70:AV.int .i64 (IntKind.wrap .i64 ((a:Int)*(y:Int)))= .int .i64 (((a*y):Nat):Int)) (h71:AV.int .i64 (IntKind.wrap .i64 ((x:Int)+(((a*y):Nat):Int)))= .int .i64 (((x+a*y):Nat):Int)) (h73:AV.int .i64 (IntKind.wrap .i64 ((((x+a*y):Nat):Int)+(c:Int)))= .int .i64 (((x+a*y+c):Nat):Int)) (h59:AV.int .i64 (IntKind.wrap .i64 ((i:Int)+(j:Int)))= .int .i64 (((i+j):Nat):Int)) (h79:AV.int .i64 (Int.tmod (((x+a*y+c):Nat):Int) ((16777216:Nat):Int))= .int .i64 ((((x+a*y+c) % 16777216):Nat):Int)) (h82:AV.int .i64 (IntKind.wrap .i64 (Int.tdiv (((x+a*y+c):Nat):Int) ((16777216:Nat):Int)))= .int .i64 ((((x+a*y+c) / 16777216):Nat):Int)) (h55:AV.int .i64 (IntKind.wrap .i64 ((j:Int)+((1:Nat):Int)))= .int .i64 (((j+1):Nat):Int)) (b0:(Nat.ble (((0+(Int.toNat (((i+j):Nat):Int)))*1)+1) (List.length (ag o)))=true) (b1:(decide (((0:Nat):Int)≤(((i+j):Nat):Int)))=true) (b2:(decide ((((i+j):Nat):Int)<(o.length:Int)))=true) (b3:(chk (.int .i64) (List.headD (List.drop ((Int.toNat (j:Int))*1) (ag v)) .dead))=true) (b4:(decide (((0:Nat):Int)≤(j:Int)))=true) (b6:(chk (.int .i64) (List.headD (List.drop ((Int.toNat (i:Int))*1) (ag u)) .dead))=true) (b7:(decide (((0:Nat):Int)≤(i:Int)))=true) (b8:(decide ((i:Int)<(u.length:Int)))=true) (b9:(chk (.int .i64) (List.headD (List.drop ((0+(Int.toNat (((i+j):Nat):Int)))*1) (ag o)) .dead))=true) (b10:(decide ((j:Int)<(v.length:Int)))=true):ah prog ap [] nt (aa 2 (af f50)) ⟨[(9,.sl (ag u) u.length false),(10,.sl (ag v) v.length false),(11,.ref 0 0 0 o.length),(12,.int .i64 (i:Int)),(13,.int .i64 (c:Int)),(14,.int .i64 (j:Int))],[(0,⟨(ag o),0,false,0,1,true⟩)],.dead,[]⟩ (.normal) ⟨[(9,.sl (ag u) u.length false),(10,.sl (ag v) v.length false),(11,.ref 0 0 0 o.length),(12,.int .i64 (i:Int)),(13,.int .i64 ((((x+a*y+c) / 16777216):Nat):Int)),(14,.int .i64 (((j+1):Nat):Int))],[(0,⟨(List.take ((0+(Int.toNat (((i+j):Nat):Int)))*1) (ag o)++ [.int .i64 ((((x+a*y+c) % 16777216):Nat):Int)]++List.drop (((0+(Int.toNat (((i+j):Nat):Int)))*1)+1) (ag o)),0,false,0,1,true⟩)],.dead,[]⟩:=pN 50 [] 1 1 (.k 1 b0 (.c b1 (.c b2 (.k 1 b3 (.c b4 (.c b10 (.c b6 (.c b7 (.c b8 (.c b9 (.c b1 (.c b2 (.c (ay b10) .nil))))))))))))) (.v 55 (.eq h55) (.v 82 (.eq h82) (.v 79 (.eq h79) (.v 77 (.eq h59) (.v 73 (.eq h73) (.v 71 (.eq h71) (.v 70 (.eq h70) (.v 69 (.eq h69) (.v 65 (.eq h65) (.v 61 (.eq h61) (.v 59 (.eq h59) .nil))))))))))) hn
theorem adY {nt:Nat} (hn:92≤nt) (u v o:List Nat) (i j c a x y:Nat) (b0:(decide ((j:Int)<(v.length:Int)))=false):ah prog ap [] nt (aa 2 (af f50)) ⟨[(9,.sl (ag u) u.length false),(10,.sl (ag v) v.length false),(11,.ref 0 0 0 o.length),(12,.int .i64 (i:Int)),(13,.int .i64 (c:Int)),(14,.int .i64 (j:Int))],[(0,⟨(ag o),0,false,0,1,true⟩)],.dead,[]⟩ (.exit 2) ⟨[(9,.sl (ag u) u.length false),(10,.sl (ag v) v.length false),(11,.ref 0 0 0 o.length),(12,.int .i64 (i:Int)),(13,.int .i64 (c:Int))],[(0,⟨(ag o),0,false,0,1,true⟩)],.dead,[]⟩:=pN 50 [] 1 0 (.c (aB b0) .nil) (.nil) hn
theorem adZ {nt:Nat} (hn:92≤nt) (u v o o2:List Nat) (i c2:Nat) (h87:AV.int .i64 (IntKind.wrap .i64 ((i:Int)+(v.length:Int)))= .int .i64 (((i+v.length):Nat):Int)) (h49:AV.int .i64 (IntKind.wrap .i64 ((i:Int)+((1:Nat):Int)))= .int .i64 (((i+1):Nat):Int)) (b0:(Nat.ble (((0+(Int.toNat (((i+v.length):Nat):Int)))*1)+1) (List.length (ag o2)))=true) (b1:(decide (((0:Nat):Int)≤(((i+v.length):Nat):Int)))=true) (b2:(decide ((((i+v.length):Nat):Int)<(o2.length:Int)))=true) (b3:(decide ((i:Int)<(u.length:Int)))=true) (l2:az prog ap [] 92 (.block 2 (.loop (aa 2 (af f50)))) ⟨[(0,.dead),(1,.dead),(4,.dead),(5,.dead),(6,.dead),(7,.dead),(8,.dead),(9,.sl (ag u) u.length false),(10,.sl (ag v) v.length false),(11,.ref 0 0 0 o.length),(12,.int .i64 (i:Int)),(13,.int .i64 0),(14,.int .i64 0),(15,.dead),(29,.dead),(47,.bool (decide ((i:Int)<(u.length:Int)))),(53,.dead)],[(0,⟨(ag o),0,false,0,1,true⟩)],.dead,[]⟩ (.normal) ⟨[(9,.sl (ag u) u.length false),(10,.sl (ag v) v.length false),(11,.ref 0 0 0 o2.length),(12,.int .i64 (i:Int)),(13,.int .i64 (c2:Int))],[(0,⟨(ag o2),0,false,0,1,true⟩)],.dead,[]⟩):ah prog ap [] nt (aa 0 (af f50)) ⟨[(9,.sl (ag u) u.length false),(10,.sl (ag v) v.length false),(11,.ref 0 0 0 o.length),(12,.int .i64 (i:Int))],[(0,⟨(ag o),0,false,0,1,true⟩)],.dead,[]⟩ (.normal) ⟨[(9,.sl (ag u) u.length false),(10,.sl (ag v) v.length false),(11,.ref 0 0 0 o2.length),(12,.int .i64 (((i+1):Nat):Int))],[(0,⟨(List.take ((0+(Int.toNat (((i+v.length):Nat):Int)))*1) (ag o2)++ [.int .i64 (c2:Int)]++List.drop (((0+(Int.toNat (((i+v.length):Nat):Int)))*1)+1) (ag o2)),0,false,0,1,true⟩)],.dead,[]⟩:=pN 50 [2] 1 1 (.c b0 (.c b1 (.c b2 (.c (ay b3) .nil)))) (.v 49 (.eq h49) (.v 87 (.eq h87) (.l l2 .nil))) hn
theorem ad0 {nt:Nat} (hn:92≤nt) (u v o o2:List Nat) (i c2:Nat) (b0:(decide ((i:Int)<(u.length:Int)))=false):ah prog ap [] nt (aa 0 (af f50)) ⟨[(9,.sl (ag u) u.length false),(10,.sl (ag v) v.length false),(11,.ref 0 0 0 o.length),(12,.int .i64 (i:Int))],[(0,⟨(ag o),0,false,0,1,true⟩)],.dead,[]⟩ (.exit 0) ⟨[(11,.ref 0 0 0 o.length)],[(0,⟨(ag o),0,false,0,1,true⟩)],.dead,[]⟩:=pN 50 [] 1 0 (.c (aB b0) .nil) (.nil) hn
theorem adU (s t:List UInt8) (x y z:Nat) (o3:List Nat) (b0:(decide (((0:Nat):Int)≤(IntKind.wrap .i64 ((((aj (ac s)).length:Nat):Int)+(((aj (ac t)).length:Nat):Int)))))=true) (b1:(decide ((IntKind.wrap .i64 ((((aj (ac s)).length:Nat):Int)+(((aj (ac t)).length:Nat):Int)))=(IntKind.wrap .i64 ((((aj (ac s)).length:Nat):Int)+(((aj (ac t)).length:Nat):Int)))))=true) (b2:(decide ((IntKind.wrap .i64 ((((aj (ac s)).length:Nat):Int)+(((aj (ac t)).length:Nat):Int)))≤((1099511627776:Nat):Int)))=true) (s0:CO 77 [.str s,.int .i64 3] (.ret (.tup [.int .i64 (x:Int),.bool true]))) (s1:CO 77 [.str t,.int .i64 4] (.ret (.tup [.int .i64 (y:Int),.bool false]))) (o0:CO 78 [.str s] (.ret (.sl (ag (aj (ac s))) (aj (ac s)).length false))) (o1:CO 78 [.str t] (.ret (.sl (ag (aj (ac t))) (aj (ac t)).length false))) (cn:CO 79 [.sl (List.take (o3.length*1) (ag o3)) o3.length true] (.ret (.str (ae z)))) (l0:az prog ap [] 92 (.block 0 (.loop (aa 0 (af f50)))) ⟨[(0,.str s),(1,.str t),(4,.str []),(5,.int .i64 (x:Int)),(6,.bool true),(7,.int .i64 (y:Int)),(8,.bool false),(9,.sl (ag (aj (ac s))) (aj (ac s)).length false),(10,.sl (ag (aj (ac t))) (aj (ac t)).length false),(11,.ref 0 0 0 (Int.toNat (IntKind.wrap .i64 ((((aj (ac s)).length:Nat):Int)+(((aj (ac t)).length:Nat):Int))))),(12,.int .i64 0),(13,.dead),(14,.dead),(15,.dead),(29,.bool false),(47,.dead),(53,.dead)],[(0,⟨(dV (Int.toNat (IntKind.wrap .i64 ((((aj (ac s)).length:Nat):Int)+(((aj (ac t)).length:Nat):Int)))) [.int .i64 0]),0,false,0,1,true⟩)],.dead,[]⟩ (.normal) ⟨[(11,.ref 0 0 0 o3.length)],[(0,⟨(ag o3),0,false,0,1,true⟩)],.dead,[]⟩):CO 50 [.str s,.str t] (.ret (.str (ae z))):=pK [0] 2 1 (.c b0 (.c b1 (.c b2 (.n 2 .nil)))) (.c cn (.l l0 (.c o1 (.c o0 (.c s1 (.c s0 .nil))))))
theorem adV (s t:List UInt8) (x y z:Nat) (o3:List Nat) (b0:(decide (((0:Nat):Int)≤(IntKind.wrap .i64 ((((aj (ac s)).length:Nat):Int)+(((aj (ac t)).length:Nat):Int)))))=true) (b1:(decide ((IntKind.wrap .i64 ((((aj (ac s)).length:Nat):Int)+(((aj (ac t)).length:Nat):Int)))=(IntKind.wrap .i64 ((((aj (ac s)).length:Nat):Int)+(((aj (ac t)).length:Nat):Int)))))=true) (b2:(decide ((IntKind.wrap .i64 ((((aj (ac s)).length:Nat):Int)+(((aj (ac t)).length:Nat):Int)))≤((1099511627776:Nat):Int)))=true) (s0:CO 77 [.str s,.int .i64 3] (.ret (.tup [.int .i64 (x:Int),.bool false]))) (s1:CO 77 [.str t,.int .i64 4] (.ret (.tup [.int .i64 (y:Int),.bool true]))) (o0:CO 78 [.str s] (.ret (.sl (ag (aj (ac s))) (aj (ac s)).length false))) (o1:CO 78 [.str t] (.ret (.sl (ag (aj (ac t))) (aj (ac t)).length false))) (cn:CO 79 [.sl (List.take (o3.length*1) (ag o3)) o3.length true] (.ret (.str (ae z)))) (l0:az prog ap [] 92 (.block 0 (.loop (aa 0 (af f50)))) ⟨[(0,.str s),(1,.str t),(4,.str []),(5,.int .i64 (x:Int)),(6,.bool false),(7,.int .i64 (y:Int)),(8,.bool true),(9,.sl (ag (aj (ac s))) (aj (ac s)).length false),(10,.sl (ag (aj (ac t))) (aj (ac t)).length false),(11,.ref 0 0 0 (Int.toNat (IntKind.wrap .i64 ((((aj (ac s)).length:Nat):Int)+(((aj (ac t)).length:Nat):Int))))),(12,.int .i64 0),(13,.dead),(14,.dead),(15,.dead),(29,.bool false),(47,.dead),(53,.dead)],[(0,⟨(dV (Int.toNat (IntKind.wrap .i64 ((((aj (ac s)).length:Nat):Int)+(((aj (ac t)).length:Nat):Int)))) [.int .i64 0]),0,false,0,1,true⟩)],.dead,[]⟩ (.normal) ⟨[(11,.ref 0 0 0 o3.length)],[(0,⟨(ag o3),0,false,0,1,true⟩)],.dead,[]⟩):CO 50 [.str s,.str t] (.ret (.str (ae z))):=pK [0] 2 0 (.c b0 (.c b1 (.c b2 (.n 2 .nil)))) (.c cn (.l l0 (.c o1 (.c o0 (.c s1 (.c s0 .nil))))))
theorem adW (s t:List UInt8) (x y z:Nat) (o3:List Nat) (b0:(decide (((0:Nat):Int)≤(IntKind.wrap .i64 ((((aj (ac s)).length:Nat):Int)+(((aj (ac t)).length:Nat):Int)))))=true) (b1:(decide ((IntKind.wrap .i64 ((((aj (ac s)).length:Nat):Int)+(((aj (ac t)).length:Nat):Int)))=(IntKind.wrap .i64 ((((aj (ac s)).length:Nat):Int)+(((aj (ac t)).length:Nat):Int)))))=true) (b2:(decide ((IntKind.wrap .i64 ((((aj (ac s)).length:Nat):Int)+(((aj (ac t)).length:Nat):Int)))≤((1099511627776:Nat):Int)))=true) (s0:CO 77 [.str s,.int .i64 3] (.ret (.tup [.int .i64 (x:Int),.bool false]))) (s1:CO 77 [.str t,.int .i64 4] (.ret (.tup [.int .i64 (y:Int),.bool false]))) (o0:CO 78 [.str s] (.ret (.sl (ag (aj (ac s))) (aj (ac s)).length false))) (o1:CO 78 [.str t] (.ret (.sl (ag (aj (ac t))) (aj (ac t)).length false))) (cn:CO 79 [.sl (List.take (o3.length*1) (ag o3)) o3.length true] (.ret (.str (ae z)))) (l0:az prog ap [] 92 (.block 0 (.loop (aa 0 (af f50)))) ⟨[(0,.str s),(1,.str t),(4,.str []),(5,.int .i64 (x:Int)),(6,.bool false),(7,.int .i64 (y:Int)),(8,.bool false),(9,.sl (ag (aj (ac s))) (aj (ac s)).length false),(10,.sl (ag (aj (ac t))) (aj (ac t)).length false),(11,.ref 0 0 0 (Int.toNat (IntKind.wrap .i64 ((((aj (ac s)).length:Nat):Int)+(((aj (ac t)).length:Nat):Int))))),(12,.int .i64 0),(13,.dead),(14,.dead),(15,.dead),(29,.bool false),(47,.dead),(53,.dead)],[(0,⟨(dV (Int.toNat (IntKind.wrap .i64 ((((aj (ac s)).length:Nat):Int)+(((aj (ac t)).length:Nat):Int)))) [.int .i64 0]),0,false,0,1,true⟩)],.dead,[]⟩ (.normal) ⟨[(11,.ref 0 0 0 o3.length)],[(0,⟨(ag o3),0,false,0,1,true⟩)],.dead,[]⟩):CO 50 [.str s,.str t] (.ret (.str (ae z))):=pK [0] 2 0 (.c b0 (.c b1 (.c b2 (.n 2 .nil)))) (.c cn (.l l0 (.c o1 (.c o0 (.c s1 (.c s0 .nil))))))
def wY (a:Nat):List Nat→List Nat→Nat→List Nat × Nat
 |x::m,y::v,c=>((x+a*y+c) % 16777216::(wY a m v ((x+a*y+c) / 16777216)).1,(wY a m v ((x+a*y+c) / 16777216)).2)
 |_,_,c=>([],c)
theorem Bn {a x y c:Nat} (ha:a<16777216) (hx:x<16777216) (hy:y<16777216) (hc:c<16777216):a*y<281474976710656∧x+a*y+c<281474976710656∧(x+a*y+c) / 16777216<16777216:=by
 have h1:a*y≤16777215*16777215:=Nat.mul_le_mul (by omega) (by omega)
 omega
theorem zJ {a:Nat} (ha:a<16777216):∀ (m v:List Nat) (c:Nat),m.length=v.length→c<16777216→aU m→aU v→(wY a m v c).2<16777216∧aU (wY a m v c).1∧(wY a m v c).1.length=v.length∧bJ (wY a m v c).1+16777216^v.length*(wY a m v c).2=bJ m+a*bJ v+c
 | [],[],c,_,hc,_,_=> ⟨hc,aU.nil,rfl,by simp [wY,bJ]⟩
 |x::m,y::v,c,hl,hc,hm,hv=>by
  obtain ⟨_,_,h2⟩:=Bn ha hm.head hv.head hc
  obtain ⟨i1,i2,i3,i4⟩:=zJ ha m v _ (by simpa using hl) h2 hm.tail hv.tail
  simp only [wY]
  refine ⟨i1,aU.cons (Nat.mod_lt _ (by omega)) i2,by simp [i3], ?_⟩
  simp only [bJ,List.length_cons,Nat.pow_succ]
  rw [Nat.mul_comm (16777216^v.length),Nat.mul_assoc,Nat.mul_add,Nat.mul_left_comm a]
  omega
 | [],_::_,_,h,_,_,_=>by simp at h
 |_::_,[],_,h,_,_,_=>by simp at h
def G5 (v:List Nat):List Nat→List Nat→List Nat
 | [],m=>m
 |a::u,m=>((wY a m v 0).1++ [(wY a m v 0).2]).headD 0::G5 v u ((wY a m v 0).1++ [(wY a m v 0).2]).tail
theorem H1 (l:List Nat) (y:Nat):∃ z m,l++ [y]=z::m∧m.length=l.length:=by
 cases l with
 |nil=>exact ⟨y,[],rfl,rfl⟩
 |cons b l=>exact ⟨b,l++ [y],rfl,by simp⟩
theorem Ew {v:List Nat} (hv:aU v):∀ (u m:List Nat),aU u→aU m→m.length=v.length→aU (G5 v u m)∧(G5 v u m).length=u.length+v.length∧bJ (G5 v u m)=bJ m+bJ u*bJ v
 | [],m,_,hm,hl=> ⟨hm,by simp [G5,hl],by simp [G5,bJ]⟩
 | a::u,m,hu,hm,hl=>by
  obtain ⟨h1,h2,h3,h4⟩:=zJ hu.head m v 0 hl (by omega) hm hv
  obtain ⟨z,m',h5,h6⟩:=H1 (wY a m v 0).1 (wY a m v 0).2
  have hL:aU (z::m'):=by rw [← h5];exact aU.app h2 (aU.cons h1 aU.nil)
  have hV:bJ (z::m')=bJ m+a*bJ v:=by
   rw [← h5,qF,h3];simp only [bJ];omega
  simp only [G5,h5,List.headD_cons,List.tail_cons]
  obtain ⟨i1,i2,i3⟩:=Ew hv u m' hu.tail hL.tail (by omega)
  refine ⟨aU.cons hL.head i1,by simp [i2];omega, ?_⟩
  simp only [bJ] at hV ⊢
  rw [i3,Nat.add_mul,Nat.mul_add,Nat.mul_assoc]
  omega
def Vv (u v:List Nat) (i:Nat) (p:Nat × List Nat × Nat):St:=⟨[(9,.sl (ag u) u.length false),(10,.sl (ag v) v.length false),(11,.ref 0 0 0 p.2.1.length),(12,.int .i64 (i:Int)),(13,.int .i64 (p.2.2:Int)),(14,.int .i64 (p.1:Int))],[(0,⟨ag p.2.1,0,false,0,1,true⟩)],.dead,[]⟩
def ad1 (u v:List Nat) (i:Nat) (p:List Nat × Nat):St:=⟨[(9,.sl (ag u) u.length false),(10,.sl (ag v) v.length false),(11,.ref 0 0 0 p.1.length),(12,.int .i64 (i:Int)),(13,.int .i64 (p.2:Int))],[(0,⟨ag p.1,0,false,0,1,true⟩)],.dead,[]⟩
theorem Js {p s:List Nat} {x y k:Nat} (h:k=p.length):List.take ((0+(Int.toNat (k:Int)))*1) (ag (p++x::s))++ [AV.int .i64 (y:Int)]++List.drop (((0+(Int.toNat (k:Int)))*1)+1) (ag (p++x::s))=ag (p++y::s):=by
 rw [Nat.zero_add,Nat.mul_one,av,Em (by rw [h];simp)]
 subst h
 simp
theorem O2 {p s:List Nat} {x k:Nat} (h:k=p.length):(List.headD (List.drop ((0+(Int.toNat (k:Int)))*1) (ag (p++x::s))) .dead)= .int .i64 (x:Int):=by
 rw [Nat.zero_add,Nat.mul_one,av];exact El h
theorem Ei {p s:List Nat} {x k:Nat} (h:k=p.length):(List.headD (List.drop ((Int.toNat (k:Int))*1) (ag (p++x::s))) .dead)= .int .i64 (x:Int):=by
 rw [Nat.mul_one,av];exact El h
theorem wdq {a b:Nat} (h:a+b<9223372036854775808):AV.int .i64 (IntKind.wrap .i64 ((a:Int)+(b:Int)))= .int .i64 ((a+b:Nat):Int):=by
 rw [bV,aV h]
theorem K7 {nt:Nat} (hn:92≤nt) (u u1 u2 v:List Nat) (a:Nat) (hu:u=u1++a::u2) (ha:a<16777216) (hv:aU v) (hul:u.length<2^36) (hvl:v.length<2^36):∀ (w m vd d pp z:List Nat) (c:Nat),vd++w=v→m.length=w.length→d.length=vd.length→pp.length=u1.length→aU m→c<16777216→
  aw prog ap [] nt (aa 2 (af f50)) (fun _=> .exit 2) (Vv u v u1.length) (ad1 u v u1.length) (vd.length,pp++d++m++z,c) (pp++d++(wY a m w c).1++z,(wY a m w c).2):=by
 intro w
 induction w with
 |nil=>
  intro m vd d pp z c h1 h2 h3 h4 h5 h6
  have hm:m= []:=List.length_eq_zero_iff.1 (by simpa using h2)
  subst hm
  have hvd:vd=v:=by simpa using h1
  simp only [wY]
  exact .done (adY hn u v _ _ _ _ 0 0 0 (by rw [hvd];exact decide_eq_false (by omega)))
 | cons y w ih=>
  intro m vd d pp z c h1 h2 h3 h4 h5 h6
  cases m with
  |nil=>simp at h2
  | cons x m=>
   have hvv:vd.length+(w.length+1)=v.length:=by rw [← h1];simp
   have huu:u1.length+(u2.length+1)=u.length:=by rw [hu];simp
   have hy:y<16777216:=hv y (by rw [← h1];simp)
   obtain ⟨b1,b2,b3⟩:=Bn ha h5.head hy h6
   have hnx:=ih m (vd++ [y]) (d++ [(x+a*y+c) % 16777216]) pp z ((x+a*y+c) / 16777216) (by simp [h1]) (by simpa using h2) (by simp [h3]) h4 h5.tail b3
   simp only [wY]
   rw [List.length_append,List.length_singleton] at hnx
   have e1:pp++d++x::m++z=(pp++d)++x::(m++z):=by simp
   have e2:pp++(d++ [(x+a*y+c) % 16777216])++m++z=(pp++d)++(x+a*y+c) % 16777216::(m++z):=by simp
   have e3:pp++(d++ [(x+a*y+c) % 16777216])++(wY a m w ((x+a*y+c) / 16777216)).1++z=pp++d++(x+a*y+c) % 16777216::(wY a m w ((x+a*y+c) / 16777216)).1++z:=by simp
   rw [e3] at hnx
   refine .next ?_ hnx
   have hk:u1.length+vd.length=(pp++d).length:=by rw [List.length_append];omega
   have hlen:((pp++d)++x::(m++z)).length=(pp++d).length+(m++z).length+1:=by simp;omega
   have hlen2:((pp++d)++(x+a*y+c) % 16777216::(m++z)).length=((pp++d)++x::(m++z)).length:=by simp
   have g1:=O2 (p:=pp++d) (s:=m++z) (x:=x) hk
   have g2:(List.headD (List.drop ((Int.toNat (u1.length:Int))*1) (ag u)) .dead)= .int .i64 (a:Int):=by rw [hu];exact Ei rfl
   have g3:(List.headD (List.drop ((Int.toNat (vd.length:Int))*1) (ag v)) .dead)= .int .i64 (y:Int):=by rw [← h1];exact Ei rfl
   have g4:=Js (p:=pp++d) (s:=m++z) (x:=x) (y:=(x+a*y+c) % 16777216) hk
   unfold Vv
   simp only [e1,e2,hlen2]
   have hs:=adX hn u v ((pp++d)++x::(m++z)) u1.length vd.length c a x y
   rw [g4,g1,g2,g3] at hs
   have hil:u1.length<u.length:=by omega
   have hjl:vd.length<v.length:=by omega
   have hol:u1.length+vd.length<((pp++d)++x::(m++z)).length:=by omega
   have w1:AV.int .i64 (Int.tmod (((x+a*y+c):Nat):Int) ((16777216:Nat):Int))= .int .i64 ((((x+a*y+c) % 16777216):Nat):Int):=by rw [qN]
   have w2:AV.int .i64 (IntKind.wrap .i64 (Int.tdiv (((x+a*y+c):Nat):Int) ((16777216:Nat):Int)))= .int .i64 ((((x+a*y+c) / 16777216):Nat):Int):=by rw [kS,aV (by omega)]
   have w3:AV.int .i64 (IntKind.wrap .i64 ((a:Int)*(y:Int)))= .int .i64 ((a*y:Nat):Int):=by rw [E7 (by omega)]
   have bl:Nat.ble (((0+(Int.toNat (((u1.length+vd.length):Nat):Int)))*1)+1) (List.length (ag ((pp++d)++x::(m++z))))=true:=by
    rw [Nat.ble_eq,av,bY];omega
   apply hs<;>first|exact rfl|exact wdq (by omega)|exact w1|exact w2|exact w3|exact bl|exact rp _|exact dm hil|exact dm hjl|exact dm hol
def IG (u v:List Nat) (p:Nat × List Nat):St:=⟨[(9,.sl (ag u) u.length false),(10,.sl (ag v) v.length false),(11,.ref 0 0 0 p.2.length),(12,.int .i64 (p.1:Int))],[(0,⟨ag p.2,0,false,0,1,true⟩)],.dead,[]⟩
def Pq (o:List Nat):St:=⟨[(11,.ref 0 0 0 o.length)],[(0,⟨ag o,0,false,0,1,true⟩)],.dead,[]⟩
theorem I7 {nt:Nat} (hn:92≤nt) (u v:List Nat) (hul':aU u) (hv:aU v) (hul:u.length<2^36) (hvl:v.length<2^36):∀ (u2 u1 m pp:List Nat),u1++u2=u→m.length=v.length→pp.length=u1.length→aU m→
  aw prog ap [] nt (aa 0 (af f50)) (fun _=> .exit 0) (IG u v) Pq (u1.length,pp++m++List.replicate u2.length 0) (pp++G5 v u2 m):=by
 intro u2
 induction u2 with
 |nil=>
  intro u1 m pp h1 h2 h3 h4
  have hu1:u1=u:=by simpa using h1
  simp only [G5,List.length_nil,List.replicate_zero,List.append_nil]
  exact .done (ad0 hn u v _ [] _ 0 (by rw [hu1];exact decide_eq_false (by omega)))
 | cons a u2 ih=>
  intro u1 m pp h1 h2 h3 h4
  have huu:u1.length+(u2.length+1)=u.length:=by rw [← h1];simp
  have ha:a<16777216:=hul' a (by rw [← h1];simp)
  obtain ⟨r1,r2,r3,r4⟩:=zJ ha m v 0 h2 (by omega) h4 hv
  have hI:=fun nt (hn:92≤nt)=>K7 hn u u1 u2 v a h1.symm ha hv hul hvl v m [] [] pp (List.replicate (u2.length+1) 0) 0 rfl h2 rfl h3 h4 (by omega)
  simp only [G5]
  generalize wY a m v 0=r at*
  obtain ⟨z,m',h5,h6⟩:=H1 r.1 r.2
  have hL:aU (z::m'):=by rw [← h5];exact aU.app r2 (aU.cons r1 aU.nil)
  have hnx:=ih (u1++ [a]) m' (pp++ [z]) (by simp [h1]) (by omega) (by simp [h3]) hL.tail
  simp only [h5,List.headD_cons,List.tail_cons]
  rw [List.length_append,List.length_singleton] at hnx
  have e3:pp++ [z]++G5 v u2 m'=pp++z::G5 v u2 m':=by simp
  rw [e3] at hnx
  refine .next ?_ hnx
  rw [List.append_nil] at hI
  have hk:u1.length+v.length=(pp++r.1).length:=by rw [List.length_append];omega
  have e1:pp++r.1++List.replicate (u2.length+1) 0=(pp++r.1)++0::List.replicate u2.length 0:=by rw [List.replicate_succ]
  have e2:pp++ [z]++m'++List.replicate u2.length 0=(pp++r.1)++r.2::List.replicate u2.length 0:=by
   rw [List.append_assoc pp,List.singleton_append,← h5];simp
  have g4:=Js (p:=pp++r.1) (s:=List.replicate u2.length 0) (x:=0) (y:=r.2) hk
  rw [e1] at hI
  have hlen:((pp++r.1)++0::List.replicate u2.length 0).length=((pp++r.1)++r.2::List.replicate u2.length 0).length:=by simp
  have hlen2:((pp++r.1)++0::List.replicate u2.length 0).length=(pp++r.1).length+u2.length+1:=by simp;omega
  have hs:=adZ hn u v (pp++m++List.replicate (u2.length+1) 0) ((pp++r.1)++0::List.replicate u2.length 0) u1.length r.2
  rw [g4] at hs
  have hil:u1.length<u.length:=by omega
  have hol:u1.length+v.length<((pp++r.1)++0::List.replicate u2.length 0).length:=by omega
  have bl:Nat.ble (((0+(Int.toNat (((u1.length+v.length):Nat):Int)))*1)+1) (List.length (ag ((pp++r.1)++0::List.replicate u2.length 0)))=true:=by
   rw [Nat.ble_eq,av,bY];omega
  unfold IG
  simp only [e2,List.length_cons]
  rw [← hlen]
  apply hs<;>first|exact wdq (by omega)|exact bl|exact rp _|exact dm hil|exact dm hol|skip
  exact aw.blk hI (by simp) rfl (aK.of ⟨rfl,rfl,rfl,rfl,rfl,rfl,trivial⟩) (aK.refl _)
theorem za {s:List UInt8} (h:s.length<2^35):(aj (ac s)).length<2^35:=by
 have h1:(aj (ac s)).length≤s.length:=pU (Nat.lt_of_lt_of_le (g_ s) (by rw [Nat.pow_mul];exact Nat.pow_le_pow_left (by decide) _))
 omega
theorem FW (s t:List UInt8) (hs:s.length<2^35) (ht:t.length<2^35):∃ o3:List Nat,o3.length<2^36∧aU o3∧bJ o3=ac s*ac t∧∀ nt,92≤nt→aw prog ap [] nt (aa 0 (af f50)) (fun _=> .exit 0) (IG (aj (ac s)) (aj (ac t))) Pq (0,List.replicate ((aj (ac s)).length+(aj (ac t)).length) 0) o3:=by
 have h1:=za hs
 have h2:=za ht
 obtain ⟨m1,m2,m3⟩:=Ew (aU.dig (ac t)) (aj (ac s)) (List.replicate (aj (ac t)).length 0) (aU.dig _) (aU.zeros _) (by simp)
 refine ⟨_,by rw [m2];omega,m1, ?_,fun nt hn=> ?_⟩
 ·rw [m3,DV,eu,eu,Nat.zero_add]
 ·have:=I7 hn (aj (ac s)) (aj (ac t)) (aU.dig _) (aU.dig _) (by omega) (by omega) (aj (ac s)) [] (List.replicate (aj (ac t)).length 0) [] rfl (by simp) rfl (aU.zeros _)
  rw [List.nil_append,List.nil_append,List.replicate_append_replicate,Nat.add_comm] at this
  exact this
theorem IE (s t:List UInt8) (hs:s.length<2^35) (ht:t.length<2^35):CO 50 [.str s,.str t] (.ret (.str (ae (ac s*ac t)))):=by
 obtain ⟨o3,h1,h2,h3,h4⟩:=FW s t hs ht
 have d1:=za hs
 have d2:=za ht
 have q1:=EM s (by omega)
 have q2:=EM t (by omega)
 have cn:=vI o3 true h1 h2
 rw [h3] at cn
 have htk:List.take (o3.length*1) (ag o3)=ag o3:=by rw [Nat.mul_one,cD,List.take_length]
 rw [← htk] at cn
 have hw:IntKind.wrap .i64 ((((aj (ac s)).length:Nat):Int)+(((aj (ac t)).length:Nat):Int))=(((aj (ac s)).length+(aj (ac t)).length:Nat):Int):=by
  rw [bV,aV (by omega)]
 have f0:=adU s t (ac s) 0 (ac s*ac t) o3
 have f1:=adV s t 0 (ac t) (ac s*ac t) o3
 have f2:=adW s t 0 0 (ac s*ac t) o3
 rw [hw,av,tI] at f0 f1 f2
 have g0:=decide_eq_true (p:=((0:Nat):Int)≤(((aj (ac s)).length+(aj (ac t)).length:Nat):Int)) (by omega)
 have g1:=decide_eq_true (p:=(((aj (ac s)).length+(aj (ac t)).length:Nat):Int)=(((aj (ac s)).length+(aj (ac t)).length:Nat):Int)) rfl
 have g2:=decide_eq_true (p:=(((aj (ac s)).length+(aj (ac t)).length:Nat):Int)≤((1099511627776:Nat):Int)) (by omega)
 have hL:=aw.blk (s:=IG (aj (ac s)) (aj (ac t)) (0,List.replicate ((aj (ac s)).length+(aj (ac t)).length) 0)) (s':=Pq o3) (id:=0) h4 (by simp) rfl (aK.refl _) (aK.refl _)
 have hr:((aj (ac s)).length+(aj (ac t)).length)=(List.replicate ((aj (ac s)).length+(aj (ac t)).length) 0).length:=by rw [List.length_replicate]
 unfold IG at hL
 simp only [← hr] at hL
 rcases Nat.lt_or_ge (ac s) (2^(8*3)) with c1|c1
 ·have s1:=jg s 3 (by omega) (by omega) c1
  rcases Nat.lt_or_ge (ac t) (2^(8*4)) with c2|c2
  ·have s2:=jg t 4 (by omega) (by omega) c2
   have hm:ac s*ac t<9223372036854775808:=Nat.lt_of_le_of_lt (Nat.mul_le_mul (show ac s≤16777215 by omega) (show ac t≤4294967295 by omega)) (by omega)
   have hO:=b_ (ac s*ac t) hm
   rw [← E7 hm] at hO
   exact Qd s t _ _ _ s1 s2 hO
  ·have s2:=kG t 4 (by omega) c2
   exact f0 g0 g1 g2 s1 s2 q1 q2 cn fun nt hn=>(hL nt hn).weak (aK.of ⟨rfl,rfl,rfl,rfl,trivial⟩) (aK.refl _)
 ·have s1:=kG s 3 (by omega) c1
  rcases Nat.lt_or_ge (ac t) (2^(8*4)) with c2|c2
  ·have s2:=jg t 4 (by omega) (by omega) c2
   exact f1 g0 g1 g2 s1 s2 q1 q2 cn fun nt hn=>(hL nt hn).weak (aK.of ⟨rfl,rfl,rfl,rfl,trivial⟩) (aK.refl _)
  ·have s2:=kG t 4 (by omega) c2
   exact f2 g0 g1 g2 s1 s2 q1 q2 cn fun nt hn=>(hL nt hn).weak (aK.of ⟨rfl,rfl,rfl,rfl,trivial⟩) (aK.refl _)
end Go.Proofs.Tryz
set_option maxRecDepth 100000
open Go AM
namespace Go.Proofs.Tryz
abbrev EV:=Nat × Nd
def JA (a:List EV) (i:Nat):Nat:=(a.getD i (0,lQ)).1
def G6 (a:List EV) (i:Nat):Nd:=(a.getD i (0,lQ)).2
def yM (a:List EV):Nat:=a.foldl (fun s q=>dX s q.1) 0
def Pr (a:List EV):Nat:=cond (kX (G6 a 0).op) (kF (G6 a 0).neg (JA a 1)) (cond (kX (G6 a 1).op) (kF (G6 a 1).neg (JA a 0)) 3)
def TU (a:List EV):Nat:=cond (kX (G6 a 1).op) (cond (lp (G6 a 1).neg (G6 a 1).num (G6 a 1).den==((0:Nat):Int)) 3 (kF (G6 a 1).neg (JA a 0))) 3
def Ry (a:List EV):Nat:=cond (((JA a 0:Nat):Int)==((0:Nat):Int)) (dX (JA a 1) (JA a 2)) 3
def EO (ck:Sc→Int) (up:Sc→Bool) (sc:List Sc) (a:List EV) (x:Nd):Nat:=
 if x.op=9∨x.op=13∨x.op=14∨x.op=21∨x.op=22∨x.op=23 then yM a else if x.op=10 then dX (JA a 0) (eY (JA a 1)) else if x.op=11 then Pr a else if x.op=12 then TU a else if x.op=15 then Ry a else if x.op=24 then yo ck up x.name sc (JA a 0) else 3
def wC (ck:Sc→Int) (up:Sc→Bool) (sc:List Sc) (op:Int) (name:List UInt8) (a:List EV) (x:Nd):Nat:=
 cond (x.op==op && x.name==name) 1 (cond (((yM a:Nat):Int)==((0:Nat):Int)) 0 (EO ck up sc a x))
def jq (ck:Sc→Int) (up:Sc→Bool) (sc:List Sc) (op:Int) (name:List UInt8):List Nd→List EV→List EV
 | [],st=>st
 |x::r,st=>jq ck up sc op name r (st.take (st.length - bX x.op)++ [(wC ck up sc op name (st.drop (st.length - bX x.op)) x,x)])
section
variable {ck:Sc→Int} {up:Sc→Bool} {sc:List Sc} {op:Int} {name:List UInt8}
theorem mO:∀ (a b:List Nd) (st:List EV),jq ck up sc op name (a++b) st=jq ck up sc op name b (jq ck up sc op name a st)
 | [],_,_=>rfl
 |x::r,b,st=>by simp only [List.cons_append,jq];exact mO r b _
theorem ma {x:Nd} {r:List Nd} {d e:Nat} (h:cO (x::r) d= .inl e):aA x=0∧bX x.op≤d∧cO r (d - bX x.op+1)= .inl e:=by
 simp only [cO] at h
 split at h
 ·rename_i hx
  split at h
  ·cases h
  ·exact ⟨hx,by omega,h⟩
 ·cases h
theorem wj:∀ (r:List Nd) (st0 st:List EV),(∃ e,cO r st.length= .inl e)→jq ck up sc op name r (st0++st)=st0++jq ck up sc op name r st
 | [],_,_,_=>rfl
 |x::r,st0,st,⟨e,he⟩=>by
  obtain ⟨_,h2,h3⟩:=ma he
  simp only [jq]
  rw [show (st0++st).length - bX x.op=st0.length+(st.length - bX x.op) by rw [List.length_append];omega,List.take_length_add_append,List.drop_length_add_append,List.append_assoc]
  exact wj r st0 _ ⟨e,by rw [List.length_append,List.length_take,List.length_singleton,Nat.min_eq_left (Nat.sub_le _ _)];exact h3⟩
theorem BH:∀ (r:List Nd) (st:List EV) (e:Nat),cO r st.length= .inl e→(jq ck up sc op name r st).length=e
 | [],st,e,h=>by simpa [cO,jq] using h
 |x::r,st,e,h=>by
  obtain ⟨_,h2,h3⟩:=ma h
  simp only [jq]
  exact BH r _ e (by rw [List.length_append,List.length_take,List.length_singleton,Nat.min_eq_left (Nat.sub_le _ _)];exact h3)
theorem xS {f:Nat→EV} {a:List Nat} {i:Nat} (h:i<a.length):(a.map f).getD i (0,lQ)=f (a.getD i 0):=by
 rw [List.getD_eq_getElem?_getD,List.getD_eq_getElem?_getD,List.getElem?_map,List.getElem?_eq_getElem h];rfl
theorem MD {e:List Nd} {A:List (List Nat)} {ss:List Nat} {k:Nat} {x:Nd} (hl:(A.getD k []).length=bX x.op):wA ck up e A sc op name ss k x=wC ck up sc op name ((A.getD k []).map fun j=>(ss.getD j 0,e.getD j lQ)) x:=by
 have hall:fI A ss k=yM ((A.getD k []).map fun j=>(ss.getD j 0,e.getD j lQ)):=by
  unfold fI yM
  rw [List.foldl_map]
 have hop:∀ i,i<bX x.op→dF A ss k i=JA ((A.getD k []).map fun j=>(ss.getD j 0,e.getD j lQ)) i:=by
  intro i hi
  unfold JA dF
  rw [xS (by omega)]
 have hnd:∀ i,i<bX x.op→mI e A k i=G6 ((A.getD k []).map fun j=>(ss.getD j 0,e.getD j lQ)) i:=by
  intro i hi
  unfold G6 mI
  rw [xS (by omega)]
 have har:∀ o:Int,x.op=o→bX x.op=bX o:=fun o h=>by rw [h]
 unfold wA wC
 rw [hall]
 congr 2
 unfold Jm EO
 rw [hall]
 split
 ·rfl
 ·split
  ·rename_i h
   have:=har _ h
   rw [show bX 10=2 from rfl] at this
   rw [hop 0 (by omega),hop 1 (by omega)]
  ·split
   ·rename_i h
    have:=har _ h
    rw [show bX 11=2 from rfl] at this
    unfold vE Pr
    rw [hop 0 (by omega),hop 1 (by omega),hnd 0 (by omega),hnd 1 (by omega)]
   ·split
    ·rename_i h
     have:=har _ h
     rw [show bX 12=2 from rfl] at this
     unfold uy TU
     rw [hop 0 (by omega),hnd 1 (by omega)]
    ·split
     ·rename_i h
      have:=har _ h
      rw [show bX 15=3 from rfl] at this
      unfold yX Ry
      rw [hop 0 (by omega),hop 1 (by omega),hop 2 (by omega)]
     ·split
      ·rename_i h
       have:=har _ h
       rw [show bX 24=1 from rfl] at this
       rw [hop 0 (by omega)]
      ·rfl
theorem BL {e:List Nd} {A:List (List Nat)}:∀ (r:List Nd) (k:Nat) (st ss:List Nat),(∃ d,cO r st.length= .inl d)→A.drop k=oD r k st→e.drop k=r→ss.length=e.length→(∀ j ∈ st,j<k)→
  jq ck up sc op name r (st.map fun j=>(ss.getD j 0,e.getD j lQ))=(J4 r k st).map fun j=>((om ck up e A sc op name r k ss).getD j 0,e.getD j lQ)
 | [],k,st,ss,_,_,_,_,_=>rfl
 | x::r,k,st,ss,⟨d,hd⟩,hA,he,hs,hst=>by
  obtain ⟨_,h2,h3⟩:=ma hd
  have hkl:k<e.length:=by
   by_cases h:k<e.length
   ·exact h
   ·rw [List.drop_of_length_le (by omega)] at he;cases he
  have hx:e.getD k lQ=x:=by
   rw [List.drop_eq_getElem_cons hkl,List.cons.injEq] at he
   rw [List.getD_eq_getElem?_getD,List.getElem?_eq_getElem hkl,← he.1];rfl
  have her:e.drop (k+1)=r:=by
   rw [List.drop_eq_getElem_cons hkl,List.cons.injEq] at he
   exact he.2
  simp only [oD] at hA
  have hAl:k<A.length:=by
   by_cases h:k<A.length
   ·exact h
   ·rw [List.drop_of_length_le (by omega)] at hA;cases hA
  rw [List.drop_eq_getElem_cons hAl,List.cons.injEq] at hA
  have hAk:A.getD k []=st.drop (st.length - bX x.op):=by
   rw [List.getD_eq_getElem?_getD,List.getElem?_eq_getElem hAl,← hA.1];rfl
  simp only [jq,om,J4]
  have hv:=MD (ck:=ck) (up:=up) (sc:=sc) (op:=op) (name:=name) (e:=e) (A:=A) (ss:=ss) (k:=k) (x:=x) (by rw [hAk,List.length_drop];omega)
  rw [hAk] at hv
  rw [List.length_map,← List.map_take,← List.map_drop,← hv]
  generalize wA ck up e A sc op name ss k x=v
  have ih:=BL (e:=e) (A:=A) r (k+1) (st.take (st.length - bX x.op)++ [k]) (ss.set k v) ⟨d,by rw [List.length_append,List.length_take,List.length_singleton,Nat.min_eq_left (Nat.sub_le _ _)];exact h3⟩ hA.2 her (by rw [List.length_set];exact hs) (by
   intro j hj
   rcases List.mem_append.1 hj with hj|hj
   ·have:=hst j (List.mem_of_mem_take hj);omega
   ·rw [List.mem_singleton.1 hj];omega)
  rw [← ih]
  congr 1
  rw [List.map_append]
  congr 1
  ·apply List.map_congr_left
   intro j hj
   have:=hst j (List.mem_of_mem_take hj)
   have e1:(ss.set k v).getD j 0=ss.getD j 0:=by rw [List.getD_eq_getElem?_getD,List.getD_eq_getElem?_getD,List.getElem?_set_ne (by omega)]
   rw [e1]
  ·simp only [List.map_cons,List.map_nil]
   have e1:(ss.set k v).getD k 0=v:=by rw [List.getD_eq_getElem?_getD,List.getElem?_set_self (by omega)];rfl
   rw [hx,e1]
theorem BR:∀ (r:List Nd) (x:Nd) (k:Nat) (st:List Nat),∃ t,J4 (r++ [x]) k st=t++ [k+r.length]
 | [],x,k,st=> ⟨_,rfl⟩
 |y::r,x,k,st=>by
  obtain ⟨t,ht⟩:=BR r x (k+1) (st.take (st.length - bX y.op)++ [k])
  exact ⟨t,by simp only [List.cons_append,J4];rw [ht,List.length_cons];congr 2;omega⟩
theorem yV {e:List Nd} (h:bC e=0):cO e 0= .inl 1∧e.length≤60:=by
 unfold bC at h
 split at h
 ·cases h
 ·refine ⟨?_,by omega⟩
  split at h
  ·rename_i d hd
   split at h
   ·rename_i h1;rw [hd,h1]
   ·cases h
  ·rename_i w hw
   exact absurd h (yU e 0 w hw)
theorem CI {e:List Nd} (h:cO e 0= .inl 1) (hl:e.length≤60):bC e=0:=by
 unfold bC
 rw [if_neg (by omega),h];rfl
theorem yz {e:List Nd} (h:bC e=0) (ho:5≤op∧op≤8):∃ y,jq ck up sc op name e []= [(dG ck up e sc op name,y)]∧e.getLast? =some y:=by
 obtain ⟨h1,h2⟩:=yV h
 have hne:e ≠ []:=by rintro rfl;simp [cO] at h1
 obtain ⟨r,x,hr⟩:∃ r x,e=r++ [x]:=⟨e.dropLast,e.getLast hne,(List.dropLast_concat_getLast hne).symm⟩
 have hs:=BL (ck:=ck) (up:=up) (sc:=sc) (op:=op) (name:=name) (e:=e) (A:=db e) e 0 [] (List.replicate e.length 0) ⟨1,h1⟩ rfl rfl (by simp) (by simp)
 obtain ⟨t,ht⟩:=BR r x 0 []
 rw [← hr,Nat.zero_add] at ht
 have hl:=BH (ck:=ck) (up:=up) (sc:=sc) (op:=op) (name:=name) e [] 1 h1
 rw [List.map_nil] at hs
 rw [hs,ht] at hl
 have ht0:t= []:=by
  rw [List.length_map,List.length_append,List.length_singleton] at hl
  exact List.length_eq_zero_iff.1 (by omega)
 subst ht0
 have hel:e.length - 1=r.length:=by rw [hr];simp
 refine ⟨x, ?_,by rw [hr];simp⟩
 rw [hs,ht]
 simp only [List.nil_append,List.map_cons,List.map_nil]
 unfold dG
 rw [if_pos ⟨h,ho⟩,hel]
 congr 1
 rw [show e.getD r.length lQ=x by rw [hr,List.getD_eq_getElem?_getD];simp]
theorem EP {e:List Nd} (h:bC e=0) (ho:5≤op∧op≤8) (st:List EV):∃ y,jq ck up sc op name e st=st++ [(dG ck up e sc op name,y)]∧e.getLast? =some y:=by
 obtain ⟨y,h1,h2⟩:=yz (ck:=ck) (up:=up) (sc:=sc) (op:=op) (name:=name) h ho
 refine ⟨y, ?_,h2⟩
 have:=wj (ck:=ck) (up:=up) (sc:=sc) (op:=op) (name:=name) e st [] ⟨1,(yV h).1⟩
 rw [List.append_nil] at this
 rw [this,h1]
theorem BM {e:List Nd} (h:bC e=0) (ho:5≤op∧op≤8) {s:Nat} {y:Nd} (hr:jq ck up sc op name e []= [(s,y)]):dG ck up e sc op name=s:=by
 obtain ⟨y',h1,_⟩:=yz (ck:=ck) (up:=up) (sc:=sc) (op:=op) (name:=name) h ho
 rw [h1] at hr
 simp only [List.cons.injEq,Prod.mk.injEq,and_true] at hr
 exact hr.1
end
end Go.Proofs.Tryz
set_option maxRecDepth 100000
open Go AM
namespace Go.Proofs.Tryz
section
variable {ck:Sc→Int} {up:Sc→Bool} {sc:List Sc}
theorem Uw {a b:Nat} (h:a≤3) (h':b≤3):dX a b≤3:=by unfold dX;split;exact h';split;exact h;omega
theorem Nz:∀ (a:List EV) (s:Nat),s≤3→(∀ q ∈ a,q.1≤3)→a.foldl (fun s q=>dX s q.1) s≤3
 | [],_,hs,_=>hs
 |q::r,s,hs,h=>Nz r _ (Uw hs (h q (by simp))) fun x hx=>h x (by simp [hx])
theorem Ke {a:List EV} (h:∀ q ∈ a,q.1≤3):yM a≤3:=Nz a 0 (by omega) h
end
end Go.Proofs.Tryz
set_option maxRecDepth 100000
open Go AM
namespace Go.Proofs.Tryz
section
variable {ck:Sc→Int} {up:Sc→Bool} {sc:List Sc}
theorem DT {e:List Nd} {x:Nd} {nm:List UInt8} (hx:x.op=1) (he:bC e=0) (hm:bC ([x]++e++ [⟨10,false,[],[],[]⟩])=0):dG ck up ([x]++e++ [⟨10,false,[],[],[]⟩]) sc 6 nm=eY (dG ck up e sc 6 nm):=by
 refine BM hm ⟨by omega,by omega⟩ (y:=⟨10,false,[],[],[]⟩) ?_
 obtain ⟨y,hy,_⟩:=EP (ck:=ck) (up:=up) (sc:=sc) (op:=6) (name:=nm) he ⟨by omega,by omega⟩ [(0,x)]
 have h0:jq ck up sc 6 nm [x] []= [(0,x)]:=by
  simp only [jq,List.length_nil,Nat.zero_sub,List.take_nil,List.drop_nil,List.nil_append]
  unfold wC
  rw [show (x.op==(6:Int))=false by rw [hx];rfl]
  rfl
 rw [mO,mO,h0,hy]
 generalize dG ck up e sc 6 nm=s
 simp only [jq,List.cons_append,List.nil_append,List.length_cons,List.length_nil]
 rw [show 0+1+1 - bX (10:Int)=0 from rfl,List.take_zero,List.drop_zero,List.nil_append]
 congr 2
 unfold wC
 rw [show ((10:Int)==6)=false from rfl,Bool.false_and,cond_false]
 have ha:yM [(0,x),(s,y)]=s:=by simp [yM,dX]
 rw [ha,gp]
 by_cases hs:s=0
 ·subst hs;rfl
 ·rw [decide_eq_false hs,cond_false]
  unfold EO
  rw [if_neg (by decide),if_pos rfl]
  show dX 0 (eY s)=eY s
  simp [dX]
theorem DU {e:List Nd} {x:Nd} {nm:List UInt8} (hx:x.op=3) (he:bC e=0) (hm:bC ([x]++e++ [⟨11,false,[],[],[]⟩])=0):dG ck up ([x]++e++ [⟨11,false,[],[],[]⟩]) sc 6 nm=kF x.neg (dG ck up e sc 6 nm):=by
 refine BM hm ⟨by omega,by omega⟩ (y:=⟨11,false,[],[],[]⟩) ?_
 obtain ⟨y,hy,_⟩:=EP (ck:=ck) (up:=up) (sc:=sc) (op:=6) (name:=nm) he ⟨by omega,by omega⟩ [(0,x)]
 have h0:jq ck up sc 6 nm [x] []= [(0,x)]:=by
  simp only [jq,List.length_nil,Nat.zero_sub,List.take_nil,List.drop_nil,List.nil_append]
  unfold wC
  rw [show (x.op==(6:Int))=false by rw [hx];rfl]
  rfl
 rw [mO,mO,h0,hy]
 generalize dG ck up e sc 6 nm=s
 simp only [jq,List.cons_append,List.nil_append,List.length_cons,List.length_nil]
 rw [show 0+1+1 - bX (11:Int)=0 from rfl,List.take_zero,List.drop_zero,List.nil_append]
 congr 2
 unfold wC
 rw [show ((11:Int)==6)=false from rfl,Bool.false_and,cond_false]
 have ha:yM [(0,x),(s,y)]=s:=by simp [yM,dX]
 rw [ha,gp]
 by_cases hs:s=0
 ·subst hs;cases x.neg<;>rfl
 ·rw [decide_eq_false hs,cond_false]
  unfold EO
  rw [if_neg (by decide),if_neg (by decide),if_pos rfl]
  unfold Pr
  rw [show kX (G6 [(0,x),(s,y)] 0).op=true by show kX x.op=true;rw [hx];rfl]
  rfl
end
end Go.Proofs.Tryz
set_option maxRecDepth 100000
set_option linter.unusedVariables false
open Go AM
namespace Go.Proofs.Tryz
def jr (wn:Bool) (wa wb:List UInt8) (e mi ti:List Nd) (qs:List Sq) (k:Nat):St:=⟨[(7,.bool true),(8,.sl (aF e) e.length true),(9,.sl (cR (qs.map Sq.c)) qs.length false),(10,.ptr 0 0 0),(11,.sl (aF mi) mi.length true),(12,.sl (aF ti) ti.length true),(47,.sl [.str [111,116,104,101,114],.str [97],.str [98],.str [116,97,120],.str [119,97,103,101],.str [120,95,49],.str [97,50,51,52,53,54,55,56,57,48,49,50,51,52,53,54,55,56,57,48]] 7 true),(48,.int .i64 7),(49,.int .i64 (k:Int))],[(0,⟨[.bool wn,.str wa,.str wb],0,false,0,0,true⟩)],.dead,[]⟩
theorem Xo {nt:Nat} (hn:86≤nt) (wn:Bool) (wa wb:List UInt8) (e mi ti:List Nd) (qs:List Sq) (k:Nat) (S1 S2 S3:List UInt8→Nat) (nm:List UInt8) (rx:List AV) (hk:k<2^62) (A1:∀ nm,CO 14 [.sl (aF e) e.length true,.sl (cR (qs.map Sq.c)) qs.length false,.int .i64 6,.str nm] (.ret (.int .i64 ((S1 nm:Nat):Int)))) (A2:∀ nm,CO 14 [.sl (aF mi) mi.length true,.sl (cR (qs.map Sq.c)) qs.length false,.int .i64 6,.str nm] (.ret (.int .i64 ((S2 nm:Nat):Int)))) (A3:∀ nm,CO 14 [.sl (aF ti) ti.length true,.sl (cR (qs.map Sq.c)) qs.length false,.int .i64 6,.str nm] (.ret (.int .i64 ((S3 nm:Nat):Int)))) (hx:(List.drop ((Int.toNat (k:Int))*1) [.str [111,116,104,101,114],.str [97],.str [98],.str [116,97,120],.str [119,97,103,101],.str [120,95,49],.str [97,50,51,52,53,54,55,56,57,48,49,50,51,52,53,54,55,56,57,48]])= [AV.str nm]++rx) (b0:((((S3 nm):Nat):Int)==(IntKind.wrap .i64 (((3:Nat):Int) - (((S1 nm):Nat):Int))))=true) (b1:((((S2 nm):Nat):Int)==(IntKind.wrap .i64 (((3:Nat):Int) - (((S1 nm):Nat):Int))))=true) (b2:wn=true) (b3:((((S1 nm):Nat):Int)==((1:Nat):Int))=true) (b4:(decide (((0:Nat):Int)≤(k:Int)))=true) (b6:(decide ((k:Int)<((7:Nat):Int)))=true):ah prog ap [] nt (aa 0 (af f6)) (jr wn wa wb e mi ti qs k) (.normal) (jr wn wa wb e mi ti qs (k+1)):=pN 6 [] 6 15 (.c (aG b0) (.c (aG b1) (.c (ay b2) (.k 2 (ay b3) (.k 1 b4 (.c b6 (.c (ay b6) .nil))))))) (.v 84 (.eq (tT hk)) (.c (A3 nm) (.c (A2 nm) (.c (A1 nm) (.v 51 (.ppt hx) .nil))))) hn
theorem Xp {nt:Nat} (hn:86≤nt) (wn:Bool) (wa wb:List UInt8) (e mi ti:List Nd) (qs:List Sq) (k:Nat) (S1 S2 S3:List UInt8→Nat) (nm:List UInt8) (rx:List AV) (hk:k<2^62) (A1:∀ nm,CO 14 [.sl (aF e) e.length true,.sl (cR (qs.map Sq.c)) qs.length false,.int .i64 6,.str nm] (.ret (.int .i64 ((S1 nm:Nat):Int)))) (A2:∀ nm,CO 14 [.sl (aF mi) mi.length true,.sl (cR (qs.map Sq.c)) qs.length false,.int .i64 6,.str nm] (.ret (.int .i64 ((S2 nm:Nat):Int)))) (A3:∀ nm,CO 14 [.sl (aF ti) ti.length true,.sl (cR (qs.map Sq.c)) qs.length false,.int .i64 6,.str nm] (.ret (.int .i64 ((S3 nm:Nat):Int)))) (hx:(List.drop ((Int.toNat (k:Int))*1) [.str [111,116,104,101,114],.str [97],.str [98],.str [116,97,120],.str [119,97,103,101],.str [120,95,49],.str [97,50,51,52,53,54,55,56,57,48,49,50,51,52,53,54,55,56,57,48]])= [AV.str nm]++rx) (b0:((((S3 nm):Nat):Int)==(((S1 nm):Nat):Int))=true) (b1:((((S2 nm):Nat):Int)==(IntKind.wrap .i64 (((3:Nat):Int) - (((S1 nm):Nat):Int))))=true) (b2:wn=false) (b3:((((S1 nm):Nat):Int)==((1:Nat):Int))=true) (b4:(decide (((0:Nat):Int)≤(k:Int)))=true) (b6:(decide ((k:Int)<((7:Nat):Int)))=true):ah prog ap [] nt (aa 0 (af f6)) (jr wn wa wb e mi ti qs k) (.normal) (jr wn wa wb e mi ti qs (k+1)):=pN 6 [] 6 7 (.c (aG b0) (.c (aG b1) (.c (aB b2) (.k 2 (ay b3) (.k 1 b4 (.c b6 (.c (ay b6) .nil))))))) (.v 84 (.eq (tT hk)) (.c (A3 nm) (.c (A2 nm) (.c (A1 nm) (.v 51 (.ppt hx) .nil))))) hn
theorem Xq {nt:Nat} (hn:86≤nt) (wn:Bool) (wa wb:List UInt8) (e mi ti:List Nd) (qs:List Sq) (k:Nat) (S1 S2 S3:List UInt8→Nat) (nm:List UInt8) (rx:List AV) (hk:k<2^62) (A1:∀ nm,CO 14 [.sl (aF e) e.length true,.sl (cR (qs.map Sq.c)) qs.length false,.int .i64 6,.str nm] (.ret (.int .i64 ((S1 nm:Nat):Int)))) (A2:∀ nm,CO 14 [.sl (aF mi) mi.length true,.sl (cR (qs.map Sq.c)) qs.length false,.int .i64 6,.str nm] (.ret (.int .i64 ((S2 nm:Nat):Int)))) (A3:∀ nm,CO 14 [.sl (aF ti) ti.length true,.sl (cR (qs.map Sq.c)) qs.length false,.int .i64 6,.str nm] (.ret (.int .i64 ((S3 nm:Nat):Int)))) (hx:(List.drop ((Int.toNat (k:Int))*1) [.str [111,116,104,101,114],.str [97],.str [98],.str [116,97,120],.str [119,97,103,101],.str [120,95,49],.str [97,50,51,52,53,54,55,56,57,48,49,50,51,52,53,54,55,56,57,48]])= [AV.str nm]++rx) (b0:((((S3 nm):Nat):Int)==(IntKind.wrap .i64 (((3:Nat):Int) - (((S1 nm):Nat):Int))))=true) (b1:((((S2 nm):Nat):Int)==(IntKind.wrap .i64 (((3:Nat):Int) - (((S1 nm):Nat):Int))))=true) (b2:wn=true) (b3:((((S1 nm):Nat):Int)==((2:Nat):Int))=true) (b4:((((S1 nm):Nat):Int)==((1:Nat):Int))=false) (b5:(decide (((0:Nat):Int)≤(k:Int)))=true) (b7:(decide ((k:Int)<((7:Nat):Int)))=true):ah prog ap [] nt (aa 0 (af f6)) (jr wn wa wb e mi ti qs k) (.normal) (jr wn wa wb e mi ti qs (k+1)):=pN 6 [] 6 13 (.c (aG b0) (.c (aG b1) (.c (ay b2) (.k 1 (ay b3) (.c (aB b4) (.k 1 b5 (.c b7 (.c (ay b7) .nil)))))))) (.v 84 (.eq (tT hk)) (.c (A3 nm) (.c (A2 nm) (.c (A1 nm) (.v 51 (.ppt hx) .nil))))) hn
theorem Xr {nt:Nat} (hn:86≤nt) (wn:Bool) (wa wb:List UInt8) (e mi ti:List Nd) (qs:List Sq) (k:Nat) (S1 S2 S3:List UInt8→Nat) (nm:List UInt8) (rx:List AV) (hk:k<2^62) (A1:∀ nm,CO 14 [.sl (aF e) e.length true,.sl (cR (qs.map Sq.c)) qs.length false,.int .i64 6,.str nm] (.ret (.int .i64 ((S1 nm:Nat):Int)))) (A2:∀ nm,CO 14 [.sl (aF mi) mi.length true,.sl (cR (qs.map Sq.c)) qs.length false,.int .i64 6,.str nm] (.ret (.int .i64 ((S2 nm:Nat):Int)))) (A3:∀ nm,CO 14 [.sl (aF ti) ti.length true,.sl (cR (qs.map Sq.c)) qs.length false,.int .i64 6,.str nm] (.ret (.int .i64 ((S3 nm:Nat):Int)))) (hx:(List.drop ((Int.toNat (k:Int))*1) [.str [111,116,104,101,114],.str [97],.str [98],.str [116,97,120],.str [119,97,103,101],.str [120,95,49],.str [97,50,51,52,53,54,55,56,57,48,49,50,51,52,53,54,55,56,57,48]])= [AV.str nm]++rx) (b0:((((S3 nm):Nat):Int)==(((S1 nm):Nat):Int))=true) (b1:((((S2 nm):Nat):Int)==(IntKind.wrap .i64 (((3:Nat):Int) - (((S1 nm):Nat):Int))))=true) (b2:wn=false) (b3:((((S1 nm):Nat):Int)==((2:Nat):Int))=true) (b4:((((S1 nm):Nat):Int)==((1:Nat):Int))=false) (b5:(decide (((0:Nat):Int)≤(k:Int)))=true) (b7:(decide ((k:Int)<((7:Nat):Int)))=true):ah prog ap [] nt (aa 0 (af f6)) (jr wn wa wb e mi ti qs k) (.normal) (jr wn wa wb e mi ti qs (k+1)):=pN 6 [] 6 5 (.c (aG b0) (.c (aG b1) (.c (aB b2) (.k 1 (ay b3) (.c (aB b4) (.k 1 b5 (.c b7 (.c (ay b7) .nil)))))))) (.v 84 (.eq (tT hk)) (.c (A3 nm) (.c (A2 nm) (.c (A1 nm) (.v 51 (.ppt hx) .nil))))) hn
theorem Xt {nt:Nat} (hn:86≤nt) (wn:Bool) (wa wb:List UInt8) (e mi ti:List Nd) (qs:List Sq) (k:Nat) (S1 S2 S3:List UInt8→Nat) (nm:List UInt8) (rx:List AV) (hk:k<2^62) (A1:∀ nm,CO 14 [.sl (aF e) e.length true,.sl (cR (qs.map Sq.c)) qs.length false,.int .i64 6,.str nm] (.ret (.int .i64 ((S1 nm:Nat):Int)))) (A2:∀ nm,CO 14 [.sl (aF mi) mi.length true,.sl (cR (qs.map Sq.c)) qs.length false,.int .i64 6,.str nm] (.ret (.int .i64 ((S2 nm:Nat):Int)))) (A3:∀ nm,CO 14 [.sl (aF ti) ti.length true,.sl (cR (qs.map Sq.c)) qs.length false,.int .i64 6,.str nm] (.ret (.int .i64 ((S3 nm:Nat):Int)))) (hx:(List.drop ((Int.toNat (k:Int))*1) [.str [111,116,104,101,114],.str [97],.str [98],.str [116,97,120],.str [119,97,103,101],.str [120,95,49],.str [97,50,51,52,53,54,55,56,57,48,49,50,51,52,53,54,55,56,57,48]])= [AV.str nm]++rx) (b0:((((S3 nm):Nat):Int)==(((S1 nm):Nat):Int))=true) (b1:((((S2 nm):Nat):Int)==(((S1 nm):Nat):Int))=true) (b2:wn=true) (b3:((((S1 nm):Nat):Int)==((2:Nat):Int))=false) (b4:((((S1 nm):Nat):Int)==((1:Nat):Int))=false) (b5:(decide (((0:Nat):Int)≤(k:Int)))=true) (b7:(decide ((k:Int)<((7:Nat):Int)))=true):ah prog ap [] nt (aa 0 (af f6)) (jr wn wa wb e mi ti qs k) (.normal) (jr wn wa wb e mi ti qs (k+1)):=pN 6 [] 6 9 (.c (aG b0) (.c (aG b1) (.c (ay b2) (.k 1 (aB b3) (.c (aB b4) (.k 1 b5 (.c b7 (.c (ay b7) .nil)))))))) (.v 84 (.eq (tT hk)) (.c (A3 nm) (.c (A2 nm) (.c (A1 nm) (.v 51 (.ppt hx) .nil))))) hn
theorem Xu {nt:Nat} (hn:86≤nt) (wn:Bool) (wa wb:List UInt8) (e mi ti:List Nd) (qs:List Sq) (k:Nat) (S1 S2 S3:List UInt8→Nat) (nm:List UInt8) (rx:List AV) (hk:k<2^62) (A1:∀ nm,CO 14 [.sl (aF e) e.length true,.sl (cR (qs.map Sq.c)) qs.length false,.int .i64 6,.str nm] (.ret (.int .i64 ((S1 nm:Nat):Int)))) (A2:∀ nm,CO 14 [.sl (aF mi) mi.length true,.sl (cR (qs.map Sq.c)) qs.length false,.int .i64 6,.str nm] (.ret (.int .i64 ((S2 nm:Nat):Int)))) (A3:∀ nm,CO 14 [.sl (aF ti) ti.length true,.sl (cR (qs.map Sq.c)) qs.length false,.int .i64 6,.str nm] (.ret (.int .i64 ((S3 nm:Nat):Int)))) (hx:(List.drop ((Int.toNat (k:Int))*1) [.str [111,116,104,101,114],.str [97],.str [98],.str [116,97,120],.str [119,97,103,101],.str [120,95,49],.str [97,50,51,52,53,54,55,56,57,48,49,50,51,52,53,54,55,56,57,48]])= [AV.str nm]++rx) (b0:((((S3 nm):Nat):Int)==(((S1 nm):Nat):Int))=true) (b1:((((S2 nm):Nat):Int)==(((S1 nm):Nat):Int))=true) (b2:wn=false) (b3:((((S1 nm):Nat):Int)==((2:Nat):Int))=false) (b4:((((S1 nm):Nat):Int)==((1:Nat):Int))=false) (b5:(decide (((0:Nat):Int)≤(k:Int)))=true) (b7:(decide ((k:Int)<((7:Nat):Int)))=true):ah prog ap [] nt (aa 0 (af f6)) (jr wn wa wb e mi ti qs k) (.normal) (jr wn wa wb e mi ti qs (k+1)):=pN 6 [] 6 1 (.c (aG b0) (.c (aG b1) (.c (aB b2) (.k 1 (aB b3) (.c (aB b4) (.k 1 b5 (.c b7 (.c (ay b7) .nil)))))))) (.v 84 (.eq (tT hk)) (.c (A3 nm) (.c (A2 nm) (.c (A1 nm) (.v 51 (.ppt hx) .nil))))) hn
def EX:St:=⟨[(7,.bool true)],[],.dead,[]⟩
theorem Xv {nt:Nat} (hn:86≤nt) (wn:Bool) (wa wb:List UInt8) (e mi ti:List Nd) (qs:List Sq) (k:Nat) (b0:(decide ((k:Int)<((7:Nat):Int)))=false):ah prog ap [] nt (aa 0 (af f6)) (jr wn wa wb e mi ti qs k) (.exit 0) (EX):=pN 6 [] 1 0 (.c (aB b0) .nil) (.nil) hn
def Xn (xs:List Int) (ts:List (Int × Int × Int)) (q0 q1 q2:Int) (na nb:Bool) (wn:Bool) (wa wb:List UInt8) (e:List Nd) (qs:List Sq):St:=⟨[(0,.sl (iL xs) xs.length na),(1,.sl (tL ts) ts.length nb),(2,.agg [.int .i64 q0,.int .i64 q1,.int .i64 q2]),(5,.ptr 0 0 0),(6,.bool false),(7,.bool true),(8,.ref 1 0 0 e.length),(9,.nilS),(10,.ptr 2 0 0),(11,.ref 3 0 0 ((1+e.length)+1)),(12,.ref 4 0 0 ((1+e.length)+1)),(14,.dead),(15,.dead),(16,.dead),(17,.dead),(47,.ref 5 0 0 7),(48,.int .i64 7),(49,.int .i64 0),(50,.dead),(63,.dead),(68,.dead),(83,.dead)],[(0,⟨[.int .i64 q0,.int .i64 q1,.int .i64 q2],0,false,0,0,true⟩),(1,⟨(aF e),0,false,0,5,true⟩),(2,⟨[.bool wn,.str wa,.str wb],0,false,0,0,true⟩),(3,⟨((List.take ((1+e.length)*5) ([.int .i64 1,.bool wn,.str wa,.str wb,.str []]++(List.take (e.length*5) (aF e))))++ [.int .i64 10,.bool false,.str [],.str [],.str []]),0,false,0,5,true⟩),(4,⟨((List.take ((1+e.length)*5) ([.int .i64 3,.bool wn,.str wa,.str wb,.str []]++(List.take (e.length*5) (aF e))))++ [.int .i64 11,.bool false,.str [],.str [],.str []]),0,false,0,5,true⟩),(5,⟨[.str [111,116,104,101,114],.str [97],.str [98],.str [116,97,120],.str [119,97,103,101],.str [120,95,49],.str [97,50,51,52,53,54,55,56,57,48,49,50,51,52,53,54,55,56,57,48]],0,false,0,1,true⟩)],.dead,[]⟩
theorem aer (xs:List Int) (ts:List (Int × Int × Int)) (q0 q1 q2:Int) (na nb:Bool) (wn:Bool) (wa wb:List UInt8) (e:List Nd) (qs:List Sq) (b0:(Nat.ble ((1+e.length)+1) 1099511627776)=true) (b1:(Nat.ble ((1+e.length)*5) (List.length ([.int .i64 3,.bool wn,.str wa,.str wb,.str []]++(List.take (e.length*5) (aF e)))))=true) (b2:(Nat.beq (List.length (List.take (e.length*5) (aF e))) (e.length*5))=true) (b3:(Nat.ble (1+e.length) 1099511627776)=true) (b4:(Nat.ble ((1+e.length)*5) (List.length ([.int .i64 1,.bool wn,.str wa,.str wb,.str []]++(List.take (e.length*5) (aF e)))))=true) (b5:(decide (((0:Nat):Int)≤(if ((28:Nat):Int)<(xs.length:Int) then ((28:Nat):Int) else (xs.length:Int))))=true) (b6:(decide ((if ((28:Nat):Int)<(xs.length:Int) then ((28:Nat):Int) else (xs.length:Int))≤(xs.length:Int)))=true) (hs:CO 10 [] (.ret (.bool true))) (hm:CO 11 [.sl (List.take ((Int.toNat (if ((28:Nat):Int)<(xs.length:Int) then ((28:Nat):Int) else (xs.length:Int)))*1) (iL xs)) ((Int.toNat (if ((28:Nat):Int)<(xs.length:Int) then ((28:Nat):Int) else (xs.length:Int))) - 0) na] (.ret (.own (aF e) e.length 5))) (hc:CO 12 [.sl (tL ts) ts.length nb] (.ret (.nilS))) (hw:CO 19 [.agg [.int .i64 q0,.int .i64 q1,.int .i64 q2]] (.ret (.agg [.bool wn,.str wa,.str wb]))) (hn:CO 13 [] (.ret (.own [.str [111,116,104,101,114],.str [97],.str [98],.str [116,97,120],.str [119,97,103,101],.str [120,95,49],.str [97,50,51,52,53,54,55,56,57,48,49,50,51,52,53,54,55,56,57,48]] 7 1))) (l0:az prog ap [] 86 (.block 0 (.loop (aa 0 (af f6)))) (Xn xs ts q0 q1 q2 na nb wn wa wb e qs) (.normal) ⟨[(7,.bool true)],[],.dead,[]⟩):CO 6 [.sl (iL xs) xs.length na,.sl (tL ts) ts.length nb,.agg [.int .i64 q0,.int .i64 q1,.int .i64 q2]] (.ret (.bool true)):=pK [0] 0 0 (.k 1 b0 (.c b1 (.k 1 b2 (.c b3 (.k 6 b0 (.c b4 (.k 1 b2 (.c b3 (.k 10 b5 (.c b6 .nil)))))))))) (.l l0 (.c hn (.c hw (.c hc (.c hm (.c hs .nil))))))
def Xm (xs:List Int) (ts:List (Int × Int × Int)) (q0 q1 q2:Int) (na nb:Bool) (wn:Bool) (wa wb:List UInt8) (e:List Nd) (qs:List Sq):St:=⟨[(0,.sl (iL xs) xs.length na),(1,.sl (tL ts) ts.length nb),(2,.agg [.int .i64 q0,.int .i64 q1,.int .i64 q2]),(5,.ptr 0 0 0),(6,.bool false),(7,.bool true),(8,.ref 1 0 0 e.length),(9,.ref 2 0 0 qs.length),(10,.ptr 3 0 0),(11,.ref 4 0 0 ((1+e.length)+1)),(12,.ref 5 0 0 ((1+e.length)+1)),(14,.dead),(15,.dead),(16,.dead),(17,.dead),(47,.ref 6 0 0 7),(48,.int .i64 7),(49,.int .i64 0),(50,.dead),(63,.dead),(68,.dead),(83,.dead)],[(0,⟨[.int .i64 q0,.int .i64 q1,.int .i64 q2],0,false,0,0,true⟩),(1,⟨(aF e),0,false,0,5,true⟩),(2,⟨(cR (qs.map Sq.c)),0,false,0,4,true⟩),(3,⟨[.bool wn,.str wa,.str wb],0,false,0,0,true⟩),(4,⟨((List.take ((1+e.length)*5) ([.int .i64 1,.bool wn,.str wa,.str wb,.str []]++(List.take (e.length*5) (aF e))))++ [.int .i64 10,.bool false,.str [],.str [],.str []]),0,false,0,5,true⟩),(5,⟨((List.take ((1+e.length)*5) ([.int .i64 3,.bool wn,.str wa,.str wb,.str []]++(List.take (e.length*5) (aF e))))++ [.int .i64 11,.bool false,.str [],.str [],.str []]),0,false,0,5,true⟩),(6,⟨[.str [111,116,104,101,114],.str [97],.str [98],.str [116,97,120],.str [119,97,103,101],.str [120,95,49],.str [97,50,51,52,53,54,55,56,57,48,49,50,51,52,53,54,55,56,57,48]],0,false,0,1,true⟩)],.dead,[]⟩
theorem aeq (xs:List Int) (ts:List (Int × Int × Int)) (q0 q1 q2:Int) (na nb:Bool) (wn:Bool) (wa wb:List UInt8) (e:List Nd) (qs:List Sq) (b0:(Nat.ble ((1+e.length)+1) 1099511627776)=true) (b1:(Nat.ble ((1+e.length)*5) (List.length ([.int .i64 3,.bool wn,.str wa,.str wb,.str []]++(List.take (e.length*5) (aF e)))))=true) (b2:(Nat.beq (List.length (List.take (e.length*5) (aF e))) (e.length*5))=true) (b3:(Nat.ble (1+e.length) 1099511627776)=true) (b4:(Nat.ble ((1+e.length)*5) (List.length ([.int .i64 1,.bool wn,.str wa,.str wb,.str []]++(List.take (e.length*5) (aF e)))))=true) (b5:(decide (((0:Nat):Int)≤(if ((28:Nat):Int)<(xs.length:Int) then ((28:Nat):Int) else (xs.length:Int))))=true) (b6:(decide ((if ((28:Nat):Int)<(xs.length:Int) then ((28:Nat):Int) else (xs.length:Int))≤(xs.length:Int)))=true) (hs:CO 10 [] (.ret (.bool true))) (hm:CO 11 [.sl (List.take ((Int.toNat (if ((28:Nat):Int)<(xs.length:Int) then ((28:Nat):Int) else (xs.length:Int)))*1) (iL xs)) ((Int.toNat (if ((28:Nat):Int)<(xs.length:Int) then ((28:Nat):Int) else (xs.length:Int))) - 0) na] (.ret (.own (aF e) e.length 5))) (hc:CO 12 [.sl (tL ts) ts.length nb] (.ret (.own (cR (qs.map Sq.c)) qs.length 4))) (hw:CO 19 [.agg [.int .i64 q0,.int .i64 q1,.int .i64 q2]] (.ret (.agg [.bool wn,.str wa,.str wb]))) (hn:CO 13 [] (.ret (.own [.str [111,116,104,101,114],.str [97],.str [98],.str [116,97,120],.str [119,97,103,101],.str [120,95,49],.str [97,50,51,52,53,54,55,56,57,48,49,50,51,52,53,54,55,56,57,48]] 7 1))) (l0:az prog ap [] 86 (.block 0 (.loop (aa 0 (af f6)))) (Xm xs ts q0 q1 q2 na nb wn wa wb e qs) (.normal) ⟨[(7,.bool true)],[],.dead,[]⟩):CO 6 [.sl (iL xs) xs.length na,.sl (tL ts) ts.length nb,.agg [.int .i64 q0,.int .i64 q1,.int .i64 q2]] (.ret (.bool true)):=pK [0] 0 0 (.k 1 b0 (.c b1 (.k 1 b2 (.c b3 (.k 6 b0 (.c b4 (.k 1 b2 (.c b3 (.k 10 b5 (.c b6 .nil)))))))))) (.l l0 (.c hn (.c hw (.c hc (.c hm (.c hs .nil))))))
end Go.Proofs.Tryz
set_option maxRecDepth 100000
open Go AM
namespace Go.Proofs.Tryz
theorem Hk:∀ (r:List Nd) (d e k:Nat),cO r d= .inl e→cO r (d+k)= .inl (e+k)
 | [],d,e,k,h=>by simp only [cO,Sum.inl.injEq] at*;omega
 |x::r,d,e,k,h=>by
  obtain ⟨h1,h2,h3⟩:=ma h
  simp only [cO,if_pos h1]
  rw [if_neg (by omega),show d+k - bX x.op+1=d - bX x.op+1+k by omega]
  exact Hk r _ _ k h3
theorem CH:∀ (r s:List Nd) (d e:Nat),cO r d= .inl e→cO (r++s) d=cO s e
 | [],s,d,e,h=>by simp only [cO,Sum.inl.injEq] at h;subst h;rfl
 |x::r,s,d,e,h=>by
  obtain ⟨h1,h2,h3⟩:=ma h
  simp only [List.cons_append,cO,if_pos h1]
  rw [if_neg (by omega)]
  exact CH r s _ _ h3
def nmL:List (List UInt8):= [[111,116,104,101,114],[97],[98],[116,97,120],[119,97,103,101],[120,95,49],[97,50,51,52,53,54,55,56,57,48,49,50,51,52,53,54,55,56,57,48]]
theorem LS {k:Nat} (h:k<7):List.drop ((Int.toNat (k:Int))*1) [.str [111,116,104,101,114],.str [97],.str [98],.str [116,97,120],.str [119,97,103,101],.str [120,95,49],.str [97,50,51,52,53,54,55,56,57,48,49,50,51,52,53,54,55,56,57,48]]= [AV.str (nmL.getD k [])]++(nmL.drop (k+1)).map .str:=by
 match k,h with
 |0,_=>rfl
 |1,_=>rfl
 |2,_=>rfl
 |3,_=>rfl
 |4,_=>rfl
 |5,_=>rfl
 |6,_=>rfl
theorem NI (e:List Nd):aM (.sl ((List.drop (0*5) (aF e)).take (e.length*5)) e.length true) (.sl (aF e) e.length true):=by
 rw [Nat.zero_mul,List.drop_zero,BV];exact aM.refl _
theorem Ve (qs:List Sq):aM (.sl ((List.drop (0*4) (cR (qs.map Sq.c))).take (qs.length*4)) qs.length true) (.sl (cR (qs.map Sq.c)) qs.length false):=by
 rw [Nat.zero_mul,List.drop_zero,Xg];exact aM.sl _ _ _
end Go.Proofs.Tryz
set_option maxRecDepth 100000
open Go AM
namespace Go.Proofs.Tryz
theorem Ea {x:Nd} {d e k:Nat} (hw:aA x=0) (ha:bX x.op=k) (h:k≤d) (he:d - k+1=e):cO [x] d= .inl e:=by
 simp only [cO,if_pos hw]
 rw [if_neg (by omega),ha,he]
section
variable {ck:Sc→Int} {up:Sc→Bool} {sc:List Sc} {op:Int} {name:List UInt8}
end
theorem mc0 (c n:Nat):decide (((0:Nat):Int)≤(if (c:Int)<(n:Int) then (c:Int) else (n:Int)))=true:=by
 rw [decide_eq_true_iff];split<;>omega
theorem mc1 (c n:Nat):decide ((if (c:Int)<(n:Int) then (c:Int) else (n:Int))≤(n:Int))=true:=by
 rw [decide_eq_true_iff];split<;>omega
theorem mcn (c n:Nat):(Int.toNat (if (c:Int)<(n:Int) then (c:Int) else (n:Int)))=min c n:=by
 split<;>omega
theorem Xf {α:Type} (c:Nat) (l:List α):List.take (min c l.length) l=List.take c l:=by
 rcases Nat.le_total c l.length with h|h
 ·rw [Nat.min_eq_left h]
 ·rw [Nat.min_eq_right h,List.take_length,List.take_of_length_le h]
def ZQ (c:Nat) (xs:List Int) (nn:Bool):AV:=AV.sl (List.take ((Int.toNat (if (c:Int)<(xs.length:Int) then (c:Int) else (xs.length:Int)))*1) (iL xs)) ((Int.toNat (if (c:Int)<(xs.length:Int) then (c:Int) else (xs.length:Int))) - 0) nn
theorem O_ (c:Nat) (xs:List Int) (nn:Bool):ZQ c xs nn= .sl (iL (xs.take c)) (xs.take c).length nn:=by
 unfold ZQ
 rw [mcn,Nat.mul_one,Nat.sub_zero,List.length_take]
 have h:List.take (min c xs.length) (iL xs)=iL (xs.take c):=by
  unfold iL
  rw [← Xf c xs,List.map_take]
 rw [h]
theorem Vf (c:Nat) (hc:c≤30) (xs:List Int) (nn:Bool):∃ e:List Nd,e.length+Ia e≤2*c+1∧e ≠ []∧bC e=0∧(∀ x ∈ e,x.sm)∧CO 11 [ZQ c xs nn] (.ret (.own (aF e) e.length 5)):=by
 rw [O_]
 obtain ⟨e,h1,h2,_,h4,h5,h6⟩:=FP (xs.take c) nn
 refine ⟨e, ?_,h2,h4,h5,h6⟩
 rw [List.length_take] at h1
 omega
end Go.Proofs.Tryz
set_option maxRecDepth 100000
open Go AM
namespace Go.Proofs.Tryz
theorem B_ (e:List Nd) (x y:Nd):aM (.sl ((List.drop (0*5) ((List.take ((1+e.length)*5) (lO x++(List.take (e.length*5) (aF e))))++lO y)).take (((1+e.length)+1)*5)) ((1+e.length)+1) true) (.sl (aF ([x]++e++ [y])) ([x]++e++ [y]).length true):=by
 have h1:List.take ((1+e.length)*5) (lO x++(List.take (e.length*5) (aF e)))=lO x++aF e:=by
  rw [BV]
  exact List.take_of_length_le (by rw [List.length_append,fe];show 5+_≤_;omega)
 have h2:lO x++aF e++lO y=aF ([x]++e++ [y]):=by rw [tH,tH];simp [aF]
 have h3:([x]++e++ [y]).length=(1+e.length)+1:=by simp;omega
 rw [Nat.zero_mul,List.drop_zero,h1,h2,← h3,BV]
 exact aM.refl _
theorem aei (xs:List Int) (ts:List (Int × Int × Int)) (q0 q1 q2:Int) (na nb:Bool) (wn:Bool) (wa wb:List UInt8) (e mi ti:List Nd) (qs:List Sq) (fm:aM (.sl ((List.drop (0*5) ((List.take ((1+e.length)*5) ([.int .i64 1,.bool wn,.str wa,.str wb,.str []]++(List.take (e.length*5) (aF e))))++ [.int .i64 10,.bool false,.str [],.str [],.str []])).take (((1+e.length)+1)*5)) ((1+e.length)+1) true) (.sl (aF mi) mi.length true)) (ft:aM (.sl ((List.drop (0*5) ((List.take ((1+e.length)*5) ([.int .i64 3,.bool wn,.str wa,.str wb,.str []]++(List.take (e.length*5) (aF e))))++ [.int .i64 11,.bool false,.str [],.str [],.str []])).take (((1+e.length)+1)*5)) ((1+e.length)+1) true) (.sl (aF ti) ti.length true)) (s2:St) (h:az prog ap [] 86 (.block 0 (.loop (aa 0 (af f6)))) (jr wn wa wb e mi ti [] 0) .normal s2):az prog ap [] 86 (.block 0 (.loop (aa 0 (af f6)))) (Xn xs ts q0 q1 q2 na nb wn wa wb e qs) .normal s2:=by
 intro nt hn
 refine ah.ahead 5 ⟨[AV.str [111,116,104,101,114],AV.str [97],AV.str [98],AV.str [116,97,120],AV.str [119,97,103,101],AV.str [120,95,49],AV.str [97,50,51,52,53,54,55,56,57,48,49,50,51,52,53,54,55,56,57,48]],0,false,0,1,true⟩ (en':= [(7,.bool true),(8,.ref 1 0 0 e.length),(9,.sl (cR (([]:List Sq).map Sq.c)) ([]:List Sq).length false),(10,.ptr 2 0 0),(11,.ref 3 0 0 ((1+e.length)+1)),(12,.ref 4 0 0 ((1+e.length)+1)),(47,.sl [.str [111,116,104,101,114],.str [97],.str [98],.str [116,97,120],.str [119,97,103,101],.str [120,95,49],.str [97,50,51,52,53,54,55,56,57,48,49,50,51,52,53,54,55,56,57,48]] 7 true),(48,.int .i64 7),(49,.int .i64 0)]) (hp':= [(0,⟨[.int .i64 q0,.int .i64 q1,.int .i64 q2],0,false,0,0,true⟩),(1,⟨(aF e),0,false,0,5,true⟩),(2,⟨[.bool wn,.str wa,.str wb],0,false,0,0,true⟩),(3,⟨((List.take ((1+e.length)*5) ([.int .i64 1,.bool wn,.str wa,.str wb,.str []]++(List.take (e.length*5) (aF e))))++ [.int .i64 10,.bool false,.str [],.str [],.str []]),0,false,0,5,true⟩),(4,⟨((List.take ((1+e.length)*5) ([.int .i64 3,.bool wn,.str wa,.str wb,.str []]++(List.take (e.length*5) (aF e))))++ [.int .i64 11,.bool false,.str [],.str [],.str []]),0,false,0,5,true⟩)]) ?_ (Nat.zero_le _) rfl ⟨.same rfl,.same rfl,.fit (.same rfl) (aM.nilS false rfl),.same rfl,.same rfl,.same rfl,.ref,.same rfl,.same rfl,trivial⟩ ⟨rfl,gS.same rfl,by decide,rfl,gS.same rfl,by decide,rfl,gS.same rfl,by decide,rfl,gS.same rfl,by decide,rfl,gS.same rfl,by decide,rfl⟩
 refine ah.ahead 4 ⟨((List.take ((1+e.length)*5) ([AV.int .i64 3,AV.bool wn,AV.str wa,AV.str wb,AV.str []]++(List.take (e.length*5) (aF e))))++ [AV.int .i64 11,AV.bool false,AV.str [],AV.str [],AV.str []]),0,false,0,5,true⟩ (en':= [(7,.bool true),(8,.ref 1 0 0 e.length),(9,.sl (cR (([]:List Sq).map Sq.c)) ([]:List Sq).length false),(10,.ptr 2 0 0),(11,.ref 3 0 0 ((1+e.length)+1)),(12,.sl (aF ti) ti.length true),(47,.sl [.str [111,116,104,101,114],.str [97],.str [98],.str [116,97,120],.str [119,97,103,101],.str [120,95,49],.str [97,50,51,52,53,54,55,56,57,48,49,50,51,52,53,54,55,56,57,48]] 7 true),(48,.int .i64 7),(49,.int .i64 0)]) (hp':= [(0,⟨[.int .i64 q0,.int .i64 q1,.int .i64 q2],0,false,0,0,true⟩),(1,⟨(aF e),0,false,0,5,true⟩),(2,⟨[.bool wn,.str wa,.str wb],0,false,0,0,true⟩),(3,⟨((List.take ((1+e.length)*5) ([.int .i64 1,.bool wn,.str wa,.str wb,.str []]++(List.take (e.length*5) (aF e))))++ [.int .i64 10,.bool false,.str [],.str [],.str []]),0,false,0,5,true⟩)]) ?_ (Nat.zero_le _) rfl ⟨.same rfl,.same rfl,.same rfl,.same rfl,.same rfl,.fit .ref ft,.same rfl,.same rfl,.same rfl,trivial⟩ ⟨rfl,gS.same rfl,by decide,rfl,gS.same rfl,by decide,rfl,gS.same rfl,by decide,rfl,gS.same rfl,by decide,rfl⟩
 refine ah.ahead 3 ⟨((List.take ((1+e.length)*5) ([AV.int .i64 1,AV.bool wn,AV.str wa,AV.str wb,AV.str []]++(List.take (e.length*5) (aF e))))++ [AV.int .i64 10,AV.bool false,AV.str [],AV.str [],AV.str []]),0,false,0,5,true⟩ (en':= [(7,.bool true),(8,.ref 1 0 0 e.length),(9,.sl (cR (([]:List Sq).map Sq.c)) ([]:List Sq).length false),(10,.ptr 2 0 0),(11,.sl (aF mi) mi.length true),(12,.sl (aF ti) ti.length true),(47,.sl [.str [111,116,104,101,114],.str [97],.str [98],.str [116,97,120],.str [119,97,103,101],.str [120,95,49],.str [97,50,51,52,53,54,55,56,57,48,49,50,51,52,53,54,55,56,57,48]] 7 true),(48,.int .i64 7),(49,.int .i64 0)]) (hp':= [(0,⟨[.int .i64 q0,.int .i64 q1,.int .i64 q2],0,false,0,0,true⟩),(1,⟨(aF e),0,false,0,5,true⟩),(2,⟨[.bool wn,.str wa,.str wb],0,false,0,0,true⟩)]) ?_ (Nat.zero_le _) rfl ⟨.same rfl,.same rfl,.same rfl,.same rfl,.fit .ref fm,.same rfl,.same rfl,.same rfl,.same rfl,trivial⟩ ⟨rfl,gS.same rfl,by decide,rfl,gS.same rfl,by decide,rfl,gS.same rfl,by decide,rfl⟩
 refine ah.before 1 ⟨(aF e),0,false,0,5,true⟩ (en':= [(7,.bool true),(8,.sl (aF e) e.length true),(9,.sl (cR (([]:List Sq).map Sq.c)) ([]:List Sq).length false),(10,.ptr 2 0 0),(11,.sl (aF mi) mi.length true),(12,.sl (aF ti) ti.length true),(47,.sl [.str [111,116,104,101,114],.str [97],.str [98],.str [116,97,120],.str [119,97,103,101],.str [120,95,49],.str [97,50,51,52,53,54,55,56,57,48,49,50,51,52,53,54,55,56,57,48]] 7 true),(48,.int .i64 7),(49,.int .i64 0)]) (hp':= [(0,⟨[.int .i64 q0,.int .i64 q1,.int .i64 q2],0,false,0,0,true⟩),(2,⟨[.bool wn,.str wa,.str wb],0,false,0,0,true⟩)]) ?_ (Nat.zero_le _) rfl ⟨.same rfl,.fit .ref (NI e),.same rfl,.same rfl,.same rfl,.same rfl,.same rfl,.same rfl,.same rfl,trivial⟩ (.step (gS.same rfl) (by decide) (.here (.cons (gS.same rfl) (by decide) .nil)))
 refine ah.tidy [7,8,9,10,11,12,47,48,49] (s1:=jr wn wa wb e mi ti [] 0) ?_ (by kernel_rfl) rfl
 exact h nt hn
theorem aeh (xs:List Int) (ts:List (Int × Int × Int)) (q0 q1 q2:Int) (na nb:Bool) (wn:Bool) (wa wb:List UInt8) (e mi ti:List Nd) (qs:List Sq) (fm:aM (.sl ((List.drop (0*5) ((List.take ((1+e.length)*5) ([.int .i64 1,.bool wn,.str wa,.str wb,.str []]++(List.take (e.length*5) (aF e))))++ [.int .i64 10,.bool false,.str [],.str [],.str []])).take (((1+e.length)+1)*5)) ((1+e.length)+1) true) (.sl (aF mi) mi.length true)) (ft:aM (.sl ((List.drop (0*5) ((List.take ((1+e.length)*5) ([.int .i64 3,.bool wn,.str wa,.str wb,.str []]++(List.take (e.length*5) (aF e))))++ [.int .i64 11,.bool false,.str [],.str [],.str []])).take (((1+e.length)+1)*5)) ((1+e.length)+1) true) (.sl (aF ti) ti.length true)) (s2:St) (h:az prog ap [] 86 (.block 0 (.loop (aa 0 (af f6)))) (jr wn wa wb e mi ti qs 0) .normal s2):az prog ap [] 86 (.block 0 (.loop (aa 0 (af f6)))) (Xm xs ts q0 q1 q2 na nb wn wa wb e qs) .normal s2:=by
 intro nt hn
 refine ah.ahead 6 ⟨[AV.str [111,116,104,101,114],AV.str [97],AV.str [98],AV.str [116,97,120],AV.str [119,97,103,101],AV.str [120,95,49],AV.str [97,50,51,52,53,54,55,56,57,48,49,50,51,52,53,54,55,56,57,48]],0,false,0,1,true⟩ (en':= [(7,.bool true),(8,.ref 1 0 0 e.length),(9,.ref 2 0 0 qs.length),(10,.ptr 3 0 0),(11,.ref 4 0 0 ((1+e.length)+1)),(12,.ref 5 0 0 ((1+e.length)+1)),(47,.sl [.str [111,116,104,101,114],.str [97],.str [98],.str [116,97,120],.str [119,97,103,101],.str [120,95,49],.str [97,50,51,52,53,54,55,56,57,48,49,50,51,52,53,54,55,56,57,48]] 7 true),(48,.int .i64 7),(49,.int .i64 0)]) (hp':= [(0,⟨[.int .i64 q0,.int .i64 q1,.int .i64 q2],0,false,0,0,true⟩),(1,⟨(aF e),0,false,0,5,true⟩),(2,⟨(cR (qs.map Sq.c)),0,false,0,4,true⟩),(3,⟨[.bool wn,.str wa,.str wb],0,false,0,0,true⟩),(4,⟨((List.take ((1+e.length)*5) ([.int .i64 1,.bool wn,.str wa,.str wb,.str []]++(List.take (e.length*5) (aF e))))++ [.int .i64 10,.bool false,.str [],.str [],.str []]),0,false,0,5,true⟩),(5,⟨((List.take ((1+e.length)*5) ([.int .i64 3,.bool wn,.str wa,.str wb,.str []]++(List.take (e.length*5) (aF e))))++ [.int .i64 11,.bool false,.str [],.str [],.str []]),0,false,0,5,true⟩)]) ?_ (Nat.zero_le _) rfl ⟨.same rfl,.same rfl,.same rfl,.same rfl,.same rfl,.same rfl,.ref,.same rfl,.same rfl,trivial⟩ ⟨rfl,gS.same rfl,by decide,rfl,gS.same rfl,by decide,rfl,gS.same rfl,by decide,rfl,gS.same rfl,by decide,rfl,gS.same rfl,by decide,rfl,gS.same rfl,by decide,rfl⟩
 refine ah.ahead 5 ⟨((List.take ((1+e.length)*5) ([AV.int .i64 3,AV.bool wn,AV.str wa,AV.str wb,AV.str []]++(List.take (e.length*5) (aF e))))++ [AV.int .i64 11,AV.bool false,AV.str [],AV.str [],AV.str []]),0,false,0,5,true⟩ (en':= [(7,.bool true),(8,.ref 1 0 0 e.length),(9,.ref 2 0 0 qs.length),(10,.ptr 3 0 0),(11,.ref 4 0 0 ((1+e.length)+1)),(12,.sl (aF ti) ti.length true),(47,.sl [.str [111,116,104,101,114],.str [97],.str [98],.str [116,97,120],.str [119,97,103,101],.str [120,95,49],.str [97,50,51,52,53,54,55,56,57,48,49,50,51,52,53,54,55,56,57,48]] 7 true),(48,.int .i64 7),(49,.int .i64 0)]) (hp':= [(0,⟨[.int .i64 q0,.int .i64 q1,.int .i64 q2],0,false,0,0,true⟩),(1,⟨(aF e),0,false,0,5,true⟩),(2,⟨(cR (qs.map Sq.c)),0,false,0,4,true⟩),(3,⟨[.bool wn,.str wa,.str wb],0,false,0,0,true⟩),(4,⟨((List.take ((1+e.length)*5) ([.int .i64 1,.bool wn,.str wa,.str wb,.str []]++(List.take (e.length*5) (aF e))))++ [.int .i64 10,.bool false,.str [],.str [],.str []]),0,false,0,5,true⟩)]) ?_ (Nat.zero_le _) rfl ⟨.same rfl,.same rfl,.same rfl,.same rfl,.same rfl,.fit .ref ft,.same rfl,.same rfl,.same rfl,trivial⟩ ⟨rfl,gS.same rfl,by decide,rfl,gS.same rfl,by decide,rfl,gS.same rfl,by decide,rfl,gS.same rfl,by decide,rfl,gS.same rfl,by decide,rfl⟩
 refine ah.ahead 4 ⟨((List.take ((1+e.length)*5) ([AV.int .i64 1,AV.bool wn,AV.str wa,AV.str wb,AV.str []]++(List.take (e.length*5) (aF e))))++ [AV.int .i64 10,AV.bool false,AV.str [],AV.str [],AV.str []]),0,false,0,5,true⟩ (en':= [(7,.bool true),(8,.ref 1 0 0 e.length),(9,.ref 2 0 0 qs.length),(10,.ptr 3 0 0),(11,.sl (aF mi) mi.length true),(12,.sl (aF ti) ti.length true),(47,.sl [.str [111,116,104,101,114],.str [97],.str [98],.str [116,97,120],.str [119,97,103,101],.str [120,95,49],.str [97,50,51,52,53,54,55,56,57,48,49,50,51,52,53,54,55,56,57,48]] 7 true),(48,.int .i64 7),(49,.int .i64 0)]) (hp':= [(0,⟨[.int .i64 q0,.int .i64 q1,.int .i64 q2],0,false,0,0,true⟩),(1,⟨(aF e),0,false,0,5,true⟩),(2,⟨(cR (qs.map Sq.c)),0,false,0,4,true⟩),(3,⟨[.bool wn,.str wa,.str wb],0,false,0,0,true⟩)]) ?_ (Nat.zero_le _) rfl ⟨.same rfl,.same rfl,.same rfl,.same rfl,.fit .ref fm,.same rfl,.same rfl,.same rfl,.same rfl,trivial⟩ ⟨rfl,gS.same rfl,by decide,rfl,gS.same rfl,by decide,rfl,gS.same rfl,by decide,rfl,gS.same rfl,by decide,rfl⟩
 refine ah.before 2 ⟨(cR (qs.map Sq.c)),0,false,0,4,true⟩ (en':= [(7,.bool true),(8,.ref 1 0 0 e.length),(9,.sl (cR (qs.map Sq.c)) qs.length false),(10,.ptr 3 0 0),(11,.sl (aF mi) mi.length true),(12,.sl (aF ti) ti.length true),(47,.sl [.str [111,116,104,101,114],.str [97],.str [98],.str [116,97,120],.str [119,97,103,101],.str [120,95,49],.str [97,50,51,52,53,54,55,56,57,48,49,50,51,52,53,54,55,56,57,48]] 7 true),(48,.int .i64 7),(49,.int .i64 0)]) (hp':= [(0,⟨[.int .i64 q0,.int .i64 q1,.int .i64 q2],0,false,0,0,true⟩),(1,⟨(aF e),0,false,0,5,true⟩),(3,⟨[.bool wn,.str wa,.str wb],0,false,0,0,true⟩)]) ?_ (Nat.zero_le _) rfl ⟨.same rfl,.same rfl,.fit .ref (Ve qs),.same rfl,.same rfl,.same rfl,.same rfl,.same rfl,.same rfl,trivial⟩ (.step (gS.same rfl) (by decide) (.step (gS.same rfl) (by decide) (.here (.cons (gS.same rfl) (by decide) .nil))))
 refine ah.before 1 ⟨(aF e),0,false,0,5,true⟩ (en':= [(7,.bool true),(8,.sl (aF e) e.length true),(9,.sl (cR (qs.map Sq.c)) qs.length false),(10,.ptr 3 0 0),(11,.sl (aF mi) mi.length true),(12,.sl (aF ti) ti.length true),(47,.sl [.str [111,116,104,101,114],.str [97],.str [98],.str [116,97,120],.str [119,97,103,101],.str [120,95,49],.str [97,50,51,52,53,54,55,56,57,48,49,50,51,52,53,54,55,56,57,48]] 7 true),(48,.int .i64 7),(49,.int .i64 0)]) (hp':= [(0,⟨[.int .i64 q0,.int .i64 q1,.int .i64 q2],0,false,0,0,true⟩),(3,⟨[.bool wn,.str wa,.str wb],0,false,0,0,true⟩)]) ?_ (Nat.zero_le _) rfl ⟨.same rfl,.fit .ref (NI e),.same rfl,.same rfl,.same rfl,.same rfl,.same rfl,.same rfl,.same rfl,trivial⟩ (.step (gS.same rfl) (by decide) (.here (.cons (gS.same rfl) (by decide) .nil)))
 refine ah.tidy [7,8,9,10,11,12,47,48,49] (s1:=jr wn wa wb e mi ti qs 0) ?_ (by kernel_rfl) rfl
 exact h nt hn
theorem FQ (q0 q1 q2:Int):∃ w:RQ,w.ok∧w.n<2^128∧w.d<2^128∧CO 19 [.agg [.int .i64 q0,.int .i64 q1,.int .i64 q2]] (.ret (qA w)):=by
 have h:=ql q0 q1 q2 (fun _ x y hx hy=>by
  have hl:∀ z:Nat,z<9223372036854775808→(ae z).length<2^35:=fun z hz=>Nat.lt_trans (bf (Nat.lt_trans hz (by decide))) (by decide)
  have h:=IE (ae x) (ae y) (hl x hx) (hl y hy)
  rw [aO,aO] at h
  exact h)
 obtain ⟨b1,b2⟩:=Es q0 q1 q2
 obtain ⟨b3,b4⟩:=zE (decide (q0<((0:Nat):Int))) _ _ b1 b2
 exact ⟨_,zF (zG q0 q1 q2),b3,b4,h⟩
theorem JJ {nt:Nat} (hn:86≤nt) (wn:Bool) (wa wb:List UInt8) (e mi ti:List Nd) (qs:List Sq) (k:Nat) (S1 S2 S3:List UInt8→Nat) (hk:k<7) (h2:∀ nm,S2 nm=eY (S1 nm)) (h3:∀ nm,S3 nm=kF wn (S1 nm)) (A1:∀ nm,CO 14 [.sl (aF e) e.length true,.sl (cR (qs.map Sq.c)) qs.length false,.int .i64 6,.str nm] (.ret (.int .i64 ((S1 nm:Nat):Int)))) (A2:∀ nm,CO 14 [.sl (aF mi) mi.length true,.sl (cR (qs.map Sq.c)) qs.length false,.int .i64 6,.str nm] (.ret (.int .i64 ((S2 nm:Nat):Int)))) (A3:∀ nm,CO 14 [.sl (aF ti) ti.length true,.sl (cR (qs.map Sq.c)) qs.length false,.int .i64 6,.str nm] (.ret (.int .i64 ((S3 nm:Nat):Int)))):
  ah prog ap [] nt (aa 0 (af f6)) (jr wn wa wb e mi ti qs k) .normal (jr wn wa wb e mi ti qs (k+1)):=by
 have hx:=LS hk
 generalize nmL.getD k []=nm at hx
 have h7:(decide ((k:Int)<((7:Nat):Int)))=true:=dm hk
 have h2:=h2 nm
 have h3:=h3 nm
 have bI:∀ {x y:Nat},x=y→(((x:Int)==(y:Int)))=true:=fun h=>by rw [h];exact beq_self_eq_true _
 have bN:∀ {x y:Nat},x ≠ y→(((x:Int)==(y:Int)))=false:=fun h=>beq_eq_false_iff_ne.2 (by omega)
 have hw:S1 nm=1∨S1 nm=2→IntKind.wrap .i64 (((3:Nat):Int) - (((S1 nm):Nat):Int))=((eY (S1 nm):Nat):Int):=by
  intro h
  unfold eY
  rw [if_pos h]
  rcases h with h|h<;>rw [h]<;>rfl
 by_cases a1:S1 nm=1
 ·have w:=hw (.inl a1)
  cases wn with
  |true=>exact Xo hn true wa wb e mi ti qs k S1 S2 S3 nm _ (by omega) A1 A2 A3 hx (by rw [w];exact bI h3) (by rw [w];exact bI h2) rfl (bI a1) (rp k) h7
  |false=>exact Xp hn false wa wb e mi ti qs k S1 S2 S3 nm _ (by omega) A1 A2 A3 hx (bI h3) (by rw [w];exact bI h2) rfl (bI a1) (rp k) h7
 ·by_cases a2:S1 nm=2
  ·have w:=hw (.inr a2)
   cases wn with
   |true=>exact Xq hn true wa wb e mi ti qs k S1 S2 S3 nm _ (by omega) A1 A2 A3 hx (by rw [w];exact bI h3) (by rw [w];exact bI h2) rfl (bI a2) (bN a1) (rp k) h7
   |false=>exact Xr hn false wa wb e mi ti qs k S1 S2 S3 nm _ (by omega) A1 A2 A3 hx (bI h3) (by rw [w];exact bI h2) rfl (bI a2) (bN a1) (rp k) h7
  ·have ht:eY (S1 nm)=S1 nm:=by unfold eY;rw [if_neg (by omega)]
   have hs:kF wn (S1 nm)=S1 nm:=by unfold kF;rw [ht];cases wn<;>rfl
   cases wn with
   |true=>exact Xt hn true wa wb e mi ti qs k S1 S2 S3 nm _ (by omega) A1 A2 A3 hx (bI (by rw [h3,hs])) (bI (by rw [h2,ht])) rfl (bN a2) (bN a1) (rp k) h7
   |false=>exact Xu hn false wa wb e mi ti qs k S1 S2 S3 nm _ (by omega) A1 A2 A3 hx (bI (by rw [h3,hs])) (bI (by rw [h2,ht])) rfl (bN a2) (bN a1) (rp k) h7
theorem QF {nt:Nat} (hn:86≤nt) (wn:Bool) (wa wb:List UInt8) (e mi ti:List Nd) (qs:List Sq) (S1 S2 S3:List UInt8→Nat) (h2:∀ nm,S2 nm=eY (S1 nm)) (h3:∀ nm,S3 nm=kF wn (S1 nm)) (A1:∀ nm,CO 14 [.sl (aF e) e.length true,.sl (cR (qs.map Sq.c)) qs.length false,.int .i64 6,.str nm] (.ret (.int .i64 ((S1 nm:Nat):Int)))) (A2:∀ nm,CO 14 [.sl (aF mi) mi.length true,.sl (cR (qs.map Sq.c)) qs.length false,.int .i64 6,.str nm] (.ret (.int .i64 ((S2 nm:Nat):Int)))) (A3:∀ nm,CO 14 [.sl (aF ti) ti.length true,.sl (cR (qs.map Sq.c)) qs.length false,.int .i64 6,.str nm] (.ret (.int .i64 ((S3 nm:Nat):Int)))):∀ (d k:Nat),k+d=7→
  aw prog ap [] nt (aa 0 (af f6)) (fun _=> .exit 0) (jr wn wa wb e mi ti qs) (fun _:Unit=>EX) k ():=by
 intro d
 induction d with
 |zero=>
  intro k hd
  exact .done (Xv hn wn wa wb e mi ti qs k (uz (by omega)))
 |succ d ih=>
  intro k hd
  exact .next (JJ hn wn wa wb e mi ti qs k S1 S2 S3 (by omega) h2 h3 A1 A2 A3) (ih (k+1) (by omega))
theorem Cg {e:List Nd} {x y:Nd} (he:bC e=0) (hl:e.length+2≤60) (hx:aA x=0) (hy:aA y=0) (ha:bX x.op=0) (hb:bX y.op=2):bC ([x]++e++ [y])=0:=by
 refine CI ?_ (by simp only [List.length_append,List.length_singleton];omega)
 have h2:=Hk e 0 1 1 (yV he).1
 rw [Nat.zero_add] at h2
 rw [List.append_assoc,CH [x] _ 0 1 (Ea hx ha (Nat.zero_le _) rfl),CH e _ 1 _ h2]
 exact Ea hy hb (Nat.le_refl 2) rfl
theorem Xw (xs:List Int) (ts:List (Int × Int × Int)) (q0 q1 q2:Int) (na nb:Bool):CO 6 [.sl (iL xs) xs.length na,.sl (tL ts) ts.length nb,.agg [.int .i64 q0,.int .i64 q1,.int .i64 q2]] (.ret (.bool true)):=by
 obtain ⟨e,hel,he,hce,hse,hm⟩:=Vf 28 (by omega) xs na
 obtain ⟨qs,hM,hq,hc⟩:=Gg ts nb
 obtain ⟨w,w1,w2,w3,cw⟩:=FQ q0 q1 q2
 have hx1:aA ⟨1,w.neg,ae w.n,ae w.d,[]⟩=0:=nK (.inl rfl) w1 w2 w3
 have hx3:aA ⟨3,w.neg,ae w.n,ae w.d,[]⟩=0:=nK (.inr (.inr rfl)) w1 w2 w3
 have k1:bC ([(⟨1,w.neg,ae w.n,ae w.d,[]⟩:Nd)]++e++ [(⟨10,false,[],[],[]⟩:Nd)])=0:=Cg hce (by omega) hx1 (qH ⟨by decide,by decide⟩) rfl rfl
 have k3:bC ([(⟨3,w.neg,ae w.n,ae w.d,[]⟩:Nd)]++e++ [(⟨11,false,[],[],[]⟩:Nd)])=0:=Cg hce (by omega) hx3 (qH ⟨by decide,by decide⟩) rfl rfl
 have hw:∀ (o o2:Int),∀ x ∈ [(⟨o,w.neg,ae w.n,ae w.d,[]⟩:Nd)]++e++ [⟨o2,false,[],[],[]⟩],x.sm:=by
  intro o o2 x hx
  rcases List.mem_append.1 hx with hx|hx
  ·rcases List.mem_append.1 hx with hx|hx
   ·rw [List.mem_singleton] at hx;subst hx;exact ⟨bf w2,bf w3⟩
   ·exact hse x hx
  ·rw [List.mem_singleton] at hx;subst hx;exact ⟨by simp,by simp⟩
 have fm:=B_ e ⟨1,w.neg,ae w.n,ae w.d,[]⟩ ⟨10,false,[],[],[]⟩
 have ft:=B_ e ⟨3,w.neg,ae w.n,ae w.d,[]⟩ ⟨11,false,[],[],[]⟩
 have T1:∀ nm,xo ([(⟨1,w.neg,ae w.n,ae w.d,[]⟩:Nd)]++e++ [(⟨10,false,[],[],[]⟩:Nd)]) qs 6 nm=eY (xo e qs 6 nm):=fun nm=>DT rfl hce k1
 have T3:∀ nm,xo ([(⟨3,w.neg,ae w.n,ae w.d,[]⟩:Nd)]++e++ [(⟨11,false,[],[],[]⟩:Nd)]) qs 6 nm=kF w.neg (xo e qs 6 nm):=fun nm=>DU rfl hce k3
 have h1:=hw 1 10
 have h3:=hw 3 11
 have hb1:([(⟨1,w.neg,ae w.n,ae w.d,[]⟩:Nd)]++e++ [(⟨10,false,[],[],[]⟩:Nd)]).length<2^40:=by simp only [List.length_append,List.length_singleton];omega
 have hb3:([(⟨3,w.neg,ae w.n,ae w.d,[]⟩:Nd)]++e++ [(⟨11,false,[],[],[]⟩:Nd)]).length<2^40:=by simp only [List.length_append,List.length_singleton];omega
 generalize ([(⟨1,w.neg,ae w.n,ae w.d,[]⟩:Nd)]++e++ [(⟨10,false,[],[],[]⟩:Nd)])=mi at*
 generalize ([(⟨3,w.neg,ae w.n,ae w.d,[]⟩:Nd)]++e++ [(⟨11,false,[],[],[]⟩:Nd)])=ti at*
 have A1:∀ nm,CO 14 [.sl (aF e) e.length true,.sl (cR (qs.map Sq.c)) qs.length false,.int .i64 6,.str nm] (.ret (.int .i64 ((xo e qs 6 nm:Nat):Int))):=fun nm=>aZ e true qs false gu 6 nm hse (by omega) (by omega) (rI CJ hM)
 have A2:∀ nm,CO 14 [.sl (aF mi) mi.length true,.sl (cR (qs.map Sq.c)) qs.length false,.int .i64 6,.str nm] (.ret (.int .i64 ((xo mi qs 6 nm:Nat):Int))):=fun nm=>aZ mi true qs false gu 6 nm h1 hb1 (by omega) (rI CJ hM)
 have A3:∀ nm,CO 14 [.sl (aF ti) ti.length true,.sl (cR (qs.map Sq.c)) qs.length false,.int .i64 6,.str nm] (.ret (.int .i64 ((xo ti qs 6 nm:Nat):Int))):=fun nm=>aZ ti true qs false gu 6 nm h3 hb3 (by omega) (rI CJ hM)
 have hL:az prog ap [] 86 (.block 0 (.loop (aa 0 (af f6)))) (jr w.neg (ae w.n) (ae w.d) e mi ti qs 0) .normal EX:=
  aw.blk (s:=jr w.neg (ae w.n) (ae w.d) e mi ti qs 0) (s':=EX) (id:=0) (fun nt hn=>QF hn w.neg (ae w.n) (ae w.d) e mi ti qs (xo e qs 6) (xo mi qs 6) (xo ti qs 6) T1 T3 A1 A2 A3 7 0 rfl) (by simp) rfl (aK.refl _) (aK.refl _)
 have b0:(Nat.ble ((1+e.length)+1) 1099511627776)=true:=Nat.ble_eq_true_of_le (by omega)
 have b3:(Nat.ble (1+e.length) 1099511627776)=true:=Nat.ble_eq_true_of_le (by omega)
 have b2:(Nat.beq (List.length (List.take (e.length*5) (aF e))) (e.length*5))=true:=by rw [BV,fe,Nat.mul_comm];exact Nat.beq_refl _
 have b1:∀ o:Int,(Nat.ble ((1+e.length)*5) (List.length ([.int .i64 o,.bool w.neg,.str (ae w.n),.str (ae w.d),.str []]++(List.take (e.length*5) (aF e)))))=true:=fun o=>by
  rw [Nat.ble_eq,BV,List.length_append,fe];show _≤5+_;omega
 cases qs with
 |nil=>exact aer xs ts q0 q1 q2 na nb w.neg (ae w.n) (ae w.d) e [] b0 (b1 3) b2 b3 (b1 1) (mc0 28 _) (mc1 28 _) yw hm hc cw Vy (aei xs ts q0 q1 q2 na nb w.neg (ae w.n) (ae w.d) e mi ti [] fm ft _ hL)
 |cons a r=>exact aeq xs ts q0 q1 q2 na nb w.neg (ae w.n) (ae w.d) e (a::r) b0 (b1 3) b2 b3 (b1 1) (mc0 28 _) (mc1 28 _) yw hm hc cw Vy (aeh xs ts q0 q1 q2 na nb w.neg (ae w.n) (ae w.d) e mi ti (a::r) fm ft _ hL)
end Go.Proofs.Tryz
set_option maxRecDepth 100000
open Go AM Go.ChangeShapes Go.WideShapes Go.ChangeAt Go.RowKit
namespace Go.Proofs.Tryz
noncomputable def vn (t:TypeId) (d:DataW Unit):List Lit:=((gX prog 6 t d 0).getD []).map (·.2)
open Go.Proofs.YtcjindbblhcopaaGreatDoor
def Io:List (String × DataW Unit):= [("unicode/utf8.acceptRanges",Rows.laid_unicode_utf8_acceptRanges),("tithing/expr.table",Rows.laid_tithing_expr_table),("unicode/utf8.first",Rows.laid_unicode_utf8_first)]
theorem FX:Io.filter (fun x=>x.2.handleName?.isSome)= []:=by kernel_rfl
theorem Um {W:World} (h:laidMetH prog Io W):G_ ap W:=by
 have c (i:Nat) (n:String) (d:DataW Unit) (hm:Io[i]? =some (n,d)) (g:Nat) (t:TypeId) (hg:prog.globalNamed n=some g) (ht:(prog.globals[g]?).map (·.type)=some t)
   (hl:gX prog 6 t d 0=some ((vn t d).zipIdx.map fun (l,i)=>(i,l))):=Dh h FX (List.mem_of_getElem? hm) hg ht hl
 have c0:=c 1 _ _ rfl 0 105 (by kernel_rfl) (by kernel_rfl) (by kernel_rfl)
 have c2:=c 0 _ _ rfl 2 219 (by kernel_rfl) (by kernel_rfl) (by kernel_rfl)
 have key (k:Nat) (t:TypeId) (d:DataW Unit) (hx:(ap.gl[k]?).join=some ((vn t d).map Bf)) (ho:(vn t d).all vk=true) (hc:∀ (j:Nat) (l:Lit),(vn t d)[j]? =some l→W.cell? ⟨k,j,none⟩=some (jL l)):
   ∀ xs,(ap.gl[k]?).join=some xs→∃ ls:List Lit,xs=ls.map Bf∧ls.all vk=true∧∀ (j:Nat) (l:Lit),ls[j]? =some l→W.cell? ⟨k,j,none⟩=some (jL l):=by
  intro xs hxs
  rw [hx] at hxs
  cases hxs
  exact ⟨_,rfl,ho,hc⟩
 intro k
 match k with
 |0=>exact key 0 _ _ (by kernel_rfl) (by kernel_rfl) c0
 |1=>intro xs hxs;exact absurd (show (none:Option (List AV))=some xs from hxs) (by simp)
 |2=>exact key 2 _ _ (by kernel_rfl) (by kernel_rfl) c2
 |3=>intro xs hxs;exact absurd (show (none:Option (List AV))=some xs from hxs) (by simp)
 |k+4=>
  intro xs hxs
  have:ap.gl.length=4:=by kernel_rfl
  rw [List.getElem?_eq_none (by omega)] at hxs
  cases hxs
theorem own:ownKnob prog.godebug=none:=by kernel_rfl
theorem XY:laidOutB prog=true:=by kernel_rfl
noncomputable def Qm (t:TypeId) (d:DataW Unit):Obj→Obj
 | .cells _ t' fr=> .cells ((vn t d).map jL).toArray t' fr
 |o=>o
noncomputable def Q5 (os:Os):World:=
 let w:=World.holding prog os ⟨#[],#[],[]⟩
 {w with heap:=((w.heap.modify 0 (Qm 105 Rows.laid_tithing_expr_table)).modify 1 (Qm 216 Rows.laid_unicode_utf8_first)).modify 2 (Qm 219 Rows.laid_unicode_utf8_acceptRanges)}
end Go.Proofs.Tryz
