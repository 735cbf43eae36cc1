/- Contracts of functions that the law reaches, each by its own hypotheses; joined by a program of mine. -/
import Derived.Test.YtokiomlellclkaaGreatDoorM5
import Derived.Test.YtokiomlellclkaaGreatDoorAp
import Derived.Test.YtokiomlellclkaaGreatDoorChecked
import Derived.Eval
set_option linter.unusedSimpArgs false
set_option linter.unusedVariables false
set_option maxRecDepth 100000
open Go
namespace AM
theorem nD {x:Int} (h: -9223372036854775808≤x) (a:x<9223372036854775808):IntKind.wrap .i64 x=x:=by
 show (if (true && decide (x % 2^64≥2^63))=true then x % 2^64 - 2^64 else x % 2^64)=x
 by_cases hx:x % 2^64≥2^63
 ·rw [if_pos (by simpa using hx)];omega
 ·rw [if_neg (by simpa using hx)];omega
theorem Ua (k:IntKind) (a:k.signed=false) (x:Int):IntKind.wrap k x=x % 2^k.bits:=by
 show (if (k.signed && _)=true then _ else _)=_
 rw [a];rfl
theorem Ue {w:Nat} {k:IntKind} (c:k.signed=false) (b:k.bits=w) (a:Nat):IntKind.wrap k (a:Int)=((a % 2^w:Nat):Int):=by
 rw [Ua k c,b];simp
theorem abB (a:Nat):IntKind.wrap .u64 (a:Int)=((a % 18446744073709551616:Nat):Int):=Ue (w:=64) rfl rfl a
theorem fD (a:Nat):Int.toNat (a:Int)=a:=rfl
theorem d_eq (a b:Nat):decide ((a:Int)=(b:Int))=decide (a=b):=by
 by_cases h:a=b
 ·simp [h]
 ·rw [decide_eq_false h,decide_eq_false (by omega)]
end AM
open Go AM
namespace Go.Proofs.Tryz
abbrev zcc1_0 : List UInt8 := [98,97,115,105,99]
theorem Ur:(List.range ap.nty).map ap.ty.get=(List.range ap.nty).map (Nr prog):=by kernel_rfl
noncomputable def Un (i:Nat):Bool:=match ap.fn.get i with|some _=>true|_=>false
theorem Uo:(List.range ap.nfn).map (fun i=>(ap.fn.get i).map AF.fn)=(List.range ap.nfn).map fun i=>match Un i with|true=>prog.funcs[i]? |false=>none:=by kernel_rfl
theorem NQ:(List.range ap.nfn).all (fun i=>yf (ap.fn.get i))=true:=by kernel_rfl
theorem Us:dn prog ap:=NR Ur (hm:=by kernel_rfl)
theorem Z_:zS prog ap:=Oe Uo NQ
theorem mixed:prog.follows .mixedOrders=true:=Tryz.checked.mixed
end Go.Proofs.Tryz
namespace Go.Proofs.Tryz
open Go AM
theorem jY:xu prog ap:=⟨Us,mixed,Z_⟩
abbrev CO (f:Nat) (args:List AV) (out:fP):Prop:=ae prog ap f args [] out []
theorem pK (c:List Nat) (n k:Nat) {ans:List (fP × List aJ)} {a:wR} {hs:List qK} {bs:List Bool} {ps:List Prop} {f:Nat} {args:List AV} {h b:List aJ} {out:fP} (d:jq bs) (hp:PS prog ap ps ans a hs)
  (he:GL prog ap (uY prog ap 3000 4) 3000 c f args h a ⟨false,Ar n k,[],[],ans,hs⟩= .ok (out,b,.dead) ⟨false,[],bs,ps,[],[]⟩:=by kernel_rfl):ae prog ap f args h out b:=pk jY c n k d hp he
theorem pN (f:Nat) (c:List Nat) (n k:Nat) {nt nt0:Nat} {ans:List (fP × List aJ)} {b:wR} {hs:List qK} {bs:List Bool} {ps:List Prop} {a:Code} {s s':St} {h0:List aJ} {e:bf} (d:jq bs) (hp:PS prog ap ps ans b hs) (g:nt0≤nt)
  (he:Gf prog ap h0 f nt0 c a s b (Ar n k) ans hs s'.env= .ok ((e,s'),[]) ⟨false,[],bs,ps,[],[]⟩:=by kernel_rfl):ah prog ap h0 nt a s e s':=pn jY f c n k d hp g he
end Go.Proofs.Tryz
set_option maxRecDepth 100000
set_option linter.unusedVariables false
open Go AM
namespace AM
variable {P:Program} {ap:AP}
theorem aQ.goD {α σ β:Type} {h0:List aJ} {nt:Nat} {b:Code} {e:β→bf} {st:Nat × σ→St} {out:β→St} (F:σ→α→σ ⊕ β) (a:σ→β) (L:List α) (Inv:List α→σ→Prop)
  (hstep:∀ p x r s,L=p++x::r→Inv p s→(∃ s',F s x= .inl s'∧ah P ap h0 nt b (st (p.length,s)) .normal (st (p.length+1,s'))∧Inv (p++ [x]) s')∨∃ q,F s x= .inr q∧ah P ap h0 nt b (st (p.length,s)) (e q) (out q))
  (hend:∀ s,Inv L s→ah P ap h0 nt b (st (L.length,s)) (e (a s)) (out (a s))) (s:σ) (h:Inv [] s):aQ P ap h0 nt b e st out (0,s) (AM.goL F a L s):=by
 refine aQ.goL F a L Inv ?_ hend L [] s rfl h
 intro p x r s f i
 rcases hstep p x r s f i with ⟨s',d,c,g⟩|⟨q,d,c⟩
 ·rw [d];exact ⟨c,g⟩
 ·rw [d];exact c
end AM
namespace Go.Proofs.Tryz
theorem qU {α:Type} {f:α→List AV} {n:Nat} (a:∀ x,(f x).length=n) (l:List α):(l.flatMap f).length=l.length*n:=by
 induction l with
 |nil=>simp
 |cons x r ih=>rw [List.flatMap_cons,List.length_append,ih,a,List.length_cons,Nat.succ_mul];omega
theorem ed {α:Type} {f:α→List AV} {n:Nat} (a:∀ x,(f x).length=n) {p r l:List α} {x:α} (h:l=p++x::r):List.drop (Int.toNat (p.length:Int)*n) (l.flatMap f)=f x++r.flatMap f:=by
 subst h
 rw [fD,List.flatMap_append,← qU a p,List.drop_left,List.flatMap_cons]
theorem UV {α:Type} {f:α→List AV} {n:Nat} (c:∀ x,(f x).length=n) {l:List α} {k:Nat} {x:α} (h:l[k]? =some x):List.drop (Int.toNat (k:Int)*n) (l.flatMap f)=f x++(l.drop (k+1)).flatMap f:=by
 have d:k<l.length:=(List.getElem?_eq_some_iff.1 h).1
 have e:l=l.take k++x::l.drop (k+1):=by
  have b:l[k]=x:=(List.getElem?_eq_some_iff.1 h).2
  rw [← b,← List.drop_eq_getElem_cons d,List.take_append_drop]
 have a:(l.take k).length=k:=by rw [List.length_take];omega
 have:=ed c (p:=l.take k) e
 rwa [a] at this
theorem Oi {α:Type} {f:α→List AV} {n:Nat} (a:∀ x,(f x).length=n) (l:List α) (x:α) {k:Nat} (h:l.length=k):List.take (k*n) (l.flatMap f)++f x=(l++ [x]).flatMap f:=by
 rw [List.take_of_length_le (by rw [qU a,h];exact Nat.le_refl _),List.flatMap_append,List.flatMap_cons,List.flatMap_nil,List.append_nil]
theorem k0 (k:Nat):decide (((0:Nat):Int)≤(k:Int))=true:=decide_eq_true (by omega)
theorem kl {k n:Nat} (h:k<n):decide ((k:Int)<(n:Int))=true:=decide_eq_true (by omega)
theorem kn {k n:Nat} (h:n≤k):decide ((k:Int)<(n:Int))=false:=decide_eq_false (by omega)
theorem sS {α:Type} {p r l:List α} {x:α} (h:l=p++x::r):p.length<l.length:=by subst h;simp
theorem wpS {k:Nat} (h:k<2^62):AV.int .i64 (IntKind.wrap .i64 ((k:Int)+((1:Nat):Int)))= .int .i64 ((k+1:Nat):Int):=by
 have e:IntKind.wrap .i64 ((k:Int)+((1:Nat):Int))=((k+1:Nat):Int):=by rw [nD]<;>omega
 rw [e]
theorem bH (l:List Cl):(cL l).length=l.length*2:=qU (n:=2) (fun _=>rfl) l
structure Nd where
 op:Int
 neg:Bool
 num:List UInt8
 den:List UInt8
 name:List UInt8
def ZN (x:Nd):List AV:= [.int .i64 x.op,.bool x.neg,.str x.num,.str x.den,.str x.name]
def cO (l:List Nd):List AV:=l.flatMap ZN
theorem nd5 (x:Nd):(ZN x).length=5:=rfl
structure Pv where
 nm:List UInt8
 tr:Bool
 tm:Int
 td:Int
 body:List Nd
 ch:Bool
 sn:Bool
 sa:List UInt8
 sd:List UInt8
 cn:Bool
 ca:List UInt8
 cd:List UInt8
def Wp (x:Pv):List AV:= [.str x.nm,.bool x.tr,.int .i64 x.tm,.int .i64 x.td,.sl (cO x.body) x.body.length false,.bool x.ch,.bool x.sn,.str x.sa,.str x.sd,.bool x.cn,.str x.ca,.str x.cd]
def dm (l:List Pv):List AV:=l.flatMap Wp
theorem Wn (x:Pv):(Wp x).length=12:=rfl
structure Lw where
 fx:List AV
 fn:Nat
 sx:List AV
 sn:Nat
 ps:List Pv
abbrev Lw.c (L:Lw) (a b c:Bool):List AV:= [.sl L.fx L.fn a,.sl L.sx L.sn b,.sl (dm L.ps) L.ps.length c]
end Go.Proofs.Tryz
set_option maxRecDepth 100000
set_option linter.unusedVariables false
open Go AM
namespace Go.Proofs.Tryz
theorem uK (x:Int):CO 142 [.int .i64 x] (.ret (.bool false)):=by
 have h:CO 142 [.int .i64 x] (.ret (.bool (!(x==x)))):=pK [] 0 0 .nil .nil
 rwa [show (!(x==x))=false by simp] at h
def zV (x y:Int):Int:=if x<y then -1 else if y<x then 1 else 0
theorem RX (x y:Int):CO 93 [.int .i64 x,.int .i64 y] (.ret (.int .i64 (zV x y))):=by
 rcases tf (decide (x<y)) with b0|b0
 ·have e:zV x y=(-1):=by
   simp only [decide_eq_true_eq,decide_eq_false_iff_not] at b0
   simp only [zV]
   first|(rw [if_pos (by omega)];done)|(rw [if_neg (by omega),if_pos (by omega)];done)|(rw [if_neg (by omega),if_neg (by omega)];done)
  rw [e]
  exact pK [] 3 4 (.c (aN b0) (.n 2 .nil)) (.c (uK y) (.c (uK x) .nil))
 ·rcases tf (decide (y<x)) with b1|b1
  ·have e:zV x y=1:=by
    simp only [decide_eq_true_eq,decide_eq_false_iff_not] at b0 b1
    simp only [zV]
    first|(rw [if_pos (by omega)];done)|(rw [if_neg (by omega),if_pos (by omega)];done)|(rw [if_neg (by omega),if_neg (by omega)];done)
   rw [e]
   exact pK [] 4 8 (.c (aN b1) (.c (aT b0) (.n 2 .nil))) (.c (uK y) (.c (uK x) .nil))
  ·have e:zV x y=0:=by
    simp only [decide_eq_true_eq,decide_eq_false_iff_not] at b0 b1
    simp only [zV]
    first|(rw [if_pos (by omega)];done)|(rw [if_neg (by omega),if_pos (by omega)];done)|(rw [if_neg (by omega),if_neg (by omega)];done)
   rw [e]
   exact pK [] 4 0 (.c (aT b1) (.c (aT b0) (.n 2 .nil))) (.c (uK y) (.c (uK x) .nil))
theorem Wl (x y:Int):CO 92 [.sl [.int .i64 x,.int .i64 y] 2 true] (.ret (.int .i64 (if x=0 then y else x))):=by
 rcases tf (x==((0:Nat):Int)) with b0|b0
 ·rcases tf (y==((0:Nat):Int)) with b1|b1
  ·have e:(if x=0 then y else x)=0:=by
    simp only [beq_iff_eq,beq_eq_false_iff_ne] at b0 b1
    split<;>simp_all
   rw [e]
   exact pK [] 5 5 (.k 1 (gY b1) (.k 4 (gY b0) (.n 4 .nil))) (.nil)
  ·have e:(if x=0 then y else x)=y:=by
    simp only [beq_iff_eq,beq_eq_false_iff_ne] at b0 b1
    split<;>simp_all
   rw [e]
   exact pK [] 4 13 (.c (oz b1) (.k 4 (gY b0) (.n 4 .nil))) (.nil)
 ·have e:(if x=0 then y else x)=x:=by
   simp only [beq_iff_eq,beq_eq_false_iff_ne] at b0
   split<;>simp_all
  rw [e]
  exact pK [] 2 3 (.c (oz b0) (.n 4 .nil)) (.nil)
def ku (c:Cl):Prop:=0≤c.1∧c.1≤1
def P_ (c d:Cl):Bool:=decide (c.1<d.1)||((c.1==d.1) && decide (c.2<d.2))
theorem xP (c d:Cl) (a:ku c) (e:ku d):∃ r:Int,decide (r<((0:Nat):Int))=P_ c d∧CO 41 [cA c,cA d] (.ret (.int .i64 r)):=by
 obtain ⟨i,f⟩:=a
 obtain ⟨g,j⟩:=e
 have b:AV.int .i64 (IntKind.wrap .i64 (c.1 - d.1))= .int .i64 (c.1 - d.1):=by rw [nD]<;>omega
 refine ⟨if c.1 - d.1=0 then zV c.2 d.2 else c.1 - d.1, ?_,pK [] 0 0 (.n 4 .nil) (.c (Wl (c.1 - d.1) (zV c.2 d.2)) (.c (RX c.2 d.2) (.v 9 (.eq b) .nil)))⟩
 unfold P_ zV
 by_cases h:c.1=d.1
 ·rw [if_pos (by omega),h]
  simp
  split
  ·simp [*]
  ·split<;>simp [*]
 ·rw [if_neg (by omega)]
  have:(c.1==d.1)=false:=by simp [h]
  rw [this]
  simp
  omega
def aI (s n:Int) (x:Cl):Bool:=((s==1)||(s==2)) && (decide (0≤x.1) && (decide (x.1<s) && (decide (0≤x.2) && decide (x.2<n))))
theorem jW (L:Lw) (a b c:Bool) (s:Int) (x:Cl):CO 38 [.agg (L.c a b c),.int .i64 s,cA x] (.ret (.bool (aI s L.ps.length x))):=by
 rcases tf (s==((1:Nat):Int)) with b0|b0
 ·rcases tf (decide (((0:Nat):Int)≤x.1)) with b1|b1
  ·rcases tf (decide (x.1<s)) with b2|b2
   ·rcases tf (decide (((0:Nat):Int)≤x.2)) with b3|b3
    ·have e:aI s L.ps.length x=(decide (x.2<(L.ps.length:Int))):=by
      unfold aI
      have i:(((0:Nat):Int))=0:=rfl
      have h:(((1:Nat):Int))=1:=rfl
      have j:(((2:Nat):Int))=2:=rfl
      have d:=b0;(try simp only [i,h,j] at d);rw [d]
      have f:=b1;(try simp only [i,h,j] at f);rw [f]
      have g:=b2;(try simp only [i,h,j] at g);rw [g]
      have k:=b3;(try simp only [i,h,j] at k);rw [k]
      first|rfl|simp
     rw [e]
     exact pK [] 5 31 (.k 2 (aN b3) (.k 1 (aN b2) (.k 1 (aN b1) (.k 2 (aN b0) .nil)))) (.nil)
    ·have e:aI s L.ps.length x=false:=by
      unfold aI
      have i:(((0:Nat):Int))=0:=rfl
      have h:(((1:Nat):Int))=1:=rfl
      have j:(((2:Nat):Int))=2:=rfl
      have d:=b0;(try simp only [i,h,j] at d);rw [d]
      have f:=b1;(try simp only [i,h,j] at f);rw [f]
      have g:=b2;(try simp only [i,h,j] at g);rw [g]
      have k:=b3;(try simp only [i,h,j] at k);rw [k]
      first|rfl|simp
     rw [e]
     exact pK [] 5 15 (.c (aT b3) (.k 1 (aN b2) (.k 1 (aN b1) (.k 2 (aN b0) .nil)))) (.nil)
   ·have e:aI s L.ps.length x=false:=by
     unfold aI
     have i:(((0:Nat):Int))=0:=rfl
     have h:(((1:Nat):Int))=1:=rfl
     have j:(((2:Nat):Int))=2:=rfl
     have d:=b0;(try simp only [i,h,j] at d);rw [d]
     have f:=b1;(try simp only [i,h,j] at f);rw [f]
     have g:=b2;(try simp only [i,h,j] at g);rw [g]
     first|rfl|simp
    rw [e]
    exact pK [] 5 7 (.k 1 (aT b2) (.k 1 (aN b1) (.k 2 (aN b0) .nil))) (.nil)
  ·have e:aI s L.ps.length x=false:=by
    unfold aI
    have i:(((0:Nat):Int))=0:=rfl
    have h:(((1:Nat):Int))=1:=rfl
    have j:(((2:Nat):Int))=2:=rfl
    have d:=b0;(try simp only [i,h,j] at d);rw [d]
    have f:=b1;(try simp only [i,h,j] at f);rw [f]
    first|rfl|simp
   rw [e]
   exact pK [] 5 3 (.k 2 (aT b1) (.k 2 (aN b0) .nil)) (.nil)
 ·rcases tf (s==((2:Nat):Int)) with b1|b1
  ·rcases tf (decide (((0:Nat):Int)≤x.1)) with b2|b2
   ·rcases tf (decide (x.1<s)) with b3|b3
    ·rcases tf (decide (((0:Nat):Int)≤x.2)) with b4|b4
     ·have e:aI s L.ps.length x=(decide (x.2<(L.ps.length:Int))):=by
       unfold aI
       have i:(((0:Nat):Int))=0:=rfl
       have h:(((1:Nat):Int))=1:=rfl
       have j:(((2:Nat):Int))=2:=rfl
       have d:=b0;(try simp only [i,h,j] at d);rw [d]
       have f:=b1;(try simp only [i,h,j] at f);rw [f]
       have g:=b2;(try simp only [i,h,j] at g);rw [g]
       have k:=b3;(try simp only [i,h,j] at k);rw [k]
       have l:=b4;(try simp only [i,h,j] at l);rw [l]
       first|rfl|simp
      rw [e]
      exact pK [] 5 30 (.k 2 (aN b4) (.k 1 (aN b3) (.k 1 (aN b2) (.k 1 (aN b1) (.c (aT b0) .nil))))) (.nil)
     ·have e:aI s L.ps.length x=false:=by
       unfold aI
       have i:(((0:Nat):Int))=0:=rfl
       have h:(((1:Nat):Int))=1:=rfl
       have j:(((2:Nat):Int))=2:=rfl
       have d:=b0;(try simp only [i,h,j] at d);rw [d]
       have f:=b1;(try simp only [i,h,j] at f);rw [f]
       have g:=b2;(try simp only [i,h,j] at g);rw [g]
       have k:=b3;(try simp only [i,h,j] at k);rw [k]
       have l:=b4;(try simp only [i,h,j] at l);rw [l]
       first|rfl|simp
      rw [e]
      exact pK [] 5 14 (.c (aT b4) (.k 1 (aN b3) (.k 1 (aN b2) (.k 1 (aN b1) (.c (aT b0) .nil))))) (.nil)
    ·have e:aI s L.ps.length x=false:=by
      unfold aI
      have i:(((0:Nat):Int))=0:=rfl
      have h:(((1:Nat):Int))=1:=rfl
      have j:(((2:Nat):Int))=2:=rfl
      have d:=b0;(try simp only [i,h,j] at d);rw [d]
      have f:=b1;(try simp only [i,h,j] at f);rw [f]
      have g:=b2;(try simp only [i,h,j] at g);rw [g]
      have k:=b3;(try simp only [i,h,j] at k);rw [k]
      first|rfl|simp
     rw [e]
     exact pK [] 5 6 (.k 1 (aT b3) (.k 1 (aN b2) (.k 1 (aN b1) (.c (aT b0) .nil)))) (.nil)
   ·have e:aI s L.ps.length x=false:=by
     unfold aI
     have i:(((0:Nat):Int))=0:=rfl
     have h:(((1:Nat):Int))=1:=rfl
     have j:(((2:Nat):Int))=2:=rfl
     have d:=b0;(try simp only [i,h,j] at d);rw [d]
     have f:=b1;(try simp only [i,h,j] at f);rw [f]
     have g:=b2;(try simp only [i,h,j] at g);rw [g]
     first|rfl|simp
    rw [e]
    exact pK [] 5 2 (.k 2 (aT b2) (.k 1 (aN b1) (.c (aT b0) .nil))) (.nil)
  ·have e:aI s L.ps.length x=false:=by
    unfold aI
    have i:(((0:Nat):Int))=0:=rfl
    have h:(((1:Nat):Int))=1:=rfl
    have j:(((2:Nat):Int))=2:=rfl
    have d:=b0;(try simp only [i,h,j] at d);rw [d]
    have f:=b1;(try simp only [i,h,j] at f);rw [f]
    first|rfl|simp
   rw [e]
   exact pK [] 5 0 (.k 3 (aT b1) (.c (aT b0) .nil)) (.nil)
def mG:List Cl→Cl→List Cl→List Cl
 | [],y,r=>y::r
 |x::q,y,r=>if P_ y x then mG q y (x::r) else (x::q).reverse++y::r
def qW:List Cl→List Cl→List Cl
 |p,[]=>p
 |p,y::r=>qW (mG p.reverse y []) r
def iy:List Cl→List Cl
 | []=> []
 |x::l=>qW [x] l
abbrev cB (l:List Cl):aJ:=⟨cL l,0,false,0,2,true⟩
theorem NH {k:Nat} (a:k<2^62):AV.int .i64 (IntKind.wrap .i64 ((((k+1):Nat):Int) - ((1:Nat):Int)))= .int .i64 (k:Int):=by
 have e:IntKind.wrap .i64 ((((k+1):Nat):Int) - ((1:Nat):Int))=(k:Int):=by rw [nD]<;>omega
 rw [e]
theorem kY {a b n:Nat} (h:b=n) (c:a≤n):a≤b:=h ▸ c
theorem ug {a b:Nat} (h:a≤b):Nat.ble a b=true:=Nat.ble_eq_true_of_le h
theorem M_ {L p r:List Cl} {x z:Cl} (b:L=p++x::r):List.take ((0+(Int.toNat (p.length:Int)))*2) (cL L)++cC z++List.drop (((0+(Int.toNat (p.length:Int)))*2)+2) (cL L)=cL (p++z::r):=by
 subst b
 rw [fD,Nat.zero_add]
 have a:(cL p).length=p.length*2:=bH p
 have e:cL (p++x::r)=cL p++(cC x++cL r):=by simp [cL]
 rw [e,List.take_left' a,List.drop_append,List.drop_eq_nil_of_le (by omega),a,show p.length*2+2 - p.length*2=(cC x).length by simp [cC],List.drop_left]
 simp [cL]
theorem nI {L p r:List Cl} {x:Cl} (a:L=p++x::r):List.drop ((0+(Int.toNat (p.length:Int)))*2) (cL L)=cC x++cL r:=by
 rw [Nat.zero_add];exact ed (n:=2) (fun _=>rfl) a
theorem Ou {p r:List Cl} {x y:Cl}:(p++x::y::r).length=p.length+r.length+2:=by simp;omega
def JA (n i k:Nat) (L:List Cl):St:=⟨[(0,.ref 0 0 0 n),(1,.int .i64 0),(2,.int .i64 (n:Int)),(3,.fn 41 [] []),(8,.int .i64 (i:Int)),(9,.int .i64 (k:Int))],[(0,⟨(cL L),0,false,0,2,true⟩)],.dead,[]⟩
theorem SQ {nt:Nat} (C:53≤nt) (L0 p r:List Cl) (x y:Cl) (n i:Nat) (hs:(p++x::y::r).length=n) (E:n<2^40) (j:ku x) (l:ku y) (s:P_ y x=true):
  ah prog ap [cB L0] nt (af 2 (ag f132)) (JA n i (p.length+1) (p++x::y::r)) .normal (JA n i p.length (p++y::x::r)):=by
 obtain ⟨q,v,A⟩:=xP y x l j
 rw [s] at v
 have h:=nI (L:=p++x::y::r) (p:=p) (x:=x) (r:=y::r) rfl
 have f:List.drop ((0+(Int.toNat (((p.length+1):Nat):Int)))*2) (cL (p++x::y::r))=cC y++cL r:=by
  have:=nI (L:=p++x::y::r) (p:=p++ [x]) (x:=y) (r:=r) (by simp)
  simpa using this
 have g:p.length<2^62:=by rw [Ou] at hs;omega
 have B:p.length+1<n:=by rw [← hs,Ou];omega
 have e:(cL (p++x::y::r)).length=n*2:=by rw [bH,hs]
 have D:(decide (((0:Nat):Int)<(((p.length+1):Nat):Int)))=true:=decide_eq_true (by omega)
 have u:List.take ((0+(Int.toNat (((p.length+1):Nat):Int)))*2) (cL (p++x::y::r))++cC x++List.drop (((0+(Int.toNat (((p.length+1):Nat):Int)))*2)+2) (cL (p++x::y::r))=cL (p++x::x::r):=by
  have:=M_ (L:=p++x::y::r) (p:=p++ [x]) (x:=y) (r:=r) (z:=x) (by simp)
  simpa using this
 have m:=M_ (L:=p++x::x::r) (p:=p) (x:=x) (r:=x::r) (z:=y) rfl
 have hlen2:(cL (p++x::x::r)).length=n*2:=by rw [bH,← hs];simp
 rw [← u] at m hlen2
 unfold JA
 rw [← m]
 clear u m hs
 generalize F:p++x::y::r=L at*
 generalize p.length=k at*
 have o:(Nat.ble (((0+(Int.toNat (k:Int)))*2)+2) (List.length (List.take ((0+(Int.toNat (((k+1):Nat):Int)))*2) (cL L)++ [.int .i64 x.1,.int .i64 x.2]++List.drop (((0+(Int.toNat (((k+1):Nat):Int)))*2)+2) (cL L))))=true:=(ug (kY hlen2 (by omega)))
 have c:(decide (((0:Nat):Int)≤(k:Int)))=true:=(k0 _)
 have a:(decide ((k:Int)<(n:Int)))=true:=(kl (by omega))
 have t:(Nat.ble (((0+(Int.toNat (((k+1):Nat):Int)))*2)+2) (List.length (cL L)))=true:=(ug (kY e (by omega)))
 have d:(decide (((0:Nat):Int)≤(((k+1):Nat):Int)))=true:=(k0 _)
 have b:(decide ((((k+1):Nat):Int)<(n:Int)))=true:=(kl (by omega))
 exact pN 132 [] 2 3 (.c o (.c c (.c a (.c t (.c d (.c b (.a (eU [.int .i64,.int .i64] f rfl) (.c d (.c b (.a (eU [.int .i64,.int .i64] h rfl) (.c c (.c a (.c (aN v) (.a (eU [.int .i64,.int .i64] h rfl) (.c c (.c a (.a (eU [.int .i64,.int .i64] f rfl) (.c d (.c b (.c (aN D) .nil)))))))))))))))))))) (.v 36 (.eq (NH g)) (.v 50 (.rd [.int .i64,.int .i64] f rfl) (.v 46 (.rd [.int .i64,.int .i64] h rfl) (.v 44 (.eq (NH g)) (.v 41 (.eq (NH g)) (.c A (.v 31 (.rd [.int .i64,.int .i64] h rfl) (.v 29 (.eq (NH g)) (.v 26 (.rd [.int .i64,.int .i64] f rfl) .nil))))))))) C
theorem SV {nt:Nat} (t:53≤nt) (L0 p r:List Cl) (x y:Cl) (n i:Nat) (hs:(p++x::y::r).length=n) (z:n<2^40) (b:ku x) (c:ku y) (e:P_ y x=false):
  ah prog ap [cB L0] nt (af 2 (ag f132)) (JA n i (p.length+1) (p++x::y::r)) (.exit 2) ⟨[(0,.ref 0 0 0 n),(1,.int .i64 0),(2,.int .i64 (n:Int)),(3,.fn 41 [] []),(8,.int .i64 (i:Int))],[(0,cB (p++x::y::r))],.dead,[]⟩:=by
 obtain ⟨q,l,o⟩:=xP y x c b
 rw [e] at l
 have m:=nI (L:=p++x::y::r) (p:=p) (x:=x) (r:=y::r) rfl
 have j:List.drop ((0+(Int.toNat (((p.length+1):Nat):Int)))*2) (cL (p++x::y::r))=cC y++cL r:=by
  have:=nI (L:=p++x::y::r) (p:=p++ [x]) (x:=y) (r:=r) (by simp)
  simpa using this
 have u:p.length<2^62:=by rw [Ou] at hs;omega
 have s:p.length+1<n:=by rw [← hs,Ou];omega
 have h:(cL (p++x::y::r)).length=n*2:=by rw [bH,hs]
 have v:(decide (((0:Nat):Int)<(((p.length+1):Nat):Int)))=true:=decide_eq_true (by omega)
 clear hs
 unfold JA
 generalize A:p++x::y::r=L at*
 generalize p.length=k at*
 have d:(decide (((0:Nat):Int)≤(k:Int)))=true:=(k0 _)
 have g:(decide ((k:Int)<(n:Int)))=true:=(kl (by omega))
 have a:(decide (((0:Nat):Int)≤(((k+1):Nat):Int)))=true:=(k0 _)
 have f:(decide ((((k+1):Nat):Int)<(n:Int)))=true:=(kl (by omega))
 exact pN 132 [] 2 1 (.c (aT l) (.a (eU [.int .i64,.int .i64] m rfl) (.c d (.c g (.a (eU [.int .i64,.int .i64] j rfl) (.c a (.c f (.c (aN v) .nil)))))))) (.c o (.v 31 (.rd [.int .i64,.int .i64] m rfl) (.v 29 (.eq (NH u)) (.v 26 (.rd [.int .i64,.int .i64] j rfl) .nil)))) t
theorem VW {nt:Nat} (a:53≤nt) (L0 L:List Cl) (n i:Nat):
  ah prog ap [cB L0] nt (af 2 (ag f132)) (JA n i 0 L) (.exit 2) ⟨[(0,.ref 0 0 0 n),(1,.int .i64 0),(2,.int .i64 (n:Int)),(3,.fn 41 [] []),(8,.int .i64 (i:Int))],[(0,cB L)],.dead,[]⟩:=pN 132 [] 2 0 (.n 2 .nil) (.nil) a
theorem Ef {nt:Nat} (a:53≤nt) (L0:List Cl) (n i:Nat) (c:n<2^40) (y:Cl) (b:ku y):∀ (q r:List Cl),(∀ x ∈ q,ku x)→(q.reverse++y::r).length=n→
  aQ prog ap [cB L0] nt (af 2 (ag f132)) (fun _=> .exit 2) (fun p:List Cl × List Cl=>JA n i p.1.length (p.1.reverse++y::p.2)) (fun L=> ⟨[(0,.ref 0 0 0 n),(1,.int .i64 0),(2,.int .i64 (n:Int)),(3,.fn 41 [] []),(8,.int .i64 (i:Int))],[(0,cB L)],.dead,[]⟩) (q,r) (mG q y r)
 | [],r,_,_=> .done (VW a L0 (y::r) n i)
 | x::q,r,hq,hs=>by
  have d:=hq x (by simp)
  have e:(x::q).reverse++y::r=q.reverse++x::y::r:=by simp
  rw [e] at hs
  unfold mG
  cases h:P_ y x with
  |true=>
   rw [if_pos rfl]
   refine .next (a':=(q,x::r)) ?_ (Ef a L0 n i c y b q (x::r) (fun z f=>hq z (by simp [f])) (by simpa using hs))
   have:=SQ a L0 q.reverse r x y n i hs c d b h
   show ah _ _ _ _ _ (JA n i (q.length+1) ((x::q).reverse++y::r)) _ (JA n i q.length (q.reverse++y::x::r))
   rw [e]
   simpa using this
  |false=>
   rw [if_neg (by simp)]
   refine .done ?_
   have:=SV a L0 q.reverse r x y n i hs c d b h
   show ah _ _ _ _ _ (JA n i (q.length+1) ((x::q).reverse++y::r)) _ _
   rw [e]
   simpa using this
theorem Ee:∀ (q:List Cl) (y:Cl) (r s:List Cl),mG q y (r++s)=mG q y r++s
 | [],y,r,s=>by simp [mG]
 |x::q,y,r,s=>by
  unfold mG
  cases P_ y x with
  |true=>rw [if_pos rfl,if_pos rfl,← Ee q y (x::r) s];rfl
  |false=>rw [if_neg (by simp),if_neg (by simp)];simp
theorem uz:∀ (q:List Cl) (y:Cl) (r:List Cl),(mG q y r).Perm (q.reverse++y::r)
 | [],y,r=>by simp [mG]
 | x::q,y,r=>by
  unfold mG
  cases P_ y x with
  |true=>
   rw [if_pos rfl]
   refine (uz q y (x::r)).trans ?_
   rw [List.reverse_cons,List.append_assoc]
   exact List.Perm.append_left _ (List.Perm.swap x y r)
  |false=>rw [if_neg (by simp)]
theorem vN:∀ (r p:List Cl),(qW p r).Perm (p++r)
 | [],p=>by simp [qW]
 |y::r,p=>by
  unfold qW
  refine (vN r _).trans ?_
  have:=(uz p.reverse y []).append_right r
  simpa using this
theorem yD (l:List Cl):(iy l).Perm l:=by
 cases l with
 |nil=>exact List.Perm.refl _
 |cons x l=>exact vN l [x]
def yZ (n k:Nat) (L:List Cl):St:=⟨[(0,.ref 0 0 0 n),(1,.int .i64 0),(2,.int .i64 (n:Int)),(3,.fn 41 [] []),(8,.int .i64 (k:Int))],[(0,⟨(cL L),0,false,0,2,true⟩)],.dead,[]⟩
theorem Tz {nt:Nat} (b:53≤nt) (L0 p r:List Cl) (y:Cl) (n:Nat) (hs:(p++y::r).length=n) (a:n<2^40) (hp:∀ x ∈ p,ku x) (f:ku y):
  ah prog ap [cB L0] nt (af 0 (ag f132)) (yZ n p.length (p++y::r)) .normal (yZ n (p.length+1) (mG p.reverse y []++r)):=by
 have g:p.length<2^62:=by rw [← hs] at a;simp at a;omega
 have e:p.length<n:=by rw [← hs];simp
 have i:(decide ((p.length:Int)<(n:Int)))=true:=decide_eq_true (by omega)
 have d:=aQ.blk (id:=2) (e':= .normal) (s:=JA n p.length p.length (p++y::r)) (s':=⟨[(0,.ref 0 0 0 n),(1,.int .i64 0),(2,.int .i64 (n:Int)),(3,.fn 41 [] []),(8,.int .i64 (p.length:Int))],[(0,cB (mG p.reverse y r))],.dead,[]⟩) (fun nt (b:53≤nt)=>Ef b L0 n p.length a y f p.reverse r (fun x j=>hp x (by simpa using j)) (by simpa using hs)) (by simp) rfl
  (by simpa using aG.refl _) (aG.refl _)
 rw [← List.nil_append r,Ee p.reverse y [] r,List.nil_append] at d
 unfold JA at d
 unfold yZ
 generalize l:p++y::r=L at*
 generalize mG p.reverse y []++r=L2 at*
 generalize p.length=k at*
 have h:aK prog ap [cB L0] 53 (.block 2 (.loop (af 2 (ag f132)))) ⟨[(0,.ref 0 0 0 n),(1,.int .i64 0),(2,.int .i64 (n:Int)),(3,.fn 41 [] []),(8,.int .i64 (k:Int)),(9,.int .i64 (k:Int)),(14,.bool (decide ((k:Int)<(n:Int)))),(34,.dead)],[(0,⟨(cL L),0,false,0,2,true⟩)],.dead,[]⟩ (.normal) ⟨[(0,.ref 0 0 0 n),(1,.int .i64 0),(2,.int .i64 (n:Int)),(3,.fn 41 [] []),(8,.int .i64 (k:Int))],[(0,⟨(cL L2),0,false,0,2,true⟩)],.dead,[]⟩:=(fun nt c=>(d nt c).weak (aG.of ⟨rfl,rfl,rfl,rfl,rfl,rfl,trivial⟩) (aG.refl _))
 exact pN 132 [2] 1 1 (.c (aN i) .nil) (.v 16 (.eq (wpS g)) (.l h .nil)) b
theorem H_ {nt:Nat} (b:53≤nt) (L0 L:List Cl) (n k:Nat) (h:n≤k):ah prog ap [cB L0] nt (af 0 (ag f132)) (yZ n k L) (.exit 0) ⟨[],[(0,cB L)],.dead,[]⟩:=by
 have a:(decide ((k:Int)<(n:Int)))=false:=decide_eq_false (by omega)
 exact pN 132 [2] 1 0 (.c (aT a) .nil) .nil b
theorem Et {nt:Nat} (d:53≤nt) (L0:List Cl) (n:Nat) (e:n<2^40):∀ (r p:List Cl),(∀ x ∈ p,ku x)→(∀ x ∈ r,ku x)→(p++r).length=n→
  aQ prog ap [cB L0] nt (af 0 (ag f132)) (fun _=> .exit 0) (fun q:List Cl × List Cl=>yZ n q.1.length (q.1++q.2)) (fun L=> ⟨[],[(0,cB L)],.dead,[]⟩) (p,r) (qW p r)
 | [],p,_,_,hs=>by
  refine .done ?_
  show ah _ _ _ _ _ (yZ n p.length (p++ [])) _ _
  have:=H_ d L0 (p++ []) n p.length (by rw [← hs];simp)
  rw [List.append_nil] at this ⊢
  exact this
 | y::r,p,hp,hr,hs=>by
  unfold qW
  have b:=uz p.reverse y []
  rw [List.reverse_reverse] at b
  have a:(mG p.reverse y []).length=p.length+1:=by rw [b.length_eq];simp
  refine .next (a':=(mG p.reverse y [],r)) ?_ (Et d L0 n e r (mG p.reverse y []) (fun x c=> ?_) (fun x c=>hr x (by simp [c])) (by rw [← hs];simp [a];omega))
  ·show ah _ _ _ _ _ (yZ n p.length (p++y::r)) _ (yZ n (mG p.reverse y []).length (mG p.reverse y []++r))
   rw [a]
   exact Tz d L0 p r y n hs e hp (hr y (by simp))
  ·have:=b.mem_iff.1 c
   simp at this
   rcases this with h|h
   ·exact hp x h
   ·subst h;exact hr x (by simp)
theorem SS (l:List Cl) (g:l.length<2^40) (hs:∀ x ∈ l,ku x):ae prog ap 132 [.ref 0 0 0 l.length,.int .i64 0,.int .i64 (l.length:Int),.fn 41 [] []] [cB l] (.ret (.tup [])) [cB (iy l)]:=by
 have hloop:aK prog ap [cB l] 53 (.block 0 (.loop (af 0 (ag f132)))) (yZ l.length 1 l) .normal ⟨[],[(0,cB (iy l))],.dead,[]⟩:=by
  cases l with
  |nil=>exact aQ.blk (id:=0) (e':= .normal) (fun nt d=>aQ.done (α:=Unit) (β:=Unit) (a:=()) (r:=()) (e:=fun _=> .exit 0) (st:=fun _=>yZ 0 1 []) (out:=fun _=> ⟨[],[(0,cB [])],.dead,[]⟩) (H_ d [] [] 0 1 (by omega))) (by simp) rfl (aG.refl _) (aG.refl _)
  |cons x r=>exact aQ.blk (id:=0) (e':= .normal) (fun nt d=>Et d (x::r) (x::r).length g r [x] (fun z b=>by simp at b;subst b;exact hs z (by simp)) (fun z b=>hs z (by simp [b])) rfl) (by simp) rfl (aG.refl _) (aG.refl _)
 unfold yZ at hloop
 have f:aK prog ap [cB l] 53 (.block 0 (.loop (af 0 (ag f132)))) ⟨[(0,.ref 0 0 0 l.length),(1,.int .i64 0),(2,.int .i64 (l.length:Int)),(3,.fn 41 [] []),(8,.int .i64 1),(9,.dead),(14,.dead),(34,.dead)],[(0,⟨(cL l),0,false,0,2,true⟩)],.dead,[]⟩ (.normal) ⟨[],[(0,⟨(cL (iy l)),0,false,0,2,true⟩)],.dead,[]⟩:=(fun nt c=>(hloop nt c).weak (aG.of ⟨rfl,rfl,rfl,rfl,rfl,trivial⟩) (aG.refl _))
 exact pK [0] 0 0 .nil (.l f .nil)
end Go.Proofs.Tryz
namespace Go.Proofs.Tryz
open Go AM
theorem cD (b:List Nat) {ans:List (fP × List aJ)} {ps:List Prop} {f:Nat} {args:List AV} {h a:List aJ} {out:fP} (hp:PS prog ap ps ans [] [])
  (he:jH ap (Dh prog ap 3000 b 9) 3000 .dead f args h ⟨true,[],[],[],ans,[]⟩= .ok (out,a,.dead) ⟨true,[],[],ps,[],[]⟩:=by kernel_rfl):ae prog ap f args h out a:=Gp jY.apok jY.mixed jY.fnok he ⟨fun _ c=>(by cases c),hp.all.mem⟩
end Go.Proofs.Tryz
set_option maxRecDepth 100000
set_option linter.unusedVariables false
open Go AM
namespace Go.Proofs.Tryz
theorem Td:∀ n:Nat,n≤12→∃ v:Int,CO 91 [.int .u64 (n:Int)] (.ret (.int .i64 v))
 |0,_=> ⟨0,cD [] .nil⟩
 |1,_=> ⟨1,cD [] .nil⟩
 |2,_=> ⟨2,cD [] .nil⟩
 |3,_=> ⟨2,cD [] .nil⟩
 |4,_=> ⟨3,cD [] .nil⟩
 |5,_=> ⟨3,cD [] .nil⟩
 |6,_=> ⟨3,cD [] .nil⟩
 |7,_=> ⟨3,cD [] .nil⟩
 |8,_=> ⟨4,cD [] .nil⟩
 |9,_=> ⟨4,cD [] .nil⟩
 |10,_=> ⟨4,cD [] .nil⟩
 |11,_=> ⟨4,cD [] .nil⟩
 |12,_=> ⟨4,cD [] .nil⟩
 |n+13,h=>absurd h (by omega)
theorem TA (L L2:List Cl) (n:Nat) (v:Int) (c:n≤12) (h:ae prog ap 132 [.ref 0 0 0 n,.int .i64 0,.int .i64 (n:Int),.fn 41 [] []] [cB L] (.ret (.tup [])) [cB L2]):ae prog ap 90 [.ref 0 0 0 n,.int .i64 0,.int .i64 (n:Int),.int .i64 v,.fn 41 [] []] [cB L] (.ret (.tup [])) [cB L2]:=by
 have a:AV.int .i64 (IntKind.wrap .i64 ((n:Int) - ((0:Nat):Int)))= .int .i64 (n:Int):=by
  have e:IntKind.wrap .i64 ((n:Int) - ((0:Nat):Int))=(n:Int):=by rw [nD]<;>omega
  rw [e]
 have b:(decide ((n:Int)≤((12:Nat):Int)))=true:=decide_eq_true (by omega)
 exact pK [] 1 1 (.c (aN b) .nil) (.c h (.v 23 (.eq a) .nil))
theorem OZ (l:List Cl) (a:l.length≤12) (hs:∀ x ∈ l,ku x):ae prog ap 40 [.ref 0 0 0 l.length,.fn 41 [] []] [cB l] (.ret (.tup [])) [cB (iy l)]:=by
 obtain ⟨v,d⟩:=Td l.length a
 have b:=TA l (iy l) l.length v a (SS l (by omega) hs)
 have c:AV.int .u64 (IntKind.wrap .u64 (l.length:Int))= .int .u64 (l.length:Int):=by
  have e:IntKind.wrap .u64 (l.length:Int)=(l.length:Int):=by rw [abB]<;>omega
  rw [e]
 generalize iy l=L2 at*
 generalize l.length=n at*
 exact pK [] 0 0 .nil (.c b (.c d (.v 10 (.eq c) .nil)))
theorem Nh:CO 40 [.nilS,.fn 41 [] []] (.ret (.tup [])):=cD [] .nil
def Fa (y x:Cl):Bool:=((y.1==x.1) && ((y.2==x.2) && true))
theorem ZJ {x y:Cl}:Fa y x=true↔y=x:=by
 unfold Fa
 simp only [Bool.and_true,Bool.and_eq_true,beq_iff_eq]
 exact ⟨fun h=>Prod.ext h.1 h.2,fun h=>h ▸ ⟨rfl,rfl⟩⟩
def rZ:List Cl→Cl→List Cl→List Cl
 |A,_,[]=>A
 |A,z,y::r=>if Fa y z then rZ A y r else rZ (A++ [y]) y r
def dA:List Cl→List Cl
 | []=> []
 |x::l=>rZ [x] x l
def ul:List Cl→List Cl→Cl→List Cl→List Cl × List Cl
 |A,G,z,[]=>(A,G++ [z])
 |A,G,z,y::r=>if Fa y z then ul A (G++ [z]) y r else ul (A++ [y]) (G++ [z]).tail y r
theorem xN:∀ (r A G:List Cl) (z:Cl),(ul A G z r).1=rZ A z r
 | [],A,G,z=>rfl
 |y::r,A,G,z=>by
  unfold ul rZ
  split
  ·exact xN r A _ y
  ·exact xN r _ _ y
theorem xO:∀ (r A G:List Cl) (z:Cl),(ul A G z r).1.length+(ul A G z r).2.length=A.length+G.length+1+r.length
 | [],A,G,z=>by simp [ul];omega
 |y::r,A,G,z=>by
  unfold ul
  split
  ·rw [xO r A _ y];simp;omega
  ·rw [xO r _ _ y];simp;omega
theorem GR {L p r:List Cl} {x:Cl} {a j:Nat} (c:L=p++x::r) (b:a+j=p.length):List.drop ((a+(Int.toNat (j:Int)))*2) (cL L)=cC x++cL r:=by
 have:=ed (f:=cC) (n:=2) (fun _=>rfl) c
 rw [fD] at this ⊢
 rw [b];exact this
def NF (n k kz q j:Nat) (L:List Cl):St:=⟨[(0,.ref 0 0 0 n),(3,.int .i64 (k:Int)),(4,.ref 0 0 kz q),(5,.int .i64 (((j+1):Nat):Int))],[(0,⟨(cL L),0,false,0,2,true⟩)],.dead,[]⟩
theorem UI {nt:Nat} (C:61≤nt) (L0 A G r:List Cl) (x y:Cl) (n a q j:Nat) (hs:(A++G++x::y::r).length=n) (I:n<2^40) (K:a+q=n) (E:A.length+G.length=a+j) (u:Fa y x=false):
  ah prog ap [cB L0] nt (af 2 (ag f42)) (NF n A.length a q j (A++G++x::y::r)) .normal (NF n (A++ [y]).length a q (j+1) ((A++ [y])++(G++ [x]).tail++y::r)):=by
 have v:(List.drop ((a+(Int.toNat (j:Int)))*2) (cL (A++G++x::y::r)))=cC x++cL (y::r):=GR (p:=A++G) rfl (by simp;omega)
 have f:(List.drop ((a+(Int.toNat (((j+1):Nat):Int)))*2) (cL (A++G++x::y::r)))=cC y++cL r:=GR (p:=A++G++ [x]) (by simp) (by simp;omega)
 have c:(cL (A++G++x::y::r)).length=n*2:=by rw [bH,hs]
 have H:A.length+G.length+2+r.length=n:=by rw [← hs];simp;omega
 have B:(decide ((((j+1):Nat):Int)<(q:Int)))=true:=kl (by omega)
 have F:j<2^62:=by omega
 have i:j+1<2^62:=by omega
 have D:A.length<2^62:=by omega
 have t:List.take ((0+(Int.toNat (A.length:Int)))*2) (cL (A++G++x::y::r))++cC y++List.drop (((0+(Int.toNat (A.length:Int)))*2)+2) (cL (A++G++x::y::r))=cL ((A++ [y])++(G++ [x]).tail++y::r):=by
  cases G with
  |nil=>have:=M_ (L:=A++ []++x::y::r) (p:=A) (x:=x) (r:=y::r) (z:=y) (by simp);simpa using this
  |cons g G=>have:=M_ (L:=A++(g::G)++x::y::r) (p:=A) (x:=g) (r:=G++x::y::r) (z:=y) (by simp);simpa using this
 have e:(A++ [y]).length=A.length+1:=by simp
 unfold NF
 rw [e,← t]
 clear t e hs
 unfold Fa at u
 generalize J:A++G++x::y::r=L at*
 generalize A.length=k at*
 have h:(Nat.ble (((0+(Int.toNat (k:Int)))*2)+2) (List.length (cL L)))=true:=(ug (kY c (by omega)))
 have s:(decide (((0:Nat):Int)≤(k:Int)))=true:=(k0 _)
 have o:(decide ((k:Int)<(n:Int)))=true:=(kl (by omega))
 have d:(decide (((0:Nat):Int)≤(((j+1):Nat):Int)))=true:=(k0 _)
 have b:(decide ((((j+1):Nat):Int)<(q:Int)))=true:=(kl (by omega))
 have l:(decide (((0:Nat):Int)≤(j:Int)))=true:=(k0 _)
 have m:(decide ((j:Int)<(q:Int)))=true:=(kl (by omega))
 exact pN 42 [] 2 3 (.c h (.c s (.c o (.a (eU [.int .i64,.int .i64] f rfl) (.c d (.c b (.c (oz u) (.a (eU [.int .i64,.int .i64] v rfl) (.c l (.c m (.a (eU [.int .i64,.int .i64] f rfl) (.c d (.c b (.c (aN B) .nil)))))))))))))) (.v 34 (.eq (wpS i)) (.v 53 (.eq (wpS D)) (.v 50 (.rd [.int .i64,.int .i64] f rfl) (.v 43 (.rd [.int .i64,.int .i64] v rfl) (.v 41 (.eq (NH F)) (.v 38 (.rd [.int .i64,.int .i64] f rfl) .nil)))))) C
theorem UH {nt:Nat} (m:61≤nt) (L0 A G r:List Cl) (x y:Cl) (n a q j:Nat) (hs:(A++G++x::y::r).length=n) (v:n<2^40) (C:a+q=n) (o:A.length+G.length=a+j) (i:Fa y x=true):
  ah prog ap [cB L0] nt (af 2 (ag f42)) (NF n A.length a q j (A++G++x::y::r)) .normal (NF n A.length a q (j+1) (A++G++x::y::r)):=by
 have l:(List.drop ((a+(Int.toNat (j:Int)))*2) (cL (A++G++x::y::r)))=cC x++cL (y::r):=GR (p:=A++G) rfl (by simp;omega)
 have h:(List.drop ((a+(Int.toNat (((j+1):Nat):Int)))*2) (cL (A++G++x::y::r)))=cC y++cL r:=GR (p:=A++G++ [x]) (by simp) (by simp;omega)
 have g:(cL (A++G++x::y::r)).length=n*2:=by rw [bH,hs]
 have u:A.length+G.length+2+r.length=n:=by rw [← hs];simp;omega
 have t:(decide ((((j+1):Nat):Int)<(q:Int)))=true:=kl (by omega)
 have s:j<2^62:=by omega
 have f:j+1<2^62:=by omega
 have B:A.length<2^62:=by omega
 unfold NF
 clear hs
 unfold Fa at i
 generalize z:A++G++x::y::r=L at*
 generalize A.length=k at*
 have c:(decide (((0:Nat):Int)≤(j:Int)))=true:=(k0 _)
 have e:(decide ((j:Int)<(q:Int)))=true:=(kl (by omega))
 have b:(decide (((0:Nat):Int)≤(((j+1):Nat):Int)))=true:=(k0 _)
 have d:(decide ((((j+1):Nat):Int)<(q:Int)))=true:=(kl (by omega))
 exact pN 42 [] 2 1 (.c (gY i) (.a (eU [.int .i64,.int .i64] l rfl) (.c c (.c e (.a (eU [.int .i64,.int .i64] h rfl) (.c b (.c d (.c (aN t) .nil)))))))) (.v 34 (.eq (wpS f)) (.v 43 (.rd [.int .i64,.int .i64] l rfl) (.v 41 (.eq (NH s)) (.v 38 (.rd [.int .i64,.int .i64] h rfl) .nil)))) m
theorem UG {nt:Nat} (b:61≤nt) (L0 L:List Cl) (n k c q j:Nat) (h:q≤j+1):
  ah prog ap [cB L0] nt (af 2 (ag f42)) (NF n k c q j L) (.exit 2) ⟨[(0,.ref 0 0 0 n),(3,.int .i64 (k:Int))],[(0,cB L)],.dead,[]⟩:=by
 have a:(decide ((((j+1):Nat):Int)<(q:Int)))=false:=kn h
 exact pN 42 [] 1 0 (.c (aT a) .nil) .nil b
theorem BV {nt:Nat} (b:61≤nt) (L0:List Cl) (n a q:Nat) (c:n<2^40) (d:a+q=n):∀ (r A G:List Cl) (z:Cl) (j:Nat),(A++G++z::r).length=n→A.length+G.length=a+j→
  aQ prog ap [cB L0] nt (af 2 (ag f42)) (fun _=> .exit 2) (fun p:List Cl × List Cl × Cl × List Cl × Nat=>NF n p.1.length a q p.2.2.2.2 (p.1++p.2.1++p.2.2.1::p.2.2.2.1)) (fun p:List Cl × List Cl=> ⟨[(0,.ref 0 0 0 n),(3,.int .i64 (p.1.length:Int))],[(0,cB (p.1++p.2))],.dead,[]⟩) (A,G,z,r,j) (ul A G z r)
 | [],A,G,z,j,hs,hj=>by
  refine .done ?_
  have:=UG b L0 (A++G++ [z]) n A.length a q j (by simp at hs;omega)
  simpa [ul] using this
 | y::r,A,G,z,j,hs,hj=>by
  unfold ul
  cases e:Fa y z with
  |true=>
   rw [if_pos rfl]
   refine .next (a':=(A,G++ [z],y,r,j+1)) ?_ (BV b L0 n a q c d r A (G++ [z]) y (j+1) (by simpa using hs) (by simp;omega))
   have:=UH b L0 A G r z y n a q j hs c d hj e
   simpa using this
  |false=>
   rw [if_neg (by simp)]
   refine .next (a':=(A++ [y],(G++ [z]).tail,y,r,j+1)) (UI b L0 A G r z y n a q j hs c d hj e) (BV b L0 n a q c d r (A++ [y]) (G++ [z]).tail y (j+1) ?_ ?_)
   ·simp at hs ⊢;omega
   ·simp;omega
def Dt (k:Nat):List AV:=fK k [.int .i64 0,.int .i64 0]
theorem IA (k:Nat):(Dt k).length=k*2:=by unfold Dt fK;simp [List.length_flatten]
def wJ (n k:Nat) (L:List Cl):St:=⟨[(0,.ref 0 0 0 n),(3,.int .i64 (((k+1):Nat):Int))],[(0,⟨(cL L),0,false,0,2,true⟩)],.dead,[]⟩
def RZ:List Cl→Cl→List Cl→Option (List Cl)
 |_,_,[]=>none
 |p,x,y::r=>if Fa y x then some (rZ (p++ [x]) y r) else RZ (p++ [x]) y r
def R_:Option (List Cl)→bf
 |none=> .exit 0
 |some _=> .ret
def UF (n:Nat) (L:List Cl):Option (List Cl)→St
 |none=> ⟨[(0,.ref 0 0 0 n)],[(0,cB L)],.dead,[]⟩
 |some A=> ⟨[(2,.ref 0 0 0 A.length)],[(0,⟨cL A++Dt (n - A.length),0,false,0,2,true⟩)],.dead,[]⟩
theorem JV:∀ (r p:List Cl) (x:Cl),(match RZ p x r with|none=>p++x::r|some A=>A)=rZ (p++ [x]) x r
 | [],p,x=>rfl
 | y::r,p,x=>by
  rw [RZ,rZ]
  cases a:Fa y x with
  |true=>rw [if_pos rfl,if_pos rfl]
  |false=>
   rw [if_neg (by simp),if_neg (by simp)]
   have:=JV r (p++ [x]) y
   cases h:RZ (p++ [x]) y r with
   |none=>rw [h] at this;simpa using this
   |some A=>rw [h] at this;exact this
theorem Sl {nt:Nat} (u:61≤nt) (L0 p r:List Cl) (x y:Cl) (n:Nat) (hs:(p++x::y::r).length=n) (M:n<2^40) (I:Fa y x=true):
  ah prog ap [cB L0] nt (af 0 (ag f42)) (wJ n p.length (p++x::y::r)) .ret (UF n (p++x::y::r) (some (rZ (p++ [x]) y r))):=by
 have J:=nI (L:=p++x::y::r) (p:=p) (x:=x) (r:=y::r) rfl
 have G:List.drop ((0+(Int.toNat (((p.length+1):Nat):Int)))*2) (cL (p++x::y::r))=cC y++cL r:=by
  have:=nI (L:=p++x::y::r) (p:=p++ [x]) (x:=y) (r:=r) (by simp)
  simpa using this
 have X:p.length+r.length+2=n:=by rw [← hs];simp;omega
 have S:p.length<2^62:=by omega
 have R:p.length+1<2^62:=by omega
 have E:(cL (p++x::y::r)).length=n*2:=by rw [bH,hs]
 have Q:(decide ((((p.length+1):Nat):Int)<(n:Int)))=true:=kl (by omega)
 obtain ⟨q,v⟩:∃ q,q=n - (p.length+1):=⟨_,rfl⟩
 have W:AV.ref 0 0 (0+(Int.toNat (((p.length+1):Nat):Int))) ((Int.toNat (n:Int)) - (Int.toNat (((p.length+1):Nat):Int)))= .ref 0 0 (p.length+1) q:=by
  rw [fD,fD,Nat.zero_add,← v]
 have H:(ul (p++ [x]) [] y r).1=rZ (p++ [x]) y r:=xN r (p++ [x]) [] y
 have e:=xO r (p++ [x]) [] y
 have h:=aQ.blk (id:=2) (e':= .normal) (s:=NF n (p++ [x]).length (p.length+1) q 0 ((p++ [x])++ []++y::r)) (fun nt (u:61≤nt)=>BV u L0 n (p.length+1) q M (by omega) r (p++ [x]) [] y 0 (by rw [← hs];simp) (by simp)) (by simp) rfl (aG.refl _) (aG.refl _)
 rw [← H]
 generalize l:ul (p++ [x]) [] y r=RR at*
 obtain ⟨A,B⟩:=RR
 have F:(p++ [x])++ []++y::r=p++x::y::r:=by simp
 have j:(p++ [x]).length=p.length+1:=by simp
 rw [F,j] at h
 simp only [j,List.length_nil] at e
 have d:A.length+B.length=n:=by omega
 have hlen2:(cL (A++B)).length=n*2:=by rw [bH,List.length_append,d]
 have a:List.take ((0+(Int.toNat (A.length:Int)))*2) (cL (A++B))++(fK ((Int.toNat (n:Int)) - (Int.toNat (A.length:Int))) [.int .i64 0,.int .i64 0])++List.drop (((0+(Int.toNat (A.length:Int)))*2)+(List.length (fK ((Int.toNat (n:Int)) - (Int.toNat (A.length:Int))) [.int .i64 0,.int .i64 0]))) (cL (A++B))=cL A++Dt (n - A.length):=by
  rw [fD,fD,Nat.zero_add]
  have K:(cL A).length=A.length*2:=bH A
  have V:cL (A++B)=cL A++cL B:=by simp [cL]
  have O:(fK (n - A.length) [AV.int .i64 0,AV.int .i64 0]).length=(n - A.length)*2:=IA _
  rw [O,V,List.take_left' K,List.drop_eq_nil_of_le (by rw [List.length_append,bH,bH];omega),List.append_nil]
  rfl
 show ah _ _ _ _ _ (wJ n p.length (p++x::y::r)) _ ⟨[(2,.ref 0 0 0 A.length)],[(0,⟨cL A++Dt (n - A.length),0,false,0,2,true⟩)],.dead,[]⟩
 rw [← a]
 unfold NF at h
 unfold wJ
 simp only at h
 have N:A.length≤n:=by omega
 clear hs a l H e F j d
 unfold Fa at I
 generalize Y:p++x::y::r=L at*
 generalize T:A++B=L2 at*
 generalize p.length=k at*
 generalize A.length=m at*
 have U:aK prog ap [cB L0] 61 (.block 2 (.loop (af 2 (ag f42)))) ⟨[(0,.ref 0 0 0 n),(2,.dead),(3,.int .i64 (((k+1):Nat):Int)),(4,.ref 0 0 (k+1) q),(5,.int .i64 1),(8,.dead),(13,.bool (decide ((((k+1):Nat):Int)<(n:Int)))),(25,.bool ((y.1==x.1) && ((y.2==x.2) && true))),(32,.dead),(44,.dead)],[(0,⟨(cL L),0,false,0,2,true⟩)],.dead,[]⟩ (.normal) ⟨[(0,.ref 0 0 0 n),(3,.int .i64 (m:Int))],[(0,⟨(cL L2),0,false,0,2,true⟩)],.dead,[]⟩:=(fun nt o=>(h nt o).weak (aG.of ⟨rfl,rfl,rfl,rfl,trivial⟩) (aG.refl _))
 have c:(decide (((0:Nat):Int)≤(m:Int)))=true:=(k0 _)
 have f:(decide ((m:Int)≤(n:Int)))=true:=(decide_eq_true (by omega))
 have D:(Nat.ble (((0+(Int.toNat (m:Int)))*2)+(((Int.toNat (n:Int)) - (Int.toNat (m:Int)))*2)) (List.length (cL L2)))=true:=(ug (kY hlen2 (by omega)))
 have g:(decide ((n:Int)≤(n:Int)))=true:=(decide_eq_true (by omega))
 have b:(decide (((0:Nat):Int)≤(((k+1):Nat):Int)))=true:=(k0 _)
 have z:(decide ((((k+1):Nat):Int)≤(n:Int)))=true:=(decide_eq_true (by omega))
 have C:(decide (((0:Nat):Int)≤(k:Int)))=true:=(k0 _)
 have i:(decide ((k:Int)<(n:Int)))=true:=(kl (by omega))
 have t:(decide ((((k+1):Nat):Int)<(n:Int)))=true:=(kl (by omega))
 exact pN 42 [2] 2 3 (.k 1 c (.c f (.c D (.c c (.c f (.c g (.c b (.c z (.c g (.c (aN I) (.a (eU [.int .i64,.int .i64] J rfl) (.c C (.c i (.a (eU [.int .i64,.int .i64] G rfl) (.c b (.c t (.c (aN Q) .nil))))))))))))))))) (.l U (.v 28 (.eq W) (.v 24 (.rd [.int .i64,.int .i64] J rfl) (.v 22 (.eq (NH S)) (.v 19 (.rd [.int .i64,.int .i64] G rfl) .nil))))) u
theorem Sj {nt:Nat} (j:61≤nt) (L0 p r:List Cl) (x y:Cl) (n:Nat) (hs:(p++x::y::r).length=n) (q:n<2^40) (h:Fa y x=false):
  ah prog ap [cB L0] nt (af 0 (ag f42)) (wJ n p.length (p++x::y::r)) .normal (wJ n (p.length+1) (p++x::y::r)):=by
 have i:=nI (L:=p++x::y::r) (p:=p) (x:=x) (r:=y::r) rfl
 have g:List.drop ((0+(Int.toNat (((p.length+1):Nat):Int)))*2) (cL (p++x::y::r))=cC y++cL r:=by
  have:=nI (L:=p++x::y::r) (p:=p++ [x]) (x:=y) (r:=r) (by simp)
  simpa using this
 have o:p.length+r.length+2=n:=by rw [← hs];simp;omega
 have l:p.length<2^62:=by omega
 have e:p.length+1<2^62:=by omega
 have f:(cL (p++x::y::r)).length=n*2:=by rw [bH,hs]
 have m:(decide ((((p.length+1):Nat):Int)<(n:Int)))=true:=kl (by omega)
 unfold wJ
 clear hs
 unfold Fa at h
 generalize s:p++x::y::r=L at*
 generalize p.length=k at*
 have b:(decide (((0:Nat):Int)≤(k:Int)))=true:=(k0 _)
 have d:(decide ((k:Int)<(n:Int)))=true:=(kl (by omega))
 have a:(decide (((0:Nat):Int)≤(((k+1):Nat):Int)))=true:=(k0 _)
 have c:(decide ((((k+1):Nat):Int)<(n:Int)))=true:=(kl (by omega))
 exact pN 42 [2] 2 1 (.c (aT h) (.a (eU [.int .i64,.int .i64] i rfl) (.c b (.c d (.a (eU [.int .i64,.int .i64] g rfl) (.c a (.c c (.c (aN m) .nil)))))))) (.v 15 (.eq (wpS e)) (.v 24 (.rd [.int .i64,.int .i64] i rfl) (.v 22 (.eq (NH l)) (.v 19 (.rd [.int .i64,.int .i64] g rfl) .nil)))) j
theorem Si {nt:Nat} (b:61≤nt) (L0 L:List Cl) (n k:Nat) (h:n≤k+1):
  ah prog ap [cB L0] nt (af 0 (ag f42)) (wJ n k L) (.exit 0) ⟨[(0,.ref 0 0 0 n)],[(0,cB L)],.dead,[]⟩:=by
 have a:(decide ((((k+1):Nat):Int)<(n:Int)))=false:=kn h
 exact pN 42 [2] 1 0 (.c (aT a) .nil) .nil b
theorem DT {nt:Nat} (a:61≤nt) (L0 L:List Cl) (n:Nat) (b:n<2^40) (hs:L.length=n):∀ (r p:List Cl) (x:Cl),p++x::r=L→
  aQ prog ap [cB L0] nt (af 0 (ag f42)) R_ (fun k:Nat=>wJ n k L) (UF n L) p.length (RZ p x r)
 | [],p,x,h=>by
  refine .done ?_
  exact Si a L0 L n p.length (by rw [← hs,← h];simp)
 | y::r,p,x,h=>by
  unfold RZ
  cases c:Fa y x with
  |true=>
   rw [if_pos rfl]
   refine .done ?_
   have:=Sl a L0 p r x y n (by rw [h];exact hs) b c
   rwa [h] at this
  |false=>
   rw [if_neg (by simp)]
   have:=Sj a L0 p r x y n (by rw [h];exact hs) b c
   rw [h] at this
   refine .next (a':=p.length+1) this ?_
   have d:=DT a L0 L n b hs r (p++ [x]) y (by rw [← h];simp)
   simpa using d
theorem Iz (l:List AV):l++Dt 0=l:=by simp [Dt,fK]
theorem FH (l:List Cl) (f:l.length<2^40):ae prog ap 42 [.ref 0 0 0 l.length] [cB l] (.ret (.ref 0 0 0 (dA l).length)) [⟨cL (dA l)++Dt (l.length - (dA l).length),0,false,0,2,true⟩]:=by
 have small:∀ (L:List Cl) (n:Nat),n<2→ae prog ap 42 [.ref 0 0 0 n] [cB L] (.ret (.ref 0 0 0 n)) [cB L]:=fun L n g=>by
  have d:(decide (((n:Nat):Int)<((2:Nat):Int)))=true:=kl g
  exact pK [0] 1 1 (.c (aN d) .nil) .nil
 match l,f with
 | [],_=>have:=small [] 0 (by omega);simpa [dA,Iz] using this
 | [x],_=>
  have:=small [x] 1 (by omega)
  show ae prog ap 42 [.ref 0 0 0 1] [cB [x]] (.ret (.ref 0 0 0 1)) [⟨cL [x]++Dt 0,0,false,0,2,true⟩]
  rw [Iz];exact this
 | x::y::r,f=>
  have b:=JV (y::r) [] x
  rw [List.nil_append,List.nil_append] at b
  have j:dA (x::y::r)=rZ [x] x (y::r):=rfl
  rw [j,← b]
  have hloop:=fun nt (g:61≤nt)=>DT g (x::y::r) (x::y::r) (x::y::r).length f rfl (y::r) [] x rfl
  have d:(decide ((((x::y::r).length:Nat):Int)<((2:Nat):Int)))=false:=kn (by simp)
  cases h:RZ [] x (y::r) with
  |none=>
   rw [h] at hloop
   have c:=aQ.blk (id:=0) (e':= .normal) (s:=wJ (x::y::r).length 0 (x::y::r)) (s':=⟨[(0,.ref 0 0 0 (x::y::r).length)],[(0,cB (x::y::r))],.dead,[]⟩) hloop (by simp [R_]) rfl (aG.refl _) (aG.refl _)
   unfold wJ at c
   simp only [Nat.sub_self,Iz]
   generalize i:x::y::r=L at*
   generalize L.length=n at*
   have e:aK prog ap [cB L] 61 (.block 0 (.loop (af 0 (ag f42)))) ⟨[(0,.ref 0 0 0 n),(2,.nilS),(3,.int .i64 1),(4,.dead),(5,.dead),(8,.bool (decide (((n:Nat):Int)<((2:Nat):Int)))),(13,.dead),(25,.dead),(32,.dead),(44,.dead)],[(0,⟨(cL L),0,false,0,2,true⟩)],.dead,[]⟩ (.normal) ⟨[(0,.ref 0 0 0 n)],[(0,⟨(cL L),0,false,0,2,true⟩)],.dead,[]⟩:=(fun nt a=>(c nt a).weak (aG.of ⟨rfl,rfl,trivial⟩) (aG.refl _))
   exact pK [0] 1 0 (.c (aT d) .nil) (.l e .nil)
  |some A=>
   rw [h] at hloop
   have c:=aQ.blk (id:=0) (e':= .ret) (s:=wJ (x::y::r).length 0 (x::y::r)) (s':=⟨[(2,.ref 0 0 0 A.length)],[(0,⟨cL A++Dt ((x::y::r).length - A.length),0,false,0,2,true⟩)],.dead,[]⟩) hloop (by simp [R_]) rfl (aG.refl _) (aG.refl _)
   unfold wJ at c
   show ae prog ap 42 _ _ (.ret (.ref 0 0 0 A.length)) [⟨cL A++Dt ((x::y::r).length - A.length),0,false,0,2,true⟩]
   generalize i:x::y::r=L at*
   generalize L.length=n at*
   generalize A.length=k at*
   generalize cL A++Dt (n - k)=C2 at*
   have e:aK prog ap [cB L] 61 (.block 0 (.loop (af 0 (ag f42)))) ⟨[(0,.ref 0 0 0 n),(2,.nilS),(3,.int .i64 1),(4,.dead),(5,.dead),(8,.bool (decide (((n:Nat):Int)<((2:Nat):Int)))),(13,.dead),(25,.dead),(32,.dead),(44,.dead)],[(0,⟨(cL L),0,false,0,2,true⟩)],.dead,[]⟩ (.ret) ⟨[(2,.ref 0 0 0 k)],[(0,⟨C2,0,false,0,2,true⟩)],.dead,[]⟩:=(fun nt a=>(c nt a).weak (aG.of ⟨rfl,rfl,trivial⟩) (aG.refl _))
   exact pK [0] 1 0 (.c (aT d) .nil) (.l e .nil)
theorem DN:CO 42 [.nilS] (.ret .nilS):=cD [] .nil
theorem DX (x:Pv) (a:List UInt8):CO 89 [.agg (Wp x),.pp [.str a] 0] (.ret (.bool (x.nm==a))):=pK [] 0 0 (.n 2 .nil) .nil
def ZK (nm:List UInt8) (k:Nat) (x:Pv):Nat ⊕ Option Nat:=if x.nm==nm then .inr (some k) else .inl (k+1)
def Pz (ps:List Pv) (nm:List UInt8):Option Nat:=AM.goL (ZK nm) (fun _=>none) ps 0
def J5 (ps:List Pv) (nm:List UInt8) (c:Bool) (p:Nat × Nat):St:=⟨[(0,.sl (dm ps) ps.length c),(1,.fn 89 [] [.pp [.str nm] 0]),(7,.int .i64 (ps.length:Int)),(8,.int .i64 (p.1:Int))],[],.dead,[]⟩
def Z9:Option Nat→bf
 |none=> .exit 0
 |some _=> .ret
def J4:Option Nat→St
 |none=> ⟨[],[],.dead,[]⟩
 |some k=> ⟨[(4,.int .i64 (k:Int))],[],.dead,[]⟩
theorem Ob {nt:Nat} (d:19≤nt) (ps:List Pv) (a:List UInt8) (c:Bool) (e:ps.length<2^40):aQ prog ap [] nt (af 0 (ag f88)) Z9 (J5 ps a c) J4 (0,0) (Pz ps a):=by
 refine aQ.goD (ZK a) (fun _=>none) ps (fun p s=>s=p.length) ?_ ?_ 0 rfl
 ·rintro p x rs s hL hp
  have f:(List.drop ((Int.toNat (p.length:Int))*12) (dm ps))=Wp x++dm rs:=ed Wn hL
  have b:(decide ((p.length:Int)<(ps.length:Int)))=true:=kl (sS hL)
  have g:p.length<2^62:=by have:=sS hL;omega
  subst hp
  show (∃ s',_∧ah _ _ _ _ _ (J5 ps a c (p.length,_)) _ _∧_)∨∃ q,_∧ah _ _ _ _ _ (J5 ps a c (p.length,_)) _ _
  have hp:(p++ [x]).length=p.length+1:=by simp
  generalize p.length=k at*
  clear hL
  rcases tf (x.nm==a) with b0|b0
  ·exact .inr ⟨some k,by simp only [ZK,b0,if_true],pN 88 [] 2 3 (.c (aN b0) (.k 12 (k0 k) (.c b (.c (aN b) .nil)))) (.c (DX x a) (.v 14 (.ppt f) .nil)) d⟩
  ·exact .inl ⟨k+1,by simp only [ZK,b0,Bool.false_eq_true,if_false],pN 88 [] 2 1 (.c (aT b0) (.k 12 (k0 k) (.c b (.c (aN b) .nil)))) (.v 18 (.eq (wpS g)) (.c (DX x a) (.v 14 (.ppt f) .nil))) d,by simp [hp]⟩
 ·intro _ _
  exact pN 88 [] 1 0 (.c (aT (kn (Nat.le_refl ps.length))) .nil) (.nil) d
theorem KR (ps:List Pv) (a:List UInt8) (c:Bool) (d:ps.length<2^40):CO 88 [.sl (dm ps) ps.length c,.fn 89 [] [.pp [.str a] 0]] (.ret (.int .i64 (match Pz ps a with|none=> -1|some k=>(k:Int)))):=by
 have hloop:=fun nt (hn:19≤nt)=>Ob hn ps a c d
 cases g:Pz ps a with
 |none=>
  rw [g] at hloop
  have f:=aQ.blk (id:=0) (e':= .normal) (s:=J5 ps a c (0,0)) (s':=J4 none) hloop (by simp [Z9]) rfl (aG.refl _) (aG.refl _)
  have e:aK prog ap [] 19 (.block 0 (.loop (af 0 (ag f88)))) ⟨[(0,.sl (dm ps) ps.length c),(1,.fn 89 [] [.pp [.str a] 0]),(4,.int .i64 0),(5,.dead),(7,.int .i64 (ps.length:Int)),(8,.int .i64 0),(9,.dead),(16,.dead)],[],.dead,[]⟩ (.normal) ⟨[],[],.dead,[]⟩:=(fun nt b=>(f nt b).weak (aG.of ⟨rfl,rfl,rfl,rfl,trivial⟩) (aG.refl _))
  exact pK [0] 0 0 .nil (.l e .nil)
 |some k=>
  rw [g] at hloop
  have f:=aQ.blk (id:=0) (e':= .ret) (s:=J5 ps a c (0,0)) (s':=J4 (some k)) hloop (by simp [Z9]) rfl (aG.refl _) (aG.refl _)
  have e:aK prog ap [] 19 (.block 0 (.loop (af 0 (ag f88)))) ⟨[(0,.sl (dm ps) ps.length c),(1,.fn 89 [] [.pp [.str a] 0]),(4,.int .i64 0),(5,.dead),(7,.int .i64 (ps.length:Int)),(8,.int .i64 0),(9,.dead),(16,.dead)],[],.dead,[]⟩ (.ret) ⟨[(4,.int .i64 (k:Int))],[],.dead,[]⟩:=(fun nt b=>(f nt b).weak (aG.of ⟨rfl,rfl,rfl,rfl,trivial⟩) (aG.refl _))
  exact pK [0] 0 0 .nil (.l e .nil)
theorem mx0 (k:Nat):AV.int .i64 (if ((0:Nat):Int)>(k:Int) then ((0:Nat):Int) else (k:Int))= .int .i64 (k:Int):=by rw [if_neg (by omega)]
theorem ge0 (k:Nat):AV.bool (decide (((0:Nat):Int)≤(k:Int)))= .bool true:=by rw [decide_eq_true (by omega)]
theorem Oc (L:Lw) (a b c:Bool) (e:List UInt8) (d:L.ps.length<2^40):CO 39 [.agg (L.c a b c),.str e] (.ret (match Pz L.ps e with|none=> .tup [.int .i64 0,.bool false]|some k=> .tup [.int .i64 (k:Int),.bool true])):=by
 cases f:Pz L.ps e with
 |none=>
  have h:=KR L.ps e c d
  rw [f] at h
  exact pK [] 0 0 (.n 1 .nil) (.c (h:CO 88 [.sl (dm L.ps) L.ps.length c,.fn 89 [] [.pp [.str e] 0]] (.ret (.int .i64 (-1)))) .nil)
 |some k=>
  have h:=KR L.ps e c d
  rw [f] at h
  exact pK [] 0 0 (.n 1 .nil) (.v 14 (.eq (ge0 k)) (.v 12 (.eq (mx0 k)) (.c (h:CO 88 [.sl (dm L.ps) L.ps.length c,.fn 89 [] [.pp [.str e] 0]] (.ret (.int .i64 (k:Int)))) .nil)))
theorem BN (os:List Cl) (z:Cl):List.take (os.length*2) (cL os)++cC z=cL (os++ [z]):=Oi (f:=cC) (n:=2) (fun _=>rfl) os z rfl
def NG (ps:List Pv) (nm:List UInt8):Nat:=(Pz ps nm).getD 0
def UN (ps:List Pv) (nm:List UInt8):Bool:=(Pz ps nm).isSome
theorem GZ (L:Lw) (a b c:Bool) (e:List UInt8) (d:L.ps.length<2^40):CO 39 [.agg (L.c a b c),.str e] (.ret (.tup [.int .i64 ((NG L.ps e:Nat):Int),.bool (UN L.ps e)])):=by
 have h:=Oc L a b c e d
 unfold NG UN
 cases f:Pz L.ps e with
 |none=>rw [f] at h;exact h
 |some k=>rw [f] at h;exact h
def qc (L:Lw) (s:Int) (w:Cl) (x:Nd):Option Cl:=if UN L.ps x.name then (if x.op==((6:Nat):Int) then some (w.1,((NG L.ps x.name:Nat):Int)) else if x.op==((8:Nat):Int) then (if s==((2:Nat):Int) then some (1 - w.1,((NG L.ps x.name:Nat):Int)) else none) else none) else none
def ZT (os:List Cl):AV:=match os with| []=> .nilS|_::_=> .ref 2 0 0 os.length
def ZR (os:List Cl):Hp:=match os with| []=> []|_::_=> [(2,cB os)]
def Jy (L:Lw) (a b c:Bool) (s:Int) (w:Cl) (bd:List Nd) (p:Nat × List Cl):St:=⟨[(1,.int .i64 s),(3,.ptr 0 0 0),(5,.ptr 1 0 0),(7,ZT p.2),(23,.sl (cO bd) bd.length false),(24,.int .i64 (bd.length:Int)),(25,.int .i64 (p.1:Int))],(0,⟨L.c a b c,0,false,0,0,true⟩)::(1,⟨cC w,0,false,0,0,true⟩)::ZR p.2,.dead,[]⟩
def NC (os:List Cl):St:=match os with| []=> ⟨[(7,.nilS)],[],.dead,[]⟩|_::_=> ⟨[(7,.ref 0 0 0 os.length)],[(0,cB os)],.dead,[]⟩
theorem abA {nt:Nat} (h:71≤nt) (L:Lw) (a b c:Bool) (s:Int) (w:Cl) (g:ku w) (bd n:List Nd) (x:Nd) (k:Nat) (f:L.ps.length<2^40) (p:k<2^40) (m:k<bd.length) (j:(List.drop ((Int.toNat (k:Int))*5) (cO bd))=ZN x++cO n):
  ah prog ap [] nt (af 0 (ag f16)) ⟨[(1,.int .i64 s),(3,.ptr 0 0 0),(5,.ptr 1 0 0),(7,.nilS),(23,.sl (cO bd) bd.length false),(24,.int .i64 (bd.length:Int)),(25,.int .i64 (k:Int))],[(0,⟨L.c a b c,0,false,0,0,true⟩),(1,⟨cC w,0,false,0,0,true⟩)],.dead,[]⟩ .normal (Jy L a b c s w bd (k+1,(qc L s w x).toList)):=by
 have l:=GZ L a b c x.name f
 have d:(decide ((k:Int)<(bd.length:Int)))=true:=kl m
 have i:k<2^62:=by omega
 have o:AV.int .i64 (IntKind.wrap .i64 (((1:Nat):Int) - w.1))= .int .i64 (1 - w.1):=by
  have q:=g.1
  have r:=g.2
  rw [nD]<;>first|rfl|omega
 rcases tf (UN L.ps x.name) with b0|b0
 ·rcases tf (x.op==((6:Nat):Int)) with b1|b1
  ·have e:qc L s w x=some (w.1,((NG L.ps x.name:Nat):Int)):=by simp only [qc,b0,b1,if_true,Bool.false_eq_true,if_false];try rfl
   rw [e]
   exact pN 16 [] 4 5 (.k 4 (aN b1) (.k 1 (gY b0) (.k 10 (k0 k) (.c d (.c (aN d) .nil))))) (.v 66 (.eq (wpS i)) (.c l (.v 27 (.ppt j) .nil))) h
  ·rcases tf (x.op==((8:Nat):Int)) with b2|b2
   ·rcases tf (s==((2:Nat):Int)) with b3|b3
    ·have e:qc L s w x=some (1 - w.1,((NG L.ps x.name:Nat):Int)):=by simp only [qc,b0,b1,b2,b3,if_true,Bool.false_eq_true,if_false];try rfl
     rw [e]
     exact pN 16 [] 6 25 (.k 4 (aN b3) (.c (aN b2) (.k 1 (aT b1) (.k 1 (gY b0) (.k 10 (k0 k) (.c d (.c (aN d) .nil))))))) (.v 66 (.eq (wpS i)) (.v 61 (.eq o) (.c l (.v 27 (.ppt j) .nil)))) h
    ·have e:qc L s w x=none:=by simp only [qc,b0,b1,b2,b3,if_true,Bool.false_eq_true,if_false];try rfl
     rw [e]
     exact pN 16 [] 5 9 (.c (aT b3) (.c (aN b2) (.k 1 (aT b1) (.k 1 (gY b0) (.k 10 (k0 k) (.c d (.c (aN d) .nil))))))) (.v 66 (.eq (wpS i)) (.c l (.v 27 (.ppt j) .nil))) h
   ·have e:qc L s w x=none:=by simp only [qc,b0,b1,b2,if_true,Bool.false_eq_true,if_false];try rfl
    rw [e]
    exact pN 16 [] 5 1 (.k 1 (aT b2) (.k 1 (aT b1) (.k 1 (gY b0) (.k 10 (k0 k) (.c d (.c (aN d) .nil)))))) (.v 66 (.eq (wpS i)) (.c l (.v 27 (.ppt j) .nil))) h
 ·have e:qc L s w x=none:=by simp only [qc,b0,if_true,Bool.false_eq_true,if_false];try rfl
  rw [e]
  exact pN 16 [] 2 3 (.c (oz b0) (.k 10 (k0 k) (.c d (.c (aN d) .nil)))) (.v 66 (.eq (wpS i)) (.c l (.v 27 (.ppt j) .nil))) h
theorem ZA {nt:Nat} (e:71≤nt) (L:Lw) (a b c:Bool) (s:Int) (w:Cl) (bd:List Nd):ah prog ap [] nt (af 0 (ag f16)) ⟨[(1,.int .i64 s),(3,.ptr 0 0 0),(5,.ptr 1 0 0),(7,.nilS),(23,.sl (cO bd) bd.length false),(24,.int .i64 (bd.length:Int)),(25,.int .i64 (bd.length:Int))],[(0,⟨L.c a b c,0,false,0,0,true⟩),(1,⟨cC w,0,false,0,0,true⟩)],.dead,[]⟩ (.exit 0) ⟨[(7,.nilS)],[],.dead,[]⟩:=by
 have d:(decide ((bd.length:Int)<(bd.length:Int)))=false:=kn (Nat.le_refl _)
 exact pN 16 [] 1 0 (.c (aT d) .nil) .nil e
theorem abz {nt:Nat} (m:71≤nt) (L:Lw) (a b c:Bool) (s:Int) (w:Cl) (l:ku w) (bd t:List Nd) (x:Nd) (k:Nat) (os:List Cl) (d:os ≠ []) (z:os.length<2^40) (h:L.ps.length<2^40) (v:k<2^40) (r:k<bd.length) (p:(List.drop ((Int.toNat ((k:Nat):Int))*5) (cO bd))=ZN x++cO t):
  ah prog ap [] nt (af 0 (ag f16)) ⟨[(1,.int .i64 s),(3,.ptr 0 0 0),(5,.ptr 1 0 0),(7,.ref 2 0 0 os.length),(23,.sl (cO bd) bd.length false),(24,.int .i64 (bd.length:Int)),(25,.int .i64 ((k:Nat):Int))],[(0,⟨L.c a b c,0,false,0,0,true⟩),(1,⟨cC w,0,false,0,0,true⟩),(2,cB os)],.dead,[]⟩ .normal (Jy L a b c s w bd (k+1,(os++(qc L s w x).toList))):=by
 have q:=GZ L a b c x.name h
 have g:(decide (((k:Nat):Int)<(bd.length:Int)))=true:=kl r
 have n:k<2^62:=by omega
 have u:AV.int .i64 (IntKind.wrap .i64 (((1:Nat):Int) - w.1))= .int .i64 (1 - w.1):=by
  have y:=l.1
  have A:=l.2
  rw [nD]<;>first|rfl|omega
 have i:(Nat.ble (os.length+1) 1099511627776)=true:=(ug (by omega))
 have j:(Nat.ble (os.length*2) (List.length (cL os)))=true:=(ug (kY (bH os) (by omega)))
 have f:∀ os:List Cl,os ≠ []→∀ k,Jy L a b c s w bd (k,os)=⟨[(1,.int .i64 s),(3,.ptr 0 0 0),(5,.ptr 1 0 0),(7,.ref 2 0 0 os.length),(23,.sl (cO bd) bd.length false),(24,.int .i64 (bd.length:Int)),(25,.int .i64 ((k:Nat):Int))],[(0,⟨L.c a b c,0,false,0,0,true⟩),(1,⟨cC w,0,false,0,0,true⟩),(2,cB os)],.dead,[]⟩:=fun os d k=>by cases os with|nil=>exact absurd rfl d|cons o os=>rfl
 rcases tf (UN L.ps x.name) with b0|b0
 ·rcases tf (x.op==((6:Nat):Int)) with b1|b1
  ·have e:qc L s w x=some (w.1,((NG L.ps x.name:Nat):Int)):=by simp only [qc,b0,b1,if_true,Bool.false_eq_true,if_false];try rfl
   rw [e]
   rw [f _ (by simp [d])]
   simp only [Option.toList,List.append_nil,List.length_append,List.length_cons,List.length_nil,Nat.zero_add]
   exact pN 16 [] 3 5 (.k 1 i (.c j (.k 2 (aN b1) (.k 1 (gY b0) (.k 10 (k0 k) (.c g (.c (aN g) .nil))))))) (.v 66 (.eq (wpS n)) (.b 49 (BN os (w.1,(((NG L.ps x.name):Nat):Int))) (.c q (.v 27 (.ppt p) .nil)))) m
  ·rcases tf (x.op==((8:Nat):Int)) with b2|b2
   ·rcases tf (s==((2:Nat):Int)) with b3|b3
    ·have e:qc L s w x=some (1 - w.1,((NG L.ps x.name:Nat):Int)):=by simp only [qc,b0,b1,b2,b3,if_true,Bool.false_eq_true,if_false];try rfl
     rw [e]
     rw [f _ (by simp [d])]
     simp only [Option.toList,List.append_nil,List.length_append,List.length_cons,List.length_nil,Nat.zero_add]
     exact pN 16 [] 5 25 (.k 1 i (.c j (.k 2 (aN b3) (.c (aN b2) (.k 1 (aT b1) (.k 1 (gY b0) (.k 10 (k0 k) (.c g (.c (aN g) .nil))))))))) (.v 66 (.eq (wpS n)) (.b 65 (BN os (1 - w.1,(((NG L.ps x.name):Nat):Int))) (.v 61 (.eq u) (.c q (.v 27 (.ppt p) .nil))))) m
    ·have e:qc L s w x=none:=by simp only [qc,b0,b1,b2,b3,if_true,Bool.false_eq_true,if_false];try rfl
     rw [e]
     rw [f _ (by simp [d])]
     simp only [Option.toList,List.append_nil,List.length_append,List.length_cons,List.length_nil,Nat.zero_add]
     exact pN 16 [] 5 9 (.c (aT b3) (.c (aN b2) (.k 1 (aT b1) (.k 1 (gY b0) (.k 10 (k0 k) (.c g (.c (aN g) .nil))))))) (.v 66 (.eq (wpS n)) (.c q (.v 27 (.ppt p) .nil))) m
   ·have e:qc L s w x=none:=by simp only [qc,b0,b1,b2,if_true,Bool.false_eq_true,if_false];try rfl
    rw [e]
    rw [f _ (by simp [d])]
    simp only [Option.toList,List.append_nil,List.length_append,List.length_cons,List.length_nil,Nat.zero_add]
    exact pN 16 [] 5 1 (.k 1 (aT b2) (.k 1 (aT b1) (.k 1 (gY b0) (.k 10 (k0 k) (.c g (.c (aN g) .nil)))))) (.v 66 (.eq (wpS n)) (.c q (.v 27 (.ppt p) .nil))) m
 ·have e:qc L s w x=none:=by simp only [qc,b0,if_true,Bool.false_eq_true,if_false];try rfl
  rw [e]
  rw [f _ (by simp [d])]
  simp only [Option.toList,List.append_nil,List.length_append,List.length_cons,List.length_nil,Nat.zero_add]
  exact pN 16 [] 2 3 (.c (oz b0) (.k 10 (k0 k) (.c g (.c (aN g) .nil)))) (.v 66 (.eq (wpS n)) (.c q (.v 27 (.ppt p) .nil))) m
theorem Zz {nt:Nat} (e:71≤nt) (L:Lw) (a b c:Bool) (s:Int) (w:Cl) (bd:List Nd) (os:List Cl):ah prog ap [] nt (af 0 (ag f16)) ⟨[(1,.int .i64 s),(3,.ptr 0 0 0),(5,.ptr 1 0 0),(7,.ref 2 0 0 os.length),(23,.sl (cO bd) bd.length false),(24,.int .i64 (bd.length:Int)),(25,.int .i64 (bd.length:Int))],[(0,⟨L.c a b c,0,false,0,0,true⟩),(1,⟨cC w,0,false,0,0,true⟩),(2,cB os)],.dead,[]⟩ (.exit 0) ⟨[(7,.ref 0 0 0 os.length)],[(0,cB os)],.dead,[]⟩:=by
 have d:(decide ((bd.length:Int)<(bd.length:Int)))=false:=kn (Nat.le_refl _)
 exact pN 16 [] 1 0 (.c (aT d) .nil) .nil e
def qf (L:Lw) (s:Int) (w:Cl) (bd:List Nd):List Cl:=bd.filterMap (qc L s w)
theorem O_ {nt:Nat} (g:71≤nt) (L:Lw) (a b c:Bool) (s:Int) (w:Cl) (e:ku w) (bd:List Nd) (d:L.ps.length<2^40) (n:bd.length<2^39):
  aQ prog ap [] nt (af 0 (ag f16)) (fun _=> .exit 0) (Jy L a b c s w bd) NC (0,[]) (qf L s w bd):=by
 have m:(2:Nat)^39=549755813888:=by decide
 have l:(2:Nat)^40=1099511627776:=by decide
 have i:AM.goL (fun (os:List Cl) x=>(Sum.inl (os++(qc L s w x).toList):List Cl ⊕ List Cl)) id bd []=qf L s w bd:=by
  have key:∀ (bd:List Nd) (os:List Cl),AM.goL (fun (os:List Cl) x=>(Sum.inl (os++(qc L s w x).toList):List Cl ⊕ List Cl)) id bd os=os++qf L s w bd:=by
   intro bd
   induction bd with
   |nil=>intro os;simp [AM.goL,qf]
   |cons x bd ih=>
    intro os
    simp only [AM.goL]
    rw [ih]
    unfold qf
    cases h:qc L s w x<;>simp [h]
  simpa using key bd []
 rw [← i]
 refine aQ.goD (fun (os:List Cl) x=>(Sum.inl (os++(qc L s w x).toList):List Cl ⊕ List Cl)) id bd (fun p os=>os.length≤p.length) ?_ ?_ [] (by simp)
 ·intro p x r os j hp
  have f:p.length<bd.length:=sS j
  have k:=ed nd5 j
  refine .inl ⟨os++(qc L s w x).toList,rfl, ?_,by cases qc L s w x<;>simp<;>omega⟩
  cases os with
  |nil=>exact abA g L a b c s w e bd r x p.length d (by omega) f k
  |cons o os=>exact abz g L a b c s w e bd r x p.length (o::os) (by simp) (by simp only [List.length_cons] at hp ⊢;omega) d (by omega) f k
 ·intro os _
  cases os with
  |nil=>exact ZA g L a b c s w bd
  |cons o os=>exact Zz g L a b c s w bd (o::os)
theorem Sm {L:Lw} {s:Int} {w d:Cl} {x:Nd} (b:ku w) (h:qc L s w x=some d):ku d:=by
 unfold qc at h
 obtain ⟨c,a⟩:=b
 unfold ku
 split at h
 ·split at h
  ·cases h;exact ⟨c,a⟩
  ·split at h
   ·split at h
    ·cases h;constructor<;>simp only<;>omega
    ·cases h
   ·cases h
 ·cases h
def iH (L:Lw) (s:Int) (w:Cl):List Cl:=if (aI s L.ps.length w) then dA (iy (qf L s w ((L.ps[w.2.toNat]?.map Pv.body).getD []))) else []
theorem Ce (l:List Cl) (C:List AV) (h:C.take (l.length*2)=cL l) {P:Program} {f:Nat} {args:List AV} (b:ae P ap f args [] (.ret (.own C l.length 2)) []):ae P ap f args [] (.ret (.sl (cL l) l.length false)) []:=by
 have a:=b.thaw (by simp)
 simp only [wF,thaw,h] at a
 exact a.out (jE.ret rfl rfl (bC.sl _ _ _))
def qi (L:Lw):Prop:=L.ps.length<2^40∧∀ p ∈ L.ps,p.body.length<2^39∧∀ s w,(qf L s w p.body).length≤12
theorem Ir (L:Lw) (a b c:Bool) (s:Int) (w:Cl) (N:qi L):CO 16 [.agg (L.c a b c),.int .i64 s,cA w] (.ret (.sl (cL (iH L s w)) (iH L s w).length false)):=by
 obtain ⟨r,z⟩:=N
 have d:=jW L a b c s w
 unfold iH
 cases g:(aI s L.ps.length w) with
 | false=>
  rw [g] at d
  have h:CO 16 [.agg (L.c a b c),.int .i64 s,cA w] (.ret .nilS):=by
   generalize q:false=vq at d
   have g:=q.symm
   exact pK [0] 1 1 (.c (oz g) (.n 5 .nil)) (.c d .nil)
  exact h.out (jE.ret rfl rfl (bC.nilS false rfl))
 | true=>
  have m:=g
  unfold aI at m
  simp only [Bool.and_eq_true,decide_eq_true_eq] at m
  obtain ⟨h0,I,S,F,G⟩:=m
  have hs:s≤2:=by simp only [Bool.or_eq_true,beq_iff_eq] at h0;omega
  have u:ku w:=⟨I,by omega⟩
  have t:w.2.toNat<L.ps.length:=by omega
  have e:L.ps[w.2.toNat]? =some L.ps[w.2.toNat]:=List.getElem?_eq_getElem t
  have f:L.ps[w.2.toNat] ∈ L.ps:=List.getElem_mem t
  have K:=(z _ f).1
  have n:=(z _ f).2 s w
  generalize L.ps[w.2.toNat]=p at e K n
  have hp:=UV Wn e
  rw [fD] at hp
  generalize J:(L.ps.drop (w.2.toNat+1))=rp at hp
  change (List.drop ((Int.toNat w.2)*12) (dm L.ps))=Wp p++dm rp at hp
  rw [g] at d
  simp only [e,Option.map_some,Option.getD_some,if_true]
  have i:=aQ.blk (id:=0) (e':= .normal) (s:=Jy L a b c s w p.body (0,[])) (s':=NC (qf L s w p.body)) (fun nt (hn:71≤nt)=>O_ hn L a b c s w u p.body r (by omega)) (by simp) rfl (aG.refl _) (aG.refl _)
  have A:∀ x ∈ qf L s w p.body,ku x:=fun x R=>by
   obtain ⟨y,_,M⟩:=List.mem_filterMap.1 R
   exact Sm u M
  unfold Jy at i
  change aK _ _ _ _ _ ⟨_,[(0,⟨L.c a b c,0,false,0,0,true⟩),(1,⟨cC w,0,false,0,0,true⟩)],_,_⟩ _ _ at i
  generalize q:true=vq at d
  have g:=q.symm
  cases H:qf L s w p.body with
  | nil=>
   rw [H] at i
   have h:CO 16 [.agg (L.c a b c),.int .i64 s,cA w] (.ret .nilS):=by
    have j:(decide (((0:Nat):Int)≤w.2))=true:=(decide_eq_true F)
    have l:(decide (w.2<(L.ps.length:Int)))=true:=(decide_eq_true G)
    have E:aK prog ap [] 71 (.block 0 (.loop (af 0 (ag f16)))) ⟨[(0,.agg [.sl L.fx L.fn a,.sl L.sx L.sn b,.sl (dm L.ps) L.ps.length c]),(1,.int .i64 s),(2,.agg [.int .i64 w.1,.int .i64 w.2]),(3,.ptr 0 0 0),(5,.ptr 1 0 0),(6,.nilS),(7,.nilS),(9,.dead),(10,.dead),(11,.dead),(16,.bool (!vq)),(23,.sl (cO p.body) p.body.length false),(24,.int .i64 (p.body.length:Int)),(25,.int .i64 0),(26,.dead),(36,.dead),(39,.dead),(50,.dead)],[(0,⟨[.sl L.fx L.fn a,.sl L.sx L.sn b,.sl (dm L.ps) L.ps.length c],0,false,0,0,true⟩),(1,⟨[.int .i64 w.1,.int .i64 w.2],0,false,0,0,true⟩)],.dead,[]⟩ (.normal) ⟨[(7,.nilS)],[],.dead,[]⟩:=(fun nt k=>(i nt k).weak (aG.of ⟨rfl,rfl,rfl,rfl,rfl,rfl,rfl,trivial⟩) (aG.refl _))
    exact pK [0] 1 0 (.k 1 j (.c l (.k 2 (gY g) (.n 5 .nil)))) (.c DN (.c Nh (.l E (.v 21 (.ppt hp) (.c d .nil)))))
   exact h.out (jE.ret rfl rfl (bC.nilS false rfl))
  |cons o os=>
   rw [H] at i A n
   have C:=OZ (o::os) n A
   have B:=(yD (o::os)).length_eq
   have v:=FH (iy (o::os)) (by omega)
   rw [B] at v
   have D:(cL (dA (iy (o::os)))++Dt ((o::os).length - (dA (iy (o::os))).length)).take ((dA (iy (o::os))).length*2)=cL (dA (iy (o::os))):=List.take_left' (bH _)
   unfold NC at i
   refine Ce _ (List.take ((dA (iy (o::os))).length*2) (cL (dA (iy (o::os)))++Dt ((o::os).length - (dA (iy (o::os))).length))) (by rw [List.take_take,Nat.min_self];exact D) ?_
   change aK _ _ _ _ _ _ _ ⟨[(7,.ref 0 0 0 (o::os).length)],[(0,cB (o::os))],_,_⟩ at i
   generalize Q:iy (o::os)=o2 at*
   generalize (dA o2).length=n3 at*
   generalize O:o::os=o1 at*
   generalize o1.length=n1 at*
   generalize cL (dA o2)++Dt (n1 - n3)=C3 at*
   have j:(decide (((0:Nat):Int)≤w.2))=true:=(decide_eq_true F)
   have l:(decide (w.2<(L.ps.length:Int)))=true:=(decide_eq_true G)
   have E:aK prog ap [] 71 (.block 0 (.loop (af 0 (ag f16)))) ⟨[(0,.agg [.sl L.fx L.fn a,.sl L.sx L.sn b,.sl (dm L.ps) L.ps.length c]),(1,.int .i64 s),(2,.agg [.int .i64 w.1,.int .i64 w.2]),(3,.ptr 0 0 0),(5,.ptr 1 0 0),(6,.nilS),(7,.nilS),(9,.dead),(10,.dead),(11,.dead),(16,.bool (!vq)),(23,.sl (cO p.body) p.body.length false),(24,.int .i64 (p.body.length:Int)),(25,.int .i64 0),(26,.dead),(36,.dead),(39,.dead),(50,.dead)],[(0,⟨[.sl L.fx L.fn a,.sl L.sx L.sn b,.sl (dm L.ps) L.ps.length c],0,false,0,0,true⟩),(1,⟨[.int .i64 w.1,.int .i64 w.2],0,false,0,0,true⟩)],.dead,[]⟩ (.normal) ⟨[(7,.ref 0 0 0 n1)],[(0,⟨(cL o1),0,false,0,2,true⟩)],.dead,[]⟩:=(fun nt k=>(i nt k).weak (aG.of ⟨rfl,rfl,rfl,rfl,rfl,rfl,rfl,trivial⟩) (aG.refl _))
   exact pK [0] 1 0 (.k 1 j (.c l (.k 2 (gY g) (.n 5 .nil)))) (.c v (.c C (.l E (.v 21 (.ppt hp) (.c d .nil)))))
def mY (s:Int) (n q:Nat):List Cl:=(List.range n).flatMap fun k=>if aI s n ((q:Int),((k:Nat):Int)) then [((q:Int),((k:Nat):Int))] else []
def Z4 (L:Lw) (a b c:Bool) (s:Int) (q:Nat) (p:Nat × List Cl):St:=match p.2 with
 | []=> ⟨[(1,.int .i64 s),(2,.ptr 0 0 0),(5,.nilS),(6,.int .i64 (q:Int)),(9,.int .i64 (q:Int)),(14,.int .i64 (L.ps.length:Int)),(15,.int .i64 (p.1:Int))],[(0,⟨L.c a b c,0,false,0,0,true⟩)],.dead,[]⟩
 |o::os2=> ⟨[(1,.int .i64 s),(2,.ptr 0 0 0),(5,.ref 1 0 0 (o::os2).length),(6,.int .i64 (q:Int)),(9,.int .i64 (q:Int)),(14,.int .i64 (L.ps.length:Int)),(15,.int .i64 (p.1:Int))],[(0,⟨L.c a b c,0,false,0,0,true⟩),(1,cB (o::os2))],.dead,[]⟩
def Ug (L:Lw) (a b c:Bool) (s:Int) (q:Nat) (os:List Cl):St:=match os with
 | []=> ⟨[(1,.int .i64 s),(2,.ptr 0 0 0),(5,.nilS),(9,.int .i64 (q:Int))],[(0,⟨L.c a b c,0,false,0,0,true⟩)],.dead,[]⟩
 |o::os2=> ⟨[(1,.int .i64 s),(2,.ptr 0 0 0),(5,.ref 1 0 0 (o::os2).length),(9,.int .i64 (q:Int))],[(0,⟨L.c a b c,0,false,0,0,true⟩),(1,cB (o::os2))],.dead,[]⟩
theorem UE {nt:Nat} (i:32≤nt) (L:Lw) (a b c:Bool) (s:Int) (q k:Nat) (f:k<2^40) (e:k<L.ps.length) (h:aI s L.ps.length ((q:Int),(k:Int))=true):
  ah prog ap [] nt (af 2 (ag f49)) ⟨[(1,.int .i64 s),(2,.ptr 0 0 0),(5,.nilS),(6,.int .i64 (q:Int)),(9,.int .i64 (q:Int)),(14,.int .i64 (L.ps.length:Int)),(15,.int .i64 (k:Int))],[(0,⟨L.c a b c,0,false,0,0,true⟩)],.dead,[]⟩ .normal ⟨[(1,.int .i64 s),(2,.ptr 0 0 0),(5,.ref 1 0 0 1),(6,.int .i64 (q:Int)),(9,.int .i64 (q:Int)),(14,.int .i64 (L.ps.length:Int)),(15,.int .i64 ((k+1:Nat):Int))],[(0,⟨L.c a b c,0,false,0,0,true⟩),(1,cB [((q:Int),(k:Int))])],.dead,[]⟩:=by
 have d:=jW L a b c s ((q:Int),(k:Int))
 have g:(decide ((k:Int)<(L.ps.length:Int)))=true:=kl e
 have l:k<2^62:=by omega
 generalize j:aI s L.ps.length ((q:Int),(k:Int))=vq at*
 exact pN 49 [] 3 3 (.k 5 (aN h) (.k 6 (aN g) .nil)) (.v 29 (.eq (wpS l)) (.c d .nil)) i
theorem UA {nt:Nat} (i:32≤nt) (L:Lw) (a b c:Bool) (s:Int) (q k:Nat) (f:k<2^40) (e:k<L.ps.length) (h:aI s L.ps.length ((q:Int),(k:Int))=false):
  ah prog ap [] nt (af 2 (ag f49)) ⟨[(1,.int .i64 s),(2,.ptr 0 0 0),(5,.nilS),(6,.int .i64 (q:Int)),(9,.int .i64 (q:Int)),(14,.int .i64 (L.ps.length:Int)),(15,.int .i64 (k:Int))],[(0,⟨L.c a b c,0,false,0,0,true⟩)],.dead,[]⟩ .normal ⟨[(1,.int .i64 s),(2,.ptr 0 0 0),(5,.nilS),(6,.int .i64 (q:Int)),(9,.int .i64 (q:Int)),(14,.int .i64 (L.ps.length:Int)),(15,.int .i64 ((k+1:Nat):Int))],[(0,⟨L.c a b c,0,false,0,0,true⟩)],.dead,[]⟩:=by
 have d:=jW L a b c s ((q:Int),(k:Int))
 have g:(decide ((k:Int)<(L.ps.length:Int)))=true:=kl e
 have l:k<2^62:=by omega
 generalize j:aI s L.ps.length ((q:Int),(k:Int))=vq at*
 exact pN 49 [] 2 1 (.c (aT h) (.k 6 (aN g) .nil)) (.v 29 (.eq (wpS l)) (.c d .nil)) i
theorem Uy {nt:Nat} (e:32≤nt) (L:Lw) (a b c:Bool) (s:Int) (q:Nat):ah prog ap [] nt (af 2 (ag f49)) ⟨[(1,.int .i64 s),(2,.ptr 0 0 0),(5,.nilS),(6,.int .i64 (q:Int)),(9,.int .i64 (q:Int)),(14,.int .i64 (L.ps.length:Int)),(15,.int .i64 (L.ps.length:Int))],[(0,⟨L.c a b c,0,false,0,0,true⟩)],.dead,[]⟩ (.exit 2) ⟨[(1,.int .i64 s),(2,.ptr 0 0 0),(5,.nilS),(9,.int .i64 (q:Int))],[(0,⟨L.c a b c,0,false,0,0,true⟩)],.dead,[]⟩:=by
 have d:(decide ((L.ps.length:Int)<(L.ps.length:Int)))=false:=kn (Nat.le_refl _)
 exact pN 49 [] 1 0 (.c (aT d) .nil) .nil e
theorem UD {nt:Nat} (i:32≤nt) (L:Lw) (a b c:Bool) (s:Int) (q k:Nat) (os:List Cl) (o:os.length<2^40) (m:k<2^40) (e:k<L.ps.length) (n:aI s L.ps.length ((q:Int),(k:Int))=true):
  ah prog ap [] nt (af 2 (ag f49)) ⟨[(1,.int .i64 s),(2,.ptr 0 0 0),(5,.ref 1 0 0 os.length),(6,.int .i64 (q:Int)),(9,.int .i64 (q:Int)),(14,.int .i64 (L.ps.length:Int)),(15,.int .i64 (k:Int))],[(0,⟨L.c a b c,0,false,0,0,true⟩),(1,cB os)],.dead,[]⟩ .normal ⟨[(1,.int .i64 s),(2,.ptr 0 0 0),(5,.ref 1 0 0 (os.length+1)),(6,.int .i64 (q:Int)),(9,.int .i64 (q:Int)),(14,.int .i64 (L.ps.length:Int)),(15,.int .i64 ((k+1:Nat):Int))],[(0,⟨L.c a b c,0,false,0,0,true⟩),(1,cB (os++ [((q:Int),(k:Int))]))],.dead,[]⟩:=by
 have d:=jW L a b c s ((q:Int),(k:Int))
 have h:(decide ((k:Int)<(L.ps.length:Int)))=true:=kl e
 have j:k<2^62:=by omega
 generalize l:aI s L.ps.length ((q:Int),(k:Int))=vq at*
 have f:(Nat.ble (os.length+1) 1099511627776)=true:=(ug (by omega))
 have g:(Nat.ble (os.length*2) (List.length (cL os)))=true:=(ug (kY (bH os) (by omega)))
 exact pN 49 [] 2 3 (.k 1 f (.c g (.k 3 (aN n) (.k 6 (aN h) .nil)))) (.v 29 (.eq (wpS j)) (.b 28 (BN os ((q:Int),(k:Int))) (.c d .nil))) i
theorem Uz {nt:Nat} (g:32≤nt) (L:Lw) (a b c:Bool) (s:Int) (q k:Nat) (os:List Cl) (o:os.length<2^40) (l:k<2^40) (e:k<L.ps.length) (n:aI s L.ps.length ((q:Int),(k:Int))=false):
  ah prog ap [] nt (af 2 (ag f49)) ⟨[(1,.int .i64 s),(2,.ptr 0 0 0),(5,.ref 1 0 0 os.length),(6,.int .i64 (q:Int)),(9,.int .i64 (q:Int)),(14,.int .i64 (L.ps.length:Int)),(15,.int .i64 (k:Int))],[(0,⟨L.c a b c,0,false,0,0,true⟩),(1,cB os)],.dead,[]⟩ .normal ⟨[(1,.int .i64 s),(2,.ptr 0 0 0),(5,.ref 1 0 0 os.length),(6,.int .i64 (q:Int)),(9,.int .i64 (q:Int)),(14,.int .i64 (L.ps.length:Int)),(15,.int .i64 ((k+1:Nat):Int))],[(0,⟨L.c a b c,0,false,0,0,true⟩),(1,cB os)],.dead,[]⟩:=by
 have d:=jW L a b c s ((q:Int),(k:Int))
 have f:(decide ((k:Int)<(L.ps.length:Int)))=true:=kl e
 have i:k<2^62:=by omega
 generalize j:aI s L.ps.length ((q:Int),(k:Int))=vq at*
 have h:(Nat.ble (os.length+1) 1099511627776)=true:=(ug (by omega))
 have m:(Nat.ble (os.length*2) (List.length (cL os)))=true:=(ug (kY (bH os) (by omega)))
 exact pN 49 [] 2 1 (.c (aT n) (.k 6 (aN f) .nil)) (.v 29 (.eq (wpS i)) (.c d .nil)) g
theorem Ux {nt:Nat} (e:32≤nt) (L:Lw) (a b c:Bool) (s:Int) (q:Nat) (os:List Cl):ah prog ap [] nt (af 2 (ag f49)) ⟨[(1,.int .i64 s),(2,.ptr 0 0 0),(5,.ref 1 0 0 os.length),(6,.int .i64 (q:Int)),(9,.int .i64 (q:Int)),(14,.int .i64 (L.ps.length:Int)),(15,.int .i64 (L.ps.length:Int))],[(0,⟨L.c a b c,0,false,0,0,true⟩),(1,cB os)],.dead,[]⟩ (.exit 2) ⟨[(1,.int .i64 s),(2,.ptr 0 0 0),(5,.ref 1 0 0 os.length),(9,.int .i64 (q:Int))],[(0,⟨L.c a b c,0,false,0,0,true⟩),(1,cB os)],.dead,[]⟩:=by
 have d:(decide ((L.ps.length:Int)<(L.ps.length:Int)))=false:=kn (Nat.le_refl _)
 exact pN 49 [] 1 0 (.c (aT d) .nil) .nil e
theorem NY {nt:Nat} (e:32≤nt) (L:Lw) (a b c:Bool) (s:Int) (q:Nat) (os:List Cl) (n:os.length+L.ps.length<2^40):
  aQ prog ap [] nt (af 2 (ag f49)) (fun _=> .exit 2) (Z4 L a b c s q) (Ug L a b c s q) (0,os) (os++mY s L.ps.length q):=by
 have h:∀ (l:List Nat) (os:List Cl),AM.goL (fun (os:List Cl) k=>(Sum.inl (os++(if aI s L.ps.length ((q:Int),((k:Nat):Int)) then [((q:Int),((k:Nat):Int))] else [])):List Cl ⊕ List Cl)) id l os=os++l.flatMap fun k=>if aI s L.ps.length ((q:Int),((k:Nat):Int)) then [((q:Int),((k:Nat):Int))] else []:=by
  intro l
  induction l with
  |nil=>intro os;simp [AM.goL]
  |cons x l ih=>intro os;simp only [AM.goL];rw [ih];simp
 unfold mY
 rw [← h]
 have j:(List.range L.ps.length).length=L.ps.length:=List.length_range
 refine aQ.goD (fun (os:List Cl) k=>(Sum.inl (os++(if aI s L.ps.length ((q:Int),((k:Nat):Int)) then [((q:Int),((k:Nat):Int))] else [])):List Cl ⊕ List Cl)) id (List.range L.ps.length) (fun p f=>f.length≤os.length+p.length) ?_ ?_ os (by simp)
 ·intro p k r f i hp
  have d:p.length<L.ps.length:=by rw [← j,i];simp
  have m:k=p.length:=by
   have:=congrArg (fun l=>l[p.length]?) i
   simp only [List.getElem?_append_right (Nat.le_refl _),Nat.sub_self,List.getElem?_cons_zero] at this
   rw [List.getElem?_range d] at this
   exact (Option.some.inj this).symm
  subst m
  refine .inl ⟨_,rfl, ?_,by split<;>simp<;>omega⟩
  cases g:aI s L.ps.length ((q:Int),(p.length:Int)) with
  |true=>
   rw [if_pos rfl]
   cases f with
   |nil=>exact UE e L a b c s q p.length (by omega) d g
   |cons o os'=>have:=UD e L a b c s q p.length (o::os') (by omega) (by omega) d g;simpa [Z4] using this
  |false=>
   rw [if_neg (by simp),List.append_nil]
   cases f with
   |nil=>exact UA e L a b c s q p.length (by omega) d g
   |cons o os'=>exact Uz e L a b c s q p.length (o::os') (by omega) (by omega) d g
 ·intro f _
  rw [j]
  cases f with
  |nil=>exact Uy e L a b c s q
  |cons o os'=>exact Ux e L a b c s q (o::os')
def ax (s:Int) (n:Nat):List Cl:=mY s n 0++mY s n 1
theorem RV {nt:Nat} (f:32≤nt) (L:Lw) (a b c:Bool) (s:Int) (q n1 n2:Nat) (k l:List Cl) (d:q<2) (j:aK prog ap [] 32 (.block 2 (.loop (af 2 (ag f49)))) ⟨[(1,.int .i64 s),(2,.ptr 0 0 0),(5,.nilS),(6,.int .i64 (q:Int)),(9,.int .i64 (q:Int)),(14,.int .i64 (L.ps.length:Int)),(15,.int .i64 ((0:Nat):Int))],[(0,⟨L.c a b c,0,false,0,0,true⟩)],.dead,[]⟩ .normal ⟨[(1,.int .i64 s),(2,.ptr 0 0 0),(5,.nilS),(9,.int .i64 (q:Int))],[(0,⟨L.c a b c,0,false,0,0,true⟩)],.dead,[]⟩):
  ah prog ap [] nt (af 0 (ag f49)) ⟨[(1,.int .i64 s),(2,.ptr 0 0 0),(5,.nilS),(9,.int .i64 (q:Int))],[(0,⟨L.c a b c,0,false,0,0,true⟩)],.dead,[]⟩ .normal ⟨[(1,.int .i64 s),(2,.ptr 0 0 0),(5,.nilS),(9,.int .i64 ((q+1:Nat):Int))],[(0,⟨L.c a b c,0,false,0,0,true⟩)],.dead,[]⟩:=by
 have h:(decide ((q:Int)<((2:Nat):Int)))=true:=kl d
 have i:q<2^62:=by omega
 have g:aK prog ap [] 32 (.block 2 (.loop (af 2 (ag f49)))) ⟨[(0,.dead),(1,.int .i64 s),(2,.ptr 0 0 0),(4,.dead),(5,.nilS),(6,.int .i64 (q:Int)),(7,.dead),(8,.dead),(9,.int .i64 (q:Int)),(10,.bool (decide ((q:Int)<((2:Nat):Int)))),(14,.int .i64 (L.ps.length:Int)),(15,.int .i64 0),(16,.dead),(24,.dead)],[(0,⟨[.sl L.fx L.fn a,.sl L.sx L.sn b,.sl (dm L.ps) L.ps.length c],0,false,0,0,true⟩)],.dead,[]⟩ (.normal) ⟨[(1,.int .i64 s),(2,.ptr 0 0 0),(5,.nilS),(9,.int .i64 (q:Int))],[(0,⟨[.sl L.fx L.fn a,.sl L.sx L.sn b,.sl (dm L.ps) L.ps.length c],0,false,0,0,true⟩)],.dead,[]⟩:=(fun nt e=>(j nt e).weak (aG.of ⟨rfl,rfl,rfl,rfl,rfl,rfl,rfl,trivial⟩) (aG.refl _))
 exact pN 49 [2] 1 1 (.k 1 (aN h) .nil) (.v 30 (.eq (wpS i)) (.l g .nil)) f
theorem RU {nt:Nat} (g:32≤nt) (L:Lw) (a b c:Bool) (s:Int) (q n1 n2:Nat) (l f:List Cl) (d:q<2) (k:aK prog ap [] 32 (.block 2 (.loop (af 2 (ag f49)))) ⟨[(1,.int .i64 s),(2,.ptr 0 0 0),(5,.nilS),(6,.int .i64 (q:Int)),(9,.int .i64 (q:Int)),(14,.int .i64 (L.ps.length:Int)),(15,.int .i64 ((0:Nat):Int))],[(0,⟨L.c a b c,0,false,0,0,true⟩)],.dead,[]⟩ .normal ⟨[(1,.int .i64 s),(2,.ptr 0 0 0),(5,.ref 1 0 0 n2),(9,.int .i64 (q:Int))],[(0,⟨L.c a b c,0,false,0,0,true⟩),(1,cB f)],.dead,[]⟩):
  ah prog ap [] nt (af 0 (ag f49)) ⟨[(1,.int .i64 s),(2,.ptr 0 0 0),(5,.nilS),(9,.int .i64 (q:Int))],[(0,⟨L.c a b c,0,false,0,0,true⟩)],.dead,[]⟩ .normal ⟨[(1,.int .i64 s),(2,.ptr 0 0 0),(5,.ref 1 0 0 n2),(9,.int .i64 ((q+1:Nat):Int))],[(0,⟨L.c a b c,0,false,0,0,true⟩),(1,cB f)],.dead,[]⟩:=by
 have i:(decide ((q:Int)<((2:Nat):Int)))=true:=kl d
 have j:q<2^62:=by omega
 have h:aK prog ap [] 32 (.block 2 (.loop (af 2 (ag f49)))) ⟨[(0,.dead),(1,.int .i64 s),(2,.ptr 0 0 0),(4,.dead),(5,.nilS),(6,.int .i64 (q:Int)),(7,.dead),(8,.dead),(9,.int .i64 (q:Int)),(10,.bool (decide ((q:Int)<((2:Nat):Int)))),(14,.int .i64 (L.ps.length:Int)),(15,.int .i64 0),(16,.dead),(24,.dead)],[(0,⟨[.sl L.fx L.fn a,.sl L.sx L.sn b,.sl (dm L.ps) L.ps.length c],0,false,0,0,true⟩)],.dead,[]⟩ (.normal) ⟨[(1,.int .i64 s),(2,.ptr 0 0 0),(5,.ref 1 0 0 n2),(9,.int .i64 (q:Int))],[(0,⟨[.sl L.fx L.fn a,.sl L.sx L.sn b,.sl (dm L.ps) L.ps.length c],0,false,0,0,true⟩),(1,⟨(cL f),0,false,0,2,true⟩)],.dead,[]⟩:=(fun nt e=>(k nt e).weak (aG.of ⟨rfl,rfl,rfl,rfl,rfl,rfl,rfl,trivial⟩) (aG.refl _))
 exact pN 49 [2] 1 1 (.k 1 (aN i) .nil) (.v 30 (.eq (wpS j)) (.l h .nil)) g
theorem RQ {nt:Nat} (h:32≤nt) (L:Lw) (a b c:Bool) (s:Int) (q n1 n2:Nat) (d g:List Cl) (e:q<2) (l:aK prog ap [] 32 (.block 2 (.loop (af 2 (ag f49)))) ⟨[(1,.int .i64 s),(2,.ptr 0 0 0),(5,.ref 1 0 0 n1),(6,.int .i64 (q:Int)),(9,.int .i64 (q:Int)),(14,.int .i64 (L.ps.length:Int)),(15,.int .i64 ((0:Nat):Int))],[(0,⟨L.c a b c,0,false,0,0,true⟩),(1,cB d)],.dead,[]⟩ .normal ⟨[(1,.int .i64 s),(2,.ptr 0 0 0),(5,.ref 1 0 0 n2),(9,.int .i64 (q:Int))],[(0,⟨L.c a b c,0,false,0,0,true⟩),(1,cB g)],.dead,[]⟩):
  ah prog ap [] nt (af 0 (ag f49)) ⟨[(1,.int .i64 s),(2,.ptr 0 0 0),(5,.ref 1 0 0 n1),(9,.int .i64 (q:Int))],[(0,⟨L.c a b c,0,false,0,0,true⟩),(1,cB d)],.dead,[]⟩ .normal ⟨[(1,.int .i64 s),(2,.ptr 0 0 0),(5,.ref 1 0 0 n2),(9,.int .i64 ((q+1:Nat):Int))],[(0,⟨L.c a b c,0,false,0,0,true⟩),(1,cB g)],.dead,[]⟩:=by
 have j:(decide ((q:Int)<((2:Nat):Int)))=true:=kl e
 have k:q<2^62:=by omega
 have i:aK prog ap [] 32 (.block 2 (.loop (af 2 (ag f49)))) ⟨[(0,.dead),(1,.int .i64 s),(2,.ptr 0 0 0),(4,.dead),(5,.ref 1 0 0 n1),(6,.int .i64 (q:Int)),(7,.dead),(8,.dead),(9,.int .i64 (q:Int)),(10,.bool (decide ((q:Int)<((2:Nat):Int)))),(14,.int .i64 (L.ps.length:Int)),(15,.int .i64 0),(16,.dead),(24,.dead)],[(0,⟨[.sl L.fx L.fn a,.sl L.sx L.sn b,.sl (dm L.ps) L.ps.length c],0,false,0,0,true⟩),(1,⟨(cL d),0,false,0,2,true⟩)],.dead,[]⟩ (.normal) ⟨[(1,.int .i64 s),(2,.ptr 0 0 0),(5,.ref 1 0 0 n2),(9,.int .i64 (q:Int))],[(0,⟨[.sl L.fx L.fn a,.sl L.sx L.sn b,.sl (dm L.ps) L.ps.length c],0,false,0,0,true⟩),(1,⟨(cL g),0,false,0,2,true⟩)],.dead,[]⟩:=(fun nt f=>(l nt f).weak (aG.of ⟨rfl,rfl,rfl,rfl,rfl,rfl,rfl,trivial⟩) (aG.refl _))
 exact pN 49 [2] 1 1 (.k 1 (aN j) .nil) (.v 30 (.eq (wpS k)) (.l i .nil)) h
theorem UC {nt:Nat} (e:32≤nt) (L:Lw) (a b c:Bool) (s:Int) (n1:Nat) (f:List Cl):ah prog ap [] nt (af 0 (ag f49)) ⟨[(1,.int .i64 s),(2,.ptr 0 0 0),(5,.nilS),(9,.int .i64 ((2:Nat):Int))],[(0,⟨L.c a b c,0,false,0,0,true⟩)],.dead,[]⟩ (.exit 0) ⟨[(5,.nilS)],[],.dead,[]⟩:=by
 have d:(decide (((2:Nat):Int)<((2:Nat):Int)))=false:=by decide
 exact pN 49 [2] 1 0 (.c (aT d) .nil) .nil e
theorem UB {nt:Nat} (f:32≤nt) (L:Lw) (a b c:Bool) (s:Int) (n1:Nat) (d:List Cl):ah prog ap [] nt (af 0 (ag f49)) ⟨[(1,.int .i64 s),(2,.ptr 0 0 0),(5,.ref 1 0 0 n1),(9,.int .i64 ((2:Nat):Int))],[(0,⟨L.c a b c,0,false,0,0,true⟩),(1,cB d)],.dead,[]⟩ (.exit 0) ⟨[(5,.ref 0 0 0 n1)],[(0,cB d)],.dead,[]⟩:=by
 have e:(decide (((2:Nat):Int)<((2:Nat):Int)))=false:=by decide
 exact pN 49 [2] 1 0 (.c (aT e) .nil) .nil f
theorem GM {nt:Nat} (e:32≤nt) (L:Lw) (a b c:Bool) (s:Int) (q:Nat) (os:List Cl) (d:q<2) (h:os.length+L.ps.length<2^40):
  ah prog ap [] nt (af 0 (ag f49)) (Ug L a b c s q os) .normal (Ug L a b c s (q+1) (os++mY s L.ps.length q)):=by
 have f:=aQ.blk (id:=2) (e':= .normal) (s:=Z4 L a b c s q (0,os)) (s':=Ug L a b c s q (os++mY s L.ps.length q)) (fun nt (e:32≤nt)=>NY e L a b c s q os h) (by simp) rfl (aG.refl _) (aG.refl _)
 generalize g:mY s L.ps.length q=row at*
 clear g
 cases os with
 |nil=>
  rw [List.nil_append] at*
  cases row with
  |nil=>exact RV e L a b c s q 0 0 [] [] d f
  |cons y o2=>exact RU e L a b c s q 0 (y::o2).length [] (y::o2) d f
 |cons x os=>exact RQ e L a b c s q (x::os).length (x::os++row).length (x::os) (x::os++row) d f
def clR (os:List Cl):St:=match os with| []=> ⟨[(5,.nilS)],[],.dead,[]⟩|o::os2=> ⟨[(5,.ref 0 0 0 (o::os2).length)],[(0,cB (o::os2))],.dead,[]⟩
theorem RP {nt:Nat} (e:32≤nt) (L:Lw) (a b c:Bool) (s:Int) (g:L.ps.length<2^38):aQ prog ap [] nt (af 0 (ag f49)) (fun _=> .exit 0) (fun p:Nat × List Cl=>Ug L a b c s p.1 p.2) clR (0,[]) (ax s L.ps.length):=by
 have d:∀ q,(mY s L.ps.length q).length≤L.ps.length:=fun q=>by
  unfold mY
  rw [List.length_flatMap]
  have:∀ l:List Nat,(l.map fun k=>(if aI s L.ps.length (((q:Nat):Int),((k:Nat):Int)) then [((((q:Nat):Int),((k:Nat):Int)):Cl)] else []).length).sum≤l.length:=by
   intro l
   induction l with
   |nil=>simp
   |cons x l ih=>simp only [List.map_cons,List.sum_cons,List.length_cons];split<;>simp<;>omega
  have:=this (List.range L.ps.length)
  rwa [List.length_range] at this
 have f:(2:Nat)^38=274877906944:=by decide
 have h0:=d 0
 refine .next (a':=(1,mY s L.ps.length 0)) (by simpa using GM e L a b c s 0 [] (by omega) (by simp;omega)) ?_
 refine .next (a':=(2,ax s L.ps.length)) (GM e L a b c s 1 (mY s L.ps.length 0) (by omega) (by omega)) (.done ?_)
 generalize ax s L.ps.length=o1
 cases o1 with
 |nil=>exact UC e L a b c s 0 []
 |cons o os=>exact UB e L a b c s (o::os).length (o::os)
def OQ (l:List Cl):AV:=match l with| []=> .nilS|o::os=> .own (cL (o::os)) (o::os).length 2
theorem rX (L:Lw) (a b c:Bool) (s:Int) (i:L.ps.length<2^38):CO 49 [.agg (L.c a b c),.int .i64 s] (.ret (OQ (ax s L.ps.length))):=by
 have e:=aQ.blk (id:=0) (e':= .normal) (s:=Ug L a b c s 0 []) (s':=clR (ax s L.ps.length)) (fun nt (hn:32≤nt)=>RP hn L a b c s i) (by simp) rfl (aG.refl _) (aG.refl _)
 cases h:ax s L.ps.length with
 |nil=>
  rw [h] at e
  have f:aK prog ap [] 32 (.block 0 (.loop (af 0 (ag f49)))) ⟨[(0,.agg [.sl L.fx L.fn a,.sl L.sx L.sn b,.sl (dm L.ps) L.ps.length c]),(1,.int .i64 s),(2,.ptr 0 0 0),(4,.nilS),(5,.nilS),(6,.dead),(7,.dead),(8,.dead),(9,.int .i64 0),(10,.dead),(14,.dead),(15,.dead),(16,.dead),(24,.dead)],[(0,⟨[.sl L.fx L.fn a,.sl L.sx L.sn b,.sl (dm L.ps) L.ps.length c],0,false,0,0,true⟩)],.dead,[]⟩ (.normal) ⟨[(5,.nilS)],[],.dead,[]⟩:=(fun nt d=>(e nt d).weak (aG.of ⟨rfl,rfl,rfl,rfl,trivial⟩) (aG.refl _))
  exact pK [0] 0 0 .nil (.l f .nil)
 |cons o os=>
  rw [h] at e
  have g:List.take ((o::os).length*2) (cL (o::os))=cL (o::os):=List.take_of_length_le (by rw [bH];exact Nat.le_refl _)
  show CO 49 _ (.ret (.own (cL (o::os)) (o::os).length 2))
  rw [← g]
  change aK _ _ _ _ _ _ _ ⟨[(5,.ref 0 0 0 (o::os).length)],[(0,cB (o::os))],_,_⟩ at e
  clear g
  generalize j:o::os=o1 at*
  generalize o1.length=n1 at*
  have f:aK prog ap [] 32 (.block 0 (.loop (af 0 (ag f49)))) ⟨[(0,.agg [.sl L.fx L.fn a,.sl L.sx L.sn b,.sl (dm L.ps) L.ps.length c]),(1,.int .i64 s),(2,.ptr 0 0 0),(4,.nilS),(5,.nilS),(6,.dead),(7,.dead),(8,.dead),(9,.int .i64 0),(10,.dead),(14,.dead),(15,.dead),(16,.dead),(24,.dead)],[(0,⟨[.sl L.fx L.fn a,.sl L.sx L.sn b,.sl (dm L.ps) L.ps.length c],0,false,0,0,true⟩)],.dead,[]⟩ (.normal) ⟨[(5,.ref 0 0 0 n1)],[(0,⟨(cL o1),0,false,0,2,true⟩)],.dead,[]⟩:=(fun nt d=>(e nt d).weak (aG.of ⟨rfl,rfl,rfl,rfl,trivial⟩) (aG.refl _))
  exact pK [0] 0 0 .nil (.l f .nil)
noncomputable def P8 (t:Nat):AV→Bool:=match ap.tyAt t with|some ti=>fE ti|none=>fun _=>false
theorem S_ (x:Cl):P8 25 (cA x)=true:=by kernel_rfl
theorem pJ (l:List Cl):List.all (l.map cA) (P8 25)=true:=by
 rw [List.all_eq_true]
 intro k a
 obtain ⟨x,_,rfl⟩:=List.mem_map.1 a
 exact S_ x
theorem qQ (x y:Cl):xZ (cA x) (cA y)=true↔x=y:=by
 simp only [cA,cC,xZ,Cb,x_,Bool.and_true,Bool.and_eq_true,beq_iff_eq]
 exact ⟨fun h=>Prod.ext h.1 h.2,fun h=>h ▸ ⟨rfl,rfl⟩⟩
theorem RG {l:List Cl} {x:Cl}:List.any (l.map cA) (xZ (cA x))=true↔x ∈ l:=by
 rw [List.any_eq_true]
 constructor
 ·rintro ⟨k,hk,h⟩
  obtain ⟨y,a,rfl⟩:=List.mem_map.1 hk
  rw [(qQ x y).1 h];exact a
 ·intro h
  exact ⟨cA x,List.mem_map.2 ⟨x,h,rfl⟩,(qQ x x).2 rfl⟩
theorem Eu {l:List Cl} {x:Cl} (h:x ∉ l):uS (l.map cA) (cA x)=(l++ [x]).map cA:=by
 unfold uS
 have:List.any (l.map cA) (xZ (cA x))=false:=by
  rw [Bool.eq_false_iff];exact fun e=>h (RG.1 e)
 rw [this];simp
theorem zg:∀ {l:List Cl} {x:Cl} (vs:List AV) (v:AV),x ∉ l→vs.length=l.length→lq (l.map cA) vs (cA x) v=vs++ [v]
 | [],x,[],v,_,_=>rfl
 | [],x,_::_,v,_,h=>by simp at h
 |y::l,x,[],v,_,h=>by simp at h
 |y::l,x,u::vs,v,h,hl=>by
  simp only [List.mem_cons,not_or] at h
  have e:xZ (cA x) (cA y)=false:=by rw [Bool.eq_false_iff];exact fun e=>h.1 ((qQ x y).1 e)
  simp only [List.map_cons,lq,e]
  rw [zg vs v h.2 (by simpa using hl)];rfl
def bM (L:Lw) (s:Int) (l:List Cl):Ut:=l.map fun x=>(x,iH L s x)
def tZ (W:Ut):List AV:=W.map fun x=> .sl (cL x.2) x.2.length false
theorem Y9 {nt:Nat} (B:25≤nt) (L:Lw) (a b c:Bool) (s:Int) (A:qi L) (l p r:List Cl) (x:Cl) (g:l=p++x::r) (z:l.length<2^40) (d:x ∉ p):
  ah prog ap [] nt (af 0 (ag f47)) ⟨[(1,.int .i64 s),(2,.ptr 0 0 0),(5,.mr 1 0),(11,.sl (cL l) l.length false),(12,.int .i64 (l.length:Int)),(13,.int .i64 (p.length:Int))],[(0,⟨L.c a b c,0,false,0,0,true⟩),(1,⟨[.agg (p.map cA),.agg (tZ (bM L s p))],0,false,0,4611686018427387904,true⟩)],.dead,[]⟩ .normal ⟨[(1,.int .i64 s),(2,.ptr 0 0 0),(5,.mr 1 0),(11,.sl (cL l) l.length false),(12,.int .i64 (l.length:Int)),(13,.int .i64 ((p.length+1:Nat):Int))],[(0,⟨L.c a b c,0,false,0,0,true⟩),(1,⟨[.agg ((p++ [x]).map cA),.agg (tZ (bM L s (p++ [x])))],0,false,0,4611686018427387904,true⟩)],.dead,[]⟩:=by
 have y:=ed (f:=cC) (n:=2) (fun _=>rfl) g
 change List.drop _ (cL l)=cC x++cL r at y
 have D:=Ir L a b c s x A
 have h:p.length<l.length:=sS g
 have C:p.length<2^62:=by omega
 have j:=pJ p
 have v:=Eu d
 have q:=zg (tZ (bM L s p)) (.sl (cL (iH L s x)) (iH L s x).length false) d (by simp [tZ,bM])
 have t:tZ (bM L s (p++ [x]))=tZ (bM L s p)++ [.sl (cL (iH L s x)) (iH L s x).length false]:=by simp [tZ,bM]
 rw [t,← v,← q]
 have o:(decide ((p.length:Int)<(l.length:Int)))=true:=kl h
 have hp:(p++ [x]).length=p.length+1:=by simp
 clear v q t g
 generalize tZ (bM L s p)=vs at*
 generalize List.map cA p=ks at*
 generalize iH L s x=u at*
 generalize p.length=k at*
 have i:(List.all ks (P8 25))=true:=j
 have m:(decide (((0:Nat):Int)≤(k:Int)))=true:=(k0 k)
 have e:(decide ((k:Int)<(l.length:Int)))=true:=o
 exact pN 47 [] 1 1 (.k 1 i (.k 10 m (.c e (.c (aN o) .nil)))) (.v 23 (.eq (wpS C)) (.c D (.v 15 (.ppt y) .nil))) B
theorem Y8 {nt:Nat} (e:25≤nt) (L:Lw) (a b c:Bool) (s:Int) (l:List Cl) (ks vs:List AV):
  ah prog ap [] nt (af 0 (ag f47)) ⟨[(1,.int .i64 s),(2,.ptr 0 0 0),(5,.mr 1 0),(11,.sl (cL l) l.length false),(12,.int .i64 (l.length:Int)),(13,.int .i64 (l.length:Int))],[(0,⟨L.c a b c,0,false,0,0,true⟩),(1,⟨[.agg ks,.agg vs],0,false,0,4611686018427387904,true⟩)],.dead,[]⟩ (.exit 0) ⟨[(5,.mr 0 0)],[(0,⟨[.agg ks,.agg vs],0,false,0,4611686018427387904,true⟩)],.dead,[]⟩:=by
 have d:(decide ((l.length:Int)<(l.length:Int)))=false:=kn (Nat.le_refl _)
 exact pN 47 [] 1 0 (.c (aT d) .nil) .nil e
theorem Ip {nt:Nat} (i:25≤nt) (L:Lw) (a b c:Bool) (s:Int) (j:qi L) (l:List Cl) (f:l.length<2^40) (d:l.Nodup):∀ (r p:List Cl),l=p++r→
  aQ prog ap [] nt (af 0 (ag f47)) (fun _=> .exit 0) (fun p:List Cl=> ⟨[(1,.int .i64 s),(2,.ptr 0 0 0),(5,.mr 1 0),(11,.sl (cL l) l.length false),(12,.int .i64 (l.length:Int)),(13,.int .i64 (p.length:Int))],[(0,⟨L.c a b c,0,false,0,0,true⟩),(1,⟨[.agg (p.map cA),.agg (tZ (bM L s p))],0,false,0,4611686018427387904,true⟩)],.dead,[]⟩) (fun p:List Cl=> ⟨[(5,.mr 0 0)],[(0,⟨[.agg (p.map cA),.agg (tZ (bM L s p))],0,false,0,4611686018427387904,true⟩)],.dead,[]⟩) p l
 | [],p,h=>by
  have hp:p=l:=by rw [h];simp
  subst hp
  exact .done (Y8 i L a b c s p _ _)
 | x::r,p,h=>by
  have g:x ∉ p:=by
   rw [h] at d
   intro g
   have:=(List.nodup_append.1 d).2.2 x g x (by simp)
   exact this rfl
  refine .next (a':=p++ [x]) ?_ (Ip i L a b c s j l f d r (p++ [x]) (by rw [h];simp))
  have:=Y9 i L a b c s j l p r x h f g
  have e:(p++ [x]).length=p.length+1:=by simp
  simpa [e] using this
theorem JP (L:Lw) (a b c:Bool) (s:Int) (e:L.ps.length<2^38):CO 49 [.agg (L.c a b c),.int .i64 s] (.ret (.sl (cL (ax s L.ps.length)) (ax s L.ps.length).length false)):=by
 have h:=rX L a b c s e
 cases d:ax s L.ps.length with
 |nil=>rw [d] at h;exact h.out (jE.ret rfl rfl (bC.nilS false rfl))
 |cons o os=>rw [d] at h;exact Ce (o::os) _ (List.take_of_length_le (by rw [bH];exact Nat.le_refl _)) h
theorem tJ {s:Int} {n q:Nat} {x:Cl}:x ∈ mY s n q↔x.1=q∧aI s n x=true:=by
 unfold mY
 rw [List.mem_flatMap]
 constructor
 ·rintro ⟨k,hk,hx⟩
  split at hx
  ·rename_i f
   rw [List.mem_singleton] at hx
   subst hx
   exact ⟨rfl,f⟩
  ·cases hx
 ·rintro ⟨h1,h2⟩
  obtain ⟨a,b⟩:=x
  simp only at h1
  subst h1
  have c:=h2
  unfold aI at c
  simp only [Bool.and_eq_true,decide_eq_true_eq] at c
  obtain ⟨_,_,_,d,g⟩:=c
  have e:(b.toNat:Int)=b:=Int.toNat_of_nonneg d
  refine ⟨b.toNat,List.mem_range.2 (by omega), ?_⟩
  rw [e,if_pos h2];simp
theorem zu (s:Int) (n q:Nat):(mY s n q).Nodup:=by
 unfold mY
 have key:∀ l:List Nat,l.Nodup→(l.flatMap fun k=>if aI s n ((q:Int),((k:Nat):Int)) then [(((q:Int),((k:Nat):Int)):Cl)] else []).Nodup:=by
  intro l
  induction l with
  |nil=>intro _;simp
  |cons k l ih=>
   intro h
   rw [List.nodup_cons] at h
   rw [List.flatMap_cons,List.nodup_append]
   refine ⟨by split<;>simp,ih h.2,fun x b y a e=> ?_⟩
   subst e
   obtain ⟨k2,c,a⟩:=List.mem_flatMap.1 a
   split at b<;>split at a<;>simp at b a
   rw [b] at a
   simp at a
   have:k=k2:=by omega
   subst this
   exact h.1 c
 exact key _ List.nodup_range
theorem jI {s:Int} {n:Nat} {x:Cl}:x ∈ ax s n↔aI s n x=true:=by
 unfold ax
 rw [List.mem_append,tJ,tJ]
 constructor
 ·rintro (h|h)<;>exact h.2
 ·intro h
  have a:=h
  unfold aI at a
  simp only [Bool.and_eq_true,Bool.or_eq_true,decide_eq_true_eq,beq_iff_eq] at a
  obtain ⟨h0,c,b,_⟩:=a
  have:x.1=((0:Nat):Int)∨x.1=((1:Nat):Int):=by omega
  exact this.imp (fun e=> ⟨e,h⟩) (fun e=> ⟨e,h⟩)
theorem BQ (s:Int) (n:Nat):(ax s n).Nodup:=by
 unfold ax
 rw [List.nodup_append]
 refine ⟨zu _ _ _,zu _ _ _,fun x b y a e=> ?_⟩
 subst e
 have d:=(tJ.1 b).1
 have c:=(tJ.1 a).1
 omega
theorem FC (s:Int) (n:Nat) (e:n<2^38):(ax s n).length<2^40:=by
 have a:∀ q,(mY s n q).length≤n:=fun q=>by
  unfold mY
  rw [List.length_flatMap]
  have:∀ l:List Nat,(l.map fun k=>(if aI s n (((q:Nat):Int),((k:Nat):Int)) then [((((q:Nat):Int),((k:Nat):Int)):Cl)] else []).length).sum≤l.length:=by
   intro l
   induction l with
   |nil=>simp
   |cons x l ih=>simp only [List.map_cons,List.sum_cons,List.length_cons];split<;>simp<;>omega
  have:=this (List.range n)
  rwa [List.length_range] at this
 have c:(2:Nat)^38=274877906944:=by decide
 have b:(2:Nat)^40=1099511627776:=by decide
 have h0:=a 0
 have d:=a 1
 unfold ax
 rw [List.length_append]
 omega
theorem O0 (L:Lw) (a b c:Bool) (s:Int) (j:qi L) (g:L.ps.length<2^38):ae prog ap 47 [.agg (L.c a b c),.int .i64 s] [] (.ret (.mr 0 0)) [⟨[.agg ((ax s L.ps.length).map cA),.agg (tZ (bM L s (ax s L.ps.length)))],0,false,0,4611686018427387904,true⟩]:=by
 have h:=JP L a b c s g
 have e:=aQ.blk (id:=0) (e':= .normal) (fun nt (f:25≤nt)=>Ip f L a b c s j (ax s L.ps.length) (FC _ _ g) (BQ _ _) (ax s L.ps.length) [] rfl) (by simp) rfl (aG.refl _) (aG.refl _)
 simp only [List.map_nil,List.length_nil] at e
 change aK _ _ _ _ _ ⟨_,[(0,⟨L.c a b c,0,false,0,0,true⟩),(1,⟨[.agg [],.agg []],0,false,0,4611686018427387904,true⟩)],_,_⟩ _ _ at e
 generalize (ax s L.ps.length).map cA=ks at*
 generalize tZ (bM L s (ax s L.ps.length))=vs at*
 generalize ax s L.ps.length=l at*
 have i:aK prog ap [] 25 (.block 0 (.loop (af 0 (ag f47)))) ⟨[(0,.agg [.sl L.fx L.fn a,.sl L.sx L.sn b,.sl (dm L.ps) L.ps.length c]),(1,.int .i64 s),(2,.ptr 0 0 0),(4,.mp [] []),(5,.mr 1 0),(7,.dead),(11,.sl (cL l) l.length false),(12,.int .i64 (l.length:Int)),(13,.int .i64 0),(14,.dead)],[(0,⟨[.sl L.fx L.fn a,.sl L.sx L.sn b,.sl (dm L.ps) L.ps.length c],0,false,0,0,true⟩),(1,⟨[.agg [],.agg []],0,false,0,4611686018427387904,true⟩)],.dead,[]⟩ (.normal) ⟨[(5,.mr 0 0)],[(0,⟨[.agg ks,.agg vs],0,false,0,4611686018427387904,true⟩)],.dead,[]⟩:=(fun nt d=>(e nt d).weak (aG.of ⟨rfl,rfl,rfl,rfl,rfl,rfl,trivial⟩) (aG.refl _))
 exact jB jY 1 (F:=⟨f47,[0,1,2,4,5,7,11,12,13,14],true⟩) rfl rfl (fun nt f=>(pN 47 [0] 0 0 (.n 3 .nil) (.l i (.c h .nil)) f:ah prog ap [] nt (ag f47) (dO .dead [.agg (L.c a b c),.int .i64 s] []) .ret ⟨[(4,.mr 0 0)],[(0,⟨[.agg ks,.agg vs],0,false,0,4611686018427387904,true⟩)],.dead,[]⟩)) rfl (Nat.zero_le _) rfl
def t_ (l:List Cl):List AV:=l.map fun _=> .bool true
def kw (L:Lw) (a b c:Bool) (s:Int) (uk uv ks vs:List AV):List aJ:= [⟨[.mr 5 0],0,false,0,0,false⟩,⟨[.sl L.fx L.fn a,.sl L.sx L.sn b,.sl (dm L.ps) L.ps.length c],0,false,0,0,true⟩,⟨[.int .i64 s],0,false,0,0,true⟩,⟨[.mr 6 0],0,false,0,0,false⟩,⟨[.fn 56 [] [.ptr 0 0 0,.ptr 1 0 0,.ptr 2 0 0,.ptr 3 0 0,.ptr 4 0 0]],0,false,0,0,false⟩,⟨[.agg ks,.agg vs],0,false,0,4611686018427387904,true⟩,⟨[.agg uk,.agg uv],0,false,0,4611686018427387904,true⟩]
theorem uq:∀ (l:List Cl) (x:Cl),Option.getD (fZ (l.map cA) (t_ l) (cA x)) (.bool false)= .bool (decide (x ∈ l))
 | [],x=>by simp [fZ,t_]
 | y::l,x=>by
  simp only [t_,List.map_cons,fZ]
  cases h:xZ (cA x) (cA y) with
  |true=>have:=(qQ x y).1 h;subst this;simp
  |false=>
   have a:x ≠ y:=fun e=>by rw [(qQ x y).2 e] at h;cases h
   have:=uq l x
   simp only [t_] at this
   simp only [this,List.mem_cons,a,false_or]
theorem J6:∀ (U:Ut) (x:Cl),bC (Option.getD (fZ (U.map fun x=>cA x.1) (tZ U) (cA x)) .nilS) (.sl (cL (bP U x)) (bP U x).length false)
 | [],x=>by simpa [fZ,tZ,bP,cL] using bC.nilS false rfl
 | (y,l)::U,x=>by
  simp only [tZ,List.map_cons,fZ,bP]
  cases h:xZ (cA x) (cA y) with
  |true=>have:=(qQ x y).1 h;subst this;rw [if_pos rfl];exact bC.eq rfl
  |false=>
   have a:¬ y=x:=fun e=>by rw [(qQ x y).2 e.symm] at h;cases h
   rw [if_neg a]
   exact J6 U x
theorem Ub (U:Ut):List.all (U.map fun x=>cA x.1) (P8 25)=true:=by
 have:=pJ (U.map (·.1))
 rwa [List.map_map] at this
def ja (us:Cl→List Cl) (ok:Cl→Bool):Nat→List Cl→Cl→List Cl
 |0,seen,_=>seen
 |n+1,seen,x=>if x ∈ seen then seen else if ok x then (us x).foldl (ja us ok n) (seen++ [x]) else seen
theorem zK (us:Cl→List Cl) (ok:Cl→Bool):∀ (n:Nat) (seen:List Cl) (x:Cl),∃ t,ja us ok n seen x=seen++t
 |0,seen,_=> ⟨[],by simp [ja]⟩
 | n +1,seen,x=>by
  unfold ja
  split
  ·exact ⟨[],by simp⟩
  ·split
   ·have key:∀ (l:List Cl) (a:List Cl),∃ t,l.foldl (ja us ok n) a=a++t:=by
     intro l
     induction l with
     |nil=>intro a;exact ⟨[],by simp⟩
     |cons y l ih=>
      intro a
      obtain ⟨t,b⟩:=zK us ok n a y
      obtain ⟨d,c⟩:=ih (ja us ok n a y)
      exact ⟨t++d,by rw [List.foldl_cons,c,b,List.append_assoc]⟩
    obtain ⟨t,b⟩:=key (us x) (seen++ [x])
    exact ⟨[x]++t,by rw [b,List.append_assoc]⟩
   ·exact ⟨[],by simp⟩
def Uc (L:Lw) (a b c:Bool) (s:Int) (uk uv:List AV) (l:List Cl) (k:Nat) (ks vs:List AV):St:=⟨[(1,.ptr 0 0 0),(2,.ptr 1 0 0),(3,.ptr 2 0 0),(4,.ptr 3 0 0),(5,.ptr 4 0 0),(23,.sl (cL l) l.length false),(24,.int .i64 (l.length:Int)),(25,.int .i64 (k:Int))],[(0,⟨[.mr 5 0],0,false,0,0,false⟩),(1,⟨[.sl L.fx L.fn a,.sl L.sx L.sn b,.sl (dm L.ps) L.ps.length c],0,false,0,0,true⟩),(2,⟨[.int .i64 s],0,false,0,0,true⟩),(3,⟨[.mr 6 0],0,false,0,0,false⟩),(4,⟨[.fn 56 [] [.ptr 0 0 0,.ptr 1 0 0,.ptr 2 0 0,.ptr 3 0 0,.ptr 4 0 0]],0,false,0,0,false⟩),(5,⟨[.agg ks,.agg vs],0,false,0,4611686018427387904,true⟩),(6,⟨[.agg uk,.agg uv],0,false,0,4611686018427387904,true⟩)],.dead,[]⟩
theorem ZB (L:Lw) (a b c:Bool) (s:Int) (g h ks vs:List AV) (x:Cl) (e:List.all ks (P8 25)=true) (d:Option.getD (fZ ks vs (cA x)) (.bool false)= .bool true):ae prog ap 56 [cA x,.ptr 0 0 0,.ptr 1 0 0,.ptr 2 0 0,.ptr 3 0 0,.ptr 4 0 0] (kw L a b c s g h ks vs) (.ret (.tup [])) (kw L a b c s g h ks vs):=by
 obtain ⟨f,hs⟩:∃ f,f=true:=⟨_,rfl⟩
 have d:Option.getD (fZ ks vs (cA x)) (.bool false)= .bool f:=by rw [hs];exact d
 unfold kw
 exact pK [0] 2 3 (.k 1 (aN hs) (.k 1 e (.n 3 .nil))) (.v 11 (.eq d) .nil)
theorem ZC (L:Lw) (a b c:Bool) (s:Int) (h i ks vs:List AV) (x:Cl) (f:List.all ks (P8 25)=true) (d:Option.getD (fZ ks vs (cA x)) (.bool false)= .bool false) (j:aI s L.ps.length x=false):ae prog ap 56 [cA x,.ptr 0 0 0,.ptr 1 0 0,.ptr 2 0 0,.ptr 3 0 0,.ptr 4 0 0] (kw L a b c s h i ks vs) (.ret (.tup [])) (kw L a b c s h i ks vs):=by
 obtain ⟨g,hs⟩:∃ g,g=false:=⟨_,rfl⟩
 have d:Option.getD (fZ ks vs (cA x)) (.bool false)= .bool g:=by rw [hs];exact d
 have e:=jW L a b c s x
 generalize aI s L.ps.length x=vq at*
 unfold kw
 exact pK [0] 2 2 (.c (oz j) (.k 6 (aT hs) (.k 1 f (.n 3 .nil)))) (.c e (.v 11 (.eq d) .nil))
theorem ZE (L:Lw) (a b c:Bool) (s:Int) (d e ks vs:List AV) (x:Cl) (g:List.all ks (P8 25)=true) (l:List.all d (P8 25)=true) (k2 j:List AV) (us:List Cl) (f:Option.getD (fZ ks vs (cA x)) (.bool false)= .bool false) (o:aI s L.ps.length x=true) (m:bC (Option.getD (fZ d e (cA x)) .nilS) (.sl (cL us) us.length false))
  (l0:aK prog ap (kw L a b c s d e ks vs) 33 (.block 0 (.loop (af 0 (ag f56)))) (Uc L a b c s d e us 0 (uS ks (cA x)) (lq ks vs (cA x) (.bool true))) .normal ⟨[],[(0,⟨[.mr 5 0],0,false,0,0,false⟩),(1,⟨[.sl L.fx L.fn a,.sl L.sx L.sn b,.sl (dm L.ps) L.ps.length c],0,false,0,0,true⟩),(2,⟨[.int .i64 s],0,false,0,0,true⟩),(3,⟨[.mr 6 0],0,false,0,0,false⟩),(4,⟨[.fn 56 [] [.ptr 0 0 0,.ptr 1 0 0,.ptr 2 0 0,.ptr 3 0 0,.ptr 4 0 0]],0,false,0,0,false⟩),(5,⟨[.agg k2,.agg j],0,false,0,4611686018427387904,true⟩),(6,⟨[.agg d,.agg e],0,false,0,4611686018427387904,true⟩)],.dead,[]⟩):ae prog ap 56 [cA x,.ptr 0 0 0,.ptr 1 0 0,.ptr 2 0 0,.ptr 3 0 0,.ptr 4 0 0] (kw L a b c s d e ks vs) (.ret (.tup [])) (kw L a b c s d e k2 j):=by
 unfold Uc kw at l0
 have n:aK prog ap [⟨[.mr 5 0],0,false,0,0,false⟩,⟨[.sl L.fx L.fn a,.sl L.sx L.sn b,.sl (dm L.ps) L.ps.length c],0,false,0,0,true⟩,⟨[.int .i64 s],0,false,0,0,true⟩,⟨[.mr 6 0],0,false,0,0,false⟩,⟨[.fn 56 [] [.ptr 0 0 0,.ptr 1 0 0,.ptr 2 0 0,.ptr 3 0 0,.ptr 4 0 0]],0,false,0,0,false⟩,⟨[.agg ks,.agg vs],0,false,0,4611686018427387904,true⟩,⟨[.agg d,.agg e],0,false,0,4611686018427387904,true⟩] 33 (.block 0 (.loop (af 0 (ag f56)))) ⟨[(0,.agg [.int .i64 x.1,.int .i64 x.2]),(1,.ptr 0 0 0),(2,.ptr 1 0 0),(3,.ptr 2 0 0),(4,.ptr 3 0 0),(5,.ptr 4 0 0),(6,.ptr 7 0 0),(8,.dead),(18,.bool (!(aI s L.ps.length x))),(23,.sl (cL us) us.length false),(24,.int .i64 (us.length:Int)),(25,.int .i64 0),(26,.dead)],[(0,⟨[.mr 5 0],0,false,0,0,false⟩),(1,⟨[.sl L.fx L.fn a,.sl L.sx L.sn b,.sl (dm L.ps) L.ps.length c],0,false,0,0,true⟩),(2,⟨[.int .i64 s],0,false,0,0,true⟩),(3,⟨[.mr 6 0],0,false,0,0,false⟩),(4,⟨[.fn 56 [] [.ptr 0 0 0,.ptr 1 0 0,.ptr 2 0 0,.ptr 3 0 0,.ptr 4 0 0]],0,false,0,0,false⟩),(5,⟨[.agg (uS ks (.agg [.int .i64 x.1,.int .i64 x.2])),.agg (lq ks vs (.agg [.int .i64 x.1,.int .i64 x.2]) (.bool true))],0,false,0,4611686018427387904,true⟩),(6,⟨[.agg d,.agg e],0,false,0,4611686018427387904,true⟩),(7,⟨[.int .i64 x.1,.int .i64 x.2],0,false,0,0,true⟩)],.dead,[]⟩ (.normal) ⟨[],[(0,⟨[.mr 5 0],0,false,0,0,false⟩),(1,⟨[.sl L.fx L.fn a,.sl L.sx L.sn b,.sl (dm L.ps) L.ps.length c],0,false,0,0,true⟩),(2,⟨[.int .i64 s],0,false,0,0,true⟩),(3,⟨[.mr 6 0],0,false,0,0,false⟩),(4,⟨[.fn 56 [] [.ptr 0 0 0,.ptr 1 0 0,.ptr 2 0 0,.ptr 3 0 0,.ptr 4 0 0]],0,false,0,0,false⟩),(5,⟨[.agg k2,.agg j],0,false,0,4611686018427387904,true⟩),(6,⟨[.agg d,.agg e],0,false,0,4611686018427387904,true⟩)],.dead,[]⟩:=(fun nt k=>ah.tidy [1,2,3,4,5,23,24,25] (l0 nt k) (by kernel_rfl) rfl)
 obtain ⟨i,hs⟩:∃ i,i=false:=⟨_,rfl⟩
 have f:Option.getD (fZ ks vs (cA x)) (.bool false)= .bool i:=by rw [hs];exact f
 have h:=jW L a b c s x
 generalize aI s L.ps.length x=vq at*
 unfold kw
 exact pK [0] 2 0 (.k 1 l (.k 4 g (.k 3 (gY o) (.k 6 (aT hs) (.k 1 g (.n 3 .nil)))))) (.l n (.v 23 m (.c h (.v 11 (.eq f) .nil))))
theorem ZG {nt:Nat} (y:33≤nt) (h0:List aJ) (v:h0.length=7) (L:Lw) (a b c:Bool) (s:Int) (d e ks vs k2 m:List AV) (l p r:List Cl) (x:Cl) (g:l=p++x::r) (u:l.length<2^40) (o:ae prog ap 56 [cA x,.ptr 0 0 0,.ptr 1 0 0,.ptr 2 0 0,.ptr 3 0 0,.ptr 4 0 0] (kw L a b c s d e ks vs) (.ret (.tup [])) (kw L a b c s d e k2 m)):
  ah prog ap h0 nt (af 0 (ag f56)) (Uc L a b c s d e l p.length ks vs) .normal (Uc L a b c s d e l (p.length+1) k2 m):=by
 have t:=ed (f:=cC) (n:=2) (fun _=>rfl) g
 change List.drop _ (cL l)=cC x++cL r at t
 have j:p.length<l.length:=sS g
 have z:p.length<2^62:=by omega
 have q:(decide ((p.length:Int)<(l.length:Int)))=true:=kl j
 match h0,v with
 | [b0,b1,b2,b3,b4,b5,b6],_=>
  unfold Uc
  unfold kw at o
  clear g
  generalize p.length=k at*
  have h:(decide (((0:Nat):Int)≤(k:Int)))=true:=(k0 k)
  have i:(decide ((k:Int)<(l.length:Int)))=true:=q
  exact pN 56 [] 1 1 (.k 6 h (.c i (.c (aN q) .nil))) (.v 32 (.eq (wpS z)) (.c o (.v 27 (.ppt t) .nil))) y
theorem ZF {nt:Nat} (h:33≤nt) (h0:List aJ) (g:h0.length=7) (L:Lw) (a b c:Bool) (s:Int) (d e ks vs:List AV) (l:List Cl):
  ah prog ap h0 nt (af 0 (ag f56)) (Uc L a b c s d e l l.length ks vs) (.exit 0) ⟨[],[(0,⟨[.mr 5 0],0,false,0,0,false⟩),(1,⟨[.sl L.fx L.fn a,.sl L.sx L.sn b,.sl (dm L.ps) L.ps.length c],0,false,0,0,true⟩),(2,⟨[.int .i64 s],0,false,0,0,true⟩),(3,⟨[.mr 6 0],0,false,0,0,false⟩),(4,⟨[.fn 56 [] [.ptr 0 0 0,.ptr 1 0 0,.ptr 2 0 0,.ptr 3 0 0,.ptr 4 0 0]],0,false,0,0,false⟩),(5,⟨[.agg ks,.agg vs],0,false,0,4611686018427387904,true⟩),(6,⟨[.agg d,.agg e],0,false,0,4611686018427387904,true⟩)],.dead,[]⟩:=by
 have f:(decide ((l.length:Int)<(l.length:Int)))=false:=kn (Nat.le_refl _)
 match h0,g with
 | [b0,b1,b2,b3,b4,b5,b6],_=>exact pN 56 [] 1 0 (.c (aT f) .nil) .nil h
def iF (C:List Cl) (seen:List Cl):Nat:=(C.filter fun c=>decide (c ∉ seen)).length
theorem u_ (C:List Cl) {s t:List Cl} (h:∀ x ∈ s,x ∈ t):iF C t≤iF C s:=by
 unfold iF
 rw [← List.countP_eq_length_filter,← List.countP_eq_length_filter]
 refine List.countP_mono_left fun x _ a=> ?_
 simp only [decide_eq_true_eq] at a ⊢
 exact fun e=>a (h x e)
theorem BD {C:List Cl} {s:List Cl} {x:Cl} (a:x ∈ C) (hs:x ∉ s):iF C (s++ [x])<iF C s:=by
 unfold iF
 have e:(C.filter fun c=>decide (c ∉ s++ [x]))=(C.filter fun c=>decide (c ∉ s)).filter fun c=>decide (c ≠ x):=by
  rw [List.filter_filter]
  congr 1
  funext c
  rw [Bool.eq_iff_iff]
  simp [and_comm]
 rw [e]
 refine (List.length_filter_lt_length_iff_exists).2 ⟨x, ?_,by simp⟩
 rw [List.mem_filter]
 exact ⟨a,by simpa using hs⟩
theorem NE (L:Lw) (a b c:Bool) (s:Int) (U:Ut) (o:∀ x,(bP U x).length<2^40):∀ (n:Nat) (seen:List Cl) (x:Cl),iF (ax s L.ps.length) seen<n→
  ae prog ap 56 [cA x,.ptr 0 0 0,.ptr 1 0 0,.ptr 2 0 0,.ptr 3 0 0,.ptr 4 0 0] (kw L a b c s (U.map fun x=>cA x.1) (tZ U) (seen.map cA) (t_ seen)) (.ret (.tup [])) (kw L a b c s (U.map fun x=>cA x.1) (tZ U) ((ja (bP U) (aI s L.ps.length) n seen x).map cA) (t_ (ja (bP U) (aI s L.ps.length) n seen x)))
 |0,seen,x,h=>absurd h (Nat.not_lt_zero _)
 | n + 1,seen,x,h=>by
  have g:=uq seen x
  unfold ja
  by_cases hx:x ∈ seen
  ·rw [if_pos hx]
   exact ZB L a b c s _ _ _ _ x (pJ seen) (by rw [g];simp [hx])
  ·rw [if_neg hx]
   have e:Option.getD (fZ (seen.map cA) (t_ seen) (cA x)) (.bool false)= .bool false:=by rw [g];simp [hx]
   cases l:aI s L.ps.length x with
   |false=>
    rw [if_neg (by simp)]
    exact ZC L a b c s _ _ _ _ x (pJ seen) e l
   | true=>
    rw [if_pos rfl]
    have j:iF (ax s L.ps.length) (seen++ [x])<n:=by have:=BD (jI.2 l) hx;omega
    have h0len:(kw L a b c s (U.map fun x=>cA x.1) (tZ U) (seen.map cA) (t_ seen)).length=7:=rfl
    have f:∀ (r p d:List Cl),bP U x=p++r→iF (ax s L.ps.length) d<n→∀ nt,33≤nt→
      aQ prog ap (kw L a b c s (U.map fun x=>cA x.1) (tZ U) (seen.map cA) (t_ seen)) nt (af 0 (ag f56)) (fun _=> .exit 0) (fun q:Nat × List Cl=>Uc L a b c s (U.map fun x=>cA x.1) (tZ U) (bP U x) q.1 (q.2.map cA) (t_ q.2))
       (fun d:List Cl=> ⟨[],(kw L a b c s (U.map fun x=>cA x.1) (tZ U) (d.map cA) (t_ d)).zipIdx.map (fun q=>(q.2,q.1)),.dead,[]⟩) (p.length,d) (r.foldl (ja (bP U) (aI s L.ps.length) n) d):=by
     intro r
     induction r with
     |nil=>
      intro p d hp hs nt i
      rw [List.append_nil] at hp
      rw [List.foldl_nil,← hp]
      exact .done (ZF i _ h0len L a b c s _ _ _ _ (bP U x))
     |cons y r ih=>
      intro p d hp hs nt i
      rw [List.foldl_cons]
      have u:=NE L a b c s U o n d y hs
      obtain ⟨t,B⟩:=zK (bP U) (aI s L.ps.length) n d y
      have A:=ZG i _ h0len L a b c s _ _ _ _ _ _ (bP U x) p r y hp (o x) u
      have m:=ih (p++ [y]) (ja (bP U) (aI s L.ps.length) n d y) (by rw [hp];simp) (Nat.lt_of_le_of_lt (u_ _ (fun z C=>by rw [B];simp [C])) hs) nt i
      rw [show (p++ [y]).length=p.length+1 by simp] at m
      exact .next (a':=(p.length+1,_)) A m
    have k:=aQ.blk (id:=0) (e':= .normal) (f (bP U x) [] (seen++ [x]) rfl j) (by simp) rfl (aG.refl _) (aG.refl _)
    rw [← Eu hx] at k
    have v:t_ (seen++ [x])=lq (seen.map cA) (t_ seen) (cA x) (.bool true):=by
     rw [zg (t_ seen) (.bool true) hx (by simp [t_])];simp [t_]
    rw [v] at k
    exact ZE L a b c s _ _ _ _ x (pJ seen) (Ub U) _ _ (bP U x) e l (J6 U x) k
theorem Wq (l:List Cl) (x:Cl):ae prog ap 58 [cA x,.ptr 0 0 0] [⟨[.mr 1 0],0,false,0,0,false⟩,⟨[.agg (l.map cA),.agg (t_ l)],0,false,0,4611686018427387904,true⟩] (.ret (.bool (!(decide (x ∈ l))))) [⟨[.mr 1 0],0,false,0,0,false⟩,⟨[.agg (l.map cA),.agg (t_ l)],0,false,0,4611686018427387904,true⟩]:=by
 have a:=uq l x
 have b:=pJ l
 generalize decide (x ∈ l)=sv at*
 generalize t_ l=vs at*
 generalize l.map cA=ks at*
 exact pK [] 0 0 (.k 1 b (.n 3 .nil)) (.v 6 (.eq a) .nil)
abbrev dH (ks vs:List AV) (L:List Cl):List aJ:= [cB L,⟨[.mr 2 0],0,false,0,0,false⟩,⟨[.agg ks,.agg vs],0,false,0,4611686018427387904,true⟩]
def KQ (ks vs:List AV) (n:Nat) (L:List Cl) (k:Nat):St:=⟨[(0,.ref 0 0 0 n),(1,.fn 58 [] [.ptr 1 0 0]),(7,.int .i64 (n:Int)),(8,.int .i64 (k:Int))],[(0,⟨(cL L),0,false,0,2,true⟩),(1,⟨[.mr 2 0],0,false,0,0,false⟩),(2,⟨[.agg ks,.agg vs],0,false,0,4611686018427387904,true⟩)],.dead,[]⟩
theorem SY {nt:Nat} (i:19≤nt) (ks vs:List AV) (e:Cl→Bool) (h:∀ x,ae prog ap 58 [cA x,.ptr 0 0 0] [⟨[.mr 1 0],0,false,0,0,false⟩,⟨[.agg ks,.agg vs],0,false,0,4611686018427387904,true⟩] (.ret (.bool (!(e x)))) [⟨[.mr 1 0],0,false,0,0,false⟩,⟨[.agg ks,.agg vs],0,false,0,4611686018427387904,true⟩]) (L0 p r:List Cl) (x:Cl) (n:Nat) (hs:(p++x::r).length=n) (l:n<2^40) (d:e x=false):
  ah prog ap (dH ks vs L0) nt (af 0 (ag f100)) (KQ ks vs n (p++x::r) p.length) .ret ⟨[(4,.int .i64 (p.length:Int))],[(0,cB (p++x::r)),(1,⟨[.mr 2 0],0,false,0,0,false⟩),(2,⟨[.agg ks,.agg vs],0,false,0,4611686018427387904,true⟩)],.dead,[]⟩:=by
 have f:=nI (L:=p++x::r) (p:=p) (x:=x) (r:=r) rfl
 have a:p.length<n:=by rw [← hs];simp
 have o:p.length<2^62:=by omega
 have j:(decide ((p.length:Int)<(n:Int)))=true:=kl a
 have g:=h x
 unfold KQ
 clear hs
 generalize m:p++x::r=L at*
 generalize p.length=k at*
 generalize e x=kx at*
 have b:(decide (((0:Nat):Int)≤(k:Int)))=true:=(k0 _)
 have c:(decide ((k:Int)<(n:Int)))=true:=(kl (by omega))
 exact pN 100 [] 2 3 (.c (oz d) (.a (eU [.int .i64,.int .i64] f rfl) (.c b (.c c (.c (aN j) .nil))))) (.c g (.v 15 (.rd [.int .i64,.int .i64] f rfl) .nil)) i
theorem V3 {nt:Nat} (i:19≤nt) (ks vs:List AV) (e:Cl→Bool) (h:∀ x,ae prog ap 58 [cA x,.ptr 0 0 0] [⟨[.mr 1 0],0,false,0,0,false⟩,⟨[.agg ks,.agg vs],0,false,0,4611686018427387904,true⟩] (.ret (.bool (!(e x)))) [⟨[.mr 1 0],0,false,0,0,false⟩,⟨[.agg ks,.agg vs],0,false,0,4611686018427387904,true⟩]) (L0 p r:List Cl) (x:Cl) (n:Nat) (hs:(p++x::r).length=n) (m:n<2^40) (c:e x=true):
  ah prog ap (dH ks vs L0) nt (af 0 (ag f100)) (KQ ks vs n (p++x::r) p.length) .normal (KQ ks vs n (p++x::r) (p.length+1)):=by
 have f:=nI (L:=p++x::r) (p:=p) (x:=x) (r:=r) rfl
 have a:p.length<n:=by rw [← hs];simp
 have j:p.length<2^62:=by omega
 have l:(decide ((p.length:Int)<(n:Int)))=true:=kl a
 have g:=h x
 unfold KQ
 clear hs
 generalize o:p++x::r=L at*
 generalize p.length=k at*
 generalize e x=kx at*
 have b:(decide (((0:Nat):Int)≤(k:Int)))=true:=(k0 _)
 have d:(decide ((k:Int)<(n:Int)))=true:=(kl (by omega))
 exact pN 100 [] 2 1 (.c (gY c) (.a (eU [.int .i64,.int .i64] f rfl) (.c b (.c d (.c (aN l) .nil))))) (.v 18 (.eq (wpS j)) (.c g (.v 15 (.rd [.int .i64,.int .i64] f rfl) .nil))) i
theorem VZ {nt:Nat} (b:19≤nt) (ks vs:List AV) (L0 L:List Cl) (n:Nat):
  ah prog ap (dH ks vs L0) nt (af 0 (ag f100)) (KQ ks vs n L n) (.exit 0) ⟨[],[(0,cB L),(1,⟨[.mr 2 0],0,false,0,0,false⟩),(2,⟨[.agg ks,.agg vs],0,false,0,4611686018427387904,true⟩)],.dead,[]⟩:=by
 have a:(decide ((n:Int)<(n:Int)))=false:=kn (Nat.le_refl _)
 exact pN 100 [] 1 0 (.c (aT a) .nil) .nil b
def KO (kp:Cl→Bool):List Cl→Nat→Option Nat
 | [],_=>none
 |x::r,k=>if kp x then KO kp r (k+1) else some k
def ixE:Option Nat→bf
 |none=> .exit 0
 |some _=> .ret
def VY (ks vs:List AV) (L:List Cl):Option Nat→St
 |none=> ⟨[],[(0,cB L),(1,⟨[.mr 2 0],0,false,0,0,false⟩),(2,⟨[.agg ks,.agg vs],0,false,0,4611686018427387904,true⟩)],.dead,[]⟩
 |some k=> ⟨[(4,.int .i64 (k:Int))],[(0,cB L),(1,⟨[.mr 2 0],0,false,0,0,false⟩),(2,⟨[.agg ks,.agg vs],0,false,0,4611686018427387904,true⟩)],.dead,[]⟩
theorem Ht {nt:Nat} (c:19≤nt) (ks vs:List AV) (a:Cl→Bool) (d:∀ x,ae prog ap 58 [cA x,.ptr 0 0 0] [⟨[.mr 1 0],0,false,0,0,false⟩,⟨[.agg ks,.agg vs],0,false,0,4611686018427387904,true⟩] (.ret (.bool (!(a x)))) [⟨[.mr 1 0],0,false,0,0,false⟩,⟨[.agg ks,.agg vs],0,false,0,4611686018427387904,true⟩]) (L:List Cl) (n:Nat) (hs:L.length=n) (e:n<2^40):∀ (r p:List Cl),p++r=L→
  aQ prog ap (dH ks vs L) nt (af 0 (ag f100)) ixE (fun k:Nat=>KQ ks vs n L k) (VY ks vs L) p.length (KO a r p.length)
 | [],p,h=>by
  have hp:p.length=n:=by rw [← hs,← h];simp
  rw [hp]
  exact .done (VZ c ks vs L L n)
 | x::r,p,h=>by
  unfold KO
  cases f:a x with
  |true=>
   rw [if_pos rfl]
   have b:=V3 c ks vs a d L p r x n (by rw [h];exact hs) e f
   rw [h] at b
   refine .next (a':=p.length+1) b ?_
   have g:=Ht c ks vs a d L n hs e r (p++ [x]) (by rw [← h];simp)
   simpa using g
  |false=>
   rw [if_neg (by simp)]
   have b:=SY c ks vs a d L p r x n (by rw [h];exact hs) e f
   rw [h] at b
   exact .done b
theorem yF (b:Cl→Bool):∀ (r p:List Cl),match KO b r p.length with
  |none=> ∀ x ∈ r,b x=true
  |some i=> ∃ q x t,r=q++x::t∧i=p.length+q.length∧(∀ y ∈ q,b y=true)∧b x=false
 | [],p=>by simp [KO]
 | x::r,p=>by
  unfold KO
  cases c:b x with
  | true=>
   simp only [if_true]
   have h:=yF b r (p++ [x])
   rw [show (p++ [x]).length=p.length+1 by simp] at h
   cases d:KO b r (p.length+1) with
   |none=>
    rw [d] at h
    intro y a
    rcases List.mem_cons.1 a with rfl|a
    ·exact c
    ·exact h y a
   |some i=>
    rw [d] at h
    obtain ⟨q,z,t,g,e,f,j⟩:=h
    refine ⟨x::q,z,t,by rw [g];rfl,by rw [e];simp;omega,fun y a=> ?_,j⟩
    rcases List.mem_cons.1 a with rfl|a
    ·exact c
    ·exact f y a
  |false=>exact ⟨[],x,r,rfl,by simp,(fun y a=>(by cases a)),c⟩
theorem V4 (ks vs:List AV) (c:Cl→Bool) (f:∀ x,ae prog ap 58 [cA x,.ptr 0 0 0] [⟨[.mr 1 0],0,false,0,0,false⟩,⟨[.agg ks,.agg vs],0,false,0,4611686018427387904,true⟩] (.ret (.bool (!(c x)))) [⟨[.mr 1 0],0,false,0,0,false⟩,⟨[.agg ks,.agg vs],0,false,0,4611686018427387904,true⟩]) (L:List Cl) (g:L.length<2^40):ae prog ap 100 [.ref 0 0 0 L.length,.fn 58 [] [.ptr 1 0 0]] (dH ks vs L) (.ret (.int .i64 (match KO c L 0 with|none=> -1|some k=>(k:Int)))) (dH ks vs L):=by
 have hloop:=fun nt (hn:19≤nt)=>Ht hn ks vs c f L L.length rfl g L [] rfl
 cases e:KO c L 0 with
 |none=>
  rw [List.length_nil,e] at hloop
  have b:=aQ.blk (id:=0) (e':= .normal) (s:=KQ ks vs L.length L 0) (s':=VY ks vs L none) hloop (by simp [ixE]) rfl (aG.refl _) (aG.refl _)
  unfold KQ VY at b
  generalize L.length=n at*
  have d:aK prog ap (dH ks vs L) 19 (.block 0 (.loop (af 0 (ag f100)))) ⟨[(0,.ref 0 0 0 n),(1,.fn 58 [] [.ptr 1 0 0]),(4,.int .i64 0),(5,.dead),(7,.int .i64 (n:Int)),(8,.int .i64 0),(9,.dead),(16,.dead)],[(0,⟨(cL L),0,false,0,2,true⟩),(1,⟨[.mr 2 0],0,false,0,0,false⟩),(2,⟨[.agg ks,.agg vs],0,false,0,4611686018427387904,true⟩)],.dead,[]⟩ (.normal) ⟨[],[(0,⟨(cL L),0,false,0,2,true⟩),(1,⟨[.mr 2 0],0,false,0,0,false⟩),(2,⟨[.agg ks,.agg vs],0,false,0,4611686018427387904,true⟩)],.dead,[]⟩:=(fun nt a=>(b nt a).weak (aG.of ⟨rfl,rfl,rfl,rfl,trivial⟩) (aG.refl _))
  exact pK [0] 0 0 .nil (.l d .nil)
 |some k=>
  rw [List.length_nil,e] at hloop
  have b:=aQ.blk (id:=0) (e':= .ret) (s:=KQ ks vs L.length L 0) (s':=VY ks vs L (some k)) hloop (by simp [ixE]) rfl (aG.refl _) (aG.refl _)
  unfold KQ VY at b
  generalize L.length=n at*
  have d:aK prog ap (dH ks vs L) 19 (.block 0 (.loop (af 0 (ag f100)))) ⟨[(0,.ref 0 0 0 n),(1,.fn 58 [] [.ptr 1 0 0]),(4,.int .i64 0),(5,.dead),(7,.int .i64 (n:Int)),(8,.int .i64 0),(9,.dead),(16,.dead)],[(0,⟨(cL L),0,false,0,2,true⟩),(1,⟨[.mr 2 0],0,false,0,0,false⟩),(2,⟨[.agg ks,.agg vs],0,false,0,4611686018427387904,true⟩)],.dead,[]⟩ (.ret) ⟨[(4,.int .i64 (k:Int))],[(0,⟨(cL L),0,false,0,2,true⟩),(1,⟨[.mr 2 0],0,false,0,0,false⟩),(2,⟨[.agg ks,.agg vs],0,false,0,4611686018427387904,true⟩)],.dead,[]⟩:=(fun nt a=>(b nt a).weak (aG.of ⟨rfl,rfl,rfl,rfl,trivial⟩) (aG.refl _))
  exact pK [0] 0 0 .nil (.l d .nil)
def N9 (ks vs:List AV) (n k j:Nat) (L:List Cl):St:=⟨[(0,.ref 0 0 0 n),(1,.fn 58 [] [.ptr 1 0 0]),(5,.int .i64 (k:Int)),(6,.int .i64 (j:Int))],[(0,⟨(cL L),0,false,0,2,true⟩),(1,⟨[.mr 2 0],0,false,0,0,false⟩),(2,⟨[.agg ks,.agg vs],0,false,0,4611686018427387904,true⟩)],.dead,[]⟩
theorem UK {nt:Nat} (D:42≤nt) (ks vs:List AV) (c:Cl→Bool) (C:∀ x,ae prog ap 58 [cA x,.ptr 0 0 0] [⟨[.mr 1 0],0,false,0,0,false⟩,⟨[.agg ks,.agg vs],0,false,0,4611686018427387904,true⟩] (.ret (.bool (!(c x)))) [⟨[.mr 1 0],0,false,0,0,false⟩,⟨[.agg ks,.agg vs],0,false,0,4611686018427387904,true⟩]) (L0 A G r:List Cl) (y:Cl) (n j:Nat) (t:0<G.length) (hs:(A++G++y::r).length=n) (J:n<2^40) (F:A.length+G.length=j) (h:c y=true):
  ah prog ap (dH ks vs L0) nt (af 0 (ag f57)) (N9 ks vs n A.length j (A++G++y::r)) .normal (N9 ks vs n (A++ [y]).length (j+1) ((A++ [y])++(G.tail++ [y])++r)):=by
 have q:List.take ((0+(Int.toNat (A.length:Int)))*2) (cL (A++G++y::r))++cC y++List.drop (((0+(Int.toNat (A.length:Int)))*2)+2) (cL (A++G++y::r))=cL ((A++ [y])++(G.tail++ [y])++r):=by
  obtain ⟨g,G',rfl⟩:=List.exists_cons_of_length_pos t
  have:=M_ (L:=A++(g::G')++y::r) (p:=A) (x:=g) (r:=G'++y::r) (z:=y) (by simp);simpa using this
 have b:(A++G).length=j:=by simp;omega
 have s:(List.drop ((0+(Int.toNat (j:Int)))*2) (cL (A++G++y::r)))=cC y++cL r:=by
  rw [← b];exact nI (L:=A++G++y::r) (p:=A++G) (x:=y) (r:=r) rfl
 have a:(cL (A++G++y::r)).length=n*2:=by rw [bH,hs]
 have I:A.length+G.length+1+r.length=n:=by rw [← hs];simp;omega
 have H:j<2^62:=by omega
 have E:A.length<2^62:=by omega
 have u:(decide ((j:Int)<(n:Int)))=true:=kl (by omega)
 have v:=C y
 have l:(!(c y))=false:=by rw [h];rfl
 have e:(A++ [y]).length=A.length+1:=by simp
 have B:A.length<n:=by omega
 unfold N9
 rw [e,← q]
 clear q e hs b
 generalize K:A++G++y::r=L at*
 generalize A.length=k at*
 generalize c y=kx at*
 have f:(Nat.ble (((0+(Int.toNat (k:Int)))*2)+2) (List.length (cL L)))=true:=(ug (kY a (by omega)))
 have m:(decide (((0:Nat):Int)≤(k:Int)))=true:=(k0 _)
 have i:(decide ((k:Int)<(n:Int)))=true:=(kl (by omega))
 have o:(decide (((0:Nat):Int)≤(j:Int)))=true:=(k0 _)
 have d:(decide ((j:Int)<(n:Int)))=true:=(kl (by omega))
 exact pN 57 [] 2 3 (.c f (.c m (.c i (.k 2 (oz l) (.n 3 (.a (eU [.int .i64,.int .i64] s rfl) (.c o (.c d (.c (aN u) .nil))))))))) (.v 21 (.eq (wpS H)) (.v 35 (.eq (wpS E)) (.c v (.v 25 (.rd [.int .i64,.int .i64] s rfl) .nil)))) D
theorem UL {nt:Nat} (m:42≤nt) (ks vs:List AV) (b:Cl→Bool) (l:∀ x,ae prog ap 58 [cA x,.ptr 0 0 0] [⟨[.mr 1 0],0,false,0,0,false⟩,⟨[.agg ks,.agg vs],0,false,0,4611686018427387904,true⟩] (.ret (.bool (!(b x)))) [⟨[.mr 1 0],0,false,0,0,false⟩,⟨[.agg ks,.agg vs],0,false,0,4611686018427387904,true⟩]) (L0 A G r:List Cl) (y:Cl) (n j:Nat) (hs:(A++G++y::r).length=n) (u:n<2^40) (o:A.length+G.length=j) (e:b y=false):
  ah prog ap (dH ks vs L0) nt (af 0 (ag f57)) (N9 ks vs n A.length j (A++G++y::r)) .normal (N9 ks vs n A.length (j+1) (A++G++y::r)):=by
 have a:(A++G).length=j:=by simp;omega
 have h:(List.drop ((0+(Int.toNat (j:Int)))*2) (cL (A++G++y::r)))=cC y++cL r:=by
  rw [← a];exact nI (L:=A++G++y::r) (p:=A++G) (x:=y) (r:=r) rfl
 have g:(cL (A++G++y::r)).length=n*2:=by rw [bH,hs]
 have t:A.length+G.length+1+r.length=n:=by rw [← hs];simp;omega
 have q:j<2^62:=by omega
 have z:A.length<2^62:=by omega
 have s:(decide ((j:Int)<(n:Int)))=true:=kl (by omega)
 have i:=l y
 have d:(!(b y))=true:=by rw [e];rfl
 unfold N9
 clear hs a
 generalize v:A++G++y::r=L at*
 generalize A.length=k at*
 generalize b y=kx at*
 have c:(decide (((0:Nat):Int)≤(j:Int)))=true:=(k0 _)
 have f:(decide ((j:Int)<(n:Int)))=true:=(kl (by omega))
 exact pN 57 [] 2 1 (.c (gY d) (.n 3 (.a (eU [.int .i64,.int .i64] h rfl) (.c c (.c f (.c (aN s) .nil)))))) (.v 21 (.eq (wpS q)) (.c i (.v 25 (.rd [.int .i64,.int .i64] h rfl) .nil))) m
theorem UJ {nt:Nat} (b:42≤nt) (ks vs:List AV) (L0 L:List Cl) (n k:Nat):
  ah prog ap (dH ks vs L0) nt (af 0 (ag f57)) (N9 ks vs n k n L) (.exit 0) ⟨[(0,.ref 0 0 0 n),(5,.int .i64 (k:Int))],[(0,⟨(cL L),0,false,0,2,true⟩),(1,⟨[.mr 2 0],0,false,0,0,false⟩),(2,⟨[.agg ks,.agg vs],0,false,0,4611686018427387904,true⟩)],.dead,[]⟩:=by
 have a:(decide ((n:Int)<(n:Int)))=false:=kn (Nat.le_refl _)
 exact pN 57 [] 1 0 (.c (aT a) .nil) .nil b
def IQ (kp:Cl→Bool):List Cl→List Cl→List Cl→List Cl × List Cl
 |A,G,[]=>(A,G)
 |A,G,y::r=>if kp y then IQ kp (A++ [y]) (G.tail++ [y]) r else IQ kp A (G++ [y]) r
theorem BX (a:Cl→Bool):∀ (r A G:List Cl),(IQ a A G r).1=A++r.filter a
 | [],A,G=>by simp [IQ]
 |y::r,A,G=>by
  unfold IQ
  cases h:a y with
  |true=>rw [if_pos rfl,BX a r];simp [h]
  |false=>rw [if_neg (by simp),BX a r];simp [h]
theorem wU (a:Cl→Bool):∀ (r A:List Cl) (g:Cl) (G:List Cl),(IQ a A (g::G) r).1.length+(IQ a A (g::G) r).2.length=A.length+(g::G).length+r.length
 | [],A,g,G=>by simp [IQ]
 | y::r,A,g,G=>by
  unfold IQ
  cases h:a y with
  |true=>
   rw [if_pos rfl]
   cases G with
   |nil=>rw [List.tail_cons,List.nil_append,wU a r];simp;omega
   |cons g2 G=>rw [List.tail_cons,List.cons_append,wU a r];simp;omega
  |false=>rw [if_neg (by simp),List.cons_append,wU a r];simp;omega
theorem wV {nt:Nat} (b:42≤nt) (ks vs:List AV) (a:Cl→Bool) (c:∀ x,ae prog ap 58 [cA x,.ptr 0 0 0] [⟨[.mr 1 0],0,false,0,0,false⟩,⟨[.agg ks,.agg vs],0,false,0,4611686018427387904,true⟩] (.ret (.bool (!(a x)))) [⟨[.mr 1 0],0,false,0,0,false⟩,⟨[.agg ks,.agg vs],0,false,0,4611686018427387904,true⟩]) (L0:List Cl) (n:Nat) (d:n<2^40):∀ (r A:List Cl) (g:Cl) (G:List Cl) (j:Nat),(A++(g::G)++r).length=n→A.length+(g::G).length=j→
  aQ prog ap (dH ks vs L0) nt (af 0 (ag f57)) (fun _=> .exit 0) (fun p:List Cl × List Cl × List Cl × Nat=>N9 ks vs n p.1.length p.2.2.2 (p.1++p.2.1++p.2.2.1)) (fun p:List Cl × List Cl=> ⟨[(0,.ref 0 0 0 n),(5,.int .i64 (p.1.length:Int))],[(0,⟨(cL (p.1++p.2)),0,false,0,2,true⟩),(1,⟨[.mr 2 0],0,false,0,0,false⟩),(2,⟨[.agg ks,.agg vs],0,false,0,4611686018427387904,true⟩)],.dead,[]⟩) (A,g::G,r,j) (IQ a A (g::G) r)
 | [],A,g,G,j,hs,hj=>by
  refine .done ?_
  have e:j=n:=by rw [← hs,← hj];simp
  subst e
  have:=UJ b ks vs L0 (A++(g::G)++ []) j A.length
  simpa [IQ] using this
 | y::r,A,g,G,j,hs,hj=>by
  unfold IQ
  cases h:a y with
  | true=>
   rw [if_pos rfl]
   have f:=UK b ks vs a c L0 A (g::G) r y n j (by simp) hs d hj h
   cases G with
   |nil=>
    refine .next (a':=(A++ [y],[y],r,j+1)) f (wV b ks vs a c L0 n d r (A++ [y]) y [] (j+1) ?_ ?_)
    ·simp at hs ⊢;omega
    ·simp at hj ⊢;omega
   |cons g2 G=>
    refine .next (a':=(A++ [y],g2::G++ [y],r,j+1)) f (wV b ks vs a c L0 n d r (A++ [y]) g2 (G++ [y]) (j+1) ?_ ?_)
    ·simp at hs ⊢;omega
    ·simp at hj ⊢;omega
  | false=>
   rw [if_neg (by simp)]
   refine .next (a':=(A,g::G++ [y],r,j+1)) ?_ (wV b ks vs a c L0 n d r A g (G++ [y]) (j+1) ?_ ?_)
   ·have:=UL b ks vs a c L0 A (g::G) r y n j hs d hj h
    simpa using this
   ·simp at hs ⊢;omega
   ·simp at hj ⊢;omega
theorem KP {a:Cl→Bool} {L:List Cl} (h:KO a L 0=none):L.filter a=L:=by
 have:=yF a L []
 rw [List.length_nil,h] at this
 exact List.filter_eq_self.2 this
theorem Sr (ks vs:List AV) (a:Cl→Bool) (z:∀ x,ae prog ap 58 [cA x,.ptr 0 0 0] [⟨[.mr 1 0],0,false,0,0,false⟩,⟨[.agg ks,.agg vs],0,false,0,4611686018427387904,true⟩] (.ret (.bool (!(a x)))) [⟨[.mr 1 0],0,false,0,0,false⟩,⟨[.agg ks,.agg vs],0,false,0,4611686018427387904,true⟩]) (L:List Cl) (D:L.length<2^40):ae prog ap 57 [.ref 0 0 0 L.length,.fn 58 [] [.ptr 1 0 0]] (dH ks vs L) (.ret (.ref 0 0 0 (L.filter a).length)) [⟨cL (L.filter a)++Dt (L.length - (L.filter a).length),0,false,0,2,true⟩,⟨[.mr 2 0],0,false,0,0,false⟩,⟨[.agg ks,.agg vs],0,false,0,4611686018427387904,true⟩]:=by
 have h:=V4 ks vs a z L D
 have e:=yF a L []
 rw [List.length_nil] at e
 cases c:KO a L 0 with
 |none=>
  rw [KP c,Nat.sub_self,Iz]
  rw [c] at h
  have C:((-1)==(-1:Int))=true:=by decide
  generalize L.length=n at*
  exact pK [0] 1 1 (.c (aN C) .nil) (.c h .nil)
 | some i=>
  rw [c] at h e
  simp only at h
  obtain ⟨q,x,t,j,b,E,G⟩:=e
  rw [Nat.zero_add] at b
  have F:L.filter a=q++t.filter a:=by
   rw [j,List.filter_append,List.filter_cons,G,List.filter_eq_self.2 E];rfl
  have hloop:=fun nt (hn:42≤nt)=>wV hn ks vs a z L L.length D t q x [] (i+1) (by rw [j];simp) (by rw [b];rfl)
  have r:=aQ.blk (id:=0) (e':= .normal) hloop (by simp) rfl (aG.refl _) (aG.refl _)
  have p:=BX a t q [x]
  have s:=wU a t q x []
  rw [F,← p]
  have l:q++ [x]++t=L:=by rw [j];simp
  have m:q.length+1+t.length=L.length:=by rw [j];simp;omega
  simp only [l,← b] at r
  simp only [List.length_cons,List.length_nil,Nat.zero_add,m] at s
  generalize IQ a q [x] t=RR at*
  obtain ⟨A,B⟩:=RR
  simp only at r s ⊢
  have N:i<2^62:=by omega
  have hlen2:(cL (A++B)).length=L.length*2:=by rw [bH,List.length_append,s]
  have d:List.take ((0+(Int.toNat (A.length:Int)))*2) (cL (A++B))++(fK ((Int.toNat (L.length:Int)) - (Int.toNat (A.length:Int))) [.int .i64 0,.int .i64 0])++List.drop (((0+(Int.toNat (A.length:Int)))*2)+(List.length (fK ((Int.toNat (L.length:Int)) - (Int.toNat (A.length:Int))) [.int .i64 0,.int .i64 0]))) (cL (A++B))=cL A++Dt (L.length - A.length):=by
   rw [fD,fD,Nat.zero_add]
   have p:(cL A).length=A.length*2:=bH A
   have M:cL (A++B)=cL A++cL B:=by simp [cL]
   have I:(fK (L.length - A.length) [AV.int .i64 0,AV.int .i64 0]).length=(L.length - A.length)*2:=IA _
   rw [I,M,List.take_left' p,List.drop_eq_nil_of_le (by rw [List.length_append,bH,bH];omega),List.append_nil]
   rfl
  rw [← d]
  have C:((i:Int)==(-1:Int))=false:=by simp
  have H:A.length≤L.length:=by omega
  unfold N9 at r
  clear d F p j l m s hloop c z E G b
  generalize L.length=n at*
  generalize J:A++B=L2 at*
  generalize A.length=k at*
  have K:aK prog ap (dH ks vs L) 42 (.block 0 (.loop (af 0 (ag f57)))) ⟨[(0,.ref 0 0 0 n),(1,.fn 58 [] [.ptr 1 0 0]),(4,.nilS),(5,.int .i64 (i:Int)),(6,.int .i64 (((i+1):Nat):Int)),(7,.dead),(12,.bool ((i:Int)==(-1:Int))),(19,.dead),(29,.dead)],[(0,⟨(cL L),0,false,0,2,true⟩),(1,⟨[.mr 2 0],0,false,0,0,false⟩),(2,⟨[.agg ks,.agg vs],0,false,0,4611686018427387904,true⟩)],.dead,[]⟩ (.normal) ⟨[(0,.ref 0 0 0 n),(5,.int .i64 (k:Int))],[(0,⟨(cL L2),0,false,0,2,true⟩),(1,⟨[.mr 2 0],0,false,0,0,false⟩),(2,⟨[.agg ks,.agg vs],0,false,0,4611686018427387904,true⟩)],.dead,[]⟩:=(fun nt v=>(r nt v).weak (aG.of ⟨rfl,rfl,rfl,rfl,trivial⟩) (aG.refl _))
  have o:AV.ref 0 0 0 ((Int.toNat (k:Int)) - 0)= .ref 0 0 0 k:=rfl
  have g:(decide (((0:Nat):Int)≤(k:Int)))=true:=(k0 _)
  have f:(decide ((k:Int)≤(n:Int)))=true:=(decide_eq_true (by omega))
  have u:(Nat.ble (((0+(Int.toNat (k:Int)))*2)+(((Int.toNat (n:Int)) - (Int.toNat (k:Int)))*2)) (List.length (cL L2)))=true:=(ug (kY hlen2 (by omega)))
  have y:(decide ((n:Int)≤(n:Int)))=true:=(decide_eq_true (by omega))
  exact pK [0] 1 0 (.k 1 g (.c f (.c u (.c g (.c f (.c y (.c (aT C) .nil))))))) (.v 41 (.eq o) (.l K (.v 15 (.eq (wpS N)) (.c h .nil))))
end Go.Proofs.Tryz
set_option maxRecDepth 100000
set_option linter.unusedVariables false
open Go AM
open Go.ChangeMaps (setBlock)
namespace Go.Proofs.Tryz
def mk (d:Option Nat) (p:Op) (s:Oper):Oper:={s with dst:=d,op:=p,guard:=none}
theorem zQ {P:Program} {ops:Array Oper} {rest:List Oper} {s:Oper} {a:Act} {w w':World} {Q:Exit→Act→World→Prop} {d:Nat} {p:Op} {v:Value} (c:(execOp a.eval (mk (some d) p s)).run P w= .ok (.value v) w') (h:wpList P ops Q rest (a.put (some d) v) w'):wpList P ops Q (mk (some d) p s::rest) a w:=
 wpList_plain rfl fun K b=>by unfold Oper.wp;rw [c];exact b _ _ h
theorem mku {P:Program} {ops:Array Oper} {rest:List Oper} {s:Oper} {a:Act} {w w':World} {Q:Exit→Act→World→Prop} {p:Op} (c:(execOp a.eval (mk none p s)).run P w= .ok .skip w') (h:wpList P ops Q rest a w'):wpList P ops Q (mk none p s::rest) a w:=
 wpList_plain rfl fun K b=>by unfold Oper.wp;rw [c];exact b _ _ h
theorem aY {a:Act} {d t:Nat} {v:Value} (b:d<a.tmps.size):(a.put (some d) v).eval (.tmp t)=if t=d then v else a.eval (.tmp t):=by
 by_cases e:t=d
 ·subst e;rw [if_pos rfl];exact bT a t v b
 ·rw [if_neg e];exact iV a (some d) v (by simpa using fun h=>e h.symm)
structure Ka (dl:List Nat) (a0 a:Act):Prop where
 size:a.tmps.size=a0.tmps.size
 dfs:a.defers=a0.defers
 get:∀ t,t ∉ dl→a.eval (.tmp t)=a0.eval (.tmp t)
theorem Ka.refl (b:List Nat) (a:Act):Ka b a a:=⟨rfl,rfl,fun _ _=>rfl⟩
theorem Ka.put {b:List Nat} {f a:Act} {d:Nat} {v:Value} (h:Ka b f a) (g:d ∈ b):Ka b f (a.put (some d) v):=
 ⟨by rw [aA];exact h.size,by rw [jU];exact h.dfs,fun t c=>by
  have e:t ≠ d:=fun e=>c (e ▸ g)
  rw [show (a.put (some d) v).eval (.tmp t)=a.eval (.tmp t) from iV a (some d) v (by simpa using fun h=>e h.symm)]
  exact h.get t c⟩
theorem Ka.trans {e:List Nat} {a b c:Act} (h:Ka e a b) (d:Ka e b c):Ka e a c:=⟨d.size.trans h.size,d.dfs.trans h.dfs,fun t f=>(d.get t f).trans (h.get t f)⟩
structure Kp (base um:Nat) (w0 w:World):Prop where
 os:w.os=w0.os
 tape:w.tape=w0.tape
 output:w.output=w0.output
 size:w0.heap.size≤w.heap.size
 blk:∀ k,k<base→k ≠ um→w.heap[k]? =w0.heap[k]?
theorem Kp.refl (base a:Nat) (w:World):Kp base a w w:=⟨rfl,rfl,rfl,Nat.le_refl _,fun _ _ _=>rfl⟩
theorem Kp.trans {base e:Nat} {a b c:World} (h:Kp base e a b) (d:Kp base e b c):Kp base e a c:=⟨d.os.trans h.os,d.tape.trans h.tape,d.output.trans h.output,Nat.le_trans h.size d.size,fun k g f=>(d.blk k g f).trans (h.blk k g f)⟩
theorem Kp.grown {base a:Nat} {w w':World} {row:Option Nat} (d:base≤w.heap.size) (h:w.grownBy w' row) (b:∀ k,row=some k→k=a∨base≤k):Kp base a w w':=
 ⟨h.os,h.tape,h.output,h.size,fun k c f=>h.block k (by omega) fun e=>by rcases b k e.symm with e1|e1<;>omega⟩
structure Lo (g:bD) (m:aF) (S:ay) (base um:Nat):Prop where
 blk:∀ k,base≤k∨k=um→∀ b B,g b=some B→(m b).1 ≠ k
 clr:∀ k,base≤k∨k=um→∀ o,S k o=none
theorem Lo.fr {env:dF} {hp:Hp} {nt:Nat} {m:aF} {S:ay} {w0 w:World} {j a:Act} {base i:Nat} {c:List Nat} (l:Lo (AM.ai hp) m S base i) (n:FR ap env hp [] nt m S w0 j) (o:Kp base i w0 w) (g:Ka c j a) (p:∀ d ∈ c,env.get d= .dead):FR ap env hp [] nt m S w a:=by
 have b:=n.other (w':=w) fun k f=>by
  by_cases h:base≤k∨k=i
  ·exact .inr ⟨f,l.blk k h,l.clr k h⟩
  ·exact .inl (o.blk k (by omega) (by omega))
 refine ⟨b.srel,fun t=> ?_, ?_,g.size.trans b.size⟩
 ·by_cases ht:t ∈ c
  ·rw [p t ht];simp [VR]
  ·have:=g.get t ht
   have e:a.tmps.getD t undef=j.tmps.getD t undef:=this
   rw [e];exact b.env t
 ·rw [g.dfs];exact b.dfs
theorem Lo.frame {hp:Hp} {h0:List aJ} {m0 m:aF} {S0 S:ay} {w0 w w':World} {base c:Nat} (f:Lo (AM.ai hp) m S base c) (h:Fr (aC h0) m0 S0 w0 (AM.ai hp) m S w) (a:Kp base c w w') (i:w0.heap.size≤c) (l:w0.heap.size≤base):Fr (aC h0) m0 S0 w0 (AM.ai hp) m S w':=
 h.other a.size a.os a.tape a.output (fun k j=>a.blk k (by omega) (by omega)) fun b B g=>a.blk _ (by
  refine Nat.lt_of_not_le fun d=>f.blk _ (.inl d) b B g rfl) fun e=>f.blk _ (.inr e) b B g rfl
theorem Zw:ap.tyAt 25=some ⟨.struct [(0,3,1),(1,3,1)],2,16,[.int .i64 0,.int .i64 0],[.int .i64,.int .i64],true⟩:=by kernel_rfl
theorem abw:ap.tyAt 35=some ⟨.slice 25,1,24,[.nilS],[.sl],false⟩:=by kernel_rfl
theorem Zx:ap.tyAt 95=some ⟨.map 25 35,1,8,[.mp [] []],[.oth],false⟩:=by kernel_rfl
theorem O9:prog.underlying 35=some (.slice 25):=by kernel_rfl
theorem abx:prog.underlying 95=some (.map 25 35):=by kernel_rfl
theorem KN:∃ i,prog.info? 25=some i∧i.zero=some (.agg #[.int .i64 0,.int .i64 0])∧i.size=2∧i.bytes=16:=by
 have h:(prog.info? 25).map (fun i=>(i.zero,i.size,i.bytes))=some (some (.agg #[.int .i64 0,.int .i64 0]),2,16):=by kernel_rfl
 cases a:prog.info? 25 with
 |none=>rw [a] at h;cases h
 |some i=>
  rw [a] at h
  simp only [Option.map_some,Option.some.injEq,Prod.mk.injEq] at h
  exact ⟨i,rfl,h.1,h.2.1,h.2.2⟩
theorem abf:∃ i,prog.info? 35=some i∧i.zero=some (.slice none 0 0):=by
 have h:(prog.info? 35).map (fun i=>i.zero)=some (some (.slice none 0 0)):=by kernel_rfl
 cases a:prog.info? 35 with
 |none=>rw [a] at h;cases h
 |some i=>
  rw [a] at h
  simp only [Option.map_some,Option.some.injEq] at h
  exact ⟨i,rfl,h⟩
section
variable {w:World}
theorem Ie:(Instr.alloc 25 true (.tuple #[])).run prog w= .ok (.pointer (some ⟨w.heap.size,0,none⟩)) (w.alloc (.cells #[.int .i64 0,.int .i64 0] 25)):=by
 obtain ⟨i,b,a,c,_⟩:=KN
 simp [Instr.alloc,zeroValue,typeInfo,b,a,newVar,newRow,Value.cells]
theorem Ig {k:Nat} {cur:Array Value} (f:w.heap[k]? =some (.cells cur 25 (0,0))) (hs:cur.size=2) (c:Cl):(Instr.storeAt 25 (.pointer (some ⟨k,0,none⟩)) (cV c)).run prog w= .ok () (w.setRow k (cU c).toArray):=by
 obtain ⟨i,d,g,b,_⟩:=KN
 have a:=run_storeCells_at prog k 0 25 (cU c) 0 cur w f (by simp [cU,hs]) (Fv c)
 have e:(cur.toList.take (0+0)++cU c++cur.toList.drop (0+0+(cU c).length)).toArray=(cU c).toArray:=by
  have:cur.toList.drop 2= []:=List.drop_eq_nil_of_le (by simp [hs])
  simp [cU,this]
 rw [e] at a
 simp [Instr.storeAt,Instr.sureAddr,storeVar,Go.sizeOf,typeInfo,d,b,cV,Value.cells,a]
 simp [cU] at a ⊢
theorem Di (a:dn prog ap) {k o:Nat} {c:Cl} (h:∀ j u,(cU c)[j]? =some u→w.cell? ⟨k,o+j,none⟩=some u):(Instr.loadAt 25 (.pointer (some ⟨k,o,none⟩))).run prog w= .ok (cV c) w:=by
 obtain ⟨i,d,z,e⟩:=bJ a Zw
 obtain ⟨cv,f,b⟩:=mJ (g:=fun _=>none) (m:=fun _=>(0,0)) (S:=fun _ _=>none) (w:=w) e (us:=cU c) (cs:=cC c) rfl h (aX _ (Ff c)) (v:=cA c) rfl
 have:=Ak (xB _ b rfl)
 subst this
 simpa [Instr.loadAt,Instr.sureAddr] using f
end
end Go.Proofs.Tryz
set_option maxRecDepth 100000
set_option linter.unusedVariables false
open Go AM
namespace Go.Proofs.Tryz
def sZ:Code→List Oper
 | .region _ ops _=>ops.toList
 |_=> []
noncomputable def qE (p:List Nat) (k:Nat):Oper:=(sZ (cZ p (ag f22))).getD k default
abbrev pRd:List Nat:= [1,1,1,0,1,0,0]
abbrev JB:List Nat:= [1,1,1,0,1,0,0,1,1]
abbrev CX:List Nat:= [1,1,1,0,1,0,0,1,1,0,1,1,0,0]
noncomputable def GH:Code:= .block 3 (.seq
 (.region 8 #[mk (some 32) (.indexAddr 35 (.tmp 28) (.tmp 30)) (qE (CX++ [1,1,0,0,0]) 0),mk (some 33) (.load 25 (.tmp 32)) (qE (CX++ [1,1,0,0,0]) 1),mk (some 12) (.alloc 25) (qE (CX++ [1,1,0,0,0]) 2),mk none (.store 25 (.tmp 12) (.tmp 33)) (qE (CX++ [1,1,0,0,0]) 3)] false)
 (.region 9 #[mk (some 34) (.load 95 (.tmp 8)) (qE (CX++ [1,1,0,0,1]) 0),mk (some 35) (.load 25 (.tmp 12)) (qE (CX++ [1,1,0,0,1]) 1),mk (some 37) (.load 25 (.tmp 9)) (qE (CX++ [1,1,0,0,1]) 2),mk (some 38) (.buildSlice 35 1 #[(0,.tmp 37)]) (qE (CX++ [1,1,0,0,1]) 3),mk (some 39) (.mapEntry 95 (.tmp 34) (.tmp 35)) (qE (CX++ [1,1,0,0,1]) 4),mk (some 36) (.extract (.tmp 39) 0) (qE (CX++ [1,1,0,0,1]) 5),
  mk (some 40) (.call {callee:= .builtin .append,args:=#[.tmp 36,.tmp 38],argTypes:=#[35,35]}) (qE (CX++ [1,1,0,0,1]) 6),mk (some 41) (.extract (.tmp 39) 1) (qE (CX++ [1,1,0,0,1]) 7),mk none (.entryStore 95 (.tmp 34) (.tmp 41) (.tmp 40)) (qE (CX++ [1,1,0,0,1]) 8)] false))
noncomputable def Uh:Code:= .seq (.region 7 #[mk (some 31) (.binOp .lss 3 (.tmp 30) (.tmp 29) 3) (qE (CX++ [0]) 0)] false) (.seq (.cond (.tmp 31) .skip (.exit 2)) (.seq GH
 (.region 10 #[mk (some 42) (.binOp .add 3 (.tmp 30) (.const (.int .i64 1)) 3) (qE (CX++ [1,1,1]) 0),mk (some 30) (.move (.tmp 42)) (qE (CX++ [1,1,1]) 1)] false)))
theorem IM:cZ JB (ag f22)= .block 1 (.seq
 (.region 5 #[mk (some 25) (.entry (.tmp 22)) (qE (JB++ [0,0]) 0),mk (some 26) (.extract (.tmp 25) 0) (qE (JB++ [0,0]) 1),mk (some 27) (.extract (.tmp 25) 1) (qE (JB++ [0,0]) 2),mk (some 9) (.alloc 25) (qE (JB++ [0,0]) 3),mk none (.store 25 (.tmp 9) (.tmp 26)) (qE (JB++ [0,0]) 4),mk (some 10) (.assign (.tmp 27)) (qE (JB++ [0,0]) 5)] false)
 (.seq (.region 6 #[mk (some 28) (.move (.tmp 10)) (qE (JB++ [0,1,0]) 0),mk (some 29) (.call {callee:= .builtin .len,args:=#[.tmp 28],argTypes:=#[35]}) (qE (JB++ [0,1,0]) 1),mk (some 30) (.move (.const (.int .i64 0))) (qE (JB++ [0,1,0]) 2)] false)
  (.block 2 (.loop Uh)))):=by kernel_rfl
theorem JU:cZ [1,1,1,0] (ag f22)= .seq (.region 3 #[mk (some 21) (.move (.tmp 7)) (qE [1,1,1,0,0] 0),mk (some 22) (.range 95 (.tmp 21)) (qE [1,1,1,0,0] 1)] false)
 (.block 0 (.loop (.seq (.region 4 #[mk (some 23) (.next (.tmp 22) false) (qE (pRd++ [0]) 0),mk (some 24) (.extract (.tmp 23) 0) (qE (pRd++ [0]) 1)] false) (.seq (.cond (.tmp 24) .skip (.exit 0)) (cZ JB (ag f22)))))):=by kernel_rfl
end Go.Proofs.Tryz
set_option maxRecDepth 100000
set_option linter.unusedVariables false
open Go AM
open Go.ChangeMaps (setBlock)
namespace Go.Proofs.Tryz
abbrev DU:List Nat:= [9,10,12,25,26,27,28,29,30,31,32,33,34,35,36,37,38,39,40,41,42]
structure In (nt:Nat) (a:Act) (vv:Value) (n kU k9 k:Nat):Prop where
 sz:a.tmps.size=nt
 t8:a.eval (.tmp 8)= .pointer (some ⟨kU,0,none⟩)
 t9:a.eval (.tmp 9)= .pointer (some ⟨k9,0,none⟩)
 t28:a.eval (.tmp 28)=vv
 t29:a.eval (.tmp 29)= .int .i64 (n:Int)
 t30:a.eval (.tmp 30)= .int .i64 (k:Int)
structure Um (w:World) (base um kU k9:Nat) (c:Cl) (U:Ut) (bnd:Nat):Prop where
 u:w.cell? ⟨kU,0,none⟩=some (.map (some um))
 n:w.heap[k9]? =some (.cells (cU c).toArray 25 (0,0))
 t:wS w base 25 um k9 U bnd
 b:base≤w.heap.size
 lU:kU<base
 l9:base≤k9
 ne:kU ≠ um
def IE (w:World) (base um:Nat) (us:List Cl) (vv:Value):Prop:=∃ b o cap,vv= .slice (some ⟨b,o,none⟩) us.length cap∧b<base∧b ≠ um∧∀ k d,us[k]? =some d→∀ j u,(cU d)[j]? =some u→w.cell? ⟨b,o+k*2+j,none⟩=some u
theorem IE.kept {w w':World} {base e:Nat} {us:List Cl} {g:Value} (h:IE w base e us g) (n:Kp base e w w'):IE w' base e us g:=by
 obtain ⟨b,o,c,l,f,i,m⟩:=h
 exact ⟨b,o,c,l,f,i,fun k d q j u p=>by rw [World.cell?_of_block (w:=w) (a:=⟨b,_,none⟩) (n.blk b f i)];exact m k d q j u p⟩
theorem uj {w:World} {k j:Nat} {cur:Array Value} {e:TypeId} {u:Value} (h:w.heap[k]? =some (.cells cur e (0,0))) (a:cur.toList[j]? =some u):w.cell? ⟨k,0+j,none⟩=some u:=by
 rw [Nat.zero_add,iq h];exact a
theorem TC {w:World} {b o n a k:Nat} (f:k<n):(Instr.indexAt 35 (.slice (some ⟨b,o,none⟩) n a) (.int .i64 (k:Int))).run prog w= .ok (.pointer (some ⟨b,o+k*2,none⟩)) w:=by
 obtain ⟨i,d,g,c,_⟩:=KN
 have h0:¬ ((k:Int)<0):=by omega
 have e:(k:Int)<(n:Int):=by omega
 simp [Instr.indexAt,asIntOf,run_underlying O9,h0,e,f,Go.sizeOf,typeInfo,d,c,Addr.add_mid]
theorem OV {w:World} (e:dn prog ap) {k b:Nat} (h:w.cell? ⟨k,0,none⟩=some (.map (some b))):(Instr.loadAt 95 (.pointer (some ⟨k,0,none⟩))).run prog w= .ok (.map (some b)) w:=by
 obtain ⟨i,d,z,l⟩:=bJ e Zx
 obtain ⟨cv,n,f⟩:=mJ (g:=fun _=>none) (m:=fun _=>(0,0)) (S:=fun _ _=>none) (w:=w) l (us:= [.map (some b)]) (cs:= [.raw (.map (some b))]) (k:=k) (a:=0) rfl
  (fun j u c=>by
   match j,c with
   |0,c=>simp at c;subst c;exact h) (by simp [aO,VR,PR]) (v:= .raw (.map (some b))) rfl
 simp only [VR,PR] at f
 subst f
 simpa [Instr.loadAt,Instr.sureAddr] using n
theorem OW {w:World} (c:Cl):(Instr.buildSlice 35 1 #[(0,cV c)]).run prog w= .ok (.slice (some ⟨w.heap.size,0,none⟩) 1 1) (w.alloc (.cells (cU c).toArray 25)):=by
 obtain ⟨i,d,b,a,_⟩:=KN
 refine oL O9 d b (by rw [a];decide) (by rw [a];decide) ?_
 rw [a]
 have e:Array.range 2=#[0,1]:=rfl
 simp [Instr.fill,madeCells,cV,cU,Value.cells,e]
theorem KT (c:Cl):fE ⟨.struct [(0,3,1),(1,3,1)],2,16,[.int .i64 0,.int .i64 0],[.int .i64,.int .i64],true⟩ (cA c)=true:=rfl
theorem zF {w:World} {k:Nat} {cur a:Array Value} {e:TypeId} (h:w.heap[k]? =some (.cells cur e (0,0))):(w.setRow k a).heap[k]? =some (.cells a e (0,0)):=setRow_heap w k cur a e (0,0) h
theorem ZZ {n a:Nat} (h:n≤a) (c:a<2^40):n+1≤maxLen∧(n+1)*16≤140737488355328:=by
 have b:(2:Nat)^40=1099511627776:=by decide
 simp only [maxLen]
 omega
set_option maxHeartbeats 1000000 in
theorem Ot (F:dn prog ap) {nt:Nat} (hn:60≤nt) {w:World} {a:Act} {base C J k9:Nat} {c d:Cl} {U:Ut} {K:Nat} {us:List Cl} {vv:Value} {k:Nat} (hb:K<2^40) (hk:k<2^40) (hd:us[k]? =some d)
  (hI:In nt a vv us.length J k9 k) (hW:Um w base C J k9 c U K) (hS:IE w base C us vv) {Q:Exit→Act→World→Prop}
  (hQ:∀ a' w',In nt a' vv us.length J k9 (k+1)→Um w' base C J k9 c (iI U d c) (K+1)→Kp base C w w'→Ka DU a a'→Q .normal a' w'):
  (Code.seq GH (.region 10 #[mk (some 42) (.binOp .add 3 (.tmp 30) (.const (.int .i64 1)) 3) (qE (CX++ [1,1,1]) 0),mk (some 30) (.move (.tmp 42)) (qE (CX++ [1,1,1]) 1)] false)).wp prog Q a w:=by
 obtain ⟨b,o,Y,rfl,hbb,hbm,hcells⟩:=hS
 have hkl:k<us.length:=(List.getElem?_eq_some_iff.1 hd).1
 obtain ⟨i25,h251,h252,h253,h254⟩:=KN
 obtain ⟨i95,d95,z95,ht95⟩:=bJ F Zx
 obtain ⟨i35,d35,z35,L⟩:=bJ F abw
 have hd95:d95= .map 25 35:=Dp (by rw [← ht95.d_eq])
 subst hd95
 have hz35:z35= .slice none 0 0:=by
  obtain ⟨i,h1,h2⟩:=abf
  have:=L.info
  rw [h1] at this;cases this
  have:=L.zero
  rw [h2] at this;cases this;rfl
 have O:=hI.sz
 refine wp_seq ?_
 unfold GH
 refine wp_block (wp_seq (wp_region_list ?_))
 refine zQ (v:= .pointer (some ⟨b,o+k*2,none⟩)) (w':=w) ?_ ?_
 ·simp only [execOp,mk,hI.t28,hI.t30,Sem.run_bind,TC hkl,Result.andThen_ok,Sem.run_pure]
 have e32:=aY (a:=a) (d:=32) (t:=32) (v:= .pointer (some ⟨b,o+k*2,none⟩)) (by omega)
 rw [if_pos rfl] at e32
 refine zQ (v:=cV d) (w':=w) ?_ ?_
 ·simp only [execOp,mk,e32,Sem.run_bind,Di F (hcells k d hd),Result.andThen_ok,Sem.run_pure]
 refine zQ (v:= .pointer (some ⟨w.heap.size,0,none⟩)) (w':=w.alloc (.cells #[.int .i64 0,.int .i64 0] 25)) ?_ ?_
 ·simp only [execOp,mk,Sem.run_bind,Ie,Result.andThen_ok,Sem.run_pure]
 generalize Z:w.alloc (.cells #[.int .i64 0,.int .i64 0] 25)=w1
 have hn1:w1.heap[w.heap.size]? =some (.cells #[.int .i64 0,.int .i64 0] 25 (0,0)):=by rw [← Z];exact heap_alloc_new w _
 have M:w.grownBy w1 none:=by rw [← Z];exact World.grownBy_alloc w _ none
 have hz1:w1.heap.size=w.heap.size+1:=by rw [← Z];simp
 generalize z:((a.put (some 32) (.pointer (some ⟨b,o+k*2,none⟩))).put (some 33) (cV d)).put (some 12) (.pointer (some ⟨w.heap.size,0,none⟩))=a3
 have y:a3.tmps.size=nt:=by rw [← z];simp only [aA,O]
 have f12:a3.eval (.tmp 12)= .pointer (some ⟨w.heap.size,0,none⟩):=by rw [← z,aY (by simp only [aA];omega),if_pos rfl]
 have f33:a3.eval (.tmp 33)=cV d:=by rw [← z,aY (by simp only [aA];omega),if_neg (by decide),aY (by simp only [aA];omega),if_pos rfl]
 have N:Ka DU a a3:=by rw [← z];exact (((Ka.refl DU a).put (by decide)).put (by decide)).put (by decide)
 have f9:a3.eval (.tmp 9)= .pointer (some ⟨k9,0,none⟩):=by rw [← z];simp only [aY,aA,O,show (12:Nat)<nt by omega,show (33:Nat)<nt by omega,show (32:Nat)<nt by omega];simpa using hI.t9
 have f28:a3.eval (.tmp 28)= .slice (some ⟨b,o,none⟩) us.length Y:=by rw [← z];simp only [aY,aA,O,show (12:Nat)<nt by omega,show (33:Nat)<nt by omega,show (32:Nat)<nt by omega];simpa using hI.t28
 have f29:a3.eval (.tmp 29)= .int .i64 (us.length:Int):=by rw [← z];simp only [aY,aA,O,show (12:Nat)<nt by omega,show (33:Nat)<nt by omega,show (32:Nat)<nt by omega];simpa using hI.t29
 have f30:a3.eval (.tmp 30)= .int .i64 (k:Int):=by rw [← z];simp only [aY,aA,O,show (12:Nat)<nt by omega,show (33:Nat)<nt by omega,show (32:Nat)<nt by omega];simpa using hI.t30
 have f8:a3.eval (.tmp 8)= .pointer (some ⟨J,0,none⟩):=by rw [N.get 8 (by decide)];exact hI.t8
 clear z e32
 refine mku (w':=w1.setRow w.heap.size (cU d).toArray) ?_ ?_
 ·simp only [execOp,mk,f12,f33,Sem.run_bind,Ig hn1 rfl d,Result.andThen_ok,Sem.run_pure]
 generalize X:w1.setRow w.heap.size (cU d).toArray=w2
 have hn2:w2.heap[w.heap.size]? =some (.cells (cU d).toArray 25 (0,0)):=by rw [← X];exact zF hn1
 have hz2:w2.heap.size=w.heap.size+1:=by rw [← X];simpa using hz1
 have T:w.grownBy w2 none:=by
  rw [← X]
  exact ⟨M.os,M.tape,M.output,by simp;omega,fun q hq hne=>(setRow_other w1 w.heap.size q _ (by omega)).trans (M.block q hq hne)⟩
 clear Z X hn1 M hz1
 show (Code.region 9 _ false).wp prog _ _ _
 refine wp_region_list ?_
 have hkUl:J<w.heap.size:=by have:=hW.lU;have:=hW.b;omega
 have hk9l:k9<w.heap.size:=(Array.getElem?_eq_some_iff.1 hW.n).1
 have hu2:w2.cell? ⟨J,0,none⟩=some (.map (some C)):=(World.cell?_of_block (w:=w) (a:=⟨J,0,none⟩) (T.block J hkUl (by simp))).trans hW.u
 have hc2:w2.heap[k9]? =some (.cells (cU c).toArray 25 (0,0)):=(T.block k9 hk9l (by simp)).trans hW.n
 have hT2:wS w2 base 25 C k9 U K:=hW.t.kept T
 refine zQ (v:= .map (some C)) (w':=w2) ?_ ?_
 ·simp only [execOp,mk,f8,Sem.run_bind,OV F hu2,Result.andThen_ok,Sem.run_pure]
 refine zQ (v:=cV d) (w':=w2) ?_ ?_
 ·simp only [execOp,mk,aY,y,show (34:Nat)<nt by omega,show ¬ (12:Nat)=34 by decide,if_false,f12,Sem.run_bind,Di (o:=0) F (fun j u hj=>uj hn2 (by simpa using hj)),Result.andThen_ok,Sem.run_pure]
 refine zQ (v:=cV c) (w':=w2) ?_ ?_
 ·simp only [execOp,mk,aY,aA,y,show (34:Nat)<nt by omega,show (35:Nat)<nt by omega,show ¬ (9:Nat)=34 by decide,show ¬ (9:Nat)=35 by decide,if_false,f9,Sem.run_bind,Di (o:=0) F (fun j u hj=>uj hc2 (by simpa using hj)),Result.andThen_ok,Sem.run_pure]
 generalize n:((a3.put (some 34) (.map (some C))).put (some 35) (cV d)).put (some 37) (cV c)=a4
 have p:a4.tmps.size=nt:=by rw [← n];simp only [aA,y]
 have hka4:Ka DU a3 a4:=by rw [← n];exact (((Ka.refl DU a3).put (by decide)).put (by decide)).put (by decide)
 have x:(34:Nat)<nt:=by omega
 have s:(35:Nat)<nt:=by omega
 have r:(37:Nat)<nt:=by omega
 have g37:a4.eval (.tmp 37)=cV c:=by rw [← n,aY (by simp only [aA];omega),if_pos rfl]
 have g35:a4.eval (.tmp 35)=cV d:=by rw [← n];simp only [aY,aA,y,x,s,r];simp
 have g34:a4.eval (.tmp 34)= .map (some C):=by rw [← n];simp only [aY,aA,y,x,s,r];simp
 have g9:a4.eval (.tmp 9)= .pointer (some ⟨k9,0,none⟩):=by rw [← n];simp only [aY,aA,y,x,s,r];simpa using f9
 have g28:a4.eval (.tmp 28)= .slice (some ⟨b,o,none⟩) us.length Y:=by rw [← n];simp only [aY,aA,y,x,s,r];simpa using f28
 have g29:a4.eval (.tmp 29)= .int .i64 (us.length:Int):=by rw [← n];simp only [aY,aA,y,x,s,r];simpa using f29
 have g30:a4.eval (.tmp 30)= .int .i64 (k:Int):=by rw [← n];simp only [aY,aA,y,x,s,r];simpa using f30
 have hka:Ka DU a a4:=N.trans hka4
 clear n hka4 N f9 f28 f29 f30 f8 f12 f33
 refine zQ (v:= .slice (some ⟨w2.heap.size,0,none⟩) 1 1) (w':=w2.alloc (.cells (cU c).toArray 25)) ?_ ?_
 ·simp only [execOp,mk,List.map_toArray,List.map_cons,List.map_nil,g37,Sem.run_bind,OW,Result.andThen_ok,Sem.run_pure]
 generalize V:w2.alloc (.cells (cU c).toArray 25)=w3
 have hn3:w3.heap[w2.heap.size]? =some (.cells (cU c).toArray 25 (0,0)):=by rw [← V];exact heap_alloc_new w2 _
 have hg3:w2.grownBy w3 none:=by rw [← V];exact World.grownBy_alloc w2 _ none
 have hz3:w3.heap.size=w2.heap.size+1:=by rw [← V];simp
 clear V
 have hT3:wS w3 base 25 C k9 U K:=hT2.kept hg3
 have hb3:base≤w3.heap.size:=by have:=hW.b;omega
 obtain ⟨W,st,w4,hr4,hg4,ho4,hl4,hx4,hback⟩:=hT3.entry F ht95 Zw L hz35 KT hb3 (by omega) d
 refine zQ (v:= .tuple #[W,goInt st]) (w':=w4) ?_ ?_
 ·simp only [execOp,mk,aY,p,show (38:Nat)<nt by omega,show ¬ (34:Nat)=38 by decide,show ¬ (35:Nat)=38 by decide,if_false,g34,g35,Sem.run_bind,hr4,Result.andThen_ok,Sem.run_pure]
 refine zQ (v:=W) (w':=w4) ?_ ?_
 ·simp [execOp,mk,aY,aA,p,show (39:Nat)<nt by omega,Instr.extract]
 have hsz4:w3.heap.size≤w4.heap.size:=hg4.size
 have hne2:w2.heap.size ≠ C:=by have:=hW.t.lt;have:=hW.b;omega
 have hn4:w4.heap[w2.heap.size]? =some (.cells (cU c).toArray 25 (0,0)):=(hg4.block _ (by omega) (by simpa using hne2)).trans hn3
 obtain ⟨q1,q2⟩:=ZZ hl4 hb
 obtain ⟨v5,w5,hr5,ho5,R,_,hwh5⟩:=run_append_own_at (P:=prog) w4 base 35 (qE (CX++ [1,1,0,0,1]) 6).type 25 i25 (.agg #[.int .i64 0,.int .i64 0]) 2 16 O9 h251 h252 h253 h254 rfl (by decide) W _ _ ho4 ⟨w2.heap.size,0,none⟩ 1 1 (cU c) rfl
  (fun j u hj=>by
   have e:(⟨w2.heap.size,0,none⟩:Addr).add j=⟨w2.heap.size,0+j,none⟩:=Addr.add_mid ..
   rw [e]
   exact uj hn4 (by simpa using hj)) (Fv c) q1 q2 (by omega)
 generalize m:((a4.put (some 38) (.slice (some ⟨w2.heap.size,0,none⟩) 1 1)).put (some 39) (.tuple #[W,goInt st])).put (some 36) W=a5
 have E:a5.tmps.size=nt:=by rw [← m];simp only [aA,p]
 have l:(38:Nat)<nt:=by omega
 have f:(39:Nat)<nt:=by omega
 have g:(36:Nat)<nt:=by omega
 have hka5:Ka DU a a5:=by rw [← m];exact ((hka.put (by decide)).put (by decide)).put (by decide)
 have h36:a5.eval (.tmp 36)=W:=by rw [← m,aY (by simp only [aA];omega),if_pos rfl]
 have h38:a5.eval (.tmp 38)= .slice (some ⟨w2.heap.size,0,none⟩) 1 1:=by rw [← m];simp only [aY,aA,p,l,f,g];simp
 have h39:a5.eval (.tmp 39)= .tuple #[W,goInt st]:=by rw [← m];simp only [aY,aA,p,l,f,g];simp
 have h34:a5.eval (.tmp 34)= .map (some C):=by rw [← m];simp only [aY,aA,p,l,f,g];simpa using g34
 have h9:a5.eval (.tmp 9)= .pointer (some ⟨k9,0,none⟩):=by rw [← m];simp only [aY,aA,p,l,f,g];simpa using g9
 have h28:a5.eval (.tmp 28)= .slice (some ⟨b,o,none⟩) us.length Y:=by rw [← m];simp only [aY,aA,p,l,f,g];simpa using g28
 have h29:a5.eval (.tmp 29)= .int .i64 (us.length:Int):=by rw [← m];simp only [aY,aA,p,l,f,g];simpa using g29
 have h30:a5.eval (.tmp 30)= .int .i64 (k:Int):=by rw [← m];simp only [aY,aA,p,l,f,g];simpa using g30
 clear m hka g9 g28 g29 g30 g34 g35 g37
 refine zQ (v:=v5) (w':=w5) ?_ ?_
 ·simp only [execOp,mk,resolve,invoke,builtin,Sem.run_bind,Sem.run_pure,Result.andThen_ok,List.map_toArray,List.map_cons,List.map_nil,h36,h38,hr5]
 refine zQ (v:=goInt st) (w':=w5) ?_ ?_
 ·simp [execOp,mk,aY,E,show (40:Nat)<nt by omega,h39,Instr.extract]
 obtain ⟨S,hr6,hg6,hT6⟩:=hback w5 v5 c R (by rw [show BO (bP U d++ [c])=BO (bP U d)++cU c by simp [BO]];exact ho5) (hwh5.imp (fun h=>h) fun h=> ⟨_,h,Nat.le_refl _⟩)
 refine mku (w':=S) ?_ ?_
 ·simp only [execOp,mk,aY,aA,E,show (40:Nat)<nt by omega,show (41:Nat)<nt by omega,show ¬ (34:Nat)=41 by decide,show ¬ (34:Nat)=40 by decide,show ¬ (40:Nat)=41 by decide,if_false,if_true,h34,Sem.run_bind,hr6,Result.andThen_ok,Sem.run_pure]
 have hv0:∀ q,W.ownBlock=some q→q=C∨base≤q:=fun q hq=> .inr (ho4.lt q hq).1
 have hum:C<base:=hW.t.lt
 have hbw:=hW.b
 have hb4:base≤w4.heap.size:=by omega
 have hb5:base≤w5.heap.size:=Nat.le_trans hb4 R.size
 have hkp:Kp base C w S:=(((Kp.grown hW.b T (by simp)).trans (Kp.grown (by omega) hg3 (by simp))).trans (Kp.grown hb3 hg4 (fun q h=> .inl (by cases h;rfl)))).trans ((Kp.grown hb4 R hv0).trans (Kp.grown hb5 hg6 (fun q h=> .inl (by cases h;rfl))))
 have hku6:S.cell? ⟨J,0,none⟩=some (.map (some C)):=(World.cell?_of_block (w:=w) (a:=⟨J,0,none⟩) (hkp.blk J hW.lU hW.ne)).trans hW.u
 have hk9um:k9 ≠ C:=by have:=hW.l9;omega
 have hk9v:some k9 ≠ W.ownBlock:=fun e=>hx4 e.symm
 have hk96:S.heap[k9]? =some (.cells (cU c).toArray 25 (0,0)):=by
  have l4:k9<w4.heap.size:=by omega
  rw [hg6.block k9 (by have:=R.size;omega) (by simpa using hk9um),R.block k9 l4 hk9v,hg4.block k9 (by omega) (by simpa using hk9um),hg3.block k9 (by omega) (by simp)]
  exact hc2
 have hb6:base≤S.heap.size:=Nat.le_trans hb5 hg6.size
 generalize G:(a5.put (some 40) v5).put (some 41) (goInt st)=a6
 have D:a6.tmps.size=nt:=by rw [← G];simp only [aA,E]
 have hka6:Ka DU a a6:=by rw [← G];exact (hka5.put (by decide)).put (by decide)
 have H:(40:Nat)<nt:=by omega
 have I:(41:Nat)<nt:=by omega
 have i9:a6.eval (.tmp 9)= .pointer (some ⟨k9,0,none⟩):=by rw [← G];simp only [aY,aA,E,H,I];simpa using h9
 have i28:a6.eval (.tmp 28)= .slice (some ⟨b,o,none⟩) us.length Y:=by rw [← G];simp only [aY,aA,E,H,I];simpa using h28
 have i29:a6.eval (.tmp 29)= .int .i64 (us.length:Int):=by rw [← G];simp only [aY,aA,E,H,I];simpa using h29
 have i30:a6.eval (.tmp 30)= .int .i64 (k:Int):=by rw [← G];simp only [aY,aA,E,H,I];simpa using h30
 clear G h9 h28 h29 h30 h34 h36 h38 h39
 show (Code.region 10 _ false).wp prog Q a6 S
 refine wp_region_list ?_
 have hkw:IntKind.wrap .i64 ((k:Int)+1)=((k+1:Nat):Int):=by
  have h2:(2:Nat)^40=1099511627776:=by decide
  rw [nD]<;>omega
 refine zQ (v:= .int .i64 ((k+1:Nat):Int)) (w':=S) ?_ ?_
 ·have hc1:a6.eval (.const (.int .i64 1))= .int .i64 1:=rfl
  have hgd:(eqGuard .add 3 (.tmp 30) (.const (.int .i64 1)) (.int .i64 (k:Int)) (.int .i64 1)).run prog S= .ok () S:=fB _ _ _ _ _ _ (by simp) (by simp)
  simp only [execOp,mk,i30,hc1,Sem.run_bind,hgd,Result.andThen_ok]
  simp [binOp,Op.intArith,hkw]
 refine zQ (v:= .int .i64 ((k+1:Nat):Int)) (w':=S) ?_ ?_
 ·simp only [execOp,mk,aY,D,show (42:Nat)<nt by omega,if_true,Sem.run_pure]
 have A:(42:Nat)<nt:=by omega
 have B:(30:Nat)<nt:=by omega
 refine hQ _ _ ⟨by simp only [aA,D], ?_, ?_, ?_, ?_, ?_⟩ ⟨hku6,hk96,hT6,hb6,hW.lU,hW.l9,hW.ne⟩ hkp ((hka6.put (by decide)).put (by decide))
 ·simp only [aY,aA,D,A,B];simp [hka6.get 8 (by decide)];exact hI.t8
 ·simp only [aY,aA,D,A,B];simpa using i9
 ·simp only [aY,aA,D,A,B];simpa using i28
 ·simp only [aY,aA,D,A,B];simpa using i29
 ·simp only [aY,aA,D,A,B];simp
def bQ (W:Ut):List Nat→Ut
 | []=> []
 |i::l=>match W[i]? with
  |some x=>x.2.foldl (fun U d=>iI U d x.1) (bQ W l)
  |none=>bQ W l
theorem Ho (m:dn prog ap) {nt:Nat} (u:60≤nt) {base o l k9:Nat} {c:Cl} {us:List Cl} {n:Value} {Q:Exit→Act→World→Prop}:∀ (rest pre:List Cl) (U:Ut) (bnd:Nat) (w:World) (a:Act),us=pre++rest→us.length<2^39→bnd+rest.length<2^40→
  In nt a n us.length l k9 pre.length→Um w base o l k9 c U bnd→(us ≠ []→IE w base o us n)→
  (∀ a' w',In nt a' n us.length l k9 us.length→Um w' base o l k9 c (rest.foldl (fun U d=>iI U d c) U) (bnd+rest.length)→Kp base o w w'→Ka DU a a'→Q (.exit 2) a' w')→Code.rounds prog Uh Q (rest.length+1) a w
 | rest,pre,U,bnd,w,a,hus,hl,hb,hI,hW,hS,hQ=>by
  show (Uh).wp prog (Exit.then (Code.rounds prog Uh Q rest.length) Q) a w
  unfold Uh
  refine wp_seq (wp_region_list ?_)
  have r:=hI.sz
  have p:(eqGuard .lss 3 (.tmp 30) (.tmp 29) (.int .i64 (pre.length:Int)) (.int .i64 (us.length:Int))).run prog w= .ok () w:=fB _ _ _ _ _ _ (by simp) (by simp)
  refine zQ (v:= .bool (decide ((pre.length:Int)<(us.length:Int)))) (w':=w) ?_ ?_
  ·simp only [execOp,mk,hI.t29,hI.t30,Sem.run_bind,p,Result.andThen_ok]
   simp [binOp,Op.intCmp,Op.intArith]
  have x:(31:Nat)<nt:=by omega
  generalize g:a.put (some 31) (.bool (decide ((pre.length:Int)<(us.length:Int))))=a1
  have f:a1.eval (.tmp 31)= .bool (decide ((pre.length:Int)<(us.length:Int))):=by rw [← g,aY (by omega),if_pos rfl]
  have i:In nt a1 n us.length l k9 pre.length:=by
   rw [← g]
   refine ⟨by rw [aA];exact r, ?_, ?_, ?_, ?_, ?_⟩<;>rw [aY (by omega),if_neg (by decide)]
   ·exact hI.t8
   ·exact hI.t9
   ·exact hI.t28
   ·exact hI.t29
   ·exact hI.t30
  have h:Ka DU a a1:=by rw [← g];exact (Ka.refl DU a).put (by decide)
  clear g
  show (Code.seq (.cond (.tmp 31) .skip (.exit 2)) _).wp prog _ a1 w
  match rest,hus,hb,hQ with
  | [],hus,hb,hQ=>
   have b:pre.length=us.length:=by rw [hus];simp
   rw [b,decide_eq_false (by omega)] at f
   refine wp_seq (wp_cond_false f (wp_exit ?_))
   show Q (.exit 2) a1 w
   refine hQ a1 w (by rw [b] at i;exact i) (by simpa using hW) (Kp.refl _ _ _) h
  |d::rest,hus,hb,hQ=>
   have b:pre.length<us.length:=by rw [hus];simp
   rw [decide_eq_true (by omega)] at f
   refine wp_seq (wp_cond_true f (wp_skip ?_))
   have G:us[pre.length]? =some d:=by rw [hus];simp
   have j:us ≠ []:=fun e=>by rw [e] at b;simp at b
   simp only [List.length_cons] at hb
   show (Code.seq GH _).wp prog _ a1 w
   have A:(2:Nat)^39=549755813888:=by decide
   have D:(2:Nat)^40=1099511627776:=by decide
   refine Ot m u (by omega) (by omega) G i hW (hS j) ?_
   intro a' w' s q k t
   show Code.rounds prog Uh Q (rest.length+1) a' w'
   refine Ho m u rest (pre++ [d]) _ (bnd+1) w' a' (by rw [hus];simp) hl (by omega) (by simpa using s) q (fun j=>(hS j).kept k) ?_
   intro E B y C F z
   refine hQ E B y ?_ (k.trans F) ((h.trans t).trans z)
   simp only [List.foldl_cons,List.length_cons]
   rw [show bnd+(rest.length+1)=bnd+1+rest.length by omega]
   exact C
theorem GK:∀ {us:List Cl} {k j:Nat} {d:Cl} {u:Value},us[k]? =some d→(cU d)[j]? =some u→(BO us)[k*2+j]? =some u
 | [],_,_,_,_,h,_=>by simp at h
 |x::us,0,j,d,u,h,hj=>by
  simp at h;subst h
  have a:=(List.getElem?_eq_some_iff.1 hj).1
  simp only [BO,List.flatMap_cons,Nat.zero_mul,Nat.zero_add]
  rw [List.getElem?_append_left a];exact hj
 |x::us,k+1,j,d,u,h,hj=>by
  simp only [List.getElem?_cons_succ] at h
  have:=GK h hj
  simp only [BO,List.flatMap_cons]
  rw [List.getElem?_append_right (by simp [cU];omega)]
  rw [show (k+1)*2+j - (cU x).length=k*2+j by simp [cU];omega]
  exact this
theorem Y6 {hp:Hp} {m:aF} {S:ay} {w:World} {base l:Nat} (q:aV ap (AM.ai hp) m S w) (s:Lo (AM.ai hp) m S base l) {us:List Cl} {y:Bool} {f:Value} (h:PR S (.sl (cL us) us.length y) f):
  ∃ n a,f= .slice n us.length a∧(us ≠ []→IE w base l us f):=by
 simp only [PR] at h
 obtain ⟨n,a,rfl,r,h⟩:=h
 refine ⟨n,a,rfl,fun c=> ?_⟩
 rcases h with ⟨_,e,_⟩|⟨b,o,vs,rfl,e,p⟩
 ·exfalso
  cases us with
  |nil=>exact c rfl
  |cons x us=>simp [cL,cC] at e
 ·have i:=xy e
  subst i
  have B:¬ (base≤b∨b=l):=fun g=>by
   cases us with
   |nil=>exact c rfl
   |cons x us=>
    have:=(p 0 (.int .i64 x.1) rfl).1
    rw [s.clr b g] at this
    cases this
  refine ⟨b,o,a,rfl,by omega,by omega,fun k d A j u z=> ?_⟩
  obtain ⟨t,v⟩:=p _ u (GK A z)
  rw [Nat.add_assoc]
  exact q.one t v
structure Jt (W:Ut) (lb:Nat) (kU um base:Nat) (w:World) (done:List Nat) (w':World):Prop where
 nd:done.Nodup
 lt:∀ i ∈ done,i<W.length
 u:w'.cell? ⟨kU,0,none⟩=some (.map (some um))
 t:∃ x,wS w' base 25 um x (bQ W done) (done.length*lb)
 b:base≤w'.heap.size
 k:Kp w.heap.size um w w'
theorem JW {W:Ut} {done:List Nat} (h:done.Nodup) (b:∀ i ∈ done,i<W.length):done.length≤W.length:=by
 have:=List.Nodup.length_le_of_subset h (l₂:=List.range W.length) (fun i a=>List.mem_range.2 (b i a))
 simpa using this
abbrev qy (fr:List Cl) (nf:Bool) (p:AV):dF:= [(2,.sl (cL fr) fr.length nf),(3,.ptr 0 0 0),(4,.ptr 1 0 0),(8,p)]
theorem N8 {fr:List Cl} {b:Bool} {p:AV} {c:Value}:∀ d ∈ DU,(eG 22 23 24 c (qy fr b p)).get d= .dead:=by
 intro d a
 simp only [DU,List.mem_cons,List.not_mem_nil,or_false] at a
 rcases a with rfl|rfl|rfl|rfl|rfl|rfl|rfl|rfl|rfl|rfl|rfl|rfl|rfl|rfl|rfl|rfl|rfl|rfl|rfl|rfl|rfl<;>rfl
set_option maxHeartbeats 1000000 in
theorem LH (Z:dn prog ap) {nt:Nat} (V:60≤nt) {W:Ut} {lb f u base r:Nat} {H w:World} {a:Act} {done:List Nat} {i:Nat} {c:Cl} {us:List Cl} {nn:Bool} {hp:Hp} {m m0:aF} {S S0:ay} {w0:World} {h0:List aJ} {fr:List Cl} {T:Bool} {kv vv:Value}
  (hlb:W.length*lb+lb<2^39) (hws:base=H.heap.size+1) (hr:r=H.heap.size) (hkU:f<H.heap.size) (hum:u<H.heap.size) (B:f ≠ u) (hl:Lo (AM.ai hp) m S base u) (hw0:w0.heap.size≤u) (hw0b:w0.heap.size≤base)
  (hJ:Jt W lb f u base H done w) (hi:i ∉ done) (hW:W[i]? =some (c,us)) (hus:us.length≤lb)
  (hfr:Fr (aC h0) m0 S0 w0 (AM.ai hp) m S w) (hF:FR ap (eG 22 23 24 (.pointer (some ⟨r,0,none⟩)) (qy fr T (.raw (.pointer (some ⟨f,0,none⟩))))) hp [] nt m S w a)
  (hent:(Instr.entry (.pointer (some ⟨r,0,none⟩))).run prog w= .ok (.tuple #[kv,vv]) w) (F:PR S (cA c) kv) (hvv:PR S (.sl (cL us) us.length nn) vv) {K:Exit→Act→World→Prop}
  (hK:∀ w' a',Jt W lb f u base H (i::done) w'→Fr (aC h0) m0 S0 w0 (AM.ai hp) m S w'→FR ap (eG 22 23 24 (.pointer (some ⟨r,0,none⟩)) (qy fr T (.raw (.pointer (some ⟨f,0,none⟩))))) hp [] nt m S w' a'→(∀ k,k<base→k ≠ u→w'.heap[k]? =w.heap[k]?)→K .normal a' w'):
  (cZ JB (ag f22)).wp prog K a w:=by
 have F:=Ak F
 subst F
 obtain ⟨n,b,rfl,hsl⟩:=Y6 hF.srel hl hvv
 obtain ⟨x,hT⟩:=hJ.t
 have j:a.tmps.size=nt:=hF.size
 have X:a.eval (.tmp 22)= .pointer (some ⟨r,0,none⟩):=by
  have:=hF.env 22
  simp only [eG,dF.get,AM.ai,Nat.beq_refl,Option.getD_some,VR,PR] at this
  exact this
 have e8:a.eval (.tmp 8)= .pointer (some ⟨f,0,none⟩):=by
  have:=hF.env 8
  have e:(eG 22 23 24 (.pointer (some ⟨r,0,none⟩)) (qy fr T (.raw (.pointer (some ⟨f,0,none⟩))))).get 8= .raw (.pointer (some ⟨f,0,none⟩)):=rfl
  rw [e] at this
  simp only [VR,PR] at this
  exact this
 rw [IM]
 refine wp_block (wp_seq (wp_region_list ?_))
 refine zQ (v:= .tuple #[cV c,.slice n us.length b]) (w':=w) ?_ ?_
 ·simp only [execOp,mk,X,Sem.run_bind,hent,Result.andThen_ok,Sem.run_pure]
 have o:(25:Nat)<nt:=by omega
 have G:(26:Nat)<nt:=by omega
 have N:(27:Nat)<nt:=by omega
 have l9:(9:Nat)<nt:=by omega
 have C:(10:Nat)<nt:=by omega
 have L:(28:Nat)<nt:=by omega
 have Q:(29:Nat)<nt:=by omega
 have R:(30:Nat)<nt:=by omega
 refine zQ (v:=cV c) (w':=w) ?_ ?_
 ·simp [execOp,mk,aY,j,o,Instr.extract]
 refine zQ (v:= .slice n us.length b) (w':=w) ?_ ?_
 ·simp [execOp,mk,aY,aA,j,o,G,Instr.extract]
 refine zQ (v:= .pointer (some ⟨w.heap.size,0,none⟩)) (w':=w.alloc (.cells #[.int .i64 0,.int .i64 0] 25)) ?_ ?_
 ·simp only [execOp,mk,Sem.run_bind,Ie,Result.andThen_ok,Sem.run_pure]
 generalize y:w.alloc (.cells #[.int .i64 0,.int .i64 0] 25)=w1
 have E:w1.heap[w.heap.size]? =some (.cells #[.int .i64 0,.int .i64 0] 25 (0,0)):=by rw [← y];exact heap_alloc_new w _
 have l:w.grownBy w1 none:=by rw [← y];exact World.grownBy_alloc w _ none
 have I:w1.heap.size=w.heap.size+1:=by rw [← y];simp
 generalize g:(((a.put (some 25) (.tuple #[cV c,.slice n us.length b])).put (some 26) (cV c)).put (some 27) (.slice n us.length b)).put (some 9) (.pointer (some ⟨w.heap.size,0,none⟩))=a3
 have s:a3.tmps.size=nt:=by rw [← g];simp only [aA,j]
 have z:Ka DU a a3:=by rw [← g];exact ((((Ka.refl DU a).put (by decide)).put (by decide)).put (by decide)).put (by decide)
 have f9:a3.eval (.tmp 9)= .pointer (some ⟨w.heap.size,0,none⟩):=by rw [← g,aY (by simp only [aA];omega),if_pos rfl]
 have f26:a3.eval (.tmp 26)=cV c:=by rw [← g];simp only [aY,aA,j,o,G,N,l9];simp
 have f27:a3.eval (.tmp 27)= .slice n us.length b:=by rw [← g];simp only [aY,aA,j,o,G,N,l9];simp
 clear g y
 refine mku (w':=w1.setRow w.heap.size (cU c).toArray) ?_ ?_
 ·simp only [execOp,mk,f9,f26,Sem.run_bind,Ig E rfl c,Result.andThen_ok,Sem.run_pure]
 generalize p:w1.setRow w.heap.size (cU c).toArray=w2
 have U:w2.heap[w.heap.size]? =some (.cells (cU c).toArray 25 (0,0)):=by rw [← p];exact zF E
 have hz2:w2.heap.size=w.heap.size+1:=by rw [← p];simpa using I
 have t:w.grownBy w2 none:=by
  rw [← p]
  exact ⟨l.os,l.tape,l.output,by simp;omega,fun q O B=>(setRow_other w1 w.heap.size q _ (by omega)).trans (l.block q O B)⟩
 clear p E l I
 refine zQ (v:= .slice n us.length b) (w':=w2) ?_ ?_
 ·simp only [execOp,mk,f27,Sem.run_pure]
 show (Code.seq (.region 6 _ false) _).wp prog _ _ _
 refine wp_seq (wp_region_list ?_)
 refine zQ (v:= .slice n us.length b) (w':=w2) ?_ ?_
 ·simp [execOp,mk,aY,s,C]
 refine zQ (v:= .int .i64 (us.length:Int)) (w':=w2) ?_ ?_
 ·simp [execOp,mk,aY,aA,s,C,L,resolve,invoke,builtin,Builtin.len_,run_underlying O9,goInt]
 refine zQ (v:= .int .i64 0) (w':=w2) ?_ ?_
 ·simp only [execOp,mk,Sem.run_pure];rfl
 generalize D:(((a3.put (some 10) (.slice n us.length b)).put (some 28) (.slice n us.length b)).put (some 29) (.int .i64 (us.length:Int))).put (some 30) (.int .i64 0)=a4
 have hI:In nt a4 (.slice n us.length b) us.length f w.heap.size ([]:List Cl).length:=by
  rw [← D]
  refine ⟨by simp only [aA,s], ?_, ?_, ?_, ?_, ?_⟩<;>simp only [aY,aA,s,C,L,Q,R]
  ·simp [z.get 8 (by decide),e8]
  ·simpa using f9
  ·simp
  ·simp
  ·simp
 have J:Ka DU a a4:=by rw [← D];exact (((z.put (by decide)).put (by decide)).put (by decide)).put (by decide)
 clear D
 have A:=hJ.b
 have Y:=JW hJ.nd hJ.lt
 have hil:i<W.length:=(List.getElem?_eq_some_iff.1 hW).1
 have hbd:done.length*lb≤W.length*lb:=Nat.mul_le_mul_right _ Y
 have h39:(2:Nat)^39=549755813888:=by decide
 have h40:(2:Nat)^40=1099511627776:=by decide
 have M:Um w2 base u f w.heap.size c (bQ W done) (done.length*lb):=
  ⟨(World.cell?_of_block (w:=w) (a:=⟨f,0,none⟩) (t.block f (show f<_ by omega) (by simp))).trans hJ.u,U,(hT.new_x (Nat.le_refl _)).kept t,by omega,by omega,A,B⟩
 refine wp_block (wp_loop_rounds (us.length+1) ?_)
 refine Ho Z V us [] _ _ w2 a4 rfl (show us.length<2^39 by omega) (by omega) hI M (fun h=>(hsl h).kept (Kp.grown A t (by simp))) ?_
 intro a' w' h1 h2 h3 h4
 have d:Kp base u w w':=(Kp.grown A t (by simp)).trans h3
 have hka:Ka DU a a':=J.trans h4
 have:=hK w' a' ⟨List.nodup_cons.2 ⟨hi,hJ.nd⟩,fun q O=>by
   rcases List.mem_cons.1 O with rfl|O
   ·exact hil
   ·exact hJ.lt q O,h2.u,⟨_,by
   have h5:=h2.t.mono (bnd':=(i::done).length*lb) (by simp only [List.length_cons,Nat.add_mul];omega)
   simpa only [bQ,hW] using h5⟩,h2.b,hJ.k.trans ⟨d.os,d.tape,d.output,d.size,fun k hk V=>d.blk k (by omega) V⟩⟩
  (hl.frame hfr d hw0 hw0b) (hl.fr hF d hka N8) d.blk
 simpa [Exit.then,Exit.inBlock] using this
def Ud (W:Ut):aJ:=⟨[.agg (W.map fun x=>cA x.1),.agg (W.map fun x=> .sl (cL x.2) x.2.length false)],0,false,0,dw,true⟩
abbrev zY (lc:List AV):aJ:=⟨lc,0,false,0,0,true⟩
abbrev zX (n:Int):aJ:=⟨[.int .i64 n],0,false,0,0,true⟩
def oO (W:Ut) (lc:List AV) (n:Int) (fr:List Cl) (nf:Bool):St:=
 ⟨[(2,.sl (cL fr) fr.length nf),(3,.ptr 0 0 0),(4,.ptr 1 0 0),(7,.mr 2 0),(8,.ptr 3 0 0)],[(0,zY lc),(1,zX n),(2,Ud W),(3,⟨[.mr 4 0],0,false,0,0,false⟩),(4,⟨[.agg [],.agg []],0,false,0,dw,true⟩)],.dead,[]⟩
def Ny (U:Ut) (lc:List AV) (n:Int) (fr:List Cl) (nf:Bool):St:=
 ⟨qy fr nf (.ptr 3 0 0),[(3,⟨[.mr 4 0],0,false,0,0,false⟩),(4,Ae U),(0,zY lc),(1,zX n)],.dead,[]⟩
theorem UO {P:Nat→Prop} (h0:∀ t,t ≠ 2→t ≠ 3→t ≠ 4→t ≠ 8→P t) (a:P 2) (c:P 3) (d:P 4) (b:P 8):∀ t,P t:=by
 intro t
 by_cases e2:t=2
 ·subst e2;exact a
 by_cases e3:t=3
 ·subst e3;exact c
 by_cases e4:t=4
 ·subst e4;exact d
 by_cases e8:t=8
 ·subst e8;exact b
 exact h0 t e2 e3 e4 e8
theorem xW {fr:List Cl} {b:Bool} {p:AV} {t:Nat} (a:t ≠ 2) (c:t ≠ 3) (f:t ≠ 4) (d:t ≠ 8):(qy fr b p).get t= .dead:=by
 simp [qy,dF.get,AM.ai,jS (fun e=>a e.symm:2 ≠ t),jS (fun e=>c e.symm:3 ≠ t),jS (fun e=>f e.symm:4 ≠ t),jS (fun e=>d e.symm:8 ≠ t)]
theorem P9 {A B:aJ} {x:Nat} {C:aJ} (h:AM.ai [(0,A),(1,B)] x=some C):(x=0∧C=A)∨(x=1∧C=B):=by
 simp only [AM.ai] at h
 by_cases e0:x=0
 ·subst e0;simp at h;exact .inl ⟨rfl,h.symm⟩
 ·by_cases e1:x=1
  ·subst e1;simp at h;exact .inr ⟨rfl,h.symm⟩
  ·rw [jS (fun e=>e0 e.symm:0 ≠ x),jS (fun e=>e1 e.symm:1 ≠ x)] at h;cases h
set_option maxHeartbeats 1000000 in
theorem Nz (hap:dn prog ap) {nt:Nat} (hn:60≤nt) (W:Ut) (f:List AV) (hlc:a_ f= []) (n:Int) (fr:List Cl) (l:Bool) (lb:Nat) (hlb:W.length*lb+lb<2^39) (hus:∀ x ∈ W,x.2.length≤lb):
  fM prog ap [] nt (cZ [1,1,1,0] (ag f22)) (oO W f n fr l) fun e s'=>e= .normal∧∃ done:List Nat,done.Nodup∧(∀ i,i ∈ done↔i<W.length)∧s'=Ny (bQ W done) f n fr l:=by
 intro _
 refine ⟨fun e s' ⟨_,_,_,_,h⟩=>h ▸ rfl,fun m0 S0 w0 m S w a hfr p Q hQ=> ?_⟩
 rw [JU]
 have D:=p.env 8
 have e8:(oO W f n fr l).env.get 8= .ptr 3 0 0:=rfl
 rw [e8] at D
 simp only [VR] at D
 obtain ⟨B3,hB3,_,_,D⟩:=D
 have V:AM.ai (oO W f n fr l).hp 3=some ⟨[.mr 4 0],0,false,0,0,false⟩:=rfl
 have G:AM.ai (oO W f n fr l).hp 4=some ⟨[.agg [],.agg []],0,false,0,dw,true⟩:=rfl
 have l2:AM.ai (oO W f n fr l).hp 2=some (Ud W):=rfl
 rw [V] at hB3
 cases hB3
 have D:=D rfl
 obtain ⟨⟨O,t3,vs3,rest3,H,r32,_,r34,r35,r36⟩,_,_⟩:=p.srel.blk 3 _ V
 obtain ⟨⟨cur4,t4,vs4,rest4,r41,E,r43,_,_,_⟩,_,_⟩:=p.srel.blk 4 _ G
 obtain ⟨es4,clk4,hm4,hc4⟩:=r41.map rfl
 have hes:es4=#[]:=by
  have h:=r43 rfl
  subst hc4
  match vs4,h,E with
  |u1::u2::vs,h,E=>
   simp only [aZ,PR] at h
   obtain ⟨⟨ks,rfl,q⟩,_⟩:=h
   have d:ks= []:=by cases ks with|nil=>rfl|cons _ _=>simp [aZ] at q
   subst d
   simp only [iC,List.cons_append,List.cons.injEq,Value.agg.injEq] at E
   have:=congrArg Array.size E.1
   simp at this
   exact Array.eq_empty_of_size_eq_zero (by simpa using this)
  | [],h,_=>simp [aZ] at h
  | [_],h,_=>simp [aZ] at h
 subst hes
 have hv3:vs3= [.map (some (m 4).1)]:=by
  match vs3,r34 with
  | [u],h=>
   simp only [aO,VR] at h
   obtain ⟨⟨B,M,_,_,h⟩,_⟩:=h
   rw [G] at M;cases M
   rw [h rfl]
  | [],h=>simp [aO] at h
  |_::_::_,h=>simp [aO] at h
 subst hv3
 have H:=H.cells (show (0:Nat) ≠ dw by decide)
 have hc3:w.cell? ⟨(m 3).1,0,none⟩=some (.map (some (m 4).1)):=by rw [iq H,r32];rfl
 have n34:(m 3).1 ≠ (m 4).1:=fun e=>by have:=p.srel.inj 3 4 _ _ V G e;omega
 have Y:=p.srel.lt V
 have hU4:=p.srel.lt G
 have X:∀ x C,AM.ai (oO W f n fr l).hp x=some C→w0.heap.size≤(m x).1:=fun x C L=>by
  rcases hfr.img x C L with q|⟨B0,q,_⟩
  ·exact q
  ·simp [aC] at q
 have N:∀ x C,AM.ai (oO W f n fr l).hp x=some C→C.fro=false→∀ o,S (m x).1 o=none:=fun x C L hC o=>by
  cases hs:S (m x).1 o with
  |none=>rfl
  |some v=>have:=(p.srel.own x C L o v hs).1;rw [hC] at this;cases this
 have A:∀ x C,AM.ai [(0,zY f),(1,zX n)] x=some C→AM.ai (oO W f n fr l).hp x=some C∧x ≠ 2:=fun x C L=>by
  rcases P9 L with ⟨rfl,rfl⟩|⟨rfl,rfl⟩<;>exact ⟨rfl,by decide⟩
 have z:Lo (AM.ai [(0,zY f),(1,zX n)]) m S (w.heap.size+1) (m 4).1:=by
  refine ⟨fun k d b B M e=> ?_,fun k d o=> ?_⟩
  ·have q:=(A b B M).1
   have:=p.srel.lt q
   rcases d with d|d
   ·omega
   ·have h2:=p.srel.inj b 4 _ _ q G (e.trans d)
    subst h2
    simp [AM.ai] at M
  ·rcases d with d|d
   ·cases hs:S k o with
    |none=>rfl
    |some v=>have:=p.srel.seal_lt hs;omega
   ·subst d;exact N 4 _ G rfl o
 have hF0:FR ap ((8,.raw (.pointer (some ⟨(m 3).1,0,none⟩)))::(oO W f n fr l).env) (oO W f n fr l).hp [] nt m S w a:=p.say (by rw [D];simp only [VR,PR])
 refine Ew (h0:= []) (ks:=W.map fun x=>cA x.1) (vs:=W.map fun x=> .sl (cL x.2) x.2.length false) (B:=Ud W) (b:=2) (ver:=0) (tm:=7) (n:=W.length) (hp0:= [(0,zY f),(1,zX n)]) (env0:=qy fr l (.raw (.pointer (some ⟨(m 3).1,0,none⟩)))) (J:=fun done w'=>Jt W lb (m 3).1 (m 4).1 (w.heap.size+1) w done w')
  rfl rfl rfl rfl rfl rfl rfl rfl rfl rfl rfl rfl (by omega) (by omega) (by omega) (by omega) (by decide) (by decide) abx rfl l2 rfl rfl rfl rfl (by simp [aC]) (by simp) A ?_ ?_ (fun x B0 C h=>by simp [aC] at h) hfr hF0 ?_ ?_ Q ?_ ?_
 ·intro x C L y j
  rcases P9 L with ⟨rfl,rfl⟩|⟨rfl,rfl⟩
  ·rw [hlc] at j;cases j
  ·cases j
 ·refine UO (fun t h2 h3 h4 D=> .inl (xW h2 h3 h4 D)) (.inr ⟨by decide,by decide,rfl,fun y j=>by cases j⟩) (.inr ⟨by decide,by decide,rfl,fun y j=> ?_⟩) (.inr ⟨by decide,by decide,rfl,fun y j=> ?_⟩) (.inr ⟨by decide,by decide,rfl,fun y j=>by cases j⟩)
  ·have j:y ∈ [0]:=j
   simp at j;subst j;rfl
  ·have j:y ∈ [1]:=j
   simp at j;subst j;rfl
 ·intro w' d hs ho ht hu
  exact ⟨by simp,(fun i hi=>(by cases hi)),(World.cell?_of_block (w:=w) (a:=⟨(m 3).1,0,none⟩) (d _ Y)).trans hc3,⟨0,by simpa [bQ] using wS.new ((d _ hU4).trans hm4) (by omega)⟩,by omega,⟨ho,ht,hu,by omega,fun k h _=>d k h⟩⟩
 ·intro done U w' r mm si se ci g hr hrs d hs ho ht hu
  have n3:(m 3).1 ≠ r:=by omega
  have n4:(m 4).1 ≠ r:=by omega
  obtain ⟨x,L⟩:=g.t
  exact ⟨g.nd,g.lt,(World.cell?_of_block (w:=U) (a:=⟨(m 3).1,0,none⟩) (d _ n3)).trans g.u,⟨x,L.apart (by omega) n4 d⟩,by rw [hs];exact g.b,⟨ho.trans g.k.os,ht.trans g.k.tape,hu.trans g.k.output,by rw [hs];exact g.k.size,fun k hlt hne=>(d k (by omega)).trans (g.k.blk k hlt hne)⟩⟩
 ·intro r bm done i k v U a1 es clk it0 hr g hi hni I F s Z hit hi1 hi2 hbm hbe ⟨kv,vv,hent,hkv,hvv⟩ K hK
  have hWi:W[i]? =some W[i]:=List.getElem?_eq_getElem hi
  have I:k=cA W[i].1:=by simp [hWi] at I;exact I.symm
  have F:v= .sl (cL W[i].2) W[i].2.length false:=by simp [hWi] at F;exact F.symm
  subst I;subst F
  refine LH (c:=W[i].1) (us:=W[i].2) hap hn hlb rfl hr Y hU4 n34 z (X 4 _ G) (by have:=hfr.size;omega) g hni hWi (hus _ (List.getElem_mem hi)) s Z hent hkv hvv ?_
  intro w' a' q h2 h3 h4
  have hmb:=p.srel.lt l2
  refine hK w' a' q h2 h3 (h4 r (by omega) (by omega)) (h4 bm (by omega) ?_)
  rw [hbe]
  intro e
  have:=p.srel.inj 2 4 _ _ l2 G e
  omega
 ·intro r done U a1 g hall s Z
  obtain ⟨x,hT⟩:=g.t
  have hcl:∀ k,w.heap.size+1≤k→(∀ b B,AM.ai [(0,zY f),(1,zX n)] b=some B→(m b).1 ≠ k)∧∀ o,S k o=none:=fun k d=> ⟨z.blk k (.inl d),z.clr k (.inl d)⟩
  have hlt1:(m 4).1<U.heap.size:=by have:=g.k.size;omega
  obtain ⟨m1,S1,hle,hm1,T,hSk,hfr2,hF2⟩:=hT.shut s Z (X 4 _ G) ⟨hlt1,z.blk _ (.inr rfl),z.clr _ (.inr rfl)⟩ hcl 4 rfl
  have hoff:Po (AM.ai [(4,Ae (bQ W done)),(0,zY f),(1,zX n)]) m1 S1 U (m 3).1:=by
   refine ⟨by have:=g.k.size;omega,fun b B M e=> ?_,fun o=>by rw [hSk _ _ (by omega)];exact N 3 _ V rfl o⟩
   by_cases hb4:b=4
   ·subst hb4;rw [T] at e;exact n34 e.symm
   ·rw [hm1 b hb4] at e
    have hB':AM.ai [(0,zY f),(1,zX n)] b=some B:=by
     simp only [AM.ai] at M ⊢
     rw [jS (fun e=>hb4 e.symm:4 ≠ b)] at M
     exact M
    have q:=(A b B hB').1
    have:=p.srel.inj b 3 _ _ q V e
    subst this
    simp [AM.ai] at hB'
  have R:U.heap[(m 3).1]? =some (.cells O t3 (0,0)):=(g.k.blk _ Y n34).trans H
  have hvr:aO (AM.ai [(4,Ae (bQ W done)),(0,zY f),(1,zX n)]) m1 S1 [.mr 4 0] [.map (some (m 4).1)]:=by
   simp only [aO,VR,and_true]
   exact ⟨Ae (bQ W done),rfl,Nat.le_refl _,⟨_,rfl⟩,fun _=>by rw [T]⟩
  obtain ⟨m2,hm2,hm2b,hfr3,hF3⟩:=Py (h0:= []) 3 ⟨[.mr 4 0],0,false,0,0,false⟩ (k:=(m 3).1) (c:=0) hfr2 hF2 rfl hoff (X 3 _ V) rfl rfl (fun es clk he=>by rw [R] at he;cases he)
   ⟨O,t3,_,rest3,eP.of (by decide) R,r32,(fun h=>(by cases h)),hvr,r35,fun h=>absurd h (by decide)⟩
  have hp8:a1.tmps.getD 8 undef= .pointer (some ⟨(m 3).1,0,none⟩):=by
   have:=hF3.env 8
   have e:(eG 22 23 24 (.pointer (some ⟨r,0,none⟩)) (qy fr l (.raw (.pointer (some ⟨(m 3).1,0,none⟩))))).get 8= .raw (.pointer (some ⟨(m 3).1,0,none⟩)):=rfl
   rw [e] at this
   simpa only [VR,PR] using this
  have hF4:=hF3.say (t:=8) (x:= .ptr 3 0 0) (by
   rw [hp8]
   simp only [VR]
   exact ⟨⟨[.mr 4 0],0,false,0,0,false⟩,rfl,Nat.le_refl _,⟨_,_,rfl⟩,fun _=>by rw [hm2b]⟩)
  have hF5:=hF4.drop (env':=qy fr l (.ptr 3 0 0)) (hp':= [(3,⟨[.mr 4 0],0,false,0,0,false⟩),(4,Ae (bQ W done)),(0,zY f),(1,zX n)]) (fun _ _ h=>h) (fun _ _ _ _ _=>rfl)
   (UO (fun t h2 h3 h4 D=> .inl (xW h2 h3 h4 D)) (.inr ⟨rfl,fun _ _=>rfl⟩) (.inr ⟨rfl,fun _ _=>rfl⟩) (.inr ⟨rfl,fun _ _=>rfl⟩) (.inr ⟨rfl,fun _ _=>rfl⟩))
  exact hQ .normal (Ny (bQ W done) f n fr l) ⟨rfl,done,g.nd,fun i=> ⟨g.lt i,hall i⟩,rfl⟩ m2 S1 U a1 hfr3 hF5
end Go.Proofs.Tryz
set_option maxRecDepth 100000
set_option linter.unusedVariables false
open Go AM
namespace Go.Proofs.Tryz
theorem tH:∀ (U:Ut) (d c x:Cl),bP (iI U d c) x=if d=x then bP U x++ [c] else bP U x
 | [],d,c,x=>by simp only [iI,bP];split<;>rfl
 | (y,l)::r,d,c,x=>by
  unfold iI
  by_cases h:y=d
  ·rw [if_pos h]
   subst h
   simp only [bP]
   by_cases hx:y=x
   ·rw [if_pos hx,if_pos hx,if_pos hx]
   ·rw [if_neg hx,if_neg hx,if_neg hx]
  ·rw [if_neg h]
   simp only [bP,tH r d c x]
   by_cases hx:y=x
   ·subst hx
    have:¬ d=y:=fun e=>h e.symm
    simp [this]
   ·rw [if_neg hx,if_neg hx]
theorem Bz (c x:Cl):∀ (us:List Cl) (U:Ut),∃ t,bP (us.foldl (fun U d=>iI U d c) U) x=bP U x++t∧t.length≤us.length∧(∀ y,y ∈ t↔(y=c∧x ∈ us))
 | [],U=> ⟨[],by simp,by simp,by simp⟩
 | d::us,U=>by
  obtain ⟨t,b,f,a⟩:=Bz c x us (iI U d c)
  rw [List.foldl_cons,b,tH]
  by_cases h:d=x
  ·rw [if_pos h]
   refine ⟨c::t,by simp,by simp;omega,fun y=> ?_⟩
   rw [List.mem_cons,a,h]
   constructor
   ·rintro (e|e)
    ·exact ⟨e,List.mem_cons_self⟩
    ·exact ⟨e.1,List.mem_cons_of_mem _ e.2⟩
   ·intro e
    exact .inl e.1
  ·rw [if_neg h]
   refine ⟨t,rfl,by simp;omega,fun y=> ?_⟩
   rw [a,List.mem_cons]
   constructor
   ·exact fun e=> ⟨e.1,.inr e.2⟩
   ·rintro ⟨e1,e2|e2⟩
    ·exact absurd e2.symm h
    ·exact ⟨e1,e2⟩
theorem lS (W:Ut) (lb:Nat) (a:∀ x ∈ W,x.2.length≤lb) (x:Cl):∀ (done:List Nat),(bP (bQ W done) x).length≤done.length*lb∧∀ y,y ∈ bP (bQ W done) x↔∃ i ∈ done,∃ us,W[i]? =some (y,us)∧x ∈ us
 | []=> ⟨by simp [bQ,bP],by simp [bQ,bP]⟩
 | i ::done=>by
  obtain ⟨k,c⟩:=lS W lb a x done
  unfold bQ
  cases b:W[i]? with
  | none=>
   simp only
   refine ⟨by rw [List.length_cons,Nat.succ_mul];omega,fun y=> ?_⟩
   rw [c]
   constructor
   ·rintro ⟨j,hj,us,h⟩
    exact ⟨j,List.mem_cons_of_mem _ hj,us,h⟩
   ·rintro ⟨j,hj,us,h⟩
    rcases List.mem_cons.1 hj with e|hj
    ·rw [e,b] at h;cases h.1
    ·exact ⟨j,hj,us,h⟩
  | some w=>
   simp only
   obtain ⟨t,d,l,f⟩:=Bz w.1 x w.2 (bQ W done)
   rw [d]
   have g:w.2.length≤lb:=a w (List.mem_of_getElem? b)
   refine ⟨by rw [List.length_append,List.length_cons,Nat.succ_mul];omega,fun y=> ?_⟩
   rw [List.mem_append,c,f]
   constructor
   ·rintro (⟨j,hj,us,h⟩|⟨e1,e2⟩)
    ·exact ⟨j,List.mem_cons_of_mem _ hj,us,h⟩
    ·exact ⟨i,List.mem_cons_self,w.2,by rw [b,e1],e2⟩
   ·rintro ⟨j,hj,us,h,hx⟩
    rcases List.mem_cons.1 hj with e|hj
    ·rw [e,b] at h
     cases h
     exact .inr ⟨rfl,hx⟩
    ·exact .inl ⟨j,hj,us,h,hx⟩
theorem uM {n:Nat} {l:List Nat} (a:l.Nodup) (h:∀ i,i ∈ l↔i<n):l.length=n:=by
 have:=(List.perm_ext_iff_of_nodup a List.nodup_range).2 (fun i=>by rw [h,List.mem_range])
 rw [this.length_eq,List.length_range]
inductive zO (us:Cl→List Cl) (ok:Cl→Bool) (fr:List Cl):Cl→Prop
 |base {x:Cl}:x ∈ fr→ok x=true→zO us ok fr x
 |step {x y:Cl}:zO us ok fr x→y ∈ us x→ok y=true→zO us ok fr y
theorem zO.ok {us:Cl→List Cl} {ok:Cl→Bool} {fr:List Cl} {x:Cl} (h:zO us ok fr x):ok x=true:=by
 cases h<;>assumption
theorem zO.mono {us a:Cl→List Cl} {ok:Cl→Bool} {fr:List Cl} (b:∀ x y,ok x=true→ok y=true→y ∈ us x→y ∈ a x) {x:Cl} (h:zO us ok fr x):zO a ok fr x:=by
 induction h with
 |base h1 h2=>exact .base h1 h2
 |step h1 h2 h3 ih=>exact .step ih (b _ _ h1.ok h3 h2) h3
theorem zO.trans {us:Cl→List Cl} {ok:Cl→Bool} {fr l:List Cl} (a:∀ y ∈ l,ok y=true→zO us ok fr y) {x:Cl} (h:zO us ok l x):zO us ok fr x:=by
 induction h with
 |base h1 h2=>exact a _ h1 h2
 |step h1 h2 h3 ih=>exact .step ih h2 h3
structure RD (us:Cl→List Cl) (ok:Cl→Bool) (seen:List Cl) (fr res:List Cl):Prop where
 sub:∀ y ∈ seen,y ∈ res
 all:∀ y ∈ fr,ok y=true→y ∈ res
 clo:∀ y ∈ res,y ∉ seen→∀ z ∈ us y,ok z=true→z ∈ res
 src:∀ y ∈ res,y ∈ seen∨zO us ok fr y
theorem RD.two {us:Cl→List Cl} {ok:Cl→Bool} {f a b fr:List Cl} {x:Cl} (j:RD us ok f [x] a) (i:RD us ok a fr b):RD us ok f (x::fr) b:=by
 refine ⟨fun y c=>i.sub y (j.sub y c),fun y c d=> ?_,fun y c k z g d=> ?_,fun y c=> ?_⟩
 ·rcases List.mem_cons.1 c with e|c
  ·exact i.sub y (j.all y (by simp [e]) d)
  ·exact i.all y c d
 ·by_cases ha:y ∈ a
  ·exact i.sub z (j.clo y ha k z g d)
  ·exact i.clo y c ha z g d
 ·rcases i.src y c with h|h
  ·rcases j.src y h with h|h
   ·exact .inl h
   ·exact .inr (h.trans fun z g d=> .base (by simp at g;simp [g]) d)
  ·exact .inr (h.trans fun z g d=> .base (List.mem_cons_of_mem _ g) d)
theorem zL {us:Cl→List Cl} {ok:Cl→Bool} {C:List Cl} {n:Nat} (b:∀ seen x,iF C seen<n→RD us ok seen [x] (ja us ok n seen x)):∀ (r sn:List Cl),iF C sn<n→RD us ok sn r (r.foldl (ja us ok n) sn)
 | [],sn,h=> ⟨fun y a=>a,(fun y a=>by cases a),fun y a d=>absurd a d,fun y a=> .inl a⟩
 |y::r,sn,h=>by
  rw [List.foldl_cons]
  have c:=b sn y h
  exact c.two (zL b r _ (Nat.lt_of_le_of_lt (u_ C c.sub) h))
theorem E8 {us:Cl→List Cl} {ok:Cl→Bool} {C:List Cl} (k:∀ x,ok x=true→x ∈ C):∀ (n:Nat) (a:List Cl) (x:Cl),iF C a<n→RD us ok a [x] (ja us ok n a x)
 |0,a,x,h=>absurd h (Nat.not_lt_zero _)
 | n +1,a,x,h=>by
  unfold ja
  by_cases hx:x ∈ a
  ·rw [if_pos hx]
   exact ⟨fun y b=>b,(fun y b _=>(by simp at b;rw [b];exact hx)),fun y b f=>absurd b f,fun y b=> .inl b⟩
  ·rw [if_neg hx]
   cases g:ok x with
   |false=>
    rw [if_neg (by simp)]
    exact ⟨fun y b=>b,(fun y b h=>(by simp at b;rw [b,g] at h;cases h)),fun y b f=>absurd b f,fun y b=> .inl b⟩
   | true=>
    rw [if_pos rfl]
    have d:=zL (us:=us) (fun a x=>E8 k n a x) (us x) (a++ [x]) (by have:=BD (k x g) hx;omega)
    have j:x ∈ (us x).foldl (ja us ok n) (a++ [x]):=d.sub x (by simp)
    refine ⟨fun y b=>d.sub y (by simp [b]),(fun y b _=>(by simp at b;rw [b];exact j)),fun y b f z i c=> ?_,fun y b=> ?_⟩
    ·by_cases e:y=x
     ·subst e;exact d.all z i c
     ·exact d.clo y b (by simp [f,e]) z i c
    ·rcases d.src y b with h|h
     ·rcases List.mem_append.1 h with h|h
      ·exact .inl h
      ·simp at h;subst h;exact .inr (.base (by simp) g)
     ·exact .inr (h.trans fun z i c=> .step (.base (by simp) g) i c)
theorem Iu {us:Cl→List Cl} {ok:Cl→Bool} {C:List Cl} (d:∀ x,ok x=true→x ∈ C) (fr:List Cl) (n:Nat) (e:C.length<n) (x:Cl):x ∈ fr.foldl (ja us ok n) []↔zO us ok fr x:=by
 have c:iF C []<n:=Nat.lt_of_le_of_lt (List.length_filter_le _ _) e
 have h:=zL (fun a x=>E8 (us:=us) d n a x) fr [] c
 constructor
 ·intro b
  rcases h.src x b with h|h
  ·cases h
  ·exact h
 ·intro b
  induction b with
  |base h1 h2=>exact h.all _ h1 h2
  |step h1 h2 h3 ih=>exact h.clo _ ih (by simp) _ h2 h3
def jd (L:Lw) (s:Int) (u:Cl):List Cl:=(ax s L.ps.length).filter fun c=>decide (u ∈ iH L s c)
open Classical in
noncomputable def ak (L:Lw) (s:Int) (fr:List Cl):List Cl:=(ax s L.ps.length).filter fun c=>decide (zO (jd L s) (aI s L.ps.length) fr c)
theorem Iw {L:Lw} {s:Int} {l:List Cl} {i:Nat} {y:Cl} {us:List Cl}:(bM L s l)[i]? =some (y,us)↔l[i]? =some y∧us=iH L s y:=by
 unfold bM
 rw [List.getElem?_map]
 cases h:l[i]? with
 |none=>simp
 |some x=>
  simp only [Option.map_some,Option.some.injEq,Prod.mk.injEq]
  constructor
  ·rintro ⟨rfl,rfl⟩;exact ⟨rfl,rfl⟩
  ·rintro ⟨rfl,rfl⟩;exact ⟨rfl,rfl⟩
theorem zJ {L:Lw} {s:Int} {lb:Nat} {done:List Nat} (d:∀ x ∈ bM L s (ax s L.ps.length),x.2.length≤lb) (e:∀ i,i ∈ done↔i<(bM L s (ax s L.ps.length)).length) (x y:Cl):y ∈ bP (bQ (bM L s (ax s L.ps.length)) done) x↔y ∈ jd L s x:=by
 rw [(lS _ lb d x done).2 y]
 unfold jd
 rw [List.mem_filter]
 constructor
 ·rintro ⟨i,_,us,h,hx⟩
  obtain ⟨c,b⟩:=Iw.1 h
  subst b
  exact ⟨List.mem_of_getElem? c,by simpa using hx⟩
 ·rintro ⟨c,b⟩
  obtain ⟨i,f⟩:=List.getElem?_of_mem c
  have a:=(Iw (L:=L) (s:=s)).2 ⟨f,rfl⟩
  exact ⟨i,(e i).2 (List.getElem?_eq_some_iff.1 a).1,_,a,by simpa using b⟩
theorem Js {L:Lw} {s:Int} {lb:Nat} {done:List Nat} (a:∀ x ∈ bM L s (ax s L.ps.length),x.2.length≤lb) (b:∀ i,i ∈ done↔i<(bM L s (ax s L.ps.length)).length) (fr:List Cl) (n:Nat) (d:(ax s L.ps.length).length<n):
  (ax s L.ps.length).filter (fun c=>decide (c ∈ fr.foldl (ja (bP (bQ (bM L s (ax s L.ps.length)) done)) (aI s L.ps.length) n) []))=ak L s fr:=by
 classical
 unfold ak
 refine List.filter_congr fun c f=> ?_
 rw [decide_eq_decide,Iu (C:=ax s L.ps.length) (fun x e=>jI.2 e) fr n d]
 exact ⟨fun h=>h.mono fun x y _ _ h=>(zJ a b x y).1 h,fun h=>h.mono fun x y _ _ h=>(zJ a b x y).2 h⟩
theorem abo {nt:Nat} (e:60≤nt) (L:Lw) (a b c:Bool) (s:Int) (fr:List Cl) (d:Bool):ah prog ap [] nt (cZ [0] (ag f22)) (dO .dead [.agg [.sl L.fx L.fn a,.sl L.sx L.sn b,.sl (dm L.ps) L.ps.length c],.int .i64 s,.sl (cL fr) fr.length d] []) .normal ⟨[(2,.sl (cL fr) fr.length d),(3,.ptr 0 0 0),(4,.ptr 1 0 0)],[(0,⟨[.sl L.fx L.fn a,.sl L.sx L.sn b,.sl (dm L.ps) L.ps.length c],0,false,0,0,true⟩),(1,⟨[.int .i64 s],0,false,0,0,true⟩)],.dead,[]⟩:=by
 exact pN 22 [] 0 0 .nil (.nil) e
theorem abp {nt:Nat} (f:60≤nt) (L:Lw) (a b c:Bool) (s:Int) (fr:List Cl) (d:Bool) (ks vs:List AV) (e:ae prog ap 47 [.agg [.sl L.fx L.fn a,.sl L.sx L.sn b,.sl (dm L.ps) L.ps.length c],.int .i64 s] [] (.ret (.mr 0 0)) [⟨[.agg ks,.agg vs],0,false,0,4611686018427387904,true⟩]):ah prog ap [] nt (cZ [1,0] (ag f22)) ⟨[(2,.sl (cL fr) fr.length d),(3,.ptr 0 0 0),(4,.ptr 1 0 0)],[(0,⟨[.sl L.fx L.fn a,.sl L.sx L.sn b,.sl (dm L.ps) L.ps.length c],0,false,0,0,true⟩),(1,⟨[.int .i64 s],0,false,0,0,true⟩)],.dead,[]⟩ .normal ⟨[(2,.sl (cL fr) fr.length d),(3,.ptr 0 0 0),(4,.ptr 1 0 0),(7,.mr 2 0)],[(0,⟨[.sl L.fx L.fn a,.sl L.sx L.sn b,.sl (dm L.ps) L.ps.length c],0,false,0,0,true⟩),(1,⟨[.int .i64 s],0,false,0,0,true⟩),(2,⟨[.agg ks,.agg vs],0,false,0,4611686018427387904,true⟩)],.dead,[]⟩:=by
 exact pN 22 [] 0 0 (.n 4 .nil) (.c e .nil) f
theorem abq {nt:Nat} (e:60≤nt) (L:Lw) (a b c:Bool) (s:Int) (fr:List Cl) (d:Bool) (ks vs:List AV):ah prog ap [] nt (cZ [1,1,0] (ag f22)) ⟨[(2,.sl (cL fr) fr.length d),(3,.ptr 0 0 0),(4,.ptr 1 0 0),(7,.mr 2 0)],[(0,⟨[.sl L.fx L.fn a,.sl L.sx L.sn b,.sl (dm L.ps) L.ps.length c],0,false,0,0,true⟩),(1,⟨[.int .i64 s],0,false,0,0,true⟩),(2,⟨[.agg ks,.agg vs],0,false,0,4611686018427387904,true⟩)],.dead,[]⟩ .normal ⟨[(2,.sl (cL fr) fr.length d),(3,.ptr 0 0 0),(4,.ptr 1 0 0),(7,.mr 2 0),(8,.ptr 3 0 0)],[(0,⟨[.sl L.fx L.fn a,.sl L.sx L.sn b,.sl (dm L.ps) L.ps.length c],0,false,0,0,true⟩),(1,⟨[.int .i64 s],0,false,0,0,true⟩),(2,⟨[.agg ks,.agg vs],0,false,0,4611686018427387904,true⟩),(3,⟨[.mr 4 0],0,false,0,0,false⟩),(4,⟨[.agg [],.agg []],0,false,0,4611686018427387904,true⟩)],.dead,[]⟩:=by
 exact pN 22 [] 0 0 (.n 1 .nil) (.nil) e
def JC (L:Lw) (a b c:Bool) (s:Int) (fr:List Cl) (nf:Bool) (uk uv:List AV) (k:Nat) (ks vs:List AV):St:=⟨[(3,.ptr 0 0 0),(4,.ptr 1 0 0),(8,.ptr 2 0 0),(13,.ptr 3 0 0),(14,.ptr 4 0 0),(45,.sl (cL fr) fr.length nf),(46,.int .i64 (fr.length:Int)),(47,.int .i64 (k:Int))],[(0,⟨[.sl L.fx L.fn a,.sl L.sx L.sn b,.sl (dm L.ps) L.ps.length c],0,false,0,0,true⟩),(1,⟨[.int .i64 s],0,false,0,0,true⟩),(2,⟨[.mr 5 0],0,false,0,0,false⟩),(3,⟨[.mr 6 0],0,false,0,0,false⟩),(4,⟨[.fn 56 [] [.ptr 3 0 0,.ptr 0 0 0,.ptr 1 0 0,.ptr 2 0 0,.ptr 4 0 0]],0,false,0,0,false⟩),(5,⟨[.agg uk,.agg uv],0,false,0,4611686018427387904,true⟩),(6,⟨[.agg ks,.agg vs],0,false,0,4611686018427387904,true⟩)],.dead,[]⟩
def OT (L:Lw) (a b c:Bool) (s:Int) (uk uv:List AV) (ks vs:List AV):St:=⟨[(3,.ptr 0 0 0),(4,.ptr 1 0 0),(13,.ptr 2 0 0)],[(0,⟨[.sl L.fx L.fn a,.sl L.sx L.sn b,.sl (dm L.ps) L.ps.length c],0,false,0,0,true⟩),(1,⟨[.int .i64 s],0,false,0,0,true⟩),(2,⟨[.mr 3 0],0,false,0,0,false⟩),(3,⟨[.agg ks,.agg vs],0,false,0,4611686018427387904,true⟩)],.dead,[]⟩
theorem Wv {nt:Nat} (u:60≤nt) (L:Lw) (a b c:Bool) (s:Int) (fr:List Cl) (m:Bool) (e g ks vs k2 l:List AV) (p r:List Cl) (x:Cl) (d:fr=p++x::r) (y:fr.length<2^40) (o:ae prog ap 56 [cA x,.ptr 0 0 0,.ptr 1 0 0,.ptr 2 0 0,.ptr 3 0 0,.ptr 4 0 0] (kw L a b c s e g ks vs) (.ret (.tup [])) (kw L a b c s e g k2 l)):
  ah prog ap [] nt (af 4 (ag f22)) (JC L a b c s fr m e g p.length ks vs) .normal (JC L a b c s fr m e g (p.length+1) k2 l):=by
 have q:=ed (f:=cC) (n:=2) (fun _=>rfl) d
 change List.drop _ (cL fr)=cC x++cL r at q
 have i:p.length<fr.length:=sS d
 have v:p.length<2^62:=by omega
 have t:(decide ((p.length:Int)<(fr.length:Int)))=true:=kl i
 unfold JC
 unfold kw at o
 clear d
 generalize p.length=k at*
 have h:(decide (((0:Nat):Int)≤(k:Int)))=true:=(k0 _)
 have j:(decide ((k:Int)<(fr.length:Int)))=true:=(kl (by omega))
 exact pN 22 [] 1 1 (.k 6 h (.c j (.c (aN t) .nil))) (.v 54 (.eq (wpS v)) (.c o (.v 49 (.ppt q) .nil))) u
theorem Wu {nt:Nat} (h:60≤nt) (L:Lw) (a b c:Bool) (s:Int) (fr:List Cl) (f:Bool) (d e ks vs:List AV):
  ah prog ap [] nt (af 4 (ag f22)) (JC L a b c s fr f d e fr.length ks vs) (.exit 4) (OT L a b c s d e ks vs):=by
 have g:(decide ((fr.length:Int)<(fr.length:Int)))=false:=kn (Nat.le_refl _)
 unfold JC OT
 exact pN 22 [] 1 0 (.c (aT g) .nil) .nil h
theorem xg {nt:Nat} (e:60≤nt) (L:Lw) (a b c:Bool) (s:Int) (fr:List Cl) (d:Bool) (U:Ut) (h:∀ x,(bP U x).length<2^40) (n:Nat) (f:fr.length<2^40):∀ (r p sn:List Cl),fr=p++r→iF (ax s L.ps.length) sn<n→
  aQ prog ap [] nt (af 4 (ag f22)) (fun _=> .exit 4) (fun q:Nat × List Cl=>JC L a b c s fr d (U.map fun x=>cA x.1) (tZ U) q.1 (q.2.map cA) (t_ q.2)) (fun sn:List Cl=>OT L a b c s (U.map fun x=>cA x.1) (tZ U) (sn.map cA) (t_ sn)) (p.length,sn) (r.foldl (ja (bP U) (aI s L.ps.length) n) sn)
 | [],p,sn,hp,hs=>by
  rw [List.append_nil] at hp
  rw [List.foldl_nil,← hp]
  exact .done (Wu e L a b c s fr d _ _ _ _)
 |y::r,p,sn,hp,hs=>by
  rw [List.foldl_cons]
  have i:=NE L a b c s U h n sn y hs
  obtain ⟨t,k⟩:=zK (bP U) (aI s L.ps.length) n sn y
  have j:=Wv e L a b c s fr d _ _ _ _ _ _ p r y hp f i
  have g:=xg e L a b c s fr d U h n f r (p++ [y]) (ja (bP U) (aI s L.ps.length) n sn y) (by rw [hp];simp) (Nat.lt_of_le_of_lt (u_ _ (fun z l=>by rw [k];simp [l])) hs)
  rw [show (p++ [y]).length=p.length+1 by simp] at g
  exact .next (a':=(p.length+1,_)) j g
theorem S9 (ks vs:List AV):ae prog ap 100 [.nilS,.fn 58 [] [.ptr 0 0 0]] [⟨[.mr 1 0],0,false,0,0,false⟩,⟨[.agg ks,.agg vs],0,false,0,4611686018427387904,true⟩] (.ret (.int .i64 (-1))) [⟨[.mr 1 0],0,false,0,0,false⟩,⟨[.agg ks,.agg vs],0,false,0,4611686018427387904,true⟩]:=by
 exact pK [] 1 0 (.n 1 .nil) (.nil)
theorem GN (ks vs:List AV):ae prog ap 57 [.nilS,.fn 58 [] [.ptr 0 0 0]] [⟨[.mr 1 0],0,false,0,0,false⟩,⟨[.agg ks,.agg vs],0,false,0,4611686018427387904,true⟩] (.ret .nilS) [⟨[.mr 1 0],0,false,0,0,false⟩,⟨[.agg ks,.agg vs],0,false,0,4611686018427387904,true⟩]:=by
 have a:=S9 ks vs
 exact pK [] 1 1 (.n 1 .nil) (.c a .nil)
theorem abr {nt:Nat} (i:60≤nt) (L:Lw) (a b c:Bool) (s:Int) (fr:List Cl) (d:Bool) (g h ks vs:List AV) (l:List Cl) (q:Nat) (C2:List AV) (f:CO 49 [.agg [.sl L.fx L.fn a,.sl L.sx L.sn b,.sl (dm L.ps) L.ps.length c],.int .i64 s] (.ret (.own (cL l) l.length 2))) (e:ae prog ap 57 [.ref 0 0 0 l.length,.fn 58 [] [.ptr 1 0 0]] [⟨(cL l),0,false,0,2,true⟩,⟨[.mr 2 0],0,false,0,0,false⟩,⟨[.agg ks,.agg vs],0,false,0,4611686018427387904,true⟩] (.ret (.ref 0 0 0 q)) [⟨C2,0,false,0,2,true⟩,⟨[.mr 2 0],0,false,0,0,false⟩,⟨[.agg ks,.agg vs],0,false,0,4611686018427387904,true⟩])
  (l1:aK prog ap [] 60 (.block 4 (.loop (af 4 (ag f22)))) ⟨[(0,.dead),(1,.dead),(2,.sl (cL fr) fr.length d),(3,.ptr 0 0 0),(4,.ptr 1 0 0),(6,.dead),(7,.dead),(8,.ptr 2 0 0),(9,.dead),(10,.dead),(12,.dead),(13,.ptr 3 0 0),(14,.ptr 4 0 0),(16,.dead),(22,.dead),(24,.dead),(28,.dead),(29,.dead),(30,.dead),(31,.dead),(45,.sl (cL fr) fr.length d),(46,.int .i64 (fr.length:Int)),(47,.int .i64 0),(48,.dead)],[(0,⟨[.sl L.fx L.fn a,.sl L.sx L.sn b,.sl (dm L.ps) L.ps.length c],0,false,0,0,true⟩),(1,⟨[.int .i64 s],0,false,0,0,true⟩),(2,⟨[.mr 5 0],0,false,0,0,false⟩),(3,⟨[.mr 6 0],0,false,0,0,false⟩),(4,⟨[.fn 56 [] [.ptr 3 0 0,.ptr 0 0 0,.ptr 1 0 0,.ptr 2 0 0,.ptr 4 0 0]],0,false,0,0,false⟩),(5,⟨[.agg g,.agg h],0,false,0,4611686018427387904,true⟩),(6,⟨[.agg [],.agg []],0,false,0,4611686018427387904,true⟩)],.dead,[]⟩ (.normal) ⟨[(3,.ptr 0 0 0),(4,.ptr 1 0 0),(13,.ptr 2 0 0)],[(0,⟨[.sl L.fx L.fn a,.sl L.sx L.sn b,.sl (dm L.ps) L.ps.length c],0,false,0,0,true⟩),(1,⟨[.int .i64 s],0,false,0,0,true⟩),(2,⟨[.mr 3 0],0,false,0,0,false⟩),(3,⟨[.agg ks,.agg vs],0,false,0,4611686018427387904,true⟩)],.dead,[]⟩):ah prog ap [] nt (cZ [1,1,1,1] (ag f22)) ⟨[(2,.sl (cL fr) fr.length d),(3,.ptr 0 0 0),(4,.ptr 1 0 0),(8,.ptr 3 0 0)],[(3,⟨[.mr 4 0],0,false,0,0,false⟩),(4,⟨[.agg g,.agg h],0,false,0,4611686018427387904,true⟩),(0,⟨[.sl L.fx L.fn a,.sl L.sx L.sn b,.sl (dm L.ps) L.ps.length c],0,false,0,0,true⟩),(1,⟨[.int .i64 s],0,false,0,0,true⟩)],.dead,[]⟩ .ret ⟨[(6,.ref 0 0 0 q)],[(0,⟨C2,0,false,0,2,true⟩)],.dead,[]⟩:=by
 exact pN 22 [4] 0 0 (.n 6 .nil) (.c e (.c f (.l l1 .nil))) i
theorem Ws {nt:Nat} (i:60≤nt) (L:Lw) (a b c:Bool) (s:Int) (fr:List Cl) (d:Bool) (g h ks vs:List AV) (f:CO 49 [.agg [.sl L.fx L.fn a,.sl L.sx L.sn b,.sl (dm L.ps) L.ps.length c],.int .i64 s] (.ret .nilS)) (e:ae prog ap 57 [.nilS,.fn 58 [] [.ptr 0 0 0]] [⟨[.mr 1 0],0,false,0,0,false⟩,⟨[.agg ks,.agg vs],0,false,0,4611686018427387904,true⟩] (.ret .nilS) [⟨[.mr 1 0],0,false,0,0,false⟩,⟨[.agg ks,.agg vs],0,false,0,4611686018427387904,true⟩])
  (l1:aK prog ap [] 60 (.block 4 (.loop (af 4 (ag f22)))) ⟨[(0,.dead),(1,.dead),(2,.sl (cL fr) fr.length d),(3,.ptr 0 0 0),(4,.ptr 1 0 0),(6,.dead),(7,.dead),(8,.ptr 2 0 0),(9,.dead),(10,.dead),(12,.dead),(13,.ptr 3 0 0),(14,.ptr 4 0 0),(16,.dead),(22,.dead),(24,.dead),(28,.dead),(29,.dead),(30,.dead),(31,.dead),(45,.sl (cL fr) fr.length d),(46,.int .i64 (fr.length:Int)),(47,.int .i64 0),(48,.dead)],[(0,⟨[.sl L.fx L.fn a,.sl L.sx L.sn b,.sl (dm L.ps) L.ps.length c],0,false,0,0,true⟩),(1,⟨[.int .i64 s],0,false,0,0,true⟩),(2,⟨[.mr 5 0],0,false,0,0,false⟩),(3,⟨[.mr 6 0],0,false,0,0,false⟩),(4,⟨[.fn 56 [] [.ptr 3 0 0,.ptr 0 0 0,.ptr 1 0 0,.ptr 2 0 0,.ptr 4 0 0]],0,false,0,0,false⟩),(5,⟨[.agg g,.agg h],0,false,0,4611686018427387904,true⟩),(6,⟨[.agg [],.agg []],0,false,0,4611686018427387904,true⟩)],.dead,[]⟩ (.normal) ⟨[(3,.ptr 0 0 0),(4,.ptr 1 0 0),(13,.ptr 2 0 0)],[(0,⟨[.sl L.fx L.fn a,.sl L.sx L.sn b,.sl (dm L.ps) L.ps.length c],0,false,0,0,true⟩),(1,⟨[.int .i64 s],0,false,0,0,true⟩),(2,⟨[.mr 3 0],0,false,0,0,false⟩),(3,⟨[.agg ks,.agg vs],0,false,0,4611686018427387904,true⟩)],.dead,[]⟩):ah prog ap [] nt (cZ [1,1,1,1] (ag f22)) ⟨[(2,.sl (cL fr) fr.length d),(3,.ptr 0 0 0),(4,.ptr 1 0 0),(8,.ptr 3 0 0)],[(3,⟨[.mr 4 0],0,false,0,0,false⟩),(4,⟨[.agg g,.agg h],0,false,0,4611686018427387904,true⟩),(0,⟨[.sl L.fx L.fn a,.sl L.sx L.sn b,.sl (dm L.ps) L.ps.length c],0,false,0,0,true⟩),(1,⟨[.int .i64 s],0,false,0,0,true⟩)],.dead,[]⟩ .ret ⟨[(6,.nilS)],[],.dead,[]⟩:=by
 exact pN 22 [4] 0 0 (.n 6 .nil) (.c e (.c f (.l l1 .nil))) i
theorem RY:ag f22= .seq (cZ [0] (ag f22)) (.seq (cZ [1,0] (ag f22)) (.seq (cZ [1,1,0] (ag f22)) (.seq (cZ [1,1,1,0] (ag f22)) (cZ [1,1,1,1] (ag f22))))):=by kernel_rfl
theorem xK:∀ (r A:List Cl) (z:Cl),(rZ A z r).length≤A.length+r.length
 | [],A,z=>by simp [rZ]
 |y::r,A,z=>by
  unfold rZ
  split
  ·have:=xK r A y;simp;omega
  ·have:=xK r (A++ [y]) y;simp at this ⊢;omega
theorem lX {L:Lw} (a:qi L) (s:Int) (w:Cl):(iH L s w).length≤12:=by
 unfold iH
 split
 ·have b:(iy (qf L s w ((L.ps[w.2.toNat]?.map Pv.body).getD []))).length≤12:=by
   rw [(yD _).length_eq]
   cases h:L.ps[w.2.toNat]? with
   |none=>simp [qf]
   |some p=>exact (a.2 p (List.mem_of_getElem? h)).2 s w
  generalize iy (qf L s w ((L.ps[w.2.toNat]?.map Pv.body).getD []))=l at*
  cases l with
  |nil=>simp [dA]
  |cons x l=>
   have:=xK l [x] x
   simp only [dA]
   simp at this b ⊢
   omega
 ·simp
theorem eQ (s:Int) (n:Nat):(ax s n).length≤n+n:=by
 have a:∀ q,(mY s n q).length≤n:=fun q=>by
  unfold mY
  rw [List.length_flatMap]
  have:∀ l:List Nat,(l.map fun k=>(if aI s n (((q:Nat):Int),((k:Nat):Int)) then [((((q:Nat):Int),((k:Nat):Int)):Cl)] else []).length).sum≤l.length:=by
   intro l
   induction l with
   |nil=>simp
   |cons x l ih=>simp only [List.map_cons,List.sum_cons,List.length_cons];split<;>simp<;>omega
  have:=this (List.range n)
  rwa [List.length_range] at this
 unfold ax
 rw [List.length_append]
 exact Nat.add_le_add (a 0) (a 1)
theorem Gi (L:Lw) (a b c:Bool) (s:Int) (fr:List Cl) (g:Bool) (n:qi L) (t:L.ps.length<2^34) (u:fr.length<2^40) {e:bf} {d:St} (f:d.md= .dead)
  (tail:∀ done:List Nat,done.Nodup→(∀ i,i ∈ done↔i<(bM L s (ax s L.ps.length)).length)→∀ nt,60≤nt→ah prog ap [] nt (cZ [1,1,1,1] (ag f22)) (Ny (bQ (bM L s (ax s L.ps.length)) done) (L.c a b c) s fr g) e d) (nt:Nat) (hn:60≤nt):
  ah prog ap [] nt (ag f22) (dO .dead [.agg [.sl L.fx L.fn a,.sl L.sx L.sn b,.sl (dm L.ps) L.ps.length c],.int .i64 s,.sl (cL fr) fr.length g] []) e d:=by
 have k:=O0 L a b c s n (by omega)
 have r:∀ x ∈ bM L s (ax s L.ps.length),x.2.length≤12:=fun x o=>by
  unfold bM at o
  obtain ⟨y,_,rfl⟩:=List.mem_map.1 o
  exact lX n s y
 have m:(bM L s (ax s L.ps.length)).length≤L.ps.length+L.ps.length:=by
  unfold bM
  rw [List.length_map]
  exact eQ s _
 have q:=Nz Us hn (bM L s (ax s L.ps.length)) (L.c a b c) rfl s fr g 12 (by omega) r
 have hrest:ah prog ap [] nt (.seq (cZ [1,1,1,0] (ag f22)) (cZ [1,1,1,1] (ag f22))) (oO (bM L s (ax s L.ps.length)) (L.c a b c) s fr g) e d:=by
  refine (fM.seq (Post:=fun l j=>l=e∧j=d) q (fun j ⟨_,done,h1,h2,h3⟩=> ?_) (fun e j ⟨h,_⟩ hne=>absurd h hne) (fun l j h=>h.2 ▸ f)).one
  subst h3
  exact (tail done h1 h2 nt hn).any ⟨rfl,rfl⟩ (fun l j h=>h.2 ▸ f)
 rw [RY]
 refine (abo hn L a b c s fr g).seq ((abp hn L a b c s fr g _ _ k).seq ((abq hn L a b c s fr g _ _).seq ?_))
 have p:(ax s L.ps.length).map cA=(bM L s (ax s L.ps.length)).map fun x=>cA x.1:=by
  unfold bM
  rw [List.map_map]
  rfl
 rw [p]
 exact hrest
theorem OM (L:Lw) (a b c:Bool) (s:Int) (fr:List Cl) (d:Bool) (C2:List AV) (q:Nat) (h:∀ nt,60≤nt→ah prog ap [] nt (ag f22) (dO .dead [.agg [.sl L.fx L.fn a,.sl L.sx L.sn b,.sl (dm L.ps) L.ps.length c],.int .i64 s,.sl (cL fr) fr.length d] []) .ret ⟨[(6,.ref 0 0 0 q)],[(0,⟨C2,0,false,0,2,true⟩)],.dead,[]⟩):CO 22 [.agg [.sl L.fx L.fn a,.sl L.sx L.sn b,.sl (dm L.ps) L.ps.length c],.int .i64 s,.sl (cL fr) fr.length d] (.ret (.own (C2.take (q*2)) q 2)):=
 jB jY 0 (F:=⟨f22,[0,1,2,3,4,6,7,8,9,10,12,13,14,16,22,24,28,29,30,31,45,46,47,48],true⟩) rfl rfl h rfl (Nat.zero_le _) rfl
theorem Ez (L:Lw) (a b c:Bool) (s:Int) (fr:List Cl) (d:Bool) (h:∀ nt,60≤nt→ah prog ap [] nt (ag f22) (dO .dead [.agg [.sl L.fx L.fn a,.sl L.sx L.sn b,.sl (dm L.ps) L.ps.length c],.int .i64 s,.sl (cL fr) fr.length d] []) .ret ⟨[(6,.nilS)],[],.dead,[]⟩):CO 22 [.agg [.sl L.fx L.fn a,.sl L.sx L.sn b,.sl (dm L.ps) L.ps.length c],.int .i64 s,.sl (cL fr) fr.length d] (.ret .nilS):=
 jB jY 0 (F:=⟨f22,[0,1,2,3,4,6,7,8,9,10,12,13,14,16,22,24,28,29,30,31,45,46,47,48],true⟩) rfl rfl h rfl (Nat.zero_le _) rfl
theorem lQ (L:Lw) (a b c:Bool) (s:Int) (fr:List Cl) (j:Bool) (z:qi L) (F:L.ps.length<2^34) (B:fr.length<2^40) (o:Cl) (os:List Cl) (A:ax s L.ps.length=o::os):CO 22 [.agg (L.c a b c),.int .i64 s,.sl (cL fr) fr.length j] (.ret (.own (cL (ak L s fr)) (ak L s fr).length 2)):=by
 have u:∀ x ∈ bM L s (ax s L.ps.length),x.2.length≤12:=fun x C=>by
  unfold bM at C
  obtain ⟨y,_,rfl⟩:=List.mem_map.1 C
  exact lX z s y
 have t:(bM L s (ax s L.ps.length)).length≤L.ps.length+L.ps.length:=by
  unfold bM
  rw [List.length_map]
  exact eQ s _
 have G:=eQ s L.ps.length
 have n:∀ done:List Nat,done.Nodup→(∀ i,i ∈ done↔i<(bM L s (ax s L.ps.length)).length)→∀ d,fr.foldl (ja (bP (bQ (bM L s (ax s L.ps.length)) done)) (aI s L.ps.length) ((ax s L.ps.length).length+1)) []=d→aK prog ap [] 60 (.block 4 (.loop (af 4 (ag f22)))) (JC L a b c s fr j ((bQ (bM L s (ax s L.ps.length)) done).map fun x=>cA x.1) (tZ (bQ (bM L s (ax s L.ps.length)) done)) 0 [] []) .normal (OT L a b c s ((bQ (bM L s (ax s L.ps.length)) done).map fun x=>cA x.1) (tZ (bQ (bM L s (ax s L.ps.length)) done)) (d.map cA) (t_ d)):=fun done g m d e=>by
  have H:∀ x,(bP (bQ (bM L s (ax s L.ps.length)) done) x).length<2^40:=fun x=>by
   have E:=(lS _ 12 u x done).1
   rw [uM g m] at E
   omega
  have:=aQ.blk (id:=4) (e':= .normal) (fun nt (r:60≤nt)=>xg r L a b c s fr j (bQ (bM L s (ax s L.ps.length)) done) H ((ax s L.ps.length).length+1) B fr [] [] rfl (Nat.lt_succ_of_le (List.length_filter_le _ _))) (by simp) rfl (aG.refl _) (aG.refl _)
  rw [e] at this
  exact this
 have l:=rX L a b c s (by omega)
 have k:OQ (ax s L.ps.length)= .own (cL (ax s L.ps.length)) (ax s L.ps.length).length 2:=by rw [A];rfl
 rw [k] at l
 clear k A
 have q:(cL (ak L s fr)++Dt ((ax s L.ps.length).length - (ak L s fr).length)).take ((ak L s fr).length*2)=cL (ak L s fr):=List.take_left' (bH _)
 refine ae.out (out:= .ret (.own ((cL (ak L s fr)++Dt ((ax s L.ps.length).length - (ak L s fr).length)).take ((ak L s fr).length*2)) (ak L s fr).length 2)) (by rw [q];exact ⟨fun _=>rfl,fun _ _ _ _ h=>h⟩) ?_
 refine OM L a b c s fr j _ _ (Gi L a b c s fr j z F B rfl fun done g m nt r=> ?_)
 obtain ⟨d,e⟩:∃ d,fr.foldl (ja (bP (bQ (bM L s (ax s L.ps.length)) done)) (aI s L.ps.length) ((ax s L.ps.length).length+1)) []=d:=⟨_,rfl⟩
 have v:=n done g m d e
 have D:=Js u m fr ((ax s L.ps.length).length+1) (Nat.lt_succ_self _)
 rw [e] at D
 have f:=Sr (d.map cA) (t_ d) (fun c=>decide (c ∈ d)) (fun x=>Wq d x) (ax s L.ps.length) (by omega)
 rw [D] at f
 unfold JC OT at v
 exact abr r L a b c s fr j _ _ (d.map cA) (t_ d) (ax s L.ps.length) (ak L s fr).length _ l f (fun nt p=>(v nt p).weak (aG.of ⟨rfl,rfl,rfl,rfl,rfl,rfl,rfl,rfl,trivial⟩) (aG.refl _))
theorem tu (L:Lw) (a b c:Bool) (s:Int) (fr:List Cl) (g:Bool) (k:qi L) (t:L.ps.length<2^34) (q:fr.length<2^40):CO 22 [.agg (L.c a b c),.int .i64 s,.sl (cL fr) fr.length g] (.ret (.sl (cL (ak L s fr)) (ak L s fr).length false)):=by
 have C:∀ x ∈ bM L s (ax s L.ps.length),x.2.length≤12:=fun x u=>by
  unfold bM at u
  obtain ⟨y,_,rfl⟩:=List.mem_map.1 u
  exact lX k s y
 have r:(bM L s (ax s L.ps.length)).length≤L.ps.length+L.ps.length:=by
  unfold bM
  rw [List.length_map]
  exact eQ s _
 have A:=eQ s L.ps.length
 have j:∀ done:List Nat,done.Nodup→(∀ i,i ∈ done↔i<(bM L s (ax s L.ps.length)).length)→∀ d,fr.foldl (ja (bP (bQ (bM L s (ax s L.ps.length)) done)) (aI s L.ps.length) ((ax s L.ps.length).length+1)) []=d→aK prog ap [] 60 (.block 4 (.loop (af 4 (ag f22)))) (JC L a b c s fr g ((bQ (bM L s (ax s L.ps.length)) done).map fun x=>cA x.1) (tZ (bQ (bM L s (ax s L.ps.length)) done)) 0 [] []) .normal (OT L a b c s ((bQ (bM L s (ax s L.ps.length)) done).map fun x=>cA x.1) (tZ (bQ (bM L s (ax s L.ps.length)) done)) (d.map cA) (t_ d)):=fun done e m d f=>by
  have D:∀ x,(bP (bQ (bM L s (ax s L.ps.length)) done) x).length<2^40:=fun x=>by
   have z:=(lS _ 12 C x done).1
   rw [uM e m] at z
   omega
  have:=aQ.blk (id:=4) (e':= .normal) (fun nt (l:60≤nt)=>xg l L a b c s fr g (bQ (bM L s (ax s L.ps.length)) done) D ((ax s L.ps.length).length+1) q fr [] [] rfl (Nat.lt_succ_of_le (List.length_filter_le _ _))) (by simp) rfl (aG.refl _) (aG.refl _)
  rw [f] at this
  exact this
 have h:=rX L a b c s (by omega)
 cases p:ax s L.ps.length with
 |nil=>
  have B:ak L s fr= []:=by unfold ak;rw [p];rfl
  rw [B]
  rw [p] at h
  refine (Ez L a b c s fr g (Gi L a b c s fr g k t q rfl fun done e m nt l=> ?_)).out (jE.ret rfl rfl (bC.nilS false rfl))
  obtain ⟨d,f⟩:∃ d,fr.foldl (ja (bP (bQ (bM L s (ax s L.ps.length)) done)) (aI s L.ps.length) ((ax s L.ps.length).length+1)) []=d:=⟨_,rfl⟩
  have v:=j done e m d f
  unfold JC OT at v
  exact Ws l L a b c s fr g _ _ (d.map cA) (t_ d) h (GN _ _) (fun nt n=>(v nt n).weak (aG.of ⟨rfl,rfl,rfl,rfl,rfl,rfl,rfl,rfl,trivial⟩) (aG.refl _))
 |cons o os=>
  exact Ce (ak L s fr) (cL (ak L s fr)) (by rw [← bH,List.take_length]) (lQ L a b c s fr g k t q o os p)
theorem uT (L:Lw) (s:Int) (fr:List Cl):ak L s fr=(ax s L.ps.length).filter fun c=>decide (c ∈ fr.foldl (ja (jd L s) (aI s L.ps.length) ((ax s L.ps.length).length+1)) []):=by
 classical
 unfold ak
 refine List.filter_congr fun c b=> ?_
 rw [decide_eq_decide,Iu (C:=ax s L.ps.length) (fun x a=>jI.2 a) fr _ (Nat.lt_succ_self _)]
def iL (l:List Int):List AV:=l.map fun a=> .int .i64 a
theorem Oo {a:List Int} {i:Nat} (h:i<a.length):List.drop (Int.toNat (i:Int)*1) (iL a)= [AV.int .i64 (a.getD i 0)]++iL (a.drop (i+1)):=by
 unfold iL
 rw [fD,Nat.mul_one,← List.map_drop,List.drop_eq_getElem_cons h,List.getD_eq_getElem?_getD,List.getElem?_eq_getElem h]
 rfl
abbrev dB (xs:List Int) (nn:Bool) (k:Nat):aJ:=⟨[.sl (iL xs) xs.length nn,.int .i64 (k:Int)],0,false,0,0,true⟩
theorem Iy {x:Int} (h: -2^63≤x) (a:x<2^63):IntKind.wrap .i64 x=x:=nD h a
theorem OD (a:Int) (n:Nat) (i:0<n) (e:n<1000):∃ k:Nat,k<n∧CO 61 [.int .i64 a,.int .i64 (n:Int)] (.ret (.int .i64 (k:Int))):=by
 have c:(!((n:Int)==((0:Nat):Int)))=true:=by simp;omega
 have g:=Int.tmod_lt_of_pos a (b:=(n:Int)) (by omega)
 have f: -(n:Int)<Int.tmod a n:=by
  have:=Int.tmod_lt_of_pos (-a) (b:=(n:Int)) (by omega)
  rw [Int.neg_tmod] at this
  omega
 by_cases h:Int.tmod a n<0
 ·have d:(decide ((Int.tmod a (n:Int))<((0:Nat):Int)))=true:=decide_eq_true h
  have hp:CO 61 [.int .i64 a,.int .i64 (n:Int)] (.ret (.int .i64 (IntKind.wrap .i64 ((Int.tmod a (n:Int))+(n:Int))))):=pK [] 1 1 (.c (aN d) (.c c .nil)) (.nil)
  rw [Iy (by omega) (by omega)] at hp
  refine ⟨(Int.tmod a n+n).toNat,by omega, ?_⟩
  rw [Int.toNat_of_nonneg (by omega)]
  exact hp
 ·have d:(decide ((Int.tmod a (n:Int))<((0:Nat):Int)))=false:=decide_eq_false h
  have hp:CO 61 [.int .i64 a,.int .i64 (n:Int)] (.ret (.int .i64 (Int.tmod a (n:Int)))):=pK [] 1 0 (.c (aT d) (.c c .nil)) (.nil)
  refine ⟨(Int.tmod a n).toNat,by omega, ?_⟩
  rw [Int.toNat_of_nonneg (by omega)]
  exact hp
theorem OE (a:Int) (n:Nat) (i:0<n) (e:n<1000):∃ k:Nat,k<n∧CO 86 [.int .i64 a,.int .i64 (n:Int)] (.ret (.int .i64 (k:Int))):=by
 have c:(!((n:Int)==((0:Nat):Int)))=true:=by simp;omega
 have g:=Int.tmod_lt_of_pos a (b:=(n:Int)) (by omega)
 have f: -(n:Int)<Int.tmod a n:=by
  have:=Int.tmod_lt_of_pos (-a) (b:=(n:Int)) (by omega)
  rw [Int.neg_tmod] at this
  omega
 by_cases h:Int.tmod a n<0
 ·have d:(decide ((Int.tmod a (n:Int))<((0:Nat):Int)))=true:=decide_eq_true h
  have hp:CO 86 [.int .i64 a,.int .i64 (n:Int)] (.ret (.int .i64 (IntKind.wrap .i64 ((Int.tmod a (n:Int))+(n:Int))))):=pK [] 1 1 (.c (aN d) (.c c .nil)) (.nil)
  rw [Iy (by omega) (by omega)] at hp
  refine ⟨(Int.tmod a n+n).toNat,by omega, ?_⟩
  rw [Int.toNat_of_nonneg (by omega)]
  exact hp
 ·have d:(decide ((Int.tmod a (n:Int))<((0:Nat):Int)))=false:=decide_eq_false h
  have hp:CO 86 [.int .i64 a,.int .i64 (n:Int)] (.ret (.int .i64 (Int.tmod a (n:Int)))):=pK [] 1 0 (.c (aT d) (.c c .nil)) (.nil)
  refine ⟨(Int.tmod a n).toNat,by omega, ?_⟩
  rw [Int.toNat_of_nonneg (by omega)]
  exact hp
theorem gp (a:List Int) (f:Bool) (k n:Nat) (i:k<2^62) (g:0<n) (c:n<1000):∃ r k':Nat,r<n∧k'≤k+1∧ae prog ap 63 [.ptr 0 0 0,.int .i64 (n:Int)] [dB a f k] (.ret (.int .i64 (r:Int))) [dB a f k']:=by
 by_cases h:k<a.length
 ·obtain ⟨r,j,hm⟩:=OE (a.getD k 0) n g c
  have l:=Oo h
  have e:(decide ((a.length:Int)≤(k:Int)))=false:=decide_eq_false (by omega)
  have d:(decide (((0:Nat):Int)≤(k:Int)))=true:=(k0 _)
  have b:(decide ((k:Int)<(a.length:Int)))=true:=(kl h)
  exact ⟨r,k+1,j,Nat.le_refl _,pK [] 1 0 (.k 1 d (.c b (.k 4 (aT e) (.n 2 .nil)))) (.c hm (.v 31 (.ppt l) (.v 30 (.eq (NH i)) (.v 19 (.eq (wpS i)) .nil))))⟩
 ·have e:(decide ((a.length:Int)≤(k:Int)))=true:=decide_eq_true (by omega)
  exact ⟨0,k,g,Nat.le_succ _,pK [] 1 1 (.c (aN e) (.n 2 .nil)) (.nil)⟩
theorem CQ (k:Nat) (h:k<8):CO 62 [.int .i64 (k:Int)] (.ret (.str [UInt8.ofNat (97+k)])):=by
 match k,h with
 |0,_=>exact cD [] .nil
 |1,_=>exact cD [] .nil
 |2,_=>exact cD [] .nil
 |3,_=>exact cD [] .nil
 |4,_=>exact cD [] .nil
 |5,_=>exact cD [] .nil
 |6,_=>exact cD [] .nil
 |7,_=>exact cD [] .nil
def aB:List Nat:= [25,59,60,64,65,101,104,106,114,143,146,147]
theorem gB:CO 65 [.int .i64 1] (.ret (.str [1])):=cD aB (.nil)
theorem gq2:CO 25 [.int .i64 1] (.ret (.agg [.bool false,.str [1],.str [1]])):=cD aB (.c gB (.c gB .nil))
theorem VS:CO 65 [.int .i64 2] (.ret (.str [2])):=cD aB (.nil)
theorem VT:CO 25 [.int .i64 2] (.ret (.agg [.bool false,.str [2],.str [1]])):=cD aB (.c gB (.c VS .nil))
theorem gq7:CO 65 [.int .i64 3] (.ret (.str [3])):=cD aB (.nil)
theorem gq8:CO 25 [.int .i64 3] (.ret (.agg [.bool false,.str [3],.str [1]])):=cD aB (.c gB (.c gq7 .nil))
theorem SI:CO 65 [.int .i64 4] (.ret (.str [4])):=cD aB (.nil)
theorem aaj:CO 25 [.int .i64 4] (.ret (.agg [.bool false,.str [4],.str [1]])):=cD aB (.c gB (.c SI .nil))
theorem IY:CO 65 [.int .i64 5] (.ret (.str [5])):=cD aB (.nil)
theorem aak:CO 25 [.int .i64 5] (.ret (.agg [.bool false,.str [5],.str [1]])):=cD aB (.c gB (.c IY .nil))
theorem aal:CO 65 [.int .i64 6] (.ret (.str [6])):=cD aB (.nil)
theorem aam:CO 25 [.int .i64 6] (.ret (.agg [.bool false,.str [6],.str [1]])):=cD aB (.c gB (.c aal .nil))
theorem aan:CO 65 [.int .i64 7] (.ret (.str [7])):=cD aB (.nil)
theorem aao:CO 25 [.int .i64 7] (.ret (.agg [.bool false,.str [7],.str [1]])):=cD aB (.c gB (.c aan .nil))
theorem aap:CO 65 [.int .i64 8] (.ret (.str [8])):=cD aB (.nil)
theorem aaq:CO 25 [.int .i64 8] (.ret (.agg [.bool false,.str [8],.str [1]])):=cD aB (.c gB (.c aap .nil))
theorem VH:CO 65 [.int .i64 9] (.ret (.str [9])):=cD aB (.nil)
theorem aar:CO 25 [.int .i64 9] (.ret (.agg [.bool false,.str [9],.str [1]])):=cD aB (.c gB (.c VH .nil))
theorem FN:CO 65 [.int .i64 10] (.ret (.str [10])):=cD aB (.nil)
theorem FO:CO 25 [.int .i64 10] (.ret (.agg [.bool false,.str [10],.str [1]])):=cD aB (.c gB (.c FN .nil))
theorem aas:CO 65 [.int .i64 11] (.ret (.str [11])):=cD aB (.nil)
theorem aat:CO 25 [.int .i64 11] (.ret (.agg [.bool false,.str [11],.str [1]])):=cD aB (.c gB (.c aas .nil))
theorem aau:CO 65 [.int .i64 12] (.ret (.str [12])):=cD aB (.nil)
theorem aav:CO 25 [.int .i64 12] (.ret (.agg [.bool false,.str [12],.str [1]])):=cD aB (.c gB (.c aau .nil))
theorem aaw:CO 65 [.int .i64 13] (.ret (.str [13])):=cD aB (.nil)
theorem aax:CO 25 [.int .i64 13] (.ret (.agg [.bool false,.str [13],.str [1]])):=cD aB (.c gB (.c aaw .nil))
theorem aay:CO 65 [.int .i64 14] (.ret (.str [14])):=cD aB (.nil)
theorem aaz:CO 25 [.int .i64 14] (.ret (.agg [.bool false,.str [14],.str [1]])):=cD aB (.c gB (.c aay .nil))
theorem aaA:CO 65 [.int .i64 15] (.ret (.str [15])):=cD aB (.nil)
theorem aaB:CO 25 [.int .i64 15] (.ret (.agg [.bool false,.str [15],.str [1]])):=cD aB (.c gB (.c aaA .nil))
theorem aaC:CO 65 [.int .i64 16] (.ret (.str [16])):=cD aB (.nil)
theorem aaD:CO 25 [.int .i64 16] (.ret (.agg [.bool false,.str [16],.str [1]])):=cD aB (.c gB (.c aaC .nil))
theorem aaE:CO 65 [.int .i64 17] (.ret (.str [17])):=cD aB (.nil)
theorem aaF:CO 25 [.int .i64 17] (.ret (.agg [.bool false,.str [17],.str [1]])):=cD aB (.c gB (.c aaE .nil))
theorem aaG:CO 65 [.int .i64 18] (.ret (.str [18])):=cD aB (.nil)
theorem aaH:CO 25 [.int .i64 18] (.ret (.agg [.bool false,.str [18],.str [1]])):=cD aB (.c gB (.c aaG .nil))
theorem aaI:CO 65 [.int .i64 19] (.ret (.str [19])):=cD aB (.nil)
theorem aaJ:CO 25 [.int .i64 19] (.ret (.agg [.bool false,.str [19],.str [1]])):=cD aB (.c gB (.c aaI .nil))
theorem Ol:CO 65 [.int .i64 20] (.ret (.str [20])):=cD aB (.nil)
theorem VU:CO 25 [.int .i64 20] (.ret (.agg [.bool false,.str [20],.str [1]])):=cD aB (.c gB (.c Ol .nil))
theorem aaK:CO 65 [.int .i64 21] (.ret (.str [21])):=cD aB (.nil)
theorem aaL:CO 25 [.int .i64 21] (.ret (.agg [.bool false,.str [21],.str [1]])):=cD aB (.c gB (.c aaK .nil))
theorem aaM:CO 65 [.int .i64 22] (.ret (.str [22])):=cD aB (.nil)
theorem aaN:CO 25 [.int .i64 22] (.ret (.agg [.bool false,.str [22],.str [1]])):=cD aB (.c gB (.c aaM .nil))
theorem aaO:CO 65 [.int .i64 23] (.ret (.str [23])):=cD aB (.nil)
theorem aaP:CO 25 [.int .i64 23] (.ret (.agg [.bool false,.str [23],.str [1]])):=cD aB (.c gB (.c aaO .nil))
theorem aaR:CO 65 [.int .i64 24] (.ret (.str [24])):=cD aB (.nil)
theorem aaS:CO 25 [.int .i64 24] (.ret (.agg [.bool false,.str [24],.str [1]])):=cD aB (.c gB (.c aaR .nil))
theorem aaT:CO 65 [.int .i64 25] (.ret (.str [25])):=cD aB (.nil)
theorem aaU:CO 25 [.int .i64 25] (.ret (.agg [.bool false,.str [25],.str [1]])):=cD aB (.c gB (.c aaT .nil))
theorem aaV:CO 65 [.int .i64 26] (.ret (.str [26])):=cD aB (.nil)
theorem aaW:CO 25 [.int .i64 26] (.ret (.agg [.bool false,.str [26],.str [1]])):=cD aB (.c gB (.c aaV .nil))
theorem aaX:CO 65 [.int .i64 27] (.ret (.str [27])):=cD aB (.nil)
theorem aaY:CO 25 [.int .i64 27] (.ret (.agg [.bool false,.str [27],.str [1]])):=cD aB (.c gB (.c aaX .nil))
theorem aaZ:CO 65 [.int .i64 28] (.ret (.str [28])):=cD aB (.nil)
theorem aa0:CO 25 [.int .i64 28] (.ret (.agg [.bool false,.str [28],.str [1]])):=cD aB (.c gB (.c aaZ .nil))
theorem aa1:CO 65 [.int .i64 29] (.ret (.str [29])):=cD aB (.nil)
theorem aa2:CO 25 [.int .i64 29] (.ret (.agg [.bool false,.str [29],.str [1]])):=cD aB (.c gB (.c aa1 .nil))
theorem aa3:CO 65 [.int .i64 30] (.ret (.str [30])):=cD aB (.nil)
theorem aa4:CO 25 [.int .i64 30] (.ret (.agg [.bool false,.str [30],.str [1]])):=cD aB (.c gB (.c aa3 .nil))
theorem aa5:CO 65 [.int .i64 31] (.ret (.str [31])):=cD aB (.nil)
theorem aa6:CO 25 [.int .i64 31] (.ret (.agg [.bool false,.str [31],.str [1]])):=cD aB (.c gB (.c aa5 .nil))
theorem aa7:CO 65 [.int .i64 32] (.ret (.str [32])):=cD aB (.nil)
theorem aa8:CO 25 [.int .i64 32] (.ret (.agg [.bool false,.str [32],.str [1]])):=cD aB (.c gB (.c aa7 .nil))
theorem aa9:CO 65 [.int .i64 33] (.ret (.str [33])):=cD aB (.nil)
theorem aa_:CO 25 [.int .i64 33] (.ret (.agg [.bool false,.str [33],.str [1]])):=cD aB (.c gB (.c aa9 .nil))
theorem UW:CO 65 [.int .i64 34] (.ret (.str [34])):=cD aB (.nil)
theorem UX:CO 25 [.int .i64 34] (.ret (.agg [.bool false,.str [34],.str [1]])):=cD aB (.c gB (.c UW .nil))
theorem UY:CO 65 [.int .i64 35] (.ret (.str [35])):=cD aB (.nil)
theorem UZ:CO 25 [.int .i64 35] (.ret (.agg [.bool false,.str [35],.str [1]])):=cD aB (.c gB (.c UY .nil))
theorem U0:CO 65 [.int .i64 36] (.ret (.str [36])):=cD aB (.nil)
theorem U1:CO 25 [.int .i64 36] (.ret (.agg [.bool false,.str [36],.str [1]])):=cD aB (.c gB (.c U0 .nil))
theorem U2:CO 65 [.int .i64 37] (.ret (.str [37])):=cD aB (.nil)
theorem U3:CO 25 [.int .i64 37] (.ret (.agg [.bool false,.str [37],.str [1]])):=cD aB (.c gB (.c U2 .nil))
theorem U4:CO 65 [.int .i64 38] (.ret (.str [38])):=cD aB (.nil)
theorem U5:CO 25 [.int .i64 38] (.ret (.agg [.bool false,.str [38],.str [1]])):=cD aB (.c gB (.c U4 .nil))
theorem U6:CO 65 [.int .i64 39] (.ret (.str [39])):=cD aB (.nil)
theorem U7:CO 25 [.int .i64 39] (.ret (.agg [.bool false,.str [39],.str [1]])):=cD aB (.c gB (.c U6 .nil))
theorem U8:CO 65 [.int .i64 40] (.ret (.str [40])):=cD aB (.nil)
theorem U9:CO 25 [.int .i64 40] (.ret (.agg [.bool false,.str [40],.str [1]])):=cD aB (.c gB (.c U8 .nil))
theorem U_:CO 65 [.int .i64 41] (.ret (.str [41])):=cD aB (.nil)
theorem Va:CO 25 [.int .i64 41] (.ret (.agg [.bool false,.str [41],.str [1]])):=cD aB (.c gB (.c U_ .nil))
theorem Kq:CO 147 [.str [1]] (.ret (.tup [.int .i64 1,.bool true])):=cD aB (.nil)
theorem lI:CO 106 [.str [1],.int .i64 7] (.ret (.tup [.int .i64 1,.bool true])):=cD aB (.c Kq .nil)
theorem gX:CO 65 [.int .i64 0] (.ret (.str [])):=cD aB (.nil)
theorem AU:CO 146 [.str [1],.str [1]] (.ret (.tup [.str [1],.str [],.bool true])):=cD aB (.c gX (.c gB (.c lI (.c lI .nil))))
theorem qC:CO 143 [.str [1],.str [1]] (.ret (.int .i64 0)):=cD aB (.nil)
theorem Kr:CO 114 [.agg [.bool false,.str [1],.str [1]]] (.ret (.bool true)):=cD aB (.c qC (.c gB (.c AU .nil)))
theorem PD:CO 147 [.str [2]] (.ret (.tup [.int .i64 2,.bool true])):=cD aB (.nil)
theorem D8:CO 106 [.str [2],.int .i64 7] (.ret (.tup [.int .i64 2,.bool true])):=cD aB (.c PD .nil)
theorem Kt:CO 146 [.str [2],.str [1]] (.ret (.tup [.str [2],.str [],.bool true])):=cD aB (.c gX (.c VS (.c lI (.c D8 .nil))))
theorem PE:CO 114 [.agg [.bool false,.str [2],.str [1]]] (.ret (.bool true)):=cD aB (.c qC (.c gB (.c Kt .nil)))
theorem D9:CO 106 [.str [1],.int .i64 3] (.ret (.tup [.int .i64 1,.bool true])):=cD aB (.c Kq .nil)
theorem D_:CO 106 [.str [1],.int .i64 4] (.ret (.tup [.int .i64 1,.bool true])):=cD aB (.c Kq .nil)
theorem Ea:CO 104 [.str [1],.str [1]] (.ret (.str [1])):=cD aB (.c gB (.c D_ (.c D9 .nil)))
theorem Vb:CO 106 [.str [2],.int .i64 4] (.ret (.tup [.int .i64 2,.bool true])):=cD aB (.c PD .nil)
theorem PG:CO 104 [.str [1],.str [2]] (.ret (.str [2])):=cD aB (.c VS (.c Vb (.c D9 .nil)))
theorem Vd:CO 146 [.str [1],.str [2]] (.ret (.tup [.str [],.str [1],.bool true])):=cD aB (.c gB (.c gX (.c D8 (.c lI .nil))))
theorem Ve:CO 64 [.agg [.bool false,.str [1],.str [1]],.agg [.bool false,.str [2],.str [1]]] (.ret (.tup [.agg [.bool false,.str [1],.str [2]],.bool true])):=cD aB (.c Kt (.c AU (.c Kt (.c Vd (.c PG (.c Ea (.c PE (.c Kr .nil))))))))
theorem PH:CO 147 [.str [3]] (.ret (.tup [.int .i64 3,.bool true])):=cD aB (.nil)
theorem PI:CO 106 [.str [3],.int .i64 7] (.ret (.tup [.int .i64 3,.bool true])):=cD aB (.c PH .nil)
theorem Ku:CO 146 [.str [3],.str [1]] (.ret (.tup [.str [3],.str [],.bool true])):=cD aB (.c gX (.c gq7 (.c lI (.c PI .nil))))
theorem Vf:CO 114 [.agg [.bool false,.str [3],.str [1]]] (.ret (.bool true)):=cD aB (.c qC (.c gB (.c Ku .nil)))
theorem Vg:CO 106 [.str [3],.int .i64 4] (.ret (.tup [.int .i64 3,.bool true])):=cD aB (.c PH .nil)
theorem Vh:CO 104 [.str [1],.str [3]] (.ret (.str [3])):=cD aB (.c gq7 (.c Vg (.c D9 .nil)))
theorem Vj:CO 146 [.str [1],.str [3]] (.ret (.tup [.str [],.str [1],.bool true])):=cD aB (.c gB (.c gX (.c PI (.c lI .nil))))
theorem Vk:CO 64 [.agg [.bool false,.str [1],.str [1]],.agg [.bool false,.str [3],.str [1]]] (.ret (.tup [.agg [.bool false,.str [1],.str [3]],.bool true])):=cD aB (.c Ku (.c AU (.c Ku (.c Vj (.c Vh (.c Ea (.c Vf (.c Kr .nil))))))))
theorem PK:CO 147 [.str [4]] (.ret (.tup [.int .i64 4,.bool true])):=cD aB (.nil)
theorem PL:CO 106 [.str [4],.int .i64 7] (.ret (.tup [.int .i64 4,.bool true])):=cD aB (.c PK .nil)
theorem Kv:CO 146 [.str [4],.str [1]] (.ret (.tup [.str [4],.str [],.bool true])):=cD aB (.c gX (.c SI (.c lI (.c PL .nil))))
theorem Vl:CO 114 [.agg [.bool false,.str [4],.str [1]]] (.ret (.bool true)):=cD aB (.c qC (.c gB (.c Kv .nil)))
theorem Vm:CO 106 [.str [4],.int .i64 4] (.ret (.tup [.int .i64 4,.bool true])):=cD aB (.c PK .nil)
theorem Vo:CO 104 [.str [1],.str [4]] (.ret (.str [4])):=cD aB (.c SI (.c Vm (.c D9 .nil)))
theorem Vp:CO 146 [.str [1],.str [4]] (.ret (.tup [.str [],.str [1],.bool true])):=cD aB (.c gB (.c gX (.c PL (.c lI .nil))))
theorem Vq:CO 64 [.agg [.bool false,.str [1],.str [1]],.agg [.bool false,.str [4],.str [1]]] (.ret (.tup [.agg [.bool false,.str [1],.str [4]],.bool true])):=cD aB (.c Kv (.c AU (.c Kv (.c Vp (.c Vo (.c Ea (.c Vl (.c Kr .nil))))))))
theorem Vr:CO 59 [.int .i64 1,.int .i64 0] (.ret (.agg [.bool false,.int .i64 1,.int .i64 0])):=cD aB (.nil)
theorem PM:CO 25 [.int .i64 0] (.ret (.agg [.bool false,.str [],.str [1]])):=cD aB (.c gB (.c gX .nil))
theorem Kw:CO 65 [.int .i64 50] (.ret (.str [50])):=cD aB (.nil)
theorem G8:CO 25 [.int .i64 50] (.ret (.agg [.bool false,.str [50],.str [1]])):=cD aB (.c gB (.c Kw .nil))
theorem PN:CO 147 [.str [10]] (.ret (.tup [.int .i64 10,.bool true])):=cD aB (.nil)
theorem yj:CO 106 [.str [10],.int .i64 7] (.ret (.tup [.int .i64 10,.bool true])):=cD aB (.c PN .nil)
theorem G9:CO 146 [.str [10],.str [1]] (.ret (.tup [.str [10],.str [],.bool true])):=cD aB (.c gX (.c FN (.c lI (.c yj .nil))))
theorem PO:CO 114 [.agg [.bool false,.str [10],.str [1]]] (.ret (.bool true)):=cD aB (.c qC (.c gB (.c G9 .nil)))
theorem PP:CO 147 [.str [50]] (.ret (.tup [.int .i64 50,.bool true])):=cD aB (.nil)
theorem Eb:CO 106 [.str [50],.int .i64 7] (.ret (.tup [.int .i64 50,.bool true])):=cD aB (.c PP .nil)
theorem Vs:CO 146 [.str [50],.str [1]] (.ret (.tup [.str [50],.str [],.bool true])):=cD aB (.c gX (.c Kw (.c lI (.c Eb .nil))))
theorem Ky:CO 114 [.agg [.bool false,.str [50],.str [1]]] (.ret (.bool true)):=cD aB (.c qC (.c gB (.c Vs .nil)))
theorem Vt:CO 106 [.str [10],.int .i64 3] (.ret (.tup [.int .i64 10,.bool true])):=cD aB (.c PN .nil)
theorem Kz:CO 104 [.str [10],.str [1]] (.ret (.str [10])):=cD aB (.c FN (.c D_ (.c Vt .nil)))
theorem Vu:CO 106 [.str [50],.int .i64 4] (.ret (.tup [.int .i64 50,.bool true])):=cD aB (.c PP .nil)
theorem KA:CO 104 [.str [1],.str [50]] (.ret (.str [50])):=cD aB (.c Kw (.c Vu (.c D9 .nil)))
theorem PQ:CO 146 [.str [10],.str [50]] (.ret (.tup [.str [],.str [10],.bool true])):=cD aB (.c FN (.c gX (.c Eb (.c yj .nil))))
theorem Ec:CO 146 [.str [50],.str [10]] (.ret (.tup [.str [5],.str [],.bool true])):=cD aB (.c gX (.c IY (.c yj (.c Eb .nil))))
theorem PT:CO 146 [.str [10],.str [10]] (.ret (.tup [.str [1],.str [],.bool true])):=cD aB (.c gX (.c gB (.c yj (.c yj .nil))))
theorem PU:CO 64 [.agg [.bool false,.str [10],.str [1]],.agg [.bool false,.str [50],.str [1]]] (.ret (.tup [.agg [.bool false,.str [1],.str [5]],.bool true])):=cD aB (.c Ec (.c PT (.c Ec (.c PQ (.c KA (.c Kz (.c Ky (.c PO .nil))))))))
theorem PV:CO 146 [.str [10],.str [2]] (.ret (.tup [.str [5],.str [],.bool true])):=cD aB (.c gX (.c IY (.c D8 (.c yj .nil))))
theorem Vw:CO 146 [.str [2],.str [2]] (.ret (.tup [.str [1],.str [],.bool true])):=cD aB (.c gX (.c gB (.c D8 (.c D8 .nil))))
theorem G_:CO 64 [.agg [.bool false,.str [10],.str [1]],.agg [.bool false,.str [2],.str [1]]] (.ret (.tup [.agg [.bool false,.str [5],.str [1]],.bool true])):=cD aB (.c Vw (.c PV (.c PV (.c PG (.c Kz (.c PE (.c PO .nil)))))))
theorem Vx:CO 114 [.agg [.bool false,.str [],.str [1]]] (.ret (.bool true)):=cD aB (.c qC (.c gB .nil))
theorem PW:CO 147 [.str [5]] (.ret (.tup [.int .i64 5,.bool true])):=cD aB (.nil)
theorem Ha:CO 106 [.str [5],.int .i64 7] (.ret (.tup [.int .i64 5,.bool true])):=cD aB (.c PW .nil)
theorem KC:CO 146 [.str [5],.str [1]] (.ret (.tup [.str [5],.str [],.bool true])):=cD aB (.c gX (.c IY (.c lI (.c Ha .nil))))
theorem KD:CO 114 [.agg [.bool false,.str [5],.str [1]]] (.ret (.bool true)):=cD aB (.c qC (.c gB (.c KC .nil)))
theorem PX:CO 147 [.str []] (.ret (.tup [.int .i64 0,.bool true])):=cD aB (.nil)
theorem Vy:CO 106 [.str [],.int .i64 3] (.ret (.tup [.int .i64 0,.bool true])):=cD aB (.c PX .nil)
theorem Vz:CO 104 [.str [],.str [1]] (.ret (.str [])):=cD aB (.c gX (.c D_ (.c Vy .nil)))
theorem VA:CO 106 [.str [5],.int .i64 3] (.ret (.tup [.int .i64 5,.bool true])):=cD aB (.c PW .nil)
theorem KE:CO 104 [.str [5],.str [1]] (.ret (.str [5])):=cD aB (.c IY (.c D_ (.c VA .nil)))
theorem VB:CO 106 [.str [],.int .i64 7] (.ret (.tup [.int .i64 0,.bool true])):=cD aB (.c PX .nil)
theorem PY:CO 101 [.agg [.bool false,.str [],.str [1]],.agg [.bool false,.str [5],.str [1]]] (.ret (.agg [.bool false,.str [5],.str [1]])):=cD aB (.c AU (.c KC (.c KC (.c IY (.c Ha (.c VB (.c Ea (.c KE (.c Vz (.c KD (.c Vx .nil)))))))))))
theorem VC:CO 147 [.str [9]] (.ret (.tup [.int .i64 9,.bool true])):=cD aB (.nil)
theorem VD:CO 106 [.str [9],.int .i64 7] (.ret (.tup [.int .i64 9,.bool true])):=cD aB (.c VC .nil)
theorem VE:CO 25 [.int .i64 (-10)] (.ret (.agg [.bool true,.str [10],.str [1]])):=cD aB (.c gB (.c FN (.c lI (.c VD (.c gB (.c VH .nil))))))
theorem VF:CO 114 [.agg [.bool true,.str [10],.str [1]]] (.ret (.bool true)):=cD aB (.c qC (.c gB (.c G9 .nil)))
theorem VG:CO 64 [.agg [.bool true,.str [10],.str [1]],.agg [.bool false,.str [50],.str [1]]] (.ret (.tup [.agg [.bool true,.str [1],.str [5]],.bool true])):=cD aB (.c Ec (.c PT (.c Ec (.c PQ (.c KA (.c Kz (.c Ky (.c VF .nil))))))))
theorem PZ:CO 101 [.agg [.bool false,.str [5],.str [1]],.agg [.bool false,.str [5],.str [1]]] (.ret (.agg [.bool false,.str [10],.str [1]])):=cD aB (.c AU (.c G9 (.c G9 (.c FN (.c Ha (.c Ha (.c Ea (.c KE (.c KE (.c KD (.c KD .nil)))))))))))
theorem VI:CO 60 [.sl [.int .i64 20,.int .i64 9,.int .i64 1,.int .i64 0,.int .i64 9,.int .i64 1] 2 true] (.ret (.agg [.str zcc1_0,.int .i64 1,.int .i64 0,.sl [.bool false,.str [],.str [1],.bool false,.str [1],.str [5],.bool false,.str [5],.str [1],.bool true,.str [1],.str [5]] 2 true])):=cD aB (.c PZ (.c G_ (.c VT (.c FO (.c VG (.c G8 (.c VE (.c PY (.c G_ (.c VT (.c FO (.c PU (.c G8 (.c FO (.c PM .nil)))))))))))))))
theorem P5:CO 147 [.str [20]] (.ret (.tup [.int .i64 20,.bool true])):=cD aB (.nil)
theorem He:CO 106 [.str [20],.int .i64 7] (.ret (.tup [.int .i64 20,.bool true])):=cD aB (.c P5 .nil)
theorem VJ:CO 146 [.str [20],.str [1]] (.ret (.tup [.str [20],.str [],.bool true])):=cD aB (.c gX (.c Ol (.c lI (.c He .nil))))
theorem VK:CO 114 [.agg [.bool false,.str [20],.str [1]]] (.ret (.bool true)):=cD aB (.c qC (.c gB (.c VJ .nil)))
theorem VL:CO 106 [.str [20],.int .i64 3] (.ret (.tup [.int .i64 20,.bool true])):=cD aB (.c P5 .nil)
theorem VM:CO 104 [.str [20],.str [1]] (.ret (.str [20])):=cD aB (.c Ol (.c D_ (.c VL .nil)))
theorem VN:CO 146 [.str [20],.str [50]] (.ret (.tup [.str [],.str [20],.bool true])):=cD aB (.c Ol (.c gX (.c Eb (.c He .nil))))
theorem VO:CO 146 [.str [50],.str [20]] (.ret (.tup [.str [2],.str [10],.bool true])):=cD aB (.c FN (.c VS (.c He (.c Eb .nil))))
theorem P6:CO 146 [.str [20],.str [10]] (.ret (.tup [.str [2],.str [],.bool true])):=cD aB (.c gX (.c VS (.c yj (.c He .nil))))
theorem VP:CO 64 [.agg [.bool false,.str [20],.str [1]],.agg [.bool false,.str [50],.str [1]]] (.ret (.tup [.agg [.bool false,.str [2],.str [5]],.bool true])):=cD aB (.c Ec (.c P6 (.c P6 (.c VO (.c VN (.c KA (.c VM (.c Ky (.c VK .nil)))))))))
theorem VQ:CO 60 [.sl [.int .i64 20,.int .i64 9,.int .i64 1,.int .i64 30,.int .i64 9,.int .i64 1] 2 true] (.ret (.agg [.str zcc1_0,.int .i64 1,.int .i64 0,.sl [.bool false,.str [],.str [1],.bool false,.str [1],.str [5],.bool false,.str [5],.str [1],.bool false,.str [2],.str [5]] 2 true])):=cD aB (.c PZ (.c G_ (.c VT (.c FO (.c VP (.c G8 (.c VU (.c PY (.c G_ (.c VT (.c FO (.c PU (.c G8 (.c FO (.c PM .nil)))))))))))))))
theorem yV (n:Nat) (h:n<41):CO 25 [.int .i64 ((n+1:Nat):Int)] (.ret (.agg [.bool false,.str [UInt8.ofNat (n+1)],.str [1]])):=by
 match n,h with
 |0,_=>exact gq2
 |1,_=>exact VT
 |2,_=>exact gq8
 |3,_=>exact aaj
 |4,_=>exact aak
 |5,_=>exact aam
 |6,_=>exact aao
 |7,_=>exact aaq
 |8,_=>exact aar
 |9,_=>exact FO
 |10,_=>exact aat
 |11,_=>exact aav
 |12,_=>exact aax
 |13,_=>exact aaz
 |14,_=>exact aaB
 |15,_=>exact aaD
 |16,_=>exact aaF
 |17,_=>exact aaH
 |18,_=>exact aaJ
 |19,_=>exact VU
 |20,_=>exact aaL
 |21,_=>exact aaN
 |22,_=>exact aaP
 |23,_=>exact aaS
 |24,_=>exact aaU
 |25,_=>exact aaW
 |26,_=>exact aaY
 |27,_=>exact aa0
 |28,_=>exact aa2
 |29,_=>exact aa4
 |30,_=>exact aa6
 |31,_=>exact aa8
 |32,_=>exact aa_
 |33,_=>exact UX
 |34,_=>exact UZ
 |35,_=>exact U1
 |36,_=>exact U3
 |37,_=>exact U5
 |38,_=>exact U7
 |39,_=>exact U9
 |40,_=>exact Va
 |n+41,h=>exact absurd h (by omega)
theorem SK:CO 64 [.agg [.bool false,.str [1],.str [1]],.agg [.bool false,.str [2],.str [1]]] (.ret (.tup [.agg [.bool false,.str [1],.str [2]],.bool true])):=Ve
theorem SL:CO 64 [.agg [.bool false,.str [1],.str [1]],.agg [.bool false,.str [3],.str [1]]] (.ret (.tup [.agg [.bool false,.str [1],.str [3]],.bool true])):=Vk
theorem SN:CO 64 [.agg [.bool false,.str [1],.str [1]],.agg [.bool false,.str [4],.str [1]]] (.ret (.tup [.agg [.bool false,.str [1],.str [4]],.bool true])):=Vq
theorem xf:CO 59 [.int .i64 1,.int .i64 0] (.ret (.agg [.bool false,.int .i64 1,.int .i64 0])):=Vr
theorem Rq:CO 60 [.sl [.int .i64 20,.int .i64 9,.int .i64 1,.int .i64 0,.int .i64 9,.int .i64 1] 2 true] (.ret (.agg [.str zcc1_0,.int .i64 1,.int .i64 0,.sl [.bool false,.str [],.str [1],.bool false,.str [1],.str [5],.bool false,.str [5],.str [1],.bool true,.str [1],.str [5]] 2 true])):=VI
theorem Rt:CO 60 [.sl [.int .i64 20,.int .i64 9,.int .i64 1,.int .i64 30,.int .i64 9,.int .i64 1] 2 true] (.ret (.agg [.str zcc1_0,.int .i64 1,.int .i64 0,.sl [.bool false,.str [],.str [1],.bool false,.str [1],.str [5],.bool false,.str [5],.str [1],.bool false,.str [2],.str [5]] 2 true])):=VQ
end Go.Proofs.Tryz
