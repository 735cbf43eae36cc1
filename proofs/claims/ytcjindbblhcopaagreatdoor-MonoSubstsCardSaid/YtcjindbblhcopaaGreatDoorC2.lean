/- Contracts of functions that the law reaches, each by its own hypotheses; joined by a program of mine. -/
import Derived.Test.YtcjindbblhcopaaGreatDoorC1
import Derived.Test.YtcjindbblhcopaaGreatDoorM5
import Derived.RangeFuncBox
import Derived.RangeFuncCalls
import Derived.RangeFuncLeaves
import Derived.Shelf.Abstract
import Derived.WalkKit
import Derived.OwnWalkIn
import Derived.TacticsInMore
import Derived.LoopNIn
import Derived.LoopIn
set_option linter.unusedSimpArgs false
set_option linter.unusedVariables false
set_option maxRecDepth 100000
open Go AM
namespace Go.Proofs.Tryz
def a5c (x y:Nat) (na nb:Bool) (p:Nat × Nat):St:=⟨[(0,.sl (ad2 (ad6 x)) (ad6 x).length na),(1,.sl (ad2 (ad6 y)) (ad6 y).length nb),(5,.int .i64 (p.1:Int)),(6,.int .i64 (p.2:Int))],[],.dead,[]⟩
def aYX (q:Nat):St:=⟨[(5,.int .i64 (q:Int))],[],.dead,[]⟩
theorem aN2 {x d:Nat} (hd:d<16777216):(ad6 (x*d)).length≤(ad6 x).length+1:=by
 apply aDA
 have h1:=aAD x
 have hp:=aPi (ad6 x).length
 rw [Nat.pow_succ]
 rcases Nat.eq_zero_or_pos d with rfl|h0
 ·rw [Nat.mul_zero];exact Nat.mul_pos hp (by omega)
 ·exact Nat.lt_of_lt_of_le (Nat.mul_lt_mul_of_pos_right h1 h0) (Nat.mul_le_mul_left _ (by omega))
theorem aQU {nt:Nat} (hn:26≤nt) (x y:Nat) (na nb:Bool) (hy:0<y) (hxl:(ad6 x).length<2^36) (hyl:(ad6 y).length<2^35):∀ (n lo hi:Nat),hi - lo<n→lo≤x / y→x / y≤hi→hi<16777216→aea prog ap [] nt (lT 0 (adW f110)) (fun _=> .exit 0) (a5c x y na nb) aYX (lo,hi) (x / y):=by
 intro n
 induction n with
 |zero=>intro lo hi h;omega
 | succ n ih=>
  intro lo hi h h1 h2 h3
  rcases Nat.lt_or_ge lo hi with hlt|hge
  ·have hm1:(lo+hi+1) / 2<16777216:=by omega
   have hc:=aGd (y*((lo+hi+1) / 2)) x
   have ht:=aJb y ((lo+hi+1) / 2) nb hm1 (by omega)
   have hml:=aN2 (x:=y) hm1
   have hcm:=aLt (ad6 (y*((lo+hi+1) / 2))) (ad6 x) true na (auL.dig _) (auL.dig _) (by omega) (by omega)
   have hdiv:=Nat.le_div_iff_mul_le (x:=(lo+hi+1) / 2) (y:=x) hy
   rw [Nat.mul_comm] at hdiv
   have hz:((0:Nat):Int)=0:=rfl
   by_cases hle:y*((lo+hi+1) / 2)≤x
   ·have hmq:=hdiv.2 hle
    refine .next ?_ (ih ((lo+hi+1) / 2) hi (by omega) hmq h2 h3)
    have hb:=aYY hn x y (y*((lo+hi+1) / 2)) lo hi (aIh (ad6 (y*((lo+hi+1) / 2))) (ad6 x)) na nb
    simp (disch:=first|omega|(simp [ad4,ad7]<;>omega)) only [aot,an5,an7,au9,an9,az6] at hb
    exact hb (hc.2.2 hle) hlt ht hcm
   ·have hmq:x / y<(lo+hi+1) / 2:=Nat.lt_of_not_le (fun hq=>hle (hdiv.1 hq))
    refine .next ?_ (ih lo ((lo+hi+1) / 2 - 1) (by omega) h1 (by omega) (by omega))
    have hb:=aYZ hn x y (y*((lo+hi+1) / 2)) lo hi (aIh (ad6 (y*((lo+hi+1) / 2))) (ad6 x)) na nb
    simp (disch:=first|omega|(simp [ad4,ad7]<;>omega)) only [avs,avL,av4,an7,aot,an5,au9,an9,az6,awS] at hb
    exact hb (fun hq=>hle (hc.2.1 hq)) hlt ht hcm
  ·have he:lo=x / y:=by omega
   have hb:=aY0 hn x y 0 lo hi 0 na nb (by rw [an7];simp [lit];omega)
   rw [← he]
   exact .done hb
theorem aN3 (x y:Nat) (na nb:Bool) (hy:0<y) (hxy:x<y*16777216) (hxl:(ad6 x).length<2^36) (hyl:(ad6 y).length<2^35):CO 110 [.sl (ad2 (ad6 x)) (ad6 x).length na,.sl (ad2 (ad6 y)) (ad6 y).length nb] (.ret (.int .i64 ((x / y:Nat):Int))):=by
 have hq:x / y<16777216:=by rw [Nat.div_lt_iff_lt_mul hy,Nat.mul_comm];exact hxy
 exact aUy x y (x / y) na nb (aea.blk (fun nt hn=>aQU hn x y na nb hy hxl hyl 16777216 0 16777215 (by omega) (Nat.zero_le _) (Nat.le_of_lt_succ hq) (by omega)) (by simp) rfl (anT.of ⟨rfl,rfl,rfl,rfl,trivial⟩) (anT.of ⟨rfl,trivial⟩))
theorem ax0 (l:List UInt8) (c:UInt8):adX (l++ [c])=adX l*256+c.toNat:=by
 unfold adX;rw [List.foldl_append];rfl
theorem toNat_ofNat {x:Nat} (h:x<256):(UInt8.ofNat x).toNat=x:=by
 rw [UInt8.toNat_ofNat'];exact Nat.mod_eq_of_lt h
def bS (o:List Nat):List UInt8:=o.map UInt8.ofNat
theorem aWY (o:List Nat):List.map (fun c=>UInt8.ofNat (Int.toNat (AV.toInt c))) (u8L o)=bS o:=by
 unfold u8L bS;rw [List.map_map];rfl
theorem aLE (l:List Nat) (k:Nat):List.take k (u8L l)=u8L (l.take k):=by unfold u8L;rw [List.map_take]
def byL (l:List Nat):Nat→List Nat
 |0=> []
 |k+1=> [l.getD k 0 / 65536,l.getD k 0 / 256 % 256,l.getD k 0 % 256]++byL l k
theorem aJB (a b:List Nat):bS (a++b)=bS a++bS b:=by unfold bS;rw [List.map_append]
theorem aK1 {l:List Nat} (hl:auL l):∀ (k:Nat) (o:List Nat),k≤l.length→adX (bS (o++byL l k))=adX (bS o)*16777216^k+avr (l.take k)
 |0,o,_=>by simp [byL,avr]
 | k+1,o,h=>by
  simp only [byL]
  rw [← List.append_assoc,aK1 hl k _ (by omega),ayl (by omega)]
  have hd:=hl.getD k
  generalize l.getD k 0=d at*
  have e:adX (bS (o++ [d / 65536,d / 256 % 256,d % 256]))=adX (bS o)*16777216+d:=by
   rw [show o++ [d / 65536,d / 256 % 256,d % 256]=((o++ [d / 65536])++ [d / 256 % 256])++ [d % 256] by simp,aJB,aJB,aJB]
   simp only [bS,List.map_cons,List.map_nil]
   rw [ax0,ax0,ax0,toNat_ofNat (show d / 65536<256 by omega),toNat_ofNat (Nat.mod_lt _ (by omega)),toNat_ofNat (Nat.mod_lt _ (by omega))]
   omega
  rw [e,Nat.add_mul,Nat.pow_succ,Nat.mul_comm (16777216^k) 16777216,Nat.mul_assoc,Nat.mul_comm d]
  omega
def aQr (l:List Nat):AV:=match l with| []=> .nilS|x::l=> .ref 0 0 0 (x::l).length
def aQs (l:List Nat):Hp:=match l with| []=> []|x::l=> [(0,⟨u8L (x::l),0,false,0,1,true⟩)]
theorem aDy {l:List Nat} (h:l ≠ []):aQr l= .ref 0 0 0 l.length:=by cases l with|nil=>exact absurd rfl h|cons _ _=>rfl
theorem aDz {l:List Nat} (h:l ≠ []):aQs l= [(0,⟨u8L l,0,false,0,1,true⟩)]:=by cases l with|nil=>exact absurd rfl h|cons _ _=>rfl
def aVa (l:List Nat) (nn:Bool) (p:Nat × List Nat):St:=⟨[(0,.sl (ad2 l) l.length nn),(3,aQr p.2),(4,.int .i64 ((p.1:Int) - 1))],aQs p.2,.dead,[]⟩
def aO3 (o:List Nat):St:=⟨[(3,aQr o)],aQs o,.dead,[]⟩
theorem aSY (o:List Nat) (a b c:Nat):u8L o++ [AV.int .u8 (a:Int),AV.int .u8 (b:Int),AV.int .u8 (c:Int)]=u8L (o++ [a,b,c]):=by simp [u8L]
theorem aTF:(2:Nat)^16=65536:=by decide
theorem a0O:(2:Nat)^8=256:=by decide
theorem aRZ {nt:Nat} (hn:35≤nt) (l:List Nat) (nn:Bool) (hl:l.length<2^36) (hll:auL l):∀ (k:Nat) (o:List Nat),k≤l.length→o.length+3*k=3*l.length→aea prog ap [] nt (lT 0 (adW f79)) (fun _=> .exit 0) (aVa l nn) aO3 (k,o) (o++byL l k):=by
 intro k
 induction k with
 | zero=>
  intro o _ _
  simp only [byL,List.append_nil]
  refine .done ?_
  unfold aVa aO3
  rcases Decidable.em (o= []) with rfl|hne
  ·exact aR2 hn l [] nn
  ·rw [aDy hne,aDz hne]
   exact aR0 hn l o nn
 | succ k ih=>
  intro o hk ho
  have hd:=hll.getD k
  have ek:(((k+1:Nat):Int) - 1)=(k:Int):=by omega
  have ew:IntKind.wrap .i64 ((k:Int) - ((1:Nat):Int))=(k:Int) - 1:=auI (by omega) (by omega)
  have hnext:=ih (o++ [l.getD k 0 / 65536,l.getD k 0 / 256 % 256,l.getD k 0 % 256]) (by omega) (by simp;omega)
  rw [List.append_assoc] at hnext
  simp only [byL]
  refine .next ?_ hnext
  unfold aVa
  rw [ek]
  generalize hg:l.getD k 0=d at*
  have hne':o++ [d / 65536,d / 256 % 256,d % 256] ≠ []:=by simp
  rcases Decidable.em (o= []) with rfl|hne
  ·have hb:=aVc hn l [] k nn
   simp (disch:=first|omega|(simp [ad4,ad7]<;>omega)) only [aeb,Nat.mul_one,avT,hg,avj,avb,an5,an7,aot,ew,anY,show min 16 64=16 from rfl,ay3,aTF,w8u,Nat.mod_eq_of_lt,show min 8 64=8 from rfl,a0O] at hb
   simp only [List.nil_append,aQr,aQs,u8L,List.map_cons,List.map_nil,List.length_cons,List.length_nil] at hb ⊢
   apply hb<;>first|exact True.intro|omega|assumption|exact rfl
  ·have hb:=aVb hn l o k nn
   rw [aDy hne,aDz hne,aDy hne',aDz hne']
   simp (disch:=first|omega|(simp [ad4,ad7]<;>omega)) only [avG,an5,Nat.mul_one,ad7,aeb,avT,hg,avj,avb,an7,aot,ew,aLE,List.take_length,anY,show min 16 64=16 from rfl,ay3,aTF,w8u,Nat.mod_eq_of_lt,show min 8 64=8 from rfl,a0O,aSY] at hb
   simp only [List.length_append,List.length_cons,List.length_nil]
   apply hb<;>first|exact True.intro|omega|assumption|exact rfl
theorem aIM (l:List Nat) (nn:Bool) (hl:l.length<2^36) (hll:auL l):CO 79 [.sl (ad2 l) l.length nn] (.ret (.str (adF (avr l)))):=by
 have hloop:=fun nt (hn:35≤nt)=>aRZ hn l nn hl hll l.length [] (Nat.le_refl _) (by simp)
 have hv:=aK1 hll l.length [] (Nat.le_refl _)
 have hbl:(byL l l.length).length=3*l.length:=by
  have:∀ k,(byL l k).length=3*k:=by
   intro k
   induction k with
   |zero=>rfl
   |succ k ih=>simp only [byL,List.length_append,List.length_cons,List.length_nil,ih];omega
  exact this _
 have ew:IntKind.wrap .i64 ((l.length:Int) - ((1:Nat):Int))=(l.length:Int) - 1:=aEB (by omega)
 simp only [List.nil_append] at hloop hv
 rw [List.take_length,show adX (bS [])=0 from rfl,Nat.zero_mul,Nat.zero_add] at hv
 generalize byL l l.length=o at*
 rcases Decidable.em (o= []) with rfl|hne
 ·rw [← hv]
  exact aR3 l [] nn (aea.blk hloop (by simp) rfl (anT.of ⟨rfl,rfl,congrArg _ ew,trivial⟩) (anT.of ⟨rfl,trivial⟩)) (avR [] (by simp))
 ·have h:=aR1 l o nn
  have hc:=avR (bS o) (by simp [bS];omega)
  rw [hv] at hc
  have htk:List.take o.length (u8L o)=u8L o:=by rw [aLE,List.take_length]
  simp (disch:=first|omega|(simp [ad4,ad7]<;>omega)) only [Nat.mul_one,htk,aHu,an5,aWY,hv] at h
  apply h<;>first|exact True.intro|omega|assumption|exact rfl|skip
  ·exact ad7 o
  ·have:List.all (u8L o) (chk (.int .u8))=true:=by
    rw [List.all_eq_true];intro x hx
    obtain ⟨d,_,rfl⟩:=List.mem_map.1 hx
    rfl
   exact this
  ·exact aea.blk hloop (by simp) rfl (anT.of ⟨rfl,rfl,congrArg _ ew,trivial⟩) (by unfold aO3;rw [aDy hne,aDz hne];exact anT.of ⟨rfl,trivial⟩)
theorem avd (x:Nat) (hx:x<9223372036854775808):CO 49 [.int .i64 (x:Int)] (.ret (.str (adF x))):=by
 rcases Nat.eq_zero_or_pos x with rfl|h0
 ·exact aVI 0 rfl (avR [] (by simp))
 ·have h:=aVH x
  have e:∀ k,Int.toNat (IntKind.wrap .u8 (Int.fdiv (x:Int) (2^k)))=x / 2^k % 256:=by
   intro k;rw [ay3,w8u,aeb]
  simp only [show min 56 64=56 from rfl,show min 48 64=48 from rfl,show min 40 64=40 from rfl,show min 32 64=32 from rfl,show min 24 64=24 from rfl,show min 16 64=16 from rfl,show min 8 64=8 from rfl,show min 0 64=0 from rfl,e] at h
  have hc:=avR [UInt8.ofNat (x / 2^56 % 256),UInt8.ofNat (x / 2^48 % 256),UInt8.ofNat (x / 2^40 % 256),UInt8.ofNat (x / 2^32 % 256),UInt8.ofNat (x / 2^24 % 256),UInt8.ofNat (x / 2^16 % 256),UInt8.ofNat (x / 2^8 % 256),UInt8.ofNat (x / 2^0 % 256)] (by simp)
  have hv:adX [UInt8.ofNat (x / 2^56 % 256),UInt8.ofNat (x / 2^48 % 256),UInt8.ofNat (x / 2^40 % 256),UInt8.ofNat (x / 2^32 % 256),UInt8.ofNat (x / 2^24 % 256),UInt8.ofNat (x / 2^16 % 256),UInt8.ofNat (x / 2^8 % 256),UInt8.ofNat (x / 2^0 % 256)]=x:=by
   have t:∀ y,(UInt8.ofNat (y % 256)).toNat=y % 256:=fun y=>toNat_ofNat (Nat.mod_lt _ (by omega))
   simp only [adX,List.foldl_cons,List.foldl_nil,t]
   omega
  rw [hv] at hc h
  apply h
  ·rw [an7];exact decide_eq_true h0
  ·exact hc
def aTx (s:List UInt8) (k:Nat):St:=⟨[(0,.str s),(4,.int .i64 ((adX (s.take k):Nat):Int)),(5,.int .i64 (k:Int))],[],.dead,[]⟩
def aJ4 (s:List UInt8) (k:Nat):St:=⟨[(4,.int .i64 ((adX (s.take k):Nat):Int))],[],.dead,[]⟩
theorem aFt {s:List UInt8} {k:Nat} (h:k<s.length):adX (s.take (k+1))=adX (s.take k)*256+(s.getD k 0).toNat:=by
 rw [List.take_add_one,List.getElem?_eq_getElem h,List.getD_eq_getElem?_getD,List.getElem?_eq_getElem h]
 exact ax0 _ _
theorem aHS (s:List UInt8) (k:Nat):adX (s.take k)≤adX s:=by
 rcases Nat.lt_or_ge k s.length with h|h
 ·have e:s=s.take k++s.drop k:=(List.take_append_drop k s).symm
  have:∀ (b a:List UInt8),adX a≤adX (a++b):=by
   intro b
   induction b with
   |nil=>intro a;simp
   |cons c r ih=>
    intro a
    have h1:=ih (a++ [c])
    rw [ax0,List.append_assoc] at h1
    simp only [List.cons_append,List.nil_append] at h1
    omega
  calc adX (s.take k)≤adX (s.take k++s.drop k):=this _ _
   _=adX s:=by rw [← e]
 ·rw [List.take_of_length_le h];exact Nat.le_refl _
theorem aOv {nt:Nat} (hn:35≤nt) (s:List UInt8) (hs:s.length<2^40) (hv:adX s<9223372036854775808):∀ (d k:Nat),k+d=s.length→aea prog ap [] nt (lT 0 (adW f107)) (fun _=> .exit 0) (aTx s) (aJ4 s) k s.length:=by
 intro d
 induction d with
 |zero=>
  intro k hk
  have hk':k=s.length:=by omega
  subst hk'
  exact .done (aVw hn s _ _ (by rw [an7];simp [lit]))
 | succ d ih=>
  intro k hk
  have hks:k<s.length:=by omega
  refine .next ?_ (ih (k+1) (by omega))
  have hb:=aVv hn s (adX (s.take k)) k
  rw [aeb] at hb
  have h1:=aHS s (k+1)
  have h2:=aFt hks
  have h3:(s.getD k 0).toNat<256:=UInt8.toNat_lt _
  unfold aTx
  rw [h2]
  rw [h2] at h1
  generalize (s.getD k 0).toNat=c at*
  generalize adX (s.take k)=v at*
  have e1:IntKind.wrap .i64 ((v:Int)*2^(min 8 64))=((v*256:Nat):Int):=by
   rw [show min 8 64=8 from rfl,auI]<;>omega
  have e2:(((v*256:Nat):Int))+(c:Int)=((v*256+c:Nat):Int):=by omega
  have e3:IntKind.wrap .i64 (c:Int)=(c:Int):=an9 (by omega)
  rw [e3,e1,e2,an9 (by omega)] at hb
  simp (disch:=first|omega|(simp [ad4,ad7]<;>omega)) only [avb,an5,an7,aot,au9,an9] at hb
  apply hb<;>first|exact True.intro|omega|assumption|exact rfl
theorem aB7 {x k:Nat}:(adF x).length≤k↔x<2^(8*k):=by
 constructor
 ·intro h
  have h1:=aym (adF x)
  rw [anZ] at h1
  exact Nat.lt_of_lt_of_le h1 (Nat.pow_le_pow_right (by omega) (by omega))
 ·exact avV
theorem aUO (s:List UInt8) (hs:s.length<2^40) (hv:adX s<9223372036854775808):CO 107 [.str s] (.ret (.tup [.int .i64 ((adX s:Nat):Int),.bool true])):=by
 have hc:=avR s hs
 have hvn:=anZ (adX s)
 have hl:(adF (adX s)).length≤8:=avV (Nat.lt_of_lt_of_le hv (by decide))
 have hloop:=fun nt (hn:35≤nt)=>aOv hn (adF (adX s)) (by omega) (by rw [hvn];exact hv) (adF (adX s)).length 0 (by omega)
 have hless:anT ⟨[(4,.int .i64 ((adX s:Nat):Int))],[],.dead,[]⟩ (aJ4 (adF (adX s)) (adF (adX s)).length):=by
  unfold aJ4
  rw [List.take_length,hvn]
  exact anT.refl _
 have h2:=aSk s (adX s)
 have h3:=aSl s (adX s)
 have htop:(adF (adX s)).length=8→((adF (adX s)).getD 0 0).toNat≤127:=by
  intro h8
  cases hn:adF (adX s) with
  |nil=>rw [hn] at h8;cases h8
  |cons c r=>
   rw [hn] at h8 hvn
   rw [awk] at hvn
   have:r.length=7:=by simpa using h8
   rw [this,show 256^7=72057594037927936 from rfl] at hvn
   simp only [List.getD_cons_zero]
   omega
 generalize adF (adX s)=t at*
 by_cases h8:t.length=8
 ·have h127:=htop h8
  simp (disch:=first|omega|(simp [ad4,ad7]<;>omega)) only [an7,avs,avL,av4,h8,an5,ayp,decide_true,aot] at h2
  apply h2<;>first|exact True.intro|omega|assumption|exact rfl|skip
  exact aea.blk hloop (by simp) rfl (anT.of ⟨rfl,rfl,rfl,trivial⟩) hless
 ·simp (disch:=first|omega|(simp [ad4,ad7]<;>omega)) only [ayp,h8,decide_false,avs,Bool.not_false,an7,avL,av4] at h3
  apply h3<;>first|exact True.intro|omega|assumption|exact rfl|skip
  exact aea.blk hloop (by simp) rfl (anT.of ⟨rfl,rfl,rfl,trivial⟩) hless
theorem aCj (s:List UInt8) (b:Nat) (hs:s.length<2^40) (hb:b≤7) (hv:adX s<2^(8*b)):CO 77 [.str s,.int .i64 (b:Int)] (.ret (.tup [.int .i64 ((adX s:Nat):Int),.bool true])):=by
 have h:=a1R s (adX s) b
 have hlt:adX s<9223372036854775808:=Nat.lt_of_lt_of_le hv (Nat.le_trans (Nat.pow_le_pow_right (by omega) (show 8*b≤63 by omega)) (by decide))
 have hl:=aB7.2 hv
 simp (disch:=first|omega|(simp [ad4,ad7]<;>omega)) only [an7,avs,avL,av4] at h
 exact h (by omega) (avR s hs) (aUO s hs hlt)
theorem aFk (s:List UInt8) (b:Nat) (hs:s.length<2^40) (hv:2^(8*b)≤adX s):CO 77 [.str s,.int .i64 (b:Int)] (.ret (.tup [.int .i64 0,.bool false])):=by
 have h:=a1Q s 0 b
 have hl:¬ (adF (adX s)).length≤b:=fun h=>by have:=aB7.1 h;omega
 simp (disch:=first|omega|(simp [ad4,ad7]<;>omega)) only [an7,aot,an5] at h
 exact h (by omega) (avR s hs)
theorem aMn {d:Nat} (h:0<d):avo d=avo (d / 2)+1:=by
 rcases Nat.lt_or_ge d 2 with h1|h1
 ·have:d=1:=by omega
  subst this;rfl
 ·have:=aAi (x:=d) (k:=1) (by omega)
  rw [Nat.pow_one] at this;omega
def a3o (p:Nat × Nat):St:=⟨[(3,.int .i64 (p.1:Int)),(4,.int .i64 (p.2:Int))],[],.dead,[]⟩
def aWZ (n:Nat):St:=⟨[(3,.int .i64 (n:Int))],[],.dead,[]⟩
theorem aQD {nt:Nat} (hn:24≤nt):∀ (b n d:Nat),d<b→d<256→n+avo d<2^45→aea prog ap [] nt (lT 0 (adW f133)) (fun _=> .exit 0) a3o aWZ (n,d) (n+avo d):=by
 intro b
 induction b with
 |zero=>intro n d h;omega
 | succ b ih=>
  intro n d h hd hn1
  rcases Nat.eq_zero_or_pos d with rfl|h0
  ·exact .done (a1l hn n 0 rfl)
  ·have hh:=aMn h0
   rw [hh,show n+(avo (d / 2)+1)=n+1+avo (d / 2) by omega]
   refine .next ?_ (ih (n+1) (d / 2) (by omega) (by omega) (by omega))
   have hb:=a1k hn n d
   clear ih hh
   simp (disch:=first|omega|(simp [ad4,ad7]<;>omega)) only [an7,aot,an5,au9,an9,az6] at hb
   apply hb<;>first|exact True.intro|omega|assumption|exact rfl
theorem aIS (s:List UInt8) (hs:s.length<2^40):CO 133 [.str s] (.ret (.int .i64 ((avo (adX s):Nat):Int))):=by
 have hc:=avR s hs
 have hvn:=anZ (adX s)
 have hR:=aDJ (adX s)
 have hlen:(adF (adX s)).length≤s.length:=axu (Nat.le_refl _)
 have h0:=aVm s 0
 have h1:=aVn s (avo (adX s))
 cases hn:adF (adX s) with
 |nil=>
  rw [hn] at h0 hvn hc
  rw [← hvn]
  exact h0 rfl hc
 | cons c r=>
  rw [hn] at h1 hvn hc hR hlen
  have hc0:c ≠ 0:=by simpa [nR] using hR
  have hcp:0<c.toNat:=by
   rcases Nat.eq_zero_or_pos c.toNat with h|h
   ·exact absurd (by apply UInt8.toNat_inj.1;simpa using h) hc0
   ·exact h
  have hc256:c.toNat<256:=UInt8.toNat_lt c
  have hl:avo (adX s)=8*r.length+avo c.toNat:=by
   have e:=aEA (x:=c.toNat) (y:=adX r) (8*r.length) hcp (aym r)
   rw [← e,← hvn,awk,Nat.mul_comm,show (256:Nat)=2^8 from rfl,← Nat.pow_mul]
  have hb8:avo c.toNat≤8:=axq (by omega)
  simp only [List.length_cons] at hlen
  have hloop:=fun nt (hn:24≤nt)=>aQD hn 256 (8*r.length) c.toNat hc256 hc256 (by omega)
  rw [← hl] at hloop
  simp only [List.length_cons,List.getD_cons_zero] at h1
  have e1:r.length+1 - 1=r.length:=rfl
  have e2:(((r.length+1:Nat):Int)) - ((1:Nat):Int)=(r.length:Int):=by omega
  have e3:IntKind.wrap .i64 (r.length:Int)=(r.length:Int):=an9 (by omega)
  have e4:IntKind.wrap .i64 (((8:Nat):Int)*(r.length:Int))=((8*r.length:Nat):Int):=by rw [auI]<;>omega
  have e5:IntKind.wrap .i64 (c.toNat:Int)=(c.toNat:Int):=an9 (by omega)
  rw [e2,e3,e4,e5] at h1
  refine h1 (by rw [an7];exact decide_eq_true (by omega)) (by rw [ayp];simp [lit]) hc ?_
  exact aea.blk hloop (by simp) rfl (anT.of ⟨rfl,rfl,trivial⟩) (anT.of ⟨rfl,trivial⟩)
theorem aBy (s:List UInt8):CO 128 [.str s] (.ret (.bool (nR s))):=by
 cases s with
 |nil=>exact a1s [] rfl
 | cons c r=>
  have h:=a1t (c::r)
  have e:(!((((c::r).getD 0 0).toNat:Int)==((0:Nat):Int)))=nR (c::r):=by
   simp only [List.getD_cons_zero,nR]
   by_cases hc:c=0
   ·subst hc;rfl
   ·have:c.toNat ≠ 0:=fun h=>hc (by apply UInt8.toNat_inj.1;simpa using h)
    have h1:((c.toNat:Int)==((0:Nat):Int))=false:=by simp;omega
    rw [h1];simp [hc]
  rw [e] at h
  apply h
  ·simp
  ·simp [lit];omega
theorem aCY:∀ (a b:List UInt8),a.length=b.length→av5 a b=decide (adX a<adX b)
 | [],[],_=>rfl
 | [],_::_,h=>by simp at h
 |_::_,[],h=>by simp at h
 | x::a,y::b,h=>by
  have hl:a.length=b.length:=by simpa using h
  have ih:=aCY a b hl
  have h1:=aym a
  have h2:=aym b
  simp only [av5,ih]
  rw [awk,awk,hl,show (256:Nat)=2^8 from rfl,← Nat.pow_mul]
  rw [hl] at h1
  have hxy:decide (x<y)=decide (x.toNat<y.toNat):=by simp [UInt8.lt_iff_toNat_lt]
  have hxe:(x==y)=decide (x.toNat=y.toNat):=by
   by_cases h:x=y
   ·subst h;simp
   ·have:x.toNat ≠ y.toNat:=fun h'=>h (UInt8.toNat_inj.1 h')
    simp [h,this]
  rw [hxy,hxe]
  generalize 2^(8*b.length)=M at*
  generalize adX a=u at*
  generalize adX b=v at*
  generalize x.toNat=p at*
  generalize y.toNat=q at*
  rcases Nat.lt_trichotomy p q with h3|h3|h3
  ·have h4:(p+1)*M≤q*M:=Nat.mul_le_mul_right _ h3
   rw [Nat.add_mul,Nat.one_mul] at h4
   rw [decide_eq_true h3,decide_eq_true (show p*M+u<q*M+v by omega)];rfl
  ·subst h3
   rw [decide_eq_false (Nat.lt_irrefl _),decide_eq_true rfl]
   simp
  ·have h4:(q+1)*M≤p*M:=Nat.mul_le_mul_right _ h3
   rw [Nat.add_mul,Nat.one_mul] at h4
   rw [decide_eq_false (show ¬ p<q by omega),decide_eq_false (show ¬ p=q by omega),decide_eq_false (show ¬ p*M+u<q*M+v by omega)];rfl
theorem aC_ {x y:Nat} (h:(adF x).length<(adF y).length):x<y:=by
 rcases Nat.lt_or_ge x y with h1|h1
 ·exact h1
 ·have h2:y≤adX (adF x):=by rw [anZ];exact h1
  have:=axu h2
  omega
theorem aPl (s t:List UInt8) (hs:s.length<2^40) (ht:t.length<2^40):CO 118 [.str s,.str t] (.ret (.int .i64 (sgn (adX s) (adX t)))):=by
 have c1:=avR s hs
 have c2:=avR t ht
 have hx:=anZ (adX s)
 have hy:=anZ (adX t)
 unfold sgn
 by_cases hl:(adF (adX s)).length=(adF (adX t)).length
 ·have hb:=aCY _ _ hl
  rw [hx,hy] at hb
  have he:(adF (adX s)==adF (adX t))=decide (adX s=adX t):=by
   by_cases h:adX s=adX t
   ·rw [h];simp
   ·have:adF (adX s) ≠ adF (adX t):=fun h'=>h (aO0 h')
    simp [h,this]
  have hq:lit false (!((((adF (adX s)).length:Nat):Int)==(((adF (adX t)).length:Nat):Int)))=true:=by rw [hl];simp [lit]
  by_cases h1:adX s<adX t
  ·rw [if_pos h1]
   exact aSh s t (by rw [hb,decide_eq_true h1];rfl) hq c1 c2
  ·rw [if_neg h1]
   by_cases h2:adX t<adX s
   ·rw [if_pos h2]
    exact aSi s t (by rw [hb,he,decide_eq_false h1,decide_eq_false (show ¬ adX s=adX t by omega)];rfl) (by rw [hb,decide_eq_false h1];rfl) hq c1 c2
   ·rw [if_neg h2]
    exact aSj s t (by rw [hb,he,decide_eq_false h1,decide_eq_true (show adX s=adX t by omega)];rfl) (by rw [hb,decide_eq_false h1];rfl) hq c1 c2
 ·have hq:lit true (!((((adF (adX s)).length:Nat):Int)==(((adF (adX t)).length:Nat):Int)))=true:=by rw [ayp,decide_eq_false hl];rfl
  by_cases h1:(adF (adX s)).length<(adF (adX t)).length
  ·rw [if_pos (aC_ h1)]
   exact aSf s t (by rw [an7,decide_eq_true h1];rfl) hq c1 c2
  ·have h2:=aC_ (show (adF (adX t)).length<(adF (adX s)).length by omega)
   rw [if_neg (by omega),if_pos h2]
   exact aSg s t (by rw [an7,decide_eq_false h1];rfl) hq c1 c2
theorem a0H {nt:Nat} (hn:35≤nt) (s:List UInt8) (o:List Nat) (e d k:Nat) (h0:(decide (((0:Nat):Int)≤(k:Int)))=true) (h1:(decide ((k:Int)<(((List.length s):Nat):Int)))=true) (h2:lit true (decide ((k:Int)<(e:Int)))=true):adY prog ap [] nt (lT 2 (adW f78)) ⟨[(0,.str s),(3,.nilS),(4,.int .i64 (e:Int)),(5,.int .i64 (d:Int)),(6,.int .i64 (k:Int))],[],.dead,[]⟩ (.normal) ⟨[(0,.str s),(3,.nilS),(4,.int .i64 (e:Int)),(5,.int .i64 (IntKind.wrap .i64 ((IntKind.wrap .i64 ((d:Int)*((256:Nat):Int)))+(IntKind.wrap .i64 ((UInt8.toNat (List.getD s (Int.toNat (k:Int)) 0):Nat):Int))))),(6,.int .i64 (IntKind.wrap .i64 ((k:Int)+((1:Nat):Int))))],[],.dead,[]⟩:=pJ 78 [] 1 1 (.c h0 (.c h1 (.c h2 .nil))) (.nil) hn
theorem a0I {nt:Nat} (hn:35≤nt) (s:List UInt8) (o:List Nat) (e d k:Nat) (h0:lit false (decide ((k:Int)<(e:Int)))=true):adY prog ap [] nt (lT 2 (adW f78)) ⟨[(0,.str s),(3,.nilS),(4,.int .i64 (e:Int)),(5,.int .i64 (d:Int)),(6,.int .i64 (k:Int))],[],.dead,[]⟩ (.exit 2) ⟨[(0,.str s),(3,.nilS),(4,.int .i64 (e:Int)),(5,.int .i64 (d:Int))],[],.dead,[]⟩:=pJ 78 [] 1 0 (.c h0 .nil) (.nil) hn
theorem a0F {nt:Nat} (hn:35≤nt) (s:List UInt8) (o:List Nat) (e d k:Nat) (h0:(decide (((0:Nat):Int)≤(k:Int)))=true) (h1:(decide ((k:Int)<(((List.length s):Nat):Int)))=true) (h2:lit true (decide ((k:Int)<(e:Int)))=true):adY prog ap [] nt (lT 2 (adW f78)) ⟨[(0,.str s),(3,.ref 0 0 0 o.length),(4,.int .i64 (e:Int)),(5,.int .i64 (d:Int)),(6,.int .i64 (k:Int))],[(0,⟨(ad2 o),0,false,0,1,true⟩)],.dead,[]⟩ (.normal) ⟨[(0,.str s),(3,.ref 0 0 0 o.length),(4,.int .i64 (e:Int)),(5,.int .i64 (IntKind.wrap .i64 ((IntKind.wrap .i64 ((d:Int)*((256:Nat):Int)))+(IntKind.wrap .i64 ((UInt8.toNat (List.getD s (Int.toNat (k:Int)) 0):Nat):Int))))),(6,.int .i64 (IntKind.wrap .i64 ((k:Int)+((1:Nat):Int))))],[(0,⟨(ad2 o),0,false,0,1,true⟩)],.dead,[]⟩:=pJ 78 [] 1 1 (.c h0 (.c h1 (.c h2 .nil))) (.nil) hn
theorem a0G {nt:Nat} (hn:35≤nt) (s:List UInt8) (o:List Nat) (e d k:Nat) (h0:lit false (decide ((k:Int)<(e:Int)))=true):adY prog ap [] nt (lT 2 (adW f78)) ⟨[(0,.str s),(3,.ref 0 0 0 o.length),(4,.int .i64 (e:Int)),(5,.int .i64 (d:Int)),(6,.int .i64 (k:Int))],[(0,⟨(ad2 o),0,false,0,1,true⟩)],.dead,[]⟩ (.exit 2) ⟨[(0,.str s),(3,.ref 0 0 0 o.length),(4,.int .i64 (e:Int)),(5,.int .i64 (d:Int))],[(0,⟨(ad2 o),0,false,0,1,true⟩)],.dead,[]⟩:=pJ 78 [] 1 0 (.c h0 .nil) (.nil) hn
theorem a0B {nt:Nat} (hn:35≤nt) (s:List UInt8) (o:List Nat) (z:Int) (d:Nat) (h0:lit true (decide (((0:Nat):Int)<z))=true) (l0:ajS prog ap [] 35 (.block 2 (.loop (lT 2 (adW f78)))) ⟨[(0,.str s),(2,.dead),(3,.nilS),(4,.int .i64 z),(5,.int .i64 0),(6,.int .i64 (if ((0:Nat):Int)>(IntKind.wrap .i64 (z - ((3:Nat):Int))) then ((0:Nat):Int) else (IntKind.wrap .i64 (z - ((3:Nat):Int))))),(12,.bool (decide (((0:Nat):Int)<z))),(20,.dead)],[],.dead,[]⟩ (.normal) ⟨[(0,.str s),(4,.int .i64 z),(5,.int .i64 (d:Int)),(3,.nilS)],[],.dead,[]⟩):adY prog ap [] nt (lT 0 (adW f78)) ⟨[(0,.str s),(3,.nilS),(4,.int .i64 z)],[],.dead,[]⟩ (.normal) ⟨[(0,.str s),(3,.ref 0 0 0 1),(4,.int .i64 (IntKind.wrap .i64 (z - ((3:Nat):Int))))],[(0,⟨[.int .i64 (d:Int)],0,false,0,1,true⟩)],.dead,[]⟩:=pJ 78 [2] 2 1 (.k 3 h0 .nil) (.l l0 .nil) hn
theorem a0C {nt:Nat} (hn:35≤nt) (s:List UInt8) (o:List Nat) (z:Int) (d:Nat) (h0:lit false (decide (((0:Nat):Int)<z))=true):adY prog ap [] nt (lT 0 (adW f78)) ⟨[(0,.str s),(3,.nilS),(4,.int .i64 z)],[],.dead,[]⟩ (.exit 0) ⟨[(3,.nilS)],[],.dead,[]⟩:=pJ 78 [2] 1 0 (.c h0 .nil) (.nil) hn
theorem aVf (s:List UInt8) (o:List Nat) (c0:CO 76 [.str s] (.ret (.str (adF (adX s))))) (l0:ajS prog ap [] 35 (.block 0 (.loop (lT 0 (adW f78)))) ⟨[(0,.str (adF (adX s))),(2,.nilS),(3,.nilS),(4,.int .i64 (((List.length (adF (adX s))):Nat):Int)),(5,.dead),(6,.dead),(12,.dead),(20,.dead)],[],.dead,[]⟩ (.normal) ⟨[(3,.nilS)],[],.dead,[]⟩):CO 78 [.str s] (.ret (.nilS)):=pK [0] 0 0 .nil (.l l0 (.c c0 .nil))
theorem a0w {nt:Nat} (hn:35≤nt) (s:List UInt8) (o:List Nat) (z:Int) (d:Nat) (h0:(Nat.ble (o.length+1) 1099511627776)=true) (h1:(Nat.ble (o.length*1) (List.length (ad2 o)))=true) (h2:lit true (decide (((0:Nat):Int)<z))=true) (l0:ajS prog ap [] 35 (.block 2 (.loop (lT 2 (adW f78)))) ⟨[(0,.str s),(2,.dead),(3,.ref 0 0 0 o.length),(4,.int .i64 z),(5,.int .i64 0),(6,.int .i64 (if ((0:Nat):Int)>(IntKind.wrap .i64 (z - ((3:Nat):Int))) then ((0:Nat):Int) else (IntKind.wrap .i64 (z - ((3:Nat):Int))))),(12,.bool (decide (((0:Nat):Int)<z))),(20,.dead)],[(0,⟨(ad2 o),0,false,0,1,true⟩)],.dead,[]⟩ (.normal) ⟨[(0,.str s),(4,.int .i64 z),(5,.int .i64 (d:Int)),(3,.ref 0 0 0 o.length)],[(0,⟨(ad2 o),0,false,0,1,true⟩)],.dead,[]⟩):adY prog ap [] nt (lT 0 (adW f78)) ⟨[(0,.str s),(3,.ref 0 0 0 o.length),(4,.int .i64 z)],[(0,⟨(ad2 o),0,false,0,1,true⟩)],.dead,[]⟩ (.normal) ⟨[(0,.str s),(3,.ref 0 0 0 (o.length+1)),(4,.int .i64 (IntKind.wrap .i64 (z - ((3:Nat):Int))))],[(0,⟨((List.take (o.length*1) (ad2 o))++ [.int .i64 (d:Int)]),0,false,0,1,true⟩)],.dead,[]⟩:=pJ 78 [2] 1 1 (.k 1 h0 (.c h1 (.k 1 h2 .nil))) (.l l0 .nil) hn
theorem a0x {nt:Nat} (hn:35≤nt) (s:List UInt8) (o:List Nat) (z:Int) (d:Nat) (h0:lit false (decide (((0:Nat):Int)<z))=true):adY prog ap [] nt (lT 0 (adW f78)) ⟨[(0,.str s),(3,.ref 0 0 0 o.length),(4,.int .i64 z)],[(0,⟨(ad2 o),0,false,0,1,true⟩)],.dead,[]⟩ (.exit 0) ⟨[(3,.ref 0 0 0 o.length)],[(0,⟨(ad2 o),0,false,0,1,true⟩)],.dead,[]⟩:=pJ 78 [2] 1 0 (.c h0 .nil) (.nil) hn
theorem aVe (s:List UInt8) (o:List Nat) (c0:CO 76 [.str s] (.ret (.str (adF (adX s))))) (l0:ajS prog ap [] 35 (.block 0 (.loop (lT 0 (adW f78)))) ⟨[(0,.str (adF (adX s))),(2,.nilS),(3,.nilS),(4,.int .i64 (((List.length (adF (adX s))):Nat):Int)),(5,.dead),(6,.dead),(12,.dead),(20,.dead)],[],.dead,[]⟩ (.normal) ⟨[(3,.ref 0 0 0 o.length)],[(0,⟨(ad2 o),0,false,0,1,true⟩)],.dead,[]⟩):CO 78 [.str s] (.ret (.own (List.take (o.length*1) (ad2 o)) o.length 1)):=pK [0] 0 0 .nil (.l l0 (.c c0 .nil))
def aPd (s:List UInt8) (o:List Nat) (e j k:Nat):St:=⟨[(0,.str s),(3,apE o),(4,.int .i64 (e:Int)),(5,.int .i64 ((adX ((s.take k).drop j):Nat):Int)),(6,.int .i64 (k:Int))],apH o,.dead,[]⟩
def aPc (s:List UInt8) (o:List Nat) (e d:Nat):St:=⟨[(0,.str s),(3,apE o),(4,.int .i64 (e:Int)),(5,.int .i64 (d:Int))],apH o,.dead,[]⟩
theorem aMD {s:List UInt8} {j k:Nat} (h:k<s.length) (hj:j≤k):adX ((s.take (k+1)).drop j)=adX ((s.take k).drop j)*256+(s.getD k 0).toNat:=by
 rw [List.take_add_one,List.getElem?_eq_getElem h,List.drop_append_of_le_length (by simp;omega),List.getD_eq_getElem?_getD,List.getElem?_eq_getElem h]
 exact ax0 _ _
theorem aLp {s:List UInt8} {j k:Nat} (h:k≤j+3):adX ((s.take k).drop j)<16777216:=by
 have h1:=aym ((s.take k).drop j)
 have h2:((s.take k).drop j).length≤3:=by simp;omega
 exact Nat.lt_of_lt_of_le h1 (Nat.le_trans (Nat.pow_le_pow_right (by omega) (show 8*((s.take k).drop j).length≤24 by omega)) (by decide))
theorem aR6 {nt:Nat} (hn:35≤nt) (s:List UInt8) (o:List Nat) (e j:Nat) (hs:s.length<2^40) (he:e≤s.length) (hj:e≤j+3):∀ (n k:Nat),k+n=e→j≤k→aea prog ap [] nt (lT 2 (adW f78)) (fun _=> .exit 2) (aPd s o e j) (aPc s o e) k (adX ((s.take e).drop j)):=by
 intro n
 induction n with
 | zero=>
  intro k hk hjk
  have hke:k=e:=by omega
  subst hke
  refine .done ?_
  unfold aPd aPc
  rcases Decidable.em (o= []) with rfl|hne
  ·exact a0I hn s [] k _ k (by rw [an7];simp [lit])
  ·rw [avM hne,avN hne]
   exact a0G hn s o k _ k (by rw [an7];simp [lit])
 | succ n ih=>
  intro k hk hjk
  refine .next ?_ (ih (k+1) (by omega) (by omega))
  have hks:k<s.length:=by omega
  have h1:=aLp (s:=s) (j:=j) (k:=k) (by omega)
  have h3:(s.getD k 0).toNat<256:=UInt8.toNat_lt _
  have h2:=aMD hks hjk
  unfold aPd
  rw [h2]
  generalize hc:(s.getD k 0).toNat=c at*
  generalize adX ((s.take k).drop j)=d at*
  clear ih h2
  have e1:IntKind.wrap .i64 ((d:Int)*((256:Nat):Int))=((d*256:Nat):Int):=by rw [auI]<;>omega
  have e4:(((d*256:Nat):Int))+(c:Int)=((d*256+c:Nat):Int):=by omega
  rcases Decidable.em (o= []) with rfl|hne
  ·have hb:=a0H hn s [] e d k
   simp (disch:=first|omega|(simp [ad4,ad7]<;>omega)) only [avb,an5,an7,aot,aBP,an9,aeb,hc,e4,au9] at hb
   apply hb<;>first|exact True.intro|omega|assumption|exact rfl
  ·have hb:=a0F hn s o e d k
   rw [avM hne,avN hne]
   simp (disch:=first|omega|(simp [ad4,ad7]<;>omega)) only [avb,an5,an7,aot,aBP,an9,aeb,hc,e4,au9] at hb
   apply hb<;>first|exact True.intro|omega|assumption|exact rfl
def aMC (s:List UInt8) (p:Int × List Nat):St:=⟨[(0,.str s),(3,apE p.2),(4,.int .i64 p.1)],apH p.2,.dead,[]⟩
def aLo (o:List Nat):St:=⟨[(3,apE o)],apH o,.dead,[]⟩
theorem aR5 {nt:Nat} (hn:35≤nt) (s:List UInt8) (o:List Nat) (e:Nat) (hs:s.length<2^38) (he:e≤s.length) (h0:0<e) (ho:o.length<2^39):
  adY prog ap [] nt (lT 0 (adW f78)) (aMC s ((e:Int),o)) .normal (aMC s ((e:Int) - 3,o++ [adX ((s.take e).drop (e - 3))])):=by
 have hloop:=fun nt (hn:35≤nt)=>aR6 hn s o e (e - 3) (by omega) he (by omega) (e - (e - 3)) (e - 3) (by omega) (Nat.le_refl _)
 have hw:IntKind.wrap .i64 ((e:Int) - ((3:Nat):Int))=(e:Int) - 3:=auI (by omega) (by omega)
 have hj:(if ((0:Nat):Int)>(e:Int) - 3 then ((0:Nat):Int) else (e:Int) - 3)=((e - 3:Nat):Int):=by
  split<;>omega
 have hd0:adX ((s.take (e - 3)).drop (e - 3))=0:=by
  rw [List.drop_of_length_le (by simp;omega)];rfl
 have hdl:(List.drop (e - 3) (List.take e s)).length≤3:=by simp;omega
 unfold aMC
 generalize adX ((s.take e).drop (e - 3))=d at*
 rcases Decidable.em (o= []) with rfl|hne
 ·have hb:=a0B hn s [] (e:Int) d
  rw [hw,hj] at hb
  simp (disch:=first|omega|(simp [ad4,ad7]<;>omega)) only [an7,aot,an5] at hb
  simp only [List.nil_append,apE,apH,ad2,List.map_cons,List.map_nil,List.length_cons,List.length_nil] at hb ⊢
  apply hb
  ·omega
  ·refine aea.blk hloop (by simp) rfl ?_ (anT.of ⟨rfl,rfl,rfl,rfl,trivial⟩)
   unfold aPd
   rw [hd0]
   exact anT.of ⟨rfl,rfl,rfl,rfl,rfl,trivial⟩
 ·have hb:=a0w hn s o (e:Int) d
  rw [hw,hj] at hb
  rw [avM hne,avN hne,avM (awp _ _),avN (awp _ _)]
  simp (disch:=first|omega|(simp [ad4,ad7]<;>omega)) only [avG,an5,Nat.mul_one,avq,an7,aot,avl,List.take_length,axz] at hb
  simp only [List.length_append,List.length_singleton]
  apply hb<;>first|exact True.intro|omega|assumption|exact rfl|skip
  ·refine aea.blk hloop (by simp) rfl ?_ ?_
   ·unfold aPd
    rw [hd0,avM hne,avN hne]
    exact anT.of ⟨rfl,rfl,rfl,rfl,rfl,trivial⟩
   ·unfold aPc
    rw [avM hne,avN hne]
    exact anT.of ⟨rfl,rfl,rfl,rfl,trivial⟩
theorem aO8 {nt:Nat} (hn:35≤nt) (s:List UInt8) (o:List Nat) (z:Int) (hz:z≤0):adY prog ap [] nt (lT 0 (adW f78)) (aMC s (z,o)) (.exit 0) (aLo o):=by
 unfold aMC aLo
 have hc:lit false (decide (((0:Nat):Int)<z))=true:=by simp [lit];exact hz
 rcases Decidable.em (o= []) with rfl|hne
 ·exact a0C hn s [] z 0 hc
 ·rw [avM hne,avN hne]
  exact a0x hn s o z 0 hc
theorem aW7 {s:List UInt8} {e:Nat} (he:e≤s.length):adX (s.take e)=16777216*adX (s.take (e - 3))+adX ((s.take e).drop (e - 3)):=by
 have happ:∀ (b a:List UInt8),adX (a++b)=adX a*256^b.length+adX b:=by
  intro b a
  unfold adX
  rw [List.foldl_append,aGm];rfl
 have hs:s.take e=s.take (e - 3)++(s.take e).drop (e - 3):=by
  have h1:=List.take_append_drop (e - 3) (s.take e)
  rw [List.take_take,Nat.min_eq_left (by omega)] at h1
  exact h1.symm
 have h2:=happ ((s.take e).drop (e - 3)) (s.take (e - 3))
 rw [← hs] at h2
 rw [h2]
 rcases Nat.lt_or_ge e 3 with h3|h3
 ·have:e - 3=0:=by omega
  rw [this];simp [adX]
 ·have:((s.take e).drop (e - 3)).length=3:=by simp;omega
  rw [this,Nat.mul_comm,show 256^3=16777216 from rfl]
theorem aO9 {nt:Nat} (hn:35≤nt) (s:List UInt8) (hs:s.length<2^38) (hR:nR s=true):∀ (n e:Nat) (o:List Nat),e<n→e≤s.length→o.length+e<2^39→aea prog ap [] nt (lT 0 (adW f78)) (fun _=> .exit 0) (aMC s) aLo ((e:Int),o) (o++ad6 (adX (s.take e))):=by
 intro n
 induction n with
 |zero=>intro e o h;omega
 | succ n ih=>
  intro e o h he ho
  rcases Nat.eq_zero_or_pos e with rfl|h0
  ·have:adX (s.take 0)=0:=rfl
   rw [this,avD,List.append_nil]
   exact .done (aO8 hn s o _ (by omega))
  ·have hv:0<adX (s.take e):=by
    cases s with
    |nil=>simp at he;omega
    | cons c r=>
     have hc:c ≠ 0:=by simpa [nR] using hR
     have hcp:0<c.toNat:=by
      rcases Nat.eq_zero_or_pos c.toNat with h|h
      ·exact absurd (by apply UInt8.toNat_inj.1;simpa using h) hc
      ·exact h
     obtain ⟨e',rfl⟩:∃ e',e=e'+1:=⟨e - 1,by omega⟩
     rw [List.take_succ_cons,awk]
     have:=Nat.mul_pos hcp (show 0<256^(r.take e').length from Nat.pow_pos (by omega))
     omega
   have hch:=aW7 he
   have hd:=aLp (s:=s) (j:=e - 3) (k:=e) (by omega)
   have hstep:=aR5 hn s o e hs he h0 (by omega)
   rw [ax6 hv,show adX (s.take e) % 16777216=adX ((s.take e).drop (e - 3)) by omega,show adX (s.take e) / 16777216=adX (s.take (e - 3)) by omega]
   rcases Nat.lt_or_ge e 3 with h3|h3
   ·have e3:e - 3=0:=by omega
    have hz:adX (s.take (e - 3))=0:=by rw [e3];rfl
    rw [hz,avD]
    exact .next hstep (.done (aO8 hn s _ _ (by omega)))
   ·have hnext:=ih (e - 3) (o++ [adX ((s.take e).drop (e - 3))]) (by omega) (by omega) (by simp;omega)
    rw [List.append_assoc] at hnext
    rw [show ((e:Int) - 3)=((e - 3:Nat):Int) by omega] at hstep
    exact .next hstep hnext
theorem aTH (s:List UInt8) (hs:s.length<2^37):CO 78 [.str s] (.ret (.sl (ad2 (ad6 (adX s))) (ad6 (adX s)).length false)):=by
 have hc:=avR s (by omega)
 have hlen:(adF (adX s)).length≤s.length:=axu (Nat.le_refl _)
 have hvn:=anZ (adX s)
 have hloop:=fun nt (hn:35≤nt)=>aO9 hn (adF (adX s)) (by omega) (aDJ _) ((adF (adX s)).length+1) (adF (adX s)).length [] (by omega) (Nat.le_refl _) (by simp;omega)
 rw [List.take_length,hvn,List.nil_append] at hloop
 generalize hd:ad6 (adX s)=o at*
 rcases Decidable.em (o= []) with rfl|hne
 ·have h:=aVf s [] hc (aea.blk hloop (by simp) rfl (anT.of ⟨rfl,rfl,rfl,trivial⟩) (anT.of ⟨rfl,trivial⟩))
  exact h.out (awZ.ret rfl rfl (anX.nilS false rfl))
 ·have h:=(aVe s o hc (aea.blk hloop (by simp) rfl (anT.of ⟨rfl,rfl,rfl,trivial⟩) (by unfold aLo;rw [avM hne,avN hne];exact anT.of ⟨rfl,trivial⟩))).thaw (by simp)
  simp only [aCl,thaw,Nat.mul_one,avl,List.take_length] at h
  exact h.out (awZ.sl1 _ _ _)
theorem a_a (s t:List UInt8) (x y q r:Nat) (h0:(!((y:Int)==((0:Nat):Int)))=true) (h1:lit false ((((List.length (adF (adX t))):Nat):Int)==((0:Nat):Int))=true) (c0:CO 76 [.str t] (.ret (.str (adF (adX t))))) (c1:CO 77 [.str s,.int .i64 7] (.ret (.tup [.int .i64 (x:Int),.bool true]))) (c2:CO 77 [.str (adF (adX t)),.int .i64 7] (.ret (.tup [.int .i64 (y:Int),.bool true]))) (c3:CO 49 [.int .i64 (IntKind.wrap .i64 (Int.tdiv (x:Int) (y:Int)))] (.ret (.str (adF q)))) (c4:CO 49 [.int .i64 (Int.tmod (x:Int) (y:Int))] (.ret (.str (adF r)))):CO 81 [.str s,.str t] (.ret (.tup [.str (adF q),.str (adF r),.bool true])):=pK [0] 3 6 (.c h0 (.c h0 (.k 2 h1 .nil))) (.c c4 (.c c3 (.c c2 (.c c1 (.c c0 .nil)))))
theorem a9Z (s t:List UInt8) (x y q r m:Nat) (Q:List Nat) (zy:Int) (b2:Bool) (h0:(decide (((0:Nat):Int)≤(((ad6 (adX s)).length:Nat):Int)))=true) (h1:(decide ((((ad6 (adX s)).length:Nat):Int)=(((ad6 (adX s)).length:Nat):Int)))=true) (h2:(decide ((((ad6 (adX s)).length:Nat):Int)≤((1099511627776:Nat):Int)))=true) (h3:lit false ((((List.length (adF (adX t))):Nat):Int)==((0:Nat):Int))=true) (c0:CO 76 [.str t] (.ret (.str (adF (adX t))))) (c1:CO 77 [.str s,.int .i64 7] (.ret (.tup [.int .i64 0,.bool false]))) (c2:CO 77 [.str (adF (adX t)),.int .i64 7] (.ret (.tup [.int .i64 zy,.bool b2]))) (c3:CO 78 [.str s] (.ret (.sl (ad2 (ad6 (adX s))) (ad6 (adX s)).length false))) (c4:CO 78 [.str (adF (adX t))] (.ret (.sl (ad2 (ad6 (adX (adF (adX t))))) (ad6 (adX (adF (adX t)))).length false))) (l0:ajS prog ap [] 87 (.block 0 (.loop (lT 0 (adW f81)))) ⟨[(0,.str s),(1,.str (adF (adX t))),(4,.str []),(5,.str []),(6,.bool false),(7,.int .i64 0),(8,.bool false),(9,.int .i64 zy),(10,.bool b2),(11,.sl (ad2 (ad6 (adX s))) (ad6 (adX s)).length false),(12,.sl (ad2 (ad6 (adX (adF (adX t))))) (ad6 (adX (adF (adX t)))).length false),(13,.ref 0 0 0 (Int.toNat (((ad6 (adX s)).length:Nat):Int))),(14,.nilS),(15,.int .i64 (IntKind.wrap .i64 ((((ad6 (adX s)).length:Nat):Int) - ((1:Nat):Int)))),(20,.bool ((((List.length (adF (adX t))):Nat):Int)==((0:Nat):Int))),(34,.bool false),(54,.dead),(68,.dead)],[(0,⟨(awc (Int.toNat (((ad6 (adX s)).length:Nat):Int)) [.int .i64 0]),0,false,0,1,true⟩)],.dead,[]⟩ (.normal) ⟨[(13,.ref 0 0 0 m),(14,.sl (ad2 (ad6 r)) (ad6 r).length false)],[(0,⟨(ad2 Q),0,false,0,1,true⟩)],.dead,[]⟩) (c5:CO 79 [.sl (List.take (m*1) (ad2 Q)) m true] (.ret (.str (adF q)))) (c6:CO 79 [.sl (ad2 (ad6 r)) (ad6 r).length false] (.ret (.str (adF r)))):CO 81 [.str s,.str t] (.ret (.tup [.str (adF q),.str (adF r),.bool true])):=pK [0] 3 0 (.c h0 (.c h1 (.c h2 (.k 2 h3 .nil)))) (.c c6 (.c c5 (.l l0 (.c c4 (.c c3 (.c c2 (.c c1 (.c c0 .nil))))))))
theorem a9_ (s t:List UInt8) (x y q r m:Nat) (Q:List Nat) (zy:Int) (b2:Bool) (h0:(decide (((0:Nat):Int)≤(((ad6 (adX s)).length:Nat):Int)))=true) (h1:(decide ((((ad6 (adX s)).length:Nat):Int)=(((ad6 (adX s)).length:Nat):Int)))=true) (h2:(decide ((((ad6 (adX s)).length:Nat):Int)≤((1099511627776:Nat):Int)))=true) (h3:lit false ((((List.length (adF (adX t))):Nat):Int)==((0:Nat):Int))=true) (c0:CO 76 [.str t] (.ret (.str (adF (adX t))))) (c1:CO 77 [.str s,.int .i64 7] (.ret (.tup [.int .i64 (x:Int),.bool true]))) (c2:CO 77 [.str (adF (adX t)),.int .i64 7] (.ret (.tup [.int .i64 0,.bool false]))) (c3:CO 78 [.str s] (.ret (.sl (ad2 (ad6 (adX s))) (ad6 (adX s)).length false))) (c4:CO 78 [.str (adF (adX t))] (.ret (.sl (ad2 (ad6 (adX (adF (adX t))))) (ad6 (adX (adF (adX t)))).length false))) (l0:ajS prog ap [] 87 (.block 0 (.loop (lT 0 (adW f81)))) ⟨[(0,.str s),(1,.str (adF (adX t))),(4,.str []),(5,.str []),(6,.bool false),(7,.int .i64 (x:Int)),(8,.bool true),(9,.int .i64 0),(10,.bool false),(11,.sl (ad2 (ad6 (adX s))) (ad6 (adX s)).length false),(12,.sl (ad2 (ad6 (adX (adF (adX t))))) (ad6 (adX (adF (adX t)))).length false),(13,.ref 0 0 0 (Int.toNat (((ad6 (adX s)).length:Nat):Int))),(14,.nilS),(15,.int .i64 (IntKind.wrap .i64 ((((ad6 (adX s)).length:Nat):Int) - ((1:Nat):Int)))),(20,.bool ((((List.length (adF (adX t))):Nat):Int)==((0:Nat):Int))),(34,.bool false),(54,.dead),(68,.dead)],[(0,⟨(awc (Int.toNat (((ad6 (adX s)).length:Nat):Int)) [.int .i64 0]),0,false,0,1,true⟩)],.dead,[]⟩ (.normal) ⟨[(13,.ref 0 0 0 m),(14,.sl (ad2 (ad6 r)) (ad6 r).length false)],[(0,⟨(ad2 Q),0,false,0,1,true⟩)],.dead,[]⟩) (c5:CO 79 [.sl (List.take (m*1) (ad2 Q)) m true] (.ret (.str (adF q)))) (c6:CO 79 [.sl (ad2 (ad6 r)) (ad6 r).length false] (.ret (.str (adF r)))):CO 81 [.str s,.str t] (.ret (.tup [.str (adF q),.str (adF r),.bool true])):=pK [0] 3 2 (.c h0 (.c h1 (.c h2 (.k 2 h3 .nil)))) (.c c6 (.c c5 (.l l0 (.c c4 (.c c3 (.c c2 (.c c1 (.c c0 .nil))))))))
theorem a_b {nt:Nat} (hn:87≤nt) (x y r w q p r2 m k:Nat) (c:Int) (Q:List Nat) (h0:(chk (.int .i64) (List.headD (List.drop ((0+(Int.toNat (k:Int)))*1) (List.take ((0+(Int.toNat (k:Int)))*1) (ad2 Q)++ [.int .i64 (q:Int)]++List.drop (((0+(Int.toNat (k:Int)))*1)+1) (ad2 Q))) .dead))=true) (h1:(decide (((0:Nat):Int)≤(k:Int)))=true) (h2:(decide ((k:Int)<(m:Int)))=true) (h3:(Nat.ble (((0+(Int.toNat (k:Int)))*1)+1) (List.length (ad2 Q)))=true) (h4:lit true (decide (((0:Nat):Int)≤c))=true) (h5:(Nat.beq (List.length (ad2 (ad6 r))) ((ad6 r).length*1))=true) (h6:(Nat.ble (1+(ad6 r).length) 1099511627776)=true) (h7:(chk (.int .i64) (List.headD (List.drop ((Int.toNat (k:Int))*1) (ad2 (ad6 x))) .dead))=true) (h8:(decide ((k:Int)<(((ad6 x).length:Nat):Int)))=true) (h9:lit true (decide (((0:Nat):Int)≤(k:Int)))=true) (c0:CO 108 [.sl (List.take ((1+(ad6 r).length)*1) ([.int .i64 (AV.toInt (List.headD (List.drop ((Int.toNat (k:Int))*1) (ad2 (ad6 x))) .dead))]++(ad2 (ad6 r)))) (1+(ad6 r).length) true] (.ret (.sl (ad2 (ad6 w)) (ad6 w).length false))) (c1:CO 109 [.sl (ad2 (ad6 w)) (ad6 w).length false,.sl (ad2 (ad6 y)) (ad6 y).length false] (.ret (.int .i64 c))) (c2:CO 110 [.sl (ad2 (ad6 w)) (ad6 w).length false,.sl (ad2 (ad6 y)) (ad6 y).length false] (.ret (.int .i64 (q:Int)))) (c3:CO 112 [.sl (ad2 (ad6 y)) (ad6 y).length false,.int .i64 (AV.toInt (List.headD (List.drop ((0+(Int.toNat (k:Int)))*1) (List.take ((0+(Int.toNat (k:Int)))*1) (ad2 Q)++ [.int .i64 (q:Int)]++List.drop (((0+(Int.toNat (k:Int)))*1)+1) (ad2 Q))) .dead))] (.ret (.sl (ad2 (ad6 p)) (ad6 p).length true))) (c4:CO 111 [.sl (ad2 (ad6 w)) (ad6 w).length false,.sl (ad2 (ad6 p)) (ad6 p).length true] (.ret (.sl (ad2 (ad6 r2)) (ad6 r2).length false))):adY prog ap [] nt (lT 0 (adW f81)) ⟨[(11,.sl (ad2 (ad6 x)) (ad6 x).length false),(12,.sl (ad2 (ad6 y)) (ad6 y).length false),(13,.ref 0 0 0 m),(14,.sl (ad2 (ad6 r)) (ad6 r).length false),(15,.int .i64 (k:Int))],[(0,⟨(ad2 Q),0,false,0,1,true⟩)],.dead,[]⟩ (.normal) ⟨[(11,.sl (ad2 (ad6 x)) (ad6 x).length false),(12,.sl (ad2 (ad6 y)) (ad6 y).length false),(13,.ref 0 0 0 m),(14,.sl (ad2 (ad6 r2)) (ad6 r2).length false),(15,.int .i64 (IntKind.wrap .i64 ((k:Int) - ((1:Nat):Int))))],[(0,⟨(List.take ((0+(Int.toNat (k:Int)))*1) (ad2 Q)++ [.int .i64 (q:Int)]++List.drop (((0+(Int.toNat (k:Int)))*1)+1) (ad2 Q)),0,false,0,1,true⟩)],.dead,[]⟩:=pJ 81 [] 2 3 (.c h0 (.c h1 (.c h2 (.c h3 (.c h1 (.c h2 (.c h4 (.c h5 (.c h6 (.k 2 h7 (.c h1 (.c h8 (.c h9 .nil))))))))))))) (.c c4 (.c c3 (.c c2 (.c c1 (.c c0 .nil))))) hn
theorem a_c {nt:Nat} (hn:87≤nt) (x y r w q p r2 m k:Nat) (c:Int) (Q:List Nat) (h0:lit false (decide (((0:Nat):Int)≤c))=true) (h1:(Nat.beq (List.length (ad2 (ad6 r))) ((ad6 r).length*1))=true) (h2:(Nat.ble (1+(ad6 r).length) 1099511627776)=true) (h3:(chk (.int .i64) (List.headD (List.drop ((Int.toNat (k:Int))*1) (ad2 (ad6 x))) .dead))=true) (h4:(decide (((0:Nat):Int)≤(k:Int)))=true) (h5:(decide ((k:Int)<(((ad6 x).length:Nat):Int)))=true) (h6:lit true (decide (((0:Nat):Int)≤(k:Int)))=true) (c0:CO 108 [.sl (List.take ((1+(ad6 r).length)*1) ([.int .i64 (AV.toInt (List.headD (List.drop ((Int.toNat (k:Int))*1) (ad2 (ad6 x))) .dead))]++(ad2 (ad6 r)))) (1+(ad6 r).length) true] (.ret (.sl (ad2 (ad6 w)) (ad6 w).length false))) (c1:CO 109 [.sl (ad2 (ad6 w)) (ad6 w).length false,.sl (ad2 (ad6 y)) (ad6 y).length false] (.ret (.int .i64 c))):adY prog ap [] nt (lT 0 (adW f81)) ⟨[(11,.sl (ad2 (ad6 x)) (ad6 x).length false),(12,.sl (ad2 (ad6 y)) (ad6 y).length false),(13,.ref 0 0 0 m),(14,.sl (ad2 (ad6 r)) (ad6 r).length false),(15,.int .i64 (k:Int))],[(0,⟨(ad2 Q),0,false,0,1,true⟩)],.dead,[]⟩ (.normal) ⟨[(11,.sl (ad2 (ad6 x)) (ad6 x).length false),(12,.sl (ad2 (ad6 y)) (ad6 y).length false),(13,.ref 0 0 0 m),(14,.sl (ad2 (ad6 w)) (ad6 w).length false),(15,.int .i64 (IntKind.wrap .i64 ((k:Int) - ((1:Nat):Int))))],[(0,⟨(ad2 Q),0,false,0,1,true⟩)],.dead,[]⟩:=pJ 81 [] 2 1 (.c h0 (.c h1 (.c h2 (.k 2 h3 (.c h4 (.c h5 (.c h6 .nil))))))) (.c c1 (.c c0 .nil)) hn
theorem a1h {nt:Nat} (hn:87≤nt) (x y r w q p r2 m k:Nat) (c:Int) (Q:List Nat):adY prog ap [] nt (lT 0 (adW f81)) ⟨[(11,.sl (ad2 (ad6 x)) (ad6 x).length false),(12,.sl (ad2 (ad6 y)) (ad6 y).length false),(13,.ref 0 0 0 m),(14,.sl (ad2 (ad6 r)) (ad6 r).length false),(15,.int .i64 (-1))],[(0,⟨(ad2 Q),0,false,0,1,true⟩)],.dead,[]⟩ (.exit 0) ⟨[(13,.ref 0 0 0 m),(14,.sl (ad2 (ad6 r)) (ad6 r).length false)],[(0,⟨(ad2 Q),0,false,0,1,true⟩)],.dead,[]⟩:=pJ 81 [] 1 0 (.n 1 .nil) (.nil) hn
def quL (x y m k:Nat):List Nat:=(List.range m).map fun i=>if i<k then 0 else x / 16777216^i / y % 16777216
theorem aBv (x y m k:Nat):(quL x y m k).length=m:=by simp [quL]
theorem aSb {x y m k:Nat} (hk:k<m):(quL x y m (k+1)).set k (x / 16777216^k / y % 16777216)=quL x y m k:=by
 apply List.ext_getElem?
 intro i
 rw [List.getElem?_set,aBv]
 unfold quL
 by_cases hi:k=i
 ·subst hi;simp [hk]
 ·rw [if_neg hi]
  by_cases him:i<m
  ·simp only [List.getElem?_map,List.getElem?_range him,Option.map_some]
   by_cases h1:i<k
   ·rw [if_pos (by omega),if_pos h1]
   ·rw [if_neg (by omega),if_neg h1]
  ·rw [List.getElem?_eq_none (by simp;omega),List.getElem?_eq_none (by simp;omega)]
theorem aGE (x y m:Nat):quL x y m m=List.replicate m 0:=by
 unfold quL
 apply List.ext_getElem?
 intro i
 by_cases him:i<m
 ·simp [him]
 ·rw [List.getElem?_eq_none (by simp;omega),List.getElem?_eq_none (by simp;omega)]
theorem aSa (x y m k:Nat):auL (quL x y m k):=by
 intro d hd
 obtain ⟨i,_,rfl⟩:=List.mem_map.1 hd
 show (if i<k then 0 else _)<_
 split<;>omega
theorem aP6 (z:Nat):∀ m,avr ((List.range m).map fun i=>z / 16777216^i % 16777216)=z % 16777216^m:=by
 intro m
 induction m with
 |zero=>simp [avr,Nat.mod_one]
 |succ m ih=>
  rw [List.range_succ,List.map_append,aFs,ih,List.length_map,List.length_range,Nat.pow_succ,Nat.mod_mul]
  simp only [List.map_cons,List.map_nil,avr,Nat.mul_zero,Nat.add_zero]
theorem aSc {x y m:Nat} (h:x / y<16777216^m):avr (quL x y m 0)=x / y:=by
 have e:quL x y m 0=(List.range m).map fun i=>x / y / 16777216^i % 16777216:=by
  unfold quL
  apply List.map_congr_left
  intro i _
  rw [if_neg (by omega),Nat.div_div_eq_div_mul,Nat.div_div_eq_div_mul,Nat.mul_comm]
 rw [e,aP6,Nat.mod_eq_of_lt h]
theorem aN1:∀ (k x:Nat),(ad6 x).getD k 0=x / 16777216^k % 16777216:=by
 intro k
 induction k with
 |zero=>
  intro x
  rcases Nat.eq_zero_or_pos x with rfl|h
  ·rw [avD];rfl
  ·rw [ax6 h];simp
 |succ k ih=>
  intro x
  rcases Nat.eq_zero_or_pos x with rfl|h
  ·rw [avD];simp
  ·rw [ax6 h,List.getD_cons_succ,ih,Nat.div_div_eq_div_mul,Nat.pow_succ,Nat.mul_comm]
theorem aK6 {V R' Q' x H:Nat} (hV:0<V) (h:H=V*Q'+R'):(x+16777216*H) / V=16777216*Q'+(x+16777216*R') / V∧(x+16777216*H) % V=(x+16777216*R') % V:=by
 subst h
 have e:x+16777216*(V*Q'+R')=x+16777216*R'+V*(16777216*Q'):=by
  rw [Nat.mul_add,Nat.mul_left_comm];omega
 rw [e]
 constructor
 ·rw [Nat.add_mul_div_left _ _ hV,Nat.add_comm]
 ·rw [Nat.add_mul_mod_self_left]
def aMF (x y m k:Nat):St:=⟨[(11,.sl (ad2 (ad6 x)) (ad6 x).length false),(12,.sl (ad2 (ad6 y)) (ad6 y).length false),(13,.ref 0 0 0 m),(14,.sl (ad2 (ad6 (x / 16777216^k % y))) (ad6 (x / 16777216^k % y)).length false),(15,.int .i64 ((k:Int) - 1))],[(0,⟨ad2 (quL x y m k),0,false,0,1,true⟩)],.dead,[]⟩
theorem a_e {nt:Nat} (hn:87≤nt) (x y r w q p r2 m k d:Nat) (c:Int) (Q Q2:List Nat) (hk:k<(ad6 x).length) (hd:(ad6 x).getD k 0=d) (hQ:Q.length=m) (hkm:k<m) (hm:m<2^40) (hrl:(ad6 r).length<2^39) (hset:Q.set k q=Q2) (hc:0≤c)
  (c0:CO 108 [.sl (ad2 (d::ad6 r)) (1+(ad6 r).length) true] (.ret (.sl (ad2 (ad6 w)) (ad6 w).length false)))
  (c1:CO 109 [.sl (ad2 (ad6 w)) (ad6 w).length false,.sl (ad2 (ad6 y)) (ad6 y).length false] (.ret (.int .i64 c)))
  (c2:CO 110 [.sl (ad2 (ad6 w)) (ad6 w).length false,.sl (ad2 (ad6 y)) (ad6 y).length false] (.ret (.int .i64 (q:Int))))
  (c3:CO 112 [.sl (ad2 (ad6 y)) (ad6 y).length false,.int .i64 (q:Int)] (.ret (.sl (ad2 (ad6 p)) (ad6 p).length true)))
  (c4:CO 111 [.sl (ad2 (ad6 w)) (ad6 w).length false,.sl (ad2 (ad6 p)) (ad6 p).length true] (.ret (.sl (ad2 (ad6 r2)) (ad6 r2).length false))):
  adY prog ap [] nt (lT 0 (adW f81)) ⟨[(11,.sl (ad2 (ad6 x)) (ad6 x).length false),(12,.sl (ad2 (ad6 y)) (ad6 y).length false),(13,.ref 0 0 0 m),(14,.sl (ad2 (ad6 r)) (ad6 r).length false),(15,.int .i64 (k:Int))],[(0,⟨ad2 Q,0,false,0,1,true⟩)],.dead,[]⟩ .normal
   ⟨[(11,.sl (ad2 (ad6 x)) (ad6 x).length false),(12,.sl (ad2 (ad6 y)) (ad6 y).length false),(13,.ref 0 0 0 m),(14,.sl (ad2 (ad6 r2)) (ad6 r2).length false),(15,.int .i64 ((k:Int) - 1))],[(0,⟨ad2 Q2,0,false,0,1,true⟩)],.dead,[]⟩:=by
 have hb:=a_b hn x y r w q p r2 m k c Q
 have ew:IntKind.wrap .i64 ((k:Int) - ((1:Nat):Int))=(k:Int) - 1:=auI (by omega) (by omega)
 have hset':=aRg (l:=Q) (j:=k) (by omega) q
 rw [hset] at hset'
 have hg2:Q2.getD k 0=q:=by rw [← hset,List.getD_eq_getElem?_getD,List.getElem?_set_self (by omega)];rfl
 have hl2:Q2.length=m:=by rw [← hset];simp [hQ]
 have htk:List.take (1+(ad6 r).length) (ad2 (d::ad6 r))=ad2 (d::ad6 r):=by rw [avl,List.take_of_length_le (by simp;omega)]
 have hz:(((0:Nat):Int)≤c)=True:=by simp [hc]
 simp (disch:=first|omega|(simp [ad4,ad7]<;>omega)) only [aeb,Nat.zero_add,Nat.mul_one,hset',avT,hg2,avj,avb,an5,an7,avq,avG,hz,decide_true,aot,aHu,hd,anY,aIv,htk,ew] at hb
 apply hb<;>first|exact True.intro|omega|assumption|exact rfl
theorem a_d {nt:Nat} (hn:87≤nt) (x y r w m k d:Nat) (c:Int) (Q:List Nat) (hk:k<(ad6 x).length) (hd:(ad6 x).getD k 0=d) (hQ:Q.length=m) (hkm:k<m) (hm:m<2^40) (hrl:(ad6 r).length<2^39) (hc:c<0)
  (c0:CO 108 [.sl (ad2 (d::ad6 r)) (1+(ad6 r).length) true] (.ret (.sl (ad2 (ad6 w)) (ad6 w).length false)))
  (c1:CO 109 [.sl (ad2 (ad6 w)) (ad6 w).length false,.sl (ad2 (ad6 y)) (ad6 y).length false] (.ret (.int .i64 c))):
  adY prog ap [] nt (lT 0 (adW f81)) ⟨[(11,.sl (ad2 (ad6 x)) (ad6 x).length false),(12,.sl (ad2 (ad6 y)) (ad6 y).length false),(13,.ref 0 0 0 m),(14,.sl (ad2 (ad6 r)) (ad6 r).length false),(15,.int .i64 (k:Int))],[(0,⟨ad2 Q,0,false,0,1,true⟩)],.dead,[]⟩ .normal
   ⟨[(11,.sl (ad2 (ad6 x)) (ad6 x).length false),(12,.sl (ad2 (ad6 y)) (ad6 y).length false),(13,.ref 0 0 0 m),(14,.sl (ad2 (ad6 w)) (ad6 w).length false),(15,.int .i64 ((k:Int) - 1))],[(0,⟨ad2 Q,0,false,0,1,true⟩)],.dead,[]⟩:=by
 have hb:=a_c hn x y r w 0 0 0 m k c Q
 have ew:IntKind.wrap .i64 ((k:Int) - ((1:Nat):Int))=(k:Int) - 1:=auI (by omega) (by omega)
 have htk:List.take (1+(ad6 r).length) (ad2 (d::ad6 r))=ad2 (d::ad6 r):=by rw [avl,List.take_of_length_le (by simp;omega)]
 have hz:(((0:Nat):Int)≤c)=False:=by simp [hc]
 simp (disch:=first|omega|(simp [ad4,ad7]<;>omega)) only [hz,decide_false,avs,Bool.not_false,avq,Nat.mul_one,aHu,decide_true,avG,an5,aeb,avT,hd,avj,avb,an7,aot,anY,aIv,htk,ew] at hb
 apply hb<;>first|exact True.intro|omega|assumption|exact rfl
theorem aR9 (x y m k:Nat) (hy:0<y) (hk:k<m):∃ d r w:Nat,(ad6 x).getD k 0=d∧x / 16777216^(k+1) % y=r∧d+16777216*r=w∧d<16777216∧r<y∧x / 16777216^k % y=w % y∧(quL x y m (k+1)).set k (w / y)=quL x y m k∧(quL x y m (k+1)).getD k 0=0:=by
 have hdl:=Nat.mod_lt (x / 16777216^k) (show 0<16777216 by omega)
 have hrl:=Nat.mod_lt (x / 16777216^(k+1)) hy
 refine ⟨x / 16777216^k % 16777216,x / 16777216^(k+1) % y,_,aN1 k x,rfl,rfl,hdl,hrl, ?_, ?_, ?_⟩
 ·have hdm:=Nat.div_add_mod (x / 16777216^(k+1)) y
  obtain ⟨_,v2⟩:=aK6 (x:=x / 16777216^k % 16777216) hy hdm.symm
  have hH:x / 16777216^k % 16777216+16777216*(x / 16777216^(k+1))=x / 16777216^k:=by
   rw [Nat.pow_succ,← Nat.div_div_eq_div_mul];omega
  rw [hH] at v2
  exact v2
 ·have hdm:=Nat.div_add_mod (x / 16777216^(k+1)) y
  obtain ⟨v1,_⟩:=aK6 (x:=x / 16777216^k % 16777216) hy hdm.symm
  have hH:x / 16777216^k % 16777216+16777216*(x / 16777216^(k+1))=x / 16777216^k:=by
   rw [Nat.pow_succ,← Nat.div_div_eq_div_mul];omega
  rw [hH] at v1
  have hset:=aSb (x:=x) (y:=y) hk
  rw [v1] at hset
  have hwl:x / 16777216^k % 16777216+16777216*(x / 16777216^(k+1) % y)<y*16777216:=by omega
  have hql:(x / 16777216^k % 16777216+16777216*(x / 16777216^(k+1) % y)) / y<16777216:=by rw [Nat.div_lt_iff_lt_mul hy,Nat.mul_comm 16777216 y];exact hwl
  rw [Nat.mul_add_mod,Nat.mod_eq_of_lt hql] at hset
  exact hset
 ·unfold quL;rw [List.getD_eq_getElem?_getD];simp [hk]
theorem aL5 {w y:Nat} (h:w<y*16777216):(ad6 w).length≤(ad6 y).length+1:=by
 apply aDA
 have h1:=aAD y
 rw [Nat.pow_succ]
 exact Nat.lt_trans h (Nat.mul_lt_mul_of_pos_right h1 (by omega))
theorem aR_ {nt:Nat} (hn:87≤nt) (x y m k:Nat) (hy:0<y) (hm:(ad6 x).length=m) (hk:k<m) (hxl:m<2^35) (hyl:(ad6 y).length<2^34):adY prog ap [] nt (lT 0 (adW f81)) (aMF x y m (k+1)) .normal (aMF x y m k):=by
 obtain ⟨d,r,w,hd,hr,hw,hdl,hrl,hmod,hset,hq0⟩:=aR9 x y m k hy hk
 have hQl:=aBv x y m (k+1)
 unfold aMF
 rw [show (((k+1:Nat):Int) - 1)=(k:Int) by omega,hr,hmod]
 have hwl:w<y*16777216:=by omega
 have hrm:=ay5 (Nat.le_of_lt hrl)
 have htr:=aCg (d::ad6 r) true (by simp;omega)
 rw [aLH (auL.cons hdl (auL.dig r))] at htr
 simp only [avr,awH,hw,List.length_cons] at htr
 rw [Nat.add_comm (ad6 r).length 1] at htr
 have htr2:=htr.out (awZ.sl1 _ _ _)
 have hql:w / y<16777216:=by rw [Nat.div_lt_iff_lt_mul hy,Nat.mul_comm];exact hwl
 have hwd:=aL5 hwl
 have hcm:=aLt (ad6 w) (ad6 y) false false (auL.dig _) (auL.dig _) (by omega) (by omega)
 have hcs:=aGd w y
 generalize quL x y m k=Q2 at*
 generalize quL x y m (k+1)=Q1 at*
 by_cases hc:0≤aIh (ad6 w) (ad6 y)
 ·have hyw:=hcs.1.1 hc
  have hdig:=aN3 w y false false hy hwl (by omega) (by omega)
  have htm:=aJb y (w / y) false hql (by omega)
  have hle:y*(w / y)≤w:=Nat.mul_div_le w y
  have hmi:=aOV w (y*(w / y)) false true hle (by omega)
  have hmd:w - y*(w / y)=w % y:=by have:=Nat.div_add_mod w y;omega
  rw [hmd] at hmi
  exact a_e hn x y r w (w / y) (y*(w / y)) (w % y) m k d _ Q1 Q2 (by omega) hd hQl hk (by omega) (by omega) hset hc htr2 hcm hdig htm hmi
 ·have hyw:w<y:=Nat.lt_of_not_le (fun h=>hc (hcs.1.2 h))
  have hw0:w / y=0:=Nat.div_eq_of_lt hyw
  rw [Nat.mod_eq_of_lt hyw]
  rw [hw0] at hset
  have hsame:Q1.set k 0=Q1:=by
   apply List.ext_getElem?
   intro i
   rw [List.getElem?_set]
   by_cases hi:k=i
   ·subst hi
    rw [List.getD_eq_getElem?_getD,List.getElem?_eq_getElem (by omega)] at hq0
    rw [if_pos rfl,if_pos (by omega),List.getElem?_eq_getElem (by omega)]
    simpa using hq0.symm
   ·rw [if_neg hi]
  rw [hsame] at hset
  subst hset
  exact a_d hn x y r w m k d _ Q1 (by omega) hd hQl hk (by omega) (by omega) (by omega) htr2 hcm
def aLs (x y m k:Nat):St:=⟨[(13,.ref 0 0 0 m),(14,.sl (ad2 (ad6 (x / 16777216^k % y))) (ad6 (x / 16777216^k % y)).length false)],[(0,⟨ad2 (quL x y m k),0,false,0,1,true⟩)],.dead,[]⟩
theorem aR8 {nt:Nat} (hn:87≤nt) (x y m:Nat) (hy:0<y) (hm:(ad6 x).length=m) (hxl:m<2^35) (hyl:(ad6 y).length<2^34):∀ k,k≤m→aea prog ap [] nt (lT 0 (adW f81)) (fun _=> .exit 0) (aMF x y m) (aLs x y m) k 0:=by
 intro k
 induction k with
 |zero=>
  intro _
  refine .done ?_
  unfold aLs
  have h:=a1h hn x y (x / 16777216^0 % y) 0 0 0 0 m 0 0 (quL x y m 0)
  exact h
 |succ k ih=>exact fun hk=> .next (aR_ hn x y m k hy hm (by omega) hxl hyl) (ih (by omega))
theorem aGM {s:List UInt8}:(ad6 (adX s)).length≤s.length:=by
 apply aDA
 have h:=aym s
 refine Nat.lt_of_lt_of_le h ?_
 rw [show (16777216:Nat)=2^24 from rfl,← Nat.pow_mul]
 exact Nat.pow_le_pow_right (by omega) (by omega)
theorem azH (s t:List UInt8) (hs:s.length<2^33) (ht:t.length<2^33) (h0:0<adX t):CO 81 [.str s,.str t] (.ret (.tup [.str (adF (adX s / adX t)),.str (adF (adX s % adX t)),.bool true])):=by
 have hc:=avR t (by omega)
 have hvn:=anZ (adX t)
 have htl:(adF (adX t)).length≤t.length:=axu (Nat.le_refl _)
 have hne:adF (adX t) ≠ []:=fun h=>by have:=aw4.1 h;omega
 have hnl:0<(adF (adX t)).length:=by
  cases hq:adF (adX t) with
  |nil=>exact absurd hq hne
  |cons _ _=>simp
 have hnz:((adF (adX t)).length=0)=False:=by simp;exact hne
 have e7:((7:Nat):Int)=7:=rfl
 by_cases hb:adX s<2^(8*7)∧adX t<2^(8*7)
 ·have hsm1:=aCj s 7 (by omega) (by omega) hb.1
  have hsm2:=aCj (adF (adX t)) 7 (by omega) (by omega) (by rw [hvn];exact hb.2)
  rw [hvn] at hsm2
  have hx63:adX s<9223372036854775808:=Nat.lt_of_lt_of_le hb.1 (by decide)
  have hy63:adX t<9223372036854775808:=Nat.lt_of_lt_of_le hb.2 (by decide)
  have q1:=Nat.div_le_self (adX s) (adX t)
  have q2:=Nat.mod_le (adX s) (adX t)
  have o1:=avd (adX s / adX t) (by omega)
  have o2:=avd (adX s % adX t) (by omega)
  have h:=a_a s t (adX s) (adX t) (adX s / adX t) (adX s % adX t)
  have ht0:(adX t=0)=False:=by simp;omega
  clear hb hs
  simp (disch:=first|omega|(simp [ad4,ad7]<;>omega)) only [ayp,ht0,decide_false,Bool.not_false,hnz,avs,az6,an9,aD5] at h
  apply h<;>first|exact True.intro|omega|assumption|exact rfl
 ·have hof1:=aTH s (by omega)
  have hof2:=aTH (adF (adX t)) (by omega)
  rw [hvn] at hof2
  have hxl:=aGM (s:=s)
  have hyl:=aGM (s:=t)
  have hloop:=fun nt (hn:87≤nt)=>aR8 hn (adX s) (adX t) _ h0 rfl (by omega) (by omega) _ (Nat.le_refl _)
  have hQl:=aBv (adX s) (adX t) (ad6 (adX s)).length 0
  have hqv:avr (quL (adX s) (adX t) (ad6 (adX s)).length 0)=adX s / adX t:=aSc (Nat.lt_of_le_of_lt (Nat.div_le_self _ _) (aAD _))
  have hn1:=aIM (quL (adX s) (adX t) (ad6 (adX s)).length 0) true (by omega) (aSa _ _ _ _)
  rw [hqv,hQl] at hn1
  have hr0:adX s / 16777216^0 % adX t=adX s % adX t:=by rw [Nat.pow_zero,Nat.div_one]
  have hrm:=ay5 (Nat.le_of_lt (Nat.mod_lt (adX s) h0))
  have hn2:=aIM (ad6 (adX s % adX t)) false (by omega) (auL.dig _)
  rw [awH] at hn2
  have hz0:adX s / 16777216^(ad6 (adX s)).length % adX t=0:=by rw [Nat.div_eq_of_lt (aAD _),Nat.zero_mod]
  have hwl:IntKind.wrap .i64 ((((ad6 (adX s)).length:Nat):Int) - ((1:Nat):Int))=((ad6 (adX s)).length:Int) - 1:=aEB (by omega)
  have hout:aLs (adX s) (adX t) (ad6 (adX s)).length 0=⟨[(13,.ref 0 0 0 (ad6 (adX s)).length),(14,.sl (ad2 (ad6 (adX s % adX t))) (ad6 (adX s % adX t)).length false)],[(0,⟨ad2 (quL (adX s) (adX t) (ad6 (adX s)).length 0),0,false,0,1,true⟩)],.dead,[]⟩:=by unfold aLs;rw [hr0]
  have hm40:(ad6 (adX s)).length<2^35:=by omega
  have htk:List.take (ad6 (adX s)).length (ad2 (quL (adX s) (adX t) (ad6 (adX s)).length 0))=ad2 (quL (adX s) (adX t) (ad6 (adX s)).length 0):=by rw [avl,List.take_of_length_le (by omega)]
  by_cases hx:adX s<2^(8*7)
  ·have hy:2^(8*7)≤adX t:=by
    rcases Nat.lt_or_ge (adX t) (2^(8*7)) with h|h
    ·exact absurd ⟨hx,h⟩ hb
    ·exact h
   have hsm1:=aCj s 7 (by omega) (by omega) hx
   have hsm2:=aFk (adF (adX t)) 7 (by omega) (by rw [hvn];exact hy)
   clear hb hx hy
   have h:=a9_ s t (adX s) 0 (adX s / adX t) (adX s % adX t) (ad6 (adX s)).length (quL (adX s) (adX t) (ad6 (adX s)).length 0) 0 true
   rw [hvn] at h
   simp (disch:=first|omega|(simp [ad4,ad7]<;>omega)) only [avb,an5,decide_true,ayp,hnz,decide_false,avs,Bool.not_false,aeb,hwl,aHI,Nat.mul_one,htk] at h
   apply h<;>first|exact True.intro|omega|assumption|exact rfl|skip
   ·refine aea.blkF hloop (by simp) rfl ?_ (by rw [hout];exact ayY.refl _)
    unfold aMF
    rw [aGE,hz0,avD]
    exact ayY.of ⟨anX.refl _,anX.refl _,anX.refl _,anX.nilS false rfl,anX.refl _,trivial⟩
  ·have hsm1:=aFk s 7 (by omega) (Nat.le_of_not_lt hx)
   have hsm2:∃ zy b2,CO 77 [.str (adF (adX t)),.int .i64 7] (.ret (.tup [.int .i64 zy,.bool b2])):=by
    rcases Nat.lt_or_ge (adX t) (2^(8*7)) with h|h
    ·exact ⟨_,_,aCj (adF (adX t)) 7 (by omega) (by omega) (by rw [hvn];exact h)⟩
    ·exact ⟨_,_,aFk (adF (adX t)) 7 (by omega) (by rw [hvn];exact h)⟩
   obtain ⟨zy,b2,hsm2⟩:=hsm2
   clear hb hx
   have h:=a9Z s t 0 0 (adX s / adX t) (adX s % adX t) (ad6 (adX s)).length (quL (adX s) (adX t) (ad6 (adX s)).length 0) zy b2
   rw [hvn] at h
   simp (disch:=first|omega|(simp [ad4,ad7]<;>omega)) only [avb,an5,decide_true,ayp,hnz,decide_false,avs,Bool.not_false,aeb,hwl,aHI,Nat.mul_one,htk] at h
   apply h<;>first|exact True.intro|omega|assumption|exact rfl|skip
   ·refine aea.blkF hloop (by simp) rfl ?_ (by rw [hout];exact ayY.refl _)
    unfold aMF
    rw [aGE,hz0,avD]
    exact ayY.of ⟨anX.refl _,anX.refl _,anX.refl _,anX.nilS false rfl,anX.refl _,trivial⟩
theorem a1q {nt:Nat} (hn:25≤nt) (s t q r:List UInt8) (h0:lit true (decide (((0:Nat):Int)<(((List.length t):Nat):Int)))=true) (c0:CO 81 [.str s,.str t] (.ret (.tup [.str q,.str r,.bool true]))):adY prog ap [] nt (lT 0 (adW f80)) ⟨[(0,.str s),(1,.str t)],[],.dead,[]⟩ (.normal) ⟨[(0,.str t),(1,.str r)],[],.dead,[]⟩:=pJ 80 [] 1 1 (.c h0 .nil) (.c c0 .nil) hn
theorem a1r {nt:Nat} (hn:25≤nt) (s t q r:List UInt8) (h0:lit false (decide (((0:Nat):Int)<(((List.length t):Nat):Int)))=true):adY prog ap [] nt (lT 0 (adW f80)) ⟨[(0,.str s),(1,.str t)],[],.dead,[]⟩ (.exit 0) ⟨[(0,.str s)],[],.dead,[]⟩:=pJ 80 [] 1 0 (.c h0 .nil) (.nil) hn
theorem a1o (s t g:List UInt8) (c0:CO 76 [.str s] (.ret (.str (adF (adX s))))) (c1:CO 76 [.str t] (.ret (.str (adF (adX t))))) (l0:ajS prog ap [] 25 (.block 0 (.loop (lT 0 (adW f80)))) ⟨[(0,.str (adF (adX s))),(1,.str (adF (adX t))),(4,.str []),(6,.dead),(14,.dead)],[],.dead,[]⟩ (.normal) ⟨[(0,.str g)],[],.dead,[]⟩):CO 80 [.str s,.str t] (.ret (.str g)):=pK [0] 0 0 .nil (.l l0 (.c c1 (.c c0 .nil)))
def a1p (p:Nat × Nat):St:=⟨[(0,.str (adF p.1)),(1,.str (adF p.2))],[],.dead,[]⟩
def aTG (x:Nat):St:=⟨[(0,.str (adF x))],[],.dead,[]⟩
theorem aMI {nt:Nat} (hn:25≤nt):∀ (n y x:Nat),y<n→(adF x).length<2^33→(adF y).length<2^33→aea prog ap [] nt (lT 0 (adW f80)) (fun _=> .exit 0) a1p aTG (x,y) (Nat.gcd x y):=by
 intro n
 induction n with
 |zero=>intro y x h;omega
 | succ n ih=>
  intro y x h hx hy
  rcases Nat.eq_zero_or_pos y with rfl|h0
  ·rw [Nat.gcd_zero_right]
   refine .done ?_
   unfold a1p aTG
   rw [avQ]
   exact a1r hn (adF x) [] [] [] rfl
  ·have hm:=Nat.mod_lt x h0
   have hl:(adF (x % y)).length<2^33:=by
    have:x % y≤adX (adF y):=by rw [anZ];omega
    have:=axu this
    omega
   have hnext:=ih (x % y) y (by omega) hy hl
   rw [show Nat.gcd y (x % y)=Nat.gcd x y by rw [Nat.gcd_comm y,← Nat.gcd_rec,Nat.gcd_comm]] at hnext
   refine .next ?_ hnext
   have hq:=azH (adF x) (adF y) hx hy (by rw [anZ];exact h0)
   rw [anZ,anZ] at hq
   have hne:adF y ≠ []:=fun h=>by have:=aw4.1 h;omega
   have hpos:0<(adF y).length:=by
    cases hq:adF y with
    |nil=>exact absurd hq hne
    |cons _ _=>simp
   exact a1q hn (adF x) (adF y) _ _ (by rw [an7,aot];exact decide_eq_true hpos) hq
theorem aLx (s t:List UInt8) (hs:s.length<2^33) (ht:t.length<2^33):CO 80 [.str s,.str t] (.ret (.str (adF (Nat.gcd (adX s) (adX t))))):=by
 have l1:(adF (adX s)).length≤s.length:=axu (Nat.le_refl _)
 have l2:(adF (adX t)).length≤t.length:=axu (Nat.le_refl _)
 exact a1o s t _ (avR s (by omega)) (avR t (by omega)) (aea.blk (fun nt hn=>aMI hn (adX t+1) (adX t) (adX s) (by omega) (by omega) (by omega)) (by simp) rfl (anT.of ⟨rfl,rfl,trivial⟩) (anT.of ⟨rfl,trivial⟩))
theorem a0X (neg:Bool) (n d:List UInt8) (g:Nat) (h0:lit true (!(nR n))=true) (c0:CO 128 [.str n] (.ret (.bool (nR n)))) (c1:CO 128 [.str d] (.ret (.bool (nR d)))):CO 104 [.agg [.bool neg,.str n,.str d]] (.ret (.bool false)):=pK [] 3 7 (.k 2 h0 (.n 2 .nil)) (.c c1 (.c c0 .nil))
theorem a0Y (neg:Bool) (n d:List UInt8) (g:Nat) (h0:lit true (!(nR d))=true) (h1:lit false (!(nR n))=true) (c0:CO 128 [.str n] (.ret (.bool (nR n)))) (c1:CO 128 [.str d] (.ret (.bool (nR d)))):CO 104 [.agg [.bool neg,.str n,.str d]] (.ret (.bool false)):=pK [] 3 6 (.k 1 h0 (.c h1 (.n 2 .nil))) (.c c1 (.c c0 .nil))
theorem a0Z (neg:Bool) (n d:List UInt8) (g:Nat) (h0:lit true (d== [])=true) (h1:lit false (!(nR d))=true) (h2:lit false (!(nR n))=true) (c0:CO 128 [.str n] (.ret (.bool (nR n)))) (c1:CO 128 [.str d] (.ret (.bool (nR d)))):CO 104 [.agg [.bool neg,.str n,.str d]] (.ret (.bool false)):=pK [] 3 4 (.c h0 (.k 1 h1 (.c h2 (.n 2 .nil)))) (.c c1 (.c c0 .nil))
theorem a0_ (neg:Bool) (n d:List UInt8) (g:Nat) (h0:lit true (!neg)=true) (h1:lit true (n== [])=true) (h2:lit false (d== [])=true) (h3:lit false (!(nR d))=true) (h4:lit false (!(nR n))=true) (c0:CO 128 [.str n] (.ret (.bool (nR n)))) (c1:CO 128 [.str d] (.ret (.bool (nR d)))) (c2:CO 49 [.int .i64 1] (.ret (.str (adF 1)))) (c3:CO 118 [.str d,.str (adF 1)] (.ret (.int .i64 (sgn (adX d) (adX (adF 1)))))):CO 104 [.agg [.bool neg,.str n,.str d]] (.ret (.bool ((sgn (adX d) (adX (adF 1)))==((0:Nat):Int)))):=pK [] 5 24 (.k 1 h0 (.k 1 h1 (.k 1 h2 (.k 1 h3 (.c h4 (.n 2 .nil)))))) (.c c3 (.c c2 (.c c1 (.c c0 .nil))))
theorem a1a (neg:Bool) (n d:List UInt8) (g:Nat) (h0:lit false (!neg)=true) (h1:lit true (n== [])=true) (h2:lit false (d== [])=true) (h3:lit false (!(nR d))=true) (h4:lit false (!(nR n))=true) (c0:CO 128 [.str n] (.ret (.bool (nR n)))) (c1:CO 128 [.str d] (.ret (.bool (nR d)))):CO 104 [.agg [.bool neg,.str n,.str d]] (.ret (.bool false)):=pK [] 5 8 (.c h0 (.k 1 h1 (.k 1 h2 (.k 1 h3 (.c h4 (.n 2 .nil)))))) (.c c1 (.c c0 .nil))
theorem a1b (neg:Bool) (n d:List UInt8) (g:Nat) (h0:lit false (n== [])=true) (h1:lit false (d== [])=true) (h2:lit false (!(nR d))=true) (h3:lit false (!(nR n))=true) (c0:CO 128 [.str n] (.ret (.bool (nR n)))) (c1:CO 128 [.str d] (.ret (.bool (nR d)))) (c2:CO 80 [.str n,.str d] (.ret (.str (adF g)))) (c3:CO 49 [.int .i64 1] (.ret (.str (adF 1)))) (c4:CO 118 [.str (adF g),.str (adF 1)] (.ret (.int .i64 (sgn (adX (adF g)) (adX (adF 1)))))):CO 104 [.agg [.bool neg,.str n,.str d]] (.ret (.bool ((sgn (adX (adF g)) (adX (adF 1)))==((0:Nat):Int)))):=pK [] 4 0 (.k 2 h0 (.k 1 h1 (.k 1 h2 (.c h3 (.n 2 .nil))))) (.c c4 (.c c3 (.c c2 (.c c1 (.c c0 .nil)))))
theorem a0U (neg:Bool) (n d:List UInt8) (g:Nat) (h0:lit true (n== [])=true) (c0:CO 49 [.int .i64 1] (.ret (.str (adF 1)))):CO 51 [.bool neg,.str n,.str d] (.ret (.agg [.bool false,.str [],.str (adF 1)])):=pK [] 1 1 (.k 4 h0 .nil) (.c c0 .nil)
theorem a0V (neg:Bool) (n d:List UInt8) (g:Nat) (h0:lit false (n== [])=true) (c0:CO 80 [.str n,.str d] (.ret (.str (adF g)))) (c1:CO 81 [.str n,.str (adF g)] (.ret (.tup [.str (adF (adX n / g)),.str (adF (adX n % g)),.bool true]))) (c2:CO 81 [.str d,.str (adF g)] (.ret (.tup [.str (adF (adX d / g)),.str (adF (adX d % g)),.bool true]))):CO 51 [.bool neg,.str n,.str d] (.ret (.agg [.bool neg,.str (adF (adX n / g)),.str (adF (adX d / g))])):=pK [] 1 0 (.k 4 h0 .nil) (.c c2 (.c c1 (.c c0 .nil)))
theorem a0R (neg:Bool) (n d:List UInt8) (h0:lit true (decide ((((avo (adX n)):Nat):Int)≤((400:Nat):Int)))=true) (h1:lit true (isQ neg n d)=true) (c0:CO 104 [.agg [.bool neg,.str n,.str d]] (.ret (.bool (isQ neg n d)))) (c1:CO 133 [.str n] (.ret (.int .i64 (((avo (adX n)):Nat):Int)))) (c2:CO 133 [.str d] (.ret (.int .i64 (((avo (adX d)):Nat):Int)))):CO 105 [.agg [.bool neg,.str n,.str d]] (.ret (.bool (decide ((((avo (adX d)):Nat):Int)≤((400:Nat):Int))))):=pK [] 2 3 (.k 1 h0 (.k 1 h1 (.n 3 .nil))) (.c c2 (.c c1 (.c c0 .nil)))
theorem a0S (neg:Bool) (n d:List UInt8) (h0:lit false (decide ((((avo (adX n)):Nat):Int)≤((400:Nat):Int)))=true) (h1:lit true (isQ neg n d)=true) (c0:CO 104 [.agg [.bool neg,.str n,.str d]] (.ret (.bool (isQ neg n d)))) (c1:CO 133 [.str n] (.ret (.int .i64 (((avo (adX n)):Nat):Int)))):CO 105 [.agg [.bool neg,.str n,.str d]] (.ret (.bool false)):=pK [] 2 1 (.c h0 (.k 1 h1 (.n 3 .nil))) (.c c1 (.c c0 .nil))
theorem a0T (neg:Bool) (n d:List UInt8) (h0:lit false (isQ neg n d)=true) (c0:CO 104 [.agg [.bool neg,.str n,.str d]] (.ret (.bool (isQ neg n d)))):CO 105 [.agg [.bool neg,.str n,.str d]] (.ret (.bool false)):=pK [] 2 0 (.k 1 h0 (.n 3 .nil)) (.c c0 .nil)
theorem a1f (neg:Bool) (n d:List UInt8) (h0:lit true (!(isQ neg n d))=true) (c0:CO 104 [.agg [.bool neg,.str n,.str d]] (.ret (.bool (isQ neg n d)))) (c1:CO 49 [.int .i64 1] (.ret (.str (adF 1)))):CO 70 [.agg [.bool neg,.str n,.str d]] (.ret (.agg [.bool false,.str [],.str (adF 1)])):=pK [] 1 1 (.k 4 h0 (.n 3 .nil)) (.c c1 (.c c0 .nil))
theorem a1g (neg:Bool) (n d:List UInt8) (h0:lit false (!(isQ neg n d))=true) (c0:CO 104 [.agg [.bool neg,.str n,.str d]] (.ret (.bool (isQ neg n d)))):CO 70 [.agg [.bool neg,.str n,.str d]] (.ret (.agg [.bool neg,.str n,.str d])):=pK [] 1 0 (.k 7 h0 (.n 3 .nil)) (.c c0 .nil)
theorem a0W (v:Int) (x z:Nat) (h0:lit true (decide (((0:Nat):Int)≤v))=true) (c0:CO 49 [.int .i64 v] (.ret (.str (adF z)))) (c1:CO 49 [.int .i64 1] (.ret (.str (adF 1)))):CO 36 [.int .i64 v] (.ret (.agg [.bool false,.str (adF z),.str (adF 1)])):=pK [] 1 1 (.k 4 h0 .nil) (.c c1 (.c c0 .nil))
theorem a1c (neg sg:Bool) (n d n1 d1:List UInt8) (h0:lit true (n1== [])=true) (c0:CO 70 [.agg [.bool neg,.str n,.str d]] (.ret (.agg [.bool sg,.str n1,.str d1]))):CO 45 [.agg [.bool neg,.str n,.str d]] (.ret (.int .i64 0)):=pK [] 1 1 (.c h0 (.n 5 .nil)) (.c c0 .nil)
theorem a1d (neg sg:Bool) (n d n1 d1:List UInt8) (h0:lit true sg=true) (h1:lit false (n1== [])=true) (c0:CO 70 [.agg [.bool neg,.str n,.str d]] (.ret (.agg [.bool sg,.str n1,.str d1]))):CO 45 [.agg [.bool neg,.str n,.str d]] (.ret (.int .i64 (-1))):=pK [] 2 2 (.c h0 (.k 1 h1 (.n 5 .nil))) (.c c0 .nil)
theorem a1e (neg sg:Bool) (n d n1 d1:List UInt8) (h0:lit false sg=true) (h1:lit false (n1== [])=true) (c0:CO 70 [.agg [.bool neg,.str n,.str d]] (.ret (.agg [.bool sg,.str n1,.str d1]))):CO 45 [.agg [.bool neg,.str n,.str d]] (.ret (.int .i64 1)):=pK [] 2 0 (.c h0 (.k 1 h1 (.n 5 .nil))) (.c c0 .nil)
theorem aLB {x:Nat}:((sgn x (adX (adF 1)))==((0:Nat):Int))=decide (x=1):=by
 rw [anZ]
 unfold sgn
 rcases Nat.lt_trichotomy x 1 with h|h|h
 ·rw [if_pos h,decide_eq_false (by omega)];rfl
 ·rw [if_neg (by omega),if_neg (by omega),decide_eq_true h];rfl
 ·rw [if_neg (by omega),if_pos h,decide_eq_false (by omega)];rfl
theorem aE4 (neg:Bool) (n d:List UInt8) (hn:n.length<2^33) (hd:d.length<2^33):CO 104 [.agg [.bool neg,.str n,.str d]] (.ret (.bool (isQ neg n d))):=by
 have h1:=aBy n
 have h2:=aBy d
 have h3:=avd 1 (by omega)
 have hl1:(adF 1).length≤1:=avV (by omega)
 have hc:=aPl d (adF 1) (by omega) (by omega)
 have hg:=aLx n d hn hd
 have hsg:=@aLB (adX d)
 cases hbn:nR n with
 |false=>
  have e:isQ neg n d=false:=by unfold isQ;rw [hbn];rfl
  rw [e]
  exact a0X neg n d 0 (by rw [hbn];rfl) h1 h2
 | true=>
  cases hbd:nR d with
  |false=>
   have e:isQ neg n d=false:=by unfold isQ;rw [hbd];simp
   rw [e]
   exact a0Y neg n d 0 (by rw [hbd];rfl) (by rw [hbn];rfl) h1 h2
  | true=>
   have en:=(azA n).1 hbn
   have ed:=(azA d).1 hbd
   by_cases hd0:d= []
   ·have e:isQ neg n d=false:=by
     subst hd0;unfold isQ;simp [show adX []=0 from rfl]
    rw [e]
    exact a0Z neg n d 0 (by rw [hd0];rfl) (by rw [hbd];rfl) (by rw [hbn];rfl) h1 h2
   ·have hdp:0<adX d:=by
     rcases Nat.eq_zero_or_pos (adX d) with h|h
     ·rw [h,avQ] at ed;exact absurd ed.symm hd0
     ·exact h
    have hd0':(d== [])=false:=by simpa using hd0
    by_cases hn0:n= []
    ·have hn0':(n== [])=true:=by simpa using hn0
     have hv0:adX n=0:=by rw [hn0];rfl
     cases neg with
     | false=>
      have h:=a0_ false n d 0 rfl (by rw [hn0'];rfl) (by rw [hd0'];rfl) (by rw [hbd];rfl) (by rw [hbn];rfl) h1 h2 h3 hc
      rw [hsg] at h
      have e:isQ false n d=decide (adX d=1):=by
       rw [Bool.eq_iff_iff,axQ,hv0,Nat.gcd_zero_left]
       simp [hbn,hbd];omega
      rw [e];exact h
     | true=>
      have h:=a1a true n d 0 rfl (by rw [hn0'];rfl) (by rw [hd0'];rfl) (by rw [hbd];rfl) (by rw [hbn];rfl) h1 h2
      have e:isQ true n d=false:=by
       rw [Bool.eq_false_iff];intro h
       have:=(axQ.1 h).2.2.2.2 rfl
       omega
      rw [e];exact h
    ·have hn0':(n== [])=false:=by simpa using hn0
     have hnp:0<adX n:=by
      rcases Nat.eq_zero_or_pos (adX n) with h|h
      ·rw [h,avQ] at en;exact absurd en.symm hn0
      ·exact h
     have hgl:(adF (Nat.gcd (adX n) (adX d))).length≤d.length:=axu (Nat.gcd_le_right _ hdp)
     have hc2:=aPl (adF (Nat.gcd (adX n) (adX d))) (adF 1) (by omega) (by omega)
     have h:=a1b neg n d (Nat.gcd (adX n) (adX d)) (by rw [hn0'];rfl) (by rw [hd0'];rfl) (by rw [hbd];rfl) (by rw [hbn];rfl) h1 h2 hg h3 hc2
     rw [aLB,anZ] at h
     have e:isQ neg n d=decide (Nat.gcd (adX n) (adX d)=1):=by
      rw [Bool.eq_iff_iff,axQ]
      simp [hbn,hbd,hdp,hnp]
     rw [e];exact h
theorem axU (neg:Bool) (n d:List UInt8) (hn:n.length<2^33) (hd:d.length<2^33):CO 105 [.agg [.bool neg,.str n,.str d]] (.ret (.bool (axJ neg n d))):=by
 have hr:=aE4 neg n d hn hd
 have h1:=aIS n (by omega)
 have h2:=aIS d (by omega)
 unfold axJ
 cases hb:isQ neg n d with
 |false=>exact a0T neg n d (by rw [hb];rfl) hr
 | true=>
  by_cases h3:avo (adX n)≤400
  ·have h:=a0R neg n d (by rw [avb,decide_eq_true h3];rfl) (by rw [hb];rfl) hr h1 h2
   rw [avb] at h
   rw [decide_eq_true h3]
   exact h
  ·have h:=a0S neg n d (by rw [avb,decide_eq_false h3];rfl) (by rw [hb];rfl) hr h1
   rw [decide_eq_false h3]
   exact h
structure RQ where
 neg:Bool
 n:Nat
 d:Nat
def RQ.ok (q:RQ):Prop:=0<q.d∧Nat.gcd q.n q.d=1∧(q.neg=true→0<q.n)
def qA (q:RQ):AV:= .agg [.bool q.neg,.str (adF q.n),.str (adF q.d)]
def q0:RQ:=⟨false,0,1⟩
def aBr (neg:Bool) (n d:Nat):RQ:=⟨neg && decide (0<n),n / Nat.gcd n d,d / Nat.gcd n d⟩
def vQ (neg:Bool) (n d:List UInt8):RQ:=if isQ neg n d=true then ⟨neg,adX n,adX d⟩ else q0
theorem aJ5 (q:RQ) (h:q.ok):isQ q.neg (adF q.n) (adF q.d)=true:=by
 rw [axQ,anZ,anZ]
 exact ⟨aDJ _,aDJ _,h⟩
theorem aRi {neg:Bool} {n d:List UInt8} (h:isQ neg n d=true):AV.agg [.bool neg,.str n,.str d]=qA ⟨neg,adX n,adX d⟩:=by
 obtain ⟨h1,h2,_⟩:=axQ.1 h
 unfold qA
 rw [(azA n).1 h1,(azA d).1 h2]
theorem aLf {neg:Bool} {n d:Nat} (h:0<d):(aBr neg n d).ok:=by
 have hg:0<Nat.gcd n d:=Nat.gcd_pos_of_pos_right _ h
 refine ⟨Nat.div_pos (Nat.gcd_le_right _ h) hg, ?_, ?_⟩
 ·show Nat.gcd (n / Nat.gcd n d) (d / Nat.gcd n d)=1
  rw [Nat.gcd_div (Nat.gcd_dvd_left _ _) (Nat.gcd_dvd_right _ _),Nat.div_self hg]
 ·intro hn
  have:0<n:=by simp [aBr] at hn;exact hn.2
  exact Nat.div_pos (Nat.gcd_le_left _ this) hg
theorem awO (neg:Bool) (n d:List UInt8) (hn:n.length<2^33) (hd:d.length<2^33):CO 70 [.agg [.bool neg,.str n,.str d]] (.ret (qA (vQ neg n d))):=by
 have hr:=aE4 neg n d hn hd
 unfold vQ
 cases hb:isQ neg n d with
 |false=>
  have h:=a1f neg n d (by rw [hb];rfl) hr (avd 1 (by omega))
  rw [if_neg (by simp)]
  unfold qA q0
  rw [avQ];exact h
 |true=>
  have h:=a1g neg n d (by rw [hb];rfl) hr
  rw [if_pos rfl,← aRi hb]
  exact h
theorem av9 (neg:Bool) (n d:Nat) (hn:(adF n).length<2^33) (hd:(adF d).length<2^33) (h0:0<d):CO 51 [.bool neg,.str (adF n),.str (adF d)] (.ret (qA (aBr neg n d))):=by
 have hg:=aLx (adF n) (adF d) hn hd
 rw [anZ,anZ] at hg
 have hgp:0<Nat.gcd n d:=Nat.gcd_pos_of_pos_right _ h0
 have hgl:(adF (Nat.gcd n d)).length≤(adF d).length:=axu (by rw [anZ];exact Nat.gcd_le_right _ h0)
 have q1:=azH (adF n) (adF (Nat.gcd n d)) hn (by omega) (by rw [anZ];exact hgp)
 have q2:=azH (adF d) (adF (Nat.gcd n d)) hd (by omega) (by rw [anZ];exact hgp)
 simp only [anZ] at q1 q2
 rcases Nat.eq_zero_or_pos n with rfl|hp
 ·have h:=a0U neg (adF 0) (adF d) 0 (by rw [avQ];rfl) (avd 1 (by omega))
  unfold qA aBr
  simp only [Nat.lt_irrefl,decide_false,Bool.and_false,Nat.gcd_zero_left,Nat.zero_div,Nat.div_self h0,avQ]
  rw [avQ] at h
  exact h
 ·have hne:adF n ≠ []:=fun h=>by have:=aw4.1 h;omega
  have h:=a0V neg (adF n) (adF d) (Nat.gcd n d) (by simp [lit,hne])
  simp only [anZ] at h
  unfold qA aBr
  simp only [hp,decide_true,Bool.and_true]
  exact h hg q1 q2
def aVZ (q:RQ):Int:=if q.n=0 then 0 else if q.neg then -1 else 1
theorem aVY (neg:Bool) (n d:List UInt8):ayV neg n d=aVZ (vQ neg n d):=by
 unfold ayV aVZ vQ
 cases hb:isQ neg n d with
 |false=>simp [q0]
 | true=>
  simp only [true_and,if_true]
  by_cases h:0<adX n
  ·have h':¬ adX n=0:=by omega
   simp [h,h']
  ·have h':adX n=0:=by omega
   simp [h']
theorem aGD (neg:Bool) (n d:List UInt8) (hn:n.length<2^33) (hd:d.length<2^33):CO 45 [.agg [.bool neg,.str n,.str d]] (.ret (.int .i64 (ayV neg n d))):=by
 have hv:=awO neg n d hn hd
 rw [aVY]
 generalize vQ neg n d=q at*
 obtain ⟨sg,N,D⟩:=q
 unfold qA at hv
 unfold aVZ
 simp only at hv ⊢
 rcases Nat.eq_zero_or_pos N with rfl|hp
 ·rw [if_pos rfl]
  exact a1c neg sg n d (adF 0) (adF D) (by rw [avQ];rfl) hv
 ·have hne:adF N ≠ []:=fun h=>by have:=aw4.1 h;omega
  have hne':(adF N== [])=false:=by simpa using hne
  rw [if_neg (by omega)]
  cases sg with
  |true=>exact a1d neg true n d (adF N) (adF D) rfl (by rw [hne'];rfl) hv
  |false=>exact a1e neg false n d (adF N) (adF D) rfl (by rw [hne'];rfl) hv
def eqS (neg:Bool) (n d:List UInt8) (a:Nat):Bool:=((neg==false) && ((n==(adF a)) && ((d==(adF 1)) && true)))
theorem aDs (a:Nat) (ha:a<9223372036854775808):CO 36 [.int .i64 (a:Int)] (.ret (aPk false a 1)):=
 a0W (a:Int) 0 a (by simp [lit]) (avd a ha) (avd 1 (by omega))
def aLW:List UInt8:= [97,98,99,100,101,102,103,104,105,106,107,108,109,110,111,112,113,114,115,116,117,118,119,120,121,122,48,49,50,51,52,53,54,55,56,57,95]
def asc:List AV:= [.bool false,.bool false,.bool false,.bool false,.bool false,.bool false,.bool false,.bool false,.bool false,.bool false,.bool false,.bool false,.bool false,.bool false,.bool false,.bool false,.bool false,.bool false,.bool false,.bool false,.bool false,.bool false,.bool false,.bool false,.bool false,.bool false,.bool false,.bool false,.bool false,.bool false,.bool false,.bool false,.bool false,.bool false,.bool false,.bool false,.bool false,.bool false,.bool false,.bool false,.bool false,.bool false,.bool false,.bool false,.bool false,.bool false,.bool false,.bool false,.bool true,.bool true,.bool true,.bool true,.bool true,.bool true,.bool true,.bool true,.bool true,.bool true,.bool false,.bool false,.bool false,.bool false,.bool false,.bool false,.bool false,.bool false,.bool false,.bool false,.bool false,.bool false,.bool false,.bool false,.bool false,.bool false,.bool false,.bool false,.bool false,.bool false,.bool false,.bool false,.bool false,.bool false,.bool false,.bool false,.bool false,.bool false,.bool false,.bool false,.bool false,.bool false,.bool false,.bool false,.bool false,.bool false,.bool false,.bool true,.bool false,.bool true,.bool true,.bool true,.bool true,.bool true,.bool true,.bool true,.bool true,.bool true,.bool true,.bool true,.bool true,.bool true,.bool true,.bool true,.bool true,.bool true,.bool true,.bool true,.bool true,.bool true,.bool true,.bool true,.bool true,.bool true,.bool true,.bool false,.bool false,.bool false,.bool false,.bool false,.bool false,.bool false,.bool false,.bool false,.bool false,.bool false,.bool false,.bool false,.bool false,.bool false,.bool false,.bool false,.bool false,.bool false,.bool false,.bool false,.bool false,.bool false,.bool false,.bool false,.bool false,.bool false,.bool false,.bool false,.bool false,.bool false,.bool false,.bool false,.bool false,.bool false,.bool false,.bool false,.bool false,.bool false,.bool false,.bool false,.bool false,.bool false,.bool false,.bool false,.bool false,.bool false,.bool false,.bool false,.bool false,.bool false,.bool false,.bool false,.bool false,.bool false,.bool false,.bool false,.bool false,.bool false,.bool false,.bool false,.bool false,.bool false,.bool false,.bool false,.bool false,.bool false,.bool false,.bool false,.bool false,.bool false,.bool false,.bool false,.bool false,.bool false,.bool false,.bool false,.bool false,.bool false,.bool false,.bool false,.bool false,.bool false,.bool false,.bool false,.bool false,.bool false,.bool false,.bool false,.bool false,.bool false,.bool false,.bool false,.bool false,.bool false,.bool false,.bool false,.bool false,.bool false,.bool false,.bool false,.bool false,.bool false,.bool false,.bool false,.bool false,.bool false,.bool false,.bool false,.bool false,.bool false,.bool false,.bool false,.bool false,.bool false,.bool false,.bool false,.bool false,.bool false,.bool false,.bool false,.bool false,.bool false,.bool false,.bool false,.bool false,.bool false,.bool false,.bool false,.bool false,.bool false,.bool false,.bool false]
theorem aUb:CO 143 [.str aLW] (.ret (.tup [.agg asc,.bool true])):=aF_ aHj (lf:=3000) (n:=4) (ans:= []) .nil (by kernel_rfl)
theorem aYV (xs:List AV) (c:Nat) (h0:(chk .bool (List.headD (List.drop (0+((Int.toNat (c:Int))*1)) xs) .dead))=true) (h1:(decide (((0:Nat):Int)≤(c:Int)))=true) (h2:(decide ((c:Int)<((256:Nat):Int)))=true):CO 166 [.pp xs 0,.int .u8 (c:Int)] (.ret (.bool (AV.toBool (List.headD (List.drop (0+((Int.toNat (c:Int))*1)) xs) .dead)))):=pK [] 0 0 (.c h0 (.c h1 (.c h2 .nil))) (.nil)
theorem a_v {nt:Nat} (hn:16≤nt) (s:List UInt8) (xs:List AV) (b:Bool) (h0:lit true (!b)=true) (h1:(decide (((0:Nat):Int)<(((List.length s):Nat):Int)))=true) (h2:lit true (decide (((0:Nat):Int)<(((List.length s):Nat):Int)))=true) (c0:CO 166 [.pp xs 0,.int .u8 ((UInt8.toNat (List.getD s 0 0):Nat):Int)] (.ret (.bool b))):adY prog ap [] nt (lT 0 (adW f144)) ⟨[(0,.str s),(1,.pp xs 0)],[],.dead,[]⟩ (.exit 0) ⟨[(0,.str s)],[],.dead,[]⟩:=pJ 144 [] 2 3 (.c h0 (.k 1 h1 (.c h2 .nil))) (.c c0 .nil) hn
theorem a_w {nt:Nat} (hn:16≤nt) (s:List UInt8) (xs:List AV) (b:Bool) (h0:(decide (((1:Nat):Int)≤(((List.length s):Nat):Int)))=true) (h1:(decide ((((List.length s):Nat):Int)≤(((List.length s):Nat):Int)))=true) (h2:lit false (!b)=true) (h3:(decide (((0:Nat):Int)<(((List.length s):Nat):Int)))=true) (h4:lit true (decide (((0:Nat):Int)<(((List.length s):Nat):Int)))=true) (c0:CO 166 [.pp xs 0,.int .u8 ((UInt8.toNat (List.getD s 0 0):Nat):Int)] (.ret (.bool b))):adY prog ap [] nt (lT 0 (adW f144)) ⟨[(0,.str s),(1,.pp xs 0)],[],.dead,[]⟩ (.normal) ⟨[(0,.str (List.drop 1 (List.take (Int.toNat (((List.length s):Nat):Int)) s))),(1,.pp xs 0)],[],.dead,[]⟩:=pJ 144 [] 2 1 (.k 1 h0 (.c h1 (.c h2 (.k 1 h3 (.c h4 .nil))))) (.c c0 .nil) hn
theorem a_x {nt:Nat} (hn:16≤nt) (s:List UInt8) (xs:List AV) (b:Bool) (h0:lit false (decide (((0:Nat):Int)<(((List.length s):Nat):Int)))=true):adY prog ap [] nt (lT 0 (adW f144)) ⟨[(0,.str s),(1,.pp xs 0)],[],.dead,[]⟩ (.exit 0) ⟨[(0,.str s)],[],.dead,[]⟩:=pJ 144 [] 1 0 (.c h0 .nil) (.nil) hn
theorem a2t (s r:List UInt8) (xs:List AV) (l0:ajS prog ap [] 16 (.block 0 (.loop (lT 0 (adW f144)))) ⟨[(0,.str s),(1,.pp xs 0),(4,.str []),(7,.dead),(12,.dead)],[],.dead,[]⟩ (.normal) ⟨[(0,.str r)],[],.dead,[]⟩):CO 144 [.str s,.pp xs 0] (.ret (.str r)):=pK [0] 0 0 .nil (.l l0 .nil)
theorem a_y {nt:Nat} (hn:22≤nt) (s:List UInt8) (xs:List AV) (b:Bool) (h0:lit true (!b)=true) (h1:(decide (((0:Nat):Int)≤(IntKind.wrap .i64 ((((List.length s):Nat):Int) - ((1:Nat):Int)))))=true) (h2:(decide ((IntKind.wrap .i64 ((((List.length s):Nat):Int) - ((1:Nat):Int)))<(((List.length s):Nat):Int)))=true) (h3:lit true (decide (((0:Nat):Int)<(((List.length s):Nat):Int)))=true) (c0:CO 166 [.pp xs 0,.int .u8 ((UInt8.toNat (List.getD s (Int.toNat (IntKind.wrap .i64 ((((List.length s):Nat):Int) - ((1:Nat):Int)))) 0):Nat):Int)] (.ret (.bool b))):adY prog ap [] nt (lT 0 (adW f145)) ⟨[(0,.str s),(1,.pp xs 0)],[],.dead,[]⟩ (.exit 0) ⟨[(0,.str s)],[],.dead,[]⟩:=pJ 145 [] 2 3 (.c h0 (.c h1 (.c h2 (.c h3 .nil)))) (.c c0 .nil) hn
theorem a_z {nt:Nat} (hn:22≤nt) (s:List UInt8) (xs:List AV) (b:Bool) (h0:(decide (((0:Nat):Int)≤(IntKind.wrap .i64 ((((List.length s):Nat):Int) - ((1:Nat):Int)))))=true) (h1:(decide ((IntKind.wrap .i64 ((((List.length s):Nat):Int) - ((1:Nat):Int)))≤(((List.length s):Nat):Int)))=true) (h2:lit false (!b)=true) (h3:(decide ((IntKind.wrap .i64 ((((List.length s):Nat):Int) - ((1:Nat):Int)))<(((List.length s):Nat):Int)))=true) (h4:lit true (decide (((0:Nat):Int)<(((List.length s):Nat):Int)))=true) (c0:CO 166 [.pp xs 0,.int .u8 ((UInt8.toNat (List.getD s (Int.toNat (IntKind.wrap .i64 ((((List.length s):Nat):Int) - ((1:Nat):Int)))) 0):Nat):Int)] (.ret (.bool b))):adY prog ap [] nt (lT 0 (adW f145)) ⟨[(0,.str s),(1,.pp xs 0)],[],.dead,[]⟩ (.normal) ⟨[(0,.str (List.drop 0 (List.take (Int.toNat (IntKind.wrap .i64 ((((List.length s):Nat):Int) - ((1:Nat):Int)))) s))),(1,.pp xs 0)],[],.dead,[]⟩:=pJ 145 [] 2 1 (.k 1 h0 (.c h1 (.c h2 (.c h0 (.c h3 (.c h4 .nil)))))) (.c c0 .nil) hn
theorem a_A {nt:Nat} (hn:22≤nt) (s:List UInt8) (xs:List AV) (b:Bool) (h0:lit false (decide (((0:Nat):Int)<(((List.length s):Nat):Int)))=true):adY prog ap [] nt (lT 0 (adW f145)) ⟨[(0,.str s),(1,.pp xs 0)],[],.dead,[]⟩ (.exit 0) ⟨[(0,.str s)],[],.dead,[]⟩:=pJ 145 [] 1 0 (.c h0 .nil) (.nil) hn
theorem a2w (s r:List UInt8) (xs:List AV) (l0:ajS prog ap [] 22 (.block 0 (.loop (lT 0 (adW f145)))) ⟨[(0,.str s),(1,.pp xs 0),(4,.str []),(7,.dead),(15,.dead)],[],.dead,[]⟩ (.normal) ⟨[(0,.str r)],[],.dead,[]⟩):CO 145 [.str s,.pp xs 0] (.ret (.str r)):=pK [0] 0 0 .nil (.l l0 .nil)
def aT_:List Bool:= [false,false,false,false,false,false,false,false,false,false,false,false,false,false,false,false,false,false,false,false,false,false,false,false,false,false,false,false,false,false,false,false,false,false,false,false,false,false,false,false,false,false,false,false,false,false,false,false,true,true,true,true,true,true,true,true,true,true,false,false,false,false,false,false,false,false,false,false,false,false,false,false,false,false,false,false,false,false,false,false,false,false,false,false,false,false,false,false,false,false,false,false,false,false,false,true,false,true,true,true,true,true,true,true,true,true,true,true,true,true,true,true,true,true,true,true,true,true,true,true,true,true,true,false,false,false,false,false,false,false,false,false,false,false,false,false,false,false,false,false,false,false,false,false,false,false,false,false,false,false,false,false,false,false,false,false,false,false,false,false,false,false,false,false,false,false,false,false,false,false,false,false,false,false,false,false,false,false,false,false,false,false,false,false,false,false,false,false,false,false,false,false,false,false,false,false,false,false,false,false,false,false,false,false,false,false,false,false,false,false,false,false,false,false,false,false,false,false,false,false,false,false,false,false,false,false,false,false,false,false,false,false,false,false,false,false,false,false,false,false,false,false,false,false,false,false,false,false,false,false,false,false,false,false,false,false]
theorem aUa:asc=aT_.map AV.bool:=rfl
def inN (c:Nat):Bool:=(decide (97≤c) && decide (c≤122))||(decide (48≤c) && decide (c≤57))||decide (c=95)
def awo (c:UInt8):Bool:=inN c.toNat
theorem aQC:∀ i:Fin 256,aT_.getD i.val false=inN i.val:=by decide
theorem aNY (c:UInt8):CO 166 [.pp asc 0,.int .u8 (c.toNat:Int)] (.ret (.bool (awo c))):=by
 have hc:c.toNat<256:=UInt8.toNat_lt c
 have hl:aT_.length=256:=by decide
 have hh:List.headD (List.drop c.toNat asc) .dead= .bool (awo c):=by
  have h1:=aQC ⟨c.toNat,hc⟩
  simp only at h1
  rw [aUa,← List.map_drop,List.drop_eq_getElem_cons (by omega),List.map_cons,List.headD_cons]
  rw [List.getD_eq_getElem?_getD,List.getElem?_eq_getElem (by omega)] at h1
  unfold awo
  rw [← h1];rfl
 have h:=aYV asc c.toNat
 rw [aeb,Nat.zero_add,Nat.mul_one,hh] at h
 exact h rfl (by rw [avb];exact decide_eq_true (by omega)) (by rw [an7];exact decide_eq_true hc)
def a1P (s:List UInt8):St:=⟨[(0,.str s),(1,.pp asc 0)],[],.dead,[]⟩
def aTK (s:List UInt8):St:=⟨[(0,.str s)],[],.dead,[]⟩
theorem aSO {nt:Nat} (hn:16≤nt):∀ (s:List UInt8),s.length<2^40→aea prog ap [] nt (lT 0 (adW f144)) (fun _=> .exit 0) a1P aTK s (s.dropWhile awo):=by
 intro s
 induction s with
 |nil=>exact fun _=> .done (a_x hn [] asc true rfl)
 | cons c s ih=>
  intro hl
  simp only [List.length_cons] at hl
  rw [List.dropWhile_cons]
  have hc:=aNY c
  cases hb:awo c with
  |true=>
   rw [hb] at hc
   refine .next ?_ (by simpa using ih (by omega))
   have h:=a_w hn (c::s) asc true
   have e1:List.drop 1 (List.take (s.length+1) (c::s))=s:=by simp
   simp only [List.length_cons,List.getD_cons_zero] at h
   simp (disch:=first|omega|(simp [ad4,ad7]<;>omega)) only [avb,an5,Bool.not_true,avs,Bool.not_false,an7,aot,aeb,e1] at h
   apply h<;>first|exact True.intro|omega|assumption|exact rfl
  |false=>
   rw [hb] at hc
   refine .done ?_
   have h:=a_v hn (c::s) asc false
   simp only [List.length_cons,List.getD_cons_zero] at h
   simp (disch:=first|omega|(simp [ad4,ad7]<;>omega)) only [Bool.not_false,aot,an7,an5] at h
   apply h<;>first|exact True.intro|omega|assumption|exact rfl
def trR (s:List UInt8):List UInt8:=(s.reverse.dropWhile awo).reverse
theorem aPW (s:List UInt8) (c:UInt8):trR (s++ [c])=if awo c=true then trR s else s++ [c]:=by
 unfold trR
 rw [List.reverse_append]
 simp only [List.reverse_cons,List.reverse_nil,List.nil_append,List.singleton_append,List.dropWhile_cons]
 by_cases h:awo c=true
 ·simp [h]
 ·simp [h]
theorem aSU {nt:Nat} (hn:22≤nt):∀ (k:Nat) (s:List UInt8),s.length=k→k<2^40→aea prog ap [] nt (lT 0 (adW f145)) (fun _=> .exit 0) a1P aTK s (trR s):=by
 intro k
 induction k with
 |zero=>
  intro s hs _
  have:s= []:=List.eq_nil_of_length_eq_zero hs
  subst this
  exact .done (a_A hn [] asc true rfl)
 | succ k ih=>
  intro s hs hk
  rcases List.eq_nil_or_concat s with rfl|⟨s',c,rfl⟩
  ·simp at hs
  ·rw [List.concat_eq_append] at hs ⊢
   have hs':s'.length=k:=by simpa using hs
   rw [aPW]
   have hc:=aNY c
   have hg:(s'++ [c]).getD s'.length 0=c:=by simp
   have e1:s'.length+1 - 1=s'.length:=rfl
   have htk:List.take s'.length (s'++ [c])=s':=by simp
   cases hb:awo c with
   |true=>
    rw [hb] at hc
    rw [if_pos rfl]
    refine .next ?_ (ih s' hs' (by omega))
    have h:=a_z hn (s'++ [c]) asc true
    simp (disch:=first|omega|(simp [ad4,ad7]<;>omega)) only [List.length_append,List.length_cons,List.length_nil,Nat.zero_add,awS,e1,avb,an5,Bool.not_true,avs,Bool.not_false,an7,aot,aeb,hg,htk,List.drop_zero] at h
    apply h<;>first|exact True.intro|omega|assumption|exact rfl
   |false=>
    rw [hb] at hc
    rw [if_neg (by simp)]
    refine .done ?_
    have h:=a_y hn (s'++ [c]) asc false
    simp (disch:=first|omega|(simp [ad4,ad7]<;>omega)) only [Bool.not_false,aot,List.length_append,List.length_cons,List.length_nil,Nat.zero_add,awS,e1,avb,an5,an7,aeb,hg] at h
    apply h<;>first|exact True.intro|omega|assumption|exact rfl
theorem aSV (s u v:List UInt8) (h0:lit true (s== [])=true):CO 117 [.str s,.str aLW] (.ret (.str s)):=pK [] 2 3 (.k 1 h0 .nil) (.nil)
theorem aSW (s u v:List UInt8) (h0:lit false (s== [])=true) (c0:CO 143 [.str aLW] (.ret (.tup [.agg asc,.bool true]))) (c1:CO 145 [.str s,.pp asc 0] (.ret (.str u))) (c2:CO 144 [.str u,.pp asc 0] (.ret (.str v))):CO 117 [.str s,.str aLW] (.ret (.str v)):=pK [] 5 16 (.k 5 h0 .nil) (.c c2 (.c c1 (.c c0 .nil)))
theorem aRR (s v:List UInt8) (h0:lit true (s== [])=true):CO 86 [.str s] (.ret (.bool false)):=pK [] 4 15 (.k 3 h0 .nil) (.nil)
theorem aRS (s v:List UInt8) (h0:lit true (decide (((20:Nat):Int)<(((List.length s):Nat):Int)))=true) (h1:lit false (s== [])=true):CO 86 [.str s] (.ret (.bool false)):=pK [] 4 14 (.k 2 h0 (.c h1 .nil)) (.nil)
theorem aRT (s v:List UInt8) (h0:lit true (decide (((UInt8.toNat (List.getD s 0 0):Nat):Int)<((97:Nat):Int)))=true) (h1:(decide (((0:Nat):Int)<(((List.length s):Nat):Int)))=true) (h2:lit false (decide (((20:Nat):Int)<(((List.length s):Nat):Int)))=true) (h3:lit false (s== [])=true):CO 86 [.str s] (.ret (.bool false)):=pK [] 4 12 (.k 1 h0 (.k 1 h1 (.c h2 (.c h3 .nil)))) (.nil)
theorem aRU (s v:List UInt8) (h0:lit true (decide (((122:Nat):Int)<((UInt8.toNat (List.getD s 0 0):Nat):Int)))=true) (h1:(decide (((0:Nat):Int)<(((List.length s):Nat):Int)))=true) (h2:lit false (decide (((UInt8.toNat (List.getD s 0 0):Nat):Int)<((97:Nat):Int)))=true) (h3:lit false (decide (((20:Nat):Int)<(((List.length s):Nat):Int)))=true) (h4:lit false (s== [])=true):CO 86 [.str s] (.ret (.bool false)):=pK [] 4 8 (.c h0 (.k 1 h1 (.c h2 (.k 1 h1 (.c h3 (.c h4 .nil)))))) (.nil)
theorem aRV (s v:List UInt8) (h0:lit false (decide (((122:Nat):Int)<((UInt8.toNat (List.getD s 0 0):Nat):Int)))=true) (h1:(decide (((0:Nat):Int)<(((List.length s):Nat):Int)))=true) (h2:lit false (decide (((UInt8.toNat (List.getD s 0 0):Nat):Int)<((97:Nat):Int)))=true) (h3:lit false (decide (((20:Nat):Int)<(((List.length s):Nat):Int)))=true) (h4:lit false (s== [])=true) (c0:CO 117 [.str s,.str aLW] (.ret (.str v))):CO 86 [.str s] (.ret (.bool (v== []))):=pK [] 4 0 (.c h0 (.k 1 h1 (.c h2 (.k 1 h1 (.c h3 (.c h4 .nil)))))) (.c c0 .nil)
def aA9 (s:List UInt8):Bool:= !(s== []) && decide (s.length≤20) && decide (97≤(s.getD 0 0).toNat) && decide ((s.getD 0 0).toNat≤122) && s.all awo
theorem aHd {p:UInt8→Bool}:∀ {l:List UInt8},l.dropWhile p= []↔∀ x ∈ l,p x=true
 | []=>by simp
 |c::l=>by
  rw [List.dropWhile_cons]
  cases h:p c with
  |true=>simp [h,aHd (l:=l)]
  |false=>simp [h]
theorem aP0 {s:List UInt8}:(trR s).dropWhile awo= []↔s.all awo=true:=by
 unfold trR
 rw [List.all_eq_true]
 constructor
 ·intro h
  have h1:∀ x ∈ (s.reverse.dropWhile awo),awo x=true:=by
   intro x hx
   exact aHd.1 h x (by simpa using hx)
  have h2:s.reverse.dropWhile awo= []:=by
   cases hd:s.reverse.dropWhile awo with
   |nil=>rfl
   | cons y r=>
    exfalso
    have h3:=h1 y (by rw [hd];simp)
    have h4:∀ (l:List UInt8),l.dropWhile awo=y::r→awo y=false:=by
     intro l
     induction l with
     |nil=>intro h;simp at h
     | cons z l ih=>
      intro h
      rw [List.dropWhile_cons] at h
      split at h
      ·exact ih h
      ·rename_i hz
       cases h
       simpa using hz
    rw [h4 _ hd] at h3
    cases h3
  intro x hx
  exact aHd.1 h2 x (by simpa using hx)
 ·intro h
  have:s.reverse.dropWhile awo= []:=aHd.2 fun x hx=>h x (by simpa using hx)
  rw [this];rfl
theorem aWg (s:List UInt8) (hs:s.length<2^40):CO 144 [.str s,.pp asc 0] (.ret (.str (s.dropWhile awo))):=
 a2t s _ asc (aea.blk (fun nt hn=>aSO hn s hs) (by simp) rfl (anT.of ⟨rfl,rfl,trivial⟩) (anT.of ⟨rfl,trivial⟩))
theorem aWh (s:List UInt8) (hs:s.length<2^40):CO 145 [.str s,.pp asc 0] (.ret (.str (trR s))):=
 a2w s _ asc (aea.blk (fun nt hn=>aSU hn _ s rfl hs) (by simp) rfl (anT.of ⟨rfl,rfl,trivial⟩) (anT.of ⟨rfl,trivial⟩))
theorem aST (s:List UInt8):(trR s).length≤s.length:=by
 unfold trR
 rw [List.length_reverse]
 have:=(List.dropWhile_sublist awo (l:=s.reverse)).length_le
 simpa using this
theorem aSX (s:List UInt8) (hs:s.length<2^40):CO 117 [.str s,.str aLW] (.ret (.str ((trR s).dropWhile awo))):=by
 by_cases h:s= []
 ·subst h
  exact aSV [] [] [] rfl
 ·have hl:=aST s
  exact aSW s _ _ (by simp [lit,h]) aUb (aWh s hs) (aWg _ (by omega))
theorem axt (s:List UInt8):CO 86 [.str s] (.ret (.bool (aA9 s))):=by
 unfold aA9
 by_cases h0:s= []
 ·subst h0;exact aRR [] [] rfl
 ·have hne:(s== [])=false:=by simpa using h0
  have hl0:0<s.length:=by cases s with|nil=>exact absurd rfl h0|cons _ _=>simp
  rw [hne]
  by_cases h1:s.length≤20
  ·have c1:lit false (decide (((20:Nat):Int)<(s.length:Int)))=true:=by rw [an7];simp [lit,h1]
   have cl:decide (((0:Nat):Int)<(s.length:Int))=true:=by rw [an7];exact decide_eq_true hl0
   rw [decide_eq_true h1]
   by_cases h2:97≤(s.getD 0 0).toNat
   ·rw [decide_eq_true h2]
    have c2:lit false (decide (((s.getD 0 0).toNat:Int)<((97:Nat):Int)))=true:=by rw [an7];simp only [lit,Bool.not_eq_true'];exact decide_eq_false (by omega)
    by_cases h3:(s.getD 0 0).toNat≤122
    ·rw [decide_eq_true h3]
     have c3:lit false (decide (((122:Nat):Int)<((s.getD 0 0).toNat:Int)))=true:=by rw [an7];simp only [lit,Bool.not_eq_true'];exact decide_eq_false (by omega)
     have h:=aRV s _ c3 cl c2 c1 (by rw [hne];rfl) (aSX s (by omega))
     have e:((trR s).dropWhile awo== [])=s.all awo:=by
      rw [Bool.eq_iff_iff,← aP0];simp
     rw [e] at h
     exact h
    ·rw [decide_eq_false h3]
     exact aRU s [] (by rw [an7];exact decide_eq_true (by omega)) cl c2 c1 (by rw [hne];rfl)
   ·rw [decide_eq_false h2]
    exact aRT s [] (by rw [an7];exact decide_eq_true (by omega)) cl c1 (by rw [hne];rfl)
  ·rw [decide_eq_false h1]
   exact aRS s [] (by rw [an7];exact decide_eq_true (by omega)) (by rw [hne];rfl)
def awP:List AV:= [.str [],.int .i64 0,.bool false,.bool false,.bool false,.str [36],.int .i64 0,.bool true,.bool false,.bool false,.str [],.int .i64 0,.bool true,.bool false,.bool false,.str [],.int .i64 0,.bool true,.bool false,.bool false,.str [],.int .i64 0,.bool true,.bool false,.bool false,.str [102,97,99,116,46],.int .i64 0,.bool false,.bool true,.bool false,.str [111,119,110,46],.int .i64 0,.bool false,.bool true,.bool false,.str [112,114,105,111,114,46],.int .i64 0,.bool false,.bool true,.bool false,.str [115,112,111,117,115,101,46],.int .i64 0,.bool false,.bool true,.bool false,.str [97,100,100],.int .i64 2,.bool false,.bool false,.bool false,.str [115,117,98],.int .i64 2,.bool false,.bool false,.bool false,.str [109,117,108],.int .i64 2,.bool false,.bool false,.bool false,.str [100,105,118],.int .i64 2,.bool false,.bool false,.bool false,.str [109,105,110],.int .i64 2,.bool false,.bool false,.bool false,.str [109,97,120],.int .i64 2,.bool false,.bool false,.bool false,.str [105,102],.int .i64 3,.bool false,.bool false,.bool false,.str [108,101,115,115],.int .i64 2,.bool false,.bool false,.bool false,.str [101,113,117,97,108],.int .i64 2,.bool false,.bool false,.bool false,.str [97,110,100],.int .i64 2,.bool false,.bool false,.bool false,.str [111,114],.int .i64 2,.bool false,.bool false,.bool false,.str [110,111,116],.int .i64 1,.bool false,.bool false,.bool false,.str [100,111,119,110],.int .i64 1,.bool false,.bool false,.bool true,.str [117,112],.int .i64 1,.bool false,.bool false,.bool true,.str [110,101,97,114],.int .i64 1,.bool false,.bool false,.bool true,.str [114,97,116,101,46],.int .i64 1,.bool false,.bool true,.bool false]
theorem a0y (op:Int) (h0:lit true (decide (op<((1:Nat):Int)))=true):CO 82 [.int .i64 op] (.ret (.tup [.agg [.str [],.int .i64 0,.bool false,.bool false,.bool false],.bool false])):=pK [] 2 3 (.k 7 h0 .nil) (.nil)
theorem a0z (op:Int) (h0:lit true (decide (((24:Nat):Int)<op))=true) (h1:lit false (decide (op<((1:Nat):Int)))=true):CO 82 [.int .i64 op] (.ret (.tup [.agg [.str [],.int .i64 0,.bool false,.bool false,.bool false],.bool false])):=pK [] 2 2 (.k 6 h0 (.c h1 .nil)) (.nil)
theorem a0A (op:Int) (h0:(chk .str (List.headD (List.drop (0+((Int.toNat op)*5)) awP) .dead))=true) (h1:(chk (.int .i64) (List.headD (List.tail (List.drop (0+((Int.toNat op)*5)) awP)) .dead))=true) (h2:(chk .bool (List.headD (List.tail (List.tail (List.drop (0+((Int.toNat op)*5)) awP))) .dead))=true) (h3:(chk .bool (List.headD (List.tail (List.tail (List.tail (List.drop (0+((Int.toNat op)*5)) awP)))) .dead))=true) (h4:(chk .bool (List.headD (List.tail (List.tail (List.tail (List.tail (List.drop (0+((Int.toNat op)*5)) awP))))) .dead))=true) (h5:(decide (((0:Nat):Int)≤op))=true) (h6:(decide (op<((25:Nat):Int)))=true) (h7:lit false (decide (((24:Nat):Int)<op))=true) (h8:lit false (decide (op<((1:Nat):Int)))=true):CO 82 [.int .i64 op] (.ret (.tup [.agg [.str (AV.toStr (List.headD (List.drop (0+((Int.toNat op)*5)) awP) .dead)),.int .i64 (AV.toInt (List.headD (List.tail (List.drop (0+((Int.toNat op)*5)) awP)) .dead)),.bool (AV.toBool (List.headD (List.tail (List.tail (List.drop (0+((Int.toNat op)*5)) awP))) .dead)),.bool (AV.toBool (List.headD (List.tail (List.tail (List.tail (List.drop (0+((Int.toNat op)*5)) awP)))) .dead)),.bool (AV.toBool (List.headD (List.tail (List.tail (List.tail (List.tail (List.drop (0+((Int.toNat op)*5)) awP))))) .dead))],.bool true])):=pK [] 2 0 (.k 6 h0 (.c h1 (.c h2 (.c h3 (.c h4 (.c h5 (.c h6 (.c h7 (.c h8 .nil))))))))) (.nil)
theorem aT0 (op:Int) (h0:lit true (op==((15:Nat):Int))=true):CO 30 [.int .i64 op] (.ret (.int .i64 3)):=pK [] 1 1 (.c h0 .nil) (.nil)
theorem aT1 (op:Int) (h0:lit true (decide (op≤((14:Nat):Int)))=true) (h1:lit true (decide (((9:Nat):Int)≤op))=true) (h2:lit false (op==((15:Nat):Int))=true):CO 30 [.int .i64 op] (.ret (.int .i64 2)):=pK [] 4 14 (.k 1 h0 (.c h1 (.c h2 .nil))) (.nil)
theorem aT2 (op:Int) (h0:lit true (decide (op≤((19:Nat):Int)))=true) (h1:lit true (decide (((16:Nat):Int)≤op))=true) (h2:lit false (decide (op≤((14:Nat):Int)))=true) (h3:lit true (decide (((9:Nat):Int)≤op))=true) (h4:lit false (op==((15:Nat):Int))=true):CO 30 [.int .i64 op] (.ret (.int .i64 2)):=pK [] 5 26 (.c h0 (.c h1 (.c h2 (.c h3 (.c h4 .nil))))) (.nil)
theorem aT3 (op:Int) (h0:lit true (decide (op≤((24:Nat):Int)))=true) (h1:lit true (decide (((20:Nat):Int)≤op))=true) (h2:lit false (decide (op≤((19:Nat):Int)))=true) (h3:lit true (decide (((16:Nat):Int)≤op))=true) (h4:lit false (decide (op≤((14:Nat):Int)))=true) (h5:lit true (decide (((9:Nat):Int)≤op))=true) (h6:lit false (op==((15:Nat):Int))=true):CO 30 [.int .i64 op] (.ret (.int .i64 1)):=pK [] 7 106 (.c h0 (.c h1 (.c h2 (.c h3 (.c h4 (.c h5 (.c h6 .nil))))))) (.nil)
theorem aT4 (op:Int) (h0:lit false (decide (op≤((24:Nat):Int)))=true) (h1:lit true (decide (((20:Nat):Int)≤op))=true) (h2:lit false (decide (op≤((19:Nat):Int)))=true) (h3:lit true (decide (((16:Nat):Int)≤op))=true) (h4:lit false (decide (op≤((14:Nat):Int)))=true) (h5:lit true (decide (((9:Nat):Int)≤op))=true) (h6:lit false (op==((15:Nat):Int))=true):CO 30 [.int .i64 op] (.ret (.int .i64 0)):=pK [] 7 42 (.c h0 (.c h1 (.c h2 (.c h3 (.c h4 (.c h5 (.c h6 .nil))))))) (.nil)
theorem aT5 (op:Int) (h0:lit false (decide (((20:Nat):Int)≤op))=true) (h1:lit false (decide (op≤((19:Nat):Int)))=true) (h2:lit true (decide (((16:Nat):Int)≤op))=true) (h3:lit false (decide (op≤((14:Nat):Int)))=true) (h4:lit true (decide (((9:Nat):Int)≤op))=true) (h5:lit false (op==((15:Nat):Int))=true):CO 30 [.int .i64 op] (.ret (.int .i64 0)):=pK [] 7 10 (.k 1 h0 (.c h1 (.c h2 (.c h3 (.c h4 (.c h5 .nil)))))) (.nil)
theorem aT6 (op:Int) (h0:lit true (decide (op≤((24:Nat):Int)))=true) (h1:lit true (decide (((20:Nat):Int)≤op))=true) (h2:lit false (decide (((16:Nat):Int)≤op))=true) (h3:lit false (decide (op≤((14:Nat):Int)))=true) (h4:lit true (decide (((9:Nat):Int)≤op))=true) (h5:lit false (op==((15:Nat):Int))=true):CO 30 [.int .i64 op] (.ret (.int .i64 1)):=pK [] 7 98 (.c h0 (.c h1 (.k 1 h2 (.c h3 (.c h4 (.c h5 .nil)))))) (.nil)
theorem aT7 (op:Int) (h0:lit false (decide (op≤((24:Nat):Int)))=true) (h1:lit true (decide (((20:Nat):Int)≤op))=true) (h2:lit false (decide (((16:Nat):Int)≤op))=true) (h3:lit false (decide (op≤((14:Nat):Int)))=true) (h4:lit true (decide (((9:Nat):Int)≤op))=true) (h5:lit false (op==((15:Nat):Int))=true):CO 30 [.int .i64 op] (.ret (.int .i64 0)):=pK [] 7 34 (.c h0 (.c h1 (.k 1 h2 (.c h3 (.c h4 (.c h5 .nil)))))) (.nil)
theorem aT8 (op:Int) (h0:lit false (decide (((20:Nat):Int)≤op))=true) (h1:lit false (decide (((16:Nat):Int)≤op))=true) (h2:lit false (decide (op≤((14:Nat):Int)))=true) (h3:lit true (decide (((9:Nat):Int)≤op))=true) (h4:lit false (op==((15:Nat):Int))=true):CO 30 [.int .i64 op] (.ret (.int .i64 0)):=pK [] 7 2 (.k 1 h0 (.k 1 h1 (.c h2 (.c h3 (.c h4 .nil))))) (.nil)
theorem aT9 (op:Int) (h0:lit true (decide (op≤((19:Nat):Int)))=true) (h1:lit true (decide (((16:Nat):Int)≤op))=true) (h2:lit false (decide (((9:Nat):Int)≤op))=true) (h3:lit false (op==((15:Nat):Int))=true):CO 30 [.int .i64 op] (.ret (.int .i64 2)):=pK [] 5 24 (.c h0 (.c h1 (.k 1 h2 (.c h3 .nil)))) (.nil)
theorem aQv (op:Int) (h0:lit true (decide (op≤((24:Nat):Int)))=true) (h1:lit true (decide (((20:Nat):Int)≤op))=true) (h2:lit false (decide (op≤((19:Nat):Int)))=true) (h3:lit true (decide (((16:Nat):Int)≤op))=true) (h4:lit false (decide (((9:Nat):Int)≤op))=true) (h5:lit false (op==((15:Nat):Int))=true):CO 30 [.int .i64 op] (.ret (.int .i64 1)):=pK [] 7 104 (.c h0 (.c h1 (.c h2 (.c h3 (.k 1 h4 (.c h5 .nil)))))) (.nil)
theorem aQw (op:Int) (h0:lit false (decide (op≤((24:Nat):Int)))=true) (h1:lit true (decide (((20:Nat):Int)≤op))=true) (h2:lit false (decide (op≤((19:Nat):Int)))=true) (h3:lit true (decide (((16:Nat):Int)≤op))=true) (h4:lit false (decide (((9:Nat):Int)≤op))=true) (h5:lit false (op==((15:Nat):Int))=true):CO 30 [.int .i64 op] (.ret (.int .i64 0)):=pK [] 7 40 (.c h0 (.c h1 (.c h2 (.c h3 (.k 1 h4 (.c h5 .nil)))))) (.nil)
theorem aQx (op:Int) (h0:lit false (decide (((20:Nat):Int)≤op))=true) (h1:lit false (decide (op≤((19:Nat):Int)))=true) (h2:lit true (decide (((16:Nat):Int)≤op))=true) (h3:lit false (decide (((9:Nat):Int)≤op))=true) (h4:lit false (op==((15:Nat):Int))=true):CO 30 [.int .i64 op] (.ret (.int .i64 0)):=pK [] 7 8 (.k 1 h0 (.c h1 (.c h2 (.k 1 h3 (.c h4 .nil))))) (.nil)
theorem aQy (op:Int) (h0:lit true (decide (op≤((24:Nat):Int)))=true) (h1:lit true (decide (((20:Nat):Int)≤op))=true) (h2:lit false (decide (((16:Nat):Int)≤op))=true) (h3:lit false (decide (((9:Nat):Int)≤op))=true) (h4:lit false (op==((15:Nat):Int))=true):CO 30 [.int .i64 op] (.ret (.int .i64 1)):=pK [] 7 96 (.c h0 (.c h1 (.k 1 h2 (.k 1 h3 (.c h4 .nil))))) (.nil)
theorem aQz (op:Int) (h0:lit false (decide (op≤((24:Nat):Int)))=true) (h1:lit true (decide (((20:Nat):Int)≤op))=true) (h2:lit false (decide (((16:Nat):Int)≤op))=true) (h3:lit false (decide (((9:Nat):Int)≤op))=true) (h4:lit false (op==((15:Nat):Int))=true):CO 30 [.int .i64 op] (.ret (.int .i64 0)):=pK [] 7 32 (.c h0 (.c h1 (.k 1 h2 (.k 1 h3 (.c h4 .nil))))) (.nil)
theorem aQA (op:Int) (h0:lit false (decide (((20:Nat):Int)≤op))=true) (h1:lit false (decide (((16:Nat):Int)≤op))=true) (h2:lit false (decide (((9:Nat):Int)≤op))=true) (h3:lit false (op==((15:Nat):Int))=true):CO 30 [.int .i64 op] (.ret (.int .i64 0)):=pK [] 7 0 (.k 1 h0 (.k 1 h1 (.k 1 h2 (.c h3 .nil)))) (.nil)
theorem aU6 (op:Int) (h0:lit true (decide (op≤((8:Nat):Int)))=true) (h1:lit true (decide (((5:Nat):Int)≤op))=true):CO 32 [.int .i64 op] (.ret (.bool true)):=pK [] 2 3 (.c h0 (.c h1 .nil)) (.nil)
theorem aU7 (op:Int) (h0:lit false (decide (op≤((8:Nat):Int)))=true) (h1:lit true (decide (((5:Nat):Int)≤op))=true):CO 32 [.int .i64 op] (.ret (.bool (op==((24:Nat):Int)))):=pK [] 2 1 (.c h0 (.c h1 .nil)) (.nil)
theorem aU8 (op:Int) (h0:lit false (decide (((5:Nat):Int)≤op))=true):CO 32 [.int .i64 op] (.ret (.bool (op==((24:Nat):Int)))):=pK [] 2 0 (.k 1 h0 .nil) (.nil)
theorem aV3 (op:Int) (h0:lit true (decide (((21:Nat):Int)≤op))=true):CO 34 [.int .i64 op] (.ret (.bool (decide (op≤((23:Nat):Int))))):=pK [] 1 1 (.c h0 .nil) (.nil)
theorem aV4 (op:Int) (h0:lit false (decide (((21:Nat):Int)≤op))=true):CO 34 [.int .i64 op] (.ret (.bool false)):=pK [] 1 0 (.c h0 .nil) (.nil)
def arI (op:Int):Nat:=if op=15 then 3 else if (9≤op∧op≤14)∨(16≤op∧op≤19) then 2 else if 20≤op∧op≤24 then 1 else 0
def axF (op:Int):Bool:=decide ((5≤op∧op≤8)∨op=24)
def aFR (op:Int):Bool:=decide (1≤op∧op≤4)
def azk (op:Int):Bool:=decide (21≤op∧op≤23)
def aP8 (op:Int):List UInt8:=AV.toStr (List.headD (List.drop (0+((Int.toNat op)*5)) awP) .dead)
theorem aQB (op:Int):CO 30 [.int .i64 op] (.ret (.int .i64 ((arI op:Nat):Int))):=by
 cases hb0:(op==((15:Nat):Int)) with
 | true=>
  have h:=aT0 op (by rw [hb0];rfl)
  have e:arI op=3:=by
   clear h
   simp only [decide_eq_true_eq,decide_eq_false_iff_not,beq_iff_eq,beq_eq_false_iff_ne] at*
   unfold arI;(repeat' split)<;>omega
  rw [e];exact h
 | false =>
  cases hb1:(decide (((9:Nat):Int)≤op)) with
  | true =>
   cases hb2:(decide (op≤((14:Nat):Int))) with
   | true=>
    have h:=aT1 op (by rw [hb2];rfl) (by rw [hb1];rfl) (by rw [hb0];rfl)
    have e:arI op=2:=by
     clear h
     simp only [decide_eq_true_eq,decide_eq_false_iff_not,beq_iff_eq,beq_eq_false_iff_ne] at*
     unfold arI;(repeat' split)<;>omega
    rw [e];exact h
   | false=>
    cases hb3:(decide (((16:Nat):Int)≤op)) with
    | true=>
     cases hb4:(decide (op≤((19:Nat):Int))) with
     | true=>
      have h:=aT2 op (by rw [hb4];rfl) (by rw [hb3];rfl) (by rw [hb2];rfl) (by rw [hb1];rfl) (by rw [hb0];rfl)
      have e:arI op=2:=by
       clear h
       simp only [decide_eq_true_eq,decide_eq_false_iff_not,beq_iff_eq,beq_eq_false_iff_ne] at*
       unfold arI;(repeat' split)<;>omega
      rw [e];exact h
     | false=>
      cases hb5:(decide (((20:Nat):Int)≤op)) with
      | true=>
       cases hb6:(decide (op≤((24:Nat):Int))) with
       | true=>
        have h:=aT3 op (by rw [hb6];rfl) (by rw [hb5];rfl) (by rw [hb4];rfl) (by rw [hb3];rfl) (by rw [hb2];rfl) (by rw [hb1];rfl) (by rw [hb0];rfl)
        have e:arI op=1:=by
         clear h
         simp only [decide_eq_true_eq,decide_eq_false_iff_not,beq_iff_eq,beq_eq_false_iff_ne] at*
         unfold arI;(repeat' split)<;>omega
        rw [e];exact h
       | false=>
        have h:=aT4 op (by rw [hb6];rfl) (by rw [hb5];rfl) (by rw [hb4];rfl) (by rw [hb3];rfl) (by rw [hb2];rfl) (by rw [hb1];rfl) (by rw [hb0];rfl)
        have e:arI op=0:=by
         clear h
         simp only [decide_eq_true_eq,decide_eq_false_iff_not,beq_iff_eq,beq_eq_false_iff_ne] at*
         unfold arI;(repeat' split)<;>omega
        rw [e];exact h
      | false=>
       have h:=aT5 op (by rw [hb5];rfl) (by rw [hb4];rfl) (by rw [hb3];rfl) (by rw [hb2];rfl) (by rw [hb1];rfl) (by rw [hb0];rfl)
       have e:arI op=0:=by
        clear h
        simp only [decide_eq_true_eq,decide_eq_false_iff_not,beq_iff_eq,beq_eq_false_iff_ne] at*
        unfold arI;(repeat' split)<;>omega
       rw [e];exact h
    | false=>
     cases hb4:(decide (((20:Nat):Int)≤op)) with
     | true=>
      cases hb5:(decide (op≤((24:Nat):Int))) with
      | true=>
       have h:=aT6 op (by rw [hb5];rfl) (by rw [hb4];rfl) (by rw [hb3];rfl) (by rw [hb2];rfl) (by rw [hb1];rfl) (by rw [hb0];rfl)
       have e:arI op=1:=by
        clear h
        simp only [decide_eq_true_eq,decide_eq_false_iff_not,beq_iff_eq,beq_eq_false_iff_ne] at*
        unfold arI;(repeat' split)<;>omega
       rw [e];exact h
      | false=>
       have h:=aT7 op (by rw [hb5];rfl) (by rw [hb4];rfl) (by rw [hb3];rfl) (by rw [hb2];rfl) (by rw [hb1];rfl) (by rw [hb0];rfl)
       have e:arI op=0:=by
        clear h
        simp only [decide_eq_true_eq,decide_eq_false_iff_not,beq_iff_eq,beq_eq_false_iff_ne] at*
        unfold arI;(repeat' split)<;>omega
       rw [e];exact h
     | false=>
      have h:=aT8 op (by rw [hb4];rfl) (by rw [hb3];rfl) (by rw [hb2];rfl) (by rw [hb1];rfl) (by rw [hb0];rfl)
      have e:arI op=0:=by
       clear h
       simp only [decide_eq_true_eq,decide_eq_false_iff_not,beq_iff_eq,beq_eq_false_iff_ne] at*
       unfold arI;(repeat' split)<;>omega
      rw [e];exact h
  | false=>
   cases hb2:(decide (((16:Nat):Int)≤op)) with
   | true=>
    cases hb3:(decide (op≤((19:Nat):Int))) with
    | true=>
     have h:=aT9 op (by rw [hb3];rfl) (by rw [hb2];rfl) (by rw [hb1];rfl) (by rw [hb0];rfl)
     have e:arI op=2:=by
      clear h
      simp only [decide_eq_true_eq,decide_eq_false_iff_not,beq_iff_eq,beq_eq_false_iff_ne] at*
      unfold arI;(repeat' split)<;>omega
     rw [e];exact h
    | false=>
     cases hb4:(decide (((20:Nat):Int)≤op)) with
     | true=>
      cases hb5:(decide (op≤((24:Nat):Int))) with
      | true=>
       have h:=aQv op (by rw [hb5];rfl) (by rw [hb4];rfl) (by rw [hb3];rfl) (by rw [hb2];rfl) (by rw [hb1];rfl) (by rw [hb0];rfl)
       have e:arI op=1:=by
        clear h
        simp only [decide_eq_true_eq,decide_eq_false_iff_not,beq_iff_eq,beq_eq_false_iff_ne] at*
        unfold arI;(repeat' split)<;>omega
       rw [e];exact h
      | false=>
       have h:=aQw op (by rw [hb5];rfl) (by rw [hb4];rfl) (by rw [hb3];rfl) (by rw [hb2];rfl) (by rw [hb1];rfl) (by rw [hb0];rfl)
       have e:arI op=0:=by
        clear h
        simp only [decide_eq_true_eq,decide_eq_false_iff_not,beq_iff_eq,beq_eq_false_iff_ne] at*
        unfold arI;(repeat' split)<;>omega
       rw [e];exact h
     | false=>
      have h:=aQx op (by rw [hb4];rfl) (by rw [hb3];rfl) (by rw [hb2];rfl) (by rw [hb1];rfl) (by rw [hb0];rfl)
      have e:arI op=0:=by
       clear h
       simp only [decide_eq_true_eq,decide_eq_false_iff_not,beq_iff_eq,beq_eq_false_iff_ne] at*
       unfold arI;(repeat' split)<;>omega
      rw [e];exact h
   | false=>
    cases hb3:(decide (((20:Nat):Int)≤op)) with
    | true=>
     cases hb4:(decide (op≤((24:Nat):Int))) with
     | true=>
      have h:=aQy op (by rw [hb4];rfl) (by rw [hb3];rfl) (by rw [hb2];rfl) (by rw [hb1];rfl) (by rw [hb0];rfl)
      have e:arI op=1:=by
       clear h
       simp only [decide_eq_true_eq,decide_eq_false_iff_not,beq_iff_eq,beq_eq_false_iff_ne] at*
       unfold arI;(repeat' split)<;>omega
      rw [e];exact h
     | false=>
      have h:=aQz op (by rw [hb4];rfl) (by rw [hb3];rfl) (by rw [hb2];rfl) (by rw [hb1];rfl) (by rw [hb0];rfl)
      have e:arI op=0:=by
       clear h
       simp only [decide_eq_true_eq,decide_eq_false_iff_not,beq_iff_eq,beq_eq_false_iff_ne] at*
       unfold arI;(repeat' split)<;>omega
      rw [e];exact h
    | false=>
     have h:=aQA op (by rw [hb3];rfl) (by rw [hb2];rfl) (by rw [hb1];rfl) (by rw [hb0];rfl)
     have e:arI op=0:=by
      clear h
      simp only [decide_eq_true_eq,decide_eq_false_iff_not,beq_iff_eq,beq_eq_false_iff_ne] at*
      unfold arI;(repeat' split)<;>omega
     rw [e];exact h
theorem aLk (op:Int):CO 32 [.int .i64 op] (.ret (.bool (axF op))):=by
 cases hb0:(decide (((5:Nat):Int)≤op)) with
 | true=>
  cases hb1:(decide (op≤((8:Nat):Int))) with
  | true=>
   have h:=aU6 op (by rw [hb1];rfl) (by rw [hb0];rfl)
   have e:axF op=true:=by
    clear h
    simp only [decide_eq_true_eq,decide_eq_false_iff_not,beq_iff_eq,beq_eq_false_iff_ne] at*
    unfold axF;first|(rw [decide_eq_true_eq];omega)|(rw [Bool.eq_iff_iff];simp only [decide_eq_true_eq,beq_iff_eq];omega)
   rw [e];exact h
  | false=>
   have h:=aU7 op (by rw [hb1];rfl) (by rw [hb0];rfl)
   have e:axF op=(op==((24:Nat):Int)):=by
    clear h
    simp only [decide_eq_true_eq,decide_eq_false_iff_not,beq_iff_eq,beq_eq_false_iff_ne] at*
    unfold axF;first|(rw [decide_eq_true_eq];omega)|(rw [Bool.eq_iff_iff];simp only [decide_eq_true_eq,beq_iff_eq];omega)
   rw [e];exact h
 | false=>
  have h:=aU8 op (by rw [hb0];rfl)
  have e:axF op=(op==((24:Nat):Int)):=by
   clear h
   simp only [decide_eq_true_eq,decide_eq_false_iff_not,beq_iff_eq,beq_eq_false_iff_ne] at*
   unfold axF;first|(rw [decide_eq_true_eq];omega)|(rw [Bool.eq_iff_iff];simp only [decide_eq_true_eq,beq_iff_eq];omega)
  rw [e];exact h
theorem aSE (op:Int):CO 34 [.int .i64 op] (.ret (.bool (azk op))):=by
 cases hb0:(decide (((21:Nat):Int)≤op)) with
 | true=>
  have h:=aV3 op (by rw [hb0];rfl)
  have e:azk op=(decide (op≤((23:Nat):Int))):=by
   clear h
   simp only [decide_eq_true_eq,decide_eq_false_iff_not,beq_iff_eq,beq_eq_false_iff_ne] at*
   unfold azk;first|(rw [decide_eq_false_iff_not];omega)|(rw [Bool.eq_iff_iff];simp only [decide_eq_true_eq,beq_iff_eq];omega)
  rw [e];exact h
 | false=>
  have h:=aV4 op (by rw [hb0];rfl)
  have e:azk op=false:=by
   clear h
   simp only [decide_eq_true_eq,decide_eq_false_iff_not,beq_iff_eq,beq_eq_false_iff_ne] at*
   unfold azk;first|(rw [decide_eq_false_iff_not];omega)|(rw [Bool.eq_iff_iff];simp only [decide_eq_true_eq,beq_iff_eq];omega)
  rw [e];exact h
theorem aIN {op:Int} (h:1≤op) (h':op≤24):op=1∨op=2∨op=3∨op=4∨op=5∨op=6∨op=7∨op=8∨op=9∨op=10∨op=11∨op=12∨op=13∨op=14∨op=15∨op=16∨op=17∨op=18∨op=19∨op=20∨op=21∨op=22∨op=23∨op=24:=by omega
abbrev shA (op:Int):AV:= .agg [.str (aP8 op),.int .i64 ((arI op:Nat):Int),.bool (aFR op),.bool (axF op),.bool (azk op)]
theorem a0E {op:Int} (h:1≤op) (h':op≤24):CO 82 [.int .i64 op] (.ret (.tup [shA op,.bool true])):=by
 rcases aIN h h' with rfl|rfl|rfl|rfl|rfl|rfl|rfl|rfl|rfl|rfl|rfl|rfl|rfl|rfl|rfl|rfl|rfl|rfl|rfl|rfl|rfl|rfl|rfl|rfl
 all_goals exact a0A _ rfl rfl rfl rfl rfl rfl rfl rfl rfl
theorem aVg {op:Int} (h:op<1∨24<op):CO 82 [.int .i64 op] (.ret (.tup [.agg [.str [],.int .i64 0,.bool false,.bool false,.bool false],.bool false])):=by
 by_cases h1:op<1
 ·exact a0y op (by simp [lit];omega)
 ·exact a0z op (by simp [lit];omega) (by simp [lit];omega)
theorem aKI {op:Int} (h:1≤op) (h':op≤24):List.headD (List.drop (op.toNat*5+1) awP) .dead= .int .i64 ((arI op:Nat):Int):=by
 rcases aIN h h' with rfl|rfl|rfl|rfl|rfl|rfl|rfl|rfl|rfl|rfl|rfl|rfl|rfl|rfl|rfl|rfl|rfl|rfl|rfl|rfl|rfl|rfl|rfl|rfl
 all_goals rfl
def inI (op:Int):Bool:=decide (1≤op∧op≤24)
theorem aue (op:Int):CO 82 [.int .i64 op] (.ret (.tup [shA op,.bool (inI op)])):=by
 by_cases h:1≤op∧op≤24
 ·have e:inI op=true:=decide_eq_true h
  rw [e];exact a0E h.1 h.2
 ·have e:inI op=false:=decide_eq_false h
  have e1:arI op=0:=by unfold arI;(repeat' split)<;>omega
  have e2:aFR op=false:=by unfold aFR;rw [decide_eq_false_iff_not];omega
  have e3:axF op=false:=by unfold axF;rw [decide_eq_false_iff_not];omega
  have e4:azk op=false:=by unfold azk;rw [decide_eq_false_iff_not];omega
  have e5:aP8 op= []:=by
   unfold aP8
   by_cases h1:op<1
   ·have:op.toNat=0:=by omega
    rw [this];rfl
   ·have hl:awP.length=125:=by decide
    rw [List.drop_of_length_le (by omega)];rfl
  unfold shA
  rw [e,e1,e2,e3,e4,e5]
  exact aVg (by omega)
structure Nd where
 op:Int
 neg:Bool
 num:List UInt8
 den:List UInt8
 name:List UInt8
def ndC (x:Nd):List AV:= [.int .i64 x.op,.bool x.neg,.str x.num,.str x.den,.str x.name]
def Nd.sm (x:Nd):Prop:=x.num.length<2^33∧x.den.length<2^33
def awD (x:Nd):Bool:=cond (x.op==((4:Nat):Int)) (eqS x.neg x.num x.den 0||eqS x.neg x.num x.den 1) (cond (aFR x.op) (axJ x.neg x.num x.den) (cond (azk x.op) (axJ x.neg x.num x.den && decide (((0:Nat):Int)<ayV x.neg x.num x.den)) ((x.neg==false) && ((x.num== []) && ((x.den== []) && true)))))
def al1 (x:Nd):Int:=cond (!inI x.op||(!axF x.op && !(x.name== []))) 11 (cond (!awD x) 11 (cond (axF x.op && !aA9 x.name) 12 0))
theorem aP9 (x:Nd) (hx:x.sm):CO 52 [.agg (ndC x)] (.ret (.int .i64 (al1 x))):=by
 have h1:x.num.length<2^36:=Nat.lt_trans hx.1 (by decide)
 have h2:x.den.length<2^36:=Nat.lt_trans hx.2 (by decide)
 rcases tf (inI x.op) with b0|b0
 ·rcases tf (axF x.op) with b1|b1
  ·rcases tf (x.op==((4:Nat):Int)) with b2|b2
   ·rcases tf ((x.neg==false) && ((x.num==(adF 0)) && ((x.den==(adF 1)) && true))) with b3|b3
    ·rcases tf (aA9 x.name) with b4|b4
     ·rw [show al1 x=0 by simp only [al1,awD,eqS,b0,b1,b2,b3,b4]<;>rfl]
      exact pK [] 8 88 (.c (anS b4) (.k 1 (aeF b1) (.k 2 (aeF b3) (.k 3 (aeF b2) (.k 2 (anS b1) (.k 1 (anS b0) (.n 2 .nil))))))) (.c (axt x.name) (.c (ayh) (.c (aue x.op) .nil)))
     ·rw [show al1 x=12 by simp only [al1,awD,eqS,b0,b1,b2,b3,b4]<;>rfl]
      exact pK [] 8 216 (.c (avg b4) (.k 1 (aeF b1) (.k 2 (aeF b3) (.k 3 (aeF b2) (.k 2 (anS b1) (.k 1 (anS b0) (.n 2 .nil))))))) (.c (axt x.name) (.c (ayh) (.c (aue x.op) .nil)))
    ·rcases tf ((x.neg==false) && ((x.num==(adF 1)) && ((x.den==(adF 1)) && true))) with b4|b4
     ·rcases tf (aA9 x.name) with b5|b5
      ·rw [show al1 x=0 by simp only [al1,awD,eqS,b0,b1,b2,b3,b4,b5]<;>rfl]
       exact pK [] 8 72 (.c (anS b5) (.k 1 (aeF b1) (.k 1 (anS b4) (.k 3 (akx b3) (.k 3 (aeF b2) (.k 2 (anS b1) (.k 1 (anS b0) (.n 2 .nil)))))))) (.c (axt x.name) (.c (aE5) (.c (ayh) (.c (aue x.op) .nil))))
      ·rw [show al1 x=12 by simp only [al1,awD,eqS,b0,b1,b2,b3,b4,b5]<;>rfl]
       exact pK [] 8 200 (.c (avg b5) (.k 1 (aeF b1) (.k 1 (anS b4) (.k 3 (akx b3) (.k 3 (aeF b2) (.k 2 (anS b1) (.k 1 (anS b0) (.n 2 .nil)))))))) (.c (axt x.name) (.c (aE5) (.c (ayh) (.c (aue x.op) .nil))))
     ·rw [show al1 x=11 by simp only [al1,awD,eqS,b0,b1,b2,b3,b4]<;>rfl]
      exact pK [] 6 40 (.c (avg b4) (.k 3 (akx b3) (.k 3 (aeF b2) (.k 2 (anS b1) (.k 1 (anS b0) (.n 2 .nil)))))) (.c (aE5) (.c (ayh) (.c (aue x.op) .nil)))
   ·rcases tf (aFR x.op) with b3|b3
    ·rcases tf (axJ x.neg x.num x.den) with b4|b4
     ·rcases tf (aA9 x.name) with b5|b5
      ·rw [show al1 x=0 by simp only [al1,awD,eqS,b0,b1,b2,b3,b4,b5]<;>rfl]
       exact pK [] 8 80 (.c (anS b5) (.k 1 (aeF b1) (.k 1 (anS b4) (.k 3 (aeF b3) (.k 1 (akx b2) (.k 2 (anS b1) (.k 1 (anS b0) (.n 2 .nil)))))))) (.c (axt x.name) (.c (awd x.neg x.num x.den h1 h2) (.c (aue x.op) .nil)))
      ·rw [show al1 x=12 by simp only [al1,awD,eqS,b0,b1,b2,b3,b4,b5]<;>rfl]
       exact pK [] 8 208 (.c (avg b5) (.k 1 (aeF b1) (.k 1 (anS b4) (.k 3 (aeF b3) (.k 1 (akx b2) (.k 2 (anS b1) (.k 1 (anS b0) (.n 2 .nil)))))))) (.c (axt x.name) (.c (awd x.neg x.num x.den h1 h2) (.c (aue x.op) .nil)))
     ·rw [show al1 x=11 by simp only [al1,awD,eqS,b0,b1,b2,b3,b4]<;>rfl]
      exact pK [] 6 48 (.c (avg b4) (.k 3 (aeF b3) (.k 1 (akx b2) (.k 2 (anS b1) (.k 1 (anS b0) (.n 2 .nil)))))) (.c (awd x.neg x.num x.den h1 h2) (.c (aue x.op) .nil))
    ·rcases tf (azk x.op) with b4|b4
     ·rcases tf (axJ x.neg x.num x.den) with b5|b5
      ·rcases tf (decide (((0:Nat):Int)<(ayV x.neg x.num x.den))) with b6|b6
       ·rcases tf (aA9 x.name) with b7|b7
        ·rw [show al1 x=0 by simp only [al1,awD,eqS,b0,b1,b2,b3,b4,b5,b6,b7]<;>rfl]
         exact pK [] 10 352 (.c (anS b7) (.k 1 (aeF b1) (.k 1 (anS b6) (.k 3 (aeF b5) (.k 3 (aeF b4) (.k 1 (akx b3) (.k 1 (akx b2) (.k 2 (anS b1) (.k 1 (anS b0) (.n 2 .nil)))))))))) (.c (axt x.name) (.c (avk x.neg x.num x.den h1 h2) (.c (awd x.neg x.num x.den h1 h2) (.c (aue x.op) .nil))))
        ·rw [show al1 x=12 by simp only [al1,awD,eqS,b0,b1,b2,b3,b4,b5,b6,b7]<;>rfl]
         exact pK [] 10 864 (.c (avg b7) (.k 1 (aeF b1) (.k 1 (anS b6) (.k 3 (aeF b5) (.k 3 (aeF b4) (.k 1 (akx b3) (.k 1 (akx b2) (.k 2 (anS b1) (.k 1 (anS b0) (.n 2 .nil)))))))))) (.c (axt x.name) (.c (avk x.neg x.num x.den h1 h2) (.c (awd x.neg x.num x.den h1 h2) (.c (aue x.op) .nil))))
       ·rw [show al1 x=11 by simp only [al1,awD,eqS,b0,b1,b2,b3,b4,b5,b6]<;>rfl]
        exact pK [] 8 224 (.c (avg b6) (.k 3 (aeF b5) (.k 3 (aeF b4) (.k 1 (akx b3) (.k 1 (akx b2) (.k 2 (anS b1) (.k 1 (anS b0) (.n 2 .nil)))))))) (.c (avk x.neg x.num x.den h1 h2) (.c (awd x.neg x.num x.den h1 h2) (.c (aue x.op) .nil)))
      ·rw [show al1 x=11 by simp only [al1,awD,eqS,b0,b1,b2,b3,b4,b5]<;>rfl]
       exact pK [] 8 160 (.k 1 (akx b5) (.k 3 (aeF b4) (.k 1 (akx b3) (.k 1 (akx b2) (.k 2 (anS b1) (.k 1 (anS b0) (.n 2 .nil))))))) (.c (awd x.neg x.num x.den h1 h2) (.c (aue x.op) .nil))
     ·rcases tf ((x.neg==false) && ((x.num== []) && ((x.den== []) && true))) with b5|b5
      ·rcases tf (aA9 x.name) with b6|b6
       ·rw [show al1 x=0 by simp only [al1,awD,eqS,b0,b1,b2,b3,b4,b5,b6]<;>rfl]
        exact pK [] 9 128 (.c (anS b6) (.k 1 (aeF b1) (.k 1 (anS b5) (.k 3 (akx b4) (.k 1 (akx b3) (.k 1 (akx b2) (.k 2 (anS b1) (.k 1 (anS b0) (.n 2 .nil))))))))) (.c (axt x.name) (.c (aue x.op) .nil))
       ·rw [show al1 x=12 by simp only [al1,awD,eqS,b0,b1,b2,b3,b4,b5,b6]<;>rfl]
        exact pK [] 9 384 (.c (avg b6) (.k 1 (aeF b1) (.k 1 (anS b5) (.k 3 (akx b4) (.k 1 (akx b3) (.k 1 (akx b2) (.k 2 (anS b1) (.k 1 (anS b0) (.n 2 .nil))))))))) (.c (axt x.name) (.c (aue x.op) .nil))
      ·rw [show al1 x=11 by simp only [al1,awD,eqS,b0,b1,b2,b3,b4,b5]<;>rfl]
       exact pK [] 7 64 (.c (avg b5) (.k 3 (akx b4) (.k 1 (akx b3) (.k 1 (akx b2) (.k 2 (anS b1) (.k 1 (anS b0) (.n 2 .nil))))))) (.c (aue x.op) .nil)
  ·rcases tf (x.name== []) with b2|b2
   ·rcases tf (x.op==((4:Nat):Int)) with b3|b3
    ·rcases tf ((x.neg==false) && ((x.num==(adF 0)) && ((x.den==(adF 1)) && true))) with b4|b4
     ·rw [show al1 x=0 by simp only [al1,awD,eqS,b0,b1,b2,b3,b4]<;>rfl]
      exact pK [] 8 26 (.k 1 (akx b1) (.k 2 (aeF b4) (.k 3 (aeF b3) (.k 1 (anS b2) (.k 1 (avg b1) (.k 1 (anS b0) (.n 2 .nil))))))) (.c (ayh) (.c (aue x.op) .nil))
     ·rcases tf ((x.neg==false) && ((x.num==(adF 1)) && ((x.den==(adF 1)) && true))) with b5|b5
      ·rw [show al1 x=0 by simp only [al1,awD,eqS,b0,b1,b2,b3,b4,b5]<;>rfl]
       exact pK [] 8 10 (.k 1 (akx b1) (.k 1 (anS b5) (.k 3 (akx b4) (.k 3 (aeF b3) (.k 1 (anS b2) (.k 1 (avg b1) (.k 1 (anS b0) (.n 2 .nil)))))))) (.c (aE5) (.c (ayh) (.c (aue x.op) .nil)))
      ·rw [show al1 x=11 by simp only [al1,awD,eqS,b0,b1,b2,b3,b4,b5]<;>rfl]
       exact pK [] 6 42 (.c (avg b5) (.k 3 (akx b4) (.k 3 (aeF b3) (.k 1 (anS b2) (.k 1 (avg b1) (.k 1 (anS b0) (.n 2 .nil))))))) (.c (aE5) (.c (ayh) (.c (aue x.op) .nil)))
    ·rcases tf (aFR x.op) with b4|b4
     ·rcases tf (axJ x.neg x.num x.den) with b5|b5
      ·rw [show al1 x=0 by simp only [al1,awD,eqS,b0,b1,b2,b3,b4,b5]<;>rfl]
       exact pK [] 8 18 (.k 1 (akx b1) (.k 1 (anS b5) (.k 3 (aeF b4) (.k 1 (akx b3) (.k 1 (anS b2) (.k 1 (avg b1) (.k 1 (anS b0) (.n 2 .nil)))))))) (.c (awd x.neg x.num x.den h1 h2) (.c (aue x.op) .nil))
      ·rw [show al1 x=11 by simp only [al1,awD,eqS,b0,b1,b2,b3,b4,b5]<;>rfl]
       exact pK [] 6 50 (.c (avg b5) (.k 3 (aeF b4) (.k 1 (akx b3) (.k 1 (anS b2) (.k 1 (avg b1) (.k 1 (anS b0) (.n 2 .nil))))))) (.c (awd x.neg x.num x.den h1 h2) (.c (aue x.op) .nil))
     ·rcases tf (azk x.op) with b5|b5
      ·rcases tf (axJ x.neg x.num x.den) with b6|b6
       ·rcases tf (decide (((0:Nat):Int)<(ayV x.neg x.num x.den))) with b7|b7
        ·rw [show al1 x=0 by simp only [al1,awD,eqS,b0,b1,b2,b3,b4,b5,b6,b7]<;>rfl]
         exact pK [] 10 98 (.k 1 (akx b1) (.k 1 (anS b7) (.k 3 (aeF b6) (.k 3 (aeF b5) (.k 1 (akx b4) (.k 1 (akx b3) (.k 1 (anS b2) (.k 1 (avg b1) (.k 1 (anS b0) (.n 2 .nil)))))))))) (.c (avk x.neg x.num x.den h1 h2) (.c (awd x.neg x.num x.den h1 h2) (.c (aue x.op) .nil)))
        ·rw [show al1 x=11 by simp only [al1,awD,eqS,b0,b1,b2,b3,b4,b5,b6,b7]<;>rfl]
         exact pK [] 8 226 (.c (avg b7) (.k 3 (aeF b6) (.k 3 (aeF b5) (.k 1 (akx b4) (.k 1 (akx b3) (.k 1 (anS b2) (.k 1 (avg b1) (.k 1 (anS b0) (.n 2 .nil))))))))) (.c (avk x.neg x.num x.den h1 h2) (.c (awd x.neg x.num x.den h1 h2) (.c (aue x.op) .nil)))
       ·rw [show al1 x=11 by simp only [al1,awD,eqS,b0,b1,b2,b3,b4,b5,b6]<;>rfl]
        exact pK [] 8 162 (.k 1 (akx b6) (.k 3 (aeF b5) (.k 1 (akx b4) (.k 1 (akx b3) (.k 1 (anS b2) (.k 1 (avg b1) (.k 1 (anS b0) (.n 2 .nil)))))))) (.c (awd x.neg x.num x.den h1 h2) (.c (aue x.op) .nil))
      ·rcases tf ((x.neg==false) && ((x.num== []) && ((x.den== []) && true))) with b6|b6
       ·rw [show al1 x=0 by simp only [al1,awD,eqS,b0,b1,b2,b3,b4,b5,b6]<;>rfl]
        exact pK [] 9 2 (.k 1 (akx b1) (.k 1 (anS b6) (.k 3 (akx b5) (.k 1 (akx b4) (.k 1 (akx b3) (.k 1 (anS b2) (.k 1 (avg b1) (.k 1 (anS b0) (.n 2 .nil))))))))) (.c (aue x.op) .nil)
       ·rw [show al1 x=11 by simp only [al1,awD,eqS,b0,b1,b2,b3,b4,b5,b6]<;>rfl]
        exact pK [] 7 66 (.c (avg b6) (.k 3 (akx b5) (.k 1 (akx b4) (.k 1 (akx b3) (.k 1 (anS b2) (.k 1 (avg b1) (.k 1 (anS b0) (.n 2 .nil)))))))) (.c (aue x.op) .nil)
   ·rw [show al1 x=11 by simp only [al1,awD,eqS,b0,b1,b2]<;>rfl]
    exact pK [] 3 6 (.c (avg b2) (.k 1 (avg b1) (.k 1 (anS b0) (.n 2 .nil)))) (.c (aue x.op) .nil)
 ·rw [show al1 x=11 by simp only [al1,awD,eqS,b0]<;>rfl]
  exact pK [] 2 3 (.k 1 (avg b0) (.n 2 .nil)) (.c (aue x.op) .nil)
def ndL (l:List Nd):List AV:=l.flatMap ndC
theorem a3y {nt:Nat} (hn:35≤nt) (l:List Nd) (nn:Bool) (k d:Nat) (w:Int) (x:Nd) (r:List Nd) (hdr:(List.drop ((Int.toNat (k:Int))*5) (ndL l))=ndC x++ndL r) (h0:lit true (!(w==((0:Nat):Int)))=true) (h1:(decide (((0:Nat):Int)≤(k:Int)))=true) (h2:(decide ((k:Int)<(l.length:Int)))=true) (h3:lit true (decide ((k:Int)<(l.length:Int)))=true) (c0:CO 52 [.agg [.int .i64 x.op,.bool x.neg,.str x.num,.str x.den,.str x.name]] (.ret (.int .i64 w))):adY prog ap [] nt (lT 0 (adW f21)) ⟨[(10,.sl (ndL l) l.length nn),(11,.int .i64 (l.length:Int)),(12,.int .i64 (k:Int)),(3,.int .i64 (d:Int))],[],.dead,[]⟩ (.ret) ⟨[(2,.int .i64 w)],[],.dead,[]⟩:=
 have h:adY prog ap [] nt (lT 0 (adW f21)) ⟨[(10,.sl (ndL l) l.length nn),(11,.int .i64 (l.length:Int)),(12,.int .i64 (k:Int)),(3,.int .i64 (d:Int))],[],.dead,[]⟩ (.ret) ⟨[(2,.int .i64 w)],[(0,⟨[.int .i64 x.op,.bool x.neg,.str x.num,.str x.den,.str x.name],0,false,0,0,true⟩)],.dead,[]⟩:=pJ 21 [] 2 3 (.c h0 (.k 11 h1 (.c h2 (.c h3 .nil)))) (.c c0 (.v 14 (.ppt hdr) .nil)) hn
 h.forgetD 0 ⟨[.int .i64 x.op,.bool x.neg,.str x.num,.str x.den,.str x.name],0,false,0,0,true⟩ (by intro v h;cases h) (by decide) rfl ⟨Fz.same rfl,trivial⟩ rfl rfl
theorem a3z {nt:Nat} (hn:35≤nt) (l:List Nd) (nn:Bool) (k d:Nat) (w:Int) (x:Nd) (r:List Nd) (hdr:(List.drop ((Int.toNat (k:Int))*5) (ndL l))=ndC x++ndL r) (h0:lit true (decide ((IntKind.wrap .i64 ((d:Int) - (AV.toInt (List.headD (List.drop ((0+((Int.toNat x.op)*5))+1) awP) .dead))))<((0:Nat):Int)))=true) (h1:(chk (.int .i64) (List.headD (List.drop ((0+((Int.toNat x.op)*5))+1) awP) .dead))=true) (h2:(decide (((0:Nat):Int)≤x.op))=true) (h3:(decide (x.op<((25:Nat):Int)))=true) (h4:lit false (!(w==((0:Nat):Int)))=true) (h5:(decide (((0:Nat):Int)≤(k:Int)))=true) (h6:(decide ((k:Int)<(l.length:Int)))=true) (h7:lit true (decide ((k:Int)<(l.length:Int)))=true) (c0:CO 52 [.agg [.int .i64 x.op,.bool x.neg,.str x.num,.str x.den,.str x.name]] (.ret (.int .i64 w))):adY prog ap [] nt (lT 0 (adW f21)) ⟨[(10,.sl (ndL l) l.length nn),(11,.int .i64 (l.length:Int)),(12,.int .i64 (k:Int)),(3,.int .i64 (d:Int))],[],.dead,[]⟩ (.ret) ⟨[(2,.int .i64 11)],[],.dead,[]⟩:=
 have h:adY prog ap [] nt (lT 0 (adW f21)) ⟨[(10,.sl (ndL l) l.length nn),(11,.int .i64 (l.length:Int)),(12,.int .i64 (k:Int)),(3,.int .i64 (d:Int))],[],.dead,[]⟩ (.ret) ⟨[(2,.int .i64 11)],[(0,⟨[.int .i64 x.op,.bool x.neg,.str x.num,.str x.den,.str x.name],0,false,0,0,true⟩)],.dead,[]⟩:=pJ 21 [] 3 5 (.c h0 (.c h1 (.c h2 (.c h3 (.k 1 h4 (.k 11 h5 (.c h6 (.c h7 .nil)))))))) (.c c0 (.v 14 (.ppt hdr) .nil)) hn
 h.forgetD 0 ⟨[.int .i64 x.op,.bool x.neg,.str x.num,.str x.den,.str x.name],0,false,0,0,true⟩ (by intro v h;cases h) (by decide) rfl ⟨Fz.same rfl,trivial⟩ rfl rfl
theorem a3A {nt:Nat} (hn:35≤nt) (l:List Nd) (nn:Bool) (k d:Nat) (w:Int) (x:Nd) (r:List Nd) (hdr:(List.drop ((Int.toNat (k:Int))*5) (ndL l))=ndC x++ndL r) (h0:lit false (decide ((IntKind.wrap .i64 ((d:Int) - (AV.toInt (List.headD (List.drop ((0+((Int.toNat x.op)*5))+1) awP) .dead))))<((0:Nat):Int)))=true) (h1:(chk (.int .i64) (List.headD (List.drop ((0+((Int.toNat x.op)*5))+1) awP) .dead))=true) (h2:(decide (((0:Nat):Int)≤x.op))=true) (h3:(decide (x.op<((25:Nat):Int)))=true) (h4:lit false (!(w==((0:Nat):Int)))=true) (h5:(decide (((0:Nat):Int)≤(k:Int)))=true) (h6:(decide ((k:Int)<(l.length:Int)))=true) (h7:lit true (decide ((k:Int)<(l.length:Int)))=true) (c0:CO 52 [.agg [.int .i64 x.op,.bool x.neg,.str x.num,.str x.den,.str x.name]] (.ret (.int .i64 w))):adY prog ap [] nt (lT 0 (adW f21)) ⟨[(10,.sl (ndL l) l.length nn),(11,.int .i64 (l.length:Int)),(12,.int .i64 (k:Int)),(3,.int .i64 (d:Int))],[],.dead,[]⟩ (.normal) ⟨[(10,.sl (ndL l) l.length nn),(11,.int .i64 (l.length:Int)),(12,.int .i64 (IntKind.wrap .i64 ((k:Int)+((1:Nat):Int)))),(3,.int .i64 (IntKind.wrap .i64 ((IntKind.wrap .i64 ((d:Int) - (AV.toInt (List.headD (List.drop ((0+((Int.toNat x.op)*5))+1) awP) .dead))))+((1:Nat):Int))))],[],.dead,[]⟩:=
 have h:adY prog ap [] nt (lT 0 (adW f21)) ⟨[(10,.sl (ndL l) l.length nn),(11,.int .i64 (l.length:Int)),(12,.int .i64 (k:Int)),(3,.int .i64 (d:Int))],[],.dead,[]⟩ (.normal) ⟨[(10,.sl (ndL l) l.length nn),(11,.int .i64 (l.length:Int)),(12,.int .i64 (IntKind.wrap .i64 ((k:Int)+((1:Nat):Int)))),(3,.int .i64 (IntKind.wrap .i64 ((IntKind.wrap .i64 ((d:Int) - (AV.toInt (List.headD (List.drop ((0+((Int.toNat x.op)*5))+1) awP) .dead))))+((1:Nat):Int))))],[(0,⟨[.int .i64 x.op,.bool x.neg,.str x.num,.str x.den,.str x.name],0,false,0,0,true⟩)],.dead,[]⟩:=pJ 21 [] 3 1 (.c h0 (.c h1 (.c h2 (.c h3 (.k 1 h4 (.k 11 h5 (.c h6 (.c h7 .nil)))))))) (.c c0 (.v 14 (.ppt hdr) .nil)) hn
 h.forgetD 0 ⟨[.int .i64 x.op,.bool x.neg,.str x.num,.str x.den,.str x.name],0,false,0,0,true⟩ (by intro v h;cases h) (by decide) rfl ⟨Fz.same rfl,Fz.same rfl,Fz.same rfl,Fz.same rfl,trivial⟩ rfl rfl
theorem aNI {nt:Nat} (hn:35≤nt) (l:List Nd) (nn:Bool) (k d:Nat) (w:Int) (h0:lit false (decide ((k:Int)<(l.length:Int)))=true):adY prog ap [] nt (lT 0 (adW f21)) ⟨[(10,.sl (ndL l) l.length nn),(11,.int .i64 (l.length:Int)),(12,.int .i64 (k:Int)),(3,.int .i64 (d:Int))],[],.dead,[]⟩ (.exit 0) ⟨[(3,.int .i64 (d:Int))],[],.dead,[]⟩:=pJ 21 [] 1 0 (.c h0 .nil) (.nil) hn
theorem aW8 (l:List Nd) (nn:Bool) (d:Nat) (h0:lit true (decide (((60:Nat):Int)<(l.length:Int)))=true):CO 21 [.sl (ndL l) l.length nn] (.ret (.int .i64 2)):=pK [0] 1 1 (.c h0 .nil) (.nil)
theorem aW9 (l:List Nd) (nn:Bool) (d:Nat) (h0:lit true (!((d:Int)==((1:Nat):Int)))=true) (h1:lit false (decide (((60:Nat):Int)<(l.length:Int)))=true) (l0:ajS prog ap [] 35 (.block 0 (.loop (lT 0 (adW f21)))) ⟨[(0,.sl (ndL l) l.length nn),(2,.int .i64 0),(3,.int .i64 0),(5,.dead),(6,.dead),(9,.bool (decide (((60:Nat):Int)<(l.length:Int)))),(10,.sl (ndL l) l.length nn),(11,.int .i64 (l.length:Int)),(12,.int .i64 0),(13,.dead),(19,.dead),(29,.dead),(34,.dead)],[],.dead,[]⟩ (.normal) ⟨[(3,.int .i64 (d:Int))],[],.dead,[]⟩):CO 21 [.sl (ndL l) l.length nn] (.ret (.int .i64 11)):=pK [0] 2 2 (.c h0 (.c h1 .nil)) (.l l0 .nil)
theorem aW_ (l:List Nd) (nn:Bool) (d:Nat) (h0:lit false (!((d:Int)==((1:Nat):Int)))=true) (h1:lit false (decide (((60:Nat):Int)<(l.length:Int)))=true) (l0:ajS prog ap [] 35 (.block 0 (.loop (lT 0 (adW f21)))) ⟨[(0,.sl (ndL l) l.length nn),(2,.int .i64 0),(3,.int .i64 0),(5,.dead),(6,.dead),(9,.bool (decide (((60:Nat):Int)<(l.length:Int)))),(10,.sl (ndL l) l.length nn),(11,.int .i64 (l.length:Int)),(12,.int .i64 0),(13,.dead),(19,.dead),(29,.dead),(34,.dead)],[],.dead,[]⟩ (.normal) ⟨[(3,.int .i64 (d:Int))],[],.dead,[]⟩):CO 21 [.sl (ndL l) l.length nn] (.ret (.int .i64 0)):=pK [0] 2 0 (.c h0 (.c h1 .nil)) (.l l0 .nil)
theorem aXb (l:List Nd) (nn:Bool) (w:Int) (h0:lit false (decide (((60:Nat):Int)<(l.length:Int)))=true) (l0:ajS prog ap [] 35 (.block 0 (.loop (lT 0 (adW f21)))) ⟨[(0,.sl (ndL l) l.length nn),(2,.int .i64 0),(3,.int .i64 0),(5,.dead),(6,.dead),(9,.bool (decide (((60:Nat):Int)<(l.length:Int)))),(10,.sl (ndL l) l.length nn),(11,.int .i64 (l.length:Int)),(12,.int .i64 0),(13,.dead),(19,.dead),(29,.dead),(34,.dead)],[],.dead,[]⟩ (.ret) ⟨[(2,.int .i64 w)],[],.dead,[]⟩):CO 21 [.sl (ndL l) l.length nn] (.ret (.int .i64 w)):=pK [0] 1 0 (.c h0 .nil) (.l l0 .nil)
theorem aEQ (x:Nd) (r:List Nd):ndL (x::r)=ndC x++ndL r:=rfl
theorem aB9 (a b:List Nd):ndL (a++b)=ndL a++ndL b:=by unfold ndL;rw [List.flatMap_append]
theorem av6 (l:List Nd):(ndL l).length=l.length*5:=by
 induction l with
 |nil=>rfl
 |cons x r ih=>rw [aEQ,List.length_append,ih,List.length_cons];simp [ndC];omega
theorem aCa {p r:List Nd} {x:Nd} {k:Nat} (h:k=p.length):List.drop (Int.toNat (k:Int)*5) (ndL (p++x::r))=ndC x++ndL r:=by
 subst h
 rw [aeb,aB9,aEQ,← av6,List.drop_left]
def au0:List Nd→Nat→Nat ⊕ Int
 | [],d=> .inl d
 |x::r,d=>if al1 x=0 then (if d<arI x.op then .inr 11 else au0 r (d - arI x.op+1)) else .inr (al1 x)
def aud (l:List Nd):Int:=if 60<l.length then 2 else match au0 l 0 with| .inl d=>if d=1 then 0 else 11| .inr w=>w
def aQJ:Nat ⊕ Int→an_
 | .inl _=> .exit 0
 | .inr _=> .ret
def aL0 (l:List Nd) (nn:Bool) (p:Nat × Nat):St:=⟨[(10,.sl (ndL l) l.length nn),(11,.int .i64 (l.length:Int)),(12,.int .i64 (p.1:Int)),(3,.int .i64 (p.2:Int))],[],.dead,[]⟩
def aK3:Nat ⊕ Int→St
 | .inl d=> ⟨[(3,.int .i64 (d:Int))],[],.dead,[]⟩
 | .inr w=> ⟨[(2,.int .i64 w)],[],.dead,[]⟩
theorem aTZ (op:Int):arI op≤3:=by unfold arI;(repeat' split)<;>omega
theorem aFw {x:Nd} (h:al1 x=0):1≤x.op∧x.op≤24:=by
 cases hb:inI x.op with
 |true=>simpa [inI] using hb
 |false=>unfold al1 at h;rw [hb] at h;simp at h
theorem aNJ {nt:Nat} (hn:35≤nt) (l p r:List Nd) (nn:Bool) (x:Nd) (d:Nat) (hx:x.sm) (hl:l=p++x::r) (hll:l.length<2^40) (hd:d<2^41):
  (¬ al1 x=0→adY prog ap [] nt (lT 0 (adW f21)) (aL0 l nn (p.length,d)) .ret (aK3 (.inr (al1 x))))∧
  (al1 x=0→d<arI x.op→adY prog ap [] nt (lT 0 (adW f21)) (aL0 l nn (p.length,d)) .ret (aK3 (.inr 11)))∧
  (al1 x=0→¬ d<arI x.op→adY prog ap [] nt (lT 0 (adW f21)) (aL0 l nn (p.length,d)) .normal (aL0 l nn (p.length+1,d - arI x.op+1))):=by
 have hdr:List.drop (Int.toNat (p.length:Int)*5) (ndL l)=ndC x++ndL r:=by rw [hl];exact aCa rfl
 have hlen:p.length+(r.length+1)=l.length:=by rw [hl];simp
 have hw:=aP9 x hx
 have har:=aTZ x.op
 unfold aL0 aK3
 refine ⟨fun h1=> ?_,fun h1 h2=> ?_,fun h1 h2=> ?_⟩
 ·have hb:=a3y hn l nn p.length d (al1 x) x r hdr
  have hne:(!(al1 x==((0:Nat):Int)))=true:=by simpa using h1
  simp (disch:=first|omega|(simp [ad4,ad7]<;>omega)) only [hne,aot,avb,an5,an7] at hb
  apply hb<;>first|exact True.intro|omega|assumption|exact rfl
 ·obtain ⟨i1,i2⟩:=aFw h1
  have ht:=aKI i1 i2
  rw [h1] at hw
  have hb:=a3z hn l nn p.length d 0 x r hdr
  have e2:IntKind.wrap .i64 ((d:Int) - ((arI x.op:Nat):Int))=(d:Int) - (arI x.op:Int):=auI (by omega) (by omega)
  simp (disch:=first|omega|(simp [ad4,ad7]<;>omega)) only [Nat.zero_add,ht,anY,e2,aot,an5,avj,avs,avL,aO2,avb,an7] at hb
  apply hb<;>first|exact True.intro|omega|assumption|exact rfl
 ·obtain ⟨i1,i2⟩:=aFw h1
  have ht:=aKI i1 i2
  rw [h1] at hw
  have hb:=a3A hn l nn p.length d 0 x r hdr
  have e2:IntKind.wrap .i64 ((d:Int) - ((arI x.op:Nat):Int))=((d - arI x.op:Nat):Int):=by rw [auI]<;>omega
  simp (disch:=first|omega|(simp [ad4,ad7]<;>omega)) only [Nat.zero_add,ht,anY,e2,an7,avs,avL,av4,avj,an5,aO2,avb,aot,au9,an9] at hb
  apply hb<;>first|exact True.intro|omega|assumption|exact rfl
theorem aQM {nt:Nat} (hn:35≤nt) (l:List Nd) (nn:Bool) (hll:l.length<2^40) (hsm:∀ x ∈ l,x.sm):∀ (r p:List Nd) (d:Nat),p++r=l→d≤p.length→aea prog ap [] nt (lT 0 (adW f21)) aQJ (aL0 l nn) aK3 (p.length,d) (au0 r d):=by
 intro r
 induction r with
 |nil=>
  intro p d h _
  have hp:p.length=l.length:=by rw [← h];simp
  rw [hp]
  exact .done (aNI hn l nn l.length d 0 (by rw [an7];simp [lit]))
 | cons x r ih=>
  intro p d h hd
  have hl:p.length+(r.length+1)=l.length:=by rw [← h];simp
  obtain ⟨r1,r2,r3⟩:=aNJ hn l p r nn x d (hsm x (by rw [← h];simp)) h.symm hll (by omega)
  simp only [au0]
  by_cases h1:al1 x=0
  ·rw [if_pos h1]
   by_cases h2:d<arI x.op
   ·rw [if_pos h2];exact .done (r2 h1 h2)
   ·rw [if_neg h2]
    have hnext:=ih (p++ [x]) (d - arI x.op+1) (by simp [h]) (by simp;omega)
    rw [List.length_append,List.length_singleton] at hnext
    exact .next (r3 h1 h2) hnext
  ·rw [if_neg h1];exact .done (r1 h1)
theorem az_ (l:List Nd) (nn:Bool) (hsm:∀ x ∈ l,x.sm):CO 21 [.sl (ndL l) l.length nn] (.ret (.int .i64 (aud l))):=by
 unfold aud
 by_cases h60:60<l.length
 ·rw [if_pos h60]
  exact aW8 l nn 0 (by rw [an7];exact decide_eq_true h60)
 ·rw [if_neg h60]
  have hc:lit false (decide (((60:Nat):Int)<(l.length:Int)))=true:=by rw [an7];simp only [lit,Bool.not_eq_true'];exact decide_eq_false h60
  have hloop:=fun nt (hn:35≤nt)=>aQM hn l nn (by omega) hsm l [] 0 rfl (by simp)
  cases hr:au0 l 0 with
  | inl d=>
   rw [hr] at hloop
   by_cases hd:d=1
   ·have h:=aW_ l nn d (by rw [ayp,decide_eq_true hd];rfl) hc
    simp only [if_pos hd]
    exact h (aea.blk hloop (by simp [aQJ]) rfl (anT.of ⟨rfl,rfl,rfl,rfl,trivial⟩) (anT.of ⟨rfl,trivial⟩))
   ·have h:=aW9 l nn d (by rw [ayp,decide_eq_false hd];rfl) hc
    simp only [if_neg hd]
    exact h (aea.blk hloop (by simp [aQJ]) rfl (anT.of ⟨rfl,rfl,rfl,rfl,trivial⟩) (anT.of ⟨rfl,trivial⟩))
  |inr w=>
   rw [hr] at hloop
   exact aXb l nn w hc (aea.blk hloop (by simp [aQJ]) rfl (anT.of ⟨rfl,rfl,rfl,rfl,trivial⟩) (anT.of ⟨rfl,trivial⟩))
theorem aWQ {nt:Nat} (hn:45≤nt) (l:List Nd) (nn:Bool) (k:Nat) (C:List AV) (st own:List Nat) (x:Nd) (r:List Nd) (hdr:(List.drop ((Int.toNat (k:Int))*5) (ndL l))=ndC x++ndL r) (h0:(decide ((IntKind.wrap .i64 (((0:Nat):Int) - (AV.toInt (List.headD (List.drop ((0+((Int.toNat x.op)*5))+1) awP) .dead))))=0))=true) (h1:(Nat.ble (((0+(Int.toNat (k:Int)))*1)+1) (List.length C))=true) (h2:(decide (((0:Nat):Int)≤(k:Int)))=true) (h3:(decide ((k:Int)<(l.length:Int)))=true) (h4:(chk (.int .i64) (List.headD (List.drop ((0+((Int.toNat x.op)*5))+1) awP) .dead))=true) (h5:(decide (((0:Nat):Int)≤x.op))=true) (h6:(decide (x.op<((25:Nat):Int)))=true) (h7:lit true (decide ((k:Int)<(l.length:Int)))=true) (c0:CO 62 [.nilS] (.ret (.sl (ad2 own) own.length false))):adY prog ap [] nt (lT 0 (adW f37)) ⟨[(15,.sl (ndL l) l.length nn),(16,.int .i64 (l.length:Int)),(17,.int .i64 (k:Int)),(4,.ref 0 0 0 l.length),(5,.nilS)],[(0,⟨C,0,false,0,1,true⟩)],.dead,[]⟩ (.normal) ⟨[(15,.sl (ndL l) l.length nn),(16,.int .i64 (l.length:Int)),(17,.int .i64 (IntKind.wrap .i64 ((k:Int)+((1:Nat):Int)))),(4,.ref 0 0 0 l.length),(5,.ref 1 0 0 1)],[(0,⟨(List.take ((0+(Int.toNat (k:Int)))*1) C++ [.sl (ad2 own) own.length false]++List.drop (((0+(Int.toNat (k:Int)))*1)+1) C),0,false,0,1,true⟩),(1,⟨[.int .i64 (k:Int)],0,false,0,1,true⟩)],.dead,[]⟩:=
 have h:adY prog ap [] nt (lT 0 (adW f37)) ⟨[(15,.sl (ndL l) l.length nn),(16,.int .i64 (l.length:Int)),(17,.int .i64 (k:Int)),(4,.ref 0 0 0 l.length),(5,.nilS)],[(0,⟨C,0,false,0,1,true⟩)],.dead,[]⟩ (.normal) ⟨[(15,.sl (ndL l) l.length nn),(16,.int .i64 (l.length:Int)),(17,.int .i64 (IntKind.wrap .i64 ((k:Int)+((1:Nat):Int)))),(4,.ref 0 0 0 l.length),(5,.ref 1 0 0 1)],[(0,⟨(List.take ((0+(Int.toNat (k:Int)))*1) C++ [.sl (ad2 own) own.length false]++List.drop (((0+(Int.toNat (k:Int)))*1)+1) C),0,false,0,1,true⟩),(1,⟨[.int .i64 (k:Int)],0,false,0,1,true⟩),(2,⟨[.int .i64 x.op,.bool x.neg,.str x.num,.str x.den,.str x.name],0,false,0,0,true⟩)],.dead,[]⟩:=pJ 37 [] 2 1 (.k 4 h0 (.c h1 (.c h2 (.c h3 (.c h0 (.k 1 h4 (.c h5 (.c h6 (.k 7 h2 (.c h3 (.c h7 .nil))))))))))) (.c c0 (.v 20 (.ppt hdr) .nil)) hn
 h.forgetD 2 ⟨[.int .i64 x.op,.bool x.neg,.str x.num,.str x.den,.str x.name],0,false,0,0,true⟩ (by intro v h;cases h) (by decide) rfl ⟨Fz.same rfl,Fz.same rfl,Fz.same rfl,Fz.same rfl,Fz.same rfl,trivial⟩ ⟨rfl,FzB.same rfl,by decide,rfl,FzB.same rfl,by decide,rfl⟩ rfl
theorem aLT {nt:Nat} (hn:45≤nt) (l:List Nd) (nn:Bool) (k:Nat) (C:List AV) (st own:List Nat) (h0:lit false (decide ((k:Int)<(l.length:Int)))=true):adY prog ap [] nt (lT 0 (adW f37)) ⟨[(15,.sl (ndL l) l.length nn),(16,.int .i64 (l.length:Int)),(17,.int .i64 (k:Int)),(4,.ref 0 0 0 l.length),(5,.nilS)],[(0,⟨C,0,false,0,1,true⟩)],.dead,[]⟩ (.exit 0) ⟨[(4,.ref 0 0 0 l.length)],[(0,⟨C,0,false,0,1,true⟩)],.dead,[]⟩:=pJ 37 [] 1 0 (.c h0 .nil) (.nil) hn
theorem aWN {nt:Nat} (hn:45≤nt) (l:List Nd) (nn:Bool) (k:Nat) (C:List AV) (st own:List Nat) (x:Nd) (r:List Nd) (hdr:(List.drop ((Int.toNat (k:Int))*5) (ndL l))=ndC x++ndL r) (h0:(Nat.ble (((Int.toNat (IntKind.wrap .i64 ((st.length:Int) - (AV.toInt (List.headD (List.drop ((0+((Int.toNat x.op)*5))+1) awP) .dead))))) - 0)+1) 1099511627776)=true) (h1:(Nat.ble (((Int.toNat (IntKind.wrap .i64 ((st.length:Int) - (AV.toInt (List.headD (List.drop ((0+((Int.toNat x.op)*5))+1) awP) .dead))))) - 0)*1) (List.length (ad2 st)))=true) (h2:(decide (((0:Nat):Int)≤(IntKind.wrap .i64 ((st.length:Int) - (AV.toInt (List.headD (List.drop ((0+((Int.toNat x.op)*5))+1) awP) .dead))))))=true) (h3:(decide ((IntKind.wrap .i64 ((st.length:Int) - (AV.toInt (List.headD (List.drop ((0+((Int.toNat x.op)*5))+1) awP) .dead))))≤(st.length:Int)))=true) (h4:(Nat.ble (((0+(Int.toNat (k:Int)))*1)+1) (List.length C))=true) (h5:(decide (((0:Nat):Int)≤(k:Int)))=true) (h6:(decide ((k:Int)<(l.length:Int)))=true) (h7:(decide ((st.length:Int)≤(st.length:Int)))=true) (h8:(chk (.int .i64) (List.headD (List.drop ((0+((Int.toNat x.op)*5))+1) awP) .dead))=true) (h9:(decide (((0:Nat):Int)≤x.op))=true) (h10:(decide (x.op<((25:Nat):Int)))=true) (h11:lit true (decide ((k:Int)<(l.length:Int)))=true) (c0:ad1 prog ap 62 [.ref 0 0 (0+(Int.toNat (IntKind.wrap .i64 ((st.length:Int) - (AV.toInt (List.headD (List.drop ((0+((Int.toNat x.op)*5))+1) awP) .dead)))))) ((Int.toNat (st.length:Int)) - (Int.toNat (IntKind.wrap .i64 ((st.length:Int) - (AV.toInt (List.headD (List.drop ((0+((Int.toNat x.op)*5))+1) awP) .dead))))))] [⟨(ad2 st),0,false,0,1,true⟩] (.ret (.sl (ad2 own) own.length false)) [⟨(ad2 st),0,false,0,1,true⟩]):adY prog ap [] nt (lT 0 (adW f37)) ⟨[(15,.sl (ndL l) l.length nn),(16,.int .i64 (l.length:Int)),(17,.int .i64 (k:Int)),(4,.ref 0 0 0 l.length),(5,.ref 1 0 0 st.length)],[(0,⟨C,0,false,0,1,true⟩),(1,⟨(ad2 st),0,false,0,1,true⟩)],.dead,[]⟩ (.normal) ⟨[(15,.sl (ndL l) l.length nn),(16,.int .i64 (l.length:Int)),(17,.int .i64 (IntKind.wrap .i64 ((k:Int)+((1:Nat):Int)))),(4,.ref 0 0 0 l.length),(5,.ref 1 0 0 (((Int.toNat (IntKind.wrap .i64 ((st.length:Int) - (AV.toInt (List.headD (List.drop ((0+((Int.toNat x.op)*5))+1) awP) .dead))))) - 0)+1))],[(0,⟨(List.take ((0+(Int.toNat (k:Int)))*1) C++ [.sl (ad2 own) own.length false]++List.drop (((0+(Int.toNat (k:Int)))*1)+1) C),0,false,0,1,true⟩),(1,⟨((List.take (((Int.toNat (IntKind.wrap .i64 ((st.length:Int) - (AV.toInt (List.headD (List.drop ((0+((Int.toNat x.op)*5))+1) awP) .dead))))) - 0)*1) (ad2 st))++ [.int .i64 (k:Int)]),0,false,0,1,true⟩)],.dead,[]⟩:=
 have h:adY prog ap [] nt (lT 0 (adW f37)) ⟨[(15,.sl (ndL l) l.length nn),(16,.int .i64 (l.length:Int)),(17,.int .i64 (k:Int)),(4,.ref 0 0 0 l.length),(5,.ref 1 0 0 st.length)],[(0,⟨C,0,false,0,1,true⟩),(1,⟨(ad2 st),0,false,0,1,true⟩)],.dead,[]⟩ (.normal) ⟨[(15,.sl (ndL l) l.length nn),(16,.int .i64 (l.length:Int)),(17,.int .i64 (IntKind.wrap .i64 ((k:Int)+((1:Nat):Int)))),(4,.ref 0 0 0 l.length),(5,.ref 1 0 0 (((Int.toNat (IntKind.wrap .i64 ((st.length:Int) - (AV.toInt (List.headD (List.drop ((0+((Int.toNat x.op)*5))+1) awP) .dead))))) - 0)+1))],[(0,⟨(List.take ((0+(Int.toNat (k:Int)))*1) C++ [.sl (ad2 own) own.length false]++List.drop (((0+(Int.toNat (k:Int)))*1)+1) C),0,false,0,1,true⟩),(1,⟨((List.take (((Int.toNat (IntKind.wrap .i64 ((st.length:Int) - (AV.toInt (List.headD (List.drop ((0+((Int.toNat x.op)*5))+1) awP) .dead))))) - 0)*1) (ad2 st))++ [.int .i64 (k:Int)]),0,false,0,1,true⟩),(2,⟨[.int .i64 x.op,.bool x.neg,.str x.num,.str x.den,.str x.name],0,false,0,0,true⟩)],.dead,[]⟩:=pJ 37 [] 1 1 (.k 1 h0 (.c h1 (.k 2 h2 (.c h3 (.c h4 (.c h5 (.c h6 (.c h2 (.c h3 (.c h7 (.c h8 (.c h9 (.c h10 (.k 7 h5 (.c h6 (.c h11 .nil)))))))))))))))) (.c c0 (.v 20 (.ppt hdr) .nil)) hn
 h.forgetD 2 ⟨[.int .i64 x.op,.bool x.neg,.str x.num,.str x.den,.str x.name],0,false,0,0,true⟩ (by intro v h;cases h) (by decide) rfl ⟨Fz.same rfl,Fz.same rfl,Fz.same rfl,Fz.same rfl,Fz.same rfl,trivial⟩ ⟨rfl,FzB.same rfl,by decide,rfl,FzB.same rfl,by decide,rfl⟩ rfl
theorem aLS {nt:Nat} (hn:45≤nt) (l:List Nd) (nn:Bool) (k:Nat) (C:List AV) (st own:List Nat) (h0:lit false (decide ((k:Int)<(l.length:Int)))=true):adY prog ap [] nt (lT 0 (adW f37)) ⟨[(15,.sl (ndL l) l.length nn),(16,.int .i64 (l.length:Int)),(17,.int .i64 (k:Int)),(4,.ref 0 0 0 l.length),(5,.ref 1 0 0 st.length)],[(0,⟨C,0,false,0,1,true⟩),(1,⟨(ad2 st),0,false,0,1,true⟩)],.dead,[]⟩ (.exit 0) ⟨[(4,.ref 0 0 0 l.length)],[(0,⟨C,0,false,0,1,true⟩),(1,⟨(ad2 st),0,false,0,1,true⟩)],.dead,[]⟩:=pJ 37 [] 1 0 (.c h0 .nil) (.nil) hn
theorem aWO (l:List Nd) (nn:Bool) (w:Int) (C:List AV) (h0:lit true (!(w==((0:Nat):Int)))=true) (c0:CO 21 [.sl (ndL l) l.length nn] (.ret (.int .i64 w))):CO 37 [.sl (ndL l) l.length nn] (.ret (.tup [.nilS,.bool false])):=pK [0] 1 1 (.c h0 .nil) (.c c0 .nil)
theorem aWP (l:List Nd) (nn:Bool) (w:Int) (C:List AV) (h0:(decide (((0:Nat):Int)≤(l.length:Int)))=true) (h1:(decide ((l.length:Int)=(l.length:Int)))=true) (h2:(decide ((l.length:Int)≤((1099511627776:Nat):Int)))=true) (h3:lit false (!(w==((0:Nat):Int)))=true) (c0:CO 21 [.sl (ndL l) l.length nn] (.ret (.int .i64 w))) (l0:ajS prog ap [] 45 (.block 0 (.loop (lT 0 (adW f37)))) ⟨[(0,.sl (ndL l) l.length nn),(2,.nilS),(3,.bool false),(4,.ref 0 0 0 (Int.toNat (l.length:Int))),(5,.nilS),(6,.dead),(7,.dead),(8,.dead),(11,.bool (!(w==((0:Nat):Int)))),(15,.sl (ndL l) l.length nn),(16,.int .i64 (l.length:Int)),(17,.int .i64 0),(18,.dead)],[(0,⟨(awc (Int.toNat (l.length:Int)) [.nilS]),0,false,0,1,true⟩)],.dead,[]⟩ (.normal) ⟨[(4,.ref 0 0 0 l.length)],[(0,⟨C,0,false,0,1,true⟩)],.dead,[]⟩):CO 37 [.sl (ndL l) l.length nn] (.ret (.tup [.own (List.take (l.length*1) C) l.length 1,.bool true])):=pK [0] 1 0 (.c h0 (.c h1 (.c h2 (.c h3 .nil)))) (.l l0 (.c c0 .nil))
theorem aXd:CO 62 [.nilS] (.ret (.nilS)):=pK [] 1 1 (.n 1 .nil) (.nil)
theorem aXc (st:List Nat) (i n:Nat) (h0:(Nat.beq (List.length (List.take (n*1) (List.drop (i*1) (ad2 st)))) (n*1))=true) (h1:(Nat.ble (0+n) 1099511627776)=true):ad1 prog ap 62 [.ref 0 0 i n] [⟨(ad2 st),0,false,0,1,true⟩] (.ret (.own (List.take ((0+n)*1) ([]++(List.take (n*1) (List.drop (i*1) (ad2 st))))) (0+n) 1)) [⟨(ad2 st),0,false,0,1,true⟩]:=pK [] 1 0 (.c h0 (.c h1 (.n 3 .nil))) (.nil)
def aBi:List Nd→Nat→List Nat→List (List Nat)
 | [],_,_=> []
 |x::r,k,st=>st.drop (st.length - arI x.op)::aBi r (k+1) (st.take (st.length - arI x.op)++ [k])
def avy (l:List Nd):List (List Nat):=aBi l 0 []
def aGZ (a:List Nat):AV:= .sl (ad2 a) a.length false
def aun (ll:List (List Nat)):List AV:=ll.map aGZ
def stR:List Nd→Nat→List Nat→List Nat
 | [],_,st=>st
 |x::r,k,st=>stR r (k+1) (st.take (st.length - arI x.op)++ [k])
theorem aH8 (r:List Nd):∀ k st,(aBi r k st).length=r.length:=by
 induction r with
 |nil=>intros;rfl
 |cons x r ih=>intro k st;simp only [aBi,List.length_cons,ih]
def agE (st:List Nat):AV:=match st with| []=> .nilS|x::l=> .ref 1 0 0 (x::l).length
def agH (st:List Nat):Hp:=match st with| []=> []|x::l=> [(1,⟨ad2 (x::l),0,false,0,1,true⟩)]
theorem aJx {l:List Nat} (h:l ≠ []):agE l= .ref 1 0 0 l.length:=by cases l with|nil=>exact absurd rfl h|cons _ _=>rfl
theorem aGX {l:List Nat} (h:l ≠ []):agH l= [(1,⟨ad2 l,0,false,0,1,true⟩)]:=by cases l with|nil=>exact absurd rfl h|cons _ _=>rfl
def aGY (l:List Nd) (nn:Bool) (p:Nat × List Nat × List AV):St:=⟨[(15,.sl (ndL l) l.length nn),(16,.int .i64 (l.length:Int)),(17,.int .i64 (p.1:Int)),(4,.ref 0 0 0 l.length),(5,agE p.2.1)],(0,⟨p.2.2,0,false,0,1,true⟩)::agH p.2.1,.dead,[]⟩
def aF3 (l:List Nd) (p:List Nat × List AV):St:=⟨[(4,.ref 0 0 0 l.length)],(0,⟨p.2,0,false,0,1,true⟩)::agH p.1,.dead,[]⟩
theorem aL3:ad1 prog ap 62 [.nilS] [] (.ret (.sl (ad2 []) ([]:List Nat).length false)) []:=aXd.out (awZ.ret rfl rfl (anX.nilS false rfl))
theorem aNM (st:List Nat) (i n:Nat) (h:i+n=st.length) (hl:st.length<2^40):ad1 prog ap 62 [.ref 0 0 i n] [⟨ad2 st,0,false,0,1,true⟩] (.ret (.sl (ad2 (st.drop i)) n false)) [⟨ad2 st,0,false,0,1,true⟩]:=by
 have h1:=aXc st i n
 have hln:n≤st.length:=by omega
 have htk:List.take n (List.drop i (ad2 st))=ad2 (st.drop i):=by
  rw [aIn,avl,List.take_of_length_le (by simp;omega)]
 have hlen:(ad2 (st.drop i)).length=n:=by rw [avq,List.length_drop];omega
 simp (disch:=first|omega|(simp [ad4,ad7]<;>omega)) only [Nat.mul_one,htk,hlen,aHu,decide_true,Nat.zero_add,avG,an5,List.nil_append] at h1
 have h2:=(h1 True.intro (by omega)).thaw (by simp)
 simp only [aCl,thaw,Nat.mul_one] at h2
 rw [List.take_of_length_le (by rw [List.length_take,hlen];omega),List.take_of_length_le (by omega)] at h2
 exact h2.out (awZ.sl1 _ _ _)
theorem aQp {nt:Nat} (hn:45≤nt) (l p r:List Nd) (nn:Bool) (x:Nd) (st:List Nat) (C C2:List AV) (hl:l=p++x::r) (hll:l.length<2^39) (hop:1≤x.op∧x.op≤24) (har:arI x.op≤st.length) (hst:st.length≤p.length) (hC:C.length=l.length)
  (hset:List.take p.length C++ [aGZ (st.drop (st.length - arI x.op))]++List.drop (p.length+1) C=C2):
  adY prog ap [] nt (lT 0 (adW f37)) (aGY l nn (p.length,st,C)) .normal (aGY l nn (p.length+1,st.take (st.length - arI x.op)++ [p.length],C2)):=by
 have hdr:List.drop (Int.toNat (p.length:Int)*5) (ndL l)=ndC x++ndL r:=by rw [hl];exact aCa rfl
 have hlen:p.length+(r.length+1)=l.length:=by rw [hl];simp
 obtain ⟨i1,i2⟩:=hop
 have ht:=aKI i1 i2
 unfold aGY
 simp only
 rw [aJx (awp _ _),aGX (awp _ _)]
 rcases Decidable.em (st= []) with rfl|hne
 ·have h0:arI x.op=0:=by simpa using har
  have hb:=aWQ hn l nn p.length C [] [] x r hdr
  simp only [List.length_nil,Nat.zero_sub,List.drop_nil,List.take_nil,List.nil_append] at hset ⊢
  unfold aGZ at hset
  have hca:=aL3
  simp (disch:=first|omega|(simp [ad4,ad7]<;>omega)) only [Nat.zero_add,ht,h0,anY,awS,Nat.sub_zero,an5,aeb,Nat.mul_one,hC,avG,avb,an7,avj,aot,List.length_nil,au9,an9] at hb
  simp only [agE,agH,ad2,List.map_cons,List.map_nil,List.length_cons,List.length_nil,Nat.zero_add] at hb hset hca ⊢
  rw [hset] at hb
  apply hb<;>first|exact True.intro|omega|assumption|exact rfl|skip
 ·have hcl:=aNM st (st.length - arI x.op) (arI x.op) (by omega) (by omega)
  have hb:=aWN hn l nn p.length C st (st.drop (st.length - arI x.op)) x r hdr
  rw [aJx hne,aGX hne]
  unfold aGZ at hset
  generalize hm:st.length - arI x.op=m at*
  have hown:(st.drop m).length=arI x.op:=by rw [List.length_drop];omega
  have e2:IntKind.wrap .i64 ((st.length:Int) - ((arI x.op:Nat):Int))=(m:Int):=by rw [auI]<;>omega
  have e3:st.length - m=arI x.op:=by omega
  rw [hown] at hb hset
  have e4:(st.take m).length=m:=by rw [List.length_take];omega
  simp (disch:=first|omega|(simp [ad4,ad7]<;>omega)) only [Nat.zero_add,ht,anY,e2,aeb,Nat.sub_zero,avG,an5,Nat.mul_one,avq,avb,hC,an7,avj,aot,e3,au9,an9,hset,avl,axz] at hb
  simp only [List.length_append,List.length_singleton,e4]
  apply hb<;>first|exact True.intro|omega|assumption|exact rfl|skip
theorem aQK {r:List Nd} {d e:Nat} {x:Nd} (h:au0 (x::r) d= .inl e):(1≤x.op∧x.op≤24)∧arI x.op≤d∧au0 r (d - arI x.op+1)= .inl e:=by
 simp only [au0] at h
 by_cases h1:al1 x=0
 ·rw [if_pos h1] at h
  by_cases h2:d<arI x.op
  ·rw [if_pos h2] at h;cases h
  ·rw [if_neg h2] at h
   exact ⟨aFw h1,by omega,h⟩
 ·rw [if_neg h1] at h;cases h
theorem aAz (ll:List (List Nat)):(aun ll).length=ll.length:=by simp [aun]
theorem aLV (done:List (List Nat)) (a:List Nat) (m:Nat):List.take done.length (aun done++List.replicate (m+1) AV.nilS)++ [aGZ a]++List.drop (done.length+1) (aun done++List.replicate (m+1) AV.nilS)=aun (done++ [a])++List.replicate m AV.nilS:=by
 have hl:=aAz done
 rw [List.take_append_of_le_length (by omega),List.take_of_length_le (by omega),List.drop_append,List.drop_of_length_le (by omega),List.nil_append,show done.length+1 - (aun done).length=1 by omega,List.replicate_succ,List.drop_succ_cons,List.drop_zero]
 unfold aun
 rw [List.map_append]
 rfl
theorem aQo {nt:Nat} (hn:45≤nt) (l:List Nd) (nn:Bool) (hll:l.length<2^39) (e:Nat):∀ (r p:List Nd) (st:List Nat) (done:List (List Nat)),p++r=l→au0 r st.length= .inl e→st.length≤p.length→done.length=p.length→aea prog ap [] nt (lT 0 (adW f37)) (fun _=> .exit 0) (aGY l nn) (aF3 l) (p.length,st,aun done++List.replicate r.length .nilS) (stR r p.length st,aun (done++aBi r p.length st)):=by
 intro r
 induction r with
 | nil=>
  intro p st done h hc hst hd
  have hp:p.length=l.length:=by rw [← h];simp
  rw [hp]
  simp only [aBi,stR,List.append_nil,List.length_nil,List.replicate_zero]
  refine .done ?_
  unfold aGY aF3
  have hx:adY prog ap [] nt (lT 0 (adW f37)) (aGY l nn (l.length,st,aun done)) (.exit 0) (aF3 l (st,aun done)):=by
   unfold aGY aF3
   rcases Decidable.em (st= []) with rfl|hne
   ·exact aLT hn l nn l.length (aun done) [] [] (by rw [an7];simp [lit])
   ·simp only
    rw [aJx hne,aGX hne]
    exact aLS hn l nn l.length (aun done) st [] (by rw [an7];simp [lit])
  exact hx
 | cons x r ih=>
  intro p st done h hc hst hd
  obtain ⟨hop,har,hc2⟩:=aQK hc
  have hl:p.length+(r.length+1)=l.length:=by rw [← h];simp
  have hst2:(st.take (st.length - arI x.op)++ [p.length]).length=st.length - arI x.op+1:=by
   rw [List.length_append,List.length_take,List.length_singleton,Nat.min_eq_left (by omega)]
  have hnext:=ih (p++ [x]) (st.take (st.length - arI x.op)++ [p.length]) (done++ [st.drop (st.length - arI x.op)]) (by simp [h]) (by rw [hst2];exact hc2) (by rw [hst2];simp;omega) (by simp [hd])
  rw [List.length_append,List.length_singleton,List.append_assoc] at hnext
  simp only [aBi,stR,List.length_cons]
  have hset:=aLV done (st.drop (st.length - arI x.op)) r.length
  rw [hd] at hset
  have hstep:=aQp hn l p r nn x st (aun done++List.replicate (r.length+1) .nilS) _ h.symm hll hop har hst (by rw [List.length_append,aAz,List.length_replicate];omega) hset
  exact .next hstep hnext
theorem aPq (n:Nat):awc n [AV.nilS]=List.replicate n AV.nilS:=by
 unfold awc
 induction n with
 |zero=>rfl
 |succ n ih=>rw [List.replicate_succ,List.flatten_cons,ih,List.replicate_succ];rfl
theorem aJI {l:List Nd} (h:aud l=0):l.length≤60∧au0 l 0= .inl 1:=by
 unfold aud at h
 by_cases h60:60<l.length
 ·rw [if_pos h60] at h;cases h
 ·rw [if_neg h60] at h
  refine ⟨by omega, ?_⟩
  have hne:∀ (r:List Nd) (d:Nat) (w:Int),au0 r d= .inr w→w ≠ 0:=by
   intro r
   induction r with
   |nil=>intro d w h;cases h
   | cons x r ih=>
    intro d w h
    simp only [au0] at h
    by_cases h1:al1 x=0
    ·rw [if_pos h1] at h
     by_cases h2:d<arI x.op
     ·rw [if_pos h2] at h;cases h;decide
     ·rw [if_neg h2] at h;exact ih _ _ h
    ·rw [if_neg h1] at h;cases h;exact h1
  cases hc:au0 l 0 with
  |inl d=>
   rw [hc] at h
   by_cases hd:d=1
   ·rw [hd]
   ·simp only [if_neg hd] at h;cases h
  |inr w=>rw [hc] at h;exact absurd h (hne l 0 w hc)
theorem aQu (l:List Nd) (nn:Bool) (hsm:∀ x ∈ l,x.sm) (hc:aud l=0):CO 37 [.sl (ndL l) l.length nn] (.ret (.tup [.sl (aun (avy l)) l.length true,.bool true])):=by
 have htk:List.take l.length (aun (avy l))=aun (avy l):=List.take_of_length_le (by rw [aAz];unfold avy;rw [aH8];omega)
 suffices hown:CO 37 [.sl (ndL l) l.length nn] (.ret (.tup [.own (aun (avy l)) l.length 1,.bool true])) by
  have h:=hown.thaw (by simp)
  simp only [aCl,List.map_cons,List.map_nil,thaw,Nat.mul_one,htk] at h
  exact h
 have hck:=az_ l nn hsm
 obtain ⟨h60,hin⟩:=aJI hc
 rw [hc] at hck
 have hloop:=fun nt (hn:45≤nt)=>aQo hn l nn (by omega) 1 l [] [] [] rfl hin (by simp) rfl
 have hal:(avy l).length=l.length:=aH8 l 0 []
 have h:=aWP l nn 0 (aun (avy l))
 simp (disch:=first|omega|(simp [ad4,ad7]<;>omega)) only [avb,an5,decide_true,avs,avL,aO2,aeb,aPq,Nat.mul_one,htk] at h
 have hlen:(aun (avy l)).length=l.length:=by rw [aAz,hal]
 have hr:l.length<1099511627776:=by omega
 apply h<;>first|exact True.intro|omega|assumption|exact rfl|skip
 intro nt hnt
 have hb:=aea.blk (s:=aGY l nn (0,[],List.replicate l.length AV.nilS)) (s':=aF3 l (stR l 0 [],aun (avy l))) (id:=0) hloop (by simp) rfl (anT.refl _) (anT.refl _) nt hnt
 unfold aGY aF3 at hb
 simp only [agE,agH] at hb
 have hb2:=hb.weak (s':=⟨[(0,.sl (ndL l) l.length nn),(2,.nilS),(3,.bool false),(4,.ref 0 0 0 l.length),(5,.nilS),(6,.dead),(7,.dead),(8,.dead),(11,.bool false),(15,.sl (ndL l) l.length nn),(16,.int .i64 (l.length:Int)),(17,.int .i64 0),(18,.dead)],[(0,⟨List.replicate l.length AV.nilS,0,false,0,1,true⟩)],.dead,[]⟩) (anT.of ⟨rfl,rfl,rfl,rfl,rfl,trivial⟩) (anT.refl _)
 rcases Decidable.em (stR l 0 []= []) with he|he
 ·rw [he] at hb2;exact hb2
 ·have e1:=aGX he
  unfold agH at e1
  rw [e1] at hb2
  exact hb2.forget 1 _ (by intro v h;cases h) (by decide) rfl ⟨Fz.same rfl,trivial⟩ ⟨rfl,FzB.same rfl,by decide,rfl⟩
structure Sc where
 name:List UInt8
 u1:Int
 u2:Int
 bx:List AV
 bn:Nat
def scC (x:Sc):List AV:= [.str x.name,.int .i64 x.u1,.int .i64 x.u2,.sl x.bx x.bn false]
def scL (l:List Sc):List AV:=l.flatMap scC
theorem ayj (l:List Sc):(scL l).length=l.length*4:=by
 induction l with
 |nil=>rfl
 |cons x r ih=>simp only [scL,List.flatMap_cons,List.length_append,List.length_cons] at ih ⊢;rw [ih];simp [scC];omega
theorem aIZ {l:List Sc} {k:Nat} (h:k<l.length):List.drop (k*4) (scL l)=scC l[k]++scL (l.drop (k+1)):=by
 induction l generalizing k with
 |nil=>simp at h
 | cons x r ih=>
  cases k with
  |zero=>simp [scL]
  |succ k=>
   have h':k<r.length:=by simpa using h
   show List.drop ((k+1)*4) (scC x++scL r)=_
   rw [show (k+1)*4=(scC x).length+k*4 by simp [scC];omega,List.drop_append,Nat.add_sub_cancel_left,ih h',List.drop_of_length_le (by omega)]
   rfl
def avK (a b:Nat):Nat:=if a=0 then b else if b=0∨a=b then a else 3
def axi (a:Nat):Nat:=if a=1∨a=2 then 3 - a else a
def avP (A:List (List Nat)) (ss:List Nat) (k i:Nat):Nat:=ss.getD ((A.getD k []).getD i 0) 0
def awV (A:List (List Nat)) (ss:List Nat) (k:Nat):Nat:=(A.getD k []).foldl (fun s i=>avK s (ss.getD i 0)) 0
abbrev wB (e:List Nd) (ne:Bool) (A:List (List Nat)) (sc:List Sc) (ns:Bool) (ss:List Nat):Blk:=⟨[.sl (ndL e) e.length ne,.sl (aun A) A.length true,.sl (scL sc) sc.length ns,.ref 1 0 0 ss.length],0,false,0,0,false⟩
abbrev sB (ss:List Nat):Blk:=⟨ad2 ss,0,false,0,1,true⟩
abbrev wH (e:List Nd) (ne:Bool) (A:List (List Nat)) (sc:List Sc) (ns:Bool) (ss:List Nat):List Blk:= [wB e ne A sc ns ss,sB ss]
theorem aBj {A:List (List Nat)} {k:Nat} (h:k<A.length):List.drop (Int.toNat (k:Int)*1) (aun A)= [aGZ (A.getD k [])]++aun (A.drop (k+1)):=by
 unfold aun
 rw [aeb,Nat.mul_one,← List.map_drop,List.drop_eq_getElem_cons h,List.getD_eq_getElem?_getD,List.getElem?_eq_getElem h]
 rfl
theorem aAG {a:List Nat} {k:Nat} (h:k<a.length):List.drop (Int.toNat (k:Int)*1) (ad2 a)= [AV.int .i64 ((a.getD k 0:Nat):Int)]++ad2 (a.drop (k+1)):=by
 unfold ad2
 rw [aeb,Nat.mul_one,← List.map_drop,List.drop_eq_getElem_cons h,List.getD_eq_getElem?_getD,List.getElem?_eq_getElem h]
 rfl
theorem nn0 (k:Nat):decide (((0:Nat):Int)≤(k:Int))=true:=decide_eq_true (by omega)
theorem dlt {k n:Nat} (h:k<n):decide ((k:Int)<(n:Int))=true:=decide_eq_true (by omega)
theorem a0K (e:List Nd) (ne:Bool) (A:List (List Nat)) (sc:List Sc) (ns:Bool) (ss:List Nat) (k i:Nat) (a:List Nat) (rA:List AV) (j:Nat) (ri:List AV) (s:Nat) (rs:List AV) (hk:k<A.length) (ha:(List.drop ((Int.toNat (k:Int))*1) (aun A))= [aGZ a]++rA) (hl:i<a.length) (hi:(List.drop ((Int.toNat (i:Int))*1) (ad2 a))= [AV.int .i64 (j:Int)]++ri) (hj:j<ss.length) (hs:(List.drop ((0+(Int.toNat (j:Int)))*1) (ad2 ss))= [AV.int .i64 (s:Int)]++rs):
  ad1 prog ap 69 [.ptr 0 0 0,.int .i64 (k:Int),.int .i64 (i:Int)] (wH e ne A sc ns ss) (.ret (.int .i64 (s:Int))) (wH e ne A sc ns ss):=pK [] 0 0 (.a (aNH [.int .i64] hs rfl) (.c (nn0 j) (.c (dlt hj) (.k 1 (nn0 i) (.c (dlt hl) (.k 1 (nn0 k) (.c (dlt hk) (.n 2 .nil)))))))) (.v 22 (.rd1 (.int .i64) hs rfl) (.v 19 (.ppt hi) (.v 16 (.ppt ha) .nil)))
theorem ayS (e:List Nd) (ne:Bool) (A:List (List Nat)) (sc:List Sc) (ns:Bool) (ss:List Nat) (k i:Nat) (hk:k<A.length) (hi:i<(A.getD k []).length) (hj:(A.getD k []).getD i 0<ss.length):
  ad1 prog ap 69 [.ptr 0 0 0,.int .i64 (k:Int),.int .i64 (i:Int)] (wH e ne A sc ns ss) (.ret (.int .i64 ((avP A ss k i:Nat):Int))) (wH e ne A sc ns ss):=
 a0K e ne A sc ns ss k i _ _ _ _ _ _ hk (aBj hk) hi (aAG hi) hj (by rw [Nat.zero_add];exact aAG hj)
theorem awq (a b:Nat):((a:Int)==(b:Int))=decide (a=b):=by by_cases h:a=b<;>simp [h]<;>omega
theorem aHq (a b:Nat):CO 68 [.int .i64 (a:Int),.int .i64 (b:Int)] (.ret (.int .i64 ((avK a b:Nat):Int))):=by
 rcases tf ((a:Int)==((0:Nat):Int)) with b0|b0
 ·rw [show avK a b=b by unfold avK;simp only [awq,decide_eq_true_eq,decide_eq_false_iff_not] at b0;simp [*]]
  exact pK [] 1 1 (.c (aeF b0) .nil) (.nil)
 ·rcases tf ((b:Int)==((0:Nat):Int)) with b1|b1
  ·rw [show avK a b=a by unfold avK;simp only [awq,decide_eq_true_eq,decide_eq_false_iff_not] at b0 b1;simp [*]]
   exact pK [] 3 6 (.k 1 (aeF b1) (.c (akx b0) .nil)) (.nil)
  ·rcases tf ((a:Int)==(b:Int)) with b2|b2
   ·rw [show avK a b=a by unfold avK;simp only [awq,decide_eq_true_eq,decide_eq_false_iff_not] at b0 b1 b2;simp [*]]
    exact pK [] 3 4 (.c (aeF b2) (.c (akx b1) (.c (akx b0) .nil))) (.nil)
   ·rw [show avK a b=3 by unfold avK;simp only [awq,decide_eq_true_eq,decide_eq_false_iff_not] at b0 b1 b2;simp [*]]
    exact pK [] 3 0 (.c (akx b2) (.c (akx b1) (.c (akx b0) .nil))) (.nil)
theorem aLI (a:Nat):CO 97 [.int .i64 (a:Int)] (.ret (.int .i64 ((axi a:Nat):Int))):=by
 rcases tf ((a:Int)==((1:Nat):Int)) with b0|b0
 ·have e:((axi a:Nat):Int)=IntKind.wrap .i64 (((3:Nat):Int) - (a:Int)):=by
   simp only [awq,decide_eq_true_eq,decide_eq_false_iff_not] at b0
   subst b0
   decide
  rw [e]
  exact pK [] 2 3 (.k 1 (aeF b0) .nil) (.nil)
 ·rcases tf ((a:Int)==((2:Nat):Int)) with b1|b1
  ·have e:((axi a:Nat):Int)=IntKind.wrap .i64 (((3:Nat):Int) - (a:Int)):=by
    simp only [awq,decide_eq_true_eq,decide_eq_false_iff_not] at b0 b1
    subst b1
    decide
   rw [e]
   exact pK [] 2 2 (.c (aeF b1) (.c (akx b0) .nil)) (.nil)
  ·rw [show axi a=a by unfold axi;simp only [awq,decide_eq_true_eq,decide_eq_false_iff_not] at b0 b1;simp [*]]
   exact pK [] 2 0 (.c (akx b1) (.c (akx b0) .nil)) (.nil)
theorem wk1 {i:Nat} (h:i<2^62):AV.int .i64 (IntKind.wrap .i64 ((i:Int)+((1:Nat):Int)))= .int .i64 ((i+1:Nat):Int):=by rw [auI]<;>first|rfl|omega
def cy (fd fc:Nat→Nat→Nat→Nat):List Nat→List Nat→Nat→List Nat × Nat
 | [],_,c=>([],c)
 |x::l,m,c=>(fd x (m.headD 0) c::(cy fd fc l m.tail (fc x (m.headD 0) c)).1,(cy fd fc l m.tail (fc x (m.headD 0) c)).2)
theorem aHi {l:List Nat} {i:Nat} (h:i<l.length):l.getD i 0=l[i]:=by rw [List.getD_eq_getElem?_getD,List.getElem?_eq_getElem h];rfl
def aWR (e:List Nd) (ne:Bool) (A:List (List Nat)) (sc:List Sc) (ns:Bool) (ss:List Nat) (k n:Nat) (p:Nat × Nat):St:=⟨[(0,.ptr 0 0 0),(1,.int .i64 (k:Int)),(5,.int .i64 (p.2:Int)),(14,.int .i64 (n:Int)),(15,.int .i64 (p.1:Int))],[(0,⟨[.sl (ndL e) e.length ne,.sl (aun A) A.length true,.sl (scL sc) sc.length ns,.ref 1 0 0 ss.length],0,false,0,0,false⟩),(1,⟨(ad2 ss),0,false,0,1,true⟩)],.dead,[]⟩
def aTe (e:List Nd) (ne:Bool) (A:List (List Nat)) (sc:List Sc) (ns:Bool) (ss:List Nat) (k:Nat) (acc:Nat):St:=⟨[(0,.ptr 0 0 0),(1,.int .i64 (k:Int)),(5,.int .i64 (acc:Int))],[(0,⟨[.sl (ndL e) e.length ne,.sl (aun A) A.length true,.sl (scL sc) sc.length ns,.ref 1 0 0 ss.length],0,false,0,0,false⟩),(1,⟨(ad2 ss),0,false,0,1,true⟩)],.dead,[]⟩
theorem aNy {nt:Nat} (hn:26≤nt) (e:List Nd) (ne:Bool) (A:List (List Nat)) (sc:List Sc) (ns:Bool) (ss:List Nat) (k n:Nat) (hk:k<A.length) (hl:n<2^40) (hn2:n=(A.getD k []).length) (hb:∀ j ∈ A.getD k [],j<ss.length):∀ (d i acc:Nat),i+d=n→
  aea prog ap (wH e ne A sc ns ss) nt (lT 0 (adW f39)) (fun _=> .exit 0) (aWR e ne A sc ns ss k n) (aTe e ne A sc ns ss k) (i,acc) (((A.getD k []).drop i).foldl (fun s j=>avK s (ss.getD j 0)) acc):=by
 intro d
 induction d with
 |zero=>
  intro i acc hi
  have b0:(decide ((i:Int)<(n:Int)))=false:=decide_eq_false (by omega)
  rw [List.drop_of_length_le (by omega)]
  exact .done (pN 39 [] 1 0 (.c (akx b0) .nil) (.nil) hn)
 | succ d ih=>
  intro i acc hi
  have b0:(decide ((i:Int)<(n:Int)))=true:=decide_eq_true (by omega)
  have hil:i<(A.getD k []).length:=by omega
  have hi':=hil
  have hji:(A.getD k []).getD i 0<ss.length:=by
   rw [aHi hil];exact hb _ (List.getElem_mem hil)
  have hw:i<2^62:=by omega
  rw [List.drop_eq_getElem_cons hil]
  have e1:(A.getD k [])[i]=(A.getD k []).getD i 0:=(aHi hil).symm
  rw [e1]
  exact .next (pN 39 [] 1 1 (.c (aeF b0) .nil) (.v 24 (.eq (wk1 hw)) (.c (aHq acc (avP A ss k i)) (.c (ayS e ne A sc ns ss k i hk hi' hji) .nil))) hn) (ih (i+1) (avK acc (avP A ss k i)) (by omega))
theorem aWS (e:List Nd) (ne:Bool) (A:List (List Nat)) (sc:List Sc) (ns:Bool) (ss:List Nat) (k:Nat) (a:List Nat) (rA:List AV) (z:Nat) (hk:k<A.length) (ha:(List.drop ((Int.toNat (k:Int))*1) (aun A))= [aGZ a]++rA)
  (l0:ajS prog ap (wH e ne A sc ns ss) 26 (.block 0 (.loop (lT 0 (adW f39)))) ⟨[(0,.ptr 0 0 0),(1,.int .i64 (k:Int)),(4,.int .i64 0),(5,.int .i64 0),(6,.dead),(14,.int .i64 (a.length:Int)),(15,.int .i64 0),(16,.dead)],[(0,⟨[.sl (ndL e) e.length ne,.sl (aun A) A.length true,.sl (scL sc) sc.length ns,.ref 1 0 0 ss.length],0,false,0,0,false⟩),(1,⟨(ad2 ss),0,false,0,1,true⟩)],.dead,[]⟩ (.normal) ⟨[(0,.ptr 0 0 0),(1,.int .i64 (k:Int)),(5,.int .i64 (z:Int))],[(0,⟨[.sl (ndL e) e.length ne,.sl (aun A) A.length true,.sl (scL sc) sc.length ns,.ref 1 0 0 ss.length],0,false,0,0,false⟩),(1,⟨(ad2 ss),0,false,0,1,true⟩)],.dead,[]⟩):
  ad1 prog ap 39 [.ptr 0 0 0,.int .i64 (k:Int)] (wH e ne A sc ns ss) (.ret (.int .i64 (z:Int))) (wH e ne A sc ns ss):=pK [0] 0 0 (.k 1 (nn0 k) (.c (dlt hk) (.n 1 .nil))) (.l l0 (.v 12 (.ppt ha) .nil))
theorem aTX (e:List Nd) (ne:Bool) (A:List (List Nat)) (sc:List Sc) (ns:Bool) (ss:List Nat) (k:Nat) (hk:k<A.length) (hl:(A.getD k []).length<2^40) (hb:∀ j ∈ A.getD k [],j<ss.length):
  ad1 prog ap 39 [.ptr 0 0 0,.int .i64 (k:Int)] (wH e ne A sc ns ss) (.ret (.int .i64 ((awV A ss k:Nat):Int))) (wH e ne A sc ns ss):=
 have h:∀ nt,26≤nt→aea prog ap (wH e ne A sc ns ss) nt (lT 0 (adW f39)) (fun _=> .exit 0) (aWR e ne A sc ns ss k (A.getD k []).length) (aTe e ne A sc ns ss k) (0,0) (awV A ss k):=fun nt hn=>aNy hn e ne A sc ns ss k _ hk hl rfl hb _ 0 0 (Nat.zero_add _)
 aWS e ne A sc ns ss k _ _ (awV A ss k) hk (aBj hk) (aea.blk h (by simp) rfl (anT.of ⟨rfl,rfl,rfl,rfl,rfl,trivial⟩) (anT.of ⟨rfl,rfl,rfl,trivial⟩))
def zNd:Nd:=⟨0,false,[],[],[]⟩
def awm (op:Int):Bool:=(op==1)||((op==2)||(op==3))
def ndA (e:List Nd) (A:List (List Nat)) (k i:Nat):Nd:=e.getD ((A.getD k []).getD i 0) zNd
theorem aER {e:List Nd} {j:Nat} (h:j<e.length):List.drop (Int.toNat (j:Int)*5) (ndL e)=ndC (e.getD j zNd)++ndL (e.drop (j+1)):=by
 have h1:e=e.take j++e[j]::e.drop (j+1):=by simp
 have h2:e.getD j zNd=e[j]:=by rw [List.getD_eq_getElem?_getD,List.getElem?_eq_getElem h];rfl
 rw [h2]
 conv=>lhs;rw [h1]
 exact aCa (by rw [List.length_take];omega)
theorem awn {A:List (List Nat)} {k i m:Nat} (hb:∀ j ∈ A.getD k [],j<m) (h:i<(A.getD k []).length):(A.getD k []).getD i 0<m:=by rw [aHi h];exact hb _ (List.getElem_mem h)
theorem aZ8 (e:List Nd) (ne:Bool) (A:List (List Nat)) (sc:List Sc) (ns:Bool) (ss:List Nat) (k i:Nat) (a:List Nat) (rA:List AV) (j:Nat) (ri:List AV) (x:Nd) (rE:List AV) (hk:k<A.length) (ha:(List.drop ((Int.toNat (k:Int))*1) (aun A))= [aGZ a]++rA) (hl:i<a.length) (hi:(List.drop ((Int.toNat (i:Int))*1) (ad2 a))= [AV.int .i64 (j:Int)]++ri) (hj:j<e.length) (hE:(List.drop ((Int.toNat (j:Int))*5) (ndL e))=ndC x++rE):
  ad1 prog ap 98 [.ptr 0 0 0,.int .i64 (k:Int),.int .i64 (i:Int)] (wH e ne A sc ns ss) (.ret (.tup [.agg [.bool x.neg,.str x.num,.str x.den],.bool (awm x.op)])) (wH e ne A sc ns ss):=by
 rcases tf (x.op==((1:Nat):Int)) with b0|b0
 ·rw [show awm x.op=true from by unfold awm;rw [show (x.op==1)=true from b0];rfl]
  exact pK [] 2 3 (.k 5 (aeF b0) (.k 10 (nn0 j) (.c (dlt hj) (.k 1 (nn0 i) (.c (dlt hl) (.k 1 (nn0 k) (.c (dlt hk) (.n 2 .nil)))))))) (.v 23 (.ppt hE) (.v 21 (.ppt hi) (.v 18 (.ppt ha) .nil)))
 ·rcases tf (x.op==((2:Nat):Int)) with b1|b1
  ·rw [show awm x.op=true from by unfold awm;rw [show (x.op==1)=false from b0,show (x.op==2)=true from b1];rfl]
   exact pK [] 2 2 (.k 4 (aeF b1) (.k 1 (akx b0) (.k 10 (nn0 j) (.c (dlt hj) (.k 1 (nn0 i) (.c (dlt hl) (.k 1 (nn0 k) (.c (dlt hk) (.n 2 .nil))))))))) (.v 23 (.ppt hE) (.v 21 (.ppt hi) (.v 18 (.ppt ha) .nil)))
  ·rw [show awm x.op=(x.op==((3:Nat):Int)) from by unfold awm;rw [show (x.op==1)=false from b0,show (x.op==2)=false from b1];rfl]
   exact pK [] 2 0 (.k 5 (akx b1) (.k 1 (akx b0) (.k 10 (nn0 j) (.c (dlt hj) (.k 1 (nn0 i) (.c (dlt hl) (.k 1 (nn0 k) (.c (dlt hk) (.n 2 .nil))))))))) (.v 23 (.ppt hE) (.v 21 (.ppt hi) (.v 18 (.ppt ha) .nil)))
theorem aAj (e:List Nd) (ne:Bool) (A:List (List Nat)) (sc:List Sc) (ns:Bool) (ss:List Nat) (k i:Nat) (hk:k<A.length) (hi:i<(A.getD k []).length) (hj:(A.getD k []).getD i 0<e.length):
  ad1 prog ap 98 [.ptr 0 0 0,.int .i64 (k:Int),.int .i64 (i:Int)] (wH e ne A sc ns ss) (.ret (.tup [.agg [.bool (ndA e A k i).neg,.str (ndA e A k i).num,.str (ndA e A k i).den],.bool (awm (ndA e A k i).op)])) (wH e ne A sc ns ss):=
 aZ8 e ne A sc ns ss k i _ _ _ _ _ _ hk (aBj hk) hi (aAG hi) hj (aER hj)
def azY (neg:Bool) (s:Nat):Nat:=cond neg (axi s) s
theorem aKx (e:List Nd) (ne:Bool) (A:List (List Nat)) (sc:List Sc) (ns:Bool) (ss:List Nat) (k i:Nat) (x:Nd) (hk:k<A.length) (hi:i<(A.getD k []).length) (hj:(A.getD k []).getD i 0<ss.length):
  ad1 prog ap 99 [.ptr 0 0 0,.int .i64 (k:Int),.int .i64 (i:Int),.agg [.bool x.neg,.str x.num,.str x.den]] (wH e ne A sc ns ss) (.ret (.int .i64 ((azY x.neg (avP A ss k i):Nat):Int))) (wH e ne A sc ns ss):=by
 rcases tf x.neg with b0|b0
 ·rw [show azY x.neg (avP A ss k i)=axi (avP A ss k i) by unfold azY;rw [b0];rfl]
  exact pK [] 1 1 (.c (aeF b0) (.n 1 .nil)) (.c (aLI (avP A ss k i)) (.c (ayS e ne A sc ns ss k i hk hi hj) .nil))
 ·rw [show azY x.neg (avP A ss k i)=avP A ss k i by unfold azY;rw [b0];rfl]
  exact pK [] 1 0 (.c (akx b0) (.n 1 .nil)) (.c (ayS e ne A sc ns ss k i hk hi hj) .nil)
def aEP (e:List Nd) (A:List (List Nat)) (ss:List Nat) (k:Nat):Nat:=cond (awm (ndA e A k 0).op) (azY (ndA e A k 0).neg (avP A ss k 1)) (cond (awm (ndA e A k 1).op) (azY (ndA e A k 1).neg (avP A ss k 0)) 3)
def aEd (e:List Nd) (A:List (List Nat)) (ss:List Nat) (k:Nat):Nat:=cond (awm (ndA e A k 1).op) (cond (ayV (ndA e A k 1).neg (ndA e A k 1).num (ndA e A k 1).den==((0:Nat):Int)) 3 (azY (ndA e A k 1).neg (avP A ss k 0))) 3
def aG7 (A:List (List Nat)) (ss:List Nat) (k:Nat):Nat:=cond (((avP A ss k 0:Nat):Int)==((0:Nat):Int)) (avK (avP A ss k 1) (avP A ss k 2)) 3
theorem aU5 (e:List Nd) (ne:Bool) (A:List (List Nat)) (sc:List Sc) (ns:Bool) (ss:List Nat) (k:Nat) (hk:k<A.length) (hs:∀ j ∈ A.getD k [],j<ss.length) (he:∀ j ∈ A.getD k [],j<e.length) (h0:0<(A.getD k []).length) (h1:1<(A.getD k []).length):
  ad1 prog ap 64 [.ptr 0 0 0,.int .i64 (k:Int)] (wH e ne A sc ns ss) (.ret (.int .i64 ((aEP e A ss k:Nat):Int))) (wH e ne A sc ns ss):=by
 rcases tf (awm (ndA e A k 0).op) with b0|b0
 ·rw [show aEP e A ss k=azY (ndA e A k 0).neg (avP A ss k 1) by unfold aEP;rw [b0];rfl]
  exact pK [] 1 1 (.k 3 (aeF b0) (.n 1 .nil)) (.c (aKx e ne A sc ns ss k 1 (ndA e A k 0) hk h1 (awn hs h1)) (.c (aAj e ne A sc ns ss k 0 hk h0 (awn he h0)) .nil))
 ·rcases tf (awm (ndA e A k 1).op) with b1|b1
  ·rw [show aEP e A ss k=azY (ndA e A k 1).neg (avP A ss k 0) by unfold aEP;rw [b0,b1];rfl]
   exact pK [] 2 2 (.k 3 (aeF b1) (.k 1 (akx b0) (.n 1 .nil))) (.c (aKx e ne A sc ns ss k 0 (ndA e A k 1) hk h0 (awn hs h0)) (.c (aAj e ne A sc ns ss k 1 hk h1 (awn he h1)) (.c (aAj e ne A sc ns ss k 0 hk h0 (awn he h0)) .nil)))
  ·rw [show aEP e A ss k=3 by unfold aEP;rw [b0,b1];rfl]
   exact pK [] 2 0 (.c (akx b1) (.k 1 (akx b0) (.n 1 .nil))) (.c (aAj e ne A sc ns ss k 1 hk h1 (awn he h1)) (.c (aAj e ne A sc ns ss k 0 hk h0 (awn he h0)) .nil))
theorem aUz (e:List Nd) (ne:Bool) (A:List (List Nat)) (sc:List Sc) (ns:Bool) (ss:List Nat) (k:Nat) (hk:k<A.length) (hs:∀ j ∈ A.getD k [],j<ss.length) (he:∀ j ∈ A.getD k [],j<e.length) (h0:0<(A.getD k []).length) (h1:1<(A.getD k []).length) (hz:(ndA e A k 1).num.length<2^36∧(ndA e A k 1).den.length<2^36):
  ad1 prog ap 65 [.ptr 0 0 0,.int .i64 (k:Int)] (wH e ne A sc ns ss) (.ret (.int .i64 ((aEd e A ss k:Nat):Int))) (wH e ne A sc ns ss):=by
 rcases tf (awm (ndA e A k 1).op) with b0|b0
 ·rcases tf ((ayV (ndA e A k 1).neg (ndA e A k 1).num (ndA e A k 1).den)==((0:Nat):Int)) with b1|b1
  ·rw [show aEd e A ss k=3 by unfold aEd;rw [b0,b1];rfl]
   exact pK [] 2 1 (.c (anS b1) (.k 3 (aeF b0) (.n 1 .nil))) (.c (avk (ndA e A k 1).neg (ndA e A k 1).num (ndA e A k 1).den hz.1 hz.2) (.c (aAj e ne A sc ns ss k 1 hk h1 (awn he h1)) .nil))
  ·rw [show aEd e A ss k=azY (ndA e A k 1).neg (avP A ss k 0) by unfold aEd;rw [b0,b1];rfl]
   exact pK [] 2 3 (.k 3 (avg b1) (.k 3 (aeF b0) (.n 1 .nil))) (.c (aKx e ne A sc ns ss k 0 (ndA e A k 1) hk h0 (awn hs h0)) (.c (avk (ndA e A k 1).neg (ndA e A k 1).num (ndA e A k 1).den hz.1 hz.2) (.c (aAj e ne A sc ns ss k 1 hk h1 (awn he h1)) .nil)))
 ·rw [show aEd e A ss k=3 by unfold aEd;rw [b0];rfl]
  exact pK [] 2 0 (.k 1 (akx b0) (.n 1 .nil)) (.c (aAj e ne A sc ns ss k 1 hk h1 (awn he h1)) .nil)
theorem aUj (e:List Nd) (ne:Bool) (A:List (List Nat)) (sc:List Sc) (ns:Bool) (ss:List Nat) (k:Nat) (hk:k<A.length) (hs:∀ j ∈ A.getD k [],j<ss.length) (he:∀ j ∈ A.getD k [],j<e.length) (h0:0<(A.getD k []).length) (h1:1<(A.getD k []).length) (h2:2<(A.getD k []).length):
  ad1 prog ap 66 [.ptr 0 0 0,.int .i64 (k:Int)] (wH e ne A sc ns ss) (.ret (.int .i64 ((aG7 A ss k:Nat):Int))) (wH e ne A sc ns ss):=by
 rcases tf ((((avP A ss k 0):Nat):Int)==((0:Nat):Int)) with b0|b0
 ·rw [show aG7 A ss k=avK (avP A ss k 1) (avP A ss k 2) by unfold aG7;rw [b0];rfl]
  exact pK [] 1 0 (.c (anS b0) .nil) (.c (aHq (avP A ss k 1) (avP A ss k 2)) (.c (ayS e ne A sc ns ss k 2 hk h2 (awn hs h2)) (.c (ayS e ne A sc ns ss k 1 hk h1 (awn hs h1)) (.c (ayS e ne A sc ns ss k 0 hk h0 (awn hs h0)) .nil))))
 ·rw [show aG7 A ss k=3 by unfold aG7;rw [b0];rfl]
  exact pK [] 1 1 (.c (avg b0) .nil) (.c (ayS e ne A sc ns ss k 0 hk h0 (awn hs h0)) .nil)
theorem aV_ (e:List Nd) (ne:Bool) (A:List (List Nat)) (sc:List Sc) (ns:Bool) (ss:List Nat) (k:Nat) (hk:k<A.length) (hs:∀ j ∈ A.getD k [],j<ss.length) (he:∀ j ∈ A.getD k [],j<e.length) (h0:0<(A.getD k []).length) (h1:1<(A.getD k []).length):
  ad1 prog ap 63 [.ptr 0 0 0,.int .i64 (k:Int)] (wH e ne A sc ns ss) (.ret (.int .i64 ((avK (avP A ss k 0) (axi (avP A ss k 1)):Nat):Int))) (wH e ne A sc ns ss):=by
 exact pK [] 0 0 .nil (.c (aHq (avP A ss k 0) (axi (avP A ss k 1))) (.c (aLI (avP A ss k 1)) (.c (ayS e ne A sc ns ss k 1 hk h1 (awn hs h1)) (.c (ayS e ne A sc ns ss k 0 hk h0 (awn hs h0)) .nil))))
abbrev rH (e:List Nd) (ne:Bool) (A:List (List Nat)) (sc:List Sc) (ns:Bool) (ss:List Nat) (k:Nat):List Blk:= [⟨[.ptr 2 0 0],0,false,0,0,false⟩,⟨[.int .i64 (k:Int)],0,false,0,0,true⟩,⟨[.sl (ndL e) e.length ne,.sl (aun A) A.length true,.sl (scL sc) sc.length ns,.ref 3 0 0 ss.length],0,false,0,0,false⟩,⟨(ad2 ss),0,false,0,1,true⟩]
theorem aTj (e:List Nd) (ne:Bool) (A:List (List Nat)) (sc:List Sc) (ns:Bool) (ss:List Nat) (k:Nat) (x:Sc) (y:Nd) (rE:List AV) (hk:k<e.length) (hE:(List.drop ((Int.toNat (k:Int))*5) (ndL e))=ndC y++rE):
  ad1 prog ap 101 [.agg (scC x),.ptr 0 0 0,.ptr 1 0 0] (rH e ne A sc ns ss k) (.ret (.bool (x.name==y.name))) (rH e ne A sc ns ss k):=pK [] 0 0 (.k 1 (nn0 k) (.c (dlt hk) (.n 4 .nil))) (.v 12 (.ppt hE) .nil)
def aZq (e:List Nd) (ne:Bool) (A:List (List Nat)) (sc:List Sc) (ns:Bool) (ss:List Nat) (k:Nat) (p:Nat × Unit):St:=⟨[(0,.sl (scL sc) sc.length ns),(1,.fn 101 [] [.ptr 0 0 0,.ptr 1 0 0]),(7,.int .i64 (sc.length:Int)),(8,.int .i64 (p.1:Int))],[(0,⟨[.ptr 2 0 0],0,false,0,0,false⟩),(1,⟨[.int .i64 (k:Int)],0,false,0,0,true⟩),(2,⟨[.sl (ndL e) e.length ne,.sl (aun A) A.length true,.sl (scL sc) sc.length ns,.ref 3 0 0 ss.length],0,false,0,0,false⟩),(3,⟨(ad2 ss),0,false,0,1,true⟩)],.dead,[]⟩
def aTy (e:List Nd) (ne:Bool) (A:List (List Nat)) (sc:List Sc) (ns:Bool) (ss:List Nat) (k:Nat):Option Nat→St
 |none=> ⟨[(0,.sl (scL sc) sc.length ns)],[(0,⟨[.ptr 2 0 0],0,false,0,0,false⟩),(1,⟨[.int .i64 (k:Int)],0,false,0,0,true⟩),(2,⟨[.sl (ndL e) e.length ne,.sl (aun A) A.length true,.sl (scL sc) sc.length ns,.ref 3 0 0 ss.length],0,false,0,0,false⟩),(3,⟨(ad2 ss),0,false,0,1,true⟩)],.dead,[]⟩
 |some i=> ⟨[(4,.int .i64 (i:Int))],[(0,⟨[.ptr 2 0 0],0,false,0,0,false⟩),(1,⟨[.int .i64 (k:Int)],0,false,0,0,true⟩),(2,⟨[.sl (ndL e) e.length ne,.sl (aun A) A.length true,.sl (scL sc) sc.length ns,.ref 3 0 0 ss.length],0,false,0,0,false⟩),(3,⟨(ad2 ss),0,false,0,1,true⟩)],.dead,[]⟩
def ixE:Option Nat→an_
 |none=> .exit 0
 |some _=> .ret
def aHm (nm:List UInt8):List Sc→Nat→Option Nat
 | [],_=>none
 |x::r,i=>if x.name==nm then some i else aHm nm r (i+1)
theorem aRk {nt:Nat} (hn:19≤nt) (e:List Nd) (ne:Bool) (A:List (List Nat)) (sc:List Sc) (ns:Bool) (ss:List Nat) (k:Nat) (y:Nd) (rE:List AV) (hk:k<e.length) (hE:(List.drop ((Int.toNat (k:Int))*5) (ndL e))=ndC y++rE) (hsc:sc.length<2^40):∀ (r p:List Sc),p++r=sc→
  aea prog ap (rH e ne A sc ns ss k) nt (lT 0 (adW f100)) ixE (aZq e ne A sc ns ss k) (aTy e ne A sc ns ss k) (p.length,()) (aHm y.name r p.length):=by
 intro r
 induction r with
 |nil=>
  intro p hp
  rw [List.append_nil] at hp
  subst hp
  generalize hi:p.length=i
  have b0:(decide ((i:Int)<(p.length:Int)))=false:=decide_eq_false (by omega)
  exact .done (pN 100 [] 1 0 (.c (akx b0) .nil) (.nil) hn)
 | cons x r ih=>
  intro p hp
  have hx:(List.drop ((Int.toNat (p.length:Int))*4) (scL sc))=scC x++scL r:=by
   have hl:p.length<sc.length:=by rw [← hp];simp
   rw [aeb,aIZ hl]
   have h1:sc[p.length]=x:=by subst hp;simp
   have h2:sc.drop (p.length+1)=r:=by rw [← hp];simp
   rw [h1,h2]
  have hl:p.length<sc.length:=by rw [← hp];simp
  have hnx:=ih (p++ [x]) (by rw [← hp];simp)
  rw [List.length_append,List.length_singleton] at hnx
  unfold aHm
  generalize hi:p.length=i at*
  generalize scL r=rS at hx
  have b0:(decide ((i:Int)<(sc.length:Int)))=true:=decide_eq_true (by omega)
  have hw:i<2^62:=by omega
  rcases tf (x.name==y.name) with b1|b1
  ·rw [if_pos b1]
   exact .done (pN 100 [] 2 3 (.c (aeF b1) (.k 4 (nn0 i) (.c b0 (.c (aeF b0) .nil)))) (.c (aTj e ne A sc ns ss k x y rE hk hE) (.v 14 (.ppt hx) .nil)) hn)
  ·rw [if_neg (by rw [b1];decide)]
   exact .next (pN 100 [] 2 1 (.c (akx b1) (.k 4 (nn0 i) (.c b0 (.c (aeF b0) .nil)))) (.v 18 (.eq (wk1 hw)) (.c (aTj e ne A sc ns ss k x y rE hk hE) (.v 14 (.ppt hx) .nil))) hn) hnx
theorem aZs (e:List Nd) (ne:Bool) (A:List (List Nat)) (sc:List Sc) (ns:Bool) (ss:List Nat) (k:Nat) (l0:ajS prog ap (rH e ne A sc ns ss k) 19 (.block 0 (.loop (lT 0 (adW f100)))) ⟨[(0,.sl (scL sc) sc.length ns),(1,.fn 101 [] [.ptr 0 0 0,.ptr 1 0 0]),(4,.int .i64 0),(5,.dead),(7,.int .i64 (sc.length:Int)),(8,.int .i64 0),(9,.dead),(16,.dead)],[(0,⟨[.ptr 2 0 0],0,false,0,0,false⟩),(1,⟨[.int .i64 (k:Int)],0,false,0,0,true⟩),(2,⟨[.sl (ndL e) e.length ne,.sl (aun A) A.length true,.sl (scL sc) sc.length ns,.ref 3 0 0 ss.length],0,false,0,0,false⟩),(3,⟨(ad2 ss),0,false,0,1,true⟩)],.dead,[]⟩ (.normal) ⟨[(0,.sl (scL sc) sc.length ns)],[(0,⟨[.ptr 2 0 0],0,false,0,0,false⟩),(1,⟨[.int .i64 (k:Int)],0,false,0,0,true⟩),(2,⟨[.sl (ndL e) e.length ne,.sl (aun A) A.length true,.sl (scL sc) sc.length ns,.ref 3 0 0 ss.length],0,false,0,0,false⟩),(3,⟨(ad2 ss),0,false,0,1,true⟩)],.dead,[]⟩):
  ad1 prog ap 100 [.sl (scL sc) sc.length ns,(.fn 101 [] [.ptr 0 0 0,.ptr 1 0 0])] (rH e ne A sc ns ss k) (.ret (.int .i64 (-1))) (rH e ne A sc ns ss k):=pK [0] 0 0 .nil (.l l0 .nil)
theorem aZt (e:List Nd) (ne:Bool) (A:List (List Nat)) (sc:List Sc) (ns:Bool) (ss:List Nat) (k i:Nat) (l0:ajS prog ap (rH e ne A sc ns ss k) 19 (.block 0 (.loop (lT 0 (adW f100)))) ⟨[(0,.sl (scL sc) sc.length ns),(1,.fn 101 [] [.ptr 0 0 0,.ptr 1 0 0]),(4,.int .i64 0),(5,.dead),(7,.int .i64 (sc.length:Int)),(8,.int .i64 0),(9,.dead),(16,.dead)],[(0,⟨[.ptr 2 0 0],0,false,0,0,false⟩),(1,⟨[.int .i64 (k:Int)],0,false,0,0,true⟩),(2,⟨[.sl (ndL e) e.length ne,.sl (aun A) A.length true,.sl (scL sc) sc.length ns,.ref 3 0 0 ss.length],0,false,0,0,false⟩),(3,⟨(ad2 ss),0,false,0,1,true⟩)],.dead,[]⟩ (.ret) ⟨[(4,.int .i64 (i:Int))],[(0,⟨[.ptr 2 0 0],0,false,0,0,false⟩),(1,⟨[.int .i64 (k:Int)],0,false,0,0,true⟩),(2,⟨[.sl (ndL e) e.length ne,.sl (aun A) A.length true,.sl (scL sc) sc.length ns,.ref 3 0 0 ss.length],0,false,0,0,false⟩),(3,⟨(ad2 ss),0,false,0,1,true⟩)],.dead,[]⟩):
  ad1 prog ap 100 [.sl (scL sc) sc.length ns,(.fn 101 [] [.ptr 0 0 0,.ptr 1 0 0])] (rH e ne A sc ns ss k) (.ret (.int .i64 (i:Int))) (rH e ne A sc ns ss k):=pK [0] 0 0 .nil (.l l0 .nil)
def ixI:Option Nat→Int
 |none=> -1
 |some i=>(i:Int)
theorem aZr (e:List Nd) (ne:Bool) (A:List (List Nat)) (sc:List Sc) (ns:Bool) (ss:List Nat) (k:Nat) (hk:k<e.length) (hsc:sc.length<2^40):
  ad1 prog ap 100 [.sl (scL sc) sc.length ns,(.fn 101 [] [.ptr 0 0 0,.ptr 1 0 0])] (rH e ne A sc ns ss k) (.ret (.int .i64 (ixI (aHm (e.getD k zNd).name sc 0)))) (rH e ne A sc ns ss k):=by
 have h:∀ nt,19≤nt→aea prog ap (rH e ne A sc ns ss k) nt (lT 0 (adW f100)) ixE (aZq e ne A sc ns ss k) (aTy e ne A sc ns ss k) (0,()) (aHm (e.getD k zNd).name sc 0):=fun nt hn=>aRk hn e ne A sc ns ss k (e.getD k zNd) _ hk (aER hk) hsc sc [] rfl
 cases hq:aHm (e.getD k zNd).name sc 0 with
 |none=>
  rw [hq] at h
  exact aZs e ne A sc ns ss k (aea.blk h (by simp [ixE]) rfl (anT.of ⟨rfl,rfl,rfl,rfl,trivial⟩) (anT.of ⟨rfl,trivial⟩))
 |some i=>
  rw [hq] at h
  exact aZt e ne A sc ns ss k i (aea.blk h (by simp [ixE]) rfl (anT.of ⟨rfl,rfl,rfl,rfl,trivial⟩) (anT.of ⟨rfl,trivial⟩))
def aCc (ck:Sc→Int) (up:Sc→Bool) (nm:List UInt8) (sc:List Sc) (s:Nat):Nat:=match sc.find? (fun x=>x.name==nm) with
 |none=>3
 |some x=>cond (ck x==0) (cond (up x) s 3) 3
theorem aGp (nm:List UInt8):∀ (r:List Sc) (i:Nat),(aHm nm r i=none∧r.find? (fun x=>x.name==nm)=none)∨∃ j x,aHm nm r i=some (i+j)∧r[j]? =some x∧r.find? (fun x=>x.name==nm)=some x
 | [],_=> .inl ⟨rfl,rfl⟩
 | x::r,i=>by
  unfold aHm
  rw [List.find?_cons]
  rcases tf (x.name==nm) with h|h
  ·rw [if_pos h,h];exact .inr ⟨0,x,rfl,rfl,rfl⟩
  ·rw [if_neg (by rw [h];decide),h]
   rcases aGp nm r (i+1) with ⟨h1,h2⟩|⟨j,y,h1,h2,h3⟩
   ·exact .inl ⟨h1,h2⟩
   ·exact .inr ⟨j+1,y,by rw [h1];congr 1;omega,h2,h3⟩
theorem aVk (e:List Nd) (ne:Bool) (A:List (List Nat)) (sc:List Sc) (ns:Bool) (ss:List Nat) (k:Nat) (hq:ad1 prog ap 100 [.sl (scL sc) sc.length ns,(.fn 101 [] [.ptr 0 0 0,.ptr 1 0 0])] (rH e ne A sc ns ss k) (.ret (.int .i64 (-1))) (rH e ne A sc ns ss k)):
  ad1 prog ap 67 [.ptr 0 0 0,.int .i64 (k:Int)] (wH e ne A sc ns ss) (.ret (.int .i64 ((3:Nat):Int))) (wH e ne A sc ns ss):=pK [] 3 7 (.n 5 .nil) (.c hq .nil)
theorem aVl (e:List Nd) (ne:Bool) (A:List (List Nat)) (sc:List Sc) (ns:Bool) (ss:List Nat) (ck:Sc→Int) (up:Sc→Bool) (k p:Nat) (x:Sc) (rS:List AV) (hp:p<sc.length) (hxm:x ∈ sc) (hx:(List.drop ((Int.toNat (p:Int))*4) (scL sc))=scC x++rS) (hk:k<A.length) (hs:∀ j ∈ A.getD k [],j<ss.length) (h0:0<(A.getD k []).length) (hc:∀ x ∈ sc,CO 102 [.agg (scC x)] (.ret (.int .i64 (ck x)))∧(ck x=0→CO 103 [.agg (scC x)] (.ret (.bool (up x))))) (hq:ad1 prog ap 100 [.sl (scL sc) sc.length ns,(.fn 101 [] [.ptr 0 0 0,.ptr 1 0 0])] (rH e ne A sc ns ss k) (.ret (.int .i64 (p:Int))) (rH e ne A sc ns ss k)):
  ad1 prog ap 67 [.ptr 0 0 0,.int .i64 (k:Int)] (wH e ne A sc ns ss) (.ret (.int .i64 ((cond (ck x==0) (cond (up x) (avP A ss k 0) 3) 3:Nat):Int))) (wH e ne A sc ns ss):=by
 have bn:(decide ((p:Int)<((0:Nat):Int)))=false:=decide_eq_false (by omega)
 rcases tf ((ck x)==((0:Nat):Int)) with b0|b0
 ·rcases tf (up x) with b1|b1
  ·have b1z:ck x=0:=by simpa using b0
   rw [show cond (ck x==0) (cond (up x) (avP A ss k 0) 3) 3=avP A ss k 0 by rw [show (ck x==0)=true from b0];rw [b1];rfl]
   exact pK [] 3 0 (.k 2 (anS b1) (.k 4 (nn0 p) (.c (dlt hp) (.k 2 (anS b0) (.k 4 (nn0 p) (.c (dlt hp) (.k 2 (akx bn) (.n 2 .nil)))))))) (.c (ayS e ne A sc ns ss k 0 hk h0 (awn hs h0)) (.c ((hc x hxm).2 b1z) (.v 31 (.ppt hx) (.c (hc x hxm).1 (.v 20 (.ppt hx) (.c hq .nil))))))
  ·have b1z:ck x=0:=by simpa using b0
   rw [show cond (ck x==0) (cond (up x) (avP A ss k 0) 3) 3=3 by rw [show (ck x==0)=true from b0];rw [b1];rfl]
   exact pK [] 3 4 (.c (avg b1) (.k 4 (nn0 p) (.c (dlt hp) (.k 2 (anS b0) (.k 4 (nn0 p) (.c (dlt hp) (.k 2 (akx bn) (.n 2 .nil)))))))) (.c ((hc x hxm).2 b1z) (.v 31 (.ppt hx) (.c (hc x hxm).1 (.v 20 (.ppt hx) (.c hq .nil)))))
 ·rw [show cond (ck x==0) (cond (up x) (avP A ss k 0) 3) 3=3 by rw [show (ck x==0)=false from b0];rfl]
  exact pK [] 3 6 (.k 1 (avg b0) (.k 4 (nn0 p) (.c (dlt hp) (.k 2 (akx bn) (.n 2 .nil))))) (.c (hc x hxm).1 (.v 20 (.ppt hx) (.c hq .nil)))
theorem aSd (e:List Nd) (ne:Bool) (A:List (List Nat)) (sc:List Sc) (ns:Bool) (ss:List Nat) (ck:Sc→Int) (up:Sc→Bool) (k:Nat) (hk:k<A.length) (hke:k<e.length) (hsc:sc.length<2^40) (hs:∀ j ∈ A.getD k [],j<ss.length) (h0:0<(A.getD k []).length) (hc:∀ x ∈ sc,CO 102 [.agg (scC x)] (.ret (.int .i64 (ck x)))∧(ck x=0→CO 103 [.agg (scC x)] (.ret (.bool (up x))))):
  ad1 prog ap 67 [.ptr 0 0 0,.int .i64 (k:Int)] (wH e ne A sc ns ss) (.ret (.int .i64 ((aCc ck up (e.getD k zNd).name sc (avP A ss k 0):Nat):Int))) (wH e ne A sc ns ss):=by
 have h:=aZr e ne A sc ns ss k hke hsc
 unfold aCc
 rcases aGp (e.getD k zNd).name sc 0 with ⟨h1,h2⟩|⟨j,x,h1,h2,h3⟩
 ·rw [h2];rw [h1] at h
  exact aVk e ne A sc ns ss k h
 ·rw [h3];rw [h1,Nat.zero_add] at h
  obtain ⟨hj,hx⟩:=List.getElem?_eq_some_iff.1 h2
  exact aVl e ne A sc ns ss ck up k j x _ hj (List.mem_of_getElem? h2) (by rw [aeb,aIZ hj,hx]) hk hs h0 hc h
def avX (e:List Nd) (ne:Bool) (A:List (List Nat)) (sc:List Sc) (ns:Bool) (op:Int) (name:List UInt8) (p:Nat × List Nat):St:=⟨[(0,.sl (ndL e) e.length ne),(2,.int .i64 op),(3,.str name),(11,.ptr 0 0 0),(12,.mp [.int .i64 9,.int .i64 13,.int .i64 14,.int .i64 21,.int .i64 22,.int .i64 23,.int .i64 10,.int .i64 11,.int .i64 12,.int .i64 15,.int .i64 24] [.fn 39 [] [],.fn 39 [] [],.fn 39 [] [],.fn 39 [] [],.fn 39 [] [],.fn 39 [] [],.fn 63 [] [],.fn 64 [] [],.fn 65 [] [],.fn 66 [] [],.fn 67 [] []]),(41,.sl (ndL e) e.length ne),(42,.int .i64 (e.length:Int)),(43,.int .i64 (p.1:Int))],[(0,⟨[.sl (ndL e) e.length ne,.sl (aun A) A.length true,.sl (scL sc) sc.length ns,.ref 1 0 0 p.2.length],0,false,0,0,false⟩),(1,⟨(ad2 p.2),0,false,0,1,true⟩)],.dead,[]⟩
def aPC (e:List Nd) (ne:Bool) (A:List (List Nat)) (sc:List Sc) (ns:Bool) (ss:List Nat):St:=⟨[(0,.sl (ndL e) e.length ne),(11,.ptr 0 0 0)],[(0,⟨[.sl (ndL e) e.length ne,.sl (aun A) A.length true,.sl (scL sc) sc.length ns,.ref 1 0 0 ss.length],0,false,0,0,false⟩),(1,⟨(ad2 ss),0,false,0,1,true⟩)],.dead,[]⟩
def aPy (ck:Sc→Int) (up:Sc→Bool) (e:List Nd) (A:List (List Nat)) (sc:List Sc) (ss:List Nat) (k:Nat) (x:Nd):Nat:=
 if x.op=9∨x.op=13∨x.op=14∨x.op=21∨x.op=22∨x.op=23 then awV A ss k else if x.op=10 then avK (avP A ss k 0) (axi (avP A ss k 1)) else if x.op=11 then aEP e A ss k else if x.op=12 then aEd e A ss k else if x.op=15 then aG7 A ss k else if x.op=24 then aCc ck up x.name sc (avP A ss k 0) else 3
def aFm (ck:Sc→Int) (up:Sc→Bool) (e:List Nd) (A:List (List Nat)) (sc:List Sc) (op:Int) (name:List UInt8) (ss:List Nat) (k:Nat) (x:Nd):Nat:=
 cond (x.op==op && x.name==name) 1 (cond (((awV A ss k:Nat):Int)==((0:Nat):Int)) 0 (aPy ck up e A sc ss k x))
theorem uH (e:List Nd) (ne:Bool) (A:List (List Nat)) (sc:List Sc) (ns:Bool) (ss:List Nat):([some ⟨[.sl (ndL e) e.length ne,.sl (aun A) A.length true,.sl (scL sc) sc.length ns,.ref 2 0 0 ss.length],0,false,0,0,false⟩,some (sB ss)]:List (Option Blk))= [some ⟨[.sl (ndL e) e.length ne,.sl (aun A) A.length true,.sl (scL sc) sc.length ns,.ref 2 0 0 ss.length],0,false,0,0,false⟩,some (sB ss)]:=rfl
abbrev lkO (o:Int):AV:=aIE true (aBY [.int .i64 9,.int .i64 13,.int .i64 14,.int .i64 21,.int .i64 22,.int .i64 23,.int .i64 10,.int .i64 11,.int .i64 12,.int .i64 15,.int .i64 24] [.fn 39 [] [],.fn 39 [] [],.fn 39 [] [],.fn 39 [] [],.fn 39 [] [],.fn 39 [] [],.fn 63 [] [],.fn 64 [] [],.fn 65 [] [],.fn 66 [] [],.fn 67 [] []] (.int .i64 o)) .nilF
theorem awF {ss:List Nat} {k v:Nat} (h:k<ss.length):List.take ((0+(Int.toNat (k:Int)))*1) (ad2 ss)++ [AV.int .i64 (v:Int)]++List.drop (((0+(Int.toNat (k:Int)))*1)+1) (ad2 ss)=ad2 (ss.set k v):=by
 rw [aeb,Nat.zero_add,Nat.mul_one]
 unfold ad2
 rw [← List.map_take,← List.map_drop,List.set_eq_take_append_cons_drop,if_pos h,List.map_append,List.map_cons,List.append_assoc]
 rfl
theorem aOI {x:Nd} (h:x.op=9∨x.op=13∨x.op=14∨x.op=21∨x.op=22∨x.op=23):lkO x.op= .tup [.fn 39 [] [],.bool true]:=by rcases x with ⟨o,b,n,d,nm⟩;dsimp only at h ⊢;rcases h with h|h|h|h|h|h<;>subst h<;>rfl
theorem aON {x:Nd} (h:x.op=10):lkO x.op= .tup [.fn 63 [] [],.bool true]:=by rcases x with ⟨o,b,n,d,nm⟩;dsimp only at h ⊢;subst h;rfl
theorem aOL {x:Nd} (h:x.op=11):lkO x.op= .tup [.fn 64 [] [],.bool true]:=by rcases x with ⟨o,b,n,d,nm⟩;dsimp only at h ⊢;subst h;rfl
theorem aOK {x:Nd} (h:x.op=12):lkO x.op= .tup [.fn 65 [] [],.bool true]:=by rcases x with ⟨o,b,n,d,nm⟩;dsimp only at h ⊢;subst h;rfl
theorem aOJ {x:Nd} (h:x.op=15):lkO x.op= .tup [.fn 66 [] [],.bool true]:=by rcases x with ⟨o,b,n,d,nm⟩;dsimp only at h ⊢;subst h;rfl
theorem aLe {x:Nd} (h:x.op=24):lkO x.op= .tup [.fn 67 [] [],.bool true]:=by rcases x with ⟨o,b,n,d,nm⟩;dsimp only at h ⊢;subst h;rfl
theorem aOM {x:Nd} (h:¬ ((x.op=9∨x.op=13∨x.op=14∨x.op=21∨x.op=22∨x.op=23)∨(x.op=10)∨(x.op=11)∨(x.op=12)∨(x.op=15)∨(x.op=24))):lkO x.op= .tup [.nilF,.bool false]:=by
 rcases x with ⟨o,b,n,d,nm⟩
 dsimp only at h ⊢
 have hh:∀ c:Int,o ≠ c→(o==c)=false:=fun c hc=>beq_eq_false_iff_ne.2 hc
 simp only [lkO,aBY,eqK]
 rw [hh 9 (by intro q;exact h (by omega)),hh 13 (by intro q;exact h (by omega)),hh 14 (by intro q;exact h (by omega)),hh 21 (by intro q;exact h (by omega)),hh 22 (by intro q;exact h (by omega)),hh 23 (by intro q;exact h (by omega)),hh 10 (by intro q;exact h (by omega)),hh 11 (by intro q;exact h (by omega)),hh 12 (by intro q;exact h (by omega)),hh 15 (by intro q;exact h (by omega)),hh 24 (by intro q;exact h (by omega))]
 rfl
theorem a1I {nt:Nat} (hn:111≤nt) (e:List Nd) (ne:Bool) (A:List (List Nat)) (sc:List Sc) (ns:Bool) (ss:List Nat) (op:Int) (name:List UInt8) (k:Nat) (x:Nd) (rE:List AV) (hx:e.getD k zNd=x) (hE:(List.drop ((Int.toNat (k:Int))*5) (ndL e))=ndC x++rE) (hk:k<e.length) (hke:e.length<2^40) (hA:A.length=e.length) (hS:ss.length=e.length) (hlk:lkO x.op= .tup [.nilF,.bool false]) (b1:(x.op==op)=true) (b2:(x.name==name)=true):adY prog ap [] nt (lT 0 (adW f14)) (avX e ne A sc ns op name (k,ss)) .normal (avX e ne A sc ns op name (k+1,ss.set k 1)):=by
 have hks:k<ss.length:=by omega
 have hw:k<2^62:=by omega
 have h0:(decide ((k:Int)<(e.length:Int)))=true:=decide_eq_true (by omega)
 have hb:Nat.ble (((0+(Int.toNat (k:Int)))*1)+1) (List.length (ad2 ss))=true:=by rw [Nat.ble_eq,aeb];simp [ad2];omega
 unfold avX
 dsimp only
 rw [List.length_set,← awF hks]
 exact pN 14 [] 3 7 (.c hb (.c (nn0 k) (.c (dlt hks) (.k 1 (aeF b2) (.k 1 (aeF b1) (.k 10 (nn0 k) (.c h0 (.c (aeF h0) .nil)))))))) (.v 101 (.eq (wk1 hw)) (.v 52 (.eq hlk) (.v 46 (.ppt hE) .nil))) hn
theorem a1K {nt:Nat} (hn:111≤nt) (e:List Nd) (ne:Bool) (A:List (List Nat)) (sc:List Sc) (ns:Bool) (ss:List Nat) (op:Int) (name:List UInt8) (k:Nat) (x:Nd) (rE:List AV) (hx:e.getD k zNd=x) (hE:(List.drop ((Int.toNat (k:Int))*5) (ndL e))=ndC x++rE) (hk:k<e.length) (hke:e.length<2^40) (hA:A.length=e.length) (hS:ss.length=e.length) (hlk:lkO x.op= .tup [.nilF,.bool false]) (b1:(x.op==op)=true) (b2:(x.name==name)=false) (b3:((((awV A ss k):Nat):Int)==((0:Nat):Int))=true) (call_:ad1 prog ap 39 [.ptr 0 0 0,.int .i64 (k:Int)] (wH e ne A sc ns ss) (.ret (.int .i64 ((awV A ss k:Nat):Int))) (wH e ne A sc ns ss)):adY prog ap [] nt (lT 0 (adW f14)) (avX e ne A sc ns op name (k,ss)) .normal (avX e ne A sc ns op name (k+1,ss.set k 0)):=by
 have hks:k<ss.length:=by omega
 have hw:k<2^62:=by omega
 have h0:(decide ((k:Int)<(e.length:Int)))=true:=decide_eq_true (by omega)
 have hb:Nat.ble (((0+(Int.toNat (k:Int)))*1)+1) (List.length (ad2 ss))=true:=by rw [Nat.ble_eq,aeb];simp [ad2];omega
 unfold avX
 dsimp only
 rw [List.length_set,← awF hks]
 exact pN 14 [] 4 11 (.c hb (.c (nn0 k) (.c (dlt hks) (.k 1 (aeF b3) (.c (akx b2) (.k 1 (aeF b1) (.k 10 (nn0 k) (.c h0 (.c (aeF h0) .nil))))))))) (.v 101 (.eq (wk1 hw)) (.c call_ (.v 52 (.eq hlk) (.v 46 (.ppt hE) .nil)))) hn
theorem a1M {nt:Nat} (hn:111≤nt) (e:List Nd) (ne:Bool) (A:List (List Nat)) (sc:List Sc) (ns:Bool) (ss:List Nat) (op:Int) (name:List UInt8) (k:Nat) (x:Nd) (rE:List AV) (hx:e.getD k zNd=x) (hE:(List.drop ((Int.toNat (k:Int))*5) (ndL e))=ndC x++rE) (hk:k<e.length) (hke:e.length<2^40) (hA:A.length=e.length) (hS:ss.length=e.length) (hlk:lkO x.op= .tup [.nilF,.bool false]) (b1:(x.op==op)=false) (b3:((((awV A ss k):Nat):Int)==((0:Nat):Int))=true) (call_:ad1 prog ap 39 [.ptr 0 0 0,.int .i64 (k:Int)] (wH e ne A sc ns ss) (.ret (.int .i64 ((awV A ss k:Nat):Int))) (wH e ne A sc ns ss)):adY prog ap [] nt (lT 0 (adW f14)) (avX e ne A sc ns op name (k,ss)) .normal (avX e ne A sc ns op name (k+1,ss.set k 0)):=by
 have hks:k<ss.length:=by omega
 have hw:k<2^62:=by omega
 have h0:(decide ((k:Int)<(e.length:Int)))=true:=decide_eq_true (by omega)
 have hb:Nat.ble (((0+(Int.toNat (k:Int)))*1)+1) (List.length (ad2 ss))=true:=by rw [Nat.ble_eq,aeb];simp [ad2];omega
 unfold avX
 dsimp only
 rw [List.length_set,← awF hks]
 exact pN 14 [] 4 9 (.c hb (.c (nn0 k) (.c (dlt hks) (.k 1 (aeF b3) (.k 1 (akx b1) (.k 10 (nn0 k) (.c h0 (.c (aeF h0) .nil)))))))) (.v 101 (.eq (wk1 hw)) (.c call_ (.v 52 (.eq hlk) (.v 46 (.ppt hE) .nil)))) hn
theorem a1H {nt:Nat} (hn:111≤nt) (e:List Nd) (ne:Bool) (A:List (List Nat)) (sc:List Sc) (ns:Bool) (ss:List Nat) (op:Int) (name:List UInt8) (k:Nat) (x:Nd) (rE:List AV) (hx:e.getD k zNd=x) (hE:(List.drop ((Int.toNat (k:Int))*5) (ndL e))=ndC x++rE) (hk:k<e.length) (hke:e.length<2^40) (hA:A.length=e.length) (hS:ss.length=e.length) (f:Nat) (hlk:lkO x.op= .tup [.fn f [] [],.bool true]) (b1:(x.op==op)=true) (b2:(x.name==name)=true):adY prog ap [] nt (lT 0 (adW f14)) (avX e ne A sc ns op name (k,ss)) .normal (avX e ne A sc ns op name (k+1,ss.set k 1)):=by
 have hks:k<ss.length:=by omega
 have hw:k<2^62:=by omega
 have h0:(decide ((k:Int)<(e.length:Int)))=true:=decide_eq_true (by omega)
 have hb:Nat.ble (((0+(Int.toNat (k:Int)))*1)+1) (List.length (ad2 ss))=true:=by rw [Nat.ble_eq,aeb];simp [ad2];omega
 unfold avX
 dsimp only
 rw [List.length_set,← awF hks]
 exact pN 14 [] 3 7 (.c hb (.c (nn0 k) (.c (dlt hks) (.k 1 (aeF b2) (.k 1 (aeF b1) (.k 10 (nn0 k) (.c h0 (.c (aeF h0) .nil)))))))) (.v 101 (.eq (wk1 hw)) (.v 52 (.eq hlk) (.v 46 (.ppt hE) .nil))) hn
theorem a1J {nt:Nat} (hn:111≤nt) (e:List Nd) (ne:Bool) (A:List (List Nat)) (sc:List Sc) (ns:Bool) (ss:List Nat) (op:Int) (name:List UInt8) (k:Nat) (x:Nd) (rE:List AV) (hx:e.getD k zNd=x) (hE:(List.drop ((Int.toNat (k:Int))*5) (ndL e))=ndC x++rE) (hk:k<e.length) (hke:e.length<2^40) (hA:A.length=e.length) (hS:ss.length=e.length) (f:Nat) (hlk:lkO x.op= .tup [.fn f [] [],.bool true]) (b1:(x.op==op)=true) (b2:(x.name==name)=false) (b3:((((awV A ss k):Nat):Int)==((0:Nat):Int))=true) (call_:ad1 prog ap 39 [.ptr 0 0 0,.int .i64 (k:Int)] (wH e ne A sc ns ss) (.ret (.int .i64 ((awV A ss k:Nat):Int))) (wH e ne A sc ns ss)):adY prog ap [] nt (lT 0 (adW f14)) (avX e ne A sc ns op name (k,ss)) .normal (avX e ne A sc ns op name (k+1,ss.set k 0)):=by
 have hks:k<ss.length:=by omega
 have hw:k<2^62:=by omega
 have h0:(decide ((k:Int)<(e.length:Int)))=true:=decide_eq_true (by omega)
 have hb:Nat.ble (((0+(Int.toNat (k:Int)))*1)+1) (List.length (ad2 ss))=true:=by rw [Nat.ble_eq,aeb];simp [ad2];omega
 unfold avX
 dsimp only
 rw [List.length_set,← awF hks]
 exact pN 14 [] 4 11 (.c hb (.c (nn0 k) (.c (dlt hks) (.k 1 (aeF b3) (.c (akx b2) (.k 1 (aeF b1) (.k 10 (nn0 k) (.c h0 (.c (aeF h0) .nil))))))))) (.v 101 (.eq (wk1 hw)) (.c call_ (.v 52 (.eq hlk) (.v 46 (.ppt hE) .nil)))) hn
theorem a1L {nt:Nat} (hn:111≤nt) (e:List Nd) (ne:Bool) (A:List (List Nat)) (sc:List Sc) (ns:Bool) (ss:List Nat) (op:Int) (name:List UInt8) (k:Nat) (x:Nd) (rE:List AV) (hx:e.getD k zNd=x) (hE:(List.drop ((Int.toNat (k:Int))*5) (ndL e))=ndC x++rE) (hk:k<e.length) (hke:e.length<2^40) (hA:A.length=e.length) (hS:ss.length=e.length) (f:Nat) (hlk:lkO x.op= .tup [.fn f [] [],.bool true]) (b1:(x.op==op)=false) (b3:((((awV A ss k):Nat):Int)==((0:Nat):Int))=true) (call_:ad1 prog ap 39 [.ptr 0 0 0,.int .i64 (k:Int)] (wH e ne A sc ns ss) (.ret (.int .i64 ((awV A ss k:Nat):Int))) (wH e ne A sc ns ss)):adY prog ap [] nt (lT 0 (adW f14)) (avX e ne A sc ns op name (k,ss)) .normal (avX e ne A sc ns op name (k+1,ss.set k 0)):=by
 have hks:k<ss.length:=by omega
 have hw:k<2^62:=by omega
 have h0:(decide ((k:Int)<(e.length:Int)))=true:=decide_eq_true (by omega)
 have hb:Nat.ble (((0+(Int.toNat (k:Int)))*1)+1) (List.length (ad2 ss))=true:=by rw [Nat.ble_eq,aeb];simp [ad2];omega
 unfold avX
 dsimp only
 rw [List.length_set,← awF hks]
 exact pN 14 [] 4 9 (.c hb (.c (nn0 k) (.c (dlt hks) (.k 1 (aeF b3) (.k 1 (akx b1) (.k 10 (nn0 k) (.c h0 (.c (aeF h0) .nil)))))))) (.v 101 (.eq (wk1 hw)) (.c call_ (.v 52 (.eq hlk) (.v 46 (.ppt hE) .nil)))) hn
theorem aVT {nt:Nat} (hn:111≤nt) (e:List Nd) (ne:Bool) (A:List (List Nat)) (sc:List Sc) (ns:Bool) (ss:List Nat) (op:Int) (name:List UInt8) (k:Nat) (x:Nd) (rE:List AV) (hx:e.getD k zNd=x) (hE:(List.drop ((Int.toNat (k:Int))*5) (ndL e))=ndC x++rE) (hk:k<e.length) (hke:e.length<2^40) (hA:A.length=e.length) (hS:ss.length=e.length) (hlk:lkO x.op= .tup [.nilF,.bool false]) (hit:(x.op==op)=false∨(x.name==name)=false) (b3:((((awV A ss k):Nat):Int)==((0:Nat):Int))=false) (call_:ad1 prog ap 39 [.ptr 0 0 0,.int .i64 (k:Int)] (wH e ne A sc ns ss) (.ret (.int .i64 ((awV A ss k:Nat):Int))) (wH e ne A sc ns ss)):adY prog ap [] nt (lT 0 (adW f14)) (avX e ne A sc ns op name (k,ss)) .normal (avX e ne A sc ns op name (k+1,ss.set k (3))):=by
 have hks:k<ss.length:=by omega
 have hw:k<2^62:=by omega
 have h0:(decide ((k:Int)<(e.length:Int)))=true:=decide_eq_true (by omega)
 have hb:Nat.ble (((0+(Int.toNat (k:Int)))*1)+1) (List.length (ad2 ss))=true:=by rw [Nat.ble_eq,aeb];simp [ad2];omega
 unfold avX
 dsimp only
 rw [List.length_set,← awF hks]
 rcases tf (x.op==op) with b1|b1
 ·have b2:(x.name==name)=false:=by rcases hit with h|h;rw [h] at b1;cases b1;exact h
  exact pN 14 [] 5 3 (.c hb (.c (nn0 k) (.c (dlt hks) (.k 2 (akx b3) (.c (akx b2) (.k 1 (aeF b1) (.k 10 (nn0 k) (.c h0 (.c (aeF h0) .nil))))))))) (.v 101 (.eq (wk1 hw)) (.c call_ (.v 52 (.eq hlk) (.v 46 (.ppt hE) .nil)))) hn
 ·exact pN 14 [] 5 1 (.c hb (.c (nn0 k) (.c (dlt hks) (.k 2 (akx b3) (.k 1 (akx b1) (.k 10 (nn0 k) (.c h0 (.c (aeF h0) .nil)))))))) (.v 101 (.eq (wk1 hw)) (.c call_ (.v 52 (.eq hlk) (.v 46 (.ppt hE) .nil)))) hn
theorem aVO {nt:Nat} (hn:111≤nt) (e:List Nd) (ne:Bool) (A:List (List Nat)) (sc:List Sc) (ns:Bool) (ss:List Nat) (op:Int) (name:List UInt8) (k:Nat) (x:Nd) (rE:List AV) (hx:e.getD k zNd=x) (hE:(List.drop ((Int.toNat (k:Int))*5) (ndL e))=ndC x++rE) (hk:k<e.length) (hke:e.length<2^40) (hA:A.length=e.length) (hS:ss.length=e.length) (hlk:lkO x.op= .tup [.fn 39 [] [],.bool true]) (hit:(x.op==op)=false∨(x.name==name)=false) (b3:((((awV A ss k):Nat):Int)==((0:Nat):Int))=false) (call_:ad1 prog ap 39 [.ptr 0 0 0,.int .i64 (k:Int)] (wH e ne A sc ns ss) (.ret (.int .i64 ((awV A ss k:Nat):Int))) (wH e ne A sc ns ss)):adY prog ap [] nt (lT 0 (adW f14)) (avX e ne A sc ns op name (k,ss)) .normal (avX e ne A sc ns op name (k+1,ss.set k (awV A ss k))):=by
 have hks:k<ss.length:=by omega
 have hw:k<2^62:=by omega
 have h0:(decide ((k:Int)<(e.length:Int)))=true:=decide_eq_true (by omega)
 have hb:Nat.ble (((0+(Int.toNat (k:Int)))*1)+1) (List.length (ad2 ss))=true:=by rw [Nat.ble_eq,aeb];simp [ad2];omega
 unfold avX
 dsimp only
 rw [List.length_set,← awF hks]
 rcases tf (x.op==op) with b1|b1
 ·have b2:(x.name==name)=false:=by rcases hit with h|h;rw [h] at b1;cases b1;exact h
  exact pN 14 [] 5 19 (.c hb (.c (nn0 k) (.c (dlt hks) (.k 2 (akx b3) (.c (akx b2) (.k 1 (aeF b1) (.k 10 (nn0 k) (.c h0 (.c (aeF h0) .nil))))))))) (.v 101 (.eq (wk1 hw)) (.u 99 (uH e ne A sc ns ss) (.c call_ (.c call_ (.v 52 (.eq hlk) (.v 46 (.ppt hE) .nil)))))) hn
 ·exact pN 14 [] 5 17 (.c hb (.c (nn0 k) (.c (dlt hks) (.k 2 (akx b3) (.k 1 (akx b1) (.k 10 (nn0 k) (.c h0 (.c (aeF h0) .nil)))))))) (.v 101 (.eq (wk1 hw)) (.u 99 (uH e ne A sc ns ss) (.c call_ (.c call_ (.v 52 (.eq hlk) (.v 46 (.ppt hE) .nil)))))) hn
theorem aVU {nt:Nat} (hn:111≤nt) (e:List Nd) (ne:Bool) (A:List (List Nat)) (sc:List Sc) (ns:Bool) (ss:List Nat) (op:Int) (name:List UInt8) (k:Nat) (x:Nd) (rE:List AV) (hx:e.getD k zNd=x) (hE:(List.drop ((Int.toNat (k:Int))*5) (ndL e))=ndC x++rE) (hk:k<e.length) (hke:e.length<2^40) (hA:A.length=e.length) (hS:ss.length=e.length) (hlk:lkO x.op= .tup [.fn 63 [] [],.bool true]) (hit:(x.op==op)=false∨(x.name==name)=false) (b3:((((awV A ss k):Nat):Int)==((0:Nat):Int))=false) (call_:ad1 prog ap 39 [.ptr 0 0 0,.int .i64 (k:Int)] (wH e ne A sc ns ss) (.ret (.int .i64 ((awV A ss k:Nat):Int))) (wH e ne A sc ns ss)) (crule:ad1 prog ap 63 [.ptr 0 0 0,.int .i64 (k:Int)] (wH e ne A sc ns ss) (.ret (.int .i64 (((avK (avP A ss k 0) (axi (avP A ss k 1))):Nat):Int))) (wH e ne A sc ns ss)):adY prog ap [] nt (lT 0 (adW f14)) (avX e ne A sc ns op name (k,ss)) .normal (avX e ne A sc ns op name (k+1,ss.set k (avK (avP A ss k 0) (axi (avP A ss k 1))))):=by
 have hks:k<ss.length:=by omega
 have hw:k<2^62:=by omega
 have h0:(decide ((k:Int)<(e.length:Int)))=true:=decide_eq_true (by omega)
 have hb:Nat.ble (((0+(Int.toNat (k:Int)))*1)+1) (List.length (ad2 ss))=true:=by rw [Nat.ble_eq,aeb];simp [ad2];omega
 unfold avX
 dsimp only
 rw [List.length_set,← awF hks]
 rcases tf (x.op==op) with b1|b1
 ·have b2:(x.name==name)=false:=by rcases hit with h|h;rw [h] at b1;cases b1;exact h
  exact pN 14 [] 5 19 (.c hb (.c (nn0 k) (.c (dlt hks) (.k 2 (akx b3) (.c (akx b2) (.k 1 (aeF b1) (.k 10 (nn0 k) (.c h0 (.c (aeF h0) .nil))))))))) (.v 101 (.eq (wk1 hw)) (.u 99 (uH e ne A sc ns ss) (.c crule (.c call_ (.v 52 (.eq hlk) (.v 46 (.ppt hE) .nil)))))) hn
 ·exact pN 14 [] 5 17 (.c hb (.c (nn0 k) (.c (dlt hks) (.k 2 (akx b3) (.k 1 (akx b1) (.k 10 (nn0 k) (.c h0 (.c (aeF h0) .nil)))))))) (.v 101 (.eq (wk1 hw)) (.u 99 (uH e ne A sc ns ss) (.c crule (.c call_ (.v 52 (.eq hlk) (.v 46 (.ppt hE) .nil)))))) hn
theorem aVS {nt:Nat} (hn:111≤nt) (e:List Nd) (ne:Bool) (A:List (List Nat)) (sc:List Sc) (ns:Bool) (ss:List Nat) (op:Int) (name:List UInt8) (k:Nat) (x:Nd) (rE:List AV) (hx:e.getD k zNd=x) (hE:(List.drop ((Int.toNat (k:Int))*5) (ndL e))=ndC x++rE) (hk:k<e.length) (hke:e.length<2^40) (hA:A.length=e.length) (hS:ss.length=e.length) (hlk:lkO x.op= .tup [.fn 64 [] [],.bool true]) (hit:(x.op==op)=false∨(x.name==name)=false) (b3:((((awV A ss k):Nat):Int)==((0:Nat):Int))=false) (call_:ad1 prog ap 39 [.ptr 0 0 0,.int .i64 (k:Int)] (wH e ne A sc ns ss) (.ret (.int .i64 ((awV A ss k:Nat):Int))) (wH e ne A sc ns ss)) (crule:ad1 prog ap 64 [.ptr 0 0 0,.int .i64 (k:Int)] (wH e ne A sc ns ss) (.ret (.int .i64 (((aEP e A ss k):Nat):Int))) (wH e ne A sc ns ss)):adY prog ap [] nt (lT 0 (adW f14)) (avX e ne A sc ns op name (k,ss)) .normal (avX e ne A sc ns op name (k+1,ss.set k (aEP e A ss k))):=by
 have hks:k<ss.length:=by omega
 have hw:k<2^62:=by omega
 have h0:(decide ((k:Int)<(e.length:Int)))=true:=decide_eq_true (by omega)
 have hb:Nat.ble (((0+(Int.toNat (k:Int)))*1)+1) (List.length (ad2 ss))=true:=by rw [Nat.ble_eq,aeb];simp [ad2];omega
 unfold avX
 dsimp only
 rw [List.length_set,← awF hks]
 rcases tf (x.op==op) with b1|b1
 ·have b2:(x.name==name)=false:=by rcases hit with h|h;rw [h] at b1;cases b1;exact h
  exact pN 14 [] 5 19 (.c hb (.c (nn0 k) (.c (dlt hks) (.k 2 (akx b3) (.c (akx b2) (.k 1 (aeF b1) (.k 10 (nn0 k) (.c h0 (.c (aeF h0) .nil))))))))) (.v 101 (.eq (wk1 hw)) (.u 99 (uH e ne A sc ns ss) (.c crule (.c call_ (.v 52 (.eq hlk) (.v 46 (.ppt hE) .nil)))))) hn
 ·exact pN 14 [] 5 17 (.c hb (.c (nn0 k) (.c (dlt hks) (.k 2 (akx b3) (.k 1 (akx b1) (.k 10 (nn0 k) (.c h0 (.c (aeF h0) .nil)))))))) (.v 101 (.eq (wk1 hw)) (.u 99 (uH e ne A sc ns ss) (.c crule (.c call_ (.v 52 (.eq hlk) (.v 46 (.ppt hE) .nil)))))) hn
theorem aVQ {nt:Nat} (hn:111≤nt) (e:List Nd) (ne:Bool) (A:List (List Nat)) (sc:List Sc) (ns:Bool) (ss:List Nat) (op:Int) (name:List UInt8) (k:Nat) (x:Nd) (rE:List AV) (hx:e.getD k zNd=x) (hE:(List.drop ((Int.toNat (k:Int))*5) (ndL e))=ndC x++rE) (hk:k<e.length) (hke:e.length<2^40) (hA:A.length=e.length) (hS:ss.length=e.length) (hlk:lkO x.op= .tup [.fn 65 [] [],.bool true]) (hit:(x.op==op)=false∨(x.name==name)=false) (b3:((((awV A ss k):Nat):Int)==((0:Nat):Int))=false) (call_:ad1 prog ap 39 [.ptr 0 0 0,.int .i64 (k:Int)] (wH e ne A sc ns ss) (.ret (.int .i64 ((awV A ss k:Nat):Int))) (wH e ne A sc ns ss)) (crule:ad1 prog ap 65 [.ptr 0 0 0,.int .i64 (k:Int)] (wH e ne A sc ns ss) (.ret (.int .i64 (((aEd e A ss k):Nat):Int))) (wH e ne A sc ns ss)):adY prog ap [] nt (lT 0 (adW f14)) (avX e ne A sc ns op name (k,ss)) .normal (avX e ne A sc ns op name (k+1,ss.set k (aEd e A ss k))):=by
 have hks:k<ss.length:=by omega
 have hw:k<2^62:=by omega
 have h0:(decide ((k:Int)<(e.length:Int)))=true:=decide_eq_true (by omega)
 have hb:Nat.ble (((0+(Int.toNat (k:Int)))*1)+1) (List.length (ad2 ss))=true:=by rw [Nat.ble_eq,aeb];simp [ad2];omega
 unfold avX
 dsimp only
 rw [List.length_set,← awF hks]
 rcases tf (x.op==op) with b1|b1
 ·have b2:(x.name==name)=false:=by rcases hit with h|h;rw [h] at b1;cases b1;exact h
  exact pN 14 [] 5 19 (.c hb (.c (nn0 k) (.c (dlt hks) (.k 2 (akx b3) (.c (akx b2) (.k 1 (aeF b1) (.k 10 (nn0 k) (.c h0 (.c (aeF h0) .nil))))))))) (.v 101 (.eq (wk1 hw)) (.u 99 (uH e ne A sc ns ss) (.c crule (.c call_ (.v 52 (.eq hlk) (.v 46 (.ppt hE) .nil)))))) hn
 ·exact pN 14 [] 5 17 (.c hb (.c (nn0 k) (.c (dlt hks) (.k 2 (akx b3) (.k 1 (akx b1) (.k 10 (nn0 k) (.c h0 (.c (aeF h0) .nil)))))))) (.v 101 (.eq (wk1 hw)) (.u 99 (uH e ne A sc ns ss) (.c crule (.c call_ (.v 52 (.eq hlk) (.v 46 (.ppt hE) .nil)))))) hn
theorem aVP {nt:Nat} (hn:111≤nt) (e:List Nd) (ne:Bool) (A:List (List Nat)) (sc:List Sc) (ns:Bool) (ss:List Nat) (op:Int) (name:List UInt8) (k:Nat) (x:Nd) (rE:List AV) (hx:e.getD k zNd=x) (hE:(List.drop ((Int.toNat (k:Int))*5) (ndL e))=ndC x++rE) (hk:k<e.length) (hke:e.length<2^40) (hA:A.length=e.length) (hS:ss.length=e.length) (hlk:lkO x.op= .tup [.fn 66 [] [],.bool true]) (hit:(x.op==op)=false∨(x.name==name)=false) (b3:((((awV A ss k):Nat):Int)==((0:Nat):Int))=false) (call_:ad1 prog ap 39 [.ptr 0 0 0,.int .i64 (k:Int)] (wH e ne A sc ns ss) (.ret (.int .i64 ((awV A ss k:Nat):Int))) (wH e ne A sc ns ss)) (crule:ad1 prog ap 66 [.ptr 0 0 0,.int .i64 (k:Int)] (wH e ne A sc ns ss) (.ret (.int .i64 (((aG7 A ss k):Nat):Int))) (wH e ne A sc ns ss)):adY prog ap [] nt (lT 0 (adW f14)) (avX e ne A sc ns op name (k,ss)) .normal (avX e ne A sc ns op name (k+1,ss.set k (aG7 A ss k))):=by
 have hks:k<ss.length:=by omega
 have hw:k<2^62:=by omega
 have h0:(decide ((k:Int)<(e.length:Int)))=true:=decide_eq_true (by omega)
 have hb:Nat.ble (((0+(Int.toNat (k:Int)))*1)+1) (List.length (ad2 ss))=true:=by rw [Nat.ble_eq,aeb];simp [ad2];omega
 unfold avX
 dsimp only
 rw [List.length_set,← awF hks]
 rcases tf (x.op==op) with b1|b1
 ·have b2:(x.name==name)=false:=by rcases hit with h|h;rw [h] at b1;cases b1;exact h
  exact pN 14 [] 5 19 (.c hb (.c (nn0 k) (.c (dlt hks) (.k 2 (akx b3) (.c (akx b2) (.k 1 (aeF b1) (.k 10 (nn0 k) (.c h0 (.c (aeF h0) .nil))))))))) (.v 101 (.eq (wk1 hw)) (.u 99 (uH e ne A sc ns ss) (.c crule (.c call_ (.v 52 (.eq hlk) (.v 46 (.ppt hE) .nil)))))) hn
 ·exact pN 14 [] 5 17 (.c hb (.c (nn0 k) (.c (dlt hks) (.k 2 (akx b3) (.k 1 (akx b1) (.k 10 (nn0 k) (.c h0 (.c (aeF h0) .nil)))))))) (.v 101 (.eq (wk1 hw)) (.u 99 (uH e ne A sc ns ss) (.c crule (.c call_ (.v 52 (.eq hlk) (.v 46 (.ppt hE) .nil)))))) hn
theorem aSA {nt:Nat} (hn:111≤nt) (e:List Nd) (ne:Bool) (A:List (List Nat)) (sc:List Sc) (ns:Bool) (ss:List Nat) (op:Int) (name:List UInt8) (k:Nat) (x:Nd) (rE:List AV) (hx:e.getD k zNd=x) (hE:(List.drop ((Int.toNat (k:Int))*5) (ndL e))=ndC x++rE) (hk:k<e.length) (hke:e.length<2^40) (hA:A.length=e.length) (hS:ss.length=e.length) (ck:Sc→Int) (up:Sc→Bool) (hlk:lkO x.op= .tup [.fn 67 [] [],.bool true]) (hit:(x.op==op)=false∨(x.name==name)=false) (b3:((((awV A ss k):Nat):Int)==((0:Nat):Int))=false) (call_:ad1 prog ap 39 [.ptr 0 0 0,.int .i64 (k:Int)] (wH e ne A sc ns ss) (.ret (.int .i64 ((awV A ss k:Nat):Int))) (wH e ne A sc ns ss)) (crule:ad1 prog ap 67 [.ptr 0 0 0,.int .i64 (k:Int)] (wH e ne A sc ns ss) (.ret (.int .i64 (((aCc ck up x.name sc (avP A ss k 0)):Nat):Int))) (wH e ne A sc ns ss)):adY prog ap [] nt (lT 0 (adW f14)) (avX e ne A sc ns op name (k,ss)) .normal (avX e ne A sc ns op name (k+1,ss.set k (aCc ck up x.name sc (avP A ss k 0)))):=by
 have hks:k<ss.length:=by omega
 have hw:k<2^62:=by omega
 have h0:(decide ((k:Int)<(e.length:Int)))=true:=decide_eq_true (by omega)
 have hb:Nat.ble (((0+(Int.toNat (k:Int)))*1)+1) (List.length (ad2 ss))=true:=by rw [Nat.ble_eq,aeb];simp [ad2];omega
 unfold avX
 dsimp only
 rw [List.length_set,← awF hks]
 rcases tf (x.op==op) with b1|b1
 ·have b2:(x.name==name)=false:=by rcases hit with h|h;rw [h] at b1;cases b1;exact h
  exact pN 14 [] 5 19 (.c hb (.c (nn0 k) (.c (dlt hks) (.k 2 (akx b3) (.c (akx b2) (.k 1 (aeF b1) (.k 10 (nn0 k) (.c h0 (.c (aeF h0) .nil))))))))) (.v 101 (.eq (wk1 hw)) (.u 99 (uH e ne A sc ns ss) (.c crule (.c call_ (.v 52 (.eq hlk) (.v 46 (.ppt hE) .nil)))))) hn
 ·exact pN 14 [] 5 17 (.c hb (.c (nn0 k) (.c (dlt hks) (.k 2 (akx b3) (.k 1 (akx b1) (.k 10 (nn0 k) (.c h0 (.c (aeF h0) .nil)))))))) (.v 101 (.eq (wk1 hw)) (.u 99 (uH e ne A sc ns ss) (.c crule (.c call_ (.v 52 (.eq hlk) (.v 46 (.ppt hE) .nil)))))) hn
theorem aVR {nt:Nat} (hn:111≤nt) (e:List Nd) (ne:Bool) (A:List (List Nat)) (sc:List Sc) (ns:Bool) (ss:List Nat) (op:Int) (name:List UInt8):adY prog ap [] nt (lT 0 (adW f14)) (avX e ne A sc ns op name (e.length,ss)) (.exit 0) (aPC e ne A sc ns ss):=by
 have h0:(decide ((e.length:Int)<(e.length:Int)))=false:=decide_eq_false (by omega)
 exact pN 14 [] 1 0 (.c (akx h0) .nil) (.nil) hn
end Go.Proofs.Tryz
open Go AM
namespace Go.Proofs.Tryz
theorem aF4:∀ (r:List Nd) (k:Nat) (st:List Nat),(∀ j ∈ st,j<k)→(∃ e,au0 r st.length= .inl e)→(aBi r k st).length=r.length∧∀ i x,r[i]? =some x→((aBi r k st).getD i []).length=arI x.op∧∀ j ∈ (aBi r k st).getD i [],j<k+i
 | [],k,st,_,_=> ⟨rfl,fun i x h=>by simp at h⟩
 | x ::r,k,st,hst,⟨e,he⟩=>by
  simp only [au0] at he
  split at he
  ·split at he
   ·cases he
   ·rename_i h1 h2
    have h3:(st.take (st.length - arI x.op)++ [k]).length=st.length - arI x.op+1:=by rw [List.length_append,List.length_take,List.length_singleton];omega
    have ih:=aF4 r (k+1) (st.take (st.length - arI x.op)++ [k]) (by
     intro j hj
     rcases List.mem_append.1 hj with hj|hj
     ·have:=hst j (List.mem_of_mem_take hj);omega
     ·rw [List.mem_singleton.1 hj];omega) ⟨e,by rw [h3];exact he⟩
    refine ⟨by simp only [aBi,List.length_cons,ih.1], ?_⟩
    intro i y hy
    cases i with
    |zero=>
     simp only [List.getElem?_cons_zero,Option.some.injEq] at hy
     subst hy
     simp only [aBi,List.getD_cons_zero]
     refine ⟨by rw [List.length_drop];omega,fun j hj=> ?_⟩
     have:=hst j (List.mem_of_mem_drop hj);omega
    |succ i=>
     simp only [List.getElem?_cons_succ] at hy
     obtain ⟨h4,h5⟩:=ih.2 i y hy
     simp only [aBi,List.getD_cons_succ]
     exact ⟨h4,fun j hj=>by have:=h5 j hj;omega⟩
  ·cases he
theorem aG6:∀ (r:List Nd) (d:Nat) (w:Int),au0 r d= .inr w→w ≠ 0
 | [],d,w,h=>by simp [au0] at h
 | x::r,d,w,h=>by
  simp only [au0] at h
  split at h
  ·split at h
   ·cases h;decide
   ·exact aG6 r _ w h
  ·rename_i hx
   cases h;exact hx
theorem aD2 {e:List Nd} (hc:aud e=0):(avy e).length=e.length∧∀ i x,e[i]? =some x→((avy e).getD i []).length=arI x.op∧∀ j ∈ (avy e).getD i [],j<i:=by
 have h:∃ d,au0 e ([]:List Nat).length= .inl d:=by
  unfold aud at hc
  split at hc
  ·cases hc
  ·split at hc
   ·rename_i d hd;exact ⟨d,hd⟩
   ·rename_i w hw
    exact absurd hc (aG6 _ _ _ hw)
 obtain ⟨h1,h2⟩:=aF4 e 0 [] (by simp) h
 exact ⟨h1,fun i x hx=>by have:=h2 i x hx;rw [Nat.zero_add] at this;exact this⟩
end Go.Proofs.Tryz
set_option maxRecDepth 100000
open Go AM
namespace Go.Proofs.Tryz
theorem wkn {n n1:Nat} (h:n=n1+1) (hk:n<2^40):AV.int .i64 (IntKind.wrap .i64 ((n:Int) - ((1:Nat):Int)))= .int .i64 (n1:Int):=by rw [auI]<;>first|(congr 1;omega)|omega
theorem deq (n:Nat):decide ((n:Int)=(n:Int))=true:=decide_eq_true rfl
theorem dle {n:Nat} (h:n<2^40):decide ((n:Int)≤((1099511627776:Nat):Int))=true:=decide_eq_true (by omega)
theorem aPz:CO 38 [] (.ret (.mp [.int .i64 9,.int .i64 13,.int .i64 14,.int .i64 21,.int .i64 22,.int .i64 23,.int .i64 10,.int .i64 11,.int .i64 12,.int .i64 15,.int .i64 24] [.fn 39 [] [],.fn 39 [] [],.fn 39 [] [],.fn 39 [] [],.fn 39 [] [],.fn 39 [] [],.fn 63 [] [],.fn 64 [] [],.fn 65 [] [],.fn 66 [] [],.fn 67 [] []])):=cK .nil
theorem aH9 (l:List Nd) (nn:Bool) (hsm:∀ x ∈ l,x.sm) (hc:aud l=0):CO 37 [.sl (ndL l) l.length nn] (.ret (.tup [.sl (aun (avy l)) (avy l).length true,.bool true])):=by
 rw [(aD2 hc).1];exact aQu l nn hsm hc
theorem a1N (e:List Nd) (ne:Bool) (A:List (List Nat)) (sc:List Sc) (ns:Bool) (ss:List Nat) (op:Int) (name:List UInt8) (ca:CO 37 [.sl (ndL e) e.length ne] (.ret (.tup [.nilS,.bool false]))):CO 14 [.sl (ndL e) e.length ne,.sl (scL sc) sc.length ns,.int .i64 op,.str name] (.ret (.int .i64 ((3:Nat):Int))):=pK [] 3 7 (.n 3 .nil) (.c ca .nil)
theorem aVV (e:List Nd) (ne:Bool) (A:List (List Nat)) (sc:List Sc) (ns:Bool) (ss:List Nat) (op:Int) (name:List UInt8) (ca:CO 37 [.sl (ndL e) e.length ne] (.ret (.tup [.sl (aun A) A.length true,.bool true]))) (ho:op<5∨8<op):CO 14 [.sl (ndL e) e.length ne,.sl (scL sc) sc.length ns,.int .i64 op,.str name] (.ret (.int .i64 ((3:Nat):Int))):=by
 rcases tf (decide (op<((5:Nat):Int))) with b0|b0
 ·exact pK [] 3 6 (.k 1 (aeF b0) (.n 1 .nil)) (.c ca .nil)
 ·have b1:(decide (((8:Nat):Int)<op))=true:=decide_eq_true (by have:=of_decide_eq_false b0;omega)
  exact pK [] 3 4 (.c (aeF b1) (.c (akx b0) (.n 1 .nil))) (.c ca .nil)
theorem a1O (e:List Nd) (ne:Bool) (A:List (List Nat)) (sc:List Sc) (ns:Bool) (ss:List Nat) (op:Int) (name:List UInt8) (n1 s:Nat) (rs:List AV) (ca:CO 37 [.sl (ndL e) e.length ne] (.ret (.tup [.sl (aun A) A.length true,.bool true]))) (b0:(decide (op<((5:Nat):Int)))=false) (b1:(decide (((8:Nat):Int)<op))=false) (hn1:e.length=n1+1) (hke:e.length<2^40) (hns:n1<ss.length) (hs:(List.drop ((0+(Int.toNat (n1:Int)))*1) (ad2 ss))= [AV.int .i64 (s:Int)]++rs)
  (m0:Nat) (Z:List AV) (hm0:m0=Int.toNat (e.length:Int)) (hZ:Z=awc (Int.toNat (e.length:Int)) [.int .i64 0])
  (l0:ajS prog ap [] 111 (.block 0 (.loop (lT 0 (adW f14)))) ⟨[(0,.sl (ndL e) e.length ne),(1,.sl (scL sc) sc.length ns),(2,.int .i64 op),(3,.str name),(8,.int .i64 0),(9,.sl (aun A) A.length true),(10,.bool true),(11,.ptr 0 0 0),(12,.mp [.int .i64 9,.int .i64 13,.int .i64 14,.int .i64 21,.int .i64 22,.int .i64 23,.int .i64 10,.int .i64 11,.int .i64 12,.int .i64 15,.int .i64 24] [.fn 39 [] [],.fn 39 [] [],.fn 39 [] [],.fn 39 [] [],.fn 39 [] [],.fn 39 [] [],.fn 63 [] [],.fn 64 [] [],.fn 65 [] [],.fn 66 [] [],.fn 67 [] []]),(13,.dead),(14,.dead),(15,.dead),(16,.dead),(31,.bool (decide (((8:Nat):Int)<op))),(41,.sl (ndL e) e.length ne),(42,.int .i64 (e.length:Int)),(43,.int .i64 0),(44,.dead),(61,.dead),(78,.dead),(89,.dead)],[(0,⟨[.sl (ndL e) e.length ne,.sl (aun A) A.length true,.sl (scL sc) sc.length ns,.ref 1 0 0 m0],0,false,0,0,false⟩),(1,⟨Z,0,false,0,1,true⟩)],.dead,[]⟩ (.normal) ⟨[(0,.sl (ndL e) e.length ne),(11,.ptr 0 0 0)],[(0,⟨[.sl (ndL e) e.length ne,.sl (aun A) A.length true,.sl (scL sc) sc.length ns,.ref 1 0 0 ss.length],0,false,0,0,false⟩),(1,⟨(ad2 ss),0,false,0,1,true⟩)],.dead,[]⟩):CO 14 [.sl (ndL e) e.length ne,.sl (scL sc) sc.length ns,.int .i64 op,.str name] (.ret (.int .i64 (s:Int))):=by
 subst hm0 hZ
 exact pK [0] 3 0 (.a (aNH [.int .i64] hs rfl) (.c (nn0 n1) (.c (dlt hns) (.k 1 (nn0 e.length) (.c (deq e.length) (.c (dle hke) (.c (akx b1) (.c (akx b0) (.n 1 .nil))))))))) (.v 110 (.rd1 (.int .i64) hs rfl) (.v 108 (.eq (wkn hn1 hke)) (.l l0 (.c aPz (.c ca .nil)))))
def aBc (ck:Sc→Int) (up:Sc→Bool) (e:List Nd) (A:List (List Nat)) (sc:List Sc) (op:Int) (name:List UInt8):List Nd→Nat→List Nat→List Nat
 | [],_,ss=>ss
 |x::r,k,ss=>aBc ck up e A sc op name r (k+1) (ss.set k (aFm ck up e A sc op name ss k x))
theorem aGJ (ck:Sc→Int) (up:Sc→Bool) (e:List Nd) (A:List (List Nat)) (sc:List Sc) (op:Int) (name:List UInt8):∀ (r:List Nd) (k:Nat) (ss:List Nat),(aBc ck up e A sc op name r k ss).length=ss.length
 | [],_,_=>rfl
 |x::r,k,ss=>by simp only [aBc,aGJ ck up e A sc op name r,List.length_set]
def ave (ck:Sc→Int) (up:Sc→Bool) (e:List Nd) (sc:List Sc) (op:Int) (name:List UInt8):Nat:=
 if aud e=0∧5≤op∧op≤8 then (aBc ck up e (avy e) sc op name e 0 (List.replicate e.length 0)).getD (e.length - 1) 0 else 3
theorem aSB {nt:Nat} (hn:111≤nt) (e:List Nd) (ne:Bool) (sc:List Sc) (ns:Bool) (ss:List Nat) (ck:Sc→Int) (up:Sc→Bool) (op:Int) (name:List UInt8) (k:Nat) (x:Nd) (hsm:∀ y ∈ e,y.sm) (hq:aud e=0) (hx:e[k]? =some x) (hke:e.length<2^40) (hS:ss.length=e.length) (hsc:sc.length<2^40) (hc:∀ x ∈ sc,CO 102 [.agg (scC x)] (.ret (.int .i64 (ck x)))∧(ck x=0→CO 103 [.agg (scC x)] (.ret (.bool (up x))))):
  adY prog ap [] nt (lT 0 (adW f14)) (avX e ne (avy e) sc ns op name (k,ss)) .normal (avX e ne (avy e) sc ns op name (k+1,ss.set k (aFm ck up e (avy e) sc op name ss k x))):=by
 obtain ⟨hA,hsp⟩:=aD2 hq
 obtain ⟨hal,haj⟩:=hsp k x hx
 obtain ⟨hk,hxe⟩:=List.getElem?_eq_some_iff.1 hx
 have hgx:e.getD k zNd=x:=by rw [List.getD_eq_getElem?_getD,hx];rfl
 generalize hAA:avy e=A at*
 have hkA:k<A.length:=by omega
 have hjs:∀ j ∈ A.getD k [],j<ss.length:=fun j hj=>by have:=haj j hj;omega
 have hje:∀ j ∈ A.getD k [],j<e.length:=fun j hj=>by have:=haj j hj;omega
 have hl40:(A.getD k []).length<2^40:=by rw [hal];unfold arI;split<;>(try split)<;>(try split)<;>omega
 have hE:(List.drop ((Int.toNat (k:Int))*5) (ndL e))=ndC x++ndL (e.drop (k+1)):=by rw [aER hk,hgx]
 have call_:=aTX e ne A sc ns ss k hkA hl40 hjs
 have hzz:∀ j,(e.getD j zNd).num.length<2^36∧(e.getD j zNd).den.length<2^36:=by
  intro j
  by_cases hj:j<e.length
  ·have hm:e.getD j zNd ∈ e:=by rw [List.getD_eq_getElem?_getD,List.getElem?_eq_getElem hj];exact List.getElem_mem hj
   have:=hsm _ hm
   exact ⟨Nat.lt_trans this.1 (by decide),Nat.lt_trans this.2 (by decide)⟩
  ·rw [List.getD_eq_getElem?_getD,List.getElem?_eq_none (by omega)];decide
 have hlk:(lkO x.op= .tup [.nilF,.bool false])∨∃ f,lkO x.op= .tup [.fn f [] [],.bool true]:=by
  by_cases h1:(x.op=9∨x.op=13∨x.op=14∨x.op=21∨x.op=22∨x.op=23)∨(x.op=10)∨(x.op=11)∨(x.op=12)∨(x.op=15)∨(x.op=24)
  ·rcases h1 with h|h|h|h|h|h
   ·exact .inr ⟨_,aOI h⟩
   ·exact .inr ⟨_,aON h⟩
   ·exact .inr ⟨_,aOL h⟩
   ·exact .inr ⟨_,aOK h⟩
   ·exact .inr ⟨_,aOJ h⟩
   ·exact .inr ⟨_,aLe h⟩
  ·exact .inl (aOM h1)
 unfold aFm
 by_cases hit:(x.op==op && x.name==name)=true
 ·rw [hit]
  rw [Bool.and_eq_true] at hit
  rcases hlk with h|⟨f,h⟩
  ·exact a1I hn e ne A sc ns ss op name k x _ hgx hE hk hke hA hS h hit.1 hit.2
  ·exact a1H hn e ne A sc ns ss op name k x _ hgx hE hk hke hA hS f h hit.1 hit.2
 ·rw [Bool.not_eq_true] at hit
  rw [hit]
  have hit2:(x.op==op)=false∨(x.name==name)=false:=Bool.and_eq_false_iff.1 hit
  rcases tf ((((awV A ss k):Nat):Int)==((0:Nat):Int)) with b3|b3
  ·rw [b3]
   rcases tf (x.op==op) with b1|b1
   ·have b2:(x.name==name)=false:=by rcases hit2 with h|h;rw [h] at b1;cases b1;exact h
    rcases hlk with h|⟨f,h⟩
    ·exact a1K hn e ne A sc ns ss op name k x _ hgx hE hk hke hA hS h b1 b2 b3 call_
    ·exact a1J hn e ne A sc ns ss op name k x _ hgx hE hk hke hA hS f h b1 b2 b3 call_
   ·rcases hlk with h|⟨f,h⟩
    ·exact a1M hn e ne A sc ns ss op name k x _ hgx hE hk hke hA hS h b1 b3 call_
    ·exact a1L hn e ne A sc ns ss op name k x _ hgx hE hk hke hA hS f h b1 b3 call_
  ·rw [b3]
   dsimp only [cond]
   unfold aPy
   have hI:∀ n,arI x.op=n→∀ i,i<n→i<(A.getD k []).length:=fun n hn i hi=>by rw [hal,hn];exact hi
   by_cases g1:x.op=9∨x.op=13∨x.op=14∨x.op=21∨x.op=22∨x.op=23
   ·rw [if_pos g1];exact aVO hn e ne A sc ns ss op name k x _ hgx hE hk hke hA hS (aOI g1) hit2 b3 call_
   rw [if_neg g1]
   by_cases g2:x.op=10
   ·rw [if_pos g2]
    have ha:=hI 2 (by rw [g2];rfl)
    exact aVU hn e ne A sc ns ss op name k x _ hgx hE hk hke hA hS (aON g2) hit2 b3 call_ (aV_ e ne A sc ns ss k hkA hjs hje (ha 0 (by omega)) (ha 1 (by omega)))
   rw [if_neg g2]
   by_cases g3:x.op=11
   ·rw [if_pos g3]
    have ha:=hI 2 (by rw [g3];rfl)
    exact aVS hn e ne A sc ns ss op name k x _ hgx hE hk hke hA hS (aOL g3) hit2 b3 call_ (aU5 e ne A sc ns ss k hkA hjs hje (ha 0 (by omega)) (ha 1 (by omega)))
   rw [if_neg g3]
   by_cases g4:x.op=12
   ·rw [if_pos g4]
    have ha:=hI 2 (by rw [g4];rfl)
    exact aVQ hn e ne A sc ns ss op name k x _ hgx hE hk hke hA hS (aOK g4) hit2 b3 call_ (aUz e ne A sc ns ss k hkA hjs hje (ha 0 (by omega)) (ha 1 (by omega)) (hzz _))
   rw [if_neg g4]
   by_cases g5:x.op=15
   ·rw [if_pos g5]
    have ha:=hI 3 (by rw [g5];rfl)
    exact aVP hn e ne A sc ns ss op name k x _ hgx hE hk hke hA hS (aOJ g5) hit2 b3 call_ (aUj e ne A sc ns ss k hkA hjs hje (ha 0 (by omega)) (ha 1 (by omega)) (ha 2 (by omega)))
   rw [if_neg g5]
   by_cases g6:x.op=24
   ·rw [if_pos g6]
    have ha:=hI 1 (by rw [g6];rfl)
    have hr:=aSd e ne A sc ns ss ck up k hkA hk hsc hjs (ha 0 (by omega)) hc
    rw [hgx] at hr
    exact aSA hn e ne A sc ns ss op name k x _ hgx hE hk hke hA hS ck up (aLe g6) hit2 b3 call_ hr
   rw [if_neg g6]
   exact aVT hn e ne A sc ns ss op name k x _ hgx hE hk hke hA hS (aOM (by rintro (h|h|h|h|h|h);exact g1 h;exact g2 h;exact g3 h;exact g4 h;exact g5 h;exact g6 h)) hit2 b3 call_
theorem aSz {nt:Nat} (hn:111≤nt) (e:List Nd) (ne:Bool) (sc:List Sc) (ns:Bool) (ck:Sc→Int) (up:Sc→Bool) (op:Int) (name:List UInt8) (hsm:∀ y ∈ e,y.sm) (hq:aud e=0) (hke:e.length<2^40) (hsc:sc.length<2^40) (hc:∀ x ∈ sc,CO 102 [.agg (scC x)] (.ret (.int .i64 (ck x)))∧(ck x=0→CO 103 [.agg (scC x)] (.ret (.bool (up x))))):∀ (r p:List Nd) (ss:List Nat),p++r=e→ss.length=e.length→
  aea prog ap [] nt (lT 0 (adW f14)) (fun _=> .exit 0) (avX e ne (avy e) sc ns op name) (aPC e ne (avy e) sc ns) (p.length,ss) (aBc ck up e (avy e) sc op name r p.length ss):=by
 intro r
 induction r with
 |nil=>
  intro p ss hp hS
  rw [List.append_nil] at hp
  rw [hp]
  exact .done (aVR hn e ne (avy e) sc ns ss op name)
 |cons x r ih=>
  intro p ss hp hS
  have hx:e[p.length]? =some x:=by rw [← hp];simp
  have h:=ih (p++ [x]) (ss.set p.length (aFm ck up e (avy e) sc op name ss p.length x)) (by rw [← hp];simp) (by rw [List.length_set];exact hS)
  rw [List.length_append,List.length_singleton] at h
  exact .next (aSB hn e ne sc ns ss ck up op name p.length x hsm hq hx hke hS hsc hc) h
theorem aPF (e:List Nd) (ne:Bool) (sc:List Sc) (ns:Bool) (ck:Sc→Int) (up:Sc→Bool) (op:Int) (name:List UInt8) (hsm:∀ y ∈ e,y.sm) (hke:e.length<2^40) (hsc:sc.length<2^40) (hc:∀ x ∈ sc,CO 102 [.agg (scC x)] (.ret (.int .i64 (ck x)))∧(ck x=0→CO 103 [.agg (scC x)] (.ret (.bool (up x))))) (hca:aud e ≠ 0→CO 37 [.sl (ndL e) e.length ne] (.ret (.tup [.nilS,.bool false]))):
  CO 14 [.sl (ndL e) e.length ne,.sl (scL sc) sc.length ns,.int .i64 op,.str name] (.ret (.int .i64 ((ave ck up e sc op name:Nat):Int))):=by
 unfold ave
 by_cases hq:aud e=0
 ·by_cases ho:5≤op∧op≤8
  ·rw [if_pos ⟨hq,ho⟩]
   have h0:e ≠ []:=by intro h;rw [h] at hq;exact absurd hq (by decide)
   obtain ⟨n1,hn1⟩:∃ n1,e.length=n1+1:=⟨e.length - 1,by have:=List.length_pos_iff.2 h0;omega⟩
   have hlen:(aBc ck up e (avy e) sc op name e 0 (List.replicate e.length 0)).length=e.length:=by rw [aGJ,List.length_replicate]
   have h:∀ nt,111≤nt→aea prog ap [] nt (lT 0 (adW f14)) (fun _=> .exit 0) (avX e ne (avy e) sc ns op name) (aPC e ne (avy e) sc ns) (0,List.replicate e.length 0) (aBc ck up e (avy e) sc op name e 0 (List.replicate e.length 0)):=fun nt hn=>aSz hn e ne sc ns ck up op name hsm hq hke hsc hc e [] _ rfl (List.length_replicate ..)
   generalize aBc ck up e (avy e) sc op name e 0 (List.replicate e.length 0)=ss at*
   rw [show e.length - 1=n1 by omega]
   have hns:n1<ss.length:=by omega
   refine a1O e ne (avy e) sc ns ss op name n1 (ss.getD n1 0) _ (aH9 e ne hsm hq) (decide_eq_false (by omega)) (decide_eq_false (by omega)) hn1 hke hns (by rw [Nat.zero_add];exact aAG hns) (List.replicate e.length 0).length (ad2 (List.replicate e.length 0)) (by rw [List.length_replicate,aeb]) (by rw [aeb,aHI]) ?_
   have b1:(decide (((8:Nat):Int)<op))=false:=decide_eq_false (by omega)
   rw [b1]
   exact aea.blk h (by simp) rfl (anT.of ⟨rfl,rfl,rfl,rfl,rfl,rfl,rfl,rfl,trivial⟩) (anT.of ⟨rfl,rfl,trivial⟩)
  ·rw [if_neg (fun h=>ho h.2)]
   exact aVV e ne (avy e) sc ns [] op name (aH9 e ne hsm hq) (by omega)
 ·rw [if_neg (fun h=>hq h.1)]
  exact a1N e ne [] sc ns [] op name (hca hq)
structure Br where
 fn:Bool
 fa:List UInt8
 fd:List UInt8
 rn:Bool
 ra:List UInt8
 rd:List UInt8
def brC (x:Br):List AV:= [.bool x.fn,.str x.fa,.str x.fd,.bool x.rn,.str x.ra,.str x.rd]
def brL (l:List Br):List AV:=l.flatMap brC
def Br.sm (x:Br):Prop:=(x.fa.length<2^33∧x.fd.length<2^33)∧(x.ra.length<2^33∧x.rd.length<2^33)
abbrev brF (x:Br):AV:= .agg [.bool x.fn,.str x.fa,.str x.fd]
abbrev brR (x:Br):AV:= .agg [.bool x.rn,.str x.ra,.str x.rd]
theorem aBM {l:List Br} {k:Nat} (h:k<l.length):List.drop (Int.toNat (k:Int)*6) (brL l)=brC l[k]++brL (l.drop (k+1)):=by
 rw [aeb]
 induction l generalizing k with
 |nil=>simp at h
 | cons x r ih=>
  cases k with
  |zero=>simp [brL]
  |succ k=>
   have h':k<r.length:=by simpa using h
   show List.drop ((k+1)*6) (brC x++brL r)=_
   rw [show (k+1)*6=(brC x).length+k*6 by simp [brC];omega,List.drop_append,Nat.add_sub_cancel_left,ih h',List.drop_of_length_le (by omega)]
   rfl
def bkL (cmp:Br→Br→Int):Option Br→List Br→Bool
 |_,[]=>true
 |none,x::r=>cond (isQ x.fn x.fa x.fd) (cond (isQ x.rn x.ra x.rd) (cond (ayV x.fn x.fa x.fd==((0:Nat):Int)) (bkL cmp (some x) r) false) false) false
 |some y,x::r=>cond (isQ x.fn x.fa x.fd) (cond (isQ x.rn x.ra x.rd) (cond (decide (((0:Nat):Int)≤cmp y x)) false (bkL cmp (some x) r)) false) false
def aW0 (nm:List UInt8) (u1 u2:Int) (l:List Br) (k:Nat):St:=⟨[(1,.ptr 0 0 0),(3,.sl (brL l) l.length false),(16,.sl (brL l) l.length false),(17,.int .i64 (l.length:Int)),(18,.int .i64 (k:Int))],[(0,⟨[.str nm,.int .i64 u1,.int .i64 u2,.sl (brL l) l.length false],0,false,0,0,true⟩)],.dead,[]⟩
def aTh (l:List Br):Bool→St
 |true=> ⟨[(3,.sl (brL l) l.length false)],[],.dead,[]⟩
 |false=> ⟨[(2,.int .i64 11)],[],.dead,[]⟩
def bkE:Bool→an_
 |true=> .exit 1
 |false=> .ret
def aBD (f:Nat) (cmp:Br→Br→Int) (l:List Br):Prop:=∀ i y x,l[i]? =some y→l[i+1]? =some x→isQ x.fn x.fa x.fd=true→isQ x.rn x.ra x.rd=true→CO f [brF y,brF x] (.ret (.int .i64 (cmp y x)))
theorem aQF {nt:Nat} (hn:60≤nt) (nm:List UInt8) (u1 u2:Int) (l:List Br) (cmp:Br→Br→Int) (hlen:l.length<2^40) (hsm:∀ x ∈ l,x.sm) (hC:aBD 129 cmp l):∀ (r p:List Br),p++r=l→
  aea prog ap [] nt (lT 1 (adW f102)) bkE (aW0 nm u1 u2 l) (aTh l) p.length (bkL cmp p.getLast? r):=by
 intro r
 induction r with
 |nil=>
  intro p hp
  rw [List.append_nil] at hp
  subst hp
  have h0:(decide ((p.length:Int)<(p.length:Int)))=false:=decide_eq_false (by omega)
  rw [show bkL cmp p.getLast? []=true by cases p.getLast? <;>rfl]
  exact .done (pN 102 [] 1 0 (.c (akx h0) .nil) (.nil) hn)
 | cons x r ih=>
  intro p hp
  have hl:p.length<l.length:=by rw [← hp];simp
  have hlx:l[p.length]=x:=by subst hp;simp
  have hx:=aBM hl
  rw [hlx] at hx
  have hnx:=ih (p++ [x]) (by rw [← hp];simp)
  rw [List.getLast?_append,List.getLast?_singleton,List.length_append,List.length_singleton] at hnx
  simp only [Option.some_or] at hnx
  have hs:=hsm x (by rw [← hp];simp)
  have cRf:CO 115 [brF x] (.ret (.bool (isQ x.fn x.fa x.fd))):=auH x.fn x.fa x.fd (Nat.lt_trans hs.1.1 (by decide)) (Nat.lt_trans hs.1.2 (by decide))
  have cRr:CO 115 [brR x] (.ret (.bool (isQ x.rn x.ra x.rd))):=auH x.rn x.ra x.rd (Nat.lt_trans hs.2.1 (by decide)) (Nat.lt_trans hs.2.2 (by decide))
  have cS:CO 85 [brF x] (.ret (.int .i64 (ayV x.fn x.fa x.fd))):=avk x.fn x.fa x.fd (Nat.lt_trans hs.1.1 (by decide)) (Nat.lt_trans hs.1.2 (by decide))
  cases hpl:p.getLast? with
  | none=>
   have hp0:p= []:=List.getLast?_eq_none_iff.1 hpl
   subst hp0
   generalize hk:([]:List Br).length=k at*
   have hk0:k=0:=by rw [← hk];rfl
   generalize brL (l.drop (k+1))=rB at hx
   have h0:(decide ((k:Int)<(l.length:Int)))=true:=decide_eq_true (by omega)
   have z0:((k:Int)==((0:Nat):Int))=true:=by rw [hk0];rfl
   have zp:(decide (((0:Nat):Int)<(k:Int)))=false:=decide_eq_false (by omega)
   have hw:k<2^62:=by omega
   rcases tf (isQ x.fn x.fa x.fd) with d0|d0
   ·rcases tf (isQ x.rn x.ra x.rd) with d1|d1
    ·rcases tf ((ayV x.fn x.fa x.fd)==((0:Nat):Int)) with d2|d2
     ·simp only [bkL,d0,d1,d2,cond_true,cond_false]
      exact .next (pN 102 [] 7 9 (.k 1 (akx zp) (.c (anS d2) (.k 3 (aeF z0) (.c (anS d1) (.k 3 (anS d0) (.k 10 (nn0 k) (.c h0 (.c (aeF h0) .nil)))))))) (.v 57 (.eq (wk1 hw)) (.c cS (.c cRr (.c cRf (.v 21 (.ppt hx) .nil))))) hn) hnx
     ·simp only [bkL,d0,d1,d2,cond_true,cond_false]
      exact .done (pN 102 [] 6 57 (.k 1 (avg d2) (.k 3 (aeF z0) (.c (anS d1) (.k 3 (anS d0) (.k 10 (nn0 k) (.c h0 (.c (aeF h0) .nil))))))) (.c cS (.c cRr (.c cRf (.v 21 (.ppt hx) .nil)))) hn)
    ·simp only [bkL,d0,d1,cond_true,cond_false]
     exact .done (pN 102 [] 3 5 (.c (avg d1) (.k 3 (anS d0) (.k 10 (nn0 k) (.c h0 (.c (aeF h0) .nil))))) (.c cRr (.c cRf (.v 21 (.ppt hx) .nil))) hn)
   ·simp only [bkL,d0,cond_true,cond_false]
    exact .done (pN 102 [] 3 7 (.k 1 (avg d0) (.k 10 (nn0 k) (.c h0 (.c (aeF h0) .nil)))) (.c cRf (.v 21 (.ppt hx) .nil)) hn)
  | some y=>
   obtain ⟨q,hq⟩:∃ q,p=q++ [y]:=by
    obtain ⟨q,h⟩:=List.getLast?_eq_some_iff.1 hpl
    exact ⟨q,h⟩
   have hk1:p.length=q.length+1:=by rw [hq];simp
   have hkl1:q.length<l.length:=by omega
   have hy:=aBM hkl1
   have hly:l[q.length]=y:=by subst hp hq;simp
   rw [hly] at hy
   have cC:=hC q.length y x (by rw [List.getElem?_eq_getElem hkl1,hly]) (by rw [← hk1,List.getElem?_eq_getElem hl,hlx])
   clear hq
   generalize p.length=k at*
   generalize q.length=k1 at*
   generalize brL (l.drop (k+1))=rB at hx
   generalize brL (l.drop (k1+1))=rC at hy
   have h0:(decide ((k:Int)<(l.length:Int)))=true:=decide_eq_true (by omega)
   have z0:((k:Int)==((0:Nat):Int))=false:=beq_eq_false_iff_ne.2 (by omega)
   have zp:(decide (((0:Nat):Int)<(k:Int)))=true:=decide_eq_true (by omega)
   have hw:k<2^62:=by omega
   have hw4:k<2^40:=by omega
   rcases tf (isQ x.fn x.fa x.fd) with d0|d0
   ·rcases tf (isQ x.rn x.ra x.rd) with d1|d1
    ·rcases tf (decide (((0:Nat):Int)≤(cmp y x))) with d2|d2
     ·simp only [bkL,d0,d1,d2,cond_true,cond_false]
      exact .done (pN 102 [] 7 97 (.c (aeF d2) (.k 6 (nn0 k1) (.c (dlt hkl1) (.c (aeF zp) (.k 1 (akx z0) (.c (anS d1) (.k 3 (anS d0) (.k 10 (nn0 k) (.c h0 (.c (aeF h0) .nil)))))))))) (.c (cC d0 d1) (.v 48 (.ppt hy) (.v 47 (.eq (wkn hk1 hw4)) (.c cRr (.c cRf (.v 21 (.ppt hx) .nil)))))) hn)
     ·simp only [bkL,d0,d1,d2,cond_true,cond_false]
      exact .next (pN 102 [] 7 33 (.c (akx d2) (.k 6 (nn0 k1) (.c (dlt hkl1) (.c (aeF zp) (.k 1 (akx z0) (.c (anS d1) (.k 3 (anS d0) (.k 10 (nn0 k) (.c h0 (.c (aeF h0) .nil)))))))))) (.v 57 (.eq (wk1 hw)) (.c (cC d0 d1) (.v 48 (.ppt hy) (.v 47 (.eq (wkn hk1 hw4)) (.c cRr (.c cRf (.v 21 (.ppt hx) .nil))))))) hn) hnx
    ·simp only [bkL,d0,d1,cond_true,cond_false]
     exact .done (pN 102 [] 3 5 (.c (avg d1) (.k 3 (anS d0) (.k 10 (nn0 k) (.c h0 (.c (aeF h0) .nil))))) (.c cRr (.c cRf (.v 21 (.ppt hx) .nil))) hn)
   ·simp only [bkL,d0,cond_true,cond_false]
    exact .done (pN 102 [] 3 7 (.k 1 (avg d0) (.k 10 (nn0 k) (.c h0 (.c (aeF h0) .nil)))) (.c cRf (.v 21 (.ppt hx) .nil)) hn)
def aBp (P:Br→Bool):List Br→Nat→Option Nat
 | [],_=>none
 |x::r,i=>if P x then some i else aBp P r (i+1)
theorem aEt (P:Br→Bool):∀ (r:List Br) (i:Nat),(aBp P r i).isSome=r.any P
 | [],_=>rfl
 |x::r,i=>by
  unfold aBp
  rw [List.any_cons]
  rcases tf (P x) with h|h
  ·rw [if_pos h,h];rfl
  ·rw [if_neg (by rw [h];decide),h,Bool.false_or];exact aEt P r (i+1)
def aTv (l:List Br) (k:Nat):St:=⟨[(0,.sl (brL l) l.length false),(1,.fn 131 [] []),(7,.int .i64 (l.length:Int)),(8,.int .i64 (k:Int))],[],.dead,[]⟩
def aOq (l:List Br):Option Nat→St
 |none=> ⟨[(0,.sl (brL l) l.length false)],[],.dead,[]⟩
 |some i=> ⟨[(4,.int .i64 (i:Int))],[],.dead,[]⟩
theorem aOs {nt:Nat} (hn:19≤nt) (l:List Br) (P:Br→Bool) (hlen:l.length<2^40) (hg:∀ x ∈ l,CO 131 [.agg (brC x)] (.ret (.bool (P x)))):∀ (r p:List Br),p++r=l→
  aea prog ap [] nt (lT 0 (adW f159)) ixE (aTv l) (aOq l) p.length (aBp P r p.length):=by
 intro r
 induction r with
 |nil=>
  intro p hp
  rw [List.append_nil] at hp
  subst hp
  have h0:(decide ((p.length:Int)<(p.length:Int)))=false:=decide_eq_false (by omega)
  exact .done (pN 159 [] 1 0 (.c (akx h0) .nil) (.nil) hn)
 | cons x r ih=>
  intro p hp
  have hl:p.length<l.length:=by rw [← hp];simp
  have hlx:l[p.length]=x:=by subst hp;simp
  have hx:=aBM hl
  rw [hlx] at hx
  have hnx:=ih (p++ [x]) (by rw [← hp];simp)
  rw [List.length_append,List.length_singleton] at hnx
  have cg:=hg x (by rw [← hp];simp)
  unfold aBp
  generalize p.length=k at*
  generalize brL (l.drop (k+1))=rB at hx
  have h0:(decide ((k:Int)<(l.length:Int)))=true:=decide_eq_true (by omega)
  have hw:k<2^62:=by omega
  rcases tf (P x) with d0|d0
  ·rw [if_pos d0]
   exact .done (pN 159 [] 2 3 (.c (aeF d0) (.k 6 (nn0 k) (.c h0 (.c (aeF h0) .nil)))) (.c cg (.v 14 (.ppt hx) .nil)) hn)
  ·rw [if_neg (by rw [d0];decide)]
   exact .next (pN 159 [] 2 1 (.c (akx d0) (.k 6 (nn0 k) (.c h0 (.c (aeF h0) .nil)))) (.v 18 (.eq (wk1 hw)) (.c cg (.v 14 (.ppt hx) .nil))) hn) hnx
theorem aUM (l:List Br) (i:Nat) (l0:ajS prog ap [] 19 (.block 0 (.loop (lT 0 (adW f159)))) ⟨[(0,.sl (brL l) l.length false),(1,.fn 131 [] []),(4,.int .i64 0),(5,.dead),(7,.int .i64 (l.length:Int)),(8,.int .i64 0),(9,.dead),(16,.dead)],[],.dead,[]⟩ (.ret) ⟨[(4,.int .i64 (i:Int))],[],.dead,[]⟩):CO 159 [.sl (brL l) l.length false,.fn 131 [] []] (.ret (.int .i64 (i:Int))):=pK [0] 0 0 .nil (.l l0 .nil)
theorem aUK (l:List Br) (l0:ajS prog ap [] 19 (.block 0 (.loop (lT 0 (adW f159)))) ⟨[(0,.sl (brL l) l.length false),(1,.fn 131 [] []),(4,.int .i64 0),(5,.dead),(7,.int .i64 (l.length:Int)),(8,.int .i64 0),(9,.dead),(16,.dead)],[],.dead,[]⟩ (.normal) ⟨[(0,.sl (brL l) l.length false)],[],.dead,[]⟩):CO 159 [.sl (brL l) l.length false,.fn 131 [] []] (.ret (.int .i64 (-1))):=pK [0] 0 0 .nil (.l l0 .nil)
theorem aUI (l:List Br) (P:Br→Bool) (hlen:l.length<2^40) (hg:∀ x ∈ l,CO 131 [.agg (brC x)] (.ret (.bool (P x)))):CO 159 [.sl (brL l) l.length false,.fn 131 [] []] (.ret (.int .i64 (ixI (aBp P l 0)))):=by
 have h:∀ nt,19≤nt→aea prog ap [] nt (lT 0 (adW f159)) ixE (aTv l) (aOq l) 0 (aBp P l 0):=fun nt hn=>aOs hn l P hlen hg l [] rfl
 cases hq:aBp P l 0 with
 |none=>
  rw [hq] at h
  exact aUK l (aea.blk h (by simp [ixE]) rfl (anT.of ⟨rfl,rfl,rfl,rfl,trivial⟩) (anT.of ⟨rfl,trivial⟩))
 |some i=>
  rw [hq] at h
  exact aUM l i (aea.blk h (by simp [ixE]) rfl (anT.of ⟨rfl,rfl,rfl,rfl,trivial⟩) (anT.of ⟨rfl,trivial⟩))
theorem aQP (l:List Br) (ix:Int) (cI:CO 159 [.sl (brL l) l.length false,.fn 131 [] []] (.ret (.int .i64 ix))):CO 130 [.sl (brL l) l.length false,.fn 131 [] []] (.ret (.bool (decide (((0:Nat):Int)≤ix)))):=pK [] 0 0 .nil (.c cI .nil)
theorem aNZ (l:List Br) (P:Br→Bool) (hlen:l.length<2^40) (hg:∀ x ∈ l,CO 131 [.agg (brC x)] (.ret (.bool (P x)))):CO 130 [.sl (brL l) l.length false,.fn 131 [] []] (.ret (.bool (l.any P))):=by
 have h:=aQP l _ (aUI l P hlen hg)
 rw [← aEt P l 0]
 cases hq:aBp P l 0 with
 |none=>rw [hq] at h;exact h
 |some i=>
  rw [hq] at h
  rw [show (some i).isSome=decide (((0:Nat):Int)≤ixI (some i)) from (decide_eq_true (show ((0:Nat):Int)≤(i:Int) by omega)).symm]
  exact h
def aTw (l:List Br) (k:Nat):St:=⟨[(0,.sl (brL l) l.length false),(1,.fn 160 [] []),(7,.int .i64 (l.length:Int)),(8,.int .i64 (k:Int))],[],.dead,[]⟩
def aOr (l:List Br):Option Nat→St
 |none=> ⟨[(0,.sl (brL l) l.length false)],[],.dead,[]⟩
 |some i=> ⟨[(4,.int .i64 (i:Int))],[],.dead,[]⟩
theorem aOt {nt:Nat} (hn:19≤nt) (l:List Br) (P:Br→Bool) (hlen:l.length<2^40) (hg:∀ x ∈ l,CO 160 [.agg (brC x)] (.ret (.bool (P x)))):∀ (r p:List Br),p++r=l→
  aea prog ap [] nt (lT 0 (adW f159)) ixE (aTw l) (aOr l) p.length (aBp P r p.length):=by
 intro r
 induction r with
 |nil=>
  intro p hp
  rw [List.append_nil] at hp
  subst hp
  have h0:(decide ((p.length:Int)<(p.length:Int)))=false:=decide_eq_false (by omega)
  exact .done (pN 159 [] 1 0 (.c (akx h0) .nil) (.nil) hn)
 | cons x r ih=>
  intro p hp
  have hl:p.length<l.length:=by rw [← hp];simp
  have hlx:l[p.length]=x:=by subst hp;simp
  have hx:=aBM hl
  rw [hlx] at hx
  have hnx:=ih (p++ [x]) (by rw [← hp];simp)
  rw [List.length_append,List.length_singleton] at hnx
  have cg:=hg x (by rw [← hp];simp)
  unfold aBp
  generalize p.length=k at*
  generalize brL (l.drop (k+1))=rB at hx
  have h0:(decide ((k:Int)<(l.length:Int)))=true:=decide_eq_true (by omega)
  have hw:k<2^62:=by omega
  rcases tf (P x) with d0|d0
  ·rw [if_pos d0]
   exact .done (pN 159 [] 2 3 (.c (aeF d0) (.k 6 (nn0 k) (.c h0 (.c (aeF h0) .nil)))) (.c cg (.v 14 (.ppt hx) .nil)) hn)
  ·rw [if_neg (by rw [d0];decide)]
   exact .next (pN 159 [] 2 1 (.c (akx d0) (.k 6 (nn0 k) (.c h0 (.c (aeF h0) .nil)))) (.v 18 (.eq (wk1 hw)) (.c cg (.v 14 (.ppt hx) .nil))) hn) hnx
theorem aUN (l:List Br) (i:Nat) (l0:ajS prog ap [] 19 (.block 0 (.loop (lT 0 (adW f159)))) ⟨[(0,.sl (brL l) l.length false),(1,.fn 160 [] []),(4,.int .i64 0),(5,.dead),(7,.int .i64 (l.length:Int)),(8,.int .i64 0),(9,.dead),(16,.dead)],[],.dead,[]⟩ (.ret) ⟨[(4,.int .i64 (i:Int))],[],.dead,[]⟩):CO 159 [.sl (brL l) l.length false,.fn 160 [] []] (.ret (.int .i64 (i:Int))):=pK [0] 0 0 .nil (.l l0 .nil)
theorem aUL (l:List Br) (l0:ajS prog ap [] 19 (.block 0 (.loop (lT 0 (adW f159)))) ⟨[(0,.sl (brL l) l.length false),(1,.fn 160 [] []),(4,.int .i64 0),(5,.dead),(7,.int .i64 (l.length:Int)),(8,.int .i64 0),(9,.dead),(16,.dead)],[],.dead,[]⟩ (.normal) ⟨[(0,.sl (brL l) l.length false)],[],.dead,[]⟩):CO 159 [.sl (brL l) l.length false,.fn 160 [] []] (.ret (.int .i64 (-1))):=pK [0] 0 0 .nil (.l l0 .nil)
theorem aUJ (l:List Br) (P:Br→Bool) (hlen:l.length<2^40) (hg:∀ x ∈ l,CO 160 [.agg (brC x)] (.ret (.bool (P x)))):CO 159 [.sl (brL l) l.length false,.fn 160 [] []] (.ret (.int .i64 (ixI (aBp P l 0)))):=by
 have h:∀ nt,19≤nt→aea prog ap [] nt (lT 0 (adW f159)) ixE (aTw l) (aOr l) 0 (aBp P l 0):=fun nt hn=>aOt hn l P hlen hg l [] rfl
 cases hq:aBp P l 0 with
 |none=>
  rw [hq] at h
  exact aUL l (aea.blk h (by simp [ixE]) rfl (anT.of ⟨rfl,rfl,rfl,rfl,trivial⟩) (anT.of ⟨rfl,trivial⟩))
 |some i=>
  rw [hq] at h
  exact aUN l i (aea.blk h (by simp [ixE]) rfl (anT.of ⟨rfl,rfl,rfl,rfl,trivial⟩) (anT.of ⟨rfl,trivial⟩))
theorem aQQ (l:List Br) (ix:Int) (cI:CO 159 [.sl (brL l) l.length false,.fn 160 [] []] (.ret (.int .i64 ix))):CO 130 [.sl (brL l) l.length false,.fn 160 [] []] (.ret (.bool (decide (((0:Nat):Int)≤ix)))):=pK [] 0 0 .nil (.c cI .nil)
theorem aN0 (l:List Br) (P:Br→Bool) (hlen:l.length<2^40) (hg:∀ x ∈ l,CO 160 [.agg (brC x)] (.ret (.bool (P x)))):CO 130 [.sl (brL l) l.length false,.fn 160 [] []] (.ret (.bool (l.any P))):=by
 have h:=aQQ l _ (aUJ l P hlen hg)
 rw [← aEt P l 0]
 cases hq:aBp P l 0 with
 |none=>rw [hq] at h;exact h
 |some i=>
  rw [hq] at h
  rw [show (some i).isSome=decide (((0:Nat):Int)≤ixI (some i)) from (decide_eq_true (show ((0:Nat):Int)≤(i:Int) by omega)).symm]
  exact h
def aJC (x:Br):Bool:= !(axJ x.fn x.fa x.fd)|| !(axJ x.rn x.ra x.rd)
def aIp (x:Br):Bool:=decide (ayV x.rn x.ra x.rd<((0:Nat):Int))
theorem aUc (x:Br) (hs:x.sm):CO 131 [.agg (brC x)] (.ret (.bool (aJC x))):=by
 rcases tf (axJ x.fn x.fa x.fd) with b0|b0
 ·rw [show aJC x= !(axJ x.rn x.ra x.rd) by unfold aJC;rw [b0];rfl]
  exact pK [] 1 0 (.k 3 (anS b0) (.n 3 .nil)) (.c (awd x.rn x.ra x.rd (Nat.lt_trans hs.2.1 (by decide)) (Nat.lt_trans hs.2.2 (by decide))) (.c (awd x.fn x.fa x.fd (Nat.lt_trans hs.1.1 (by decide)) (Nat.lt_trans hs.1.2 (by decide))) .nil))
 ·rw [show aJC x=true by unfold aJC;rw [b0];rfl]
  exact pK [] 1 1 (.c (avg b0) (.n 3 .nil)) (.c (awd x.fn x.fa x.fd (Nat.lt_trans hs.1.1 (by decide)) (Nat.lt_trans hs.1.2 (by decide))) .nil)
theorem aQ_ (x:Br) (hs:x.sm):CO 160 [.agg (brC x)] (.ret (.bool (aIp x))):=pK [] 0 0 (.n 3 .nil) (.c (avk x.rn x.ra x.rd (Nat.lt_trans hs.2.1 (by decide)) (Nat.lt_trans hs.2.2 (by decide))) .nil)
def ckQ (cmp:Br→Br→Int) (l:List Br):Int:=cond (decide (((8:Nat):Int)<(l.length:Int))) 2 (cond ((l.length:Int)==((0:Nat):Int)) 11 (cond (bkL cmp none l) (cond (l.any aJC) 3 0) 11))
theorem a3C (nm:List UInt8) (u1 u2:Int) (l:List Br) (bad:Bool) (d0:(decide (((8:Nat):Int)<(l.length:Int)))=false) (d1:((l.length:Int)==((0:Nat):Int))=false) (cA:CO 130 [.sl (brL l) l.length false,.fn 131 [] []] (.ret (.bool bad)))
  (l0:ajS prog ap [] 60 (.block 1 (.loop (lT 1 (adW f102)))) ⟨[(0,.agg [.str nm,.int .i64 u1,.int .i64 u2,.sl (brL l) l.length false]),(1,.ptr 0 0 0),(2,.int .i64 0),(3,.sl (brL l) l.length false),(4,.dead),(5,.dead),(8,.bool (decide (((8:Nat):Int)<(l.length:Int)))),(12,.bool ((l.length:Int)==((0:Nat):Int))),(16,.sl (brL l) l.length false),(17,.int .i64 (l.length:Int)),(18,.int .i64 0),(19,.dead),(32,.dead),(56,.dead),(59,.dead)],[(0,⟨[.str nm,.int .i64 u1,.int .i64 u2,.sl (brL l) l.length false],0,false,0,0,true⟩)],.dead,[]⟩ (.normal) ⟨[(3,.sl (brL l) l.length false)],[],.dead,[]⟩):CO 102 [.agg [.str nm,.int .i64 u1,.int .i64 u2,.sl (brL l) l.length false]] (.ret (.int .i64 (cond bad 3 0))):=by
 rcases tf bad with b2|b2
 ·rw [show (cond bad 3 0:Int)=3 by rw [b2];rfl]
  exact pK [1] 3 4 (.c (aeF b2) (.c (akx d1) (.c (akx d0) (.n 1 .nil)))) (.c cA (.l l0 .nil))
 ·rw [show (cond bad 3 0:Int)=0 by rw [b2];rfl]
  exact pK [1] 3 0 (.c (akx b2) (.c (akx d1) (.c (akx d0) (.n 1 .nil)))) (.c cA (.l l0 .nil))
theorem a3B (nm:List UInt8) (u1 u2:Int) (l:List Br) (d0:(decide (((8:Nat):Int)<(l.length:Int)))=false) (d1:((l.length:Int)==((0:Nat):Int))=false)
  (l0:ajS prog ap [] 60 (.block 1 (.loop (lT 1 (adW f102)))) ⟨[(0,.agg [.str nm,.int .i64 u1,.int .i64 u2,.sl (brL l) l.length false]),(1,.ptr 0 0 0),(2,.int .i64 0),(3,.sl (brL l) l.length false),(4,.dead),(5,.dead),(8,.bool (decide (((8:Nat):Int)<(l.length:Int)))),(12,.bool ((l.length:Int)==((0:Nat):Int))),(16,.sl (brL l) l.length false),(17,.int .i64 (l.length:Int)),(18,.int .i64 0),(19,.dead),(32,.dead),(56,.dead),(59,.dead)],[(0,⟨[.str nm,.int .i64 u1,.int .i64 u2,.sl (brL l) l.length false],0,false,0,0,true⟩)],.dead,[]⟩ (.ret) ⟨[(2,.int .i64 11)],[],.dead,[]⟩):CO 102 [.agg [.str nm,.int .i64 u1,.int .i64 u2,.sl (brL l) l.length false]] (.ret (.int .i64 11)):=pK [1] 2 0 (.c (akx d1) (.c (akx d0) (.n 1 .nil))) (.l l0 .nil)
theorem aFa (nm:List UInt8) (u1 u2:Int) (l:List Br) (cmp:Br→Br→Int) (hlen:l.length<2^40) (hsm:∀ x ∈ l,x.sm) (hC:aBD 129 cmp l):CO 102 [.agg [.str nm,.int .i64 u1,.int .i64 u2,.sl (brL l) l.length false]] (.ret (.int .i64 (ckQ cmp l))):=by
 unfold ckQ
 rcases tf (decide (((8:Nat):Int)<(l.length:Int))) with d0|d0
 ·rw [d0]
  exact pK [] 1 1 (.c (aeF d0) (.n 1 .nil)) (.nil)
 ·rw [d0]
  rcases tf ((l.length:Int)==((0:Nat):Int)) with d1|d1
  ·rw [d1]
   exact pK [] 2 2 (.c (aeF d1) (.c (akx d0) (.n 1 .nil))) (.nil)
  ·rw [d1]
   have h:∀ nt,60≤nt→aea prog ap [] nt (lT 1 (adW f102)) bkE (aW0 nm u1 u2 l) (aTh l) 0 (bkL cmp none l):=fun nt hn=>aQF hn nm u1 u2 l cmp hlen hsm hC l [] rfl
   cases hq:bkL cmp none l with
   |true=>
    rw [hq] at h
    exact a3C nm u1 u2 l _ d0 d1 (aNZ l aJC hlen fun x hx=>aUc x (hsm x hx)) (aea.blk h (by simp [bkE]) rfl (anT.of ⟨rfl,rfl,rfl,rfl,rfl,trivial⟩) (anT.of ⟨rfl,trivial⟩))
   |false=>
    rw [hq] at h
    exact a3B nm u1 u2 l d0 d1 (aea.blk h (by simp [bkE]) rfl (anT.of ⟨rfl,rfl,rfl,rfl,rfl,trivial⟩) (anT.of ⟨rfl,trivial⟩))
theorem aRa (nm:List UInt8) (u1 u2:Int) (l:List Br) (any2:Bool) (cA:CO 130 [.sl (brL l) l.length false,.fn 160 [] []] (.ret (.bool any2))):CO 132 [.agg [.str nm,.int .i64 u1,.int .i64 u2,.sl (brL l) l.length false]] (.ret (.bool any2)):=pK [] 0 0 (.n 1 .nil) (.c cA .nil)
theorem aOc (nm:List UInt8) (u1 u2:Int) (l:List Br) (hlen:l.length<2^40) (hsm:∀ x ∈ l,x.sm):CO 132 [.agg [.str nm,.int .i64 u1,.int .i64 u2,.sl (brL l) l.length false]] (.ret (.bool (l.any aIp))):=aRa nm u1 u2 l _ (aN0 l aIp hlen fun x hx=>aQ_ x (hsm x hx))
theorem aKs (nm:List UInt8) (u1 u2:Int) (l:List Br) (ckv:Int) (fal:Bool) (cK_:CO 102 [.agg [.str nm,.int .i64 u1,.int .i64 u2,.sl (brL l) l.length false]] (.ret (.int .i64 ckv))) (cF:CO 132 [.agg [.str nm,.int .i64 u1,.int .i64 u2,.sl (brL l) l.length false]] (.ret (.bool fal))):CO 103 [.agg [.str nm,.int .i64 u1,.int .i64 u2,.sl (brL l) l.length false]] (.ret (.bool (ckv==((0:Nat):Int) && !fal))):=by
 rcases tf (ckv==((0:Nat):Int)) with b0|b0
 ·rw [b0,Bool.true_and]
  exact pK [] 1 1 (.k 4 (aeF b0) (.n 4 .nil)) (.c cF (.c cK_ .nil))
 ·rw [b0,Bool.false_and]
  exact pK [] 1 0 (.c (akx b0) (.n 4 .nil)) (.c cK_ .nil)
theorem aFU (nm:List UInt8) (u1 u2:Int) (l:List Br) (cmp:Br→Br→Int) (hlen:l.length<2^40) (hsm:∀ x ∈ l,x.sm) (hC:aBD 129 cmp l):CO 103 [.agg [.str nm,.int .i64 u1,.int .i64 u2,.sl (brL l) l.length false]] (.ret (.bool (ckQ cmp l==((0:Nat):Int) && !(l.any aIp)))):=aKs nm u1 u2 l _ _ (aFa nm u1 u2 l cmp hlen hsm hC) (aOc nm u1 u2 l hlen hsm)
structure Sq where
 nm:List UInt8
 u1:Int
 u2:Int
 l:List Br
def Sq.c (q:Sq):Sc:=⟨q.nm,q.u1,q.u2,brL q.l,q.l.length⟩
def aIa:List AV→List Br
 | .bool a::.str b::.str c::.bool d::.str e::.str f::r=> ⟨a,b,c,d,e,f⟩::aIa r
 |_=> []
theorem aIb:∀ l:List Br,aIa (brL l)=l
 | []=>rfl
 |x::r=>by
  show aIa (brC x++brL r)=_
  simp only [brC,List.cons_append,List.nil_append,aIa,aIb r]
def ckS (cmp:Br→Br→Int) (x:Sc):Int:=ckQ cmp (aIa x.bx)
def upS (cmp:Br→Br→Int) (x:Sc):Bool:=(ckQ cmp (aIa x.bx)==((0:Nat):Int)) && !((aIa x.bx).any aIp)
def aJt (f:Nat) (cmp:Br→Br→Int) (qs:List Sq):Prop:=∀ q ∈ qs,q.l.length<2^40∧(∀ x ∈ q.l,x.sm)∧aBD f cmp q.l
theorem an8 (e:List Nd) (ne:Bool) (qs:List Sq) (ns:Bool) (cmp:Br→Br→Int) (op:Int) (name:List UInt8) (hsm:∀ y ∈ e,y.sm) (hke:e.length<2^40) (hqs:qs.length<2^40) (hc:aJt 129 cmp qs):
  CO 14 [.sl (ndL e) e.length ne,.sl (scL (qs.map Sq.c)) qs.length ns,.int .i64 op,.str name] (.ret (.int .i64 ((ave (ckS cmp) (upS cmp) e (qs.map Sq.c) op name:Nat):Int))):=by
 have h:=aPF e ne (qs.map Sq.c) ns (ckS cmp) (upS cmp) op name hsm hke (by rw [List.length_map];exact hqs)
  (by
   intro x hx
   obtain ⟨q,hq,rfl⟩:=List.mem_map.1 hx
   obtain ⟨h1,h2,h3⟩:=hc q hq
   unfold ckS upS
   rw [show aIa (Sq.c q).bx=q.l from aIb q.l]
   exact ⟨aFa q.nm q.u1 q.u2 q.l cmp h1 h2 h3,fun _=>aFU q.nm q.u1 q.u2 q.l cmp h1 h2 h3⟩)
  (fun hq=>aWO e ne (aud e) [] (by rw [show (aud e==((0:Nat):Int))=false from beq_eq_false_iff_ne.2 hq];rfl) (az_ e ne hsm))
 rw [List.length_map] at h
 exact h
def aSm (so sp:List UInt8→Nat) (x:List UInt8):Bool:= !(decide (((1:Nat):Int)<((so x:Nat):Int))) && !(decide (((1:Nat):Int)<((sp x:Nat):Int)))
end Go.Proofs.Tryz
open Go AM Go.RowKit Go.Shelf
namespace Go.Proofs.Tryz
attribute [local go_sem] Oper.semAt_some
theorem ax5 {W W':World} (h:Below W.heap.size W W'):SLe (au2 W) (au2 W'):=by
 intro k o v hv
 have hk:=aId hv
 rw [← hv]
 unfold au2
 rw [h.block k hk,World.cell?_of_block (h.block k hk)]
theorem aAf {W W':World} (h:Below W.heap.size W W') (hg:axD ap (au2 W)):axD ap (au2 W'):=by
 intro k xs hk
 obtain ⟨vs,h1,h2⟩:=hg k xs hk
 exact ⟨vs,an6 (ax5 h) _ h1,fun j u hu=> ⟨ax5 h _ _ _ (h2 j u hu).1,(h2 j u hu).2⟩⟩
theorem a1Y {W:World} (hg:axD ap (au2 W)) (m:anV):apS ap (an3 []) m (au2 W) W:=
 ⟨fun b b' B B' h=>by simp [an3] at h,fun b B h=>by simp [an3] at h,fun k o v h=>h,fun b B h=>by simp [an3] at h,hg⟩
theorem aAH {f:Nat} {args:List AV} {kd:IntKind} {x:Int} (hc:CO f args (.ret (.int kd x))) {W:World} (hg:axD ap (au2 W)) {cargs:List Value} (hv:PRL (au2 W) args cargs) {n:Nat}:
  CallsIn Fence.wide n prog f cargs.toArray W fun e W'=>e= .returned (.int kd x)∧Below W.heap.size W W':=by
 refine callsIn_wide.2 ?_
 refine (hc.calls (fun _=>(0,0)) (au2 W) W cargs (a1Y hg _) (aoa _ hv)).mono ?_
 rintro e W' ⟨m',S',hF⟩
 obtain ⟨_,hfr,hout⟩:=hF
 obtain ⟨cv,rfl,h1⟩:=hout
 simp only [aBG,VR,PR] at h1
 subst h1
 exact ⟨rfl,hfr.os,hfr.tape,hfr.output,hfr.size,fun k hk=>hfr.rest k hk fun b B h=>by simp [an3] at h⟩
theorem aEn {W W':World} (h:Below W.heap.size W W') (row:Option Nat):W.grownBy W' row:=
 ⟨h.os,h.tape,h.output,h.size,fun k hk _=>h.block k hk⟩
def axj (f g:Nat→Int) (k:Nat):List Int:=(List.range k).flatMap fun j=> [f j,g j]
theorem azO (f g:Nat→Int) (k:Nat):axj f g (k+1)=axj f g k++ [f k]++ [g k]:=by simp [axj,List.range_succ]
theorem azN (f g:Nat→Int) (k:Nat):(axj f g k).length=2*k:=by
 induction k with
 |zero=>rfl
 |succ k ih=>rw [azO];simp [ih];omega
theorem aM8 (f g:Nat→Int) {k n:Nat} (h:k≤n):axj f g k<+:axj f g n:=by
 induction n with
 |zero=>
  obtain rfl:k=0:=by omega
  exact List.prefix_refl _
 |succ n ih=>
  by_cases hk:k=n+1
  ·subst hk;exact List.prefix_refl _
  ·exact (ih (by omega)).trans (by rw [azO,List.append_assoc];exact List.prefix_append _ _)
set_option maxRecDepth 100000 in
set_option maxHeartbeats 4000000 in
theorem aKz (n:Nat) (hn:2≤n) (l kn ke ks n₀ b off len cap:Nat) (E SC:AV) (ue us:Value) (ns:Nat→List UInt8) (so sp:Nat→Int) (hreach:len*16≤140737488351232)
  (hso:∀ k,k<len→CO 14 [E,SC,.int .i64 6,.str (ns k)] (.ret (.int .i64 (so k)))) (hsp:∀ k,k<len→CO 14 [E,SC,.int .i64 8,.str (ns k)] (.ret (.int .i64 (sp k))))
  (J Jx:List Int→World→Prop) (W:World) (hAJ:AbidesFrom W.heap.size J)
  (hY:∀ pre x W1,J pre W1→pre.length<2*len→YieldAt Fence.wide (n - 1) prog l #[.int .i64 x] W1 fun e W'=>
   (e= .returned (.bool true)∧J (pre++ [x]) W'∧Below n₀ W1 W')∨(e= .returned (.bool false)∧Jx (pre++ [x]) W'))
  (hn0:n₀≤W.heap.size) (hbn:b<n₀) (hkn:kn<n₀) (hke:ke<n₀) (hks:ks<n₀)
  (w0:World) (hw0:w0.heap.size=n₀) (hW:Below n₀ w0 W) (hg:axD ap (au2 w0)) (hpr:PRL (au2 w0) [E,SC] [ue,us])
  (cn:w0.cell? ⟨kn,0,none⟩=some (.slice (some ⟨b,off,none⟩) len cap)) (ce:w0.cell? ⟨ke,0,none⟩=some ue) (cs:w0.cell? ⟨ks,0,none⟩=some us)
  (hc:∀ j,j<len→w0.cell? ⟨b,off+j,none⟩=some (.string ⟨(ns j).toArray⟩)) (h0:J [] W):
  CallsIn Fence.wide n prog 73 #[.func (.yield l) #[] #[],.pointer (some ⟨kn,0,none⟩),.pointer (some ⟨ke,0,none⟩),.pointer (some ⟨ks,0,none⟩)] W fun e W'=>(∃ v,e= .returned v)∧
   ((∃ ys,ys=axj so sp len∧J ys W')∨(∃ pre,pre<+:axj so sp len∧Jx pre W')):=by
 have kee:∀ (w:World),Below n₀ w0 w→∀ (k j:Nat) (v:Value),k<n₀→w0.cell? ⟨k,j,none⟩=some v→w.cell? ⟨k,j,none⟩=some v:=fun w h k j v hk hv=>(Below.cell h (p:=⟨k,j,none⟩) hk).trans hv
 have cn':=kee _ hW _ _ _ hkn cn
 refine callsIn_of_wp Tryz.func73 rfl trivial ?_ rfl
 simp only [Tryz.ntmps73,List.size_toArray,List.length_cons,List.length_nil,Nat.reduceAdd,Nat.reduceSub,Array.replicate_succ,Array.replicate_zero,List.push_toArray,List.append_toArray,List.nil_append,List.cons_append]
 gi_wp2
 gi_loopw [9] (fun i wr=> ∃ k:Nat,k≤len∧i= .int .i64 k∧J (axj so sp k) wr∧Below n₀ w0 wr∧W.heap.size≤wr.heap.size)
  (fun i _=>len - (intOf i).toNat)
 case atStart=>exact ⟨0,Nat.zero_le _,rfl,h0,hW,Nat.le_refl _⟩
 case round=>
  obtain ⟨k,hk,rfl,hJs,hnx,hsz⟩:=hrel
  have hcx:k<len→wr.cell? ⟨b,off+k,none⟩=some (.string ⟨(ns k).toArray⟩):=fun h=>kee _ hnx _ _ _ hbn (hc k h)
  have ce1:=kee _ hnx _ _ _ hke ce
  have cs1:=kee _ hnx _ _ _ hks cs
  by_cases hlt:k<len
  ·have hcx':=hcx hlt
   have bW1:∀ (w:World),Below n₀ w0 w→Below w0.heap.size w0 w:=fun w h=>by rw [hw0];exact h
   have PR4:∀ (w:World) (op:Int),Below n₀ w0 w→PRL (au2 w) [E,SC,.int .i64 op,.str (ns k)] [ue,us,.int .i64 op,.string ⟨(ns k).toArray⟩]:=fun w op h=>by
    have h2:=an6 (ax5 (bW1 w h)) _ hpr
    simp only [PRL,PR] at h2 ⊢
    exact ⟨h2.1,h2.2.1,trivial,trivial,trivial⟩
   have LE1:axj so sp len=axj so sp k++ [so k]++ [sp k]++(axj so sp len).drop (2*(k+1)):=by
    rw [← azO]
    obtain ⟨r,hr⟩:=aM8 so sp (show k+1≤len by omega)
    conv=>rhs;rw [← hr]
    rw [List.drop_left' (azN ..)]
    exact hr.symm
   have hf14:Fence.wide.fn 14:=trivial
   have h1n:1≤n:=by omega
   gi_wp2_with (gi_at_call 14;refine (aAH (hso k hlt) (aAf (bW1 _ hnx) hg) (PR4 _ 6 hnx)).mono ?_;rintro e W1 ⟨rfl,hb1⟩;have hJ1:=hAJ _ _ _ none hJs (aEn hb1 none) (fun r e=>by cases e);have hnx1:Below n₀ w0 W1:=hnx.trans (hb1.mono (by omega));obtain ⟨fn,tmps,assign,body,hy,hR⟩:=hY _ (so k) W1 hJ1 (by rw [azN];omega))
   refine hR.mono ?_
   rintro e W3 (⟨rfl,hJ3,hk3⟩|⟨rfl,hJx3⟩)
   ·have hnx3:=hnx1.trans hk3
    have ce3:=kee _ hnx3 _ _ _ hke ce
    have cs3:=kee _ hnx3 _ _ _ hks cs
    gi_wp2_with (gi_at_call 14;refine (aAH (hsp k hlt) (aAf (bW1 _ hnx3) hg) (PR4 _ 8 hnx3)).mono ?_;rintro e W4 ⟨rfl,hb4⟩;have hJ4:=hAJ _ _ _ none hJ3 (aEn hb4 none) (fun r e=>by cases e);have hnx4:Below n₀ w0 W4:=hnx3.trans (hb4.mono (by rw [← hw0];exact hnx3.size));obtain ⟨fn4,tmps4,assign4,body4,hy4,hR4⟩:=hY _ (sp k) W4 hJ4 (by rw [List.length_append,azN,List.length_singleton];omega))
    refine hR4.mono ?_
    rintro e W5 (⟨rfl,hJ5,hk5⟩|⟨rfl,hJx5⟩)
    ·gi_wp2
     go_roundw
     case rel=>exact ⟨k+1,by omega,by simp,by rw [azO];exact hJ5,hnx4.trans hk5,by have:=hb1.size;have:=hk3.size;have:=hb4.size;have:=hk5.size;omega⟩
     case measure=>simp [intOf];omega
    ·gi_wp2
     refine bodyPost_ret (results_none rfl _ _ _) rfl ?_
     exact ⟨⟨_,rfl⟩,.inr ⟨_,by rw [LE1];exact List.prefix_append _ _,hJx5⟩⟩
   ·gi_wp2_with (refine ⟨fun _ _=>trivial, ?_⟩)
    refine bodyPost_ret (results_none rfl _ _ _) rfl ?_
    exact ⟨⟨_,rfl⟩,.inr ⟨_,by rw [LE1,List.append_assoc];exact List.prefix_append _ _,hJx3⟩⟩
  ·obtain rfl:k=len:=by omega
   gi_wp2
   go_end0
   exact ⟨⟨_,rfl⟩,.inl ⟨_,rfl,hJs⟩⟩
attribute [local go_sem] Oper.semAt_some
theorem aMN (a1 a2 a3:Option Addr) (l1 l2 l3 c1 c2 c3:Nat) (n:Nat) (w:World):
  CallsIn Fence.wide n prog 47 #[.slice a1 l1 c1,.slice a2 l2 c2,.slice a3 l3 c3] w fun e w'=>e= .returned (.func (.func 73) #[] #[.pointer (some ⟨w.heap.size+2,0,none⟩),.pointer (some ⟨w.heap.size,0,none⟩),.pointer (some ⟨w.heap.size+1,0,none⟩)])∧w'=((w.alloc (.cells #[.slice a1 l1 c1] 25)).alloc (.cells #[.slice a2 l2 c2] 27)).alloc (.cells #[.slice a3 l3 c3] 29):=by
 refine callsIn_of_wp Tryz.func47 rfl trivial ?_ rfl
 simp only [Tryz.ntmps47,List.size_toArray,List.length_cons,List.length_nil,Nat.reduceAdd,Nat.reduceSub,Array.replicate_succ,Array.replicate_zero,List.push_toArray,List.append_toArray,List.nil_append,List.cons_append]
 gi_wp2
 go_ret
 refine ⟨?_,rfl⟩
 simp
theorem aPr {w:World} {tmps:Array Value} {k:Nat} {b:Bool} (ht:tmps.getD 6 undef= .pointer (some ⟨k,0,none⟩)) (hc:w.cell? ⟨k,0,none⟩=some (.bool b)):(results f17 tmps).run prog w= .ok (.bool b) w:=by
 refine aAr (vs:= [.bool b]) rfl ?_
 intro i r v hr hv
 match i with
 | 0=>
  simp only [List.getElem?_cons_zero,Option.some.injEq] at hv
  subst hv
  have:r= .cell 6 4:=by
   have h0:f17.results.toList[0]? =some (.cell 6 4):=rfl
   rw [h0] at hr;exact (Option.some.inj hr).symm
  subst this
  have hu:prog.underlying 4=some .bool:=by kernel_rfl
  simp only [aGH,ht]
  simp [asAddr,loadVar,hu,hc,go_sem]
 |n+1=>simp at hv
theorem aMJ (E:AV) (x:Int) (hx:x ≠ 0) (hck:CO 21 [E] (.ret (.int .i64 x))) (n:Nat) (hn:3≤n) (ue us un:Value) (w:World) (hg:axD ap (au2 w)) (hpr:PRL (au2 w) [E] [ue]):
  CallsIn Fence.wide n prog 17 #[ue,us,un] w fun e w'=>e= .returned (.bool false)∧Below w.heap.size w w':=by
 have h21:Fence.wide.fn 21:=trivial
 have h1n:1≤n:=by omega
 have ha:Below w.heap.size w (w.alloc (.cells #[.bool false] 4)):=(Below.refl _ w).alloc (Nat.le_refl _) _
 have hx':decide (x=0)=false:=decide_eq_false hx
 refine callsIn_of_wp_marks Tryz.func17 rfl trivial ?_ rfl
 simp only [Tryz.ntmps17,List.size_toArray,List.length_cons,List.length_nil,Nat.reduceAdd,Nat.reduceSub,Array.replicate_succ,Array.replicate_zero,List.push_toArray,List.append_toArray,List.nil_append,List.cons_append]
 gi_wp2_with (gi_at_call 21;refine (aAH hck (aAf ha hg) (an6 (ax5 ha) _ hpr)).mono ?_;rintro e W1 ⟨rfl,hb1⟩;have hc1:=(hb1.cell (p:=⟨w.heap.size,0,none⟩) (by simp)).trans (show (w.alloc (.cells #[.bool false] 4)).cell? ⟨w.heap.size,0,none⟩=some (.bool false) by simp);have hf1:=(hb1.frozen (p:=⟨w.heap.size,0,none⟩) (by simp)).trans (show (w.alloc (.cells #[.bool false] 4)).frozen? ⟨w.heap.size,0,none⟩=false by simp))
 exact ⟨_,aPr rfl (World.cell?_setCell_same' _ _ _ (by rw [hc1];rfl)),rfl,(ha.trans (hb1.mono (by simp))).setCell (p:=⟨w.heap.size,0,none⟩) (Nat.le_refl _) _⟩
attribute [local go_sem] Oper.semAt_some
set_option maxRecDepth 100000 in
set_option maxHeartbeats 1000000 in
theorem aI2 (n:Nat) (l kn ke ks cap:Nat) (an:Option Addr) (so sp:Nat→Int) (J Jx:List Int→World→Prop) (W:World) (cn:W.cell? ⟨kn,0,none⟩=some (.slice an 0 cap)) (h0:J [] W):
  CallsIn Fence.wide n prog 73 #[.func (.yield l) #[] #[],.pointer (some ⟨kn,0,none⟩),.pointer (some ⟨ke,0,none⟩),.pointer (some ⟨ks,0,none⟩)] W fun e W'=>(∃ v,e= .returned v)∧
   ((∃ ys,ys=axj so sp 0∧J ys W')∨(∃ pre,pre<+:axj so sp 0∧Jx pre W')):=by
 refine callsIn_of_wp Tryz.func73 rfl trivial ?_ rfl
 simp only [Tryz.ntmps73,List.size_toArray,List.length_cons,List.length_nil,Nat.reduceAdd,Nat.reduceSub,Array.replicate_succ,Array.replicate_zero,List.push_toArray,List.append_toArray,List.nil_append,List.cons_append]
 gi_wp2
 gi_loopw [9] (fun i wr=>i= .int .i64 0∧J [] wr) (fun _ _=>0)
 case atStart=>exact ⟨rfl,h0⟩
 case round=>
  obtain ⟨rfl,hJs⟩:=hrel
  gi_wp2
  go_end0
  exact ⟨⟨_,rfl⟩,.inl ⟨_,rfl,hJs⟩⟩
theorem aHL (n:Nat) (hn:2≤n) (kn ke ks b off cap:Nat) (an:Option Addr) (E SC:AV) (ue us:Value) (ns:List (List UInt8)) (so sp:List UInt8→Int) (hreach:ns.length*16≤140737488351232)
  (hso:∀ s ∈ ns,CO 14 [E,SC,.int .i64 6,.str s] (.ret (.int .i64 (so s)))) (hsp:∀ s ∈ ns,CO 14 [E,SC,.int .i64 8,.str s] (.ret (.int .i64 (sp s))))
  (w:World) (hg:axD ap (au2 w)) (hpr:PRL (au2 w) [E,SC] [ue,us]) (hkn:kn<w.heap.size) (hke:ke<w.heap.size) (hks:ks<w.heap.size)
  (cn:w.cell? ⟨kn,0,none⟩=some (.slice an ns.length cap)) (ce:w.cell? ⟨ke,0,none⟩=some ue) (cs:w.cell? ⟨ks,0,none⟩=some us)
  (hc:0<ns.length→an=some ⟨b,off,none⟩∧b<w.heap.size∧∀ j,j<ns.length→w.cell? ⟨b,off+j,none⟩=some (.string ⟨((ns[j]?).getD []).toArray⟩)):
  SeqStopsK Fence.wide n prog 73 #[.pointer (some ⟨kn,0,none⟩),.pointer (some ⟨ke,0,none⟩),.pointer (some ⟨ks,0,none⟩)] (fun x:Int=> #[Value.int .i64 x]) (Below w.heap.size)
   (fun ys=>ys=axj (fun k=>so ((ns[k]?).getD [])) (fun k=>sp ((ns[k]?).getD [])) ns.length) (fun pre=>pre<+:axj (fun k=>so ((ns[k]?).getD [])) (fun k=>sp ((ns[k]?).getD [])) ns.length) (2*ns.length) w:=by
 intro l J Jx W hW hJ _ hY h0
 have hm:∀ k,k<ns.length→(ns[k]?).getD [] ∈ ns:=fun k hk=>by rw [List.getElem?_eq_getElem hk];exact List.getElem_mem hk
 by_cases h:0<ns.length
 ·obtain ⟨rfl,hb,hcc⟩:=hc h
  exact aKz n hn l kn ke ks w.heap.size b off ns.length cap E SC ue us (fun k=>(ns[k]?).getD []) _ _ hreach (fun k hk=>hso _ (hm k hk)) (fun k hk=>hsp _ (hm k hk)) J Jx W hJ hY hW.size hb hkn hke hks w rfl hW hg hpr cn ce cs hcc h0
 ·have h1:ns.length=0:=by omega
  rw [h1] at cn ⊢
  exact aI2 n l kn ke ks cap an _ _ J Jx W ((hW.cell (p:=⟨kn,0,none⟩) hkn).trans cn) h0
set_option maxRecDepth 100000 in
set_option maxHeartbeats 2000000 in
theorem aKr (E SC:AV) (hck:CO 21 [E] (.ret (.int .i64 0))) (ns:List (List UInt8)) (so sp:List UInt8→Int) (hreach:ns.length*16≤140737488351232)
  (hso:∀ s ∈ ns,CO 14 [E,SC,.int .i64 6,.str s] (.ret (.int .i64 (so s)))) (hsp:∀ s ∈ ns,CO 14 [E,SC,.int .i64 8,.str s] (.ret (.int .i64 (sp s)))) (n:Nat) (hn:4≤n)
  (a1 a2 an:Option Addr) (l1 l2 c1 c2 cap b off:Nat) (w:World) (hg:axD ap (au2 w)) (hpr:PRL (au2 w) [E,SC] [.slice a1 l1 c1,.slice a2 l2 c2])
  (hc:0<ns.length→an=some ⟨b,off,none⟩∧∀ j,j<ns.length→w.cell? ⟨b,off+j,none⟩=some (.string ⟨((ns[j]?).getD []).toArray⟩)):
  CallsIn Fence.wide n prog 17 #[.slice a1 l1 c1,.slice a2 l2 c2,.slice an ns.length cap] w fun e w'=>e= .returned (.bool ((axj (fun k=>so ((ns[k]?).getD [])) (fun k=>sp ((ns[k]?).getD [])) ns.length).all fun x=>decide (x≤1)))∧Below w.heap.size w w':=by
 have h21:Fence.wide.fn 21:=trivial
 have h47:Fence.wide.fn 47:=trivial
 have h1n:1≤n:=by omega
 have ha:Below w.heap.size w (w.alloc (.cells #[.bool false] 4)):=(Below.refl _ w).alloc (Nat.le_refl _) _
 have hpe:PRL (au2 w) [E] [.slice a1 l1 c1]:=by simp only [PRL] at hpr ⊢;exact ⟨hpr.1,trivial⟩
 refine callsIn_of_wp_marks Tryz.func17 rfl trivial ?_ rfl
 simp only [Tryz.ntmps17,List.size_toArray,List.length_cons,List.length_nil,Nat.reduceAdd,Nat.reduceSub,Array.replicate_succ,Array.replicate_zero,List.push_toArray,List.append_toArray,List.nil_append,List.cons_append]
 gi_wp2_with (first
  |(gi_at_call 21;refine (aAH hck (aAf ha hg) (an6 (ax5 ha) _ hpe)).mono ?_;rintro e W1 ⟨rfl,hb1⟩)
  |(gi_at_call 47;refine (aMN a1 a2 an l1 l2 ns.length c1 c2 cap _ _).mono ?_;rintro e W2 ⟨rfl,rfl⟩)
  |gi_in)
 obtain ⟨W3,hW3⟩:∃ W3,((W1.alloc (.cells #[.slice a1 l1 c1] 25)).alloc (.cells #[.slice a2 l2 c2] 27)).alloc (.cells #[.slice an ns.length cap] 29)=W3:=⟨_,rfl⟩
 rw [hW3]
 have hs3:W3.heap.size=W1.heap.size+3:=by rw [← hW3];simp
 have hb3:Below W1.heap.size W1 W3:=by rw [← hW3];exact (((Below.refl _ W1).alloc (Nat.le_refl _) _).alloc (by simp) _).alloc (by simp;omega) _
 have hs1:w.heap.size+1≤W1.heap.size:=by have:=hb1.size;simpa using this
 have hwW1:Below w.heap.size w W1:=ha.trans (hb1.mono (by simp))
 have hw3:Below w.heap.size w W3:=hwW1.trans (hb3.mono (by omega))
 have k1:W3.cell? ⟨W1.heap.size,0,none⟩=some (.slice a1 l1 c1):=by rw [← hW3];exact (((Boxed.new W1 25 (.slice a1 l1 c1)).alloc _).alloc _).cell
 have k2:W3.cell? ⟨W1.heap.size+1,0,none⟩=some (.slice a2 l2 c2):=by
  have:=((Boxed.new (W1.alloc (.cells #[.slice a1 l1 c1] 25)) 27 (.slice a2 l2 c2)).alloc (.cells #[.slice an ns.length cap] 29)).cell
  rw [World.size_alloc] at this
  rw [← hW3];exact this
 have k3:W3.cell? ⟨W1.heap.size+2,0,none⟩=some (.slice an ns.length cap):=by
  have:=(Boxed.new ((W1.alloc (.cells #[.slice a1 l1 c1] 25)).alloc (.cells #[.slice a2 l2 c2] 27)) 29 (.slice an ns.length cap)).cell
  rw [World.size_alloc,World.size_alloc] at this
  rw [← hW3];exact this
 have kc:W3.cell? ⟨w.heap.size,0,none⟩=some (.bool false):=((hb3.cell (p:=⟨w.heap.size,0,none⟩) hs1).trans (hb1.cell (p:=⟨w.heap.size,0,none⟩) (by simp))).trans (Boxed.new w 4 (.bool false)).cell
 have kf:W3.frozen? ⟨w.heap.size,0,none⟩=false:=((hb3.frozen (p:=⟨w.heap.size,0,none⟩) hs1).trans (hb1.frozen (p:=⟨w.heap.size,0,none⟩) (by simp))).trans (Boxed.new w 4 (.bool false)).frozen
 have hc3:0<ns.length→an=some ⟨b,off,none⟩∧b<W3.heap.size∧∀ j,j<ns.length→W3.cell? ⟨b,off+j,none⟩=some (.string ⟨((ns[j]?).getD []).toArray⟩):=by
  intro h
  obtain ⟨h1,h2⟩:=hc h
  have hbl:b<w.heap.size:=World.block_lt_of_cell? w ⟨b,off+0,none⟩ (h2 0 h)
  exact ⟨h1,by omega,fun j hj=>(hw3.cell (p:=⟨b,off+j,none⟩) hbl).trans (h2 j hj)⟩
 have oB:∀ {A B:World} {row:Option Nat},Below w.heap.size w A→A.grownBy B row→(∀ r,row=some r→W3.heap.size≤r∧∃ o:Obj,A.heap[r]? =some o∧o.isCells=false)→Below w.heap.size w B:=
  fun h hg hr=>ownFrom_below (β:=Unit) (n₀:=w.heap.size) (B:=W3.heap.size) (w₀:=w) (Nat.le_refl _) hw3.size () _ _ _ h hg hr
 have oC:∀ {A:World} {D:Nat} {o:Obj} {v:Value},W3.heap.size≤D→A.cell? ⟨w.heap.size,0,none⟩=some v→(A.putObj D o).cell? ⟨w.heap.size,0,none⟩=some v:=
  fun {A D o v} hD hv=>(World.cell?_of_block (World.putObj_heap_other (show w.heap.size ≠ D by omega))).trans hv
 have pB:∀ {A:World} {D:Nat} {o:Obj},W3.heap.size≤D→Below w.heap.size w A→Below w.heap.size w (A.putObj D o):=
  fun {A D o} hD h=>h.trans ((Below.refl _ A).grown (grownBy_putObj' A D o) h.size (fun k e=>by cases e;omega))
 refine wpIn_rangeFunc_ownF rfl h1n (gf:=73) (lb:=#[.pointer (some ⟨W1.heap.size+2,0,none⟩),.pointer (some ⟨W1.heap.size,0,none⟩),.pointer (some ⟨W1.heap.size+1,0,none⟩)]) rfl trivial (enters_of Tryz.func73 (by kernel_rfl) rfl)
  (aHL (n - 1) (by omega) (W1.heap.size+2) W1.heap.size (W1.heap.size+1) b off cap an E SC _ _ ns so sp hreach hso hsp W3 (aAf hw3 hg) (an6 (ax5 hw3) _ hpr) (by omega) (by omega) (by omega) k3 k1 k2 hc3)
  (fun h k=>h.trans k) (fun W l o o' hl h hc hw=>belowK_b (Nat.le_refl _) W l o o' hl h hc hw) (Below.refl _ _) (fun _=>rfl)
  (fun pre W=>(∀ x ∈ pre,x≤1)∧W.cell? ⟨w.heap.size,0,none⟩=some (.bool false)∧W.frozen? ⟨w.heap.size,0,none⟩=false∧Below w.heap.size w W)
  (fun c pre W=>c= .ret∧(∃ x ∈ pre,¬ x≤1)∧W.cell? ⟨w.heap.size,0,none⟩=some (.bool false)∧Below w.heap.size w W)
  (fun s A B row hs hg hr=> ⟨hs.1,cell_kept hs.2.1 hg (fun r e=>(hr r e).2),(frozen_kept hs.2.1 hg (fun r e=>(hr r e).2)).trans hs.2.2.1,oB hs.2.2.2 hg hr⟩)
  (fun c s A B row hs hg hr=> ⟨hs.1,hs.2.1,cell_kept hs.2.2.1 hg (fun r e=>(hr r e).2),oB hs.2.2.2 hg hr⟩)
  ⟨by simp,kc,kf,hw3⟩
  (fun x=> {tmps:=#[.slice a1 l1 c1,.slice a2 l2 c2,.slice an ns.length cap,undef,undef,undef,.pointer (some ⟨w.heap.size,0,none⟩),.int .i64 x,.slice a1 l1 c1,.int .i64 0,.bool false,.slice a1 l1 c1,.slice a2 l2 c2,.slice an ns.length cap,.func (.func 73) #[] #[.pointer (some ⟨W1.heap.size+2,0,none⟩),.pointer (some ⟨W1.heap.size,0,none⟩),.pointer (some ⟨W1.heap.size+1,0,none⟩)],.int .i64 x,undef,undef],defers:= []}) ?assign ?body ?done ?stop
 case assign=>
  intro l x W K hK
  gi_wp2
  exact hK
 case body=>
  rintro l pre x W ⟨hp,hcW,hfW,hbW⟩ _
  by_cases hx:x≤1
  ·have hx1:¬ (1<x):=by omega
   gi_wp2
   exact ⟨KeepsOthers.refl _,Below.refl _ _,(fun y hy=>by rcases List.mem_append.1 hy with h|h;exact hp y h;rw [List.mem_singleton.1 h];exact hx),hcW,hfW,hbW⟩
  ·have hx1:1<x:=by omega
   gi_wp2
   exact ⟨KeepsOthers.setCell _ _ _,rfl,⟨x,by simp,hx⟩,World.cell?_setCell_same' _ _ _ (by rw [hcW];rfl),hbW.setCell (p:=⟨w.heap.size,0,none⟩) (Nat.le_refl _) _⟩
 case done=>
  rintro D xs W hD rfl ⟨hp,hcW,hfW,hbW⟩ hK
  gi_wp2
  have hK':(W.setCell ⟨w.heap.size,0,none⟩ (.bool true)).heap[D]? =some (.deferred (some [])):=(Below.heap_setCell W ⟨w.heap.size,0,none⟩ (.bool true) D (by show D ≠ w.heap.size;omega)).trans hK
  refine ⟨by simp,.inl ⟨_,_,rfl,run_takeDeferred hK', ?_⟩⟩
  refine ⟨_,aPr rfl (oC hD (World.cell?_setCell_same' _ _ _ (by rw [hcW];rfl))), ?_,pB hD (hbW.setCell (p:=⟨w.heap.size,0,none⟩) (Nat.le_refl _) _)⟩
  congr 2
  exact (List.all_eq_true.2 fun x hx=>decide_eq_true (hp x hx)).symm
 case stop=>
  rintro D c pre W hD hSp ⟨rfl,⟨x,hx,hx1⟩,hcW,hbW⟩ hK
  gi_wp2
  refine ⟨by simp,.inl ⟨_,_,rfl,run_takeDeferred hK, ?_⟩⟩
  refine ⟨_,aPr rfl (oC hD hcW), ?_,pB hD hbW⟩
  congr 2
  obtain ⟨r,hr⟩:=hSp
  symm
  rw [Bool.eq_false_iff]
  intro h
  rw [← hr] at h
  have h2:=of_decide_eq_true (List.all_eq_true.1 h x (List.mem_append.2 (.inl hx)))
  omega
def aRj (x:AV):Prop:=x= .nilS∨∃ l n b,x= .sl l n b
theorem aRj.val {S:anR} {x:AV} {v:Value} (h:aRj x) (hv:PR S x v):∃ a l c,v= .slice a l c:=by
 rcases h with rfl|⟨l,n,b,rfl⟩
 ·simp only [PR] at hv;exact ⟨_,_,_,hv⟩
 ·simp only [PR] at hv;obtain ⟨a,cap,rfl,_⟩:=hv;exact ⟨_,_,_,rfl⟩
def aPL (ns:List (List UInt8)) (b:Bool):AV:= .sl (ns.map .str) ns.length b
theorem aPM {S:anR} {ns:List (List UInt8)} {b:Bool} {v:Value} (hv:PR S (aPL ns b) v):∃ an cap k off,v= .slice an ns.length cap∧(0<ns.length→an=some ⟨k,off,none⟩∧∀ j,j<ns.length→S k (off+j)=some (.string ⟨((ns[j]?).getD []).toArray⟩)):=by
 simp only [aPL,PR] at hv
 obtain ⟨a,cap,rfl,_,h⟩:=hv
 rcases h with ⟨rfl,_,h,_⟩|⟨k,off,vs,rfl,h1,h2⟩
 ·exact ⟨none,cap,0,0,rfl,fun hn=>by have:=congrArg List.length h;simp at this;subst this;simp at hn⟩
 ·refine ⟨_,cap,k,off,rfl,fun _=> ⟨rfl,fun j hj=> ?_⟩⟩
  obtain ⟨u,hu,hp⟩:=aKT h1 j (x:= .str ((ns[j]?).getD [])) (by rw [List.getElem?_map,List.getElem?_eq_getElem hj];rfl)
  simp only [PR] at hp
  rw [← hp]
  exact (h2 j u hu).1
theorem aZb:aCq prog 17:=enters_of Tryz.func17 (by kernel_rfl) rfl
theorem aE_ {args:List AV} {b:Bool} (h:∀ w cargs,axD ap (au2 w)→PRL (au2 w) args cargs→CallsIn Fence.wide 9 prog 17 cargs.toArray w fun e w'=>e= .returned (.bool b)∧Below w.heap.size w w'):CO 17 args (.ret (.bool b)):=by
 refine ⟨Nat.le_refl _,aZb, ?_⟩
 intro m S w cargs hS hv
 have hle:SLe S (au2 w):=fun k o v hk=>hS.sealed k o v hk
 have hg:axD ap (au2 w):=by
  intro k xs hk
  obtain ⟨vs,h1,h2⟩:=hS.glob k xs hk
  exact ⟨vs,an6 hle _ h1,fun j u hu=> ⟨hle _ _ _ (h2 j u hu).1,(h2 j u hu).2⟩⟩
 refine (callsIn_wide.1 (h w cargs hg (an6 hle _ (aw0 (m:=m) _ hv)))).mono ?_
 rintro e w' ⟨rfl,hb⟩
 refine ⟨m,S, ?_, ?_,⟨_,rfl, ?_⟩⟩
 ·exact ⟨fun b b' B B' h=>by simp [an3,axg,awY] at h,fun b B h=>by simp [an3,axg,awY] at h,fun k o v h=>ax5 hb k o v (hle k o v h),fun b B h=>by simp [an3,axg,awY] at h,hS.glob⟩
 ·exact ⟨Ge.refl _ _,SLe.refl S,hb.os,hb.tape,hb.output,hb.size,fun k hk _=>hb.block k hk,fun _ B h=>by simp [an3,axg,awY] at h,fun _ _ _ h=> .inl h⟩
 ·simp only [aBG,VR,PR]
theorem aPs (E SC NM:AV) (x:Int) (hx:x ≠ 0) (hck:CO 21 [E] (.ret (.int .i64 x))):CO 17 [E,SC,NM] (.ret (.bool false)):=by
 refine aE_ fun w cargs hg hv=> ?_
 match cargs,hv with
 | [ue,us,un],hv=>
  simp only [PRL] at hv
  exact aMJ E x hx hck 9 (by omega) ue us un w hg (by simp only [PRL];exact ⟨hv.1,trivial⟩)
theorem aPt (E SC:AV) (b:Bool) (hE:aRj E) (hSC:aRj SC) (hck:CO 21 [E] (.ret (.int .i64 0))) (ns:List (List UInt8)) (so sp:List UInt8→Int) (hreach:ns.length*16≤140737488351232)
  (hso:∀ s ∈ ns,CO 14 [E,SC,.int .i64 6,.str s] (.ret (.int .i64 (so s)))) (hsp:∀ s ∈ ns,CO 14 [E,SC,.int .i64 8,.str s] (.ret (.int .i64 (sp s)))):
  CO 17 [E,SC,aPL ns b] (.ret (.bool (ns.all fun s=>decide (so s≤1) && decide (sp s≤1)))):=by
 have e:(ns.all fun s=>decide (so s≤1) && decide (sp s≤1))=(axj (fun k=>so ((ns[k]?).getD [])) (fun k=>sp ((ns[k]?).getD [])) ns.length).all fun x=>decide (x≤1):=by
  have:ns=(List.range ns.length).map fun k=>(ns[k]?).getD []:=by
   apply List.ext_getElem
   ·simp
   ·intro i h1 h2;simp [List.getElem?_eq_getElem h1]
  conv=>lhs;rw [this]
  simp [axj,List.all_flatMap,List.all_map,Function.comp_def]
 rw [e]
 refine aE_ fun w cargs hg hv=> ?_
 match cargs,hv with
 | [ue,us,un],hv=>
  simp only [PRL] at hv
  obtain ⟨h1,h2,h3,_⟩:=hv
  obtain ⟨a1,l1,c1,rfl⟩:=hE.val h1
  obtain ⟨a2,l2,c2,rfl⟩:=hSC.val h2
  obtain ⟨an,cap,k,off,rfl,hn⟩:=aPM h3
  exact aKr E SC hck ns so sp hreach hso hsp 9 (by omega) a1 a2 an l1 l2 c1 c2 cap k off w hg (by simp only [PRL];exact ⟨h1,h2,trivial⟩) fun h=> ⟨(hn h).1,fun j hj=>aAB ((hn h).2 j hj) rfl⟩
end Go.Proofs.Tryz
set_option maxRecDepth 100000
open Go AM
namespace Go.Proofs.Tryz
theorem aSn (so sp:List UInt8→Nat) (x:List UInt8):aSm so sp x=(decide (((so x:Nat):Int)≤1) && decide (((sp x:Nat):Int)≤1)):=by
 unfold aSm
 congr 1
 ·by_cases h:((so x:Nat):Int)≤1
  ·rw [decide_eq_true h,decide_eq_false (by omega)];rfl
  ·rw [decide_eq_false h,decide_eq_true (by omega)];rfl
 ·by_cases h:((sp x:Nat):Int)≤1
  ·rw [decide_eq_true h,decide_eq_false (by omega)];rfl
  ·rw [decide_eq_false h,decide_eq_true (by omega)];rfl
def aLy (cmp:Br→Br→Int) (e:List Nd) (qs:List Sq) (nl:List (List UInt8)):Bool:=
 (aud e==((0:Nat):Int)) && nl.all (aSm (fun x=>ave (ckS cmp) (upS cmp) e (qs.map Sq.c) 6 x) (fun x=>ave (ckS cmp) (upS cmp) e (qs.map Sq.c) 8 x))
theorem axs (e:List Nd) (ne:Bool) (qs:List Sq) (ns:Bool) (cmp:Br→Br→Int) (nl:List (List UInt8)) (nb:Bool) (hsm:∀ y ∈ e,y.sm) (hke:e.length<2^40) (hqs:qs.length<2^40) (hc:aJt 129 cmp qs) (hl:nl.length<2^40):
  CO 17 [.sl (ndL e) e.length ne,.sl (scL (qs.map Sq.c)) qs.length ns,.sl (List.map AV.str nl) nl.length nb] (.ret (.bool (aLy cmp e qs nl))):=by
 have ck:=az_ e ne hsm
 unfold aLy
 by_cases hq:aud e=0
 ·rw [hq] at ck
  have h:=aPt (.sl (ndL e) e.length ne) (.sl (scL (qs.map Sq.c)) qs.length ns) nb (.inr ⟨_,_,_,rfl⟩) (.inr ⟨_,_,_,rfl⟩) ck nl
   (fun x=>((ave (ckS cmp) (upS cmp) e (qs.map Sq.c) 6 x:Nat):Int)) (fun x=>((ave (ckS cmp) (upS cmp) e (qs.map Sq.c) 8 x:Nat):Int)) (by omega)
   (fun x _=>an8 e ne qs ns cmp 6 x hsm hke hqs hc) (fun x _=>an8 e ne qs ns cmp 8 x hsm hke hqs hc)
  rw [hq,show ((0:Int)==((0:Nat):Int))=true from rfl,Bool.true_and]
  rw [show nl.all (aSm (fun x=>ave (ckS cmp) (upS cmp) e (qs.map Sq.c) 6 x) (fun x=>ave (ckS cmp) (upS cmp) e (qs.map Sq.c) 8 x))=nl.all fun s=>decide (((ave (ckS cmp) (upS cmp) e (qs.map Sq.c) 6 s:Nat):Int)≤1) && decide (((ave (ckS cmp) (upS cmp) e (qs.map Sq.c) 8 s:Nat):Int)≤1) from by congr 1;funext x;exact aSn _ _ x]
  exact h
 ·rw [show (aud e==((0:Nat):Int))=false from beq_eq_false_iff_ne.2 hq,Bool.false_and]
  exact aPs _ _ _ (aud e) hq ck
end Go.Proofs.Tryz
