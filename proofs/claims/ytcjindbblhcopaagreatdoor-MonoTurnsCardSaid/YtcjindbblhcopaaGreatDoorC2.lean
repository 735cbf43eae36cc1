/- Contracts of functions that the law reaches, each by its own hypotheses; joined by a program of mine. -/
import Derived.Test.YtcjindbblhcopaaGreatDoorC1
import Derived.Test.YtcjindbblhcopaaGreatDoorM5
import Derived.RangeFuncBox
import Derived.RangeFuncCalls
import Derived.RangeFuncLeaves
import Derived.Shelf.Abstract
import Derived.WalkKit
import Derived.OwnWalkIn
import Derived.TacticsInMore
import Derived.LoopNIn
import Derived.LoopIn
set_option linter.unusedSimpArgs false
set_option linter.unusedVariables false
set_option maxRecDepth 100000
open Go AM
namespace Go.Proofs.Tryz
def ZN (x y:Nat) (na nb:Bool) (p:Nat × Nat):St:=⟨[(0,.sl (ag (aj x)) (aj x).length na),(1,.sl (ag (aj y)) (aj y).length nb),(5,.int .i64 (p.1:Int)),(6,.int .i64 (p.2:Int))],[],.dead,[]⟩
def TQ (q:Nat):St:=⟨[(5,.int .i64 (q:Int))],[],.dead,[]⟩
theorem HK {x d:Nat} (hd:d<16777216):(aj (x*d)).length≤(aj x).length+1:=by
 apply pU
 have h1:=ni x
 have hp:=I9 (aj x).length
 rw [Nat.pow_succ]
 rcases Nat.eq_zero_or_pos d with rfl|h0
 ·rw [Nat.mul_zero];exact Nat.mul_pos hp (by omega)
 ·exact Nat.lt_of_lt_of_le (Nat.mul_lt_mul_of_pos_right h1 h0) (Nat.mul_le_mul_left _ (by omega))
theorem KL {nt:Nat} (hn:26≤nt) (x y:Nat) (na nb:Bool) (hy:0<y) (hxl:(aj x).length<2^36) (hyl:(aj y).length<2^35):∀ (n lo hi:Nat),hi - lo<n→lo≤x / y→x / y≤hi→hi<16777216→aw prog ap [] nt (aa 0 (af f110)) (fun _=> .exit 0) (ZN x y na nb) TQ (lo,hi) (x / y):=by
 intro n
 induction n with
 |zero=>intro lo hi h;omega
 | succ n ih=>
  intro lo hi h h1 h2 h3
  rcases Nat.lt_or_ge lo hi with hlt|hge
  ·have hm1:(lo+hi+1) / 2<16777216:=by omega
   have hc:=xI (y*((lo+hi+1) / 2)) x
   have ht:=BX y ((lo+hi+1) / 2) nb hm1 (by omega)
   have hml:=HK (x:=y) hm1
   have hcm:=EG (aj (y*((lo+hi+1) / 2))) (aj x) true na (aU.dig _) (aU.dig _) (by omega) (by omega)
   have hdiv:=Nat.le_div_iff_mul_le (x:=(lo+hi+1) / 2) (y:=x) hy
   rw [Nat.mul_comm] at hdiv
   have hz:((0:Nat):Int)=0:=rfl
   by_cases hle:y*((lo+hi+1) / 2)≤x
   ·have hmq:=hdiv.2 hle
    refine .next ?_ (ih ((lo+hi+1) / 2) hi (by omega) hmq h2 h3)
    have hb:=TR hn x y (y*((lo+hi+1) / 2)) lo hi (AJ (aj (y*((lo+hi+1) / 2))) (aj x)) na nb
    simp (disch:=first|omega|(simp [ak,au]<;>omega)) only [bi,aW,aY,bV,aV,kS] at hb
    exact hb (hc.2.2 hle) hlt ht hcm
   ·have hmq:x / y<(lo+hi+1) / 2:=Nat.lt_of_not_le (fun hq=>hle (hdiv.1 hq))
    refine .next ?_ (ih lo ((lo+hi+1) / 2 - 1) (by omega) h1 (by omega) (by omega))
    have hb:=TS hn x y (y*((lo+hi+1) / 2)) lo hi (AJ (aj (y*((lo+hi+1) / 2))) (aj x)) na nb
    simp (disch:=first|omega|(simp [ak,au]<;>omega)) only [cU,dB,dW,aY,bi,aW,bV,aV,kS,fF] at hb
    exact hb (fun hq=>hle (hc.2.1 hq)) hlt ht hcm
  ·have he:lo=x / y:=by omega
   have hb:=TT hn x y 0 lo hi 0 na nb (by rw [aY];simp [lit];omega)
   rw [← he]
   exact .done hb
theorem HL (x y:Nat) (na nb:Bool) (hy:0<y) (hxy:x<y*16777216) (hxl:(aj x).length<2^36) (hyl:(aj y).length<2^35):CO 110 [.sl (ag (aj x)) (aj x).length na,.sl (ag (aj y)) (aj y).length nb] (.ret (.int .i64 ((x / y:Nat):Int))):=by
 have hq:x / y<16777216:=by rw [Nat.div_lt_iff_lt_mul hy,Nat.mul_comm];exact hxy
 exact OT x y (x / y) na nb (aw.blk (fun nt hn=>KL hn x y na nb hy hxl hyl 16777216 0 16777215 (by omega) (Nat.zero_le _) (Nat.le_of_lt_succ hq) (by omega)) (by simp) rfl (aK.of ⟨rfl,rfl,rfl,rfl,trivial⟩) (aK.of ⟨rfl,trivial⟩))
theorem iO (l:List UInt8) (c:UInt8):ac (l++ [c])=ac l*256+c.toNat:=by
 unfold ac;rw [List.foldl_append];rfl
theorem toNat_ofNat {x:Nat} (h:x<256):(UInt8.ofNat x).toNat=x:=by
 rw [UInt8.toNat_ofNat'];exact Nat.mod_eq_of_lt h
def bS (o:List Nat):List UInt8:=o.map UInt8.ofNat
theorem Ro (o:List Nat):List.map (fun c=>UInt8.ofNat (Int.toNat (AV.toInt c))) (jl o)=bS o:=by
 unfold jl bS;rw [List.map_map];rfl
theorem EU (l:List Nat) (k:Nat):List.take k (jl l)=jl (l.take k):=by unfold jl;rw [List.map_take]
def He (l:List Nat):Nat→List Nat
 |0=> []
 |k+1=> [l.getD k 0 / 65536,l.getD k 0 / 256 % 256,l.getD k 0 % 256]++He l k
theorem Cz (a b:List Nat):bS (a++b)=bS a++bS b:=by unfold bS;rw [List.map_append]
theorem D9 {l:List Nat} (hl:aU l):∀ (k:Nat) (o:List Nat),k≤l.length→ac (bS (o++He l k))=ac (bS o)*16777216^k+bJ (l.take k)
 |0,o,_=>by simp [He,bJ]
 | k+1,o,h=>by
  simp only [He]
  rw [← List.append_assoc,D9 hl k _ (by omega),ji (by omega)]
  have hd:=hl.getD k
  generalize l.getD k 0=d at*
  have e:ac (bS (o++ [d / 65536,d / 256 % 256,d % 256]))=ac (bS o)*16777216+d:=by
   rw [show o++ [d / 65536,d / 256 % 256,d % 256]=((o++ [d / 65536])++ [d / 256 % 256])++ [d % 256] by simp,Cz,Cz,Cz]
   simp only [bS,List.map_cons,List.map_nil]
   rw [iO,iO,iO,toNat_ofNat (show d / 65536<256 by omega),toNat_ofNat (Nat.mod_lt _ (by omega)),toNat_ofNat (Nat.mod_lt _ (by omega))]
   omega
  rw [e,Nat.add_mul,Nat.pow_succ,Nat.mul_comm (16777216^k) 16777216,Nat.mul_assoc,Nat.mul_comm d]
  omega
def Kg (l:List Nat):AV:=match l with| []=> .nilS|x::l=> .ref 0 0 0 (x::l).length
def Kh (l:List Nat):Hp:=match l with| []=> []|x::l=> [(0,⟨jl (x::l),0,false,0,1,true⟩)]
theorem tj {l:List Nat} (h:l ≠ []):Kg l= .ref 0 0 0 l.length:=by cases l with|nil=>exact absurd rfl h|cons _ _=>rfl
theorem tq {l:List Nat} (h:l ≠ []):Kh l= [(0,⟨jl l,0,false,0,1,true⟩)]:=by cases l with|nil=>exact absurd rfl h|cons _ _=>rfl
def Px (l:List Nat) (nn:Bool) (p:Nat × List Nat):St:=⟨[(0,.sl (ag l) l.length nn),(3,Kg p.2),(4,.int .i64 ((p.1:Int) - 1))],Kh p.2,.dead,[]⟩
def IQ (o:List Nat):St:=⟨[(3,Kg o)],Kh o,.dead,[]⟩
theorem MW (o:List Nat) (a b c:Nat):jl o++ [AV.int .u8 (a:Int),AV.int .u8 (b:Int),AV.int .u8 (c:Int)]=jl (o++ [a,b,c]):=by simp [jl]
theorem NL:(2:Nat)^16=65536:=by decide
theorem VV:(2:Nat)^8=256:=by decide
theorem LU {nt:Nat} (hn:35≤nt) (l:List Nat) (nn:Bool) (hl:l.length<2^36) (hll:aU l):∀ (k:Nat) (o:List Nat),k≤l.length→o.length+3*k=3*l.length→aw prog ap [] nt (aa 0 (af f79)) (fun _=> .exit 0) (Px l nn) IQ (k,o) (o++He l k):=by
 intro k
 induction k with
 | zero=>
  intro o _ _
  simp only [He,List.append_nil]
  refine .done ?_
  unfold Px IQ
  rcases Decidable.em (o= []) with rfl|hne
  ·exact LX hn l [] nn
  ·rw [tj hne,tq hne]
   exact LV hn l o nn
 | succ k ih=>
  intro o hk ho
  have hd:=hll.getD k
  have ek:(((k+1:Nat):Int) - 1)=(k:Int):=by omega
  have ew:IntKind.wrap .i64 ((k:Int) - ((1:Nat):Int))=(k:Int) - 1:=bH (by omega) (by omega)
  have hnext:=ih (o++ [l.getD k 0 / 65536,l.getD k 0 / 256 % 256,l.getD k 0 % 256]) (by omega) (by simp;omega)
  rw [List.append_assoc] at hnext
  simp only [He]
  refine .next ?_ hnext
  unfold Px
  rw [ek]
  generalize hg:l.getD k 0=d at*
  have hne':o++ [d / 65536,d / 256 % 256,d % 256] ≠ []:=by simp
  rcases Decidable.em (o= []) with rfl|hne
  ·have hb:=Pz hn l [] k nn
   simp (disch:=first|omega|(simp [ak,au]<;>omega)) only [av,Nat.mul_one,dA,hg,cJ,cB,aW,aY,bi,ew,aP,show min 16 64=16 from rfl,jZ,NL,QG,Nat.mod_eq_of_lt,show min 8 64=8 from rfl,VV] at hb
   simp only [List.nil_append,Kg,Kh,jl,List.map_cons,List.map_nil,List.length_cons,List.length_nil] at hb ⊢
   apply hb<;>first|exact True.intro|omega|assumption|exact rfl
  ·have hb:=Py hn l o k nn
   rw [tj hne,tq hne,tj hne',tq hne']
   simp (disch:=first|omega|(simp [ak,au]<;>omega)) only [dw,aW,Nat.mul_one,au,av,dA,hg,cJ,cB,aY,bi,ew,EU,List.take_length,aP,show min 16 64=16 from rfl,jZ,NL,QG,Nat.mod_eq_of_lt,show min 8 64=8 from rfl,VV,MW] at hb
   simp only [List.length_append,List.length_cons,List.length_nil]
   apply hb<;>first|exact True.intro|omega|assumption|exact rfl
theorem vI (l:List Nat) (nn:Bool) (hl:l.length<2^36) (hll:aU l):CO 79 [.sl (ag l) l.length nn] (.ret (.str (ae (bJ l)))):=by
 have hloop:=fun nt (hn:35≤nt)=>LU hn l nn hl hll l.length [] (Nat.le_refl _) (by simp)
 have hv:=D9 hll l.length [] (Nat.le_refl _)
 have hbl:(He l l.length).length=3*l.length:=by
  have:∀ k,(He l k).length=3*k:=by
   intro k
   induction k with
   |zero=>rfl
   |succ k ih=>simp only [He,List.length_append,List.length_cons,List.length_nil,ih];omega
  exact this _
 have ew:IntKind.wrap .i64 ((l.length:Int) - ((1:Nat):Int))=(l.length:Int) - 1:=vg (by omega)
 simp only [List.nil_append] at hloop hv
 rw [List.take_length,show ac (bS [])=0 from rfl,Nat.zero_mul,Nat.zero_add] at hv
 generalize He l l.length=o at*
 rcases Decidable.em (o= []) with rfl|hne
 ·rw [← hv]
  exact LY l [] nn (aw.blk hloop (by simp) rfl (aK.of ⟨rfl,rfl,congrArg _ ew,trivial⟩) (aK.of ⟨rfl,trivial⟩)) (dI [] (by simp))
 ·have h:=LW l o nn
  have hc:=dI (bS o) (by simp [bS];omega)
  rw [hv] at hc
  have htk:List.take o.length (jl o)=jl o:=by rw [EU,List.take_length]
  simp (disch:=first|omega|(simp [ak,au]<;>omega)) only [Nat.mul_one,htk,zK,aW,Ro,hv] at h
  apply h<;>first|exact True.intro|omega|assumption|exact rfl|skip
  ·exact au o
  ·have:List.all (jl o) (chk (.int .u8))=true:=by
    rw [List.all_eq_true];intro x hx
    obtain ⟨d,_,rfl⟩:=List.mem_map.1 hx
    rfl
   exact this
  ·exact aw.blk hloop (by simp) rfl (aK.of ⟨rfl,rfl,congrArg _ ew,trivial⟩) (by unfold IQ;rw [tj hne,tq hne];exact aK.of ⟨rfl,trivial⟩)
theorem b_ (x:Nat) (hx:x<9223372036854775808):CO 49 [.int .i64 (x:Int)] (.ret (.str (ae x))):=by
 rcases Nat.eq_zero_or_pos x with rfl|h0
 ·exact P8 0 rfl (dI [] (by simp))
 ·have h:=P7 x
  have e:∀ k,Int.toNat (IntKind.wrap .u8 (Int.fdiv (x:Int) (2^k)))=x / 2^k % 256:=by
   intro k;rw [jZ,QG,av]
  simp only [show min 56 64=56 from rfl,show min 48 64=48 from rfl,show min 40 64=40 from rfl,show min 32 64=32 from rfl,show min 24 64=24 from rfl,show min 16 64=16 from rfl,show min 8 64=8 from rfl,show min 0 64=0 from rfl,e] at h
  have hc:=dI [UInt8.ofNat (x / 2^56 % 256),UInt8.ofNat (x / 2^48 % 256),UInt8.ofNat (x / 2^40 % 256),UInt8.ofNat (x / 2^32 % 256),UInt8.ofNat (x / 2^24 % 256),UInt8.ofNat (x / 2^16 % 256),UInt8.ofNat (x / 2^8 % 256),UInt8.ofNat (x / 2^0 % 256)] (by simp)
  have hv:ac [UInt8.ofNat (x / 2^56 % 256),UInt8.ofNat (x / 2^48 % 256),UInt8.ofNat (x / 2^40 % 256),UInt8.ofNat (x / 2^32 % 256),UInt8.ofNat (x / 2^24 % 256),UInt8.ofNat (x / 2^16 % 256),UInt8.ofNat (x / 2^8 % 256),UInt8.ofNat (x / 2^0 % 256)]=x:=by
   have t:∀ y,(UInt8.ofNat (y % 256)).toNat=y % 256:=fun y=>toNat_ofNat (Nat.mod_lt _ (by omega))
   simp only [ac,List.foldl_cons,List.foldl_nil,t]
   omega
  rw [hv] at hc h
  apply h
  ·rw [aY];exact decide_eq_true h0
  ·exact hc
def NE (s:List UInt8) (k:Nat):St:=⟨[(0,.str s),(4,.int .i64 ((ac (s.take k):Nat):Int)),(5,.int .i64 (k:Int))],[],.dead,[]⟩
def C_ (s:List UInt8) (k:Nat):St:=⟨[(4,.int .i64 ((ac (s.take k):Nat):Int))],[],.dead,[]⟩
theorem wI {s:List UInt8} {k:Nat} (h:k<s.length):ac (s.take (k+1))=ac (s.take k)*256+(s.getD k 0).toNat:=by
 rw [List.take_add_one,List.getElem?_eq_getElem h,List.getD_eq_getElem?_getD,List.getElem?_eq_getElem h]
 exact iO _ _
theorem Ad (s:List UInt8) (k:Nat):ac (s.take k)≤ac s:=by
 rcases Nat.lt_or_ge k s.length with h|h
 ·have e:s=s.take k++s.drop k:=(List.take_append_drop k s).symm
  have:∀ (b a:List UInt8),ac a≤ac (a++b):=by
   intro b
   induction b with
   |nil=>intro a;simp
   |cons c r ih=>
    intro a
    have h1:=ih (a++ [c])
    rw [iO,List.append_assoc] at h1
    simp only [List.cons_append,List.nil_append] at h1
    omega
  calc ac (s.take k)≤ac (s.take k++s.drop k):=this _ _
   _=ac s:=by rw [← e]
 ·rw [List.take_of_length_le h];exact Nat.le_refl _
theorem Ic {nt:Nat} (hn:35≤nt) (s:List UInt8) (hs:s.length<2^40) (hv:ac s<9223372036854775808):∀ (d k:Nat),k+d=s.length→aw prog ap [] nt (aa 0 (af f107)) (fun _=> .exit 0) (NE s) (C_ s) k s.length:=by
 intro d
 induction d with
 |zero=>
  intro k hk
  have hk':k=s.length:=by omega
  subst hk'
  exact .done (PU hn s _ _ (by rw [aY];simp [lit]))
 | succ d ih=>
  intro k hk
  have hks:k<s.length:=by omega
  refine .next ?_ (ih (k+1) (by omega))
  have hb:=PT hn s (ac (s.take k)) k
  rw [av] at hb
  have h1:=Ad s (k+1)
  have h2:=wI hks
  have h3:(s.getD k 0).toNat<256:=UInt8.toNat_lt _
  unfold NE
  rw [h2]
  rw [h2] at h1
  generalize (s.getD k 0).toNat=c at*
  generalize ac (s.take k)=v at*
  have e1:IntKind.wrap .i64 ((v:Int)*2^(min 8 64))=((v*256:Nat):Int):=by
   rw [show min 8 64=8 from rfl,bH]<;>omega
  have e2:(((v*256:Nat):Int))+(c:Int)=((v*256+c:Nat):Int):=by omega
  have e3:IntKind.wrap .i64 (c:Int)=(c:Int):=aV (by omega)
  rw [e3,e1,e2,aV (by omega)] at hb
  simp (disch:=first|omega|(simp [ak,au]<;>omega)) only [cB,aW,aY,bi,bV,aV] at hb
  apply hb<;>first|exact True.intro|omega|assumption|exact rfl
theorem qm {x k:Nat}:(ae x).length≤k↔x<2^(8*k):=by
 constructor
 ·intro h
  have h1:=g_ (ae x)
  rw [aO] at h1
  exact Nat.lt_of_lt_of_le h1 (Nat.pow_le_pow_right (by omega) (by omega))
 ·exact dK
theorem Pb (s:List UInt8) (hs:s.length<2^40) (hv:ac s<9223372036854775808):CO 107 [.str s] (.ret (.tup [.int .i64 ((ac s:Nat):Int),.bool true])):=by
 have hc:=dI s hs
 have hvn:=aO (ac s)
 have hl:(ae (ac s)).length≤8:=dK (Nat.lt_of_lt_of_le hv (by decide))
 have hloop:=fun nt (hn:35≤nt)=>Ic hn (ae (ac s)) (by omega) (by rw [hvn];exact hv) (ae (ac s)).length 0 (by omega)
 have hless:aK ⟨[(4,.int .i64 ((ac s:Nat):Int))],[],.dead,[]⟩ (C_ (ae (ac s)) (ae (ac s)).length):=by
  unfold C_
  rw [List.take_length,hvn]
  exact aK.refl _
 have h2:=Mk s (ac s)
 have h3:=Ml s (ac s)
 have htop:(ae (ac s)).length=8→((ae (ac s)).getD 0 0).toNat≤127:=by
  intro h8
  cases hn:ae (ac s) with
  |nil=>rw [hn] at h8;cases h8
  |cons c r=>
   rw [hn] at h8 hvn
   rw [eJ] at hvn
   have:r.length=7:=by simpa using h8
   rw [this,show 256^7=72057594037927936 from rfl] at hvn
   simp only [List.getD_cons_zero]
   omega
 generalize ae (ac s)=t at*
 by_cases h8:t.length=8
 ·have h127:=htop h8
  simp (disch:=first|omega|(simp [ak,au]<;>omega)) only [aY,cU,dB,dW,h8,aW,jm,decide_true,bi] at h2
  apply h2<;>first|exact True.intro|omega|assumption|exact rfl|skip
  exact aw.blk hloop (by simp) rfl (aK.of ⟨rfl,rfl,rfl,trivial⟩) hless
 ·simp (disch:=first|omega|(simp [ak,au]<;>omega)) only [jm,h8,decide_false,cU,Bool.not_false,aY,dB,dW] at h3
  apply h3<;>first|exact True.intro|omega|assumption|exact rfl|skip
  exact aw.blk hloop (by simp) rfl (aK.of ⟨rfl,rfl,rfl,trivial⟩) hless
theorem jg (s:List UInt8) (b:Nat) (hs:s.length<2^40) (hb:b≤7) (hv:ac s<2^(8*b)):CO 77 [.str s,.int .i64 (b:Int)] (.ret (.tup [.int .i64 ((ac s:Nat):Int),.bool true])):=by
 have h:=WJ s (ac s) b
 have hlt:ac s<9223372036854775808:=Nat.lt_of_lt_of_le hv (Nat.le_trans (Nat.pow_le_pow_right (by omega) (show 8*b≤63 by omega)) (by decide))
 have hl:=qm.2 hv
 simp (disch:=first|omega|(simp [ak,au]<;>omega)) only [aY,cU,dB,dW] at h
 exact h (by omega) (dI s hs) (Pb s hs hlt)
theorem kG (s:List UInt8) (b:Nat) (hs:s.length<2^40) (hv:2^(8*b)≤ac s):CO 77 [.str s,.int .i64 (b:Int)] (.ret (.tup [.int .i64 0,.bool false])):=by
 have h:=WI s 0 b
 have hl:¬ (ae (ac s)).length≤b:=fun h=>by have:=qm.1 h;omega
 simp (disch:=first|omega|(simp [ak,au]<;>omega)) only [aY,bi,aW] at h
 exact h (by omega) (dI s hs)
theorem FO {d:Nat} (h:0<d):cQ d=cQ (d / 2)+1:=by
 rcases Nat.lt_or_ge d 2 with h1|h1
 ·have:d=1:=by omega
  subst this;rfl
 ·have:=mE (x:=d) (k:=1) (by omega)
  rw [Nat.pow_one] at this;omega
def Yg (p:Nat × Nat):St:=⟨[(3,.int .i64 (p.1:Int)),(4,.int .i64 (p.2:Int))],[],.dead,[]⟩
def Rp (n:Nat):St:=⟨[(3,.int .i64 (n:Int))],[],.dead,[]⟩
theorem Kt {nt:Nat} (hn:24≤nt):∀ (b n d:Nat),d<b→d<256→n+cQ d<2^45→aw prog ap [] nt (aa 0 (af f133)) (fun _=> .exit 0) Yg Rp (n,d) (n+cQ d):=by
 intro b
 induction b with
 |zero=>intro n d h;omega
 | succ b ih=>
  intro n d h hd hn1
  rcases Nat.eq_zero_or_pos d with rfl|h0
  ·exact .done (Wl hn n 0 rfl)
  ·have hh:=FO h0
   rw [hh,show n+(cQ (d / 2)+1)=n+1+cQ (d / 2) by omega]
   refine .next ?_ (ih (n+1) (d / 2) (by omega) (by omega) (by omega))
   have hb:=Wk hn n d
   clear ih hh
   simp (disch:=first|omega|(simp [ak,au]<;>omega)) only [aY,bi,aW,bV,aV,kS] at hb
   apply hb<;>first|exact True.intro|omega|assumption|exact rfl
theorem BC (s:List UInt8) (hs:s.length<2^40):CO 133 [.str s] (.ret (.int .i64 ((cQ (ac s):Nat):Int))):=by
 have hc:=dI s hs
 have hvn:=aO (ac s)
 have hR:=tG (ac s)
 have hlen:(ae (ac s)).length≤s.length:=gP (Nat.le_refl _)
 have h0:=PK s 0
 have h1:=PL s (cQ (ac s))
 cases hn:ae (ac s) with
 |nil=>
  rw [hn] at h0 hvn hc
  rw [← hvn]
  exact h0 rfl hc
 | cons c r=>
  rw [hn] at h1 hvn hc hR hlen
  have hc0:c ≠ 0:=by simpa [nR] using hR
  have hcp:0<c.toNat:=by
   rcases Nat.eq_zero_or_pos c.toNat with h|h
   ·exact absurd (by apply UInt8.toNat_inj.1;simpa using h) hc0
   ·exact h
  have hc256:c.toNat<256:=UInt8.toNat_lt c
  have hl:cQ (ac s)=8*r.length+cQ c.toNat:=by
   have e:=ve (x:=c.toNat) (y:=ac r) (8*r.length) hcp (g_ r)
   rw [← e,← hvn,eJ,Nat.mul_comm,show (256:Nat)=2^8 from rfl,← Nat.pow_mul]
  have hb8:cQ c.toNat≤8:=gK (by omega)
  simp only [List.length_cons] at hlen
  have hloop:=fun nt (hn:24≤nt)=>Kt hn 256 (8*r.length) c.toNat hc256 hc256 (by omega)
  rw [← hl] at hloop
  simp only [List.length_cons,List.getD_cons_zero] at h1
  have e1:r.length+1 - 1=r.length:=rfl
  have e2:(((r.length+1:Nat):Int)) - ((1:Nat):Int)=(r.length:Int):=by omega
  have e3:IntKind.wrap .i64 (r.length:Int)=(r.length:Int):=aV (by omega)
  have e4:IntKind.wrap .i64 (((8:Nat):Int)*(r.length:Int))=((8*r.length:Nat):Int):=by rw [bH]<;>omega
  have e5:IntKind.wrap .i64 (c.toNat:Int)=(c.toNat:Int):=aV (by omega)
  rw [e2,e3,e4,e5] at h1
  refine h1 (by rw [aY];exact decide_eq_true (by omega)) (by rw [jm];simp [lit]) hc ?_
  exact aw.blk hloop (by simp) rfl (aK.of ⟨rfl,rfl,trivial⟩) (aK.of ⟨rfl,trivial⟩)
theorem oZ (s:List UInt8):CO 128 [.str s] (.ret (.bool (nR s))):=by
 cases s with
 |nil=>exact Ws [] rfl
 | cons c r=>
  have h:=Wt (c::r)
  have e:(!((((c::r).getD 0 0).toNat:Int)==((0:Nat):Int)))=nR (c::r):=by
   simp only [List.getD_cons_zero,nR]
   by_cases hc:c=0
   ·subst hc;rfl
   ·have:c.toNat ≠ 0:=fun h=>hc (by apply UInt8.toNat_inj.1;simpa using h)
    have h1:((c.toNat:Int)==((0:Nat):Int))=false:=by simp;omega
    rw [h1];simp [hc]
  rw [e] at h
  apply h
  ·simp
  ·simp [lit];omega
theorem rQ:∀ (a b:List UInt8),a.length=b.length→dZ a b=decide (ac a<ac b)
 | [],[],_=>rfl
 | [],_::_,h=>by simp at h
 |_::_,[],h=>by simp at h
 | x::a,y::b,h=>by
  have hl:a.length=b.length:=by simpa using h
  have ih:=rQ a b hl
  have h1:=g_ a
  have h2:=g_ b
  simp only [dZ,ih]
  rw [eJ,eJ,hl,show (256:Nat)=2^8 from rfl,← Nat.pow_mul]
  rw [hl] at h1
  have hxy:decide (x<y)=decide (x.toNat<y.toNat):=by simp [UInt8.lt_iff_toNat_lt]
  have hxe:(x==y)=decide (x.toNat=y.toNat):=by
   by_cases h:x=y
   ·subst h;simp
   ·have:x.toNat ≠ y.toNat:=fun h'=>h (UInt8.toNat_inj.1 h')
    simp [h,this]
  rw [hxy,hxe]
  generalize 2^(8*b.length)=M at*
  generalize ac a=u at*
  generalize ac b=v at*
  generalize x.toNat=p at*
  generalize y.toNat=q at*
  rcases Nat.lt_trichotomy p q with h3|h3|h3
  ·have h4:(p+1)*M≤q*M:=Nat.mul_le_mul_right _ h3
   rw [Nat.add_mul,Nat.one_mul] at h4
   rw [decide_eq_true h3,decide_eq_true (show p*M+u<q*M+v by omega)];rfl
  ·subst h3
   rw [decide_eq_false (Nat.lt_irrefl _),decide_eq_true rfl]
   simp
  ·have h4:(q+1)*M≤p*M:=Nat.mul_le_mul_right _ h3
   rw [Nat.add_mul,Nat.one_mul] at h4
   rw [decide_eq_false (show ¬ p<q by omega),decide_eq_false (show ¬ p=q by omega),decide_eq_false (show ¬ p*M+u<q*M+v by omega)];rfl
theorem su {x y:Nat} (h:(ae x).length<(ae y).length):x<y:=by
 rcases Nat.lt_or_ge x y with h1|h1
 ·exact h1
 ·have h2:y≤ac (ae x):=by rw [aO];exact h1
  have:=gP h2
  omega
theorem Jb (s t:List UInt8) (hs:s.length<2^40) (ht:t.length<2^40):CO 118 [.str s,.str t] (.ret (.int .i64 (nE (ac s) (ac t)))):=by
 have c1:=dI s hs
 have c2:=dI t ht
 have hx:=aO (ac s)
 have hy:=aO (ac t)
 unfold nE
 by_cases hl:(ae (ac s)).length=(ae (ac t)).length
 ·have hb:=rQ _ _ hl
  rw [hx,hy] at hb
  have he:(ae (ac s)==ae (ac t))=decide (ac s=ac t):=by
   by_cases h:ac s=ac t
   ·rw [h];simp
   ·have:ae (ac s) ≠ ae (ac t):=fun h'=>h (IL h')
    simp [h,this]
  have hq:lit false (!((((ae (ac s)).length:Nat):Int)==(((ae (ac t)).length:Nat):Int)))=true:=by rw [hl];simp [lit]
  by_cases h1:ac s<ac t
  ·rw [if_pos h1]
   exact Mh s t (by rw [hb,decide_eq_true h1];rfl) hq c1 c2
  ·rw [if_neg h1]
   by_cases h2:ac t<ac s
   ·rw [if_pos h2]
    exact Mi s t (by rw [hb,he,decide_eq_false h1,decide_eq_false (show ¬ ac s=ac t by omega)];rfl) (by rw [hb,decide_eq_false h1];rfl) hq c1 c2
   ·rw [if_neg h2]
    exact Mj s t (by rw [hb,he,decide_eq_false h1,decide_eq_true (show ac s=ac t by omega)];rfl) (by rw [hb,decide_eq_false h1];rfl) hq c1 c2
 ·have hq:lit true (!((((ae (ac s)).length:Nat):Int)==(((ae (ac t)).length:Nat):Int)))=true:=by rw [jm,decide_eq_false hl];rfl
  by_cases h1:(ae (ac s)).length<(ae (ac t)).length
  ·rw [if_pos (su h1)]
   exact Mf s t (by rw [aY,decide_eq_true h1];rfl) hq c1 c2
  ·have h2:=su (show (ae (ac t)).length<(ae (ac s)).length by omega)
   rw [if_neg (by omega),if_pos h2]
   exact Mg s t (by rw [aY,decide_eq_false h1];rfl) hq c1 c2
theorem VN {nt:Nat} (hn:35≤nt) (s:List UInt8) (o:List Nat) (e d k:Nat) (h0:(decide (((0:Nat):Int)≤(k:Int)))=true) (h1:(decide ((k:Int)<(((List.length s):Nat):Int)))=true) (h2:lit true (decide ((k:Int)<(e:Int)))=true):ah prog ap [] nt (aa 2 (af f78)) ⟨[(0,.str s),(3,.nilS),(4,.int .i64 (e:Int)),(5,.int .i64 (d:Int)),(6,.int .i64 (k:Int))],[],.dead,[]⟩ (.normal) ⟨[(0,.str s),(3,.nilS),(4,.int .i64 (e:Int)),(5,.int .i64 (IntKind.wrap .i64 ((IntKind.wrap .i64 ((d:Int)*((256:Nat):Int)))+(IntKind.wrap .i64 ((UInt8.toNat (List.getD s (Int.toNat (k:Int)) 0):Nat):Int))))),(6,.int .i64 (IntKind.wrap .i64 ((k:Int)+((1:Nat):Int))))],[],.dead,[]⟩:=pJ 78 [] 1 1 (.c h0 (.c h1 (.c h2 .nil))) (.nil) hn
theorem VO {nt:Nat} (hn:35≤nt) (s:List UInt8) (o:List Nat) (e d k:Nat) (h0:lit false (decide ((k:Int)<(e:Int)))=true):ah prog ap [] nt (aa 2 (af f78)) ⟨[(0,.str s),(3,.nilS),(4,.int .i64 (e:Int)),(5,.int .i64 (d:Int)),(6,.int .i64 (k:Int))],[],.dead,[]⟩ (.exit 2) ⟨[(0,.str s),(3,.nilS),(4,.int .i64 (e:Int)),(5,.int .i64 (d:Int))],[],.dead,[]⟩:=pJ 78 [] 1 0 (.c h0 .nil) (.nil) hn
theorem VL {nt:Nat} (hn:35≤nt) (s:List UInt8) (o:List Nat) (e d k:Nat) (h0:(decide (((0:Nat):Int)≤(k:Int)))=true) (h1:(decide ((k:Int)<(((List.length s):Nat):Int)))=true) (h2:lit true (decide ((k:Int)<(e:Int)))=true):ah prog ap [] nt (aa 2 (af f78)) ⟨[(0,.str s),(3,.ref 0 0 0 o.length),(4,.int .i64 (e:Int)),(5,.int .i64 (d:Int)),(6,.int .i64 (k:Int))],[(0,⟨(ag o),0,false,0,1,true⟩)],.dead,[]⟩ (.normal) ⟨[(0,.str s),(3,.ref 0 0 0 o.length),(4,.int .i64 (e:Int)),(5,.int .i64 (IntKind.wrap .i64 ((IntKind.wrap .i64 ((d:Int)*((256:Nat):Int)))+(IntKind.wrap .i64 ((UInt8.toNat (List.getD s (Int.toNat (k:Int)) 0):Nat):Int))))),(6,.int .i64 (IntKind.wrap .i64 ((k:Int)+((1:Nat):Int))))],[(0,⟨(ag o),0,false,0,1,true⟩)],.dead,[]⟩:=pJ 78 [] 1 1 (.c h0 (.c h1 (.c h2 .nil))) (.nil) hn
theorem VM {nt:Nat} (hn:35≤nt) (s:List UInt8) (o:List Nat) (e d k:Nat) (h0:lit false (decide ((k:Int)<(e:Int)))=true):ah prog ap [] nt (aa 2 (af f78)) ⟨[(0,.str s),(3,.ref 0 0 0 o.length),(4,.int .i64 (e:Int)),(5,.int .i64 (d:Int)),(6,.int .i64 (k:Int))],[(0,⟨(ag o),0,false,0,1,true⟩)],.dead,[]⟩ (.exit 2) ⟨[(0,.str s),(3,.ref 0 0 0 o.length),(4,.int .i64 (e:Int)),(5,.int .i64 (d:Int))],[(0,⟨(ag o),0,false,0,1,true⟩)],.dead,[]⟩:=pJ 78 [] 1 0 (.c h0 .nil) (.nil) hn
theorem VH {nt:Nat} (hn:35≤nt) (s:List UInt8) (o:List Nat) (z:Int) (d:Nat) (h0:lit true (decide (((0:Nat):Int)<z))=true) (l0:az prog ap [] 35 (.block 2 (.loop (aa 2 (af f78)))) ⟨[(0,.str s),(2,.dead),(3,.nilS),(4,.int .i64 z),(5,.int .i64 0),(6,.int .i64 (if ((0:Nat):Int)>(IntKind.wrap .i64 (z - ((3:Nat):Int))) then ((0:Nat):Int) else (IntKind.wrap .i64 (z - ((3:Nat):Int))))),(12,.bool (decide (((0:Nat):Int)<z))),(20,.dead)],[],.dead,[]⟩ (.normal) ⟨[(0,.str s),(4,.int .i64 z),(5,.int .i64 (d:Int)),(3,.nilS)],[],.dead,[]⟩):ah prog ap [] nt (aa 0 (af f78)) ⟨[(0,.str s),(3,.nilS),(4,.int .i64 z)],[],.dead,[]⟩ (.normal) ⟨[(0,.str s),(3,.ref 0 0 0 1),(4,.int .i64 (IntKind.wrap .i64 (z - ((3:Nat):Int))))],[(0,⟨[.int .i64 (d:Int)],0,false,0,1,true⟩)],.dead,[]⟩:=pJ 78 [2] 2 1 (.k 3 h0 .nil) (.l l0 .nil) hn
theorem VI {nt:Nat} (hn:35≤nt) (s:List UInt8) (o:List Nat) (z:Int) (d:Nat) (h0:lit false (decide (((0:Nat):Int)<z))=true):ah prog ap [] nt (aa 0 (af f78)) ⟨[(0,.str s),(3,.nilS),(4,.int .i64 z)],[],.dead,[]⟩ (.exit 0) ⟨[(3,.nilS)],[],.dead,[]⟩:=pJ 78 [2] 1 0 (.c h0 .nil) (.nil) hn
theorem PD (s:List UInt8) (o:List Nat) (c0:CO 76 [.str s] (.ret (.str (ae (ac s))))) (l0:az prog ap [] 35 (.block 0 (.loop (aa 0 (af f78)))) ⟨[(0,.str (ae (ac s))),(2,.nilS),(3,.nilS),(4,.int .i64 (((List.length (ae (ac s))):Nat):Int)),(5,.dead),(6,.dead),(12,.dead),(20,.dead)],[],.dead,[]⟩ (.normal) ⟨[(3,.nilS)],[],.dead,[]⟩):CO 78 [.str s] (.ret (.nilS)):=pK [0] 0 0 .nil (.l l0 (.c c0 .nil))
theorem VC {nt:Nat} (hn:35≤nt) (s:List UInt8) (o:List Nat) (z:Int) (d:Nat) (h0:(Nat.ble (o.length+1) 1099511627776)=true) (h1:(Nat.ble (o.length*1) (List.length (ag o)))=true) (h2:lit true (decide (((0:Nat):Int)<z))=true) (l0:az prog ap [] 35 (.block 2 (.loop (aa 2 (af f78)))) ⟨[(0,.str s),(2,.dead),(3,.ref 0 0 0 o.length),(4,.int .i64 z),(5,.int .i64 0),(6,.int .i64 (if ((0:Nat):Int)>(IntKind.wrap .i64 (z - ((3:Nat):Int))) then ((0:Nat):Int) else (IntKind.wrap .i64 (z - ((3:Nat):Int))))),(12,.bool (decide (((0:Nat):Int)<z))),(20,.dead)],[(0,⟨(ag o),0,false,0,1,true⟩)],.dead,[]⟩ (.normal) ⟨[(0,.str s),(4,.int .i64 z),(5,.int .i64 (d:Int)),(3,.ref 0 0 0 o.length)],[(0,⟨(ag o),0,false,0,1,true⟩)],.dead,[]⟩):ah prog ap [] nt (aa 0 (af f78)) ⟨[(0,.str s),(3,.ref 0 0 0 o.length),(4,.int .i64 z)],[(0,⟨(ag o),0,false,0,1,true⟩)],.dead,[]⟩ (.normal) ⟨[(0,.str s),(3,.ref 0 0 0 (o.length+1)),(4,.int .i64 (IntKind.wrap .i64 (z - ((3:Nat):Int))))],[(0,⟨((List.take (o.length*1) (ag o))++ [.int .i64 (d:Int)]),0,false,0,1,true⟩)],.dead,[]⟩:=pJ 78 [2] 1 1 (.k 1 h0 (.c h1 (.k 1 h2 .nil))) (.l l0 .nil) hn
theorem VD {nt:Nat} (hn:35≤nt) (s:List UInt8) (o:List Nat) (z:Int) (d:Nat) (h0:lit false (decide (((0:Nat):Int)<z))=true):ah prog ap [] nt (aa 0 (af f78)) ⟨[(0,.str s),(3,.ref 0 0 0 o.length),(4,.int .i64 z)],[(0,⟨(ag o),0,false,0,1,true⟩)],.dead,[]⟩ (.exit 0) ⟨[(3,.ref 0 0 0 o.length)],[(0,⟨(ag o),0,false,0,1,true⟩)],.dead,[]⟩:=pJ 78 [2] 1 0 (.c h0 .nil) (.nil) hn
theorem PB (s:List UInt8) (o:List Nat) (c0:CO 76 [.str s] (.ret (.str (ae (ac s))))) (l0:az prog ap [] 35 (.block 0 (.loop (aa 0 (af f78)))) ⟨[(0,.str (ae (ac s))),(2,.nilS),(3,.nilS),(4,.int .i64 (((List.length (ae (ac s))):Nat):Int)),(5,.dead),(6,.dead),(12,.dead),(20,.dead)],[],.dead,[]⟩ (.normal) ⟨[(3,.ref 0 0 0 o.length)],[(0,⟨(ag o),0,false,0,1,true⟩)],.dead,[]⟩):CO 78 [.str s] (.ret (.own (List.take (o.length*1) (ag o)) o.length 1)):=pK [0] 0 0 .nil (.l l0 (.c c0 .nil))
def I3 (s:List UInt8) (o:List Nat) (e j k:Nat):St:=⟨[(0,.str s),(3,Cv o),(4,.int .i64 (e:Int)),(5,.int .i64 ((ac ((s.take k).drop j):Nat):Int)),(6,.int .i64 (k:Int))],Cw o,.dead,[]⟩
def I2 (s:List UInt8) (o:List Nat) (e d:Nat):St:=⟨[(0,.str s),(3,Cv o),(4,.int .i64 (e:Int)),(5,.int .i64 (d:Int))],Cw o,.dead,[]⟩
theorem F8 {s:List UInt8} {j k:Nat} (h:k<s.length) (hj:j≤k):ac ((s.take (k+1)).drop j)=ac ((s.take k).drop j)*256+(s.getD k 0).toNat:=by
 rw [List.take_add_one,List.getElem?_eq_getElem h,List.drop_append_of_le_length (by simp;omega),List.getD_eq_getElem?_getD,List.getElem?_eq_getElem h]
 exact iO _ _
theorem EC {s:List UInt8} {j k:Nat} (h:k≤j+3):ac ((s.take k).drop j)<16777216:=by
 have h1:=g_ ((s.take k).drop j)
 have h2:((s.take k).drop j).length≤3:=by simp;omega
 exact Nat.lt_of_lt_of_le h1 (Nat.le_trans (Nat.pow_le_pow_right (by omega) (show 8*((s.take k).drop j).length≤24 by omega)) (by decide))
theorem L6 {nt:Nat} (hn:35≤nt) (s:List UInt8) (o:List Nat) (e j:Nat) (hs:s.length<2^40) (he:e≤s.length) (hj:e≤j+3):∀ (n k:Nat),k+n=e→j≤k→aw prog ap [] nt (aa 2 (af f78)) (fun _=> .exit 2) (I3 s o e j) (I2 s o e) k (ac ((s.take e).drop j)):=by
 intro n
 induction n with
 | zero=>
  intro k hk hjk
  have hke:k=e:=by omega
  subst hke
  refine .done ?_
  unfold I3 I2
  rcases Decidable.em (o= []) with rfl|hne
  ·exact VO hn s [] k _ k (by rw [aY];simp [lit])
  ·rw [dC hne,dD hne]
   exact VM hn s o k _ k (by rw [aY];simp [lit])
 | succ n ih=>
  intro k hk hjk
  refine .next ?_ (ih (k+1) (by omega) (by omega))
  have hks:k<s.length:=by omega
  have h1:=EC (s:=s) (j:=j) (k:=k) (by omega)
  have h3:(s.getD k 0).toNat<256:=UInt8.toNat_lt _
  have h2:=F8 hks hjk
  unfold I3
  rw [h2]
  generalize hc:(s.getD k 0).toNat=c at*
  generalize ac ((s.take k).drop j)=d at*
  clear ih h2
  have e1:IntKind.wrap .i64 ((d:Int)*((256:Nat):Int))=((d*256:Nat):Int):=by rw [bH]<;>omega
  have e4:(((d*256:Nat):Int))+(c:Int)=((d*256+c:Nat):Int):=by omega
  rcases Decidable.em (o= []) with rfl|hne
  ·have hb:=VN hn s [] e d k
   simp (disch:=first|omega|(simp [ak,au]<;>omega)) only [cB,aW,aY,bi,pO,aV,av,hc,e4,bV] at hb
   apply hb<;>first|exact True.intro|omega|assumption|exact rfl
  ·have hb:=VL hn s o e d k
   rw [dC hne,dD hne]
   simp (disch:=first|omega|(simp [ak,au]<;>omega)) only [cB,aW,aY,bi,pO,aV,av,hc,e4,bV] at hb
   apply hb<;>first|exact True.intro|omega|assumption|exact rfl
def F7 (s:List UInt8) (p:Int × List Nat):St:=⟨[(0,.str s),(3,Cv p.2),(4,.int .i64 p.1)],Cw p.2,.dead,[]⟩
def EB (o:List Nat):St:=⟨[(3,Cv o)],Cw o,.dead,[]⟩
theorem L5 {nt:Nat} (hn:35≤nt) (s:List UInt8) (o:List Nat) (e:Nat) (hs:s.length<2^38) (he:e≤s.length) (h0:0<e) (ho:o.length<2^39):
  ah prog ap [] nt (aa 0 (af f78)) (F7 s ((e:Int),o)) .normal (F7 s ((e:Int) - 3,o++ [ac ((s.take e).drop (e - 3))])):=by
 have hloop:=fun nt (hn:35≤nt)=>L6 hn s o e (e - 3) (by omega) he (by omega) (e - (e - 3)) (e - 3) (by omega) (Nat.le_refl _)
 have hw:IntKind.wrap .i64 ((e:Int) - ((3:Nat):Int))=(e:Int) - 3:=bH (by omega) (by omega)
 have hj:(if ((0:Nat):Int)>(e:Int) - 3 then ((0:Nat):Int) else (e:Int) - 3)=((e - 3:Nat):Int):=by
  split<;>omega
 have hd0:ac ((s.take (e - 3)).drop (e - 3))=0:=by
  rw [List.drop_of_length_le (by simp;omega)];rfl
 have hdl:(List.drop (e - 3) (List.take e s)).length≤3:=by simp;omega
 unfold F7
 generalize ac ((s.take e).drop (e - 3))=d at*
 rcases Decidable.em (o= []) with rfl|hne
 ·have hb:=VH hn s [] (e:Int) d
  rw [hw,hj] at hb
  simp (disch:=first|omega|(simp [ak,au]<;>omega)) only [aY,bi,aW] at hb
  simp only [List.nil_append,Cv,Cw,ag,List.map_cons,List.map_nil,List.length_cons,List.length_nil] at hb ⊢
  apply hb
  ·omega
  ·refine aw.blk hloop (by simp) rfl ?_ (aK.of ⟨rfl,rfl,rfl,rfl,trivial⟩)
   unfold I3
   rw [hd0]
   exact aK.of ⟨rfl,rfl,rfl,rfl,rfl,trivial⟩
 ·have hb:=VC hn s o (e:Int) d
  rw [hw,hj] at hb
  rw [dC hne,dD hne,dC (eO _ _),dD (eO _ _)]
  simp (disch:=first|omega|(simp [ak,au]<;>omega)) only [dw,aW,Nat.mul_one,bY,aY,bi,cD,List.take_length,gW] at hb
  simp only [List.length_append,List.length_singleton]
  apply hb<;>first|exact True.intro|omega|assumption|exact rfl|skip
  ·refine aw.blk hloop (by simp) rfl ?_ ?_
   ·unfold I3
    rw [hd0,dC hne,dD hne]
    exact aK.of ⟨rfl,rfl,rfl,rfl,rfl,trivial⟩
   ·unfold I2
    rw [dC hne,dD hne]
    exact aK.of ⟨rfl,rfl,rfl,rfl,trivial⟩
theorem IX {nt:Nat} (hn:35≤nt) (s:List UInt8) (o:List Nat) (z:Int) (hz:z≤0):ah prog ap [] nt (aa 0 (af f78)) (F7 s (z,o)) (.exit 0) (EB o):=by
 unfold F7 EB
 have hc:lit false (decide (((0:Nat):Int)<z))=true:=by simp [lit];exact hz
 rcases Decidable.em (o= []) with rfl|hne
 ·exact VI hn s [] z 0 hc
 ·rw [dC hne,dD hne]
  exact VD hn s o z 0 hc
theorem Rz {s:List UInt8} {e:Nat} (he:e≤s.length):ac (s.take e)=16777216*ac (s.take (e - 3))+ac ((s.take e).drop (e - 3)):=by
 have happ:∀ (b a:List UInt8),ac (a++b)=ac a*256^b.length+ac b:=by
  intro b a
  unfold ac
  rw [List.foldl_append,xQ];rfl
 have hs:s.take e=s.take (e - 3)++(s.take e).drop (e - 3):=by
  have h1:=List.take_append_drop (e - 3) (s.take e)
  rw [List.take_take,Nat.min_eq_left (by omega)] at h1
  exact h1.symm
 have h2:=happ ((s.take e).drop (e - 3)) (s.take (e - 3))
 rw [← hs] at h2
 rw [h2]
 rcases Nat.lt_or_ge e 3 with h3|h3
 ·have:e - 3=0:=by omega
  rw [this];simp [ac]
 ·have:((s.take e).drop (e - 3)).length=3:=by simp;omega
  rw [this,Nat.mul_comm,show 256^3=16777216 from rfl]
theorem IY {nt:Nat} (hn:35≤nt) (s:List UInt8) (hs:s.length<2^38) (hR:nR s=true):∀ (n e:Nat) (o:List Nat),e<n→e≤s.length→o.length+e<2^39→aw prog ap [] nt (aa 0 (af f78)) (fun _=> .exit 0) (F7 s) EB ((e:Int),o) (o++aj (ac (s.take e))):=by
 intro n
 induction n with
 |zero=>intro e o h;omega
 | succ n ih=>
  intro e o h he ho
  rcases Nat.eq_zero_or_pos e with rfl|h0
  ·have:ac (s.take 0)=0:=rfl
   rw [this,di,List.append_nil]
   exact .done (IX hn s o _ (by omega))
  ·have hv:0<ac (s.take e):=by
    cases s with
    |nil=>simp at he;omega
    | cons c r=>
     have hc:c ≠ 0:=by simpa [nR] using hR
     have hcp:0<c.toNat:=by
      rcases Nat.eq_zero_or_pos c.toNat with h|h
      ·exact absurd (by apply UInt8.toNat_inj.1;simpa using h) hc
      ·exact h
     obtain ⟨e',rfl⟩:∃ e',e=e'+1:=⟨e - 1,by omega⟩
     rw [List.take_succ_cons,eJ]
     have:=Nat.mul_pos hcp (show 0<256^(r.take e').length from Nat.pow_pos (by omega))
     omega
   have hch:=Rz he
   have hd:=EC (s:=s) (j:=e - 3) (k:=e) (by omega)
   have hstep:=L5 hn s o e hs he h0 (by omega)
   rw [iU hv,show ac (s.take e) % 16777216=ac ((s.take e).drop (e - 3)) by omega,show ac (s.take e) / 16777216=ac (s.take (e - 3)) by omega]
   rcases Nat.lt_or_ge e 3 with h3|h3
   ·have e3:e - 3=0:=by omega
    have hz:ac (s.take (e - 3))=0:=by rw [e3];rfl
    rw [hz,di]
    exact .next hstep (.done (IX hn s _ _ (by omega)))
   ·have hnext:=ih (e - 3) (o++ [ac ((s.take e).drop (e - 3))]) (by omega) (by omega) (by simp;omega)
    rw [List.append_assoc] at hnext
    rw [show ((e:Int) - 3)=((e - 3:Nat):Int) by omega] at hstep
    exact .next hstep hnext
theorem EM (s:List UInt8) (hs:s.length<2^37):CO 78 [.str s] (.ret (.sl (ag (aj (ac s))) (aj (ac s)).length false)):=by
 have hc:=dI s (by omega)
 have hlen:(ae (ac s)).length≤s.length:=gP (Nat.le_refl _)
 have hvn:=aO (ac s)
 have hloop:=fun nt (hn:35≤nt)=>IY hn (ae (ac s)) (by omega) (tG _) ((ae (ac s)).length+1) (ae (ac s)).length [] (by omega) (Nat.le_refl _) (by simp;omega)
 rw [List.take_length,hvn,List.nil_append] at hloop
 generalize hd:aj (ac s)=o at*
 rcases Decidable.em (o= []) with rfl|hne
 ·have h:=PD s [] hc (aw.blk hloop (by simp) rfl (aK.of ⟨rfl,rfl,rfl,trivial⟩) (aK.of ⟨rfl,trivial⟩))
  exact h.out (fO.ret rfl rfl (aM.nilS false rfl))
 ·have h:=(PB s o hc (aw.blk hloop (by simp) rfl (aK.of ⟨rfl,rfl,rfl,trivial⟩) (by unfold EB;rw [dC hne,dD hne];exact aK.of ⟨rfl,trivial⟩))).thaw (by simp)
  simp only [qC,thaw,Nat.mul_one,cD,List.take_length] at h
  exact h.out (fO.sl1 _ _ _)
theorem ad_ (s t:List UInt8) (x y q r:Nat) (h0:(!((y:Int)==((0:Nat):Int)))=true) (h1:lit false ((((List.length (ae (ac t))):Nat):Int)==((0:Nat):Int))=true) (c0:CO 76 [.str t] (.ret (.str (ae (ac t))))) (c1:CO 77 [.str s,.int .i64 7] (.ret (.tup [.int .i64 (x:Int),.bool true]))) (c2:CO 77 [.str (ae (ac t)),.int .i64 7] (.ret (.tup [.int .i64 (y:Int),.bool true]))) (c3:CO 49 [.int .i64 (IntKind.wrap .i64 (Int.tdiv (x:Int) (y:Int)))] (.ret (.str (ae q)))) (c4:CO 49 [.int .i64 (Int.tmod (x:Int) (y:Int))] (.ret (.str (ae r)))):CO 81 [.str s,.str t] (.ret (.tup [.str (ae q),.str (ae r),.bool true])):=pK [0] 3 6 (.c h0 (.c h0 (.k 2 h1 .nil))) (.c c4 (.c c3 (.c c2 (.c c1 (.c c0 .nil)))))
theorem ad8 (s t:List UInt8) (x y q r m:Nat) (Q:List Nat) (zy:Int) (b2:Bool) (h0:(decide (((0:Nat):Int)≤(((aj (ac s)).length:Nat):Int)))=true) (h1:(decide ((((aj (ac s)).length:Nat):Int)=(((aj (ac s)).length:Nat):Int)))=true) (h2:(decide ((((aj (ac s)).length:Nat):Int)≤((1099511627776:Nat):Int)))=true) (h3:lit false ((((List.length (ae (ac t))):Nat):Int)==((0:Nat):Int))=true) (c0:CO 76 [.str t] (.ret (.str (ae (ac t))))) (c1:CO 77 [.str s,.int .i64 7] (.ret (.tup [.int .i64 0,.bool false]))) (c2:CO 77 [.str (ae (ac t)),.int .i64 7] (.ret (.tup [.int .i64 zy,.bool b2]))) (c3:CO 78 [.str s] (.ret (.sl (ag (aj (ac s))) (aj (ac s)).length false))) (c4:CO 78 [.str (ae (ac t))] (.ret (.sl (ag (aj (ac (ae (ac t))))) (aj (ac (ae (ac t)))).length false))) (l0:az prog ap [] 87 (.block 0 (.loop (aa 0 (af f81)))) ⟨[(0,.str s),(1,.str (ae (ac t))),(4,.str []),(5,.str []),(6,.bool false),(7,.int .i64 0),(8,.bool false),(9,.int .i64 zy),(10,.bool b2),(11,.sl (ag (aj (ac s))) (aj (ac s)).length false),(12,.sl (ag (aj (ac (ae (ac t))))) (aj (ac (ae (ac t)))).length false),(13,.ref 0 0 0 (Int.toNat (((aj (ac s)).length:Nat):Int))),(14,.nilS),(15,.int .i64 (IntKind.wrap .i64 ((((aj (ac s)).length:Nat):Int) - ((1:Nat):Int)))),(20,.bool ((((List.length (ae (ac t))):Nat):Int)==((0:Nat):Int))),(34,.bool false),(54,.dead),(68,.dead)],[(0,⟨(dV (Int.toNat (((aj (ac s)).length:Nat):Int)) [.int .i64 0]),0,false,0,1,true⟩)],.dead,[]⟩ (.normal) ⟨[(13,.ref 0 0 0 m),(14,.sl (ag (aj r)) (aj r).length false)],[(0,⟨(ag Q),0,false,0,1,true⟩)],.dead,[]⟩) (c5:CO 79 [.sl (List.take (m*1) (ag Q)) m true] (.ret (.str (ae q)))) (c6:CO 79 [.sl (ag (aj r)) (aj r).length false] (.ret (.str (ae r)))):CO 81 [.str s,.str t] (.ret (.tup [.str (ae q),.str (ae r),.bool true])):=pK [0] 3 0 (.c h0 (.c h1 (.c h2 (.k 2 h3 .nil)))) (.c c6 (.c c5 (.l l0 (.c c4 (.c c3 (.c c2 (.c c1 (.c c0 .nil))))))))
theorem ad9 (s t:List UInt8) (x y q r m:Nat) (Q:List Nat) (zy:Int) (b2:Bool) (h0:(decide (((0:Nat):Int)≤(((aj (ac s)).length:Nat):Int)))=true) (h1:(decide ((((aj (ac s)).length:Nat):Int)=(((aj (ac s)).length:Nat):Int)))=true) (h2:(decide ((((aj (ac s)).length:Nat):Int)≤((1099511627776:Nat):Int)))=true) (h3:lit false ((((List.length (ae (ac t))):Nat):Int)==((0:Nat):Int))=true) (c0:CO 76 [.str t] (.ret (.str (ae (ac t))))) (c1:CO 77 [.str s,.int .i64 7] (.ret (.tup [.int .i64 (x:Int),.bool true]))) (c2:CO 77 [.str (ae (ac t)),.int .i64 7] (.ret (.tup [.int .i64 0,.bool false]))) (c3:CO 78 [.str s] (.ret (.sl (ag (aj (ac s))) (aj (ac s)).length false))) (c4:CO 78 [.str (ae (ac t))] (.ret (.sl (ag (aj (ac (ae (ac t))))) (aj (ac (ae (ac t)))).length false))) (l0:az prog ap [] 87 (.block 0 (.loop (aa 0 (af f81)))) ⟨[(0,.str s),(1,.str (ae (ac t))),(4,.str []),(5,.str []),(6,.bool false),(7,.int .i64 (x:Int)),(8,.bool true),(9,.int .i64 0),(10,.bool false),(11,.sl (ag (aj (ac s))) (aj (ac s)).length false),(12,.sl (ag (aj (ac (ae (ac t))))) (aj (ac (ae (ac t)))).length false),(13,.ref 0 0 0 (Int.toNat (((aj (ac s)).length:Nat):Int))),(14,.nilS),(15,.int .i64 (IntKind.wrap .i64 ((((aj (ac s)).length:Nat):Int) - ((1:Nat):Int)))),(20,.bool ((((List.length (ae (ac t))):Nat):Int)==((0:Nat):Int))),(34,.bool false),(54,.dead),(68,.dead)],[(0,⟨(dV (Int.toNat (((aj (ac s)).length:Nat):Int)) [.int .i64 0]),0,false,0,1,true⟩)],.dead,[]⟩ (.normal) ⟨[(13,.ref 0 0 0 m),(14,.sl (ag (aj r)) (aj r).length false)],[(0,⟨(ag Q),0,false,0,1,true⟩)],.dead,[]⟩) (c5:CO 79 [.sl (List.take (m*1) (ag Q)) m true] (.ret (.str (ae q)))) (c6:CO 79 [.sl (ag (aj r)) (aj r).length false] (.ret (.str (ae r)))):CO 81 [.str s,.str t] (.ret (.tup [.str (ae q),.str (ae r),.bool true])):=pK [0] 3 2 (.c h0 (.c h1 (.c h2 (.k 2 h3 .nil)))) (.c c6 (.c c5 (.l l0 (.c c4 (.c c3 (.c c2 (.c c1 (.c c0 .nil))))))))
theorem aea {nt:Nat} (hn:87≤nt) (x y r w q p r2 m k:Nat) (c:Int) (Q:List Nat) (h0:(chk (.int .i64) (List.headD (List.drop ((0+(Int.toNat (k:Int)))*1) (List.take ((0+(Int.toNat (k:Int)))*1) (ag Q)++ [.int .i64 (q:Int)]++List.drop (((0+(Int.toNat (k:Int)))*1)+1) (ag Q))) .dead))=true) (h1:(decide (((0:Nat):Int)≤(k:Int)))=true) (h2:(decide ((k:Int)<(m:Int)))=true) (h3:(Nat.ble (((0+(Int.toNat (k:Int)))*1)+1) (List.length (ag Q)))=true) (h4:lit true (decide (((0:Nat):Int)≤c))=true) (h5:(Nat.beq (List.length (ag (aj r))) ((aj r).length*1))=true) (h6:(Nat.ble (1+(aj r).length) 1099511627776)=true) (h7:(chk (.int .i64) (List.headD (List.drop ((Int.toNat (k:Int))*1) (ag (aj x))) .dead))=true) (h8:(decide ((k:Int)<(((aj x).length:Nat):Int)))=true) (h9:lit true (decide (((0:Nat):Int)≤(k:Int)))=true) (c0:CO 108 [.sl (List.take ((1+(aj r).length)*1) ([.int .i64 (AV.toInt (List.headD (List.drop ((Int.toNat (k:Int))*1) (ag (aj x))) .dead))]++(ag (aj r)))) (1+(aj r).length) true] (.ret (.sl (ag (aj w)) (aj w).length false))) (c1:CO 109 [.sl (ag (aj w)) (aj w).length false,.sl (ag (aj y)) (aj y).length false] (.ret (.int .i64 c))) (c2:CO 110 [.sl (ag (aj w)) (aj w).length false,.sl (ag (aj y)) (aj y).length false] (.ret (.int .i64 (q:Int)))) (c3:CO 112 [.sl (ag (aj y)) (aj y).length false,.int .i64 (AV.toInt (List.headD (List.drop ((0+(Int.toNat (k:Int)))*1) (List.take ((0+(Int.toNat (k:Int)))*1) (ag Q)++ [.int .i64 (q:Int)]++List.drop (((0+(Int.toNat (k:Int)))*1)+1) (ag Q))) .dead))] (.ret (.sl (ag (aj p)) (aj p).length true))) (c4:CO 111 [.sl (ag (aj w)) (aj w).length false,.sl (ag (aj p)) (aj p).length true] (.ret (.sl (ag (aj r2)) (aj r2).length false))):ah prog ap [] nt (aa 0 (af f81)) ⟨[(11,.sl (ag (aj x)) (aj x).length false),(12,.sl (ag (aj y)) (aj y).length false),(13,.ref 0 0 0 m),(14,.sl (ag (aj r)) (aj r).length false),(15,.int .i64 (k:Int))],[(0,⟨(ag Q),0,false,0,1,true⟩)],.dead,[]⟩ (.normal) ⟨[(11,.sl (ag (aj x)) (aj x).length false),(12,.sl (ag (aj y)) (aj y).length false),(13,.ref 0 0 0 m),(14,.sl (ag (aj r2)) (aj r2).length false),(15,.int .i64 (IntKind.wrap .i64 ((k:Int) - ((1:Nat):Int))))],[(0,⟨(List.take ((0+(Int.toNat (k:Int)))*1) (ag Q)++ [.int .i64 (q:Int)]++List.drop (((0+(Int.toNat (k:Int)))*1)+1) (ag Q)),0,false,0,1,true⟩)],.dead,[]⟩:=pJ 81 [] 2 3 (.c h0 (.c h1 (.c h2 (.c h3 (.c h1 (.c h2 (.c h4 (.c h5 (.c h6 (.k 2 h7 (.c h1 (.c h8 (.c h9 .nil))))))))))))) (.c c4 (.c c3 (.c c2 (.c c1 (.c c0 .nil))))) hn
theorem aeb {nt:Nat} (hn:87≤nt) (x y r w q p r2 m k:Nat) (c:Int) (Q:List Nat) (h0:lit false (decide (((0:Nat):Int)≤c))=true) (h1:(Nat.beq (List.length (ag (aj r))) ((aj r).length*1))=true) (h2:(Nat.ble (1+(aj r).length) 1099511627776)=true) (h3:(chk (.int .i64) (List.headD (List.drop ((Int.toNat (k:Int))*1) (ag (aj x))) .dead))=true) (h4:(decide (((0:Nat):Int)≤(k:Int)))=true) (h5:(decide ((k:Int)<(((aj x).length:Nat):Int)))=true) (h6:lit true (decide (((0:Nat):Int)≤(k:Int)))=true) (c0:CO 108 [.sl (List.take ((1+(aj r).length)*1) ([.int .i64 (AV.toInt (List.headD (List.drop ((Int.toNat (k:Int))*1) (ag (aj x))) .dead))]++(ag (aj r)))) (1+(aj r).length) true] (.ret (.sl (ag (aj w)) (aj w).length false))) (c1:CO 109 [.sl (ag (aj w)) (aj w).length false,.sl (ag (aj y)) (aj y).length false] (.ret (.int .i64 c))):ah prog ap [] nt (aa 0 (af f81)) ⟨[(11,.sl (ag (aj x)) (aj x).length false),(12,.sl (ag (aj y)) (aj y).length false),(13,.ref 0 0 0 m),(14,.sl (ag (aj r)) (aj r).length false),(15,.int .i64 (k:Int))],[(0,⟨(ag Q),0,false,0,1,true⟩)],.dead,[]⟩ (.normal) ⟨[(11,.sl (ag (aj x)) (aj x).length false),(12,.sl (ag (aj y)) (aj y).length false),(13,.ref 0 0 0 m),(14,.sl (ag (aj w)) (aj w).length false),(15,.int .i64 (IntKind.wrap .i64 ((k:Int) - ((1:Nat):Int))))],[(0,⟨(ag Q),0,false,0,1,true⟩)],.dead,[]⟩:=pJ 81 [] 2 1 (.c h0 (.c h1 (.c h2 (.k 2 h3 (.c h4 (.c h5 (.c h6 .nil))))))) (.c c1 (.c c0 .nil)) hn
theorem Wi {nt:Nat} (hn:87≤nt) (x y r w q p r2 m k:Nat) (c:Int) (Q:List Nat):ah prog ap [] nt (aa 0 (af f81)) ⟨[(11,.sl (ag (aj x)) (aj x).length false),(12,.sl (ag (aj y)) (aj y).length false),(13,.ref 0 0 0 m),(14,.sl (ag (aj r)) (aj r).length false),(15,.int .i64 (-1))],[(0,⟨(ag Q),0,false,0,1,true⟩)],.dead,[]⟩ (.exit 0) ⟨[(13,.ref 0 0 0 m),(14,.sl (ag (aj r)) (aj r).length false)],[(0,⟨(ag Q),0,false,0,1,true⟩)],.dead,[]⟩:=pJ 81 [] 1 0 (.n 1 .nil) (.nil) hn
def rD (x y m k:Nat):List Nat:=(List.range m).map fun i=>if i<k then 0 else x / 16777216^i / y % 16777216
theorem oU (x y m k:Nat):(rD x y m k).length=m:=by simp [rD]
theorem Mb {x y m k:Nat} (hk:k<m):(rD x y m (k+1)).set k (x / 16777216^k / y % 16777216)=rD x y m k:=by
 apply List.ext_getElem?
 intro i
 rw [List.getElem?_set,oU]
 unfold rD
 by_cases hi:k=i
 ·subst hi;simp [hk]
 ·rw [if_neg hi]
  by_cases him:i<m
  ·simp only [List.getElem?_map,List.getElem?_range him,Option.map_some]
   by_cases h1:i<k
   ·rw [if_pos (by omega),if_pos h1]
   ·rw [if_neg (by omega),if_neg h1]
  ·rw [List.getElem?_eq_none (by simp;omega),List.getElem?_eq_none (by simp;omega)]
theorem yn (x y m:Nat):rD x y m m=List.replicate m 0:=by
 unfold rD
 apply List.ext_getElem?
 intro i
 by_cases him:i<m
 ·simp [him]
 ·rw [List.getElem?_eq_none (by simp;omega),List.getElem?_eq_none (by simp;omega)]
theorem Ma (x y m k:Nat):aU (rD x y m k):=by
 intro d hd
 obtain ⟨i,_,rfl⟩:=List.mem_map.1 hd
 show (if i<k then 0 else _)<_
 split<;>omega
theorem JS (z:Nat):∀ m,bJ ((List.range m).map fun i=>z / 16777216^i % 16777216)=z % 16777216^m:=by
 intro m
 induction m with
 |zero=>simp [bJ,Nat.mod_one]
 |succ m ih=>
  rw [List.range_succ,List.map_append,qF,ih,List.length_map,List.length_range,Nat.pow_succ,Nat.mod_mul]
  simp only [List.map_cons,List.map_nil,bJ,Nat.mul_zero,Nat.add_zero]
theorem Mc {x y m:Nat} (h:x / y<16777216^m):bJ (rD x y m 0)=x / y:=by
 have e:rD x y m 0=(List.range m).map fun i=>x / y / 16777216^i % 16777216:=by
  unfold rD
  apply List.map_congr_left
  intro i _
  rw [if_neg (by omega),Nat.div_div_eq_div_mul,Nat.div_div_eq_div_mul,Nat.mul_comm]
 rw [e,JS,Nat.mod_eq_of_lt h]
theorem HJ:∀ (k x:Nat),(aj x).getD k 0=x / 16777216^k % 16777216:=by
 intro k
 induction k with
 |zero=>
  intro x
  rcases Nat.eq_zero_or_pos x with rfl|h
  ·rw [di];rfl
  ·rw [iU h];simp
 |succ k ih=>
  intro x
  rcases Nat.eq_zero_or_pos x with rfl|h
  ·rw [di];simp
  ·rw [iU h,List.getD_cons_succ,ih,Nat.div_div_eq_div_mul,Nat.pow_succ,Nat.mul_comm]
theorem Ee {V R' Q' x H:Nat} (hV:0<V) (h:H=V*Q'+R'):(x+16777216*H) / V=16777216*Q'+(x+16777216*R') / V∧(x+16777216*H) % V=(x+16777216*R') % V:=by
 subst h
 have e:x+16777216*(V*Q'+R')=x+16777216*R'+V*(16777216*Q'):=by
  rw [Nat.mul_add,Nat.mul_left_comm];omega
 rw [e]
 constructor
 ·rw [Nat.add_mul_div_left _ _ hV,Nat.add_comm]
 ·rw [Nat.add_mul_mod_self_left]
def F_ (x y m k:Nat):St:=⟨[(11,.sl (ag (aj x)) (aj x).length false),(12,.sl (ag (aj y)) (aj y).length false),(13,.ref 0 0 0 m),(14,.sl (ag (aj (x / 16777216^k % y))) (aj (x / 16777216^k % y)).length false),(15,.int .i64 ((k:Int) - 1))],[(0,⟨ag (rD x y m k),0,false,0,1,true⟩)],.dead,[]⟩
theorem aed {nt:Nat} (hn:87≤nt) (x y r w q p r2 m k d:Nat) (c:Int) (Q Q2:List Nat) (hk:k<(aj x).length) (hd:(aj x).getD k 0=d) (hQ:Q.length=m) (hkm:k<m) (hm:m<2^40) (hrl:(aj r).length<2^39) (hset:Q.set k q=Q2) (hc:0≤c)
  (c0:CO 108 [.sl (ag (d::aj r)) (1+(aj r).length) true] (.ret (.sl (ag (aj w)) (aj w).length false)))
  (c1:CO 109 [.sl (ag (aj w)) (aj w).length false,.sl (ag (aj y)) (aj y).length false] (.ret (.int .i64 c)))
  (c2:CO 110 [.sl (ag (aj w)) (aj w).length false,.sl (ag (aj y)) (aj y).length false] (.ret (.int .i64 (q:Int))))
  (c3:CO 112 [.sl (ag (aj y)) (aj y).length false,.int .i64 (q:Int)] (.ret (.sl (ag (aj p)) (aj p).length true)))
  (c4:CO 111 [.sl (ag (aj w)) (aj w).length false,.sl (ag (aj p)) (aj p).length true] (.ret (.sl (ag (aj r2)) (aj r2).length false))):
  ah prog ap [] nt (aa 0 (af f81)) ⟨[(11,.sl (ag (aj x)) (aj x).length false),(12,.sl (ag (aj y)) (aj y).length false),(13,.ref 0 0 0 m),(14,.sl (ag (aj r)) (aj r).length false),(15,.int .i64 (k:Int))],[(0,⟨ag Q,0,false,0,1,true⟩)],.dead,[]⟩ .normal
   ⟨[(11,.sl (ag (aj x)) (aj x).length false),(12,.sl (ag (aj y)) (aj y).length false),(13,.ref 0 0 0 m),(14,.sl (ag (aj r2)) (aj r2).length false),(15,.int .i64 ((k:Int) - 1))],[(0,⟨ag Q2,0,false,0,1,true⟩)],.dead,[]⟩:=by
 have hb:=aea hn x y r w q p r2 m k c Q
 have ew:IntKind.wrap .i64 ((k:Int) - ((1:Nat):Int))=(k:Int) - 1:=bH (by omega) (by omega)
 have hset':=Em (l:=Q) (j:=k) (by omega) q
 rw [hset] at hset'
 have hg2:Q2.getD k 0=q:=by rw [← hset,List.getD_eq_getElem?_getD,List.getElem?_set_self (by omega)];rfl
 have hl2:Q2.length=m:=by rw [← hset];simp [hQ]
 have htk:List.take (1+(aj r).length) (ag (d::aj r))=ag (d::aj r):=by rw [cD,List.take_of_length_le (by simp;omega)]
 have hz:(((0:Nat):Int)≤c)=True:=by simp [hc]
 simp (disch:=first|omega|(simp [ak,au]<;>omega)) only [av,Nat.zero_add,Nat.mul_one,hset',dA,hg2,cJ,cB,aW,aY,bY,dw,hz,decide_true,bi,zK,hd,aP,A8,htk,ew] at hb
 apply hb<;>first|exact True.intro|omega|assumption|exact rfl
theorem aec {nt:Nat} (hn:87≤nt) (x y r w m k d:Nat) (c:Int) (Q:List Nat) (hk:k<(aj x).length) (hd:(aj x).getD k 0=d) (hQ:Q.length=m) (hkm:k<m) (hm:m<2^40) (hrl:(aj r).length<2^39) (hc:c<0)
  (c0:CO 108 [.sl (ag (d::aj r)) (1+(aj r).length) true] (.ret (.sl (ag (aj w)) (aj w).length false)))
  (c1:CO 109 [.sl (ag (aj w)) (aj w).length false,.sl (ag (aj y)) (aj y).length false] (.ret (.int .i64 c))):
  ah prog ap [] nt (aa 0 (af f81)) ⟨[(11,.sl (ag (aj x)) (aj x).length false),(12,.sl (ag (aj y)) (aj y).length false),(13,.ref 0 0 0 m),(14,.sl (ag (aj r)) (aj r).length false),(15,.int .i64 (k:Int))],[(0,⟨ag Q,0,false,0,1,true⟩)],.dead,[]⟩ .normal
   ⟨[(11,.sl (ag (aj x)) (aj x).length false),(12,.sl (ag (aj y)) (aj y).length false),(13,.ref 0 0 0 m),(14,.sl (ag (aj w)) (aj w).length false),(15,.int .i64 ((k:Int) - 1))],[(0,⟨ag Q,0,false,0,1,true⟩)],.dead,[]⟩:=by
 have hb:=aeb hn x y r w 0 0 0 m k c Q
 have ew:IntKind.wrap .i64 ((k:Int) - ((1:Nat):Int))=(k:Int) - 1:=bH (by omega) (by omega)
 have htk:List.take (1+(aj r).length) (ag (d::aj r))=ag (d::aj r):=by rw [cD,List.take_of_length_le (by simp;omega)]
 have hz:(((0:Nat):Int)≤c)=False:=by simp [hc]
 simp (disch:=first|omega|(simp [ak,au]<;>omega)) only [hz,decide_false,cU,Bool.not_false,bY,Nat.mul_one,zK,decide_true,dw,aW,av,dA,hd,cJ,cB,aY,bi,aP,A8,htk,ew] at hb
 apply hb<;>first|exact True.intro|omega|assumption|exact rfl
theorem L9 (x y m k:Nat) (hy:0<y) (hk:k<m):∃ d r w:Nat,(aj x).getD k 0=d∧x / 16777216^(k+1) % y=r∧d+16777216*r=w∧d<16777216∧r<y∧x / 16777216^k % y=w % y∧(rD x y m (k+1)).set k (w / y)=rD x y m k∧(rD x y m (k+1)).getD k 0=0:=by
 have hdl:=Nat.mod_lt (x / 16777216^k) (show 0<16777216 by omega)
 have hrl:=Nat.mod_lt (x / 16777216^(k+1)) hy
 refine ⟨x / 16777216^k % 16777216,x / 16777216^(k+1) % y,_,HJ k x,rfl,rfl,hdl,hrl, ?_, ?_, ?_⟩
 ·have hdm:=Nat.div_add_mod (x / 16777216^(k+1)) y
  obtain ⟨_,v2⟩:=Ee (x:=x / 16777216^k % 16777216) hy hdm.symm
  have hH:x / 16777216^k % 16777216+16777216*(x / 16777216^(k+1))=x / 16777216^k:=by
   rw [Nat.pow_succ,← Nat.div_div_eq_div_mul];omega
  rw [hH] at v2
  exact v2
 ·have hdm:=Nat.div_add_mod (x / 16777216^(k+1)) y
  obtain ⟨v1,_⟩:=Ee (x:=x / 16777216^k % 16777216) hy hdm.symm
  have hH:x / 16777216^k % 16777216+16777216*(x / 16777216^(k+1))=x / 16777216^k:=by
   rw [Nat.pow_succ,← Nat.div_div_eq_div_mul];omega
  rw [hH] at v1
  have hset:=Mb (x:=x) (y:=y) hk
  rw [v1] at hset
  have hwl:x / 16777216^k % 16777216+16777216*(x / 16777216^(k+1) % y)<y*16777216:=by omega
  have hql:(x / 16777216^k % 16777216+16777216*(x / 16777216^(k+1) % y)) / y<16777216:=by rw [Nat.div_lt_iff_lt_mul hy,Nat.mul_comm 16777216 y];exact hwl
  rw [Nat.mul_add_mod,Nat.mod_eq_of_lt hql] at hset
  exact hset
 ·unfold rD;rw [List.getD_eq_getElem?_getD];simp [hk]
theorem Fv {w y:Nat} (h:w<y*16777216):(aj w).length≤(aj y).length+1:=by
 apply pU
 have h1:=ni y
 rw [Nat.pow_succ]
 exact Nat.lt_trans h (Nat.mul_lt_mul_of_pos_right h1 (by omega))
theorem L_ {nt:Nat} (hn:87≤nt) (x y m k:Nat) (hy:0<y) (hm:(aj x).length=m) (hk:k<m) (hxl:m<2^35) (hyl:(aj y).length<2^34):ah prog ap [] nt (aa 0 (af f81)) (F_ x y m (k+1)) .normal (F_ x y m k):=by
 obtain ⟨d,r,w,hd,hr,hw,hdl,hrl,hmod,hset,hq0⟩:=L9 x y m k hy hk
 have hQl:=oU x y m (k+1)
 unfold F_
 rw [show (((k+1:Nat):Int) - 1)=(k:Int) by omega,hr,hmod]
 have hwl:w<y*16777216:=by omega
 have hrm:=j_ (Nat.le_of_lt hrl)
 have htr:=qx (d::aj r) true (by simp;omega)
 rw [EZ (aU.cons hdl (aU.dig r))] at htr
 simp only [bJ,eu,hw,List.length_cons] at htr
 rw [Nat.add_comm (aj r).length 1] at htr
 have htr2:=htr.out (fO.sl1 _ _ _)
 have hql:w / y<16777216:=by rw [Nat.div_lt_iff_lt_mul hy,Nat.mul_comm];exact hwl
 have hwd:=Fv hwl
 have hcm:=EG (aj w) (aj y) false false (aU.dig _) (aU.dig _) (by omega) (by omega)
 have hcs:=xI w y
 generalize rD x y m k=Q2 at*
 generalize rD x y m (k+1)=Q1 at*
 by_cases hc:0≤AJ (aj w) (aj y)
 ·have hyw:=hcs.1.1 hc
  have hdig:=HL w y false false hy hwl (by omega) (by omega)
  have htm:=BX y (w / y) false hql (by omega)
  have hle:y*(w / y)≤w:=Nat.mul_div_le w y
  have hmi:=IC w (y*(w / y)) false true hle (by omega)
  have hmd:w - y*(w / y)=w % y:=by have:=Nat.div_add_mod w y;omega
  rw [hmd] at hmi
  exact aed hn x y r w (w / y) (y*(w / y)) (w % y) m k d _ Q1 Q2 (by omega) hd hQl hk (by omega) (by omega) hset hc htr2 hcm hdig htm hmi
 ·have hyw:w<y:=Nat.lt_of_not_le (fun h=>hc (hcs.1.2 h))
  have hw0:w / y=0:=Nat.div_eq_of_lt hyw
  rw [Nat.mod_eq_of_lt hyw]
  rw [hw0] at hset
  have hsame:Q1.set k 0=Q1:=by
   apply List.ext_getElem?
   intro i
   rw [List.getElem?_set]
   by_cases hi:k=i
   ·subst hi
    rw [List.getD_eq_getElem?_getD,List.getElem?_eq_getElem (by omega)] at hq0
    rw [if_pos rfl,if_pos (by omega),List.getElem?_eq_getElem (by omega)]
    simpa using hq0.symm
   ·rw [if_neg hi]
  rw [hsame] at hset
  subst hset
  exact aec hn x y r w m k d _ Q1 (by omega) hd hQl hk (by omega) (by omega) (by omega) htr2 hcm
def EF (x y m k:Nat):St:=⟨[(13,.ref 0 0 0 m),(14,.sl (ag (aj (x / 16777216^k % y))) (aj (x / 16777216^k % y)).length false)],[(0,⟨ag (rD x y m k),0,false,0,1,true⟩)],.dead,[]⟩
theorem L8 {nt:Nat} (hn:87≤nt) (x y m:Nat) (hy:0<y) (hm:(aj x).length=m) (hxl:m<2^35) (hyl:(aj y).length<2^34):∀ k,k≤m→aw prog ap [] nt (aa 0 (af f81)) (fun _=> .exit 0) (F_ x y m) (EF x y m) k 0:=by
 intro k
 induction k with
 |zero=>
  intro _
  refine .done ?_
  unfold EF
  have h:=Wi hn x y (x / 16777216^0 % y) 0 0 0 0 m 0 0 (rD x y m 0)
  exact h
 |succ k ih=>exact fun hk=> .next (L_ hn x y m k hy hm (by omega) hxl hyl) (ih (by omega))
theorem yB {s:List UInt8}:(aj (ac s)).length≤s.length:=by
 apply pU
 have h:=g_ s
 refine Nat.lt_of_lt_of_le h ?_
 rw [show (16777216:Nat)=2^24 from rfl,← Nat.pow_mul]
 exact Nat.pow_le_pow_right (by omega) (by omega)
theorem lj (s t:List UInt8) (hs:s.length<2^33) (ht:t.length<2^33) (h0:0<ac t):CO 81 [.str s,.str t] (.ret (.tup [.str (ae (ac s / ac t)),.str (ae (ac s % ac t)),.bool true])):=by
 have hc:=dI t (by omega)
 have hvn:=aO (ac t)
 have htl:(ae (ac t)).length≤t.length:=gP (Nat.le_refl _)
 have hne:ae (ac t) ≠ []:=fun h=>by have:=fT.1 h;omega
 have hnl:0<(ae (ac t)).length:=by
  cases hq:ae (ac t) with
  |nil=>exact absurd hq hne
  |cons _ _=>simp
 have hnz:((ae (ac t)).length=0)=False:=by simp;exact hne
 have e7:((7:Nat):Int)=7:=rfl
 by_cases hb:ac s<2^(8*7)∧ac t<2^(8*7)
 ·have hsm1:=jg s 7 (by omega) (by omega) hb.1
  have hsm2:=jg (ae (ac t)) 7 (by omega) (by omega) (by rw [hvn];exact hb.2)
  rw [hvn] at hsm2
  have hx63:ac s<9223372036854775808:=Nat.lt_of_lt_of_le hb.1 (by decide)
  have hy63:ac t<9223372036854775808:=Nat.lt_of_lt_of_le hb.2 (by decide)
  have q1:=Nat.div_le_self (ac s) (ac t)
  have q2:=Nat.mod_le (ac s) (ac t)
  have o1:=b_ (ac s / ac t) (by omega)
  have o2:=b_ (ac s % ac t) (by omega)
  have h:=ad_ s t (ac s) (ac t) (ac s / ac t) (ac s % ac t)
  have ht0:(ac t=0)=False:=by simp;omega
  clear hb hs
  simp (disch:=first|omega|(simp [ak,au]<;>omega)) only [jm,ht0,decide_false,Bool.not_false,hnz,cU,kS,aV,qN] at h
  apply h<;>first|exact True.intro|omega|assumption|exact rfl
 ·have hof1:=EM s (by omega)
  have hof2:=EM (ae (ac t)) (by omega)
  rw [hvn] at hof2
  have hxl:=yB (s:=s)
  have hyl:=yB (s:=t)
  have hloop:=fun nt (hn:87≤nt)=>L8 hn (ac s) (ac t) _ h0 rfl (by omega) (by omega) _ (Nat.le_refl _)
  have hQl:=oU (ac s) (ac t) (aj (ac s)).length 0
  have hqv:bJ (rD (ac s) (ac t) (aj (ac s)).length 0)=ac s / ac t:=Mc (Nat.lt_of_le_of_lt (Nat.div_le_self _ _) (ni _))
  have hn1:=vI (rD (ac s) (ac t) (aj (ac s)).length 0) true (by omega) (Ma _ _ _ _)
  rw [hqv,hQl] at hn1
  have hr0:ac s / 16777216^0 % ac t=ac s % ac t:=by rw [Nat.pow_zero,Nat.div_one]
  have hrm:=j_ (Nat.le_of_lt (Nat.mod_lt (ac s) h0))
  have hn2:=vI (aj (ac s % ac t)) false (by omega) (aU.dig _)
  rw [eu] at hn2
  have hz0:ac s / 16777216^(aj (ac s)).length % ac t=0:=by rw [Nat.div_eq_of_lt (ni _),Nat.zero_mod]
  have hwl:IntKind.wrap .i64 ((((aj (ac s)).length:Nat):Int) - ((1:Nat):Int))=((aj (ac s)).length:Int) - 1:=vg (by omega)
  have hout:EF (ac s) (ac t) (aj (ac s)).length 0=⟨[(13,.ref 0 0 0 (aj (ac s)).length),(14,.sl (ag (aj (ac s % ac t))) (aj (ac s % ac t)).length false)],[(0,⟨ag (rD (ac s) (ac t) (aj (ac s)).length 0),0,false,0,1,true⟩)],.dead,[]⟩:=by unfold EF;rw [hr0]
  have hm40:(aj (ac s)).length<2^35:=by omega
  have htk:List.take (aj (ac s)).length (ag (rD (ac s) (ac t) (aj (ac s)).length 0))=ag (rD (ac s) (ac t) (aj (ac s)).length 0):=by rw [cD,List.take_of_length_le (by omega)]
  by_cases hx:ac s<2^(8*7)
  ·have hy:2^(8*7)≤ac t:=by
    rcases Nat.lt_or_ge (ac t) (2^(8*7)) with h|h
    ·exact absurd ⟨hx,h⟩ hb
    ·exact h
   have hsm1:=jg s 7 (by omega) (by omega) hx
   have hsm2:=kG (ae (ac t)) 7 (by omega) (by rw [hvn];exact hy)
   clear hb hx hy
   have h:=ad9 s t (ac s) 0 (ac s / ac t) (ac s % ac t) (aj (ac s)).length (rD (ac s) (ac t) (aj (ac s)).length 0) 0 true
   rw [hvn] at h
   simp (disch:=first|omega|(simp [ak,au]<;>omega)) only [cB,aW,decide_true,jm,hnz,decide_false,cU,Bool.not_false,av,hwl,tI,Nat.mul_one,htk] at h
   apply h<;>first|exact True.intro|omega|assumption|exact rfl|skip
   ·refine aw.blkF hloop (by simp) rfl ?_ (by rw [hout];exact jU.refl _)
    unfold F_
    rw [yn,hz0,di]
    exact jU.of ⟨aM.refl _,aM.refl _,aM.refl _,aM.nilS false rfl,aM.refl _,trivial⟩
  ·have hsm1:=kG s 7 (by omega) (Nat.le_of_not_lt hx)
   have hsm2:∃ zy b2,CO 77 [.str (ae (ac t)),.int .i64 7] (.ret (.tup [.int .i64 zy,.bool b2])):=by
    rcases Nat.lt_or_ge (ac t) (2^(8*7)) with h|h
    ·exact ⟨_,_,jg (ae (ac t)) 7 (by omega) (by omega) (by rw [hvn];exact h)⟩
    ·exact ⟨_,_,kG (ae (ac t)) 7 (by omega) (by rw [hvn];exact h)⟩
   obtain ⟨zy,b2,hsm2⟩:=hsm2
   clear hb hx
   have h:=ad8 s t 0 0 (ac s / ac t) (ac s % ac t) (aj (ac s)).length (rD (ac s) (ac t) (aj (ac s)).length 0) zy b2
   rw [hvn] at h
   simp (disch:=first|omega|(simp [ak,au]<;>omega)) only [cB,aW,decide_true,jm,hnz,decide_false,cU,Bool.not_false,av,hwl,tI,Nat.mul_one,htk] at h
   apply h<;>first|exact True.intro|omega|assumption|exact rfl|skip
   ·refine aw.blkF hloop (by simp) rfl ?_ (by rw [hout];exact jU.refl _)
    unfold F_
    rw [yn,hz0,di]
    exact jU.of ⟨aM.refl _,aM.refl _,aM.refl _,aM.nilS false rfl,aM.refl _,trivial⟩
theorem Wq {nt:Nat} (hn:25≤nt) (s t q r:List UInt8) (h0:lit true (decide (((0:Nat):Int)<(((List.length t):Nat):Int)))=true) (c0:CO 81 [.str s,.str t] (.ret (.tup [.str q,.str r,.bool true]))):ah prog ap [] nt (aa 0 (af f80)) ⟨[(0,.str s),(1,.str t)],[],.dead,[]⟩ (.normal) ⟨[(0,.str t),(1,.str r)],[],.dead,[]⟩:=pJ 80 [] 1 1 (.c h0 .nil) (.c c0 .nil) hn
theorem Wr {nt:Nat} (hn:25≤nt) (s t q r:List UInt8) (h0:lit false (decide (((0:Nat):Int)<(((List.length t):Nat):Int)))=true):ah prog ap [] nt (aa 0 (af f80)) ⟨[(0,.str s),(1,.str t)],[],.dead,[]⟩ (.exit 0) ⟨[(0,.str s)],[],.dead,[]⟩:=pJ 80 [] 1 0 (.c h0 .nil) (.nil) hn
theorem Wo (s t g:List UInt8) (c0:CO 76 [.str s] (.ret (.str (ae (ac s))))) (c1:CO 76 [.str t] (.ret (.str (ae (ac t))))) (l0:az prog ap [] 25 (.block 0 (.loop (aa 0 (af f80)))) ⟨[(0,.str (ae (ac s))),(1,.str (ae (ac t))),(4,.str []),(6,.dead),(14,.dead)],[],.dead,[]⟩ (.normal) ⟨[(0,.str g)],[],.dead,[]⟩):CO 80 [.str s,.str t] (.ret (.str g)):=pK [0] 0 0 .nil (.l l0 (.c c1 (.c c0 .nil)))
def Wp (p:Nat × Nat):St:=⟨[(0,.str (ae p.1)),(1,.str (ae p.2))],[],.dead,[]⟩
def NN (x:Nat):St:=⟨[(0,.str (ae x))],[],.dead,[]⟩
theorem Gc {nt:Nat} (hn:25≤nt):∀ (n y x:Nat),y<n→(ae x).length<2^33→(ae y).length<2^33→aw prog ap [] nt (aa 0 (af f80)) (fun _=> .exit 0) Wp NN (x,y) (Nat.gcd x y):=by
 intro n
 induction n with
 |zero=>intro y x h;omega
 | succ n ih=>
  intro y x h hx hy
  rcases Nat.eq_zero_or_pos y with rfl|h0
  ·rw [Nat.gcd_zero_right]
   refine .done ?_
   unfold Wp NN
   rw [dH]
   exact Wr hn (ae x) [] [] [] rfl
  ·have hm:=Nat.mod_lt x h0
   have hl:(ae (x % y)).length<2^33:=by
    have:x % y≤ac (ae y):=by rw [aO];omega
    have:=gP this
    omega
   have hnext:=ih (x % y) y (by omega) hy hl
   rw [show Nat.gcd y (x % y)=Nat.gcd x y by rw [Nat.gcd_comm y,← Nat.gcd_rec,Nat.gcd_comm]] at hnext
   refine .next ?_ hnext
   have hq:=lj (ae x) (ae y) hx hy (by rw [aO];exact h0)
   rw [aO,aO] at hq
   have hne:ae y ≠ []:=fun h=>by have:=fT.1 h;omega
   have hpos:0<(ae y).length:=by
    cases hq:ae y with
    |nil=>exact absurd hq hne
    |cons _ _=>simp
   exact Wq hn (ae x) (ae y) _ _ (by rw [aY,bi];exact decide_eq_true hpos) hq
theorem EK (s t:List UInt8) (hs:s.length<2^33) (ht:t.length<2^33):CO 80 [.str s,.str t] (.ret (.str (ae (Nat.gcd (ac s) (ac t))))):=by
 have l1:(ae (ac s)).length≤s.length:=gP (Nat.le_refl _)
 have l2:(ae (ac t)).length≤t.length:=gP (Nat.le_refl _)
 exact Wo s t _ (dI s (by omega)) (dI t (by omega)) (aw.blk (fun nt hn=>Gc hn (ac t+1) (ac t) (ac s) (by omega) (by omega) (by omega)) (by simp) rfl (aK.of ⟨rfl,rfl,trivial⟩) (aK.of ⟨rfl,trivial⟩))
theorem V6 (neg:Bool) (n d:List UInt8) (g:Nat) (h0:lit true (!(nR n))=true) (c0:CO 128 [.str n] (.ret (.bool (nR n)))) (c1:CO 128 [.str d] (.ret (.bool (nR d)))):CO 104 [.agg [.bool neg,.str n,.str d]] (.ret (.bool false)):=pK [] 3 7 (.k 2 h0 (.n 2 .nil)) (.c c1 (.c c0 .nil))
theorem V7 (neg:Bool) (n d:List UInt8) (g:Nat) (h0:lit true (!(nR d))=true) (h1:lit false (!(nR n))=true) (c0:CO 128 [.str n] (.ret (.bool (nR n)))) (c1:CO 128 [.str d] (.ret (.bool (nR d)))):CO 104 [.agg [.bool neg,.str n,.str d]] (.ret (.bool false)):=pK [] 3 6 (.k 1 h0 (.c h1 (.n 2 .nil))) (.c c1 (.c c0 .nil))
theorem V8 (neg:Bool) (n d:List UInt8) (g:Nat) (h0:lit true (d== [])=true) (h1:lit false (!(nR d))=true) (h2:lit false (!(nR n))=true) (c0:CO 128 [.str n] (.ret (.bool (nR n)))) (c1:CO 128 [.str d] (.ret (.bool (nR d)))):CO 104 [.agg [.bool neg,.str n,.str d]] (.ret (.bool false)):=pK [] 3 4 (.c h0 (.k 1 h1 (.c h2 (.n 2 .nil)))) (.c c1 (.c c0 .nil))
theorem V9 (neg:Bool) (n d:List UInt8) (g:Nat) (h0:lit true (!neg)=true) (h1:lit true (n== [])=true) (h2:lit false (d== [])=true) (h3:lit false (!(nR d))=true) (h4:lit false (!(nR n))=true) (c0:CO 128 [.str n] (.ret (.bool (nR n)))) (c1:CO 128 [.str d] (.ret (.bool (nR d)))) (c2:CO 49 [.int .i64 1] (.ret (.str (ae 1)))) (c3:CO 118 [.str d,.str (ae 1)] (.ret (.int .i64 (nE (ac d) (ac (ae 1)))))):CO 104 [.agg [.bool neg,.str n,.str d]] (.ret (.bool ((nE (ac d) (ac (ae 1)))==((0:Nat):Int)))):=pK [] 5 24 (.k 1 h0 (.k 1 h1 (.k 1 h2 (.k 1 h3 (.c h4 (.n 2 .nil)))))) (.c c3 (.c c2 (.c c1 (.c c0 .nil))))
theorem V_ (neg:Bool) (n d:List UInt8) (g:Nat) (h0:lit false (!neg)=true) (h1:lit true (n== [])=true) (h2:lit false (d== [])=true) (h3:lit false (!(nR d))=true) (h4:lit false (!(nR n))=true) (c0:CO 128 [.str n] (.ret (.bool (nR n)))) (c1:CO 128 [.str d] (.ret (.bool (nR d)))):CO 104 [.agg [.bool neg,.str n,.str d]] (.ret (.bool false)):=pK [] 5 8 (.c h0 (.k 1 h1 (.k 1 h2 (.k 1 h3 (.c h4 (.n 2 .nil)))))) (.c c1 (.c c0 .nil))
theorem Wc (neg:Bool) (n d:List UInt8) (g:Nat) (h0:lit false (n== [])=true) (h1:lit false (d== [])=true) (h2:lit false (!(nR d))=true) (h3:lit false (!(nR n))=true) (c0:CO 128 [.str n] (.ret (.bool (nR n)))) (c1:CO 128 [.str d] (.ret (.bool (nR d)))) (c2:CO 80 [.str n,.str d] (.ret (.str (ae g)))) (c3:CO 49 [.int .i64 1] (.ret (.str (ae 1)))) (c4:CO 118 [.str (ae g),.str (ae 1)] (.ret (.int .i64 (nE (ac (ae g)) (ac (ae 1)))))):CO 104 [.agg [.bool neg,.str n,.str d]] (.ret (.bool ((nE (ac (ae g)) (ac (ae 1)))==((0:Nat):Int)))):=pK [] 4 0 (.k 2 h0 (.k 1 h1 (.k 1 h2 (.c h3 (.n 2 .nil))))) (.c c4 (.c c3 (.c c2 (.c c1 (.c c0 .nil)))))
theorem V3 (neg:Bool) (n d:List UInt8) (g:Nat) (h0:lit true (n== [])=true) (c0:CO 49 [.int .i64 1] (.ret (.str (ae 1)))):CO 51 [.bool neg,.str n,.str d] (.ret (.agg [.bool false,.str [],.str (ae 1)])):=pK [] 1 1 (.k 4 h0 .nil) (.c c0 .nil)
theorem V4 (neg:Bool) (n d:List UInt8) (g:Nat) (h0:lit false (n== [])=true) (c0:CO 80 [.str n,.str d] (.ret (.str (ae g)))) (c1:CO 81 [.str n,.str (ae g)] (.ret (.tup [.str (ae (ac n / g)),.str (ae (ac n % g)),.bool true]))) (c2:CO 81 [.str d,.str (ae g)] (.ret (.tup [.str (ae (ac d / g)),.str (ae (ac d % g)),.bool true]))):CO 51 [.bool neg,.str n,.str d] (.ret (.agg [.bool neg,.str (ae (ac n / g)),.str (ae (ac d / g))])):=pK [] 1 0 (.k 4 h0 .nil) (.c c2 (.c c1 (.c c0 .nil)))
theorem VY (neg:Bool) (n d:List UInt8) (h0:lit true (decide ((((cQ (ac n)):Nat):Int)≤((400:Nat):Int)))=true) (h1:lit true (fJ neg n d)=true) (c0:CO 104 [.agg [.bool neg,.str n,.str d]] (.ret (.bool (fJ neg n d)))) (c1:CO 133 [.str n] (.ret (.int .i64 (((cQ (ac n)):Nat):Int)))) (c2:CO 133 [.str d] (.ret (.int .i64 (((cQ (ac d)):Nat):Int)))):CO 105 [.agg [.bool neg,.str n,.str d]] (.ret (.bool (decide ((((cQ (ac d)):Nat):Int)≤((400:Nat):Int))))):=pK [] 2 3 (.k 1 h0 (.k 1 h1 (.n 3 .nil))) (.c c2 (.c c1 (.c c0 .nil)))
theorem VZ (neg:Bool) (n d:List UInt8) (h0:lit false (decide ((((cQ (ac n)):Nat):Int)≤((400:Nat):Int)))=true) (h1:lit true (fJ neg n d)=true) (c0:CO 104 [.agg [.bool neg,.str n,.str d]] (.ret (.bool (fJ neg n d)))) (c1:CO 133 [.str n] (.ret (.int .i64 (((cQ (ac n)):Nat):Int)))):CO 105 [.agg [.bool neg,.str n,.str d]] (.ret (.bool false)):=pK [] 2 1 (.c h0 (.k 1 h1 (.n 3 .nil))) (.c c1 (.c c0 .nil))
theorem V2 (neg:Bool) (n d:List UInt8) (h0:lit false (fJ neg n d)=true) (c0:CO 104 [.agg [.bool neg,.str n,.str d]] (.ret (.bool (fJ neg n d)))):CO 105 [.agg [.bool neg,.str n,.str d]] (.ret (.bool false)):=pK [] 2 0 (.k 1 h0 (.n 3 .nil)) (.c c0 .nil)
theorem Wg (neg:Bool) (n d:List UInt8) (h0:lit true (!(fJ neg n d))=true) (c0:CO 104 [.agg [.bool neg,.str n,.str d]] (.ret (.bool (fJ neg n d)))) (c1:CO 49 [.int .i64 1] (.ret (.str (ae 1)))):CO 70 [.agg [.bool neg,.str n,.str d]] (.ret (.agg [.bool false,.str [],.str (ae 1)])):=pK [] 1 1 (.k 4 h0 (.n 3 .nil)) (.c c1 (.c c0 .nil))
theorem Wh (neg:Bool) (n d:List UInt8) (h0:lit false (!(fJ neg n d))=true) (c0:CO 104 [.agg [.bool neg,.str n,.str d]] (.ret (.bool (fJ neg n d)))):CO 70 [.agg [.bool neg,.str n,.str d]] (.ret (.agg [.bool neg,.str n,.str d])):=pK [] 1 0 (.k 7 h0 (.n 3 .nil)) (.c c0 .nil)
theorem V5 (v:Int) (x z:Nat) (h0:lit true (decide (((0:Nat):Int)≤v))=true) (c0:CO 49 [.int .i64 v] (.ret (.str (ae z)))) (c1:CO 49 [.int .i64 1] (.ret (.str (ae 1)))):CO 36 [.int .i64 v] (.ret (.agg [.bool false,.str (ae z),.str (ae 1)])):=pK [] 1 1 (.k 4 h0 .nil) (.c c1 (.c c0 .nil))
theorem Wd (neg sg:Bool) (n d n1 d1:List UInt8) (h0:lit true (n1== [])=true) (c0:CO 70 [.agg [.bool neg,.str n,.str d]] (.ret (.agg [.bool sg,.str n1,.str d1]))):CO 45 [.agg [.bool neg,.str n,.str d]] (.ret (.int .i64 0)):=pK [] 1 1 (.c h0 (.n 5 .nil)) (.c c0 .nil)
theorem We (neg sg:Bool) (n d n1 d1:List UInt8) (h0:lit true sg=true) (h1:lit false (n1== [])=true) (c0:CO 70 [.agg [.bool neg,.str n,.str d]] (.ret (.agg [.bool sg,.str n1,.str d1]))):CO 45 [.agg [.bool neg,.str n,.str d]] (.ret (.int .i64 (-1))):=pK [] 2 2 (.c h0 (.k 1 h1 (.n 5 .nil))) (.c c0 .nil)
theorem Wf (neg sg:Bool) (n d n1 d1:List UInt8) (h0:lit false sg=true) (h1:lit false (n1== [])=true) (c0:CO 70 [.agg [.bool neg,.str n,.str d]] (.ret (.agg [.bool sg,.str n1,.str d1]))):CO 45 [.agg [.bool neg,.str n,.str d]] (.ret (.int .i64 1)):=pK [] 2 0 (.c h0 (.k 1 h1 (.n 5 .nil))) (.c c0 .nil)
theorem Qd (s t:List UInt8) (x y z:Nat) (c0:CO 77 [.str s,.int .i64 3] (.ret (.tup [.int .i64 (x:Int),.bool true]))) (c1:CO 77 [.str t,.int .i64 4] (.ret (.tup [.int .i64 (y:Int),.bool true]))) (c2:CO 49 [.int .i64 (IntKind.wrap .i64 ((x:Int)*(y:Int)))] (.ret (.str (ae z)))):CO 50 [.str s,.str t] (.ret (.str (ae z))):=pK [] 2 3 (.n 2 .nil) (.c c2 (.c c1 (.c c0 .nil)))
theorem ER {x:Nat}:((nE x (ac (ae 1)))==((0:Nat):Int))=decide (x=1):=by
 rw [aO]
 unfold nE
 rcases Nat.lt_trichotomy x 1 with h|h|h
 ·rw [if_pos h,decide_eq_false (by omega)];rfl
 ·rw [if_neg (by omega),if_neg (by omega),decide_eq_true h];rfl
 ·rw [if_neg (by omega),if_pos h,decide_eq_false (by omega)];rfl
theorem vU (neg:Bool) (n d:List UInt8) (hn:n.length<2^33) (hd:d.length<2^33):CO 104 [.agg [.bool neg,.str n,.str d]] (.ret (.bool (fJ neg n d))):=by
 have h1:=oZ n
 have h2:=oZ d
 have h3:=b_ 1 (by omega)
 have hl1:(ae 1).length≤1:=dK (by omega)
 have hc:=Jb d (ae 1) (by omega) (by omega)
 have hg:=EK n d hn hd
 have hsg:=@ER (ac d)
 cases hbn:nR n with
 |false=>
  have e:fJ neg n d=false:=by unfold fJ;rw [hbn];rfl
  rw [e]
  exact V6 neg n d 0 (by rw [hbn];rfl) h1 h2
 | true=>
  cases hbd:nR d with
  |false=>
   have e:fJ neg n d=false:=by unfold fJ;rw [hbd];simp
   rw [e]
   exact V7 neg n d 0 (by rw [hbd];rfl) (by rw [hbn];rfl) h1 h2
  | true=>
   have en:=(kZ n).1 hbn
   have ed:=(kZ d).1 hbd
   by_cases hd0:d= []
   ·have e:fJ neg n d=false:=by
     subst hd0;unfold fJ;simp [show ac []=0 from rfl]
    rw [e]
    exact V8 neg n d 0 (by rw [hd0];rfl) (by rw [hbd];rfl) (by rw [hbn];rfl) h1 h2
   ·have hdp:0<ac d:=by
     rcases Nat.eq_zero_or_pos (ac d) with h|h
     ·rw [h,dH] at ed;exact absurd ed.symm hd0
     ·exact h
    have hd0':(d== [])=false:=by simpa using hd0
    by_cases hn0:n= []
    ·have hn0':(n== [])=true:=by simpa using hn0
     have hv0:ac n=0:=by rw [hn0];rfl
     cases neg with
     | false=>
      have h:=V9 false n d 0 rfl (by rw [hn0'];rfl) (by rw [hd0'];rfl) (by rw [hbd];rfl) (by rw [hbn];rfl) h1 h2 h3 hc
      rw [hsg] at h
      have e:fJ false n d=decide (ac d=1):=by
       rw [Bool.eq_iff_iff,iD,hv0,Nat.gcd_zero_left]
       simp [hbn,hbd];omega
      rw [e];exact h
     | true=>
      have h:=V_ true n d 0 rfl (by rw [hn0'];rfl) (by rw [hd0'];rfl) (by rw [hbd];rfl) (by rw [hbn];rfl) h1 h2
      have e:fJ true n d=false:=by
       rw [Bool.eq_false_iff];intro h
       have:=(iD.1 h).2.2.2.2 rfl
       omega
      rw [e];exact h
    ·have hn0':(n== [])=false:=by simpa using hn0
     have hnp:0<ac n:=by
      rcases Nat.eq_zero_or_pos (ac n) with h|h
      ·rw [h,dH] at en;exact absurd en.symm hn0
      ·exact h
     have hgl:(ae (Nat.gcd (ac n) (ac d))).length≤d.length:=gP (Nat.gcd_le_right _ hdp)
     have hc2:=Jb (ae (Nat.gcd (ac n) (ac d))) (ae 1) (by omega) (by omega)
     have h:=Wc neg n d (Nat.gcd (ac n) (ac d)) (by rw [hn0'];rfl) (by rw [hd0'];rfl) (by rw [hbd];rfl) (by rw [hbn];rfl) h1 h2 hg h3 hc2
     rw [ER,aO] at h
     have e:fJ neg n d=decide (Nat.gcd (ac n) (ac d)=1):=by
      rw [Bool.eq_iff_iff,iD]
      simp [hbn,hbd,hdp,hnp]
     rw [e];exact h
theorem iH (neg:Bool) (n d:List UInt8) (hn:n.length<2^33) (hd:d.length<2^33):CO 105 [.agg [.bool neg,.str n,.str d]] (.ret (.bool (il neg n d))):=by
 have hr:=vU neg n d hn hd
 have h1:=BC n (by omega)
 have h2:=BC d (by omega)
 unfold il
 cases hb:fJ neg n d with
 |false=>exact V2 neg n d (by rw [hb];rfl) hr
 | true=>
  by_cases h3:cQ (ac n)≤400
  ·have h:=VY neg n d (by rw [cB,decide_eq_true h3];rfl) (by rw [hb];rfl) hr h1 h2
   rw [cB] at h
   rw [decide_eq_true h3]
   exact h
  ·have h:=VZ neg n d (by rw [cB,decide_eq_false h3];rfl) (by rw [hb];rfl) hr h1
   rw [decide_eq_false h3]
   exact h
structure RQ where
 neg:Bool
 n:Nat
 d:Nat
def RQ.ok (q:RQ):Prop:=0<q.d∧Nat.gcd q.n q.d=1∧(q.neg=true→0<q.n)
def qA (q:RQ):AV:= .agg [.bool q.neg,.str (ae q.n),.str (ae q.d)]
def q0:RQ:=⟨false,0,1⟩
def oN (neg:Bool) (n d:Nat):RQ:=⟨neg && decide (0<n),n / Nat.gcd n d,d / Nat.gcd n d⟩
def vQ (neg:Bool) (n d:List UInt8):RQ:=if fJ neg n d=true then ⟨neg,ac n,ac d⟩ else q0
theorem Da (q:RQ) (h:q.ok):fJ q.neg (ae q.n) (ae q.d)=true:=by
 rw [iD,aO,aO]
 exact ⟨tG _,tG _,h⟩
theorem K8 {neg:Bool} {n d:List UInt8} (h:fJ neg n d=true):AV.agg [.bool neg,.str n,.str d]=qA ⟨neg,ac n,ac d⟩:=by
 obtain ⟨h1,h2,_⟩:=iD.1 h
 unfold qA
 rw [(kZ n).1 h1,(kZ d).1 h2]
theorem zF {neg:Bool} {n d:Nat} (h:0<d):(oN neg n d).ok:=by
 have hg:0<Nat.gcd n d:=Nat.gcd_pos_of_pos_right _ h
 refine ⟨Nat.div_pos (Nat.gcd_le_right _ h) hg, ?_, ?_⟩
 ·show Nat.gcd (n / Nat.gcd n d) (d / Nat.gcd n d)=1
  rw [Nat.gcd_div (Nat.gcd_dvd_left _ _) (Nat.gcd_dvd_right _ _),Nat.div_self hg]
 ·intro hn
  have:0<n:=by simp [oN] at hn;exact hn.2
  exact Nat.div_pos (Nat.gcd_le_left _ this) hg
theorem fB (neg:Bool) (n d:List UInt8) (hn:n.length<2^33) (hd:d.length<2^33):CO 70 [.agg [.bool neg,.str n,.str d]] (.ret (qA (vQ neg n d))):=by
 have hr:=vU neg n d hn hd
 unfold vQ
 cases hb:fJ neg n d with
 |false=>
  have h:=Wg neg n d (by rw [hb];rfl) hr (b_ 1 (by omega))
  rw [if_neg (by simp)]
  unfold qA q0
  rw [dH];exact h
 |true=>
  have h:=Wh neg n d (by rw [hb];rfl) hr
  rw [if_pos rfl,← K8 hb]
  exact h
theorem ep (neg:Bool) (n d:Nat) (hn:(ae n).length<2^33) (hd:(ae d).length<2^33) (h0:0<d):CO 51 [.bool neg,.str (ae n),.str (ae d)] (.ret (qA (oN neg n d))):=by
 have hg:=EK (ae n) (ae d) hn hd
 rw [aO,aO] at hg
 have hgp:0<Nat.gcd n d:=Nat.gcd_pos_of_pos_right _ h0
 have hgl:(ae (Nat.gcd n d)).length≤(ae d).length:=gP (by rw [aO];exact Nat.gcd_le_right _ h0)
 have q1:=lj (ae n) (ae (Nat.gcd n d)) hn (by omega) (by rw [aO];exact hgp)
 have q2:=lj (ae d) (ae (Nat.gcd n d)) hd (by omega) (by rw [aO];exact hgp)
 simp only [aO] at q1 q2
 rcases Nat.eq_zero_or_pos n with rfl|hp
 ·have h:=V3 neg (ae 0) (ae d) 0 (by rw [dH];rfl) (b_ 1 (by omega))
  unfold qA oN
  simp only [Nat.lt_irrefl,decide_false,Bool.and_false,Nat.gcd_zero_left,Nat.zero_div,Nat.div_self h0,dH]
  rw [dH] at h
  exact h
 ·have hne:ae n ≠ []:=fun h=>by have:=fT.1 h;omega
  have h:=V4 neg (ae n) (ae d) (Nat.gcd n d) (by simp [lit,hne])
  simp only [aO] at h
  unfold qA oN
  simp only [hp,decide_true,Bool.and_true]
  exact h hg q1 q2
def Qp (q:RQ):Int:=if q.n=0 then 0 else if q.neg then -1 else 1
theorem Qo (neg:Bool) (n d:List UInt8):lp neg n d=Qp (vQ neg n d):=by
 unfold lp Qp vQ
 cases hb:fJ neg n d with
 |false=>simp [q0]
 | true=>
  simp only [true_and,if_true]
  by_cases h:0<ac n
  ·have h':¬ ac n=0:=by omega
   simp [h,h']
  ·have h':ac n=0:=by omega
   simp [h']
theorem ym (neg:Bool) (n d:List UInt8) (hn:n.length<2^33) (hd:d.length<2^33):CO 45 [.agg [.bool neg,.str n,.str d]] (.ret (.int .i64 (lp neg n d))):=by
 have hv:=fB neg n d hn hd
 rw [Qo]
 generalize vQ neg n d=q at*
 obtain ⟨sg,N,D⟩:=q
 unfold qA at hv
 unfold Qp
 simp only at hv ⊢
 rcases Nat.eq_zero_or_pos N with rfl|hp
 ·rw [if_pos rfl]
  exact Wd neg sg n d (ae 0) (ae D) (by rw [dH];rfl) hv
 ·have hne:ae N ≠ []:=fun h=>by have:=fT.1 h;omega
  have hne':(ae N== [])=false:=by simpa using hne
  rw [if_neg (by omega)]
  cases sg with
  |true=>exact We neg true n d (ae N) (ae D) rfl (by rw [hne'];rfl) hv
  |false=>exact Wf neg false n d (ae N) (ae D) rfl (by rw [hne'];rfl) hv
def pu (neg:Bool) (n d:List UInt8) (a:Nat):Bool:=((neg==false) && ((n==(ae a)) && ((d==(ae 1)) && true)))
theorem sP (a:Nat) (ha:a<9223372036854775808):CO 36 [.int .i64 (a:Int)] (.ret (Ja false a 1)):=
 V5 (a:Int) 0 a (by simp [lit]) (b_ a ha) (b_ 1 (by omega))
def Fh:List UInt8:= [97,98,99,100,101,102,103,104,105,106,107,108,109,110,111,112,113,114,115,116,117,118,119,120,121,122,48,49,50,51,52,53,54,55,56,57,95]
def yO:List AV:= [.bool false,.bool false,.bool false,.bool false,.bool false,.bool false,.bool false,.bool false,.bool false,.bool false,.bool false,.bool false,.bool false,.bool false,.bool false,.bool false,.bool false,.bool false,.bool false,.bool false,.bool false,.bool false,.bool false,.bool false,.bool false,.bool false,.bool false,.bool false,.bool false,.bool false,.bool false,.bool false,.bool false,.bool false,.bool false,.bool false,.bool false,.bool false,.bool false,.bool false,.bool false,.bool false,.bool false,.bool false,.bool false,.bool false,.bool false,.bool false,.bool true,.bool true,.bool true,.bool true,.bool true,.bool true,.bool true,.bool true,.bool true,.bool true,.bool false,.bool false,.bool false,.bool false,.bool false,.bool false,.bool false,.bool false,.bool false,.bool false,.bool false,.bool false,.bool false,.bool false,.bool false,.bool false,.bool false,.bool false,.bool false,.bool false,.bool false,.bool false,.bool false,.bool false,.bool false,.bool false,.bool false,.bool false,.bool false,.bool false,.bool false,.bool false,.bool false,.bool false,.bool false,.bool false,.bool false,.bool true,.bool false,.bool true,.bool true,.bool true,.bool true,.bool true,.bool true,.bool true,.bool true,.bool true,.bool true,.bool true,.bool true,.bool true,.bool true,.bool true,.bool true,.bool true,.bool true,.bool true,.bool true,.bool true,.bool true,.bool true,.bool true,.bool true,.bool true,.bool false,.bool false,.bool false,.bool false,.bool false,.bool false,.bool false,.bool false,.bool false,.bool false,.bool false,.bool false,.bool false,.bool false,.bool false,.bool false,.bool false,.bool false,.bool false,.bool false,.bool false,.bool false,.bool false,.bool false,.bool false,.bool false,.bool false,.bool false,.bool false,.bool false,.bool false,.bool false,.bool false,.bool false,.bool false,.bool false,.bool false,.bool false,.bool false,.bool false,.bool false,.bool false,.bool false,.bool false,.bool false,.bool false,.bool false,.bool false,.bool false,.bool false,.bool false,.bool false,.bool false,.bool false,.bool false,.bool false,.bool false,.bool false,.bool false,.bool false,.bool false,.bool false,.bool false,.bool false,.bool false,.bool false,.bool false,.bool false,.bool false,.bool false,.bool false,.bool false,.bool false,.bool false,.bool false,.bool false,.bool false,.bool false,.bool false,.bool false,.bool false,.bool false,.bool false,.bool false,.bool false,.bool false,.bool false,.bool false,.bool false,.bool false,.bool false,.bool false,.bool false,.bool false,.bool false,.bool false,.bool false,.bool false,.bool false,.bool false,.bool false,.bool false,.bool false,.bool false,.bool false,.bool false,.bool false,.bool false,.bool false,.bool false,.bool false,.bool false,.bool false,.bool false,.bool false,.bool false,.bool false,.bool false,.bool false,.bool false,.bool false,.bool false,.bool false,.bool false,.bool false,.bool false,.bool false,.bool false,.bool false,.bool false,.bool false,.bool false,.bool false]
theorem Oq:CO 143 [.str Fh] (.ret (.tup [.agg yO,.bool true])):=xF zq (lf:=3000) (n:=4) (ans:= []) .nil (by kernel_rfl)
theorem TN (xs:List AV) (c:Nat) (h0:(chk .bool (List.headD (List.drop (0+((Int.toNat (c:Int))*1)) xs) .dead))=true) (h1:(decide (((0:Nat):Int)≤(c:Int)))=true) (h2:(decide ((c:Int)<((256:Nat):Int)))=true):CO 166 [.pp xs 0,.int .u8 (c:Int)] (.ret (.bool (AV.toBool (List.headD (List.drop (0+((Int.toNat (c:Int))*1)) xs) .dead)))):=pK [] 0 0 (.c h0 (.c h1 (.c h2 .nil))) (.nil)
theorem aek {nt:Nat} (hn:16≤nt) (s:List UInt8) (xs:List AV) (b:Bool) (h0:lit true (!b)=true) (h1:(decide (((0:Nat):Int)<(((List.length s):Nat):Int)))=true) (h2:lit true (decide (((0:Nat):Int)<(((List.length s):Nat):Int)))=true) (c0:CO 166 [.pp xs 0,.int .u8 ((UInt8.toNat (List.getD s 0 0):Nat):Int)] (.ret (.bool b))):ah prog ap [] nt (aa 0 (af f144)) ⟨[(0,.str s),(1,.pp xs 0)],[],.dead,[]⟩ (.exit 0) ⟨[(0,.str s)],[],.dead,[]⟩:=pJ 144 [] 2 3 (.c h0 (.k 1 h1 (.c h2 .nil))) (.c c0 .nil) hn
theorem ael {nt:Nat} (hn:16≤nt) (s:List UInt8) (xs:List AV) (b:Bool) (h0:(decide (((1:Nat):Int)≤(((List.length s):Nat):Int)))=true) (h1:(decide ((((List.length s):Nat):Int)≤(((List.length s):Nat):Int)))=true) (h2:lit false (!b)=true) (h3:(decide (((0:Nat):Int)<(((List.length s):Nat):Int)))=true) (h4:lit true (decide (((0:Nat):Int)<(((List.length s):Nat):Int)))=true) (c0:CO 166 [.pp xs 0,.int .u8 ((UInt8.toNat (List.getD s 0 0):Nat):Int)] (.ret (.bool b))):ah prog ap [] nt (aa 0 (af f144)) ⟨[(0,.str s),(1,.pp xs 0)],[],.dead,[]⟩ (.normal) ⟨[(0,.str (List.drop 1 (List.take (Int.toNat (((List.length s):Nat):Int)) s))),(1,.pp xs 0)],[],.dead,[]⟩:=pJ 144 [] 2 1 (.k 1 h0 (.c h1 (.c h2 (.k 1 h3 (.c h4 .nil))))) (.c c0 .nil) hn
theorem aem {nt:Nat} (hn:16≤nt) (s:List UInt8) (xs:List AV) (b:Bool) (h0:lit false (decide (((0:Nat):Int)<(((List.length s):Nat):Int)))=true):ah prog ap [] nt (aa 0 (af f144)) ⟨[(0,.str s),(1,.pp xs 0)],[],.dead,[]⟩ (.exit 0) ⟨[(0,.str s)],[],.dead,[]⟩:=pJ 144 [] 1 0 (.c h0 .nil) (.nil) hn
theorem Xi (s r:List UInt8) (xs:List AV) (l0:az prog ap [] 16 (.block 0 (.loop (aa 0 (af f144)))) ⟨[(0,.str s),(1,.pp xs 0),(4,.str []),(7,.dead),(12,.dead)],[],.dead,[]⟩ (.normal) ⟨[(0,.str r)],[],.dead,[]⟩):CO 144 [.str s,.pp xs 0] (.ret (.str r)):=pK [0] 0 0 .nil (.l l0 .nil)
theorem aen {nt:Nat} (hn:22≤nt) (s:List UInt8) (xs:List AV) (b:Bool) (h0:lit true (!b)=true) (h1:(decide (((0:Nat):Int)≤(IntKind.wrap .i64 ((((List.length s):Nat):Int) - ((1:Nat):Int)))))=true) (h2:(decide ((IntKind.wrap .i64 ((((List.length s):Nat):Int) - ((1:Nat):Int)))<(((List.length s):Nat):Int)))=true) (h3:lit true (decide (((0:Nat):Int)<(((List.length s):Nat):Int)))=true) (c0:CO 166 [.pp xs 0,.int .u8 ((UInt8.toNat (List.getD s (Int.toNat (IntKind.wrap .i64 ((((List.length s):Nat):Int) - ((1:Nat):Int)))) 0):Nat):Int)] (.ret (.bool b))):ah prog ap [] nt (aa 0 (af f145)) ⟨[(0,.str s),(1,.pp xs 0)],[],.dead,[]⟩ (.exit 0) ⟨[(0,.str s)],[],.dead,[]⟩:=pJ 145 [] 2 3 (.c h0 (.c h1 (.c h2 (.c h3 .nil)))) (.c c0 .nil) hn
theorem aeo {nt:Nat} (hn:22≤nt) (s:List UInt8) (xs:List AV) (b:Bool) (h0:(decide (((0:Nat):Int)≤(IntKind.wrap .i64 ((((List.length s):Nat):Int) - ((1:Nat):Int)))))=true) (h1:(decide ((IntKind.wrap .i64 ((((List.length s):Nat):Int) - ((1:Nat):Int)))≤(((List.length s):Nat):Int)))=true) (h2:lit false (!b)=true) (h3:(decide ((IntKind.wrap .i64 ((((List.length s):Nat):Int) - ((1:Nat):Int)))<(((List.length s):Nat):Int)))=true) (h4:lit true (decide (((0:Nat):Int)<(((List.length s):Nat):Int)))=true) (c0:CO 166 [.pp xs 0,.int .u8 ((UInt8.toNat (List.getD s (Int.toNat (IntKind.wrap .i64 ((((List.length s):Nat):Int) - ((1:Nat):Int)))) 0):Nat):Int)] (.ret (.bool b))):ah prog ap [] nt (aa 0 (af f145)) ⟨[(0,.str s),(1,.pp xs 0)],[],.dead,[]⟩ (.normal) ⟨[(0,.str (List.drop 0 (List.take (Int.toNat (IntKind.wrap .i64 ((((List.length s):Nat):Int) - ((1:Nat):Int)))) s))),(1,.pp xs 0)],[],.dead,[]⟩:=pJ 145 [] 2 1 (.k 1 h0 (.c h1 (.c h2 (.c h0 (.c h3 (.c h4 .nil)))))) (.c c0 .nil) hn
theorem aep {nt:Nat} (hn:22≤nt) (s:List UInt8) (xs:List AV) (b:Bool) (h0:lit false (decide (((0:Nat):Int)<(((List.length s):Nat):Int)))=true):ah prog ap [] nt (aa 0 (af f145)) ⟨[(0,.str s),(1,.pp xs 0)],[],.dead,[]⟩ (.exit 0) ⟨[(0,.str s)],[],.dead,[]⟩:=pJ 145 [] 1 0 (.c h0 .nil) (.nil) hn
theorem Xl (s r:List UInt8) (xs:List AV) (l0:az prog ap [] 22 (.block 0 (.loop (aa 0 (af f145)))) ⟨[(0,.str s),(1,.pp xs 0),(4,.str []),(7,.dead),(15,.dead)],[],.dead,[]⟩ (.normal) ⟨[(0,.str r)],[],.dead,[]⟩):CO 145 [.str s,.pp xs 0] (.ret (.str r)):=pK [0] 0 0 .nil (.l l0 .nil)
def Om:List Bool:= [false,false,false,false,false,false,false,false,false,false,false,false,false,false,false,false,false,false,false,false,false,false,false,false,false,false,false,false,false,false,false,false,false,false,false,false,false,false,false,false,false,false,false,false,false,false,false,false,true,true,true,true,true,true,true,true,true,true,false,false,false,false,false,false,false,false,false,false,false,false,false,false,false,false,false,false,false,false,false,false,false,false,false,false,false,false,false,false,false,false,false,false,false,false,false,true,false,true,true,true,true,true,true,true,true,true,true,true,true,true,true,true,true,true,true,true,true,true,true,true,true,true,true,false,false,false,false,false,false,false,false,false,false,false,false,false,false,false,false,false,false,false,false,false,false,false,false,false,false,false,false,false,false,false,false,false,false,false,false,false,false,false,false,false,false,false,false,false,false,false,false,false,false,false,false,false,false,false,false,false,false,false,false,false,false,false,false,false,false,false,false,false,false,false,false,false,false,false,false,false,false,false,false,false,false,false,false,false,false,false,false,false,false,false,false,false,false,false,false,false,false,false,false,false,false,false,false,false,false,false,false,false,false,false,false,false,false,false,false,false,false,false,false,false,false,false,false,false,false,false,false,false,false,false,false,false]
theorem Oo:yO=Om.map AV.bool:=rfl
def inN (c:Nat):Bool:=(decide (97≤c) && decide (c≤122))||(decide (48≤c) && decide (c≤57))||decide (c=95)
def eM (c:UInt8):Bool:=inN c.toNat
theorem Ks:∀ i:Fin 256,Om.getD i.val false=inN i.val:=by decide
theorem HF (c:UInt8):CO 166 [.pp yO 0,.int .u8 (c.toNat:Int)] (.ret (.bool (eM c))):=by
 have hc:c.toNat<256:=UInt8.toNat_lt c
 have hl:Om.length=256:=by decide
 have hh:List.headD (List.drop c.toNat yO) .dead= .bool (eM c):=by
  have h1:=Ks ⟨c.toNat,hc⟩
  simp only at h1
  rw [Oo,← List.map_drop,List.drop_eq_getElem_cons (by omega),List.map_cons,List.headD_cons]
  rw [List.getD_eq_getElem?_getD,List.getElem?_eq_getElem (by omega)] at h1
  unfold eM
  rw [← h1];rfl
 have h:=TN yO c.toNat
 rw [av,Nat.zero_add,Nat.mul_one,hh] at h
 exact h rfl (by rw [cB];exact decide_eq_true (by omega)) (by rw [aY];exact decide_eq_true hc)
def WH (s:List UInt8):St:=⟨[(0,.str s),(1,.pp yO 0)],[],.dead,[]⟩
def NQ (s:List UInt8):St:=⟨[(0,.str s)],[],.dead,[]⟩
theorem MM {nt:Nat} (hn:16≤nt):∀ (s:List UInt8),s.length<2^40→aw prog ap [] nt (aa 0 (af f144)) (fun _=> .exit 0) WH NQ s (s.dropWhile eM):=by
 intro s
 induction s with
 |nil=>exact fun _=> .done (aem hn [] yO true rfl)
 | cons c s ih=>
  intro hl
  simp only [List.length_cons] at hl
  rw [List.dropWhile_cons]
  have hc:=HF c
  cases hb:eM c with
  |true=>
   rw [hb] at hc
   refine .next ?_ (by simpa using ih (by omega))
   have h:=ael hn (c::s) yO true
   have e1:List.drop 1 (List.take (s.length+1) (c::s))=s:=by simp
   simp only [List.length_cons,List.getD_cons_zero] at h
   simp (disch:=first|omega|(simp [ak,au]<;>omega)) only [cB,aW,Bool.not_true,cU,Bool.not_false,aY,bi,av,e1] at h
   apply h<;>first|exact True.intro|omega|assumption|exact rfl
  |false=>
   rw [hb] at hc
   refine .done ?_
   have h:=aek hn (c::s) yO false
   simp only [List.length_cons,List.getD_cons_zero] at h
   simp (disch:=first|omega|(simp [ak,au]<;>omega)) only [Bool.not_false,bi,aY,aW] at h
   apply h<;>first|exact True.intro|omega|assumption|exact rfl
def JH (s:List UInt8):List UInt8:=(s.reverse.dropWhile eM).reverse
theorem JI (s:List UInt8) (c:UInt8):JH (s++ [c])=if eM c=true then JH s else s++ [c]:=by
 unfold JH
 rw [List.reverse_append]
 simp only [List.reverse_cons,List.reverse_nil,List.nil_append,List.singleton_append,List.dropWhile_cons]
 by_cases h:eM c=true
 ·simp [h]
 ·simp [h]
theorem MS {nt:Nat} (hn:22≤nt):∀ (k:Nat) (s:List UInt8),s.length=k→k<2^40→aw prog ap [] nt (aa 0 (af f145)) (fun _=> .exit 0) WH NQ s (JH s):=by
 intro k
 induction k with
 |zero=>
  intro s hs _
  have:s= []:=List.eq_nil_of_length_eq_zero hs
  subst this
  exact .done (aep hn [] yO true rfl)
 | succ k ih=>
  intro s hs hk
  rcases List.eq_nil_or_concat s with rfl|⟨s',c,rfl⟩
  ·simp at hs
  ·rw [List.concat_eq_append] at hs ⊢
   have hs':s'.length=k:=by simpa using hs
   rw [JI]
   have hc:=HF c
   have hg:(s'++ [c]).getD s'.length 0=c:=by simp
   have e1:s'.length+1 - 1=s'.length:=rfl
   have htk:List.take s'.length (s'++ [c])=s':=by simp
   cases hb:eM c with
   |true=>
    rw [hb] at hc
    rw [if_pos rfl]
    refine .next ?_ (ih s' hs' (by omega))
    have h:=aeo hn (s'++ [c]) yO true
    simp (disch:=first|omega|(simp [ak,au]<;>omega)) only [List.length_append,List.length_cons,List.length_nil,Nat.zero_add,fF,e1,cB,aW,Bool.not_true,cU,Bool.not_false,aY,bi,av,hg,htk,List.drop_zero] at h
    apply h<;>first|exact True.intro|omega|assumption|exact rfl
   |false=>
    rw [hb] at hc
    rw [if_neg (by simp)]
    refine .done ?_
    have h:=aen hn (s'++ [c]) yO false
    simp (disch:=first|omega|(simp [ak,au]<;>omega)) only [Bool.not_false,bi,List.length_append,List.length_cons,List.length_nil,Nat.zero_add,fF,e1,cB,aW,aY,av,hg] at h
    apply h<;>first|exact True.intro|omega|assumption|exact rfl
theorem MT (s u v:List UInt8) (h0:lit true (s== [])=true):CO 117 [.str s,.str Fh] (.ret (.str s)):=pK [] 2 3 (.k 1 h0 .nil) (.nil)
theorem MU (s u v:List UInt8) (h0:lit false (s== [])=true) (c0:CO 143 [.str Fh] (.ret (.tup [.agg yO,.bool true]))) (c1:CO 145 [.str s,.pp yO 0] (.ret (.str u))) (c2:CO 144 [.str u,.pp yO 0] (.ret (.str v))):CO 117 [.str s,.str Fh] (.ret (.str v)):=pK [] 5 16 (.k 5 h0 .nil) (.c c2 (.c c1 (.c c0 .nil)))
theorem LL (s v:List UInt8) (h0:lit true (s== [])=true):CO 86 [.str s] (.ret (.bool false)):=pK [] 4 15 (.k 3 h0 .nil) (.nil)
theorem LM (s v:List UInt8) (h0:lit true (decide (((20:Nat):Int)<(((List.length s):Nat):Int)))=true) (h1:lit false (s== [])=true):CO 86 [.str s] (.ret (.bool false)):=pK [] 4 14 (.k 2 h0 (.c h1 .nil)) (.nil)
theorem LN (s v:List UInt8) (h0:lit true (decide (((UInt8.toNat (List.getD s 0 0):Nat):Int)<((97:Nat):Int)))=true) (h1:(decide (((0:Nat):Int)<(((List.length s):Nat):Int)))=true) (h2:lit false (decide (((20:Nat):Int)<(((List.length s):Nat):Int)))=true) (h3:lit false (s== [])=true):CO 86 [.str s] (.ret (.bool false)):=pK [] 4 12 (.k 1 h0 (.k 1 h1 (.c h2 (.c h3 .nil)))) (.nil)
theorem LO (s v:List UInt8) (h0:lit true (decide (((122:Nat):Int)<((UInt8.toNat (List.getD s 0 0):Nat):Int)))=true) (h1:(decide (((0:Nat):Int)<(((List.length s):Nat):Int)))=true) (h2:lit false (decide (((UInt8.toNat (List.getD s 0 0):Nat):Int)<((97:Nat):Int)))=true) (h3:lit false (decide (((20:Nat):Int)<(((List.length s):Nat):Int)))=true) (h4:lit false (s== [])=true):CO 86 [.str s] (.ret (.bool false)):=pK [] 4 8 (.c h0 (.k 1 h1 (.c h2 (.k 1 h1 (.c h3 (.c h4 .nil)))))) (.nil)
theorem LP (s v:List UInt8) (h0:lit false (decide (((122:Nat):Int)<((UInt8.toNat (List.getD s 0 0):Nat):Int)))=true) (h1:(decide (((0:Nat):Int)<(((List.length s):Nat):Int)))=true) (h2:lit false (decide (((UInt8.toNat (List.getD s 0 0):Nat):Int)<((97:Nat):Int)))=true) (h3:lit false (decide (((20:Nat):Int)<(((List.length s):Nat):Int)))=true) (h4:lit false (s== [])=true) (c0:CO 117 [.str s,.str Fh] (.ret (.str v))):CO 86 [.str s] (.ret (.bool (v== []))):=pK [] 4 0 (.c h0 (.k 1 h1 (.c h2 (.k 1 h1 (.c h3 (.c h4 .nil)))))) (.c c0 .nil)
def n_ (s:List UInt8):Bool:= !(s== []) && decide (s.length≤20) && decide (97≤(s.getD 0 0).toNat) && decide ((s.getD 0 0).toNat≤122) && s.all eM
theorem zh {p:UInt8→Bool}:∀ {l:List UInt8},l.dropWhile p= []↔∀ x ∈ l,p x=true
 | []=>by simp
 |c::l=>by
  rw [List.dropWhile_cons]
  cases h:p c with
  |true=>simp [h,zh (l:=l)]
  |false=>simp [h]
theorem JN {s:List UInt8}:(JH s).dropWhile eM= []↔s.all eM=true:=by
 unfold JH
 rw [List.all_eq_true]
 constructor
 ·intro h
  have h1:∀ x ∈ (s.reverse.dropWhile eM),eM x=true:=by
   intro x hx
   exact zh.1 h x (by simpa using hx)
  have h2:s.reverse.dropWhile eM= []:=by
   cases hd:s.reverse.dropWhile eM with
   |nil=>rfl
   | cons y r=>
    exfalso
    have h3:=h1 y (by rw [hd];simp)
    have h4:∀ (l:List UInt8),l.dropWhile eM=y::r→eM y=false:=by
     intro l
     induction l with
     |nil=>intro h;simp at h
     | cons z l ih=>
      intro h
      rw [List.dropWhile_cons] at h
      split at h
      ·exact ih h
      ·rename_i hz
       cases h
       simpa using hz
    rw [h4 _ hd] at h3
    cases h3
  intro x hx
  exact zh.1 h2 x (by simpa using hx)
 ·intro h
  have:s.reverse.dropWhile eM= []:=zh.2 fun x hx=>h x (by simpa using hx)
  rw [this];rfl
theorem QD (s:List UInt8) (hs:s.length<2^40):CO 144 [.str s,.pp yO 0] (.ret (.str (s.dropWhile eM))):=
 Xi s _ yO (aw.blk (fun nt hn=>MM hn s hs) (by simp) rfl (aK.of ⟨rfl,rfl,trivial⟩) (aK.of ⟨rfl,trivial⟩))
theorem QE (s:List UInt8) (hs:s.length<2^40):CO 145 [.str s,.pp yO 0] (.ret (.str (JH s))):=
 Xl s _ yO (aw.blk (fun nt hn=>MS hn _ s rfl hs) (by simp) rfl (aK.of ⟨rfl,rfl,trivial⟩) (aK.of ⟨rfl,trivial⟩))
theorem MR (s:List UInt8):(JH s).length≤s.length:=by
 unfold JH
 rw [List.length_reverse]
 have:=(List.dropWhile_sublist eM (l:=s.reverse)).length_le
 simpa using this
theorem MV (s:List UInt8) (hs:s.length<2^40):CO 117 [.str s,.str Fh] (.ret (.str ((JH s).dropWhile eM))):=by
 by_cases h:s= []
 ·subst h
  exact MT [] [] [] rfl
 ·have hl:=MR s
  exact MU s _ _ (by simp [lit,h]) Oq (QE s hs) (QD _ (by omega))
theorem gO (s:List UInt8):CO 86 [.str s] (.ret (.bool (n_ s))):=by
 unfold n_
 by_cases h0:s= []
 ·subst h0;exact LL [] [] rfl
 ·have hne:(s== [])=false:=by simpa using h0
  have hl0:0<s.length:=by cases s with|nil=>exact absurd rfl h0|cons _ _=>simp
  rw [hne]
  by_cases h1:s.length≤20
  ·have c1:lit false (decide (((20:Nat):Int)<(s.length:Int)))=true:=by rw [aY];simp [lit,h1]
   have cl:decide (((0:Nat):Int)<(s.length:Int))=true:=by rw [aY];exact decide_eq_true hl0
   rw [decide_eq_true h1]
   by_cases h2:97≤(s.getD 0 0).toNat
   ·rw [decide_eq_true h2]
    have c2:lit false (decide (((s.getD 0 0).toNat:Int)<((97:Nat):Int)))=true:=by rw [aY];simp only [lit,Bool.not_eq_true'];exact decide_eq_false (by omega)
    by_cases h3:(s.getD 0 0).toNat≤122
    ·rw [decide_eq_true h3]
     have c3:lit false (decide (((122:Nat):Int)<((s.getD 0 0).toNat:Int)))=true:=by rw [aY];simp only [lit,Bool.not_eq_true'];exact decide_eq_false (by omega)
     have h:=LP s _ c3 cl c2 c1 (by rw [hne];rfl) (MV s (by omega))
     have e:((JH s).dropWhile eM== [])=s.all eM:=by
      rw [Bool.eq_iff_iff,← JN];simp
     rw [e] at h
     exact h
    ·rw [decide_eq_false h3]
     exact LO s [] (by rw [aY];exact decide_eq_true (by omega)) cl c2 c1 (by rw [hne];rfl)
   ·rw [decide_eq_false h2]
    exact LN s [] (by rw [aY];exact decide_eq_true (by omega)) cl c1 (by rw [hne];rfl)
  ·rw [decide_eq_false h1]
   exact LM s [] (by rw [aY];exact decide_eq_true (by omega)) (by rw [hne];rfl)
def fC:List AV:= [.str [],.int .i64 0,.bool false,.bool false,.bool false,.str [36],.int .i64 0,.bool true,.bool false,.bool false,.str [],.int .i64 0,.bool true,.bool false,.bool false,.str [],.int .i64 0,.bool true,.bool false,.bool false,.str [],.int .i64 0,.bool true,.bool false,.bool false,.str [102,97,99,116,46],.int .i64 0,.bool false,.bool true,.bool false,.str [111,119,110,46],.int .i64 0,.bool false,.bool true,.bool false,.str [112,114,105,111,114,46],.int .i64 0,.bool false,.bool true,.bool false,.str [115,112,111,117,115,101,46],.int .i64 0,.bool false,.bool true,.bool false,.str [97,100,100],.int .i64 2,.bool false,.bool false,.bool false,.str [115,117,98],.int .i64 2,.bool false,.bool false,.bool false,.str [109,117,108],.int .i64 2,.bool false,.bool false,.bool false,.str [100,105,118],.int .i64 2,.bool false,.bool false,.bool false,.str [109,105,110],.int .i64 2,.bool false,.bool false,.bool false,.str [109,97,120],.int .i64 2,.bool false,.bool false,.bool false,.str [105,102],.int .i64 3,.bool false,.bool false,.bool false,.str [108,101,115,115],.int .i64 2,.bool false,.bool false,.bool false,.str [101,113,117,97,108],.int .i64 2,.bool false,.bool false,.bool false,.str [97,110,100],.int .i64 2,.bool false,.bool false,.bool false,.str [111,114],.int .i64 2,.bool false,.bool false,.bool false,.str [110,111,116],.int .i64 1,.bool false,.bool false,.bool false,.str [100,111,119,110],.int .i64 1,.bool false,.bool false,.bool true,.str [117,112],.int .i64 1,.bool false,.bool false,.bool true,.str [110,101,97,114],.int .i64 1,.bool false,.bool false,.bool true,.str [114,97,116,101,46],.int .i64 1,.bool false,.bool true,.bool false]
theorem VE (op:Int) (h0:lit true (decide (op<((1:Nat):Int)))=true):CO 82 [.int .i64 op] (.ret (.tup [.agg [.str [],.int .i64 0,.bool false,.bool false,.bool false],.bool false])):=pK [] 2 3 (.k 7 h0 .nil) (.nil)
theorem VF (op:Int) (h0:lit true (decide (((24:Nat):Int)<op))=true) (h1:lit false (decide (op<((1:Nat):Int)))=true):CO 82 [.int .i64 op] (.ret (.tup [.agg [.str [],.int .i64 0,.bool false,.bool false,.bool false],.bool false])):=pK [] 2 2 (.k 6 h0 (.c h1 .nil)) (.nil)
theorem VG (op:Int) (h0:(chk .str (List.headD (List.drop (0+((Int.toNat op)*5)) fC) .dead))=true) (h1:(chk (.int .i64) (List.headD (List.tail (List.drop (0+((Int.toNat op)*5)) fC)) .dead))=true) (h2:(chk .bool (List.headD (List.tail (List.tail (List.drop (0+((Int.toNat op)*5)) fC))) .dead))=true) (h3:(chk .bool (List.headD (List.tail (List.tail (List.tail (List.drop (0+((Int.toNat op)*5)) fC)))) .dead))=true) (h4:(chk .bool (List.headD (List.tail (List.tail (List.tail (List.tail (List.drop (0+((Int.toNat op)*5)) fC))))) .dead))=true) (h5:(decide (((0:Nat):Int)≤op))=true) (h6:(decide (op<((25:Nat):Int)))=true) (h7:lit false (decide (((24:Nat):Int)<op))=true) (h8:lit false (decide (op<((1:Nat):Int)))=true):CO 82 [.int .i64 op] (.ret (.tup [.agg [.str (AV.toStr (List.headD (List.drop (0+((Int.toNat op)*5)) fC) .dead)),.int .i64 (AV.toInt (List.headD (List.tail (List.drop (0+((Int.toNat op)*5)) fC)) .dead)),.bool (AV.toBool (List.headD (List.tail (List.tail (List.drop (0+((Int.toNat op)*5)) fC))) .dead)),.bool (AV.toBool (List.headD (List.tail (List.tail (List.tail (List.drop (0+((Int.toNat op)*5)) fC)))) .dead)),.bool (AV.toBool (List.headD (List.tail (List.tail (List.tail (List.tail (List.drop (0+((Int.toNat op)*5)) fC))))) .dead))],.bool true])):=pK [] 2 0 (.k 6 h0 (.c h1 (.c h2 (.c h3 (.c h4 (.c h5 (.c h6 (.c h7 (.c h8 .nil))))))))) (.nil)
theorem Oa (op:Int) (h0:lit true (op==((15:Nat):Int))=true):CO 30 [.int .i64 op] (.ret (.int .i64 3)):=pK [] 1 1 (.c h0 .nil) (.nil)
theorem Ob (op:Int) (h0:lit true (decide (op≤((14:Nat):Int)))=true) (h1:lit true (decide (((9:Nat):Int)≤op))=true) (h2:lit false (op==((15:Nat):Int))=true):CO 30 [.int .i64 op] (.ret (.int .i64 2)):=pK [] 4 14 (.k 1 h0 (.c h1 (.c h2 .nil))) (.nil)
theorem Oc (op:Int) (h0:lit true (decide (op≤((19:Nat):Int)))=true) (h1:lit true (decide (((16:Nat):Int)≤op))=true) (h2:lit false (decide (op≤((14:Nat):Int)))=true) (h3:lit true (decide (((9:Nat):Int)≤op))=true) (h4:lit false (op==((15:Nat):Int))=true):CO 30 [.int .i64 op] (.ret (.int .i64 2)):=pK [] 5 26 (.c h0 (.c h1 (.c h2 (.c h3 (.c h4 .nil))))) (.nil)
theorem Od (op:Int) (h0:lit true (decide (op≤((24:Nat):Int)))=true) (h1:lit true (decide (((20:Nat):Int)≤op))=true) (h2:lit false (decide (op≤((19:Nat):Int)))=true) (h3:lit true (decide (((16:Nat):Int)≤op))=true) (h4:lit false (decide (op≤((14:Nat):Int)))=true) (h5:lit true (decide (((9:Nat):Int)≤op))=true) (h6:lit false (op==((15:Nat):Int))=true):CO 30 [.int .i64 op] (.ret (.int .i64 1)):=pK [] 7 106 (.c h0 (.c h1 (.c h2 (.c h3 (.c h4 (.c h5 (.c h6 .nil))))))) (.nil)
theorem Oe (op:Int) (h0:lit false (decide (op≤((24:Nat):Int)))=true) (h1:lit true (decide (((20:Nat):Int)≤op))=true) (h2:lit false (decide (op≤((19:Nat):Int)))=true) (h3:lit true (decide (((16:Nat):Int)≤op))=true) (h4:lit false (decide (op≤((14:Nat):Int)))=true) (h5:lit true (decide (((9:Nat):Int)≤op))=true) (h6:lit false (op==((15:Nat):Int))=true):CO 30 [.int .i64 op] (.ret (.int .i64 0)):=pK [] 7 42 (.c h0 (.c h1 (.c h2 (.c h3 (.c h4 (.c h5 (.c h6 .nil))))))) (.nil)
theorem Og (op:Int) (h0:lit false (decide (((20:Nat):Int)≤op))=true) (h1:lit false (decide (op≤((19:Nat):Int)))=true) (h2:lit true (decide (((16:Nat):Int)≤op))=true) (h3:lit false (decide (op≤((14:Nat):Int)))=true) (h4:lit true (decide (((9:Nat):Int)≤op))=true) (h5:lit false (op==((15:Nat):Int))=true):CO 30 [.int .i64 op] (.ret (.int .i64 0)):=pK [] 7 10 (.k 1 h0 (.c h1 (.c h2 (.c h3 (.c h4 (.c h5 .nil)))))) (.nil)
theorem Oh (op:Int) (h0:lit true (decide (op≤((24:Nat):Int)))=true) (h1:lit true (decide (((20:Nat):Int)≤op))=true) (h2:lit false (decide (((16:Nat):Int)≤op))=true) (h3:lit false (decide (op≤((14:Nat):Int)))=true) (h4:lit true (decide (((9:Nat):Int)≤op))=true) (h5:lit false (op==((15:Nat):Int))=true):CO 30 [.int .i64 op] (.ret (.int .i64 1)):=pK [] 7 98 (.c h0 (.c h1 (.k 1 h2 (.c h3 (.c h4 (.c h5 .nil)))))) (.nil)
theorem Oi (op:Int) (h0:lit false (decide (op≤((24:Nat):Int)))=true) (h1:lit true (decide (((20:Nat):Int)≤op))=true) (h2:lit false (decide (((16:Nat):Int)≤op))=true) (h3:lit false (decide (op≤((14:Nat):Int)))=true) (h4:lit true (decide (((9:Nat):Int)≤op))=true) (h5:lit false (op==((15:Nat):Int))=true):CO 30 [.int .i64 op] (.ret (.int .i64 0)):=pK [] 7 34 (.c h0 (.c h1 (.k 1 h2 (.c h3 (.c h4 (.c h5 .nil)))))) (.nil)
theorem Oj (op:Int) (h0:lit false (decide (((20:Nat):Int)≤op))=true) (h1:lit false (decide (((16:Nat):Int)≤op))=true) (h2:lit false (decide (op≤((14:Nat):Int)))=true) (h3:lit true (decide (((9:Nat):Int)≤op))=true) (h4:lit false (op==((15:Nat):Int))=true):CO 30 [.int .i64 op] (.ret (.int .i64 0)):=pK [] 7 2 (.k 1 h0 (.k 1 h1 (.c h2 (.c h3 (.c h4 .nil))))) (.nil)
theorem Ol (op:Int) (h0:lit true (decide (op≤((19:Nat):Int)))=true) (h1:lit true (decide (((16:Nat):Int)≤op))=true) (h2:lit false (decide (((9:Nat):Int)≤op))=true) (h3:lit false (op==((15:Nat):Int))=true):CO 30 [.int .i64 op] (.ret (.int .i64 2)):=pK [] 5 24 (.c h0 (.c h1 (.k 1 h2 (.c h3 .nil)))) (.nil)
theorem Kk (op:Int) (h0:lit true (decide (op≤((24:Nat):Int)))=true) (h1:lit true (decide (((20:Nat):Int)≤op))=true) (h2:lit false (decide (op≤((19:Nat):Int)))=true) (h3:lit true (decide (((16:Nat):Int)≤op))=true) (h4:lit false (decide (((9:Nat):Int)≤op))=true) (h5:lit false (op==((15:Nat):Int))=true):CO 30 [.int .i64 op] (.ret (.int .i64 1)):=pK [] 7 104 (.c h0 (.c h1 (.c h2 (.c h3 (.k 1 h4 (.c h5 .nil)))))) (.nil)
theorem Kl (op:Int) (h0:lit false (decide (op≤((24:Nat):Int)))=true) (h1:lit true (decide (((20:Nat):Int)≤op))=true) (h2:lit false (decide (op≤((19:Nat):Int)))=true) (h3:lit true (decide (((16:Nat):Int)≤op))=true) (h4:lit false (decide (((9:Nat):Int)≤op))=true) (h5:lit false (op==((15:Nat):Int))=true):CO 30 [.int .i64 op] (.ret (.int .i64 0)):=pK [] 7 40 (.c h0 (.c h1 (.c h2 (.c h3 (.k 1 h4 (.c h5 .nil)))))) (.nil)
theorem Km (op:Int) (h0:lit false (decide (((20:Nat):Int)≤op))=true) (h1:lit false (decide (op≤((19:Nat):Int)))=true) (h2:lit true (decide (((16:Nat):Int)≤op))=true) (h3:lit false (decide (((9:Nat):Int)≤op))=true) (h4:lit false (op==((15:Nat):Int))=true):CO 30 [.int .i64 op] (.ret (.int .i64 0)):=pK [] 7 8 (.k 1 h0 (.c h1 (.c h2 (.k 1 h3 (.c h4 .nil))))) (.nil)
theorem Kn (op:Int) (h0:lit true (decide (op≤((24:Nat):Int)))=true) (h1:lit true (decide (((20:Nat):Int)≤op))=true) (h2:lit false (decide (((16:Nat):Int)≤op))=true) (h3:lit false (decide (((9:Nat):Int)≤op))=true) (h4:lit false (op==((15:Nat):Int))=true):CO 30 [.int .i64 op] (.ret (.int .i64 1)):=pK [] 7 96 (.c h0 (.c h1 (.k 1 h2 (.k 1 h3 (.c h4 .nil))))) (.nil)
theorem Ko (op:Int) (h0:lit false (decide (op≤((24:Nat):Int)))=true) (h1:lit true (decide (((20:Nat):Int)≤op))=true) (h2:lit false (decide (((16:Nat):Int)≤op))=true) (h3:lit false (decide (((9:Nat):Int)≤op))=true) (h4:lit false (op==((15:Nat):Int))=true):CO 30 [.int .i64 op] (.ret (.int .i64 0)):=pK [] 7 32 (.c h0 (.c h1 (.k 1 h2 (.k 1 h3 (.c h4 .nil))))) (.nil)
theorem Kq (op:Int) (h0:lit false (decide (((20:Nat):Int)≤op))=true) (h1:lit false (decide (((16:Nat):Int)≤op))=true) (h2:lit false (decide (((9:Nat):Int)≤op))=true) (h3:lit false (op==((15:Nat):Int))=true):CO 30 [.int .i64 op] (.ret (.int .i64 0)):=pK [] 7 0 (.k 1 h0 (.k 1 h1 (.k 1 h2 (.c h3 .nil)))) (.nil)
theorem Pt (op:Int) (h0:lit true (decide (op≤((8:Nat):Int)))=true) (h1:lit true (decide (((5:Nat):Int)≤op))=true):CO 32 [.int .i64 op] (.ret (.bool true)):=pK [] 2 3 (.c h0 (.c h1 .nil)) (.nil)
theorem Pu (op:Int) (h0:lit false (decide (op≤((8:Nat):Int)))=true) (h1:lit true (decide (((5:Nat):Int)≤op))=true):CO 32 [.int .i64 op] (.ret (.bool (op==((24:Nat):Int)))):=pK [] 2 1 (.c h0 (.c h1 .nil)) (.nil)
theorem Pv (op:Int) (h0:lit false (decide (((5:Nat):Int)≤op))=true):CO 32 [.int .i64 op] (.ret (.bool (op==((24:Nat):Int)))):=pK [] 2 0 (.k 1 h0 .nil) (.nil)
theorem Qs (op:Int) (h0:lit true (decide (((21:Nat):Int)≤op))=true):CO 34 [.int .i64 op] (.ret (.bool (decide (op≤((23:Nat):Int))))):=pK [] 1 1 (.c h0 .nil) (.nil)
theorem Qt (op:Int) (h0:lit false (decide (((21:Nat):Int)≤op))=true):CO 34 [.int .i64 op] (.ret (.bool false)):=pK [] 1 0 (.c h0 .nil) (.nil)
def bX (op:Int):Nat:=if op=15 then 3 else if (9≤op∧op≤14)∨(16≤op∧op≤19) then 2 else if 20≤op∧op≤24 then 1 else 0
def ib (op:Int):Bool:=decide ((5≤op∧op≤8)∨op=24)
def xf (op:Int):Bool:=decide (1≤op∧op≤4)
def kH (op:Int):Bool:=decide (21≤op∧op≤23)
def JT (op:Int):List UInt8:=AV.toStr (List.headD (List.drop (0+((Int.toNat op)*5)) fC) .dead)
theorem Kr (op:Int):CO 30 [.int .i64 op] (.ret (.int .i64 ((bX op:Nat):Int))):=by
 cases hb0:(op==((15:Nat):Int)) with
 | true=>
  have h:=Oa op (by rw [hb0];rfl)
  have e:bX op=3:=by
   clear h
   simp only [decide_eq_true_eq,decide_eq_false_iff_not,beq_iff_eq,beq_eq_false_iff_ne] at*
   unfold bX;(repeat' split)<;>omega
  rw [e];exact h
 | false =>
  cases hb1:(decide (((9:Nat):Int)≤op)) with
  | true =>
   cases hb2:(decide (op≤((14:Nat):Int))) with
   | true=>
    have h:=Ob op (by rw [hb2];rfl) (by rw [hb1];rfl) (by rw [hb0];rfl)
    have e:bX op=2:=by
     clear h
     simp only [decide_eq_true_eq,decide_eq_false_iff_not,beq_iff_eq,beq_eq_false_iff_ne] at*
     unfold bX;(repeat' split)<;>omega
    rw [e];exact h
   | false=>
    cases hb3:(decide (((16:Nat):Int)≤op)) with
    | true=>
     cases hb4:(decide (op≤((19:Nat):Int))) with
     | true=>
      have h:=Oc op (by rw [hb4];rfl) (by rw [hb3];rfl) (by rw [hb2];rfl) (by rw [hb1];rfl) (by rw [hb0];rfl)
      have e:bX op=2:=by
       clear h
       simp only [decide_eq_true_eq,decide_eq_false_iff_not,beq_iff_eq,beq_eq_false_iff_ne] at*
       unfold bX;(repeat' split)<;>omega
      rw [e];exact h
     | false=>
      cases hb5:(decide (((20:Nat):Int)≤op)) with
      | true=>
       cases hb6:(decide (op≤((24:Nat):Int))) with
       | true=>
        have h:=Od op (by rw [hb6];rfl) (by rw [hb5];rfl) (by rw [hb4];rfl) (by rw [hb3];rfl) (by rw [hb2];rfl) (by rw [hb1];rfl) (by rw [hb0];rfl)
        have e:bX op=1:=by
         clear h
         simp only [decide_eq_true_eq,decide_eq_false_iff_not,beq_iff_eq,beq_eq_false_iff_ne] at*
         unfold bX;(repeat' split)<;>omega
        rw [e];exact h
       | false=>
        have h:=Oe op (by rw [hb6];rfl) (by rw [hb5];rfl) (by rw [hb4];rfl) (by rw [hb3];rfl) (by rw [hb2];rfl) (by rw [hb1];rfl) (by rw [hb0];rfl)
        have e:bX op=0:=by
         clear h
         simp only [decide_eq_true_eq,decide_eq_false_iff_not,beq_iff_eq,beq_eq_false_iff_ne] at*
         unfold bX;(repeat' split)<;>omega
        rw [e];exact h
      | false=>
       have h:=Og op (by rw [hb5];rfl) (by rw [hb4];rfl) (by rw [hb3];rfl) (by rw [hb2];rfl) (by rw [hb1];rfl) (by rw [hb0];rfl)
       have e:bX op=0:=by
        clear h
        simp only [decide_eq_true_eq,decide_eq_false_iff_not,beq_iff_eq,beq_eq_false_iff_ne] at*
        unfold bX;(repeat' split)<;>omega
       rw [e];exact h
    | false=>
     cases hb4:(decide (((20:Nat):Int)≤op)) with
     | true=>
      cases hb5:(decide (op≤((24:Nat):Int))) with
      | true=>
       have h:=Oh op (by rw [hb5];rfl) (by rw [hb4];rfl) (by rw [hb3];rfl) (by rw [hb2];rfl) (by rw [hb1];rfl) (by rw [hb0];rfl)
       have e:bX op=1:=by
        clear h
        simp only [decide_eq_true_eq,decide_eq_false_iff_not,beq_iff_eq,beq_eq_false_iff_ne] at*
        unfold bX;(repeat' split)<;>omega
       rw [e];exact h
      | false=>
       have h:=Oi op (by rw [hb5];rfl) (by rw [hb4];rfl) (by rw [hb3];rfl) (by rw [hb2];rfl) (by rw [hb1];rfl) (by rw [hb0];rfl)
       have e:bX op=0:=by
        clear h
        simp only [decide_eq_true_eq,decide_eq_false_iff_not,beq_iff_eq,beq_eq_false_iff_ne] at*
        unfold bX;(repeat' split)<;>omega
       rw [e];exact h
     | false=>
      have h:=Oj op (by rw [hb4];rfl) (by rw [hb3];rfl) (by rw [hb2];rfl) (by rw [hb1];rfl) (by rw [hb0];rfl)
      have e:bX op=0:=by
       clear h
       simp only [decide_eq_true_eq,decide_eq_false_iff_not,beq_iff_eq,beq_eq_false_iff_ne] at*
       unfold bX;(repeat' split)<;>omega
      rw [e];exact h
  | false=>
   cases hb2:(decide (((16:Nat):Int)≤op)) with
   | true=>
    cases hb3:(decide (op≤((19:Nat):Int))) with
    | true=>
     have h:=Ol op (by rw [hb3];rfl) (by rw [hb2];rfl) (by rw [hb1];rfl) (by rw [hb0];rfl)
     have e:bX op=2:=by
      clear h
      simp only [decide_eq_true_eq,decide_eq_false_iff_not,beq_iff_eq,beq_eq_false_iff_ne] at*
      unfold bX;(repeat' split)<;>omega
     rw [e];exact h
    | false=>
     cases hb4:(decide (((20:Nat):Int)≤op)) with
     | true=>
      cases hb5:(decide (op≤((24:Nat):Int))) with
      | true=>
       have h:=Kk op (by rw [hb5];rfl) (by rw [hb4];rfl) (by rw [hb3];rfl) (by rw [hb2];rfl) (by rw [hb1];rfl) (by rw [hb0];rfl)
       have e:bX op=1:=by
        clear h
        simp only [decide_eq_true_eq,decide_eq_false_iff_not,beq_iff_eq,beq_eq_false_iff_ne] at*
        unfold bX;(repeat' split)<;>omega
       rw [e];exact h
      | false=>
       have h:=Kl op (by rw [hb5];rfl) (by rw [hb4];rfl) (by rw [hb3];rfl) (by rw [hb2];rfl) (by rw [hb1];rfl) (by rw [hb0];rfl)
       have e:bX op=0:=by
        clear h
        simp only [decide_eq_true_eq,decide_eq_false_iff_not,beq_iff_eq,beq_eq_false_iff_ne] at*
        unfold bX;(repeat' split)<;>omega
       rw [e];exact h
     | false=>
      have h:=Km op (by rw [hb4];rfl) (by rw [hb3];rfl) (by rw [hb2];rfl) (by rw [hb1];rfl) (by rw [hb0];rfl)
      have e:bX op=0:=by
       clear h
       simp only [decide_eq_true_eq,decide_eq_false_iff_not,beq_iff_eq,beq_eq_false_iff_ne] at*
       unfold bX;(repeat' split)<;>omega
      rw [e];exact h
   | false=>
    cases hb3:(decide (((20:Nat):Int)≤op)) with
    | true=>
     cases hb4:(decide (op≤((24:Nat):Int))) with
     | true=>
      have h:=Kn op (by rw [hb4];rfl) (by rw [hb3];rfl) (by rw [hb2];rfl) (by rw [hb1];rfl) (by rw [hb0];rfl)
      have e:bX op=1:=by
       clear h
       simp only [decide_eq_true_eq,decide_eq_false_iff_not,beq_iff_eq,beq_eq_false_iff_ne] at*
       unfold bX;(repeat' split)<;>omega
      rw [e];exact h
     | false=>
      have h:=Ko op (by rw [hb4];rfl) (by rw [hb3];rfl) (by rw [hb2];rfl) (by rw [hb1];rfl) (by rw [hb0];rfl)
      have e:bX op=0:=by
       clear h
       simp only [decide_eq_true_eq,decide_eq_false_iff_not,beq_iff_eq,beq_eq_false_iff_ne] at*
       unfold bX;(repeat' split)<;>omega
      rw [e];exact h
    | false=>
     have h:=Kq op (by rw [hb3];rfl) (by rw [hb2];rfl) (by rw [hb1];rfl) (by rw [hb0];rfl)
     have e:bX op=0:=by
      clear h
      simp only [decide_eq_true_eq,decide_eq_false_iff_not,beq_iff_eq,beq_eq_false_iff_ne] at*
      unfold bX;(repeat' split)<;>omega
     rw [e];exact h
theorem Ex (op:Int):CO 32 [.int .i64 op] (.ret (.bool (ib op))):=by
 cases hb0:(decide (((5:Nat):Int)≤op)) with
 | true=>
  cases hb1:(decide (op≤((8:Nat):Int))) with
  | true=>
   have h:=Pt op (by rw [hb1];rfl) (by rw [hb0];rfl)
   have e:ib op=true:=by
    clear h
    simp only [decide_eq_true_eq,decide_eq_false_iff_not,beq_iff_eq,beq_eq_false_iff_ne] at*
    unfold ib;first|(rw [decide_eq_true_eq];omega)|(rw [Bool.eq_iff_iff];simp only [decide_eq_true_eq,beq_iff_eq];omega)
   rw [e];exact h
  | false=>
   have h:=Pu op (by rw [hb1];rfl) (by rw [hb0];rfl)
   have e:ib op=(op==((24:Nat):Int)):=by
    clear h
    simp only [decide_eq_true_eq,decide_eq_false_iff_not,beq_iff_eq,beq_eq_false_iff_ne] at*
    unfold ib;first|(rw [decide_eq_true_eq];omega)|(rw [Bool.eq_iff_iff];simp only [decide_eq_true_eq,beq_iff_eq];omega)
   rw [e];exact h
 | false=>
  have h:=Pv op (by rw [hb0];rfl)
  have e:ib op=(op==((24:Nat):Int)):=by
   clear h
   simp only [decide_eq_true_eq,decide_eq_false_iff_not,beq_iff_eq,beq_eq_false_iff_ne] at*
   unfold ib;first|(rw [decide_eq_true_eq];omega)|(rw [Bool.eq_iff_iff];simp only [decide_eq_true_eq,beq_iff_eq];omega)
  rw [e];exact h
theorem MC (op:Int):CO 34 [.int .i64 op] (.ret (.bool (kH op))):=by
 cases hb0:(decide (((21:Nat):Int)≤op)) with
 | true=>
  have h:=Qs op (by rw [hb0];rfl)
  have e:kH op=(decide (op≤((23:Nat):Int))):=by
   clear h
   simp only [decide_eq_true_eq,decide_eq_false_iff_not,beq_iff_eq,beq_eq_false_iff_ne] at*
   unfold kH;first|(rw [decide_eq_false_iff_not];omega)|(rw [Bool.eq_iff_iff];simp only [decide_eq_true_eq,beq_iff_eq];omega)
  rw [e];exact h
 | false=>
  have h:=Qt op (by rw [hb0];rfl)
  have e:kH op=false:=by
   clear h
   simp only [decide_eq_true_eq,decide_eq_false_iff_not,beq_iff_eq,beq_eq_false_iff_ne] at*
   unfold kH;first|(rw [decide_eq_false_iff_not];omega)|(rw [Bool.eq_iff_iff];simp only [decide_eq_true_eq,beq_iff_eq];omega)
  rw [e];exact h
theorem Bw {op:Int} (h:1≤op) (h':op≤24):op=1∨op=2∨op=3∨op=4∨op=5∨op=6∨op=7∨op=8∨op=9∨op=10∨op=11∨op=12∨op=13∨op=14∨op=15∨op=16∨op=17∨op=18∨op=19∨op=20∨op=21∨op=22∨op=23∨op=24:=by omega
abbrev shA (op:Int):AV:= .agg [.str (JT op),.int .i64 ((bX op:Nat):Int),.bool (xf op),.bool (ib op),.bool (kH op)]
theorem VK {op:Int} (h:1≤op) (h':op≤24):CO 82 [.int .i64 op] (.ret (.tup [shA op,.bool true])):=by
 rcases Bw h h' with rfl|rfl|rfl|rfl|rfl|rfl|rfl|rfl|rfl|rfl|rfl|rfl|rfl|rfl|rfl|rfl|rfl|rfl|rfl|rfl|rfl|rfl|rfl|rfl
 all_goals exact VG _ rfl rfl rfl rfl rfl rfl rfl rfl rfl
theorem PE {op:Int} (h:op<1∨24<op):CO 82 [.int .i64 op] (.ret (.tup [.agg [.str [],.int .i64 0,.bool false,.bool false,.bool false],.bool false])):=by
 by_cases h1:op<1
 ·exact VE op (by simp [lit];omega)
 ·exact VF op (by simp [lit];omega) (by simp [lit];omega)
theorem DL {op:Int} (h:1≤op) (h':op≤24):List.headD (List.drop (op.toNat*5+1) fC) .dead= .int .i64 ((bX op:Nat):Int):=by
 rcases Bw h h' with rfl|rfl|rfl|rfl|rfl|rfl|rfl|rfl|rfl|rfl|rfl|rfl|rfl|rfl|rfl|rfl|rfl|rfl|rfl|rfl|rfl|rfl|rfl|rfl
 all_goals rfl
def GZ (op:Int):Bool:=decide (1≤op∧op≤24)
theorem bz (op:Int):CO 82 [.int .i64 op] (.ret (.tup [shA op,.bool (GZ op)])):=by
 by_cases h:1≤op∧op≤24
 ·have e:GZ op=true:=decide_eq_true h
  rw [e];exact VK h.1 h.2
 ·have e:GZ op=false:=decide_eq_false h
  have e1:bX op=0:=by unfold bX;(repeat' split)<;>omega
  have e2:xf op=false:=by unfold xf;rw [decide_eq_false_iff_not];omega
  have e3:ib op=false:=by unfold ib;rw [decide_eq_false_iff_not];omega
  have e4:kH op=false:=by unfold kH;rw [decide_eq_false_iff_not];omega
  have e5:JT op= []:=by
   unfold JT
   by_cases h1:op<1
   ·have:op.toNat=0:=by omega
    rw [this];rfl
   ·have hl:fC.length=125:=by decide
    rw [List.drop_of_length_le (by omega)];rfl
  unfold shA
  rw [e,e1,e2,e3,e4,e5]
  exact PE (by omega)
structure Nd where
 op:Int
 neg:Bool
 num:List UInt8
 den:List UInt8
 name:List UInt8
def lO (x:Nd):List AV:= [.int .i64 x.op,.bool x.neg,.str x.num,.str x.den,.str x.name]
def Nd.sm (x:Nd):Prop:=x.num.length<2^33∧x.den.length<2^33
def fk (x:Nd):Bool:=cond (x.op==((4:Nat):Int)) (pu x.neg x.num x.den 0||pu x.neg x.num x.den 1) (cond (xf x.op) (il x.neg x.num x.den) (cond (kH x.op) (il x.neg x.num x.den && decide (((0:Nat):Int)<lp x.neg x.num x.den)) ((x.neg==false) && ((x.num== []) && ((x.den== []) && true)))))
def aA (x:Nd):Int:=cond (!GZ x.op||(!ib x.op && !(x.name== []))) 11 (cond (!fk x) 11 (cond (ib x.op && !n_ x.name) 12 0))
theorem JU (x:Nd) (hx:x.sm):CO 52 [.agg (lO x)] (.ret (.int .i64 (aA x))):=by
 have h1:x.num.length<2^36:=Nat.lt_trans hx.1 (by decide)
 have h2:x.den.length<2^36:=Nat.lt_trans hx.2 (by decide)
 rcases tf (GZ x.op) with b0|b0
 ·rcases tf (ib x.op) with b1|b1
  ·rcases tf (x.op==((4:Nat):Int)) with b2|b2
   ·rcases tf ((x.neg==false) && ((x.num==(ae 0)) && ((x.den==(ae 1)) && true))) with b3|b3
    ·rcases tf (n_ x.name) with b4|b4
     ·rw [show aA x=0 by simp only [aA,fk,pu,b0,b1,b2,b3,b4]<;>rfl]
      exact pK [] 8 88 (.c (aG b4) (.k 1 (ay b1) (.k 2 (ay b3) (.k 3 (ay b2) (.k 2 (aG b1) (.k 1 (aG b0) (.n 2 .nil))))))) (.c (gO x.name) (.c (je) (.c (bz x.op) .nil)))
     ·rw [show aA x=12 by simp only [aA,fk,pu,b0,b1,b2,b3,b4]<;>rfl]
      exact pK [] 8 216 (.c (cG b4) (.k 1 (ay b1) (.k 2 (ay b3) (.k 3 (ay b2) (.k 2 (aG b1) (.k 1 (aG b0) (.n 2 .nil))))))) (.c (gO x.name) (.c (je) (.c (bz x.op) .nil)))
    ·rcases tf ((x.neg==false) && ((x.num==(ae 1)) && ((x.den==(ae 1)) && true))) with b4|b4
     ·rcases tf (n_ x.name) with b5|b5
      ·rw [show aA x=0 by simp only [aA,fk,pu,b0,b1,b2,b3,b4,b5]<;>rfl]
       exact pK [] 8 72 (.c (aG b5) (.k 1 (ay b1) (.k 1 (aG b4) (.k 3 (aB b3) (.k 3 (ay b2) (.k 2 (aG b1) (.k 1 (aG b0) (.n 2 .nil)))))))) (.c (gO x.name) (.c (vV) (.c (je) (.c (bz x.op) .nil))))
      ·rw [show aA x=12 by simp only [aA,fk,pu,b0,b1,b2,b3,b4,b5]<;>rfl]
       exact pK [] 8 200 (.c (cG b5) (.k 1 (ay b1) (.k 1 (aG b4) (.k 3 (aB b3) (.k 3 (ay b2) (.k 2 (aG b1) (.k 1 (aG b0) (.n 2 .nil)))))))) (.c (gO x.name) (.c (vV) (.c (je) (.c (bz x.op) .nil))))
     ·rw [show aA x=11 by simp only [aA,fk,pu,b0,b1,b2,b3,b4]<;>rfl]
      exact pK [] 6 40 (.c (cG b4) (.k 3 (aB b3) (.k 3 (ay b2) (.k 2 (aG b1) (.k 1 (aG b0) (.n 2 .nil)))))) (.c (vV) (.c (je) (.c (bz x.op) .nil)))
   ·rcases tf (xf x.op) with b3|b3
    ·rcases tf (il x.neg x.num x.den) with b4|b4
     ·rcases tf (n_ x.name) with b5|b5
      ·rw [show aA x=0 by simp only [aA,fk,pu,b0,b1,b2,b3,b4,b5]<;>rfl]
       exact pK [] 8 80 (.c (aG b5) (.k 1 (ay b1) (.k 1 (aG b4) (.k 3 (ay b3) (.k 1 (aB b2) (.k 2 (aG b1) (.k 1 (aG b0) (.n 2 .nil)))))))) (.c (gO x.name) (.c (eC x.neg x.num x.den h1 h2) (.c (bz x.op) .nil)))
      ·rw [show aA x=12 by simp only [aA,fk,pu,b0,b1,b2,b3,b4,b5]<;>rfl]
       exact pK [] 8 208 (.c (cG b5) (.k 1 (ay b1) (.k 1 (aG b4) (.k 3 (ay b3) (.k 1 (aB b2) (.k 2 (aG b1) (.k 1 (aG b0) (.n 2 .nil)))))))) (.c (gO x.name) (.c (eC x.neg x.num x.den h1 h2) (.c (bz x.op) .nil)))
     ·rw [show aA x=11 by simp only [aA,fk,pu,b0,b1,b2,b3,b4]<;>rfl]
      exact pK [] 6 48 (.c (cG b4) (.k 3 (ay b3) (.k 1 (aB b2) (.k 2 (aG b1) (.k 1 (aG b0) (.n 2 .nil)))))) (.c (eC x.neg x.num x.den h1 h2) (.c (bz x.op) .nil))
    ·rcases tf (kH x.op) with b4|b4
     ·rcases tf (il x.neg x.num x.den) with b5|b5
      ·rcases tf (decide (((0:Nat):Int)<(lp x.neg x.num x.den))) with b6|b6
       ·rcases tf (n_ x.name) with b7|b7
        ·rw [show aA x=0 by simp only [aA,fk,pu,b0,b1,b2,b3,b4,b5,b6,b7]<;>rfl]
         exact pK [] 10 352 (.c (aG b7) (.k 1 (ay b1) (.k 1 (aG b6) (.k 3 (ay b5) (.k 3 (ay b4) (.k 1 (aB b3) (.k 1 (aB b2) (.k 2 (aG b1) (.k 1 (aG b0) (.n 2 .nil)))))))))) (.c (gO x.name) (.c (cL x.neg x.num x.den h1 h2) (.c (eC x.neg x.num x.den h1 h2) (.c (bz x.op) .nil))))
        ·rw [show aA x=12 by simp only [aA,fk,pu,b0,b1,b2,b3,b4,b5,b6,b7]<;>rfl]
         exact pK [] 10 864 (.c (cG b7) (.k 1 (ay b1) (.k 1 (aG b6) (.k 3 (ay b5) (.k 3 (ay b4) (.k 1 (aB b3) (.k 1 (aB b2) (.k 2 (aG b1) (.k 1 (aG b0) (.n 2 .nil)))))))))) (.c (gO x.name) (.c (cL x.neg x.num x.den h1 h2) (.c (eC x.neg x.num x.den h1 h2) (.c (bz x.op) .nil))))
       ·rw [show aA x=11 by simp only [aA,fk,pu,b0,b1,b2,b3,b4,b5,b6]<;>rfl]
        exact pK [] 8 224 (.c (cG b6) (.k 3 (ay b5) (.k 3 (ay b4) (.k 1 (aB b3) (.k 1 (aB b2) (.k 2 (aG b1) (.k 1 (aG b0) (.n 2 .nil)))))))) (.c (cL x.neg x.num x.den h1 h2) (.c (eC x.neg x.num x.den h1 h2) (.c (bz x.op) .nil)))
      ·rw [show aA x=11 by simp only [aA,fk,pu,b0,b1,b2,b3,b4,b5]<;>rfl]
       exact pK [] 8 160 (.k 1 (aB b5) (.k 3 (ay b4) (.k 1 (aB b3) (.k 1 (aB b2) (.k 2 (aG b1) (.k 1 (aG b0) (.n 2 .nil))))))) (.c (eC x.neg x.num x.den h1 h2) (.c (bz x.op) .nil))
     ·rcases tf ((x.neg==false) && ((x.num== []) && ((x.den== []) && true))) with b5|b5
      ·rcases tf (n_ x.name) with b6|b6
       ·rw [show aA x=0 by simp only [aA,fk,pu,b0,b1,b2,b3,b4,b5,b6]<;>rfl]
        exact pK [] 9 128 (.c (aG b6) (.k 1 (ay b1) (.k 1 (aG b5) (.k 3 (aB b4) (.k 1 (aB b3) (.k 1 (aB b2) (.k 2 (aG b1) (.k 1 (aG b0) (.n 2 .nil))))))))) (.c (gO x.name) (.c (bz x.op) .nil))
       ·rw [show aA x=12 by simp only [aA,fk,pu,b0,b1,b2,b3,b4,b5,b6]<;>rfl]
        exact pK [] 9 384 (.c (cG b6) (.k 1 (ay b1) (.k 1 (aG b5) (.k 3 (aB b4) (.k 1 (aB b3) (.k 1 (aB b2) (.k 2 (aG b1) (.k 1 (aG b0) (.n 2 .nil))))))))) (.c (gO x.name) (.c (bz x.op) .nil))
      ·rw [show aA x=11 by simp only [aA,fk,pu,b0,b1,b2,b3,b4,b5]<;>rfl]
       exact pK [] 7 64 (.c (cG b5) (.k 3 (aB b4) (.k 1 (aB b3) (.k 1 (aB b2) (.k 2 (aG b1) (.k 1 (aG b0) (.n 2 .nil))))))) (.c (bz x.op) .nil)
  ·rcases tf (x.name== []) with b2|b2
   ·rcases tf (x.op==((4:Nat):Int)) with b3|b3
    ·rcases tf ((x.neg==false) && ((x.num==(ae 0)) && ((x.den==(ae 1)) && true))) with b4|b4
     ·rw [show aA x=0 by simp only [aA,fk,pu,b0,b1,b2,b3,b4]<;>rfl]
      exact pK [] 8 26 (.k 1 (aB b1) (.k 2 (ay b4) (.k 3 (ay b3) (.k 1 (aG b2) (.k 1 (cG b1) (.k 1 (aG b0) (.n 2 .nil))))))) (.c (je) (.c (bz x.op) .nil))
     ·rcases tf ((x.neg==false) && ((x.num==(ae 1)) && ((x.den==(ae 1)) && true))) with b5|b5
      ·rw [show aA x=0 by simp only [aA,fk,pu,b0,b1,b2,b3,b4,b5]<;>rfl]
       exact pK [] 8 10 (.k 1 (aB b1) (.k 1 (aG b5) (.k 3 (aB b4) (.k 3 (ay b3) (.k 1 (aG b2) (.k 1 (cG b1) (.k 1 (aG b0) (.n 2 .nil)))))))) (.c (vV) (.c (je) (.c (bz x.op) .nil)))
      ·rw [show aA x=11 by simp only [aA,fk,pu,b0,b1,b2,b3,b4,b5]<;>rfl]
       exact pK [] 6 42 (.c (cG b5) (.k 3 (aB b4) (.k 3 (ay b3) (.k 1 (aG b2) (.k 1 (cG b1) (.k 1 (aG b0) (.n 2 .nil))))))) (.c (vV) (.c (je) (.c (bz x.op) .nil)))
    ·rcases tf (xf x.op) with b4|b4
     ·rcases tf (il x.neg x.num x.den) with b5|b5
      ·rw [show aA x=0 by simp only [aA,fk,pu,b0,b1,b2,b3,b4,b5]<;>rfl]
       exact pK [] 8 18 (.k 1 (aB b1) (.k 1 (aG b5) (.k 3 (ay b4) (.k 1 (aB b3) (.k 1 (aG b2) (.k 1 (cG b1) (.k 1 (aG b0) (.n 2 .nil)))))))) (.c (eC x.neg x.num x.den h1 h2) (.c (bz x.op) .nil))
      ·rw [show aA x=11 by simp only [aA,fk,pu,b0,b1,b2,b3,b4,b5]<;>rfl]
       exact pK [] 6 50 (.c (cG b5) (.k 3 (ay b4) (.k 1 (aB b3) (.k 1 (aG b2) (.k 1 (cG b1) (.k 1 (aG b0) (.n 2 .nil))))))) (.c (eC x.neg x.num x.den h1 h2) (.c (bz x.op) .nil))
     ·rcases tf (kH x.op) with b5|b5
      ·rcases tf (il x.neg x.num x.den) with b6|b6
       ·rcases tf (decide (((0:Nat):Int)<(lp x.neg x.num x.den))) with b7|b7
        ·rw [show aA x=0 by simp only [aA,fk,pu,b0,b1,b2,b3,b4,b5,b6,b7]<;>rfl]
         exact pK [] 10 98 (.k 1 (aB b1) (.k 1 (aG b7) (.k 3 (ay b6) (.k 3 (ay b5) (.k 1 (aB b4) (.k 1 (aB b3) (.k 1 (aG b2) (.k 1 (cG b1) (.k 1 (aG b0) (.n 2 .nil)))))))))) (.c (cL x.neg x.num x.den h1 h2) (.c (eC x.neg x.num x.den h1 h2) (.c (bz x.op) .nil)))
        ·rw [show aA x=11 by simp only [aA,fk,pu,b0,b1,b2,b3,b4,b5,b6,b7]<;>rfl]
         exact pK [] 8 226 (.c (cG b7) (.k 3 (ay b6) (.k 3 (ay b5) (.k 1 (aB b4) (.k 1 (aB b3) (.k 1 (aG b2) (.k 1 (cG b1) (.k 1 (aG b0) (.n 2 .nil))))))))) (.c (cL x.neg x.num x.den h1 h2) (.c (eC x.neg x.num x.den h1 h2) (.c (bz x.op) .nil)))
       ·rw [show aA x=11 by simp only [aA,fk,pu,b0,b1,b2,b3,b4,b5,b6]<;>rfl]
        exact pK [] 8 162 (.k 1 (aB b6) (.k 3 (ay b5) (.k 1 (aB b4) (.k 1 (aB b3) (.k 1 (aG b2) (.k 1 (cG b1) (.k 1 (aG b0) (.n 2 .nil)))))))) (.c (eC x.neg x.num x.den h1 h2) (.c (bz x.op) .nil))
      ·rcases tf ((x.neg==false) && ((x.num== []) && ((x.den== []) && true))) with b6|b6
       ·rw [show aA x=0 by simp only [aA,fk,pu,b0,b1,b2,b3,b4,b5,b6]<;>rfl]
        exact pK [] 9 2 (.k 1 (aB b1) (.k 1 (aG b6) (.k 3 (aB b5) (.k 1 (aB b4) (.k 1 (aB b3) (.k 1 (aG b2) (.k 1 (cG b1) (.k 1 (aG b0) (.n 2 .nil))))))))) (.c (bz x.op) .nil)
       ·rw [show aA x=11 by simp only [aA,fk,pu,b0,b1,b2,b3,b4,b5,b6]<;>rfl]
        exact pK [] 7 66 (.c (cG b6) (.k 3 (aB b5) (.k 1 (aB b4) (.k 1 (aB b3) (.k 1 (aG b2) (.k 1 (cG b1) (.k 1 (aG b0) (.n 2 .nil)))))))) (.c (bz x.op) .nil)
   ·rw [show aA x=11 by simp only [aA,fk,pu,b0,b1,b2]<;>rfl]
    exact pK [] 3 6 (.c (cG b2) (.k 1 (cG b1) (.k 1 (aG b0) (.n 2 .nil)))) (.c (bz x.op) .nil)
 ·rw [show aA x=11 by simp only [aA,fk,pu,b0]<;>rfl]
  exact pK [] 2 3 (.k 1 (cG b0) (.n 2 .nil)) (.c (bz x.op) .nil)
def aF (l:List Nd):List AV:=l.flatMap lO
theorem Yq {nt:Nat} (hn:35≤nt) (l:List Nd) (nn:Bool) (k d:Nat) (w:Int) (x:Nd) (r:List Nd) (hdr:(List.drop ((Int.toNat (k:Int))*5) (aF l))=lO x++aF r) (h0:lit true (!(w==((0:Nat):Int)))=true) (h1:(decide (((0:Nat):Int)≤(k:Int)))=true) (h2:(decide ((k:Int)<(l.length:Int)))=true) (h3:lit true (decide ((k:Int)<(l.length:Int)))=true) (c0:CO 52 [.agg [.int .i64 x.op,.bool x.neg,.str x.num,.str x.den,.str x.name]] (.ret (.int .i64 w))):ah prog ap [] nt (aa 0 (af f21)) ⟨[(10,.sl (aF l) l.length nn),(11,.int .i64 (l.length:Int)),(12,.int .i64 (k:Int)),(3,.int .i64 (d:Int))],[],.dead,[]⟩ (.ret) ⟨[(2,.int .i64 w)],[],.dead,[]⟩:=
 have h:ah prog ap [] nt (aa 0 (af f21)) ⟨[(10,.sl (aF l) l.length nn),(11,.int .i64 (l.length:Int)),(12,.int .i64 (k:Int)),(3,.int .i64 (d:Int))],[],.dead,[]⟩ (.ret) ⟨[(2,.int .i64 w)],[(0,⟨[.int .i64 x.op,.bool x.neg,.str x.num,.str x.den,.str x.name],0,false,0,0,true⟩)],.dead,[]⟩:=pJ 21 [] 2 3 (.c h0 (.k 11 h1 (.c h2 (.c h3 .nil)))) (.c c0 (.v 14 (.ppt hdr) .nil)) hn
 h.forgetD 0 ⟨[.int .i64 x.op,.bool x.neg,.str x.num,.str x.den,.str x.name],0,false,0,0,true⟩ (by intro v h;cases h) (by decide) rfl ⟨Fz.same rfl,trivial⟩ rfl rfl
theorem Yr {nt:Nat} (hn:35≤nt) (l:List Nd) (nn:Bool) (k d:Nat) (w:Int) (x:Nd) (r:List Nd) (hdr:(List.drop ((Int.toNat (k:Int))*5) (aF l))=lO x++aF r) (h0:lit true (decide ((IntKind.wrap .i64 ((d:Int) - (AV.toInt (List.headD (List.drop ((0+((Int.toNat x.op)*5))+1) fC) .dead))))<((0:Nat):Int)))=true) (h1:(chk (.int .i64) (List.headD (List.drop ((0+((Int.toNat x.op)*5))+1) fC) .dead))=true) (h2:(decide (((0:Nat):Int)≤x.op))=true) (h3:(decide (x.op<((25:Nat):Int)))=true) (h4:lit false (!(w==((0:Nat):Int)))=true) (h5:(decide (((0:Nat):Int)≤(k:Int)))=true) (h6:(decide ((k:Int)<(l.length:Int)))=true) (h7:lit true (decide ((k:Int)<(l.length:Int)))=true) (c0:CO 52 [.agg [.int .i64 x.op,.bool x.neg,.str x.num,.str x.den,.str x.name]] (.ret (.int .i64 w))):ah prog ap [] nt (aa 0 (af f21)) ⟨[(10,.sl (aF l) l.length nn),(11,.int .i64 (l.length:Int)),(12,.int .i64 (k:Int)),(3,.int .i64 (d:Int))],[],.dead,[]⟩ (.ret) ⟨[(2,.int .i64 11)],[],.dead,[]⟩:=
 have h:ah prog ap [] nt (aa 0 (af f21)) ⟨[(10,.sl (aF l) l.length nn),(11,.int .i64 (l.length:Int)),(12,.int .i64 (k:Int)),(3,.int .i64 (d:Int))],[],.dead,[]⟩ (.ret) ⟨[(2,.int .i64 11)],[(0,⟨[.int .i64 x.op,.bool x.neg,.str x.num,.str x.den,.str x.name],0,false,0,0,true⟩)],.dead,[]⟩:=pJ 21 [] 3 5 (.c h0 (.c h1 (.c h2 (.c h3 (.k 1 h4 (.k 11 h5 (.c h6 (.c h7 .nil)))))))) (.c c0 (.v 14 (.ppt hdr) .nil)) hn
 h.forgetD 0 ⟨[.int .i64 x.op,.bool x.neg,.str x.num,.str x.den,.str x.name],0,false,0,0,true⟩ (by intro v h;cases h) (by decide) rfl ⟨Fz.same rfl,trivial⟩ rfl rfl
theorem Yt {nt:Nat} (hn:35≤nt) (l:List Nd) (nn:Bool) (k d:Nat) (w:Int) (x:Nd) (r:List Nd) (hdr:(List.drop ((Int.toNat (k:Int))*5) (aF l))=lO x++aF r) (h0:lit false (decide ((IntKind.wrap .i64 ((d:Int) - (AV.toInt (List.headD (List.drop ((0+((Int.toNat x.op)*5))+1) fC) .dead))))<((0:Nat):Int)))=true) (h1:(chk (.int .i64) (List.headD (List.drop ((0+((Int.toNat x.op)*5))+1) fC) .dead))=true) (h2:(decide (((0:Nat):Int)≤x.op))=true) (h3:(decide (x.op<((25:Nat):Int)))=true) (h4:lit false (!(w==((0:Nat):Int)))=true) (h5:(decide (((0:Nat):Int)≤(k:Int)))=true) (h6:(decide ((k:Int)<(l.length:Int)))=true) (h7:lit true (decide ((k:Int)<(l.length:Int)))=true) (c0:CO 52 [.agg [.int .i64 x.op,.bool x.neg,.str x.num,.str x.den,.str x.name]] (.ret (.int .i64 w))):ah prog ap [] nt (aa 0 (af f21)) ⟨[(10,.sl (aF l) l.length nn),(11,.int .i64 (l.length:Int)),(12,.int .i64 (k:Int)),(3,.int .i64 (d:Int))],[],.dead,[]⟩ (.normal) ⟨[(10,.sl (aF l) l.length nn),(11,.int .i64 (l.length:Int)),(12,.int .i64 (IntKind.wrap .i64 ((k:Int)+((1:Nat):Int)))),(3,.int .i64 (IntKind.wrap .i64 ((IntKind.wrap .i64 ((d:Int) - (AV.toInt (List.headD (List.drop ((0+((Int.toNat x.op)*5))+1) fC) .dead))))+((1:Nat):Int))))],[],.dead,[]⟩:=
 have h:ah prog ap [] nt (aa 0 (af f21)) ⟨[(10,.sl (aF l) l.length nn),(11,.int .i64 (l.length:Int)),(12,.int .i64 (k:Int)),(3,.int .i64 (d:Int))],[],.dead,[]⟩ (.normal) ⟨[(10,.sl (aF l) l.length nn),(11,.int .i64 (l.length:Int)),(12,.int .i64 (IntKind.wrap .i64 ((k:Int)+((1:Nat):Int)))),(3,.int .i64 (IntKind.wrap .i64 ((IntKind.wrap .i64 ((d:Int) - (AV.toInt (List.headD (List.drop ((0+((Int.toNat x.op)*5))+1) fC) .dead))))+((1:Nat):Int))))],[(0,⟨[.int .i64 x.op,.bool x.neg,.str x.num,.str x.den,.str x.name],0,false,0,0,true⟩)],.dead,[]⟩:=pJ 21 [] 3 1 (.c h0 (.c h1 (.c h2 (.c h3 (.k 1 h4 (.k 11 h5 (.c h6 (.c h7 .nil)))))))) (.c c0 (.v 14 (.ppt hdr) .nil)) hn
 h.forgetD 0 ⟨[.int .i64 x.op,.bool x.neg,.str x.num,.str x.den,.str x.name],0,false,0,0,true⟩ (by intro v h;cases h) (by decide) rfl ⟨Fz.same rfl,Fz.same rfl,Fz.same rfl,Fz.same rfl,trivial⟩ rfl rfl
theorem Hm {nt:Nat} (hn:35≤nt) (l:List Nd) (nn:Bool) (k d:Nat) (w:Int) (h0:lit false (decide ((k:Int)<(l.length:Int)))=true):ah prog ap [] nt (aa 0 (af f21)) ⟨[(10,.sl (aF l) l.length nn),(11,.int .i64 (l.length:Int)),(12,.int .i64 (k:Int)),(3,.int .i64 (d:Int))],[],.dead,[]⟩ (.exit 0) ⟨[(3,.int .i64 (d:Int))],[],.dead,[]⟩:=pJ 21 [] 1 0 (.c h0 .nil) (.nil) hn
theorem RA (l:List Nd) (nn:Bool) (d:Nat) (h0:lit true (decide (((60:Nat):Int)<(l.length:Int)))=true):CO 21 [.sl (aF l) l.length nn] (.ret (.int .i64 2)):=pK [0] 1 1 (.c h0 .nil) (.nil)
theorem RB (l:List Nd) (nn:Bool) (d:Nat) (h0:lit true (!((d:Int)==((1:Nat):Int)))=true) (h1:lit false (decide (((60:Nat):Int)<(l.length:Int)))=true) (l0:az prog ap [] 35 (.block 0 (.loop (aa 0 (af f21)))) ⟨[(0,.sl (aF l) l.length nn),(2,.int .i64 0),(3,.int .i64 0),(5,.dead),(6,.dead),(9,.bool (decide (((60:Nat):Int)<(l.length:Int)))),(10,.sl (aF l) l.length nn),(11,.int .i64 (l.length:Int)),(12,.int .i64 0),(13,.dead),(19,.dead),(29,.dead),(34,.dead)],[],.dead,[]⟩ (.normal) ⟨[(3,.int .i64 (d:Int))],[],.dead,[]⟩):CO 21 [.sl (aF l) l.length nn] (.ret (.int .i64 11)):=pK [0] 2 2 (.c h0 (.c h1 .nil)) (.l l0 .nil)
theorem RC (l:List Nd) (nn:Bool) (d:Nat) (h0:lit false (!((d:Int)==((1:Nat):Int)))=true) (h1:lit false (decide (((60:Nat):Int)<(l.length:Int)))=true) (l0:az prog ap [] 35 (.block 0 (.loop (aa 0 (af f21)))) ⟨[(0,.sl (aF l) l.length nn),(2,.int .i64 0),(3,.int .i64 0),(5,.dead),(6,.dead),(9,.bool (decide (((60:Nat):Int)<(l.length:Int)))),(10,.sl (aF l) l.length nn),(11,.int .i64 (l.length:Int)),(12,.int .i64 0),(13,.dead),(19,.dead),(29,.dead),(34,.dead)],[],.dead,[]⟩ (.normal) ⟨[(3,.int .i64 (d:Int))],[],.dead,[]⟩):CO 21 [.sl (aF l) l.length nn] (.ret (.int .i64 0)):=pK [0] 2 0 (.c h0 (.c h1 .nil)) (.l l0 .nil)
theorem RE (l:List Nd) (nn:Bool) (w:Int) (h0:lit false (decide (((60:Nat):Int)<(l.length:Int)))=true) (l0:az prog ap [] 35 (.block 0 (.loop (aa 0 (af f21)))) ⟨[(0,.sl (aF l) l.length nn),(2,.int .i64 0),(3,.int .i64 0),(5,.dead),(6,.dead),(9,.bool (decide (((60:Nat):Int)<(l.length:Int)))),(10,.sl (aF l) l.length nn),(11,.int .i64 (l.length:Int)),(12,.int .i64 0),(13,.dead),(19,.dead),(29,.dead),(34,.dead)],[],.dead,[]⟩ (.ret) ⟨[(2,.int .i64 w)],[],.dead,[]⟩):CO 21 [.sl (aF l) l.length nn] (.ret (.int .i64 w)):=pK [0] 1 0 (.c h0 .nil) (.l l0 .nil)
theorem Bt (x:Nd) (r:List Nd):aF (x::r)=lO x++aF r:=rfl
theorem tH (a b:List Nd):aF (a++b)=aF a++aF b:=by unfold aF;rw [List.flatMap_append]
theorem fe (l:List Nd):(aF l).length=l.length*5:=by
 induction l with
 |nil=>rfl
 |cons x r ih=>rw [Bt,List.length_append,ih,List.length_cons];simp [lO];omega
theorem zL {p r:List Nd} {x:Nd} {k:Nat} (h:k=p.length):List.drop (Int.toNat (k:Int)*5) (aF (p++x::r))=lO x++aF r:=by
 subst h
 rw [av,tH,Bt,← fe,List.drop_left]
def cO:List Nd→Nat→Nat ⊕ Int
 | [],d=> .inl d
 |x::r,d=>if aA x=0 then (if d<bX x.op then .inr 11 else cO r (d - bX x.op+1)) else .inr (aA x)
def bC (l:List Nd):Int:=if 60<l.length then 2 else match cO l 0 with| .inl d=>if d=1 then 0 else 11| .inr w=>w
def Kz:Nat ⊕ Int→a_
 | .inl _=> .exit 0
 | .inr _=> .ret
def Fp (l:List Nd) (nn:Bool) (p:Nat × Nat):St:=⟨[(10,.sl (aF l) l.length nn),(11,.int .i64 (l.length:Int)),(12,.int .i64 (p.1:Int)),(3,.int .i64 (p.2:Int))],[],.dead,[]⟩
def Eb:Nat ⊕ Int→St
 | .inl d=> ⟨[(3,.int .i64 (d:Int))],[],.dead,[]⟩
 | .inr w=> ⟨[(2,.int .i64 w)],[],.dead,[]⟩
theorem N_ (op:Int):bX op≤3:=by unfold bX;(repeat' split)<;>omega
theorem wK {x:Nd} (h:aA x=0):1≤x.op∧x.op≤24:=by
 cases hb:GZ x.op with
 |true=>simpa [GZ] using hb
 |false=>unfold aA at h;rw [hb] at h;simp at h
theorem Hn {nt:Nat} (hn:35≤nt) (l p r:List Nd) (nn:Bool) (x:Nd) (d:Nat) (hx:x.sm) (hl:l=p++x::r) (hll:l.length<2^40) (hd:d<2^41):
  (¬ aA x=0→ah prog ap [] nt (aa 0 (af f21)) (Fp l nn (p.length,d)) .ret (Eb (.inr (aA x))))∧
  (aA x=0→d<bX x.op→ah prog ap [] nt (aa 0 (af f21)) (Fp l nn (p.length,d)) .ret (Eb (.inr 11)))∧
  (aA x=0→¬ d<bX x.op→ah prog ap [] nt (aa 0 (af f21)) (Fp l nn (p.length,d)) .normal (Fp l nn (p.length+1,d - bX x.op+1))):=by
 have hdr:List.drop (Int.toNat (p.length:Int)*5) (aF l)=lO x++aF r:=by rw [hl];exact zL rfl
 have hlen:p.length+(r.length+1)=l.length:=by rw [hl];simp
 have hw:=JU x hx
 have har:=N_ x.op
 unfold Fp Eb
 refine ⟨fun h1=> ?_,fun h1 h2=> ?_,fun h1 h2=> ?_⟩
 ·have hb:=Yq hn l nn p.length d (aA x) x r hdr
  have hne:(!(aA x==((0:Nat):Int)))=true:=by simpa using h1
  simp (disch:=first|omega|(simp [ak,au]<;>omega)) only [hne,bi,cB,aW,aY] at hb
  apply hb<;>first|exact True.intro|omega|assumption|exact rfl
 ·obtain ⟨i1,i2⟩:=wK h1
  have ht:=DL i1 i2
  rw [h1] at hw
  have hb:=Yr hn l nn p.length d 0 x r hdr
  have e2:IntKind.wrap .i64 ((d:Int) - ((bX x.op:Nat):Int))=(d:Int) - (bX x.op:Int):=bH (by omega) (by omega)
  simp (disch:=first|omega|(simp [ak,au]<;>omega)) only [Nat.zero_add,ht,aP,e2,bi,aW,cJ,cU,dB,IP,cB,aY] at hb
  apply hb<;>first|exact True.intro|omega|assumption|exact rfl
 ·obtain ⟨i1,i2⟩:=wK h1
  have ht:=DL i1 i2
  rw [h1] at hw
  have hb:=Yt hn l nn p.length d 0 x r hdr
  have e2:IntKind.wrap .i64 ((d:Int) - ((bX x.op:Nat):Int))=((d - bX x.op:Nat):Int):=by rw [bH]<;>omega
  simp (disch:=first|omega|(simp [ak,au]<;>omega)) only [Nat.zero_add,ht,aP,e2,aY,cU,dB,dW,cJ,aW,IP,cB,bi,bV,aV] at hb
  apply hb<;>first|exact True.intro|omega|assumption|exact rfl
theorem KC {nt:Nat} (hn:35≤nt) (l:List Nd) (nn:Bool) (hll:l.length<2^40) (hsm:∀ x ∈ l,x.sm):∀ (r p:List Nd) (d:Nat),p++r=l→d≤p.length→aw prog ap [] nt (aa 0 (af f21)) Kz (Fp l nn) Eb (p.length,d) (cO r d):=by
 intro r
 induction r with
 |nil=>
  intro p d h _
  have hp:p.length=l.length:=by rw [← h];simp
  rw [hp]
  exact .done (Hm hn l nn l.length d 0 (by rw [aY];simp [lit]))
 | cons x r ih=>
  intro p d h hd
  have hl:p.length+(r.length+1)=l.length:=by rw [← h];simp
  obtain ⟨r1,r2,r3⟩:=Hn hn l p r nn x d (hsm x (by rw [← h];simp)) h.symm hll (by omega)
  simp only [cO]
  by_cases h1:aA x=0
  ·rw [if_pos h1]
   by_cases h2:d<bX x.op
   ·rw [if_pos h2];exact .done (r2 h1 h2)
   ·rw [if_neg h2]
    have hnext:=ih (p++ [x]) (d - bX x.op+1) (by simp [h]) (by simp;omega)
    rw [List.length_append,List.length_singleton] at hnext
    exact .next (r3 h1 h2) hnext
  ·rw [if_neg h1];exact .done (r1 h1)
theorem um (l:List Nd) (nn:Bool) (hsm:∀ x ∈ l,x.sm):CO 21 [.sl (aF l) l.length nn] (.ret (.int .i64 (bC l))):=by
 unfold bC
 by_cases h60:60<l.length
 ·rw [if_pos h60]
  exact RA l nn 0 (by rw [aY];exact decide_eq_true h60)
 ·rw [if_neg h60]
  have hc:lit false (decide (((60:Nat):Int)<(l.length:Int)))=true:=by rw [aY];simp only [lit,Bool.not_eq_true'];exact decide_eq_false h60
  have hloop:=fun nt (hn:35≤nt)=>KC hn l nn (by omega) hsm l [] 0 rfl (by simp)
  cases hr:cO l 0 with
  | inl d=>
   rw [hr] at hloop
   by_cases hd:d=1
   ·have h:=RC l nn d (by rw [jm,decide_eq_true hd];rfl) hc
    simp only [if_pos hd]
    exact h (aw.blk hloop (by simp [Kz]) rfl (aK.of ⟨rfl,rfl,rfl,rfl,trivial⟩) (aK.of ⟨rfl,trivial⟩))
   ·have h:=RB l nn d (by rw [jm,decide_eq_false hd];rfl) hc
    simp only [if_neg hd]
    exact h (aw.blk hloop (by simp [Kz]) rfl (aK.of ⟨rfl,rfl,rfl,rfl,trivial⟩) (aK.of ⟨rfl,trivial⟩))
  |inr w=>
   rw [hr] at hloop
   exact RE l nn w hc (aw.blk hloop (by simp [Kz]) rfl (aK.of ⟨rfl,rfl,rfl,rfl,trivial⟩) (aK.of ⟨rfl,trivial⟩))
theorem Rf {nt:Nat} (hn:45≤nt) (l:List Nd) (nn:Bool) (k:Nat) (C:List AV) (st own:List Nat) (x:Nd) (r:List Nd) (hdr:(List.drop ((Int.toNat (k:Int))*5) (aF l))=lO x++aF r) (h0:(decide ((IntKind.wrap .i64 (((0:Nat):Int) - (AV.toInt (List.headD (List.drop ((0+((Int.toNat x.op)*5))+1) fC) .dead))))=0))=true) (h1:(Nat.ble (((0+(Int.toNat (k:Int)))*1)+1) (List.length C))=true) (h2:(decide (((0:Nat):Int)≤(k:Int)))=true) (h3:(decide ((k:Int)<(l.length:Int)))=true) (h4:(chk (.int .i64) (List.headD (List.drop ((0+((Int.toNat x.op)*5))+1) fC) .dead))=true) (h5:(decide (((0:Nat):Int)≤x.op))=true) (h6:(decide (x.op<((25:Nat):Int)))=true) (h7:lit true (decide ((k:Int)<(l.length:Int)))=true) (c0:CO 62 [.nilS] (.ret (.sl (ag own) own.length false))):ah prog ap [] nt (aa 0 (af f37)) ⟨[(15,.sl (aF l) l.length nn),(16,.int .i64 (l.length:Int)),(17,.int .i64 (k:Int)),(4,.ref 0 0 0 l.length),(5,.nilS)],[(0,⟨C,0,false,0,1,true⟩)],.dead,[]⟩ (.normal) ⟨[(15,.sl (aF l) l.length nn),(16,.int .i64 (l.length:Int)),(17,.int .i64 (IntKind.wrap .i64 ((k:Int)+((1:Nat):Int)))),(4,.ref 0 0 0 l.length),(5,.ref 1 0 0 1)],[(0,⟨(List.take ((0+(Int.toNat (k:Int)))*1) C++ [.sl (ag own) own.length false]++List.drop (((0+(Int.toNat (k:Int)))*1)+1) C),0,false,0,1,true⟩),(1,⟨[.int .i64 (k:Int)],0,false,0,1,true⟩)],.dead,[]⟩:=
 have h:ah prog ap [] nt (aa 0 (af f37)) ⟨[(15,.sl (aF l) l.length nn),(16,.int .i64 (l.length:Int)),(17,.int .i64 (k:Int)),(4,.ref 0 0 0 l.length),(5,.nilS)],[(0,⟨C,0,false,0,1,true⟩)],.dead,[]⟩ (.normal) ⟨[(15,.sl (aF l) l.length nn),(16,.int .i64 (l.length:Int)),(17,.int .i64 (IntKind.wrap .i64 ((k:Int)+((1:Nat):Int)))),(4,.ref 0 0 0 l.length),(5,.ref 1 0 0 1)],[(0,⟨(List.take ((0+(Int.toNat (k:Int)))*1) C++ [.sl (ag own) own.length false]++List.drop (((0+(Int.toNat (k:Int)))*1)+1) C),0,false,0,1,true⟩),(1,⟨[.int .i64 (k:Int)],0,false,0,1,true⟩),(2,⟨[.int .i64 x.op,.bool x.neg,.str x.num,.str x.den,.str x.name],0,false,0,0,true⟩)],.dead,[]⟩:=pJ 37 [] 2 1 (.k 4 h0 (.c h1 (.c h2 (.c h3 (.c h0 (.k 1 h4 (.c h5 (.c h6 (.k 7 h2 (.c h3 (.c h7 .nil))))))))))) (.c c0 (.v 20 (.ppt hdr) .nil)) hn
 h.forgetD 2 ⟨[.int .i64 x.op,.bool x.neg,.str x.num,.str x.den,.str x.name],0,false,0,0,true⟩ (by intro v h;cases h) (by decide) rfl ⟨Fz.same rfl,Fz.same rfl,Fz.same rfl,Fz.same rfl,Fz.same rfl,trivial⟩ ⟨rfl,gS.same rfl,by decide,rfl,gS.same rfl,by decide,rfl⟩ rfl
theorem Ff {nt:Nat} (hn:45≤nt) (l:List Nd) (nn:Bool) (k:Nat) (C:List AV) (st own:List Nat) (h0:lit false (decide ((k:Int)<(l.length:Int)))=true):ah prog ap [] nt (aa 0 (af f37)) ⟨[(15,.sl (aF l) l.length nn),(16,.int .i64 (l.length:Int)),(17,.int .i64 (k:Int)),(4,.ref 0 0 0 l.length),(5,.nilS)],[(0,⟨C,0,false,0,1,true⟩)],.dead,[]⟩ (.exit 0) ⟨[(4,.ref 0 0 0 l.length)],[(0,⟨C,0,false,0,1,true⟩)],.dead,[]⟩:=pJ 37 [] 1 0 (.c h0 .nil) (.nil) hn
theorem Rc {nt:Nat} (hn:45≤nt) (l:List Nd) (nn:Bool) (k:Nat) (C:List AV) (st own:List Nat) (x:Nd) (r:List Nd) (hdr:(List.drop ((Int.toNat (k:Int))*5) (aF l))=lO x++aF r) (h0:(Nat.ble (((Int.toNat (IntKind.wrap .i64 ((st.length:Int) - (AV.toInt (List.headD (List.drop ((0+((Int.toNat x.op)*5))+1) fC) .dead))))) - 0)+1) 1099511627776)=true) (h1:(Nat.ble (((Int.toNat (IntKind.wrap .i64 ((st.length:Int) - (AV.toInt (List.headD (List.drop ((0+((Int.toNat x.op)*5))+1) fC) .dead))))) - 0)*1) (List.length (ag st)))=true) (h2:(decide (((0:Nat):Int)≤(IntKind.wrap .i64 ((st.length:Int) - (AV.toInt (List.headD (List.drop ((0+((Int.toNat x.op)*5))+1) fC) .dead))))))=true) (h3:(decide ((IntKind.wrap .i64 ((st.length:Int) - (AV.toInt (List.headD (List.drop ((0+((Int.toNat x.op)*5))+1) fC) .dead))))≤(st.length:Int)))=true) (h4:(Nat.ble (((0+(Int.toNat (k:Int)))*1)+1) (List.length C))=true) (h5:(decide (((0:Nat):Int)≤(k:Int)))=true) (h6:(decide ((k:Int)<(l.length:Int)))=true) (h7:(decide ((st.length:Int)≤(st.length:Int)))=true) (h8:(chk (.int .i64) (List.headD (List.drop ((0+((Int.toNat x.op)*5))+1) fC) .dead))=true) (h9:(decide (((0:Nat):Int)≤x.op))=true) (h10:(decide (x.op<((25:Nat):Int)))=true) (h11:lit true (decide ((k:Int)<(l.length:Int)))=true) (c0:ai prog ap 62 [.ref 0 0 (0+(Int.toNat (IntKind.wrap .i64 ((st.length:Int) - (AV.toInt (List.headD (List.drop ((0+((Int.toNat x.op)*5))+1) fC) .dead)))))) ((Int.toNat (st.length:Int)) - (Int.toNat (IntKind.wrap .i64 ((st.length:Int) - (AV.toInt (List.headD (List.drop ((0+((Int.toNat x.op)*5))+1) fC) .dead))))))] [⟨(ag st),0,false,0,1,true⟩] (.ret (.sl (ag own) own.length false)) [⟨(ag st),0,false,0,1,true⟩]):ah prog ap [] nt (aa 0 (af f37)) ⟨[(15,.sl (aF l) l.length nn),(16,.int .i64 (l.length:Int)),(17,.int .i64 (k:Int)),(4,.ref 0 0 0 l.length),(5,.ref 1 0 0 st.length)],[(0,⟨C,0,false,0,1,true⟩),(1,⟨(ag st),0,false,0,1,true⟩)],.dead,[]⟩ (.normal) ⟨[(15,.sl (aF l) l.length nn),(16,.int .i64 (l.length:Int)),(17,.int .i64 (IntKind.wrap .i64 ((k:Int)+((1:Nat):Int)))),(4,.ref 0 0 0 l.length),(5,.ref 1 0 0 (((Int.toNat (IntKind.wrap .i64 ((st.length:Int) - (AV.toInt (List.headD (List.drop ((0+((Int.toNat x.op)*5))+1) fC) .dead))))) - 0)+1))],[(0,⟨(List.take ((0+(Int.toNat (k:Int)))*1) C++ [.sl (ag own) own.length false]++List.drop (((0+(Int.toNat (k:Int)))*1)+1) C),0,false,0,1,true⟩),(1,⟨((List.take (((Int.toNat (IntKind.wrap .i64 ((st.length:Int) - (AV.toInt (List.headD (List.drop ((0+((Int.toNat x.op)*5))+1) fC) .dead))))) - 0)*1) (ag st))++ [.int .i64 (k:Int)]),0,false,0,1,true⟩)],.dead,[]⟩:=
 have h:ah prog ap [] nt (aa 0 (af f37)) ⟨[(15,.sl (aF l) l.length nn),(16,.int .i64 (l.length:Int)),(17,.int .i64 (k:Int)),(4,.ref 0 0 0 l.length),(5,.ref 1 0 0 st.length)],[(0,⟨C,0,false,0,1,true⟩),(1,⟨(ag st),0,false,0,1,true⟩)],.dead,[]⟩ (.normal) ⟨[(15,.sl (aF l) l.length nn),(16,.int .i64 (l.length:Int)),(17,.int .i64 (IntKind.wrap .i64 ((k:Int)+((1:Nat):Int)))),(4,.ref 0 0 0 l.length),(5,.ref 1 0 0 (((Int.toNat (IntKind.wrap .i64 ((st.length:Int) - (AV.toInt (List.headD (List.drop ((0+((Int.toNat x.op)*5))+1) fC) .dead))))) - 0)+1))],[(0,⟨(List.take ((0+(Int.toNat (k:Int)))*1) C++ [.sl (ag own) own.length false]++List.drop (((0+(Int.toNat (k:Int)))*1)+1) C),0,false,0,1,true⟩),(1,⟨((List.take (((Int.toNat (IntKind.wrap .i64 ((st.length:Int) - (AV.toInt (List.headD (List.drop ((0+((Int.toNat x.op)*5))+1) fC) .dead))))) - 0)*1) (ag st))++ [.int .i64 (k:Int)]),0,false,0,1,true⟩),(2,⟨[.int .i64 x.op,.bool x.neg,.str x.num,.str x.den,.str x.name],0,false,0,0,true⟩)],.dead,[]⟩:=pJ 37 [] 1 1 (.k 1 h0 (.c h1 (.k 2 h2 (.c h3 (.c h4 (.c h5 (.c h6 (.c h2 (.c h3 (.c h7 (.c h8 (.c h9 (.c h10 (.k 7 h5 (.c h6 (.c h11 .nil)))))))))))))))) (.c c0 (.v 20 (.ppt hdr) .nil)) hn
 h.forgetD 2 ⟨[.int .i64 x.op,.bool x.neg,.str x.num,.str x.den,.str x.name],0,false,0,0,true⟩ (by intro v h;cases h) (by decide) rfl ⟨Fz.same rfl,Fz.same rfl,Fz.same rfl,Fz.same rfl,Fz.same rfl,trivial⟩ ⟨rfl,gS.same rfl,by decide,rfl,gS.same rfl,by decide,rfl⟩ rfl
theorem Fe {nt:Nat} (hn:45≤nt) (l:List Nd) (nn:Bool) (k:Nat) (C:List AV) (st own:List Nat) (h0:lit false (decide ((k:Int)<(l.length:Int)))=true):ah prog ap [] nt (aa 0 (af f37)) ⟨[(15,.sl (aF l) l.length nn),(16,.int .i64 (l.length:Int)),(17,.int .i64 (k:Int)),(4,.ref 0 0 0 l.length),(5,.ref 1 0 0 st.length)],[(0,⟨C,0,false,0,1,true⟩),(1,⟨(ag st),0,false,0,1,true⟩)],.dead,[]⟩ (.exit 0) ⟨[(4,.ref 0 0 0 l.length)],[(0,⟨C,0,false,0,1,true⟩),(1,⟨(ag st),0,false,0,1,true⟩)],.dead,[]⟩:=pJ 37 [] 1 0 (.c h0 .nil) (.nil) hn
theorem Rd (l:List Nd) (nn:Bool) (w:Int) (C:List AV) (h0:lit true (!(w==((0:Nat):Int)))=true) (c0:CO 21 [.sl (aF l) l.length nn] (.ret (.int .i64 w))):CO 37 [.sl (aF l) l.length nn] (.ret (.tup [.nilS,.bool false])):=pK [0] 1 1 (.c h0 .nil) (.c c0 .nil)
theorem Re (l:List Nd) (nn:Bool) (w:Int) (C:List AV) (h0:(decide (((0:Nat):Int)≤(l.length:Int)))=true) (h1:(decide ((l.length:Int)=(l.length:Int)))=true) (h2:(decide ((l.length:Int)≤((1099511627776:Nat):Int)))=true) (h3:lit false (!(w==((0:Nat):Int)))=true) (c0:CO 21 [.sl (aF l) l.length nn] (.ret (.int .i64 w))) (l0:az prog ap [] 45 (.block 0 (.loop (aa 0 (af f37)))) ⟨[(0,.sl (aF l) l.length nn),(2,.nilS),(3,.bool false),(4,.ref 0 0 0 (Int.toNat (l.length:Int))),(5,.nilS),(6,.dead),(7,.dead),(8,.dead),(11,.bool (!(w==((0:Nat):Int)))),(15,.sl (aF l) l.length nn),(16,.int .i64 (l.length:Int)),(17,.int .i64 0),(18,.dead)],[(0,⟨(dV (Int.toNat (l.length:Int)) [.nilS]),0,false,0,1,true⟩)],.dead,[]⟩ (.normal) ⟨[(4,.ref 0 0 0 l.length)],[(0,⟨C,0,false,0,1,true⟩)],.dead,[]⟩):CO 37 [.sl (aF l) l.length nn] (.ret (.tup [.own (List.take (l.length*1) C) l.length 1,.bool true])):=pK [0] 1 0 (.c h0 (.c h1 (.c h2 (.c h3 .nil)))) (.l l0 (.c c0 .nil))
theorem RG:CO 62 [.nilS] (.ret (.nilS)):=pK [] 1 1 (.n 1 .nil) (.nil)
theorem RF (st:List Nat) (i n:Nat) (h0:(Nat.beq (List.length (List.take (n*1) (List.drop (i*1) (ag st)))) (n*1))=true) (h1:(Nat.ble (0+n) 1099511627776)=true):ai prog ap 62 [.ref 0 0 i n] [⟨(ag st),0,false,0,1,true⟩] (.ret (.own (List.take ((0+n)*1) ([]++(List.take (n*1) (List.drop (i*1) (ag st))))) (0+n) 1)) [⟨(ag st),0,false,0,1,true⟩]:=pK [] 1 0 (.c h0 (.c h1 (.n 3 .nil))) (.nil)
def oD:List Nd→Nat→List Nat→List (List Nat)
 | [],_,_=> []
 |x::r,k,st=>st.drop (st.length - bX x.op)::oD r (k+1) (st.take (st.length - bX x.op)++ [k])
def db (l:List Nd):List (List Nat):=oD l 0 []
def yN (a:List Nat):AV:= .sl (ag a) a.length false
def bD (ll:List (List Nat)):List AV:=ll.map yN
def J4:List Nd→Nat→List Nat→List Nat
 | [],_,st=>st
 |x::r,k,st=>J4 r (k+1) (st.take (st.length - bX x.op)++ [k])
theorem Av (r:List Nd):∀ k st,(oD r k st).length=r.length:=by
 induction r with
 |nil=>intros;rfl
 |cons x r ih=>intro k st;simp only [oD,List.length_cons,ih]
def XK (st:List Nat):AV:=match st with| []=> .nilS|x::l=> .ref 1 0 0 (x::l).length
def QX (st:List Nat):Hp:=match st with| []=> []|x::l=> [(1,⟨ag (x::l),0,false,0,1,true⟩)]
theorem Cu {l:List Nat} (h:l ≠ []):XK l= .ref 1 0 0 l.length:=by cases l with|nil=>exact absurd rfl h|cons _ _=>rfl
theorem yK {l:List Nat} (h:l ≠ []):QX l= [(1,⟨ag l,0,false,0,1,true⟩)]:=by cases l with|nil=>exact absurd rfl h|cons _ _=>rfl
def yL (l:List Nd) (nn:Bool) (p:Nat × List Nat × List AV):St:=⟨[(15,.sl (aF l) l.length nn),(16,.int .i64 (l.length:Int)),(17,.int .i64 (p.1:Int)),(4,.ref 0 0 0 l.length),(5,XK p.2.1)],(0,⟨p.2.2,0,false,0,1,true⟩)::QX p.2.1,.dead,[]⟩
def xy (l:List Nd) (p:List Nat × List AV):St:=⟨[(4,.ref 0 0 0 l.length)],(0,⟨p.2,0,false,0,1,true⟩)::QX p.1,.dead,[]⟩
theorem Ft:ai prog ap 62 [.nilS] [] (.ret (.sl (ag []) ([]:List Nat).length false)) []:=RG.out (fO.ret rfl rfl (aM.nilS false rfl))
theorem Hr (st:List Nat) (i n:Nat) (h:i+n=st.length) (hl:st.length<2^40):ai prog ap 62 [.ref 0 0 i n] [⟨ag st,0,false,0,1,true⟩] (.ret (.sl (ag (st.drop i)) n false)) [⟨ag st,0,false,0,1,true⟩]:=by
 have h1:=RF st i n
 have hln:n≤st.length:=by omega
 have htk:List.take n (List.drop i (ag st))=ag (st.drop i):=by
  rw [AU,cD,List.take_of_length_le (by simp;omega)]
 have hlen:(ag (st.drop i)).length=n:=by rw [bY,List.length_drop];omega
 simp (disch:=first|omega|(simp [ak,au]<;>omega)) only [Nat.mul_one,htk,hlen,zK,decide_true,Nat.zero_add,dw,aW,List.nil_append] at h1
 have h2:=(h1 True.intro (by omega)).thaw (by simp)
 simp only [qC,thaw,Nat.mul_one] at h2
 rw [List.take_of_length_le (by rw [List.length_take,hlen];omega),List.take_of_length_le (by omega)] at h2
 exact h2.out (fO.sl1 _ _ _)
theorem Kb {nt:Nat} (hn:45≤nt) (l p r:List Nd) (nn:Bool) (x:Nd) (st:List Nat) (C C2:List AV) (hl:l=p++x::r) (hll:l.length<2^39) (hop:1≤x.op∧x.op≤24) (har:bX x.op≤st.length) (hst:st.length≤p.length) (hC:C.length=l.length)
  (hset:List.take p.length C++ [yN (st.drop (st.length - bX x.op))]++List.drop (p.length+1) C=C2):
  ah prog ap [] nt (aa 0 (af f37)) (yL l nn (p.length,st,C)) .normal (yL l nn (p.length+1,st.take (st.length - bX x.op)++ [p.length],C2)):=by
 have hdr:List.drop (Int.toNat (p.length:Int)*5) (aF l)=lO x++aF r:=by rw [hl];exact zL rfl
 have hlen:p.length+(r.length+1)=l.length:=by rw [hl];simp
 obtain ⟨i1,i2⟩:=hop
 have ht:=DL i1 i2
 unfold yL
 simp only
 rw [Cu (eO _ _),yK (eO _ _)]
 rcases Decidable.em (st= []) with rfl|hne
 ·have h0:bX x.op=0:=by simpa using har
  have hb:=Rf hn l nn p.length C [] [] x r hdr
  simp only [List.length_nil,Nat.zero_sub,List.drop_nil,List.take_nil,List.nil_append] at hset ⊢
  unfold yN at hset
  have hca:=Ft
  simp (disch:=first|omega|(simp [ak,au]<;>omega)) only [Nat.zero_add,ht,h0,aP,fF,Nat.sub_zero,aW,av,Nat.mul_one,hC,dw,cB,aY,cJ,bi,List.length_nil,bV,aV] at hb
  simp only [XK,QX,ag,List.map_cons,List.map_nil,List.length_cons,List.length_nil,Nat.zero_add] at hb hset hca ⊢
  rw [hset] at hb
  apply hb<;>first|exact True.intro|omega|assumption|exact rfl|skip
 ·have hcl:=Hr st (st.length - bX x.op) (bX x.op) (by omega) (by omega)
  have hb:=Rc hn l nn p.length C st (st.drop (st.length - bX x.op)) x r hdr
  rw [Cu hne,yK hne]
  unfold yN at hset
  generalize hm:st.length - bX x.op=m at*
  have hown:(st.drop m).length=bX x.op:=by rw [List.length_drop];omega
  have e2:IntKind.wrap .i64 ((st.length:Int) - ((bX x.op:Nat):Int))=(m:Int):=by rw [bH]<;>omega
  have e3:st.length - m=bX x.op:=by omega
  rw [hown] at hb hset
  have e4:(st.take m).length=m:=by rw [List.length_take];omega
  simp (disch:=first|omega|(simp [ak,au]<;>omega)) only [Nat.zero_add,ht,aP,e2,av,Nat.sub_zero,dw,aW,Nat.mul_one,bY,cB,hC,aY,cJ,bi,e3,bV,aV,hset,cD,gW] at hb
  simp only [List.length_append,List.length_singleton,e4]
  apply hb<;>first|exact True.intro|omega|assumption|exact rfl|skip
theorem KA {r:List Nd} {d e:Nat} {x:Nd} (h:cO (x::r) d= .inl e):(1≤x.op∧x.op≤24)∧bX x.op≤d∧cO r (d - bX x.op+1)= .inl e:=by
 simp only [cO] at h
 by_cases h1:aA x=0
 ·rw [if_pos h1] at h
  by_cases h2:d<bX x.op
  ·rw [if_pos h2] at h;cases h
  ·rw [if_neg h2] at h
   exact ⟨wK h1,by omega,h⟩
 ·rw [if_neg h1] at h;cases h
theorem mY (ll:List (List Nat)):(bD ll).length=ll.length:=by simp [bD]
theorem Fg (done:List (List Nat)) (a:List Nat) (m:Nat):List.take done.length (bD done++List.replicate (m+1) AV.nilS)++ [yN a]++List.drop (done.length+1) (bD done++List.replicate (m+1) AV.nilS)=bD (done++ [a])++List.replicate m AV.nilS:=by
 have hl:=mY done
 rw [List.take_append_of_le_length (by omega),List.take_of_length_le (by omega),List.drop_append,List.drop_of_length_le (by omega),List.nil_append,show done.length+1 - (bD done).length=1 by omega,List.replicate_succ,List.drop_succ_cons,List.drop_zero]
 unfold bD
 rw [List.map_append]
 rfl
theorem Ka {nt:Nat} (hn:45≤nt) (l:List Nd) (nn:Bool) (hll:l.length<2^39) (e:Nat):∀ (r p:List Nd) (st:List Nat) (done:List (List Nat)),p++r=l→cO r st.length= .inl e→st.length≤p.length→done.length=p.length→aw prog ap [] nt (aa 0 (af f37)) (fun _=> .exit 0) (yL l nn) (xy l) (p.length,st,bD done++List.replicate r.length .nilS) (J4 r p.length st,bD (done++oD r p.length st)):=by
 intro r
 induction r with
 | nil=>
  intro p st done h hc hst hd
  have hp:p.length=l.length:=by rw [← h];simp
  rw [hp]
  simp only [oD,J4,List.append_nil,List.length_nil,List.replicate_zero]
  refine .done ?_
  unfold yL xy
  have hx:ah prog ap [] nt (aa 0 (af f37)) (yL l nn (l.length,st,bD done)) (.exit 0) (xy l (st,bD done)):=by
   unfold yL xy
   rcases Decidable.em (st= []) with rfl|hne
   ·exact Ff hn l nn l.length (bD done) [] [] (by rw [aY];simp [lit])
   ·simp only
    rw [Cu hne,yK hne]
    exact Fe hn l nn l.length (bD done) st [] (by rw [aY];simp [lit])
  exact hx
 | cons x r ih=>
  intro p st done h hc hst hd
  obtain ⟨hop,har,hc2⟩:=KA hc
  have hl:p.length+(r.length+1)=l.length:=by rw [← h];simp
  have hst2:(st.take (st.length - bX x.op)++ [p.length]).length=st.length - bX x.op+1:=by
   rw [List.length_append,List.length_take,List.length_singleton,Nat.min_eq_left (by omega)]
  have hnext:=ih (p++ [x]) (st.take (st.length - bX x.op)++ [p.length]) (done++ [st.drop (st.length - bX x.op)]) (by simp [h]) (by rw [hst2];exact hc2) (by rw [hst2];simp;omega) (by simp [hd])
  rw [List.length_append,List.length_singleton,List.append_assoc] at hnext
  simp only [oD,J4,List.length_cons]
  have hset:=Fg done (st.drop (st.length - bX x.op)) r.length
  rw [hd] at hset
  have hstep:=Kb hn l p r nn x st (bD done++List.replicate (r.length+1) .nilS) _ h.symm hll hop har hst (by rw [List.length_append,mY,List.length_replicate];omega) hset
  exact .next hstep hnext
theorem Je (n:Nat):dV n [AV.nilS]=List.replicate n AV.nilS:=by
 unfold dV
 induction n with
 |zero=>rfl
 |succ n ih=>rw [List.replicate_succ,List.flatten_cons,ih,List.replicate_succ];rfl
theorem CG {l:List Nd} (h:bC l=0):l.length≤60∧cO l 0= .inl 1:=by
 unfold bC at h
 by_cases h60:60<l.length
 ·rw [if_pos h60] at h;cases h
 ·rw [if_neg h60] at h
  refine ⟨by omega, ?_⟩
  have hne:∀ (r:List Nd) (d:Nat) (w:Int),cO r d= .inr w→w ≠ 0:=by
   intro r
   induction r with
   |nil=>intro d w h;cases h
   | cons x r ih=>
    intro d w h
    simp only [cO] at h
    by_cases h1:aA x=0
    ·rw [if_pos h1] at h
     by_cases h2:d<bX x.op
     ·rw [if_pos h2] at h;cases h;decide
     ·rw [if_neg h2] at h;exact ih _ _ h
    ·rw [if_neg h1] at h;cases h;exact h1
  cases hc:cO l 0 with
  |inl d=>
   rw [hc] at h
   by_cases hd:d=1
   ·rw [hd]
   ·simp only [if_neg hd] at h;cases h
  |inr w=>rw [hc] at h;exact absurd h (hne l 0 w hc)
theorem Kj (l:List Nd) (nn:Bool) (hsm:∀ x ∈ l,x.sm) (hc:bC l=0):CO 37 [.sl (aF l) l.length nn] (.ret (.tup [.sl (bD (db l)) l.length true,.bool true])):=by
 have htk:List.take l.length (bD (db l))=bD (db l):=List.take_of_length_le (by rw [mY];unfold db;rw [Av];omega)
 suffices hown:CO 37 [.sl (aF l) l.length nn] (.ret (.tup [.own (bD (db l)) l.length 1,.bool true])) by
  have h:=hown.thaw (by simp)
  simp only [qC,List.map_cons,List.map_nil,thaw,Nat.mul_one,htk] at h
  exact h
 have hck:=um l nn hsm
 obtain ⟨h60,hin⟩:=CG hc
 rw [hc] at hck
 have hloop:=fun nt (hn:45≤nt)=>Ka hn l nn (by omega) 1 l [] [] [] rfl hin (by simp) rfl
 have hal:(db l).length=l.length:=Av l 0 []
 have h:=Re l nn 0 (bD (db l))
 simp (disch:=first|omega|(simp [ak,au]<;>omega)) only [cB,aW,decide_true,cU,dB,IP,av,Je,Nat.mul_one,htk] at h
 have hlen:(bD (db l)).length=l.length:=by rw [mY,hal]
 have hr:l.length<1099511627776:=by omega
 apply h<;>first|exact True.intro|omega|assumption|exact rfl|skip
 intro nt hnt
 have hb:=aw.blk (s:=yL l nn (0,[],List.replicate l.length AV.nilS)) (s':=xy l (J4 l 0 [],bD (db l))) (id:=0) hloop (by simp) rfl (aK.refl _) (aK.refl _) nt hnt
 unfold yL xy at hb
 simp only [XK,QX] at hb
 have hb2:=hb.weak (s':=⟨[(0,.sl (aF l) l.length nn),(2,.nilS),(3,.bool false),(4,.ref 0 0 0 l.length),(5,.nilS),(6,.dead),(7,.dead),(8,.dead),(11,.bool false),(15,.sl (aF l) l.length nn),(16,.int .i64 (l.length:Int)),(17,.int .i64 0),(18,.dead)],[(0,⟨List.replicate l.length AV.nilS,0,false,0,1,true⟩)],.dead,[]⟩) (aK.of ⟨rfl,rfl,rfl,rfl,rfl,trivial⟩) (aK.refl _)
 rcases Decidable.em (J4 l 0 []= []) with he|he
 ·rw [he] at hb2;exact hb2
 ·have e1:=yK he
  unfold QX at e1
  rw [e1] at hb2
  exact hb2.forget 1 _ (by intro v h;cases h) (by decide) rfl ⟨Fz.same rfl,trivial⟩ ⟨rfl,gS.same rfl,by decide,rfl⟩
structure Sc where
 name:List UInt8
 u1:Int
 u2:Int
 bx:List AV
 bn:Nat
def zY (x:Sc):List AV:= [.str x.name,.int .i64 x.u1,.int .i64 x.u2,.sl x.bx x.bn false]
def cR (l:List Sc):List AV:=l.flatMap zY
theorem jf (l:List Sc):(cR l).length=l.length*4:=by
 induction l with
 |nil=>rfl
 |cons x r ih=>simp only [cR,List.flatMap_cons,List.length_append,List.length_cons] at ih ⊢;rw [ih];simp [zY];omega
theorem BJ {l:List Sc} {k:Nat} (h:k<l.length):List.drop (k*4) (cR l)=zY l[k]++cR (l.drop (k+1)):=by
 induction l generalizing k with
 |nil=>simp at h
 | cons x r ih=>
  cases k with
  |zero=>simp [cR]
  |succ k=>
   have h':k<r.length:=by simpa using h
   show List.drop ((k+1)*4) (zY x++cR r)=_
   rw [show (k+1)*4=(zY x).length+k*4 by simp [zY];omega,List.drop_append,Nat.add_sub_cancel_left,ih h',List.drop_of_length_le (by omega)]
   rfl
def dX (a b:Nat):Nat:=if a=0 then b else if b=0∨a=b then a else 3
def eY (a:Nat):Nat:=if a=1∨a=2 then 3 - a else a
def dF (A:List (List Nat)) (ss:List Nat) (k i:Nat):Nat:=ss.getD ((A.getD k []).getD i 0) 0
def fI (A:List (List Nat)) (ss:List Nat) (k:Nat):Nat:=(A.getD k []).foldl (fun s i=>dX s (ss.getD i 0)) 0
abbrev wB (e:List Nd) (ne:Bool) (A:List (List Nat)) (sc:List Sc) (ns:Bool) (ss:List Nat):aL:=⟨[.sl (aF e) e.length ne,.sl (bD A) A.length true,.sl (cR sc) sc.length ns,.ref 1 0 0 ss.length],0,false,0,0,false⟩
abbrev sB (ss:List Nat):aL:=⟨ag ss,0,false,0,1,true⟩
abbrev wH (e:List Nd) (ne:Bool) (A:List (List Nat)) (sc:List Sc) (ns:Bool) (ss:List Nat):List aL:= [wB e ne A sc ns ss,sB ss]
theorem oF {A:List (List Nat)} {k:Nat} (h:k<A.length):List.drop (Int.toNat (k:Int)*1) (bD A)= [yN (A.getD k [])]++bD (A.drop (k+1)):=by
 unfold bD
 rw [av,Nat.mul_one,← List.map_drop,List.drop_eq_getElem_cons h,List.getD_eq_getElem?_getD,List.getElem?_eq_getElem h]
 rfl
theorem nr {a:List Nat} {k:Nat} (h:k<a.length):List.drop (Int.toNat (k:Int)*1) (ag a)= [AV.int .i64 ((a.getD k 0:Nat):Int)]++ag (a.drop (k+1)):=by
 unfold ag
 rw [av,Nat.mul_one,← List.map_drop,List.drop_eq_getElem_cons h,List.getD_eq_getElem?_getD,List.getElem?_eq_getElem h]
 rfl
theorem eG (k:Nat):decide (((0:Nat):Int)≤(k:Int))=true:=decide_eq_true (by omega)
theorem jT {k n:Nat} (h:k<n):decide ((k:Int)<(n:Int))=true:=decide_eq_true (by omega)
theorem VQ (e:List Nd) (ne:Bool) (A:List (List Nat)) (sc:List Sc) (ns:Bool) (ss:List Nat) (k i:Nat) (a:List Nat) (rA:List AV) (j:Nat) (ri:List AV) (s:Nat) (rs:List AV) (hk:k<A.length) (ha:(List.drop ((Int.toNat (k:Int))*1) (bD A))= [yN a]++rA) (hl:i<a.length) (hi:(List.drop ((Int.toNat (i:Int))*1) (ag a))= [AV.int .i64 (j:Int)]++ri) (hj:j<ss.length) (hs:(List.drop ((0+(Int.toNat (j:Int)))*1) (ag ss))= [AV.int .i64 (s:Int)]++rs):
  ai prog ap 69 [.ptr 0 0 0,.int .i64 (k:Int),.int .i64 (i:Int)] (wH e ne A sc ns ss) (.ret (.int .i64 (s:Int))) (wH e ne A sc ns ss):=pK [] 0 0 (.a (Hl [.int .i64] hs rfl) (.c (eG j) (.c (jT hj) (.k 1 (eG i) (.c (jT hl) (.k 1 (eG k) (.c (jT hk) (.n 2 .nil)))))))) (.v 22 (.rd1 (.int .i64) hs rfl) (.v 19 (.ppt hi) (.v 16 (.ppt ha) .nil)))
theorem jP (e:List Nd) (ne:Bool) (A:List (List Nat)) (sc:List Sc) (ns:Bool) (ss:List Nat) (k i:Nat) (hk:k<A.length) (hi:i<(A.getD k []).length) (hj:(A.getD k []).getD i 0<ss.length):
  ai prog ap 69 [.ptr 0 0 0,.int .i64 (k:Int),.int .i64 (i:Int)] (wH e ne A sc ns ss) (.ret (.int .i64 ((dF A ss k i:Nat):Int))) (wH e ne A sc ns ss):=
 VQ e ne A sc ns ss k i _ _ _ _ _ _ hk (oF hk) hi (nr hi) hj (by rw [Nat.zero_add];exact nr hj)
theorem gp (a b:Nat):((a:Int)==(b:Int))=decide (a=b):=by by_cases h:a=b<;>simp [h]<;>omega
theorem zB (a b:Nat):CO 68 [.int .i64 (a:Int),.int .i64 (b:Int)] (.ret (.int .i64 ((dX a b:Nat):Int))):=by
 rcases tf ((a:Int)==((0:Nat):Int)) with b0|b0
 ·rw [show dX a b=b by unfold dX;simp only [gp,decide_eq_true_eq,decide_eq_false_iff_not] at b0;simp [*]]
  exact pK [] 1 1 (.c (ay b0) .nil) (.nil)
 ·rcases tf ((b:Int)==((0:Nat):Int)) with b1|b1
  ·rw [show dX a b=a by unfold dX;simp only [gp,decide_eq_true_eq,decide_eq_false_iff_not] at b0 b1;simp [*]]
   exact pK [] 3 6 (.k 1 (ay b1) (.c (aB b0) .nil)) (.nil)
  ·rcases tf ((a:Int)==(b:Int)) with b2|b2
   ·rw [show dX a b=a by unfold dX;simp only [gp,decide_eq_true_eq,decide_eq_false_iff_not] at b0 b1 b2;simp [*]]
    exact pK [] 3 4 (.c (ay b2) (.c (aB b1) (.c (aB b0) .nil))) (.nil)
   ·rw [show dX a b=3 by unfold dX;simp only [gp,decide_eq_true_eq,decide_eq_false_iff_not] at b0 b1 b2;simp [*]]
    exact pK [] 3 0 (.c (aB b2) (.c (aB b1) (.c (aB b0) .nil))) (.nil)
theorem E0 (a:Nat):CO 97 [.int .i64 (a:Int)] (.ret (.int .i64 ((eY a:Nat):Int))):=by
 rcases tf ((a:Int)==((1:Nat):Int)) with b0|b0
 ·have e:((eY a:Nat):Int)=IntKind.wrap .i64 (((3:Nat):Int) - (a:Int)):=by
   simp only [gp,decide_eq_true_eq,decide_eq_false_iff_not] at b0
   subst b0
   decide
  rw [e]
  exact pK [] 2 3 (.k 1 (ay b0) .nil) (.nil)
 ·rcases tf ((a:Int)==((2:Nat):Int)) with b1|b1
  ·have e:((eY a:Nat):Int)=IntKind.wrap .i64 (((3:Nat):Int) - (a:Int)):=by
    simp only [gp,decide_eq_true_eq,decide_eq_false_iff_not] at b0 b1
    subst b1
    decide
   rw [e]
   exact pK [] 2 2 (.c (ay b1) (.c (aB b0) .nil)) (.nil)
  ·rw [show eY a=a by unfold eY;simp only [gp,decide_eq_true_eq,decide_eq_false_iff_not] at b0 b1;simp [*]]
   exact pK [] 2 0 (.c (aB b1) (.c (aB b0) .nil)) (.nil)
theorem sI {i:Nat} (h:i<2^62):AV.int .i64 (IntKind.wrap .i64 ((i:Int)+((1:Nat):Int)))= .int .i64 ((i+1:Nat):Int):=by rw [bH]<;>first|rfl|omega
def cy (fd fc:Nat→Nat→Nat→Nat):List Nat→List Nat→Nat→List Nat × Nat
 | [],_,c=>([],c)
 |x::l,m,c=>(fd x (m.headD 0) c::(cy fd fc l m.tail (fc x (m.headD 0) c)).1,(cy fd fc l m.tail (fc x (m.headD 0) c)).2)
theorem zo {l:List Nat} {i:Nat} (h:i<l.length):l.getD i 0=l[i]:=by rw [List.getD_eq_getElem?_getD,List.getElem?_eq_getElem h];rfl
def Rh (e:List Nd) (ne:Bool) (A:List (List Nat)) (sc:List Sc) (ns:Bool) (ss:List Nat) (k n:Nat) (p:Nat × Nat):St:=⟨[(0,.ptr 0 0 0),(1,.int .i64 (k:Int)),(5,.int .i64 (p.2:Int)),(14,.int .i64 (n:Int)),(15,.int .i64 (p.1:Int))],[(0,⟨[.sl (aF e) e.length ne,.sl (bD A) A.length true,.sl (cR sc) sc.length ns,.ref 1 0 0 ss.length],0,false,0,0,false⟩),(1,⟨(ag ss),0,false,0,1,true⟩)],.dead,[]⟩
def Nj (e:List Nd) (ne:Bool) (A:List (List Nat)) (sc:List Sc) (ns:Bool) (ss:List Nat) (k:Nat) (acc:Nat):St:=⟨[(0,.ptr 0 0 0),(1,.int .i64 (k:Int)),(5,.int .i64 (acc:Int))],[(0,⟨[.sl (aF e) e.length ne,.sl (bD A) A.length true,.sl (cR sc) sc.length ns,.ref 1 0 0 ss.length],0,false,0,0,false⟩),(1,⟨(ag ss),0,false,0,1,true⟩)],.dead,[]⟩
theorem Hc {nt:Nat} (hn:26≤nt) (e:List Nd) (ne:Bool) (A:List (List Nat)) (sc:List Sc) (ns:Bool) (ss:List Nat) (k n:Nat) (hk:k<A.length) (hl:n<2^40) (hn2:n=(A.getD k []).length) (hb:∀ j ∈ A.getD k [],j<ss.length):∀ (d i acc:Nat),i+d=n→
  aw prog ap (wH e ne A sc ns ss) nt (aa 0 (af f39)) (fun _=> .exit 0) (Rh e ne A sc ns ss k n) (Nj e ne A sc ns ss k) (i,acc) (((A.getD k []).drop i).foldl (fun s j=>dX s (ss.getD j 0)) acc):=by
 intro d
 induction d with
 |zero=>
  intro i acc hi
  have b0:(decide ((i:Int)<(n:Int)))=false:=decide_eq_false (by omega)
  rw [List.drop_of_length_le (by omega)]
  exact .done (pN 39 [] 1 0 (.c (aB b0) .nil) (.nil) hn)
 | succ d ih=>
  intro i acc hi
  have b0:(decide ((i:Int)<(n:Int)))=true:=decide_eq_true (by omega)
  have hil:i<(A.getD k []).length:=by omega
  have hi':=hil
  have hji:(A.getD k []).getD i 0<ss.length:=by
   rw [zo hil];exact hb _ (List.getElem_mem hil)
  have hw:i<2^62:=by omega
  rw [List.drop_eq_getElem_cons hil]
  have e1:(A.getD k [])[i]=(A.getD k []).getD i 0:=(zo hil).symm
  rw [e1]
  exact .next (pN 39 [] 1 1 (.c (ay b0) .nil) (.v 24 (.eq (sI hw)) (.c (zB acc (dF A ss k i)) (.c (jP e ne A sc ns ss k i hk hi' hji) .nil))) hn) (ih (i+1) (dX acc (dF A ss k i)) (by omega))
theorem Ri (e:List Nd) (ne:Bool) (A:List (List Nat)) (sc:List Sc) (ns:Bool) (ss:List Nat) (k:Nat) (a:List Nat) (rA:List AV) (z:Nat) (hk:k<A.length) (ha:(List.drop ((Int.toNat (k:Int))*1) (bD A))= [yN a]++rA)
  (l0:az prog ap (wH e ne A sc ns ss) 26 (.block 0 (.loop (aa 0 (af f39)))) ⟨[(0,.ptr 0 0 0),(1,.int .i64 (k:Int)),(4,.int .i64 0),(5,.int .i64 0),(6,.dead),(14,.int .i64 (a.length:Int)),(15,.int .i64 0),(16,.dead)],[(0,⟨[.sl (aF e) e.length ne,.sl (bD A) A.length true,.sl (cR sc) sc.length ns,.ref 1 0 0 ss.length],0,false,0,0,false⟩),(1,⟨(ag ss),0,false,0,1,true⟩)],.dead,[]⟩ (.normal) ⟨[(0,.ptr 0 0 0),(1,.int .i64 (k:Int)),(5,.int .i64 (z:Int))],[(0,⟨[.sl (aF e) e.length ne,.sl (bD A) A.length true,.sl (cR sc) sc.length ns,.ref 1 0 0 ss.length],0,false,0,0,false⟩),(1,⟨(ag ss),0,false,0,1,true⟩)],.dead,[]⟩):
  ai prog ap 39 [.ptr 0 0 0,.int .i64 (k:Int)] (wH e ne A sc ns ss) (.ret (.int .i64 (z:Int))) (wH e ne A sc ns ss):=pK [0] 0 0 (.k 1 (eG k) (.c (jT hk) (.n 1 .nil))) (.l l0 (.v 12 (.ppt ha) .nil))
theorem N8 (e:List Nd) (ne:Bool) (A:List (List Nat)) (sc:List Sc) (ns:Bool) (ss:List Nat) (k:Nat) (hk:k<A.length) (hl:(A.getD k []).length<2^40) (hb:∀ j ∈ A.getD k [],j<ss.length):
  ai prog ap 39 [.ptr 0 0 0,.int .i64 (k:Int)] (wH e ne A sc ns ss) (.ret (.int .i64 ((fI A ss k:Nat):Int))) (wH e ne A sc ns ss):=
 have h:∀ nt,26≤nt→aw prog ap (wH e ne A sc ns ss) nt (aa 0 (af f39)) (fun _=> .exit 0) (Rh e ne A sc ns ss k (A.getD k []).length) (Nj e ne A sc ns ss k) (0,0) (fI A ss k):=fun nt hn=>Hc hn e ne A sc ns ss k _ hk hl rfl hb _ 0 0 (Nat.zero_add _)
 Ri e ne A sc ns ss k _ _ (fI A ss k) hk (oF hk) (aw.blk h (by simp) rfl (aK.of ⟨rfl,rfl,rfl,rfl,rfl,trivial⟩) (aK.of ⟨rfl,rfl,rfl,trivial⟩))
def lQ:Nd:=⟨0,false,[],[],[]⟩
def kX (op:Int):Bool:=(op==1)||((op==2)||(op==3))
def mI (e:List Nd) (A:List (List Nat)) (k i:Nat):Nd:=e.getD ((A.getD k []).getD i 0) lQ
theorem vF {e:List Nd} {j:Nat} (h:j<e.length):List.drop (Int.toNat (j:Int)*5) (aF e)=lO (e.getD j lQ)++aF (e.drop (j+1)):=by
 have h1:e=e.take j++e[j]::e.drop (j+1):=by simp
 have h2:e.getD j lQ=e[j]:=by rw [List.getD_eq_getElem?_getD,List.getElem?_eq_getElem h];rfl
 rw [h2]
 conv=>lhs;rw [h1]
 exact zL (by rw [List.length_take];omega)
theorem eL {A:List (List Nat)} {k i m:Nat} (hb:∀ j ∈ A.getD k [],j<m) (h:i<(A.getD k []).length):(A.getD k []).getD i 0<m:=by rw [zo h];exact hb _ (List.getElem_mem h)
theorem Vb (e:List Nd) (ne:Bool) (A:List (List Nat)) (sc:List Sc) (ns:Bool) (ss:List Nat) (k i:Nat) (a:List Nat) (rA:List AV) (j:Nat) (ri:List AV) (x:Nd) (rE:List AV) (hk:k<A.length) (ha:(List.drop ((Int.toNat (k:Int))*1) (bD A))= [yN a]++rA) (hl:i<a.length) (hi:(List.drop ((Int.toNat (i:Int))*1) (ag a))= [AV.int .i64 (j:Int)]++ri) (hj:j<e.length) (hE:(List.drop ((Int.toNat (j:Int))*5) (aF e))=lO x++rE):
  ai prog ap 98 [.ptr 0 0 0,.int .i64 (k:Int),.int .i64 (i:Int)] (wH e ne A sc ns ss) (.ret (.tup [.agg [.bool x.neg,.str x.num,.str x.den],.bool (kX x.op)])) (wH e ne A sc ns ss):=by
 rcases tf (x.op==((1:Nat):Int)) with b0|b0
 ·rw [show kX x.op=true from by unfold kX;rw [show (x.op==1)=true from b0];rfl]
  exact pK [] 2 3 (.k 5 (ay b0) (.k 10 (eG j) (.c (jT hj) (.k 1 (eG i) (.c (jT hl) (.k 1 (eG k) (.c (jT hk) (.n 2 .nil)))))))) (.v 23 (.ppt hE) (.v 21 (.ppt hi) (.v 18 (.ppt ha) .nil)))
 ·rcases tf (x.op==((2:Nat):Int)) with b1|b1
  ·rw [show kX x.op=true from by unfold kX;rw [show (x.op==1)=false from b0,show (x.op==2)=true from b1];rfl]
   exact pK [] 2 2 (.k 4 (ay b1) (.k 1 (aB b0) (.k 10 (eG j) (.c (jT hj) (.k 1 (eG i) (.c (jT hl) (.k 1 (eG k) (.c (jT hk) (.n 2 .nil))))))))) (.v 23 (.ppt hE) (.v 21 (.ppt hi) (.v 18 (.ppt ha) .nil)))
  ·rw [show kX x.op=(x.op==((3:Nat):Int)) from by unfold kX;rw [show (x.op==1)=false from b0,show (x.op==2)=false from b1];rfl]
   exact pK [] 2 0 (.k 5 (aB b1) (.k 1 (aB b0) (.k 10 (eG j) (.c (jT hj) (.k 1 (eG i) (.c (jT hl) (.k 1 (eG k) (.c (jT hk) (.n 2 .nil))))))))) (.v 23 (.ppt hE) (.v 21 (.ppt hi) (.v 18 (.ppt ha) .nil)))
theorem mF (e:List Nd) (ne:Bool) (A:List (List Nat)) (sc:List Sc) (ns:Bool) (ss:List Nat) (k i:Nat) (hk:k<A.length) (hi:i<(A.getD k []).length) (hj:(A.getD k []).getD i 0<e.length):
  ai prog ap 98 [.ptr 0 0 0,.int .i64 (k:Int),.int .i64 (i:Int)] (wH e ne A sc ns ss) (.ret (.tup [.agg [.bool (mI e A k i).neg,.str (mI e A k i).num,.str (mI e A k i).den],.bool (kX (mI e A k i).op)])) (wH e ne A sc ns ss):=
 Vb e ne A sc ns ss k i _ _ _ _ _ _ hk (oF hk) hi (nr hi) hj (vF hj)
def kF (neg:Bool) (s:Nat):Nat:=cond neg (eY s) s
theorem DB (e:List Nd) (ne:Bool) (A:List (List Nat)) (sc:List Sc) (ns:Bool) (ss:List Nat) (k i:Nat) (x:Nd) (hk:k<A.length) (hi:i<(A.getD k []).length) (hj:(A.getD k []).getD i 0<ss.length):
  ai prog ap 99 [.ptr 0 0 0,.int .i64 (k:Int),.int .i64 (i:Int),.agg [.bool x.neg,.str x.num,.str x.den]] (wH e ne A sc ns ss) (.ret (.int .i64 ((kF x.neg (dF A ss k i):Nat):Int))) (wH e ne A sc ns ss):=by
 rcases tf x.neg with b0|b0
 ·rw [show kF x.neg (dF A ss k i)=eY (dF A ss k i) by unfold kF;rw [b0];rfl]
  exact pK [] 1 1 (.c (ay b0) (.n 1 .nil)) (.c (E0 (dF A ss k i)) (.c (jP e ne A sc ns ss k i hk hi hj) .nil))
 ·rw [show kF x.neg (dF A ss k i)=dF A ss k i by unfold kF;rw [b0];rfl]
  exact pK [] 1 0 (.c (aB b0) (.n 1 .nil)) (.c (jP e ne A sc ns ss k i hk hi hj) .nil)
def vE (e:List Nd) (A:List (List Nat)) (ss:List Nat) (k:Nat):Nat:=cond (kX (mI e A k 0).op) (kF (mI e A k 0).neg (dF A ss k 1)) (cond (kX (mI e A k 1).op) (kF (mI e A k 1).neg (dF A ss k 0)) 3)
def uy (e:List Nd) (A:List (List Nat)) (ss:List Nat) (k:Nat):Nat:=cond (kX (mI e A k 1).op) (cond (lp (mI e A k 1).neg (mI e A k 1).num (mI e A k 1).den==((0:Nat):Int)) 3 (kF (mI e A k 1).neg (dF A ss k 0))) 3
def yX (A:List (List Nat)) (ss:List Nat) (k:Nat):Nat:=cond (((dF A ss k 0:Nat):Int)==((0:Nat):Int)) (dX (dF A ss k 1) (dF A ss k 2)) 3
theorem Ps (e:List Nd) (ne:Bool) (A:List (List Nat)) (sc:List Sc) (ns:Bool) (ss:List Nat) (k:Nat) (hk:k<A.length) (hs:∀ j ∈ A.getD k [],j<ss.length) (he:∀ j ∈ A.getD k [],j<e.length) (h0:0<(A.getD k []).length) (h1:1<(A.getD k []).length):
  ai prog ap 64 [.ptr 0 0 0,.int .i64 (k:Int)] (wH e ne A sc ns ss) (.ret (.int .i64 ((vE e A ss k:Nat):Int))) (wH e ne A sc ns ss):=by
 rcases tf (kX (mI e A k 0).op) with b0|b0
 ·rw [show vE e A ss k=kF (mI e A k 0).neg (dF A ss k 1) by unfold vE;rw [b0];rfl]
  exact pK [] 1 1 (.k 3 (ay b0) (.n 1 .nil)) (.c (DB e ne A sc ns ss k 1 (mI e A k 0) hk h1 (eL hs h1)) (.c (mF e ne A sc ns ss k 0 hk h0 (eL he h0)) .nil))
 ·rcases tf (kX (mI e A k 1).op) with b1|b1
  ·rw [show vE e A ss k=kF (mI e A k 1).neg (dF A ss k 0) by unfold vE;rw [b0,b1];rfl]
   exact pK [] 2 2 (.k 3 (ay b1) (.k 1 (aB b0) (.n 1 .nil))) (.c (DB e ne A sc ns ss k 0 (mI e A k 1) hk h0 (eL hs h0)) (.c (mF e ne A sc ns ss k 1 hk h1 (eL he h1)) (.c (mF e ne A sc ns ss k 0 hk h0 (eL he h0)) .nil)))
  ·rw [show vE e A ss k=3 by unfold vE;rw [b0,b1];rfl]
   exact pK [] 2 0 (.c (aB b1) (.k 1 (aB b0) (.n 1 .nil))) (.c (mF e ne A sc ns ss k 1 hk h1 (eL he h1)) (.c (mF e ne A sc ns ss k 0 hk h0 (eL he h0)) .nil))
theorem OU (e:List Nd) (ne:Bool) (A:List (List Nat)) (sc:List Sc) (ns:Bool) (ss:List Nat) (k:Nat) (hk:k<A.length) (hs:∀ j ∈ A.getD k [],j<ss.length) (he:∀ j ∈ A.getD k [],j<e.length) (h0:0<(A.getD k []).length) (h1:1<(A.getD k []).length) (hz:(mI e A k 1).num.length<2^36∧(mI e A k 1).den.length<2^36):
  ai prog ap 65 [.ptr 0 0 0,.int .i64 (k:Int)] (wH e ne A sc ns ss) (.ret (.int .i64 ((uy e A ss k:Nat):Int))) (wH e ne A sc ns ss):=by
 rcases tf (kX (mI e A k 1).op) with b0|b0
 ·rcases tf ((lp (mI e A k 1).neg (mI e A k 1).num (mI e A k 1).den)==((0:Nat):Int)) with b1|b1
  ·rw [show uy e A ss k=3 by unfold uy;rw [b0,b1];rfl]
   exact pK [] 2 1 (.c (aG b1) (.k 3 (ay b0) (.n 1 .nil))) (.c (cL (mI e A k 1).neg (mI e A k 1).num (mI e A k 1).den hz.1 hz.2) (.c (mF e ne A sc ns ss k 1 hk h1 (eL he h1)) .nil))
  ·rw [show uy e A ss k=kF (mI e A k 1).neg (dF A ss k 0) by unfold uy;rw [b0,b1];rfl]
   exact pK [] 2 3 (.k 3 (cG b1) (.k 3 (ay b0) (.n 1 .nil))) (.c (DB e ne A sc ns ss k 0 (mI e A k 1) hk h0 (eL hs h0)) (.c (cL (mI e A k 1).neg (mI e A k 1).num (mI e A k 1).den hz.1 hz.2) (.c (mF e ne A sc ns ss k 1 hk h1 (eL he h1)) .nil)))
 ·rw [show uy e A ss k=3 by unfold uy;rw [b0];rfl]
  exact pK [] 2 0 (.k 1 (aB b0) (.n 1 .nil)) (.c (mF e ne A sc ns ss k 1 hk h1 (eL he h1)) .nil)
theorem OA (e:List Nd) (ne:Bool) (A:List (List Nat)) (sc:List Sc) (ns:Bool) (ss:List Nat) (k:Nat) (hk:k<A.length) (hs:∀ j ∈ A.getD k [],j<ss.length) (he:∀ j ∈ A.getD k [],j<e.length) (h0:0<(A.getD k []).length) (h1:1<(A.getD k []).length) (h2:2<(A.getD k []).length):
  ai prog ap 66 [.ptr 0 0 0,.int .i64 (k:Int)] (wH e ne A sc ns ss) (.ret (.int .i64 ((yX A ss k:Nat):Int))) (wH e ne A sc ns ss):=by
 rcases tf ((((dF A ss k 0):Nat):Int)==((0:Nat):Int)) with b0|b0
 ·rw [show yX A ss k=dX (dF A ss k 1) (dF A ss k 2) by unfold yX;rw [b0];rfl]
  exact pK [] 1 0 (.c (aG b0) .nil) (.c (zB (dF A ss k 1) (dF A ss k 2)) (.c (jP e ne A sc ns ss k 2 hk h2 (eL hs h2)) (.c (jP e ne A sc ns ss k 1 hk h1 (eL hs h1)) (.c (jP e ne A sc ns ss k 0 hk h0 (eL hs h0)) .nil))))
 ·rw [show yX A ss k=3 by unfold yX;rw [b0];rfl]
  exact pK [] 1 1 (.c (cG b0) .nil) (.c (jP e ne A sc ns ss k 0 hk h0 (eL hs h0)) .nil)
theorem Qx (e:List Nd) (ne:Bool) (A:List (List Nat)) (sc:List Sc) (ns:Bool) (ss:List Nat) (k:Nat) (hk:k<A.length) (hs:∀ j ∈ A.getD k [],j<ss.length) (he:∀ j ∈ A.getD k [],j<e.length) (h0:0<(A.getD k []).length) (h1:1<(A.getD k []).length):
  ai prog ap 63 [.ptr 0 0 0,.int .i64 (k:Int)] (wH e ne A sc ns ss) (.ret (.int .i64 ((dX (dF A ss k 0) (eY (dF A ss k 1)):Nat):Int))) (wH e ne A sc ns ss):=by
 exact pK [] 0 0 .nil (.c (zB (dF A ss k 0) (eY (dF A ss k 1))) (.c (E0 (dF A ss k 1)) (.c (jP e ne A sc ns ss k 1 hk h1 (eL hs h1)) (.c (jP e ne A sc ns ss k 0 hk h0 (eL hs h0)) .nil))))
abbrev rH (e:List Nd) (ne:Bool) (A:List (List Nat)) (sc:List Sc) (ns:Bool) (ss:List Nat) (k:Nat):List aL:= [⟨[.ptr 2 0 0],0,false,0,0,false⟩,⟨[.int .i64 (k:Int)],0,false,0,0,true⟩,⟨[.sl (aF e) e.length ne,.sl (bD A) A.length true,.sl (cR sc) sc.length ns,.ref 3 0 0 ss.length],0,false,0,0,false⟩,⟨(ag ss),0,false,0,1,true⟩]
theorem Nq (e:List Nd) (ne:Bool) (A:List (List Nat)) (sc:List Sc) (ns:Bool) (ss:List Nat) (k:Nat) (x:Sc) (y:Nd) (rE:List AV) (hk:k<e.length) (hE:(List.drop ((Int.toNat (k:Int))*5) (aF e))=lO y++rE):
  ai prog ap 101 [.agg (zY x),.ptr 0 0 0,.ptr 1 0 0] (rH e ne A sc ns ss k) (.ret (.bool (x.name==y.name))) (rH e ne A sc ns ss k):=pK [] 0 0 (.k 1 (eG k) (.c (jT hk) (.n 4 .nil))) (.v 12 (.ppt hE) .nil)
def Us (e:List Nd) (ne:Bool) (A:List (List Nat)) (sc:List Sc) (ns:Bool) (ss:List Nat) (k:Nat) (p:Nat × Unit):St:=⟨[(0,.sl (cR sc) sc.length ns),(1,.fn 101 [] [.ptr 0 0 0,.ptr 1 0 0]),(7,.int .i64 (sc.length:Int)),(8,.int .i64 (p.1:Int))],[(0,⟨[.ptr 2 0 0],0,false,0,0,false⟩),(1,⟨[.int .i64 (k:Int)],0,false,0,0,true⟩),(2,⟨[.sl (aF e) e.length ne,.sl (bD A) A.length true,.sl (cR sc) sc.length ns,.ref 3 0 0 ss.length],0,false,0,0,false⟩),(3,⟨(ag ss),0,false,0,1,true⟩)],.dead,[]⟩
def NF (e:List Nd) (ne:Bool) (A:List (List Nat)) (sc:List Sc) (ns:Bool) (ss:List Nat) (k:Nat):Option Nat→St
 |none=> ⟨[(0,.sl (cR sc) sc.length ns)],[(0,⟨[.ptr 2 0 0],0,false,0,0,false⟩),(1,⟨[.int .i64 (k:Int)],0,false,0,0,true⟩),(2,⟨[.sl (aF e) e.length ne,.sl (bD A) A.length true,.sl (cR sc) sc.length ns,.ref 3 0 0 ss.length],0,false,0,0,false⟩),(3,⟨(ag ss),0,false,0,1,true⟩)],.dead,[]⟩
 |some i=> ⟨[(4,.int .i64 (i:Int))],[(0,⟨[.ptr 2 0 0],0,false,0,0,false⟩),(1,⟨[.int .i64 (k:Int)],0,false,0,0,true⟩),(2,⟨[.sl (aF e) e.length ne,.sl (bD A) A.length true,.sl (cR sc) sc.length ns,.ref 3 0 0 ss.length],0,false,0,0,false⟩),(3,⟨(ag ss),0,false,0,1,true⟩)],.dead,[]⟩
def G0:Option Nat→a_
 |none=> .exit 0
 |some _=> .ret
def zu (nm:List UInt8):List Sc→Nat→Option Nat
 | [],_=>none
 |x::r,i=>if x.name==nm then some i else zu nm r (i+1)
theorem K_ {nt:Nat} (hn:19≤nt) (e:List Nd) (ne:Bool) (A:List (List Nat)) (sc:List Sc) (ns:Bool) (ss:List Nat) (k:Nat) (y:Nd) (rE:List AV) (hk:k<e.length) (hE:(List.drop ((Int.toNat (k:Int))*5) (aF e))=lO y++rE) (hsc:sc.length<2^40):∀ (r p:List Sc),p++r=sc→
  aw prog ap (rH e ne A sc ns ss k) nt (aa 0 (af f100)) G0 (Us e ne A sc ns ss k) (NF e ne A sc ns ss k) (p.length,()) (zu y.name r p.length):=by
 intro r
 induction r with
 |nil=>
  intro p hp
  rw [List.append_nil] at hp
  subst hp
  generalize hi:p.length=i
  have b0:(decide ((i:Int)<(p.length:Int)))=false:=decide_eq_false (by omega)
  exact .done (pN 100 [] 1 0 (.c (aB b0) .nil) (.nil) hn)
 | cons x r ih=>
  intro p hp
  have hx:(List.drop ((Int.toNat (p.length:Int))*4) (cR sc))=zY x++cR r:=by
   have hl:p.length<sc.length:=by rw [← hp];simp
   rw [av,BJ hl]
   have h1:sc[p.length]=x:=by subst hp;simp
   have h2:sc.drop (p.length+1)=r:=by rw [← hp];simp
   rw [h1,h2]
  have hl:p.length<sc.length:=by rw [← hp];simp
  have hnx:=ih (p++ [x]) (by rw [← hp];simp)
  rw [List.length_append,List.length_singleton] at hnx
  unfold zu
  generalize hi:p.length=i at*
  generalize cR r=rS at hx
  have b0:(decide ((i:Int)<(sc.length:Int)))=true:=decide_eq_true (by omega)
  have hw:i<2^62:=by omega
  rcases tf (x.name==y.name) with b1|b1
  ·rw [if_pos b1]
   exact .done (pN 100 [] 2 3 (.c (ay b1) (.k 4 (eG i) (.c b0 (.c (ay b0) .nil)))) (.c (Nq e ne A sc ns ss k x y rE hk hE) (.v 14 (.ppt hx) .nil)) hn)
  ·rw [if_neg (by rw [b1];decide)]
   exact .next (pN 100 [] 2 1 (.c (aB b1) (.k 4 (eG i) (.c b0 (.c (ay b0) .nil)))) (.v 18 (.eq (sI hw)) (.c (Nq e ne A sc ns ss k x y rE hk hE) (.v 14 (.ppt hx) .nil))) hn) hnx
theorem Uu (e:List Nd) (ne:Bool) (A:List (List Nat)) (sc:List Sc) (ns:Bool) (ss:List Nat) (k:Nat) (l0:az prog ap (rH e ne A sc ns ss k) 19 (.block 0 (.loop (aa 0 (af f100)))) ⟨[(0,.sl (cR sc) sc.length ns),(1,.fn 101 [] [.ptr 0 0 0,.ptr 1 0 0]),(4,.int .i64 0),(5,.dead),(7,.int .i64 (sc.length:Int)),(8,.int .i64 0),(9,.dead),(16,.dead)],[(0,⟨[.ptr 2 0 0],0,false,0,0,false⟩),(1,⟨[.int .i64 (k:Int)],0,false,0,0,true⟩),(2,⟨[.sl (aF e) e.length ne,.sl (bD A) A.length true,.sl (cR sc) sc.length ns,.ref 3 0 0 ss.length],0,false,0,0,false⟩),(3,⟨(ag ss),0,false,0,1,true⟩)],.dead,[]⟩ (.normal) ⟨[(0,.sl (cR sc) sc.length ns)],[(0,⟨[.ptr 2 0 0],0,false,0,0,false⟩),(1,⟨[.int .i64 (k:Int)],0,false,0,0,true⟩),(2,⟨[.sl (aF e) e.length ne,.sl (bD A) A.length true,.sl (cR sc) sc.length ns,.ref 3 0 0 ss.length],0,false,0,0,false⟩),(3,⟨(ag ss),0,false,0,1,true⟩)],.dead,[]⟩):
  ai prog ap 100 [.sl (cR sc) sc.length ns,(.fn 101 [] [.ptr 0 0 0,.ptr 1 0 0])] (rH e ne A sc ns ss k) (.ret (.int .i64 (-1))) (rH e ne A sc ns ss k):=pK [0] 0 0 .nil (.l l0 .nil)
theorem Uv (e:List Nd) (ne:Bool) (A:List (List Nat)) (sc:List Sc) (ns:Bool) (ss:List Nat) (k i:Nat) (l0:az prog ap (rH e ne A sc ns ss k) 19 (.block 0 (.loop (aa 0 (af f100)))) ⟨[(0,.sl (cR sc) sc.length ns),(1,.fn 101 [] [.ptr 0 0 0,.ptr 1 0 0]),(4,.int .i64 0),(5,.dead),(7,.int .i64 (sc.length:Int)),(8,.int .i64 0),(9,.dead),(16,.dead)],[(0,⟨[.ptr 2 0 0],0,false,0,0,false⟩),(1,⟨[.int .i64 (k:Int)],0,false,0,0,true⟩),(2,⟨[.sl (aF e) e.length ne,.sl (bD A) A.length true,.sl (cR sc) sc.length ns,.ref 3 0 0 ss.length],0,false,0,0,false⟩),(3,⟨(ag ss),0,false,0,1,true⟩)],.dead,[]⟩ (.ret) ⟨[(4,.int .i64 (i:Int))],[(0,⟨[.ptr 2 0 0],0,false,0,0,false⟩),(1,⟨[.int .i64 (k:Int)],0,false,0,0,true⟩),(2,⟨[.sl (aF e) e.length ne,.sl (bD A) A.length true,.sl (cR sc) sc.length ns,.ref 3 0 0 ss.length],0,false,0,0,false⟩),(3,⟨(ag ss),0,false,0,1,true⟩)],.dead,[]⟩):
  ai prog ap 100 [.sl (cR sc) sc.length ns,(.fn 101 [] [.ptr 0 0 0,.ptr 1 0 0])] (rH e ne A sc ns ss k) (.ret (.int .i64 (i:Int))) (rH e ne A sc ns ss k):=pK [0] 0 0 .nil (.l l0 .nil)
def Ur:Option Nat→Int
 |none=> -1
 |some i=>(i:Int)
theorem Ut (e:List Nd) (ne:Bool) (A:List (List Nat)) (sc:List Sc) (ns:Bool) (ss:List Nat) (k:Nat) (hk:k<e.length) (hsc:sc.length<2^40):
  ai prog ap 100 [.sl (cR sc) sc.length ns,(.fn 101 [] [.ptr 0 0 0,.ptr 1 0 0])] (rH e ne A sc ns ss k) (.ret (.int .i64 (Ur (zu (e.getD k lQ).name sc 0)))) (rH e ne A sc ns ss k):=by
 have h:∀ nt,19≤nt→aw prog ap (rH e ne A sc ns ss k) nt (aa 0 (af f100)) G0 (Us e ne A sc ns ss k) (NF e ne A sc ns ss k) (0,()) (zu (e.getD k lQ).name sc 0):=fun nt hn=>K_ hn e ne A sc ns ss k (e.getD k lQ) _ hk (vF hk) hsc sc [] rfl
 cases hq:zu (e.getD k lQ).name sc 0 with
 |none=>
  rw [hq] at h
  exact Uu e ne A sc ns ss k (aw.blk h (by simp [G0]) rfl (aK.of ⟨rfl,rfl,rfl,rfl,trivial⟩) (aK.of ⟨rfl,trivial⟩))
 |some i=>
  rw [hq] at h
  exact Uv e ne A sc ns ss k i (aw.blk h (by simp [G0]) rfl (aK.of ⟨rfl,rfl,rfl,rfl,trivial⟩) (aK.of ⟨rfl,trivial⟩))
def yo (ck:Sc→Int) (up:Sc→Bool) (nm:List UInt8) (sc:List Sc) (s:Nat):Nat:=match sc.find? (fun x=>x.name==nm) with
 |none=>3
 |some x=>cond (ck x==0) (cond (up x) s 3) 3
theorem xT (nm:List UInt8):∀ (r:List Sc) (i:Nat),(zu nm r i=none∧r.find? (fun x=>x.name==nm)=none)∨∃ j x,zu nm r i=some (i+j)∧r[j]? =some x∧r.find? (fun x=>x.name==nm)=some x
 | [],_=> .inl ⟨rfl,rfl⟩
 | x::r,i=>by
  unfold zu
  rw [List.find?_cons]
  rcases tf (x.name==nm) with h|h
  ·rw [if_pos h,h];exact .inr ⟨0,x,rfl,rfl,rfl⟩
  ·rw [if_neg (by rw [h];decide),h]
   rcases xT nm r (i+1) with ⟨h1,h2⟩|⟨j,y,h1,h2,h3⟩
   ·exact .inl ⟨h1,h2⟩
   ·exact .inr ⟨j+1,y,by rw [h1];congr 1;omega,h2,h3⟩
theorem PI (e:List Nd) (ne:Bool) (A:List (List Nat)) (sc:List Sc) (ns:Bool) (ss:List Nat) (k:Nat) (hq:ai prog ap 100 [.sl (cR sc) sc.length ns,(.fn 101 [] [.ptr 0 0 0,.ptr 1 0 0])] (rH e ne A sc ns ss k) (.ret (.int .i64 (-1))) (rH e ne A sc ns ss k)):
  ai prog ap 67 [.ptr 0 0 0,.int .i64 (k:Int)] (wH e ne A sc ns ss) (.ret (.int .i64 ((3:Nat):Int))) (wH e ne A sc ns ss):=pK [] 3 7 (.n 5 .nil) (.c hq .nil)
theorem PJ (e:List Nd) (ne:Bool) (A:List (List Nat)) (sc:List Sc) (ns:Bool) (ss:List Nat) (ck:Sc→Int) (up:Sc→Bool) (k p:Nat) (x:Sc) (rS:List AV) (hp:p<sc.length) (hxm:x ∈ sc) (hx:(List.drop ((Int.toNat (p:Int))*4) (cR sc))=zY x++rS) (hk:k<A.length) (hs:∀ j ∈ A.getD k [],j<ss.length) (h0:0<(A.getD k []).length) (hc:∀ x ∈ sc,CO 102 [.agg (zY x)] (.ret (.int .i64 (ck x)))∧(ck x=0→CO 103 [.agg (zY x)] (.ret (.bool (up x))))) (hq:ai prog ap 100 [.sl (cR sc) sc.length ns,(.fn 101 [] [.ptr 0 0 0,.ptr 1 0 0])] (rH e ne A sc ns ss k) (.ret (.int .i64 (p:Int))) (rH e ne A sc ns ss k)):
  ai prog ap 67 [.ptr 0 0 0,.int .i64 (k:Int)] (wH e ne A sc ns ss) (.ret (.int .i64 ((cond (ck x==0) (cond (up x) (dF A ss k 0) 3) 3:Nat):Int))) (wH e ne A sc ns ss):=by
 have bn:(decide ((p:Int)<((0:Nat):Int)))=false:=decide_eq_false (by omega)
 rcases tf ((ck x)==((0:Nat):Int)) with b0|b0
 ·rcases tf (up x) with b1|b1
  ·have b1z:ck x=0:=by simpa using b0
   rw [show cond (ck x==0) (cond (up x) (dF A ss k 0) 3) 3=dF A ss k 0 by rw [show (ck x==0)=true from b0];rw [b1];rfl]
   exact pK [] 3 0 (.k 2 (aG b1) (.k 4 (eG p) (.c (jT hp) (.k 2 (aG b0) (.k 4 (eG p) (.c (jT hp) (.k 2 (aB bn) (.n 2 .nil)))))))) (.c (jP e ne A sc ns ss k 0 hk h0 (eL hs h0)) (.c ((hc x hxm).2 b1z) (.v 31 (.ppt hx) (.c (hc x hxm).1 (.v 20 (.ppt hx) (.c hq .nil))))))
  ·have b1z:ck x=0:=by simpa using b0
   rw [show cond (ck x==0) (cond (up x) (dF A ss k 0) 3) 3=3 by rw [show (ck x==0)=true from b0];rw [b1];rfl]
   exact pK [] 3 4 (.c (cG b1) (.k 4 (eG p) (.c (jT hp) (.k 2 (aG b0) (.k 4 (eG p) (.c (jT hp) (.k 2 (aB bn) (.n 2 .nil)))))))) (.c ((hc x hxm).2 b1z) (.v 31 (.ppt hx) (.c (hc x hxm).1 (.v 20 (.ppt hx) (.c hq .nil)))))
 ·rw [show cond (ck x==0) (cond (up x) (dF A ss k 0) 3) 3=3 by rw [show (ck x==0)=false from b0];rfl]
  exact pK [] 3 6 (.k 1 (cG b0) (.k 4 (eG p) (.c (jT hp) (.k 2 (aB bn) (.n 2 .nil))))) (.c (hc x hxm).1 (.v 20 (.ppt hx) (.c hq .nil)))
theorem Md (e:List Nd) (ne:Bool) (A:List (List Nat)) (sc:List Sc) (ns:Bool) (ss:List Nat) (ck:Sc→Int) (up:Sc→Bool) (k:Nat) (hk:k<A.length) (hke:k<e.length) (hsc:sc.length<2^40) (hs:∀ j ∈ A.getD k [],j<ss.length) (h0:0<(A.getD k []).length) (hc:∀ x ∈ sc,CO 102 [.agg (zY x)] (.ret (.int .i64 (ck x)))∧(ck x=0→CO 103 [.agg (zY x)] (.ret (.bool (up x))))):
  ai prog ap 67 [.ptr 0 0 0,.int .i64 (k:Int)] (wH e ne A sc ns ss) (.ret (.int .i64 ((yo ck up (e.getD k lQ).name sc (dF A ss k 0):Nat):Int))) (wH e ne A sc ns ss):=by
 have h:=Ut e ne A sc ns ss k hke hsc
 unfold yo
 rcases xT (e.getD k lQ).name sc 0 with ⟨h1,h2⟩|⟨j,x,h1,h2,h3⟩
 ·rw [h2];rw [h1] at h
  exact PI e ne A sc ns ss k h
 ·rw [h3];rw [h1,Nat.zero_add] at h
  obtain ⟨hj,hx⟩:=List.getElem?_eq_some_iff.1 h2
  exact PJ e ne A sc ns ss ck up k j x _ hj (List.mem_of_getElem? h2) (by rw [av,BJ hj,hx]) hk hs h0 hc h
def dM (e:List Nd) (ne:Bool) (A:List (List Nat)) (sc:List Sc) (ns:Bool) (op:Int) (name:List UInt8) (p:Nat × List Nat):St:=⟨[(0,.sl (aF e) e.length ne),(2,.int .i64 op),(3,.str name),(11,.ptr 0 0 0),(12,.mp [.int .i64 9,.int .i64 13,.int .i64 14,.int .i64 21,.int .i64 22,.int .i64 23,.int .i64 10,.int .i64 11,.int .i64 12,.int .i64 15,.int .i64 24] [.fn 39 [] [],.fn 39 [] [],.fn 39 [] [],.fn 39 [] [],.fn 39 [] [],.fn 39 [] [],.fn 63 [] [],.fn 64 [] [],.fn 65 [] [],.fn 66 [] [],.fn 67 [] []]),(41,.sl (aF e) e.length ne),(42,.int .i64 (e.length:Int)),(43,.int .i64 (p.1:Int))],[(0,⟨[.sl (aF e) e.length ne,.sl (bD A) A.length true,.sl (cR sc) sc.length ns,.ref 1 0 0 p.2.length],0,false,0,0,false⟩),(1,⟨(ag p.2),0,false,0,1,true⟩)],.dead,[]⟩
def Jp (e:List Nd) (ne:Bool) (A:List (List Nat)) (sc:List Sc) (ns:Bool) (ss:List Nat):St:=⟨[(0,.sl (aF e) e.length ne),(11,.ptr 0 0 0)],[(0,⟨[.sl (aF e) e.length ne,.sl (bD A) A.length true,.sl (cR sc) sc.length ns,.ref 1 0 0 ss.length],0,false,0,0,false⟩),(1,⟨(ag ss),0,false,0,1,true⟩)],.dead,[]⟩
def Jm (ck:Sc→Int) (up:Sc→Bool) (e:List Nd) (A:List (List Nat)) (sc:List Sc) (ss:List Nat) (k:Nat) (x:Nd):Nat:=
 if x.op=9∨x.op=13∨x.op=14∨x.op=21∨x.op=22∨x.op=23 then fI A ss k else if x.op=10 then dX (dF A ss k 0) (eY (dF A ss k 1)) else if x.op=11 then vE e A ss k else if x.op=12 then uy e A ss k else if x.op=15 then yX A ss k else if x.op=24 then yo ck up x.name sc (dF A ss k 0) else 3
def wA (ck:Sc→Int) (up:Sc→Bool) (e:List Nd) (A:List (List Nat)) (sc:List Sc) (op:Int) (name:List UInt8) (ss:List Nat) (k:Nat) (x:Nd):Nat:=
 cond (x.op==op && x.name==name) 1 (cond (((fI A ss k:Nat):Int)==((0:Nat):Int)) 0 (Jm ck up e A sc ss k x))
theorem uH (e:List Nd) (ne:Bool) (A:List (List Nat)) (sc:List Sc) (ns:Bool) (ss:List Nat):([some ⟨[.sl (aF e) e.length ne,.sl (bD A) A.length true,.sl (cR sc) sc.length ns,.ref 2 0 0 ss.length],0,false,0,0,false⟩,some (sB ss)]:List (Option aL))= [some ⟨[.sl (aF e) e.length ne,.sl (bD A) A.length true,.sl (cR sc) sc.length ns,.ref 2 0 0 ss.length],0,false,0,0,false⟩,some (sB ss)]:=rfl
abbrev vo (o:Int):AV:=Bh true (qa [.int .i64 9,.int .i64 13,.int .i64 14,.int .i64 21,.int .i64 22,.int .i64 23,.int .i64 10,.int .i64 11,.int .i64 12,.int .i64 15,.int .i64 24] [.fn 39 [] [],.fn 39 [] [],.fn 39 [] [],.fn 39 [] [],.fn 39 [] [],.fn 39 [] [],.fn 63 [] [],.fn 64 [] [],.fn 65 [] [],.fn 66 [] [],.fn 67 [] []] (.int .i64 o)) .nilF
theorem fj {ss:List Nat} {k v:Nat} (h:k<ss.length):List.take ((0+(Int.toNat (k:Int)))*1) (ag ss)++ [AV.int .i64 (v:Int)]++List.drop (((0+(Int.toNat (k:Int)))*1)+1) (ag ss)=ag (ss.set k v):=by
 rw [av,Nat.zero_add,Nat.mul_one]
 unfold ag
 rw [← List.map_take,← List.map_drop,List.set_eq_take_append_cons_drop,if_pos h,List.map_append,List.map_cons,List.append_assoc]
 rfl
theorem Ir {x:Nd} (h:x.op=9∨x.op=13∨x.op=14∨x.op=21∨x.op=22∨x.op=23):vo x.op= .tup [.fn 39 [] [],.bool true]:=by rcases x with ⟨o,b,n,d,nm⟩;dsimp only at h ⊢;rcases h with h|h|h|h|h|h<;>subst h<;>rfl
theorem Iz {x:Nd} (h:x.op=10):vo x.op= .tup [.fn 63 [] [],.bool true]:=by rcases x with ⟨o,b,n,d,nm⟩;dsimp only at h ⊢;subst h;rfl
theorem Iw {x:Nd} (h:x.op=11):vo x.op= .tup [.fn 64 [] [],.bool true]:=by rcases x with ⟨o,b,n,d,nm⟩;dsimp only at h ⊢;subst h;rfl
theorem Iv {x:Nd} (h:x.op=12):vo x.op= .tup [.fn 65 [] [],.bool true]:=by rcases x with ⟨o,b,n,d,nm⟩;dsimp only at h ⊢;subst h;rfl
theorem Iu {x:Nd} (h:x.op=15):vo x.op= .tup [.fn 66 [] [],.bool true]:=by rcases x with ⟨o,b,n,d,nm⟩;dsimp only at h ⊢;subst h;rfl
theorem Er {x:Nd} (h:x.op=24):vo x.op= .tup [.fn 67 [] [],.bool true]:=by rcases x with ⟨o,b,n,d,nm⟩;dsimp only at h ⊢;subst h;rfl
theorem Iy {x:Nd} (h:¬ ((x.op=9∨x.op=13∨x.op=14∨x.op=21∨x.op=22∨x.op=23)∨(x.op=10)∨(x.op=11)∨(x.op=12)∨(x.op=15)∨(x.op=24))):vo x.op= .tup [.nilF,.bool false]:=by
 rcases x with ⟨o,b,n,d,nm⟩
 dsimp only at h ⊢
 have hh:∀ c:Int,o ≠ c→(o==c)=false:=fun c hc=>beq_eq_false_iff_ne.2 hc
 simp only [vo,qa,Eg]
 rw [hh 9 (by intro q;exact h (by omega)),hh 13 (by intro q;exact h (by omega)),hh 14 (by intro q;exact h (by omega)),hh 21 (by intro q;exact h (by omega)),hh 22 (by intro q;exact h (by omega)),hh 23 (by intro q;exact h (by omega)),hh 10 (by intro q;exact h (by omega)),hh 11 (by intro q;exact h (by omega)),hh 12 (by intro q;exact h (by omega)),hh 15 (by intro q;exact h (by omega)),hh 24 (by intro q;exact h (by omega))]
 rfl
theorem WA {nt:Nat} (hn:111≤nt) (e:List Nd) (ne:Bool) (A:List (List Nat)) (sc:List Sc) (ns:Bool) (ss:List Nat) (op:Int) (name:List UInt8) (k:Nat) (x:Nd) (rE:List AV) (hx:e.getD k lQ=x) (hE:(List.drop ((Int.toNat (k:Int))*5) (aF e))=lO x++rE) (hk:k<e.length) (hke:e.length<2^40) (hA:A.length=e.length) (hS:ss.length=e.length) (hlk:vo x.op= .tup [.nilF,.bool false]) (b1:(x.op==op)=true) (b2:(x.name==name)=true):ah prog ap [] nt (aa 0 (af f14)) (dM e ne A sc ns op name (k,ss)) .normal (dM e ne A sc ns op name (k+1,ss.set k 1)):=by
 have hks:k<ss.length:=by omega
 have hw:k<2^62:=by omega
 have h0:(decide ((k:Int)<(e.length:Int)))=true:=decide_eq_true (by omega)
 have hb:Nat.ble (((0+(Int.toNat (k:Int)))*1)+1) (List.length (ag ss))=true:=by rw [Nat.ble_eq,av];simp [ag];omega
 unfold dM
 dsimp only
 rw [List.length_set,← fj hks]
 exact pN 14 [] 3 7 (.c hb (.c (eG k) (.c (jT hks) (.k 1 (ay b2) (.k 1 (ay b1) (.k 10 (eG k) (.c h0 (.c (ay h0) .nil)))))))) (.v 101 (.eq (sI hw)) (.v 52 (.eq hlk) (.v 46 (.ppt hE) .nil))) hn
theorem WC {nt:Nat} (hn:111≤nt) (e:List Nd) (ne:Bool) (A:List (List Nat)) (sc:List Sc) (ns:Bool) (ss:List Nat) (op:Int) (name:List UInt8) (k:Nat) (x:Nd) (rE:List AV) (hx:e.getD k lQ=x) (hE:(List.drop ((Int.toNat (k:Int))*5) (aF e))=lO x++rE) (hk:k<e.length) (hke:e.length<2^40) (hA:A.length=e.length) (hS:ss.length=e.length) (hlk:vo x.op= .tup [.nilF,.bool false]) (b1:(x.op==op)=true) (b2:(x.name==name)=false) (b3:((((fI A ss k):Nat):Int)==((0:Nat):Int))=true) (call_:ai prog ap 39 [.ptr 0 0 0,.int .i64 (k:Int)] (wH e ne A sc ns ss) (.ret (.int .i64 ((fI A ss k:Nat):Int))) (wH e ne A sc ns ss)):ah prog ap [] nt (aa 0 (af f14)) (dM e ne A sc ns op name (k,ss)) .normal (dM e ne A sc ns op name (k+1,ss.set k 0)):=by
 have hks:k<ss.length:=by omega
 have hw:k<2^62:=by omega
 have h0:(decide ((k:Int)<(e.length:Int)))=true:=decide_eq_true (by omega)
 have hb:Nat.ble (((0+(Int.toNat (k:Int)))*1)+1) (List.length (ag ss))=true:=by rw [Nat.ble_eq,av];simp [ag];omega
 unfold dM
 dsimp only
 rw [List.length_set,← fj hks]
 exact pN 14 [] 4 11 (.c hb (.c (eG k) (.c (jT hks) (.k 1 (ay b3) (.c (aB b2) (.k 1 (ay b1) (.k 10 (eG k) (.c h0 (.c (ay h0) .nil))))))))) (.v 101 (.eq (sI hw)) (.c call_ (.v 52 (.eq hlk) (.v 46 (.ppt hE) .nil)))) hn
theorem WE {nt:Nat} (hn:111≤nt) (e:List Nd) (ne:Bool) (A:List (List Nat)) (sc:List Sc) (ns:Bool) (ss:List Nat) (op:Int) (name:List UInt8) (k:Nat) (x:Nd) (rE:List AV) (hx:e.getD k lQ=x) (hE:(List.drop ((Int.toNat (k:Int))*5) (aF e))=lO x++rE) (hk:k<e.length) (hke:e.length<2^40) (hA:A.length=e.length) (hS:ss.length=e.length) (hlk:vo x.op= .tup [.nilF,.bool false]) (b1:(x.op==op)=false) (b3:((((fI A ss k):Nat):Int)==((0:Nat):Int))=true) (call_:ai prog ap 39 [.ptr 0 0 0,.int .i64 (k:Int)] (wH e ne A sc ns ss) (.ret (.int .i64 ((fI A ss k:Nat):Int))) (wH e ne A sc ns ss)):ah prog ap [] nt (aa 0 (af f14)) (dM e ne A sc ns op name (k,ss)) .normal (dM e ne A sc ns op name (k+1,ss.set k 0)):=by
 have hks:k<ss.length:=by omega
 have hw:k<2^62:=by omega
 have h0:(decide ((k:Int)<(e.length:Int)))=true:=decide_eq_true (by omega)
 have hb:Nat.ble (((0+(Int.toNat (k:Int)))*1)+1) (List.length (ag ss))=true:=by rw [Nat.ble_eq,av];simp [ag];omega
 unfold dM
 dsimp only
 rw [List.length_set,← fj hks]
 exact pN 14 [] 4 9 (.c hb (.c (eG k) (.c (jT hks) (.k 1 (ay b3) (.k 1 (aB b1) (.k 10 (eG k) (.c h0 (.c (ay h0) .nil)))))))) (.v 101 (.eq (sI hw)) (.c call_ (.v 52 (.eq hlk) (.v 46 (.ppt hE) .nil)))) hn
theorem Wz {nt:Nat} (hn:111≤nt) (e:List Nd) (ne:Bool) (A:List (List Nat)) (sc:List Sc) (ns:Bool) (ss:List Nat) (op:Int) (name:List UInt8) (k:Nat) (x:Nd) (rE:List AV) (hx:e.getD k lQ=x) (hE:(List.drop ((Int.toNat (k:Int))*5) (aF e))=lO x++rE) (hk:k<e.length) (hke:e.length<2^40) (hA:A.length=e.length) (hS:ss.length=e.length) (f:Nat) (hlk:vo x.op= .tup [.fn f [] [],.bool true]) (b1:(x.op==op)=true) (b2:(x.name==name)=true):ah prog ap [] nt (aa 0 (af f14)) (dM e ne A sc ns op name (k,ss)) .normal (dM e ne A sc ns op name (k+1,ss.set k 1)):=by
 have hks:k<ss.length:=by omega
 have hw:k<2^62:=by omega
 have h0:(decide ((k:Int)<(e.length:Int)))=true:=decide_eq_true (by omega)
 have hb:Nat.ble (((0+(Int.toNat (k:Int)))*1)+1) (List.length (ag ss))=true:=by rw [Nat.ble_eq,av];simp [ag];omega
 unfold dM
 dsimp only
 rw [List.length_set,← fj hks]
 exact pN 14 [] 3 7 (.c hb (.c (eG k) (.c (jT hks) (.k 1 (ay b2) (.k 1 (ay b1) (.k 10 (eG k) (.c h0 (.c (ay h0) .nil)))))))) (.v 101 (.eq (sI hw)) (.v 52 (.eq hlk) (.v 46 (.ppt hE) .nil))) hn
theorem WB {nt:Nat} (hn:111≤nt) (e:List Nd) (ne:Bool) (A:List (List Nat)) (sc:List Sc) (ns:Bool) (ss:List Nat) (op:Int) (name:List UInt8) (k:Nat) (x:Nd) (rE:List AV) (hx:e.getD k lQ=x) (hE:(List.drop ((Int.toNat (k:Int))*5) (aF e))=lO x++rE) (hk:k<e.length) (hke:e.length<2^40) (hA:A.length=e.length) (hS:ss.length=e.length) (f:Nat) (hlk:vo x.op= .tup [.fn f [] [],.bool true]) (b1:(x.op==op)=true) (b2:(x.name==name)=false) (b3:((((fI A ss k):Nat):Int)==((0:Nat):Int))=true) (call_:ai prog ap 39 [.ptr 0 0 0,.int .i64 (k:Int)] (wH e ne A sc ns ss) (.ret (.int .i64 ((fI A ss k:Nat):Int))) (wH e ne A sc ns ss)):ah prog ap [] nt (aa 0 (af f14)) (dM e ne A sc ns op name (k,ss)) .normal (dM e ne A sc ns op name (k+1,ss.set k 0)):=by
 have hks:k<ss.length:=by omega
 have hw:k<2^62:=by omega
 have h0:(decide ((k:Int)<(e.length:Int)))=true:=decide_eq_true (by omega)
 have hb:Nat.ble (((0+(Int.toNat (k:Int)))*1)+1) (List.length (ag ss))=true:=by rw [Nat.ble_eq,av];simp [ag];omega
 unfold dM
 dsimp only
 rw [List.length_set,← fj hks]
 exact pN 14 [] 4 11 (.c hb (.c (eG k) (.c (jT hks) (.k 1 (ay b3) (.c (aB b2) (.k 1 (ay b1) (.k 10 (eG k) (.c h0 (.c (ay h0) .nil))))))))) (.v 101 (.eq (sI hw)) (.c call_ (.v 52 (.eq hlk) (.v 46 (.ppt hE) .nil)))) hn
theorem WD {nt:Nat} (hn:111≤nt) (e:List Nd) (ne:Bool) (A:List (List Nat)) (sc:List Sc) (ns:Bool) (ss:List Nat) (op:Int) (name:List UInt8) (k:Nat) (x:Nd) (rE:List AV) (hx:e.getD k lQ=x) (hE:(List.drop ((Int.toNat (k:Int))*5) (aF e))=lO x++rE) (hk:k<e.length) (hke:e.length<2^40) (hA:A.length=e.length) (hS:ss.length=e.length) (f:Nat) (hlk:vo x.op= .tup [.fn f [] [],.bool true]) (b1:(x.op==op)=false) (b3:((((fI A ss k):Nat):Int)==((0:Nat):Int))=true) (call_:ai prog ap 39 [.ptr 0 0 0,.int .i64 (k:Int)] (wH e ne A sc ns ss) (.ret (.int .i64 ((fI A ss k:Nat):Int))) (wH e ne A sc ns ss)):ah prog ap [] nt (aa 0 (af f14)) (dM e ne A sc ns op name (k,ss)) .normal (dM e ne A sc ns op name (k+1,ss.set k 0)):=by
 have hks:k<ss.length:=by omega
 have hw:k<2^62:=by omega
 have h0:(decide ((k:Int)<(e.length:Int)))=true:=decide_eq_true (by omega)
 have hb:Nat.ble (((0+(Int.toNat (k:Int)))*1)+1) (List.length (ag ss))=true:=by rw [Nat.ble_eq,av];simp [ag];omega
 unfold dM
 dsimp only
 rw [List.length_set,← fj hks]
 exact pN 14 [] 4 9 (.c hb (.c (eG k) (.c (jT hks) (.k 1 (ay b3) (.k 1 (aB b1) (.k 10 (eG k) (.c h0 (.c (ay h0) .nil)))))))) (.v 101 (.eq (sI hw)) (.c call_ (.v 52 (.eq hlk) (.v 46 (.ppt hE) .nil)))) hn
theorem Qj {nt:Nat} (hn:111≤nt) (e:List Nd) (ne:Bool) (A:List (List Nat)) (sc:List Sc) (ns:Bool) (ss:List Nat) (op:Int) (name:List UInt8) (k:Nat) (x:Nd) (rE:List AV) (hx:e.getD k lQ=x) (hE:(List.drop ((Int.toNat (k:Int))*5) (aF e))=lO x++rE) (hk:k<e.length) (hke:e.length<2^40) (hA:A.length=e.length) (hS:ss.length=e.length) (hlk:vo x.op= .tup [.nilF,.bool false]) (hit:(x.op==op)=false∨(x.name==name)=false) (b3:((((fI A ss k):Nat):Int)==((0:Nat):Int))=false) (call_:ai prog ap 39 [.ptr 0 0 0,.int .i64 (k:Int)] (wH e ne A sc ns ss) (.ret (.int .i64 ((fI A ss k:Nat):Int))) (wH e ne A sc ns ss)):ah prog ap [] nt (aa 0 (af f14)) (dM e ne A sc ns op name (k,ss)) .normal (dM e ne A sc ns op name (k+1,ss.set k (3))):=by
 have hks:k<ss.length:=by omega
 have hw:k<2^62:=by omega
 have h0:(decide ((k:Int)<(e.length:Int)))=true:=decide_eq_true (by omega)
 have hb:Nat.ble (((0+(Int.toNat (k:Int)))*1)+1) (List.length (ag ss))=true:=by rw [Nat.ble_eq,av];simp [ag];omega
 unfold dM
 dsimp only
 rw [List.length_set,← fj hks]
 rcases tf (x.op==op) with b1|b1
 ·have b2:(x.name==name)=false:=by rcases hit with h|h;rw [h] at b1;cases b1;exact h
  exact pN 14 [] 5 3 (.c hb (.c (eG k) (.c (jT hks) (.k 2 (aB b3) (.c (aB b2) (.k 1 (ay b1) (.k 10 (eG k) (.c h0 (.c (ay h0) .nil))))))))) (.v 101 (.eq (sI hw)) (.c call_ (.v 52 (.eq hlk) (.v 46 (.ppt hE) .nil)))) hn
 ·exact pN 14 [] 5 1 (.c hb (.c (eG k) (.c (jT hks) (.k 2 (aB b3) (.k 1 (aB b1) (.k 10 (eG k) (.c h0 (.c (ay h0) .nil)))))))) (.v 101 (.eq (sI hw)) (.c call_ (.v 52 (.eq hlk) (.v 46 (.ppt hE) .nil)))) hn
theorem Qe {nt:Nat} (hn:111≤nt) (e:List Nd) (ne:Bool) (A:List (List Nat)) (sc:List Sc) (ns:Bool) (ss:List Nat) (op:Int) (name:List UInt8) (k:Nat) (x:Nd) (rE:List AV) (hx:e.getD k lQ=x) (hE:(List.drop ((Int.toNat (k:Int))*5) (aF e))=lO x++rE) (hk:k<e.length) (hke:e.length<2^40) (hA:A.length=e.length) (hS:ss.length=e.length) (hlk:vo x.op= .tup [.fn 39 [] [],.bool true]) (hit:(x.op==op)=false∨(x.name==name)=false) (b3:((((fI A ss k):Nat):Int)==((0:Nat):Int))=false) (call_:ai prog ap 39 [.ptr 0 0 0,.int .i64 (k:Int)] (wH e ne A sc ns ss) (.ret (.int .i64 ((fI A ss k:Nat):Int))) (wH e ne A sc ns ss)):ah prog ap [] nt (aa 0 (af f14)) (dM e ne A sc ns op name (k,ss)) .normal (dM e ne A sc ns op name (k+1,ss.set k (fI A ss k))):=by
 have hks:k<ss.length:=by omega
 have hw:k<2^62:=by omega
 have h0:(decide ((k:Int)<(e.length:Int)))=true:=decide_eq_true (by omega)
 have hb:Nat.ble (((0+(Int.toNat (k:Int)))*1)+1) (List.length (ag ss))=true:=by rw [Nat.ble_eq,av];simp [ag];omega
 unfold dM
 dsimp only
 rw [List.length_set,← fj hks]
 rcases tf (x.op==op) with b1|b1
 ·have b2:(x.name==name)=false:=by rcases hit with h|h;rw [h] at b1;cases b1;exact h
  exact pN 14 [] 5 19 (.c hb (.c (eG k) (.c (jT hks) (.k 2 (aB b3) (.c (aB b2) (.k 1 (ay b1) (.k 10 (eG k) (.c h0 (.c (ay h0) .nil))))))))) (.v 101 (.eq (sI hw)) (.u 99 (uH e ne A sc ns ss) (.c call_ (.c call_ (.v 52 (.eq hlk) (.v 46 (.ppt hE) .nil)))))) hn
 ·exact pN 14 [] 5 17 (.c hb (.c (eG k) (.c (jT hks) (.k 2 (aB b3) (.k 1 (aB b1) (.k 10 (eG k) (.c h0 (.c (ay h0) .nil)))))))) (.v 101 (.eq (sI hw)) (.u 99 (uH e ne A sc ns ss) (.c call_ (.c call_ (.v 52 (.eq hlk) (.v 46 (.ppt hE) .nil)))))) hn
theorem Qk {nt:Nat} (hn:111≤nt) (e:List Nd) (ne:Bool) (A:List (List Nat)) (sc:List Sc) (ns:Bool) (ss:List Nat) (op:Int) (name:List UInt8) (k:Nat) (x:Nd) (rE:List AV) (hx:e.getD k lQ=x) (hE:(List.drop ((Int.toNat (k:Int))*5) (aF e))=lO x++rE) (hk:k<e.length) (hke:e.length<2^40) (hA:A.length=e.length) (hS:ss.length=e.length) (hlk:vo x.op= .tup [.fn 63 [] [],.bool true]) (hit:(x.op==op)=false∨(x.name==name)=false) (b3:((((fI A ss k):Nat):Int)==((0:Nat):Int))=false) (call_:ai prog ap 39 [.ptr 0 0 0,.int .i64 (k:Int)] (wH e ne A sc ns ss) (.ret (.int .i64 ((fI A ss k:Nat):Int))) (wH e ne A sc ns ss)) (crule:ai prog ap 63 [.ptr 0 0 0,.int .i64 (k:Int)] (wH e ne A sc ns ss) (.ret (.int .i64 (((dX (dF A ss k 0) (eY (dF A ss k 1))):Nat):Int))) (wH e ne A sc ns ss)):ah prog ap [] nt (aa 0 (af f14)) (dM e ne A sc ns op name (k,ss)) .normal (dM e ne A sc ns op name (k+1,ss.set k (dX (dF A ss k 0) (eY (dF A ss k 1))))):=by
 have hks:k<ss.length:=by omega
 have hw:k<2^62:=by omega
 have h0:(decide ((k:Int)<(e.length:Int)))=true:=decide_eq_true (by omega)
 have hb:Nat.ble (((0+(Int.toNat (k:Int)))*1)+1) (List.length (ag ss))=true:=by rw [Nat.ble_eq,av];simp [ag];omega
 unfold dM
 dsimp only
 rw [List.length_set,← fj hks]
 rcases tf (x.op==op) with b1|b1
 ·have b2:(x.name==name)=false:=by rcases hit with h|h;rw [h] at b1;cases b1;exact h
  exact pN 14 [] 5 19 (.c hb (.c (eG k) (.c (jT hks) (.k 2 (aB b3) (.c (aB b2) (.k 1 (ay b1) (.k 10 (eG k) (.c h0 (.c (ay h0) .nil))))))))) (.v 101 (.eq (sI hw)) (.u 99 (uH e ne A sc ns ss) (.c crule (.c call_ (.v 52 (.eq hlk) (.v 46 (.ppt hE) .nil)))))) hn
 ·exact pN 14 [] 5 17 (.c hb (.c (eG k) (.c (jT hks) (.k 2 (aB b3) (.k 1 (aB b1) (.k 10 (eG k) (.c h0 (.c (ay h0) .nil)))))))) (.v 101 (.eq (sI hw)) (.u 99 (uH e ne A sc ns ss) (.c crule (.c call_ (.v 52 (.eq hlk) (.v 46 (.ppt hE) .nil)))))) hn
theorem Qi {nt:Nat} (hn:111≤nt) (e:List Nd) (ne:Bool) (A:List (List Nat)) (sc:List Sc) (ns:Bool) (ss:List Nat) (op:Int) (name:List UInt8) (k:Nat) (x:Nd) (rE:List AV) (hx:e.getD k lQ=x) (hE:(List.drop ((Int.toNat (k:Int))*5) (aF e))=lO x++rE) (hk:k<e.length) (hke:e.length<2^40) (hA:A.length=e.length) (hS:ss.length=e.length) (hlk:vo x.op= .tup [.fn 64 [] [],.bool true]) (hit:(x.op==op)=false∨(x.name==name)=false) (b3:((((fI A ss k):Nat):Int)==((0:Nat):Int))=false) (call_:ai prog ap 39 [.ptr 0 0 0,.int .i64 (k:Int)] (wH e ne A sc ns ss) (.ret (.int .i64 ((fI A ss k:Nat):Int))) (wH e ne A sc ns ss)) (crule:ai prog ap 64 [.ptr 0 0 0,.int .i64 (k:Int)] (wH e ne A sc ns ss) (.ret (.int .i64 (((vE e A ss k):Nat):Int))) (wH e ne A sc ns ss)):ah prog ap [] nt (aa 0 (af f14)) (dM e ne A sc ns op name (k,ss)) .normal (dM e ne A sc ns op name (k+1,ss.set k (vE e A ss k))):=by
 have hks:k<ss.length:=by omega
 have hw:k<2^62:=by omega
 have h0:(decide ((k:Int)<(e.length:Int)))=true:=decide_eq_true (by omega)
 have hb:Nat.ble (((0+(Int.toNat (k:Int)))*1)+1) (List.length (ag ss))=true:=by rw [Nat.ble_eq,av];simp [ag];omega
 unfold dM
 dsimp only
 rw [List.length_set,← fj hks]
 rcases tf (x.op==op) with b1|b1
 ·have b2:(x.name==name)=false:=by rcases hit with h|h;rw [h] at b1;cases b1;exact h
  exact pN 14 [] 5 19 (.c hb (.c (eG k) (.c (jT hks) (.k 2 (aB b3) (.c (aB b2) (.k 1 (ay b1) (.k 10 (eG k) (.c h0 (.c (ay h0) .nil))))))))) (.v 101 (.eq (sI hw)) (.u 99 (uH e ne A sc ns ss) (.c crule (.c call_ (.v 52 (.eq hlk) (.v 46 (.ppt hE) .nil)))))) hn
 ·exact pN 14 [] 5 17 (.c hb (.c (eG k) (.c (jT hks) (.k 2 (aB b3) (.k 1 (aB b1) (.k 10 (eG k) (.c h0 (.c (ay h0) .nil)))))))) (.v 101 (.eq (sI hw)) (.u 99 (uH e ne A sc ns ss) (.c crule (.c call_ (.v 52 (.eq hlk) (.v 46 (.ppt hE) .nil)))))) hn
theorem Qg {nt:Nat} (hn:111≤nt) (e:List Nd) (ne:Bool) (A:List (List Nat)) (sc:List Sc) (ns:Bool) (ss:List Nat) (op:Int) (name:List UInt8) (k:Nat) (x:Nd) (rE:List AV) (hx:e.getD k lQ=x) (hE:(List.drop ((Int.toNat (k:Int))*5) (aF e))=lO x++rE) (hk:k<e.length) (hke:e.length<2^40) (hA:A.length=e.length) (hS:ss.length=e.length) (hlk:vo x.op= .tup [.fn 65 [] [],.bool true]) (hit:(x.op==op)=false∨(x.name==name)=false) (b3:((((fI A ss k):Nat):Int)==((0:Nat):Int))=false) (call_:ai prog ap 39 [.ptr 0 0 0,.int .i64 (k:Int)] (wH e ne A sc ns ss) (.ret (.int .i64 ((fI A ss k:Nat):Int))) (wH e ne A sc ns ss)) (crule:ai prog ap 65 [.ptr 0 0 0,.int .i64 (k:Int)] (wH e ne A sc ns ss) (.ret (.int .i64 (((uy e A ss k):Nat):Int))) (wH e ne A sc ns ss)):ah prog ap [] nt (aa 0 (af f14)) (dM e ne A sc ns op name (k,ss)) .normal (dM e ne A sc ns op name (k+1,ss.set k (uy e A ss k))):=by
 have hks:k<ss.length:=by omega
 have hw:k<2^62:=by omega
 have h0:(decide ((k:Int)<(e.length:Int)))=true:=decide_eq_true (by omega)
 have hb:Nat.ble (((0+(Int.toNat (k:Int)))*1)+1) (List.length (ag ss))=true:=by rw [Nat.ble_eq,av];simp [ag];omega
 unfold dM
 dsimp only
 rw [List.length_set,← fj hks]
 rcases tf (x.op==op) with b1|b1
 ·have b2:(x.name==name)=false:=by rcases hit with h|h;rw [h] at b1;cases b1;exact h
  exact pN 14 [] 5 19 (.c hb (.c (eG k) (.c (jT hks) (.k 2 (aB b3) (.c (aB b2) (.k 1 (ay b1) (.k 10 (eG k) (.c h0 (.c (ay h0) .nil))))))))) (.v 101 (.eq (sI hw)) (.u 99 (uH e ne A sc ns ss) (.c crule (.c call_ (.v 52 (.eq hlk) (.v 46 (.ppt hE) .nil)))))) hn
 ·exact pN 14 [] 5 17 (.c hb (.c (eG k) (.c (jT hks) (.k 2 (aB b3) (.k 1 (aB b1) (.k 10 (eG k) (.c h0 (.c (ay h0) .nil)))))))) (.v 101 (.eq (sI hw)) (.u 99 (uH e ne A sc ns ss) (.c crule (.c call_ (.v 52 (.eq hlk) (.v 46 (.ppt hE) .nil)))))) hn
theorem Qf {nt:Nat} (hn:111≤nt) (e:List Nd) (ne:Bool) (A:List (List Nat)) (sc:List Sc) (ns:Bool) (ss:List Nat) (op:Int) (name:List UInt8) (k:Nat) (x:Nd) (rE:List AV) (hx:e.getD k lQ=x) (hE:(List.drop ((Int.toNat (k:Int))*5) (aF e))=lO x++rE) (hk:k<e.length) (hke:e.length<2^40) (hA:A.length=e.length) (hS:ss.length=e.length) (hlk:vo x.op= .tup [.fn 66 [] [],.bool true]) (hit:(x.op==op)=false∨(x.name==name)=false) (b3:((((fI A ss k):Nat):Int)==((0:Nat):Int))=false) (call_:ai prog ap 39 [.ptr 0 0 0,.int .i64 (k:Int)] (wH e ne A sc ns ss) (.ret (.int .i64 ((fI A ss k:Nat):Int))) (wH e ne A sc ns ss)) (crule:ai prog ap 66 [.ptr 0 0 0,.int .i64 (k:Int)] (wH e ne A sc ns ss) (.ret (.int .i64 (((yX A ss k):Nat):Int))) (wH e ne A sc ns ss)):ah prog ap [] nt (aa 0 (af f14)) (dM e ne A sc ns op name (k,ss)) .normal (dM e ne A sc ns op name (k+1,ss.set k (yX A ss k))):=by
 have hks:k<ss.length:=by omega
 have hw:k<2^62:=by omega
 have h0:(decide ((k:Int)<(e.length:Int)))=true:=decide_eq_true (by omega)
 have hb:Nat.ble (((0+(Int.toNat (k:Int)))*1)+1) (List.length (ag ss))=true:=by rw [Nat.ble_eq,av];simp [ag];omega
 unfold dM
 dsimp only
 rw [List.length_set,← fj hks]
 rcases tf (x.op==op) with b1|b1
 ·have b2:(x.name==name)=false:=by rcases hit with h|h;rw [h] at b1;cases b1;exact h
  exact pN 14 [] 5 19 (.c hb (.c (eG k) (.c (jT hks) (.k 2 (aB b3) (.c (aB b2) (.k 1 (ay b1) (.k 10 (eG k) (.c h0 (.c (ay h0) .nil))))))))) (.v 101 (.eq (sI hw)) (.u 99 (uH e ne A sc ns ss) (.c crule (.c call_ (.v 52 (.eq hlk) (.v 46 (.ppt hE) .nil)))))) hn
 ·exact pN 14 [] 5 17 (.c hb (.c (eG k) (.c (jT hks) (.k 2 (aB b3) (.k 1 (aB b1) (.k 10 (eG k) (.c h0 (.c (ay h0) .nil)))))))) (.v 101 (.eq (sI hw)) (.u 99 (uH e ne A sc ns ss) (.c crule (.c call_ (.v 52 (.eq hlk) (.v 46 (.ppt hE) .nil)))))) hn
theorem My {nt:Nat} (hn:111≤nt) (e:List Nd) (ne:Bool) (A:List (List Nat)) (sc:List Sc) (ns:Bool) (ss:List Nat) (op:Int) (name:List UInt8) (k:Nat) (x:Nd) (rE:List AV) (hx:e.getD k lQ=x) (hE:(List.drop ((Int.toNat (k:Int))*5) (aF e))=lO x++rE) (hk:k<e.length) (hke:e.length<2^40) (hA:A.length=e.length) (hS:ss.length=e.length) (ck:Sc→Int) (up:Sc→Bool) (hlk:vo x.op= .tup [.fn 67 [] [],.bool true]) (hit:(x.op==op)=false∨(x.name==name)=false) (b3:((((fI A ss k):Nat):Int)==((0:Nat):Int))=false) (call_:ai prog ap 39 [.ptr 0 0 0,.int .i64 (k:Int)] (wH e ne A sc ns ss) (.ret (.int .i64 ((fI A ss k:Nat):Int))) (wH e ne A sc ns ss)) (crule:ai prog ap 67 [.ptr 0 0 0,.int .i64 (k:Int)] (wH e ne A sc ns ss) (.ret (.int .i64 (((yo ck up x.name sc (dF A ss k 0)):Nat):Int))) (wH e ne A sc ns ss)):ah prog ap [] nt (aa 0 (af f14)) (dM e ne A sc ns op name (k,ss)) .normal (dM e ne A sc ns op name (k+1,ss.set k (yo ck up x.name sc (dF A ss k 0)))):=by
 have hks:k<ss.length:=by omega
 have hw:k<2^62:=by omega
 have h0:(decide ((k:Int)<(e.length:Int)))=true:=decide_eq_true (by omega)
 have hb:Nat.ble (((0+(Int.toNat (k:Int)))*1)+1) (List.length (ag ss))=true:=by rw [Nat.ble_eq,av];simp [ag];omega
 unfold dM
 dsimp only
 rw [List.length_set,← fj hks]
 rcases tf (x.op==op) with b1|b1
 ·have b2:(x.name==name)=false:=by rcases hit with h|h;rw [h] at b1;cases b1;exact h
  exact pN 14 [] 5 19 (.c hb (.c (eG k) (.c (jT hks) (.k 2 (aB b3) (.c (aB b2) (.k 1 (ay b1) (.k 10 (eG k) (.c h0 (.c (ay h0) .nil))))))))) (.v 101 (.eq (sI hw)) (.u 99 (uH e ne A sc ns ss) (.c crule (.c call_ (.v 52 (.eq hlk) (.v 46 (.ppt hE) .nil)))))) hn
 ·exact pN 14 [] 5 17 (.c hb (.c (eG k) (.c (jT hks) (.k 2 (aB b3) (.k 1 (aB b1) (.k 10 (eG k) (.c h0 (.c (ay h0) .nil)))))))) (.v 101 (.eq (sI hw)) (.u 99 (uH e ne A sc ns ss) (.c crule (.c call_ (.v 52 (.eq hlk) (.v 46 (.ppt hE) .nil)))))) hn
theorem Qh {nt:Nat} (hn:111≤nt) (e:List Nd) (ne:Bool) (A:List (List Nat)) (sc:List Sc) (ns:Bool) (ss:List Nat) (op:Int) (name:List UInt8):ah prog ap [] nt (aa 0 (af f14)) (dM e ne A sc ns op name (e.length,ss)) (.exit 0) (Jp e ne A sc ns ss):=by
 have h0:(decide ((e.length:Int)<(e.length:Int)))=false:=decide_eq_false (by omega)
 exact pN 14 [] 1 0 (.c (aB h0) .nil) (.nil) hn
end Go.Proofs.Tryz
open Go AM
namespace Go.Proofs.Tryz
theorem xz:∀ (r:List Nd) (k:Nat) (st:List Nat),(∀ j ∈ st,j<k)→(∃ e,cO r st.length= .inl e)→(oD r k st).length=r.length∧∀ i x,r[i]? =some x→((oD r k st).getD i []).length=bX x.op∧∀ j ∈ (oD r k st).getD i [],j<k+i
 | [],k,st,_,_=> ⟨rfl,fun i x h=>by simp at h⟩
 | x ::r,k,st,hst,⟨e,he⟩=>by
  simp only [cO] at he
  split at he
  ·split at he
   ·cases he
   ·rename_i h1 h2
    have h3:(st.take (st.length - bX x.op)++ [k]).length=st.length - bX x.op+1:=by rw [List.length_append,List.length_take,List.length_singleton];omega
    have ih:=xz r (k+1) (st.take (st.length - bX x.op)++ [k]) (by
     intro j hj
     rcases List.mem_append.1 hj with hj|hj
     ·have:=hst j (List.mem_of_mem_take hj);omega
     ·rw [List.mem_singleton.1 hj];omega) ⟨e,by rw [h3];exact he⟩
    refine ⟨by simp only [oD,List.length_cons,ih.1], ?_⟩
    intro i y hy
    cases i with
    |zero=>
     simp only [List.getElem?_cons_zero,Option.some.injEq] at hy
     subst hy
     simp only [oD,List.getD_cons_zero]
     refine ⟨by rw [List.length_drop];omega,fun j hj=> ?_⟩
     have:=hst j (List.mem_of_mem_drop hj);omega
    |succ i=>
     simp only [List.getElem?_cons_succ] at hy
     obtain ⟨h4,h5⟩:=ih.2 i y hy
     simp only [oD,List.getD_cons_succ]
     exact ⟨h4,fun j hj=>by have:=h5 j hj;omega⟩
  ·cases he
theorem yU:∀ (r:List Nd) (d:Nat) (w:Int),cO r d= .inr w→w ≠ 0
 | [],d,w,h=>by simp [cO] at h
 | x::r,d,w,h=>by
  simp only [cO] at h
  split at h
  ·split at h
   ·cases h;decide
   ·exact yU r _ w h
  ·rename_i hx
   cases h;exact hx
theorem uh {e:List Nd} (hc:bC e=0):(db e).length=e.length∧∀ i x,e[i]? =some x→((db e).getD i []).length=bX x.op∧∀ j ∈ (db e).getD i [],j<i:=by
 have h:∃ d,cO e ([]:List Nat).length= .inl d:=by
  unfold bC at hc
  split at hc
  ·cases hc
  ·split at hc
   ·rename_i d hd;exact ⟨d,hd⟩
   ·rename_i w hw
    exact absurd hc (yU _ _ _ hw)
 obtain ⟨h1,h2⟩:=xz e 0 [] (by simp) h
 exact ⟨h1,fun i x hx=>by have:=h2 i x hx;rw [Nat.zero_add] at this;exact this⟩
end Go.Proofs.Tryz
set_option maxRecDepth 100000
open Go AM
namespace Go.Proofs.Tryz
theorem wkn {n n1:Nat} (h:n=n1+1) (hk:n<2^40):AV.int .i64 (IntKind.wrap .i64 ((n:Int) - ((1:Nat):Int)))= .int .i64 (n1:Int):=by rw [bH]<;>first|(congr 1;omega)|omega
theorem deq (n:Nat):decide ((n:Int)=(n:Int))=true:=decide_eq_true rfl
theorem dle {n:Nat} (h:n<2^40):decide ((n:Int)≤((1099511627776:Nat):Int))=true:=decide_eq_true (by omega)
theorem Jn:CO 38 [] (.ret (.mp [.int .i64 9,.int .i64 13,.int .i64 14,.int .i64 21,.int .i64 22,.int .i64 23,.int .i64 10,.int .i64 11,.int .i64 12,.int .i64 15,.int .i64 24] [.fn 39 [] [],.fn 39 [] [],.fn 39 [] [],.fn 39 [] [],.fn 39 [] [],.fn 39 [] [],.fn 63 [] [],.fn 64 [] [],.fn 65 [] [],.fn 66 [] [],.fn 67 [] []])):=cK .nil
theorem Aw (l:List Nd) (nn:Bool) (hsm:∀ x ∈ l,x.sm) (hc:bC l=0):CO 37 [.sl (aF l) l.length nn] (.ret (.tup [.sl (bD (db l)) (db l).length true,.bool true])):=by
 rw [(uh hc).1];exact Kj l nn hsm hc
theorem WF (e:List Nd) (ne:Bool) (A:List (List Nat)) (sc:List Sc) (ns:Bool) (ss:List Nat) (op:Int) (name:List UInt8) (ca:CO 37 [.sl (aF e) e.length ne] (.ret (.tup [.nilS,.bool false]))):CO 14 [.sl (aF e) e.length ne,.sl (cR sc) sc.length ns,.int .i64 op,.str name] (.ret (.int .i64 ((3:Nat):Int))):=pK [] 3 7 (.n 3 .nil) (.c ca .nil)
theorem Ql (e:List Nd) (ne:Bool) (A:List (List Nat)) (sc:List Sc) (ns:Bool) (ss:List Nat) (op:Int) (name:List UInt8) (ca:CO 37 [.sl (aF e) e.length ne] (.ret (.tup [.sl (bD A) A.length true,.bool true]))) (ho:op<5∨8<op):CO 14 [.sl (aF e) e.length ne,.sl (cR sc) sc.length ns,.int .i64 op,.str name] (.ret (.int .i64 ((3:Nat):Int))):=by
 rcases tf (decide (op<((5:Nat):Int))) with b0|b0
 ·exact pK [] 3 6 (.k 1 (ay b0) (.n 1 .nil)) (.c ca .nil)
 ·have b1:(decide (((8:Nat):Int)<op))=true:=decide_eq_true (by have:=of_decide_eq_false b0;omega)
  exact pK [] 3 4 (.c (ay b1) (.c (aB b0) (.n 1 .nil))) (.c ca .nil)
theorem WG (e:List Nd) (ne:Bool) (A:List (List Nat)) (sc:List Sc) (ns:Bool) (ss:List Nat) (op:Int) (name:List UInt8) (n1 s:Nat) (rs:List AV) (ca:CO 37 [.sl (aF e) e.length ne] (.ret (.tup [.sl (bD A) A.length true,.bool true]))) (b0:(decide (op<((5:Nat):Int)))=false) (b1:(decide (((8:Nat):Int)<op))=false) (hn1:e.length=n1+1) (hke:e.length<2^40) (hns:n1<ss.length) (hs:(List.drop ((0+(Int.toNat (n1:Int)))*1) (ag ss))= [AV.int .i64 (s:Int)]++rs)
  (m0:Nat) (Z:List AV) (hm0:m0=Int.toNat (e.length:Int)) (hZ:Z=dV (Int.toNat (e.length:Int)) [.int .i64 0])
  (l0:az prog ap [] 111 (.block 0 (.loop (aa 0 (af f14)))) ⟨[(0,.sl (aF e) e.length ne),(1,.sl (cR sc) sc.length ns),(2,.int .i64 op),(3,.str name),(8,.int .i64 0),(9,.sl (bD A) A.length true),(10,.bool true),(11,.ptr 0 0 0),(12,.mp [.int .i64 9,.int .i64 13,.int .i64 14,.int .i64 21,.int .i64 22,.int .i64 23,.int .i64 10,.int .i64 11,.int .i64 12,.int .i64 15,.int .i64 24] [.fn 39 [] [],.fn 39 [] [],.fn 39 [] [],.fn 39 [] [],.fn 39 [] [],.fn 39 [] [],.fn 63 [] [],.fn 64 [] [],.fn 65 [] [],.fn 66 [] [],.fn 67 [] []]),(13,.dead),(14,.dead),(15,.dead),(16,.dead),(31,.bool (decide (((8:Nat):Int)<op))),(41,.sl (aF e) e.length ne),(42,.int .i64 (e.length:Int)),(43,.int .i64 0),(44,.dead),(61,.dead),(78,.dead),(89,.dead)],[(0,⟨[.sl (aF e) e.length ne,.sl (bD A) A.length true,.sl (cR sc) sc.length ns,.ref 1 0 0 m0],0,false,0,0,false⟩),(1,⟨Z,0,false,0,1,true⟩)],.dead,[]⟩ (.normal) ⟨[(0,.sl (aF e) e.length ne),(11,.ptr 0 0 0)],[(0,⟨[.sl (aF e) e.length ne,.sl (bD A) A.length true,.sl (cR sc) sc.length ns,.ref 1 0 0 ss.length],0,false,0,0,false⟩),(1,⟨(ag ss),0,false,0,1,true⟩)],.dead,[]⟩):CO 14 [.sl (aF e) e.length ne,.sl (cR sc) sc.length ns,.int .i64 op,.str name] (.ret (.int .i64 (s:Int))):=by
 subst hm0 hZ
 exact pK [0] 3 0 (.a (Hl [.int .i64] hs rfl) (.c (eG n1) (.c (jT hns) (.k 1 (eG e.length) (.c (deq e.length) (.c (dle hke) (.c (aB b1) (.c (aB b0) (.n 1 .nil))))))))) (.v 110 (.rd1 (.int .i64) hs rfl) (.v 108 (.eq (wkn hn1 hke)) (.l l0 (.c Jn (.c ca .nil)))))
def om (ck:Sc→Int) (up:Sc→Bool) (e:List Nd) (A:List (List Nat)) (sc:List Sc) (op:Int) (name:List UInt8):List Nd→Nat→List Nat→List Nat
 | [],_,ss=>ss
 |x::r,k,ss=>om ck up e A sc op name r (k+1) (ss.set k (wA ck up e A sc op name ss k x))
theorem yx (ck:Sc→Int) (up:Sc→Bool) (e:List Nd) (A:List (List Nat)) (sc:List Sc) (op:Int) (name:List UInt8):∀ (r:List Nd) (k:Nat) (ss:List Nat),(om ck up e A sc op name r k ss).length=ss.length
 | [],_,_=>rfl
 |x::r,k,ss=>by simp only [om,yx ck up e A sc op name r,List.length_set]
def dG (ck:Sc→Int) (up:Sc→Bool) (e:List Nd) (sc:List Sc) (op:Int) (name:List UInt8):Nat:=
 if bC e=0∧5≤op∧op≤8 then (om ck up e (db e) sc op name e 0 (List.replicate e.length 0)).getD (e.length - 1) 0 else 3
theorem Mz {nt:Nat} (hn:111≤nt) (e:List Nd) (ne:Bool) (sc:List Sc) (ns:Bool) (ss:List Nat) (ck:Sc→Int) (up:Sc→Bool) (op:Int) (name:List UInt8) (k:Nat) (x:Nd) (hsm:∀ y ∈ e,y.sm) (hq:bC e=0) (hx:e[k]? =some x) (hke:e.length<2^40) (hS:ss.length=e.length) (hsc:sc.length<2^40) (hc:∀ x ∈ sc,CO 102 [.agg (zY x)] (.ret (.int .i64 (ck x)))∧(ck x=0→CO 103 [.agg (zY x)] (.ret (.bool (up x))))):
  ah prog ap [] nt (aa 0 (af f14)) (dM e ne (db e) sc ns op name (k,ss)) .normal (dM e ne (db e) sc ns op name (k+1,ss.set k (wA ck up e (db e) sc op name ss k x))):=by
 obtain ⟨hA,hsp⟩:=uh hq
 obtain ⟨hal,haj⟩:=hsp k x hx
 obtain ⟨hk,hxe⟩:=List.getElem?_eq_some_iff.1 hx
 have hgx:e.getD k lQ=x:=by rw [List.getD_eq_getElem?_getD,hx];rfl
 generalize hAA:db e=A at*
 have hkA:k<A.length:=by omega
 have hjs:∀ j ∈ A.getD k [],j<ss.length:=fun j hj=>by have:=haj j hj;omega
 have hje:∀ j ∈ A.getD k [],j<e.length:=fun j hj=>by have:=haj j hj;omega
 have hl40:(A.getD k []).length<2^40:=by rw [hal];unfold bX;split<;>(try split)<;>(try split)<;>omega
 have hE:(List.drop ((Int.toNat (k:Int))*5) (aF e))=lO x++aF (e.drop (k+1)):=by rw [vF hk,hgx]
 have call_:=N8 e ne A sc ns ss k hkA hl40 hjs
 have hzz:∀ j,(e.getD j lQ).num.length<2^36∧(e.getD j lQ).den.length<2^36:=by
  intro j
  by_cases hj:j<e.length
  ·have hm:e.getD j lQ ∈ e:=by rw [List.getD_eq_getElem?_getD,List.getElem?_eq_getElem hj];exact List.getElem_mem hj
   have:=hsm _ hm
   exact ⟨Nat.lt_trans this.1 (by decide),Nat.lt_trans this.2 (by decide)⟩
  ·rw [List.getD_eq_getElem?_getD,List.getElem?_eq_none (by omega)];decide
 have hlk:(vo x.op= .tup [.nilF,.bool false])∨∃ f,vo x.op= .tup [.fn f [] [],.bool true]:=by
  by_cases h1:(x.op=9∨x.op=13∨x.op=14∨x.op=21∨x.op=22∨x.op=23)∨(x.op=10)∨(x.op=11)∨(x.op=12)∨(x.op=15)∨(x.op=24)
  ·rcases h1 with h|h|h|h|h|h
   ·exact .inr ⟨_,Ir h⟩
   ·exact .inr ⟨_,Iz h⟩
   ·exact .inr ⟨_,Iw h⟩
   ·exact .inr ⟨_,Iv h⟩
   ·exact .inr ⟨_,Iu h⟩
   ·exact .inr ⟨_,Er h⟩
  ·exact .inl (Iy h1)
 unfold wA
 by_cases hit:(x.op==op && x.name==name)=true
 ·rw [hit]
  rw [Bool.and_eq_true] at hit
  rcases hlk with h|⟨f,h⟩
  ·exact WA hn e ne A sc ns ss op name k x _ hgx hE hk hke hA hS h hit.1 hit.2
  ·exact Wz hn e ne A sc ns ss op name k x _ hgx hE hk hke hA hS f h hit.1 hit.2
 ·rw [Bool.not_eq_true] at hit
  rw [hit]
  have hit2:(x.op==op)=false∨(x.name==name)=false:=Bool.and_eq_false_iff.1 hit
  rcases tf ((((fI A ss k):Nat):Int)==((0:Nat):Int)) with b3|b3
  ·rw [b3]
   rcases tf (x.op==op) with b1|b1
   ·have b2:(x.name==name)=false:=by rcases hit2 with h|h;rw [h] at b1;cases b1;exact h
    rcases hlk with h|⟨f,h⟩
    ·exact WC hn e ne A sc ns ss op name k x _ hgx hE hk hke hA hS h b1 b2 b3 call_
    ·exact WB hn e ne A sc ns ss op name k x _ hgx hE hk hke hA hS f h b1 b2 b3 call_
   ·rcases hlk with h|⟨f,h⟩
    ·exact WE hn e ne A sc ns ss op name k x _ hgx hE hk hke hA hS h b1 b3 call_
    ·exact WD hn e ne A sc ns ss op name k x _ hgx hE hk hke hA hS f h b1 b3 call_
  ·rw [b3]
   dsimp only [cond]
   unfold Jm
   have hI:∀ n,bX x.op=n→∀ i,i<n→i<(A.getD k []).length:=fun n hn i hi=>by rw [hal,hn];exact hi
   by_cases g1:x.op=9∨x.op=13∨x.op=14∨x.op=21∨x.op=22∨x.op=23
   ·rw [if_pos g1];exact Qe hn e ne A sc ns ss op name k x _ hgx hE hk hke hA hS (Ir g1) hit2 b3 call_
   rw [if_neg g1]
   by_cases g2:x.op=10
   ·rw [if_pos g2]
    have ha:=hI 2 (by rw [g2];rfl)
    exact Qk hn e ne A sc ns ss op name k x _ hgx hE hk hke hA hS (Iz g2) hit2 b3 call_ (Qx e ne A sc ns ss k hkA hjs hje (ha 0 (by omega)) (ha 1 (by omega)))
   rw [if_neg g2]
   by_cases g3:x.op=11
   ·rw [if_pos g3]
    have ha:=hI 2 (by rw [g3];rfl)
    exact Qi hn e ne A sc ns ss op name k x _ hgx hE hk hke hA hS (Iw g3) hit2 b3 call_ (Ps e ne A sc ns ss k hkA hjs hje (ha 0 (by omega)) (ha 1 (by omega)))
   rw [if_neg g3]
   by_cases g4:x.op=12
   ·rw [if_pos g4]
    have ha:=hI 2 (by rw [g4];rfl)
    exact Qg hn e ne A sc ns ss op name k x _ hgx hE hk hke hA hS (Iv g4) hit2 b3 call_ (OU e ne A sc ns ss k hkA hjs hje (ha 0 (by omega)) (ha 1 (by omega)) (hzz _))
   rw [if_neg g4]
   by_cases g5:x.op=15
   ·rw [if_pos g5]
    have ha:=hI 3 (by rw [g5];rfl)
    exact Qf hn e ne A sc ns ss op name k x _ hgx hE hk hke hA hS (Iu g5) hit2 b3 call_ (OA e ne A sc ns ss k hkA hjs hje (ha 0 (by omega)) (ha 1 (by omega)) (ha 2 (by omega)))
   rw [if_neg g5]
   by_cases g6:x.op=24
   ·rw [if_pos g6]
    have ha:=hI 1 (by rw [g6];rfl)
    have hr:=Md e ne A sc ns ss ck up k hkA hk hsc hjs (ha 0 (by omega)) hc
    rw [hgx] at hr
    exact My hn e ne A sc ns ss op name k x _ hgx hE hk hke hA hS ck up (Er g6) hit2 b3 call_ hr
   rw [if_neg g6]
   exact Qj hn e ne A sc ns ss op name k x _ hgx hE hk hke hA hS (Iy (by rintro (h|h|h|h|h|h);exact g1 h;exact g2 h;exact g3 h;exact g4 h;exact g5 h;exact g6 h)) hit2 b3 call_
theorem Mx {nt:Nat} (hn:111≤nt) (e:List Nd) (ne:Bool) (sc:List Sc) (ns:Bool) (ck:Sc→Int) (up:Sc→Bool) (op:Int) (name:List UInt8) (hsm:∀ y ∈ e,y.sm) (hq:bC e=0) (hke:e.length<2^40) (hsc:sc.length<2^40) (hc:∀ x ∈ sc,CO 102 [.agg (zY x)] (.ret (.int .i64 (ck x)))∧(ck x=0→CO 103 [.agg (zY x)] (.ret (.bool (up x))))):∀ (r p:List Nd) (ss:List Nat),p++r=e→ss.length=e.length→
  aw prog ap [] nt (aa 0 (af f14)) (fun _=> .exit 0) (dM e ne (db e) sc ns op name) (Jp e ne (db e) sc ns) (p.length,ss) (om ck up e (db e) sc op name r p.length ss):=by
 intro r
 induction r with
 |nil=>
  intro p ss hp hS
  rw [List.append_nil] at hp
  rw [hp]
  exact .done (Qh hn e ne (db e) sc ns ss op name)
 |cons x r ih=>
  intro p ss hp hS
  have hx:e[p.length]? =some x:=by rw [← hp];simp
  have h:=ih (p++ [x]) (ss.set p.length (wA ck up e (db e) sc op name ss p.length x)) (by rw [← hp];simp) (by rw [List.length_set];exact hS)
  rw [List.length_append,List.length_singleton] at h
  exact .next (Mz hn e ne sc ns ss ck up op name p.length x hsm hq hx hke hS hsc hc) h
theorem Jq (e:List Nd) (ne:Bool) (sc:List Sc) (ns:Bool) (ck:Sc→Int) (up:Sc→Bool) (op:Int) (name:List UInt8) (hsm:∀ y ∈ e,y.sm) (hke:e.length<2^40) (hsc:sc.length<2^40) (hc:∀ x ∈ sc,CO 102 [.agg (zY x)] (.ret (.int .i64 (ck x)))∧(ck x=0→CO 103 [.agg (zY x)] (.ret (.bool (up x))))) (hca:bC e ≠ 0→CO 37 [.sl (aF e) e.length ne] (.ret (.tup [.nilS,.bool false]))):
  CO 14 [.sl (aF e) e.length ne,.sl (cR sc) sc.length ns,.int .i64 op,.str name] (.ret (.int .i64 ((dG ck up e sc op name:Nat):Int))):=by
 unfold dG
 by_cases hq:bC e=0
 ·by_cases ho:5≤op∧op≤8
  ·rw [if_pos ⟨hq,ho⟩]
   have h0:e ≠ []:=by intro h;rw [h] at hq;exact absurd hq (by decide)
   obtain ⟨n1,hn1⟩:∃ n1,e.length=n1+1:=⟨e.length - 1,by have:=List.length_pos_iff.2 h0;omega⟩
   have hlen:(om ck up e (db e) sc op name e 0 (List.replicate e.length 0)).length=e.length:=by rw [yx,List.length_replicate]
   have h:∀ nt,111≤nt→aw prog ap [] nt (aa 0 (af f14)) (fun _=> .exit 0) (dM e ne (db e) sc ns op name) (Jp e ne (db e) sc ns) (0,List.replicate e.length 0) (om ck up e (db e) sc op name e 0 (List.replicate e.length 0)):=fun nt hn=>Mx hn e ne sc ns ck up op name hsm hq hke hsc hc e [] _ rfl (List.length_replicate ..)
   generalize om ck up e (db e) sc op name e 0 (List.replicate e.length 0)=ss at*
   rw [show e.length - 1=n1 by omega]
   have hns:n1<ss.length:=by omega
   refine WG e ne (db e) sc ns ss op name n1 (ss.getD n1 0) _ (Aw e ne hsm hq) (decide_eq_false (by omega)) (decide_eq_false (by omega)) hn1 hke hns (by rw [Nat.zero_add];exact nr hns) (List.replicate e.length 0).length (ag (List.replicate e.length 0)) (by rw [List.length_replicate,av]) (by rw [av,tI]) ?_
   have b1:(decide (((8:Nat):Int)<op))=false:=decide_eq_false (by omega)
   rw [b1]
   exact aw.blk h (by simp) rfl (aK.of ⟨rfl,rfl,rfl,rfl,rfl,rfl,rfl,rfl,trivial⟩) (aK.of ⟨rfl,rfl,trivial⟩)
  ·rw [if_neg (fun h=>ho h.2)]
   exact Ql e ne (db e) sc ns [] op name (Aw e ne hsm hq) (by omega)
 ·rw [if_neg (fun h=>hq h.1)]
  exact WF e ne [] sc ns [] op name (hca hq)
structure Br where
 fn:Bool
 fa:List UInt8
 fd:List UInt8
 rn:Bool
 ra:List UInt8
 rd:List UInt8
def CD (x:Br):List AV:= [.bool x.fn,.str x.fa,.str x.fd,.bool x.rn,.str x.ra,.str x.rd]
def gq (l:List Br):List AV:=l.flatMap CD
def Br.sm (x:Br):Prop:=(x.fa.length<2^33∧x.fd.length<2^33)∧(x.ra.length<2^33∧x.rd.length<2^33)
abbrev Kw (x:Br):AV:= .agg [.bool x.fn,.str x.fa,.str x.fd]
abbrev brR (x:Br):AV:= .agg [.bool x.rn,.str x.ra,.str x.rd]
theorem pI {l:List Br} {k:Nat} (h:k<l.length):List.drop (Int.toNat (k:Int)*6) (gq l)=CD l[k]++gq (l.drop (k+1)):=by
 rw [av]
 induction l generalizing k with
 |nil=>simp at h
 | cons x r ih=>
  cases k with
  |zero=>simp [gq]
  |succ k=>
   have h':k<r.length:=by simpa using h
   show List.drop ((k+1)*6) (CD x++gq r)=_
   rw [show (k+1)*6=(CD x).length+k*6 by simp [CD];omega,List.drop_append,Nat.add_sub_cancel_left,ih h',List.drop_of_length_le (by omega)]
   rfl
def CC (cmp:Br→Br→Int):Option Br→List Br→Bool
 |_,[]=>true
 |none,x::r=>cond (fJ x.fn x.fa x.fd) (cond (fJ x.rn x.ra x.rd) (cond (lp x.fn x.fa x.fd==((0:Nat):Int)) (CC cmp (some x) r) false) false) false
 |some y,x::r=>cond (fJ x.fn x.fa x.fd) (cond (fJ x.rn x.ra x.rd) (cond (decide (((0:Nat):Int)≤cmp y x)) false (CC cmp (some x) r)) false) false
def Rq (nm:List UInt8) (u1 u2:Int) (l:List Br) (k:Nat):St:=⟨[(1,.ptr 0 0 0),(3,.sl (gq l) l.length false),(16,.sl (gq l) l.length false),(17,.int .i64 (l.length:Int)),(18,.int .i64 (k:Int))],[(0,⟨[.str nm,.int .i64 u1,.int .i64 u2,.sl (gq l) l.length false],0,false,0,0,true⟩)],.dead,[]⟩
def Nn (l:List Br):Bool→St
 |true=> ⟨[(3,.sl (gq l) l.length false)],[],.dead,[]⟩
 |false=> ⟨[(2,.int .i64 11)],[],.dead,[]⟩
def XL:Bool→a_
 |true=> .exit 1
 |false=> .ret
def px (f:Nat) (cmp:Br→Br→Int) (l:List Br):Prop:=∀ i y x,l[i]? =some y→l[i+1]? =some x→fJ x.fn x.fa x.fd=true→fJ x.rn x.ra x.rd=true→CO f [Kw y,Kw x] (.ret (.int .i64 (cmp y x)))
theorem Kv {nt:Nat} (hn:60≤nt) (nm:List UInt8) (u1 u2:Int) (l:List Br) (cmp:Br→Br→Int) (hlen:l.length<2^40) (hsm:∀ x ∈ l,x.sm) (hC:px 129 cmp l):∀ (r p:List Br),p++r=l→
  aw prog ap [] nt (aa 1 (af f102)) XL (Rq nm u1 u2 l) (Nn l) p.length (CC cmp p.getLast? r):=by
 intro r
 induction r with
 |nil=>
  intro p hp
  rw [List.append_nil] at hp
  subst hp
  have h0:(decide ((p.length:Int)<(p.length:Int)))=false:=decide_eq_false (by omega)
  rw [show CC cmp p.getLast? []=true by cases p.getLast? <;>rfl]
  exact .done (pN 102 [] 1 0 (.c (aB h0) .nil) (.nil) hn)
 | cons x r ih=>
  intro p hp
  have hl:p.length<l.length:=by rw [← hp];simp
  have hlx:l[p.length]=x:=by subst hp;simp
  have hx:=pI hl
  rw [hlx] at hx
  have hnx:=ih (p++ [x]) (by rw [← hp];simp)
  rw [List.getLast?_append,List.getLast?_singleton,List.length_append,List.length_singleton] at hnx
  simp only [Option.some_or] at hnx
  have hs:=hsm x (by rw [← hp];simp)
  have cRf:CO 115 [Kw x] (.ret (.bool (fJ x.fn x.fa x.fd))):=bG x.fn x.fa x.fd (Nat.lt_trans hs.1.1 (by decide)) (Nat.lt_trans hs.1.2 (by decide))
  have cRr:CO 115 [brR x] (.ret (.bool (fJ x.rn x.ra x.rd))):=bG x.rn x.ra x.rd (Nat.lt_trans hs.2.1 (by decide)) (Nat.lt_trans hs.2.2 (by decide))
  have cS:CO 85 [Kw x] (.ret (.int .i64 (lp x.fn x.fa x.fd))):=cL x.fn x.fa x.fd (Nat.lt_trans hs.1.1 (by decide)) (Nat.lt_trans hs.1.2 (by decide))
  cases hpl:p.getLast? with
  | none=>
   have hp0:p= []:=List.getLast?_eq_none_iff.1 hpl
   subst hp0
   generalize hk:([]:List Br).length=k at*
   have hk0:k=0:=by rw [← hk];rfl
   generalize gq (l.drop (k+1))=rB at hx
   have h0:(decide ((k:Int)<(l.length:Int)))=true:=decide_eq_true (by omega)
   have z0:((k:Int)==((0:Nat):Int))=true:=by rw [hk0];rfl
   have zp:(decide (((0:Nat):Int)<(k:Int)))=false:=decide_eq_false (by omega)
   have hw:k<2^62:=by omega
   rcases tf (fJ x.fn x.fa x.fd) with d0|d0
   ·rcases tf (fJ x.rn x.ra x.rd) with d1|d1
    ·rcases tf ((lp x.fn x.fa x.fd)==((0:Nat):Int)) with d2|d2
     ·simp only [CC,d0,d1,d2,cond_true,cond_false]
      exact .next (pN 102 [] 7 9 (.k 1 (aB zp) (.c (aG d2) (.k 3 (ay z0) (.c (aG d1) (.k 3 (aG d0) (.k 10 (eG k) (.c h0 (.c (ay h0) .nil)))))))) (.v 57 (.eq (sI hw)) (.c cS (.c cRr (.c cRf (.v 21 (.ppt hx) .nil))))) hn) hnx
     ·simp only [CC,d0,d1,d2,cond_true,cond_false]
      exact .done (pN 102 [] 6 57 (.k 1 (cG d2) (.k 3 (ay z0) (.c (aG d1) (.k 3 (aG d0) (.k 10 (eG k) (.c h0 (.c (ay h0) .nil))))))) (.c cS (.c cRr (.c cRf (.v 21 (.ppt hx) .nil)))) hn)
    ·simp only [CC,d0,d1,cond_true,cond_false]
     exact .done (pN 102 [] 3 5 (.c (cG d1) (.k 3 (aG d0) (.k 10 (eG k) (.c h0 (.c (ay h0) .nil))))) (.c cRr (.c cRf (.v 21 (.ppt hx) .nil))) hn)
   ·simp only [CC,d0,cond_true,cond_false]
    exact .done (pN 102 [] 3 7 (.k 1 (cG d0) (.k 10 (eG k) (.c h0 (.c (ay h0) .nil)))) (.c cRf (.v 21 (.ppt hx) .nil)) hn)
  | some y=>
   obtain ⟨q,hq⟩:∃ q,p=q++ [y]:=by
    obtain ⟨q,h⟩:=List.getLast?_eq_some_iff.1 hpl
    exact ⟨q,h⟩
   have hk1:p.length=q.length+1:=by rw [hq];simp
   have hkl1:q.length<l.length:=by omega
   have hy:=pI hkl1
   have hly:l[q.length]=y:=by subst hp hq;simp
   rw [hly] at hy
   have cC:=hC q.length y x (by rw [List.getElem?_eq_getElem hkl1,hly]) (by rw [← hk1,List.getElem?_eq_getElem hl,hlx])
   clear hq
   generalize p.length=k at*
   generalize q.length=k1 at*
   generalize gq (l.drop (k+1))=rB at hx
   generalize gq (l.drop (k1+1))=rC at hy
   have h0:(decide ((k:Int)<(l.length:Int)))=true:=decide_eq_true (by omega)
   have z0:((k:Int)==((0:Nat):Int))=false:=beq_eq_false_iff_ne.2 (by omega)
   have zp:(decide (((0:Nat):Int)<(k:Int)))=true:=decide_eq_true (by omega)
   have hw:k<2^62:=by omega
   have hw4:k<2^40:=by omega
   rcases tf (fJ x.fn x.fa x.fd) with d0|d0
   ·rcases tf (fJ x.rn x.ra x.rd) with d1|d1
    ·rcases tf (decide (((0:Nat):Int)≤(cmp y x))) with d2|d2
     ·simp only [CC,d0,d1,d2,cond_true,cond_false]
      exact .done (pN 102 [] 7 97 (.c (ay d2) (.k 6 (eG k1) (.c (jT hkl1) (.c (ay zp) (.k 1 (aB z0) (.c (aG d1) (.k 3 (aG d0) (.k 10 (eG k) (.c h0 (.c (ay h0) .nil)))))))))) (.c (cC d0 d1) (.v 48 (.ppt hy) (.v 47 (.eq (wkn hk1 hw4)) (.c cRr (.c cRf (.v 21 (.ppt hx) .nil)))))) hn)
     ·simp only [CC,d0,d1,d2,cond_true,cond_false]
      exact .next (pN 102 [] 7 33 (.c (aB d2) (.k 6 (eG k1) (.c (jT hkl1) (.c (ay zp) (.k 1 (aB z0) (.c (aG d1) (.k 3 (aG d0) (.k 10 (eG k) (.c h0 (.c (ay h0) .nil)))))))))) (.v 57 (.eq (sI hw)) (.c (cC d0 d1) (.v 48 (.ppt hy) (.v 47 (.eq (wkn hk1 hw4)) (.c cRr (.c cRf (.v 21 (.ppt hx) .nil))))))) hn) hnx
    ·simp only [CC,d0,d1,cond_true,cond_false]
     exact .done (pN 102 [] 3 5 (.c (cG d1) (.k 3 (aG d0) (.k 10 (eG k) (.c h0 (.c (ay h0) .nil))))) (.c cRr (.c cRf (.v 21 (.ppt hx) .nil))) hn)
   ·simp only [CC,d0,cond_true,cond_false]
    exact .done (pN 102 [] 3 7 (.k 1 (cG d0) (.k 10 (eG k) (.c h0 (.c (ay h0) .nil)))) (.c cRf (.v 21 (.ppt hx) .nil)) hn)
def oL (P:Br→Bool):List Br→Nat→Option Nat
 | [],_=>none
 |x::r,i=>if P x then some i else oL P r (i+1)
theorem uS (P:Br→Bool):∀ (r:List Br) (i:Nat),(oL P r i).isSome=r.any P
 | [],_=>rfl
 |x::r,i=>by
  unfold oL
  rw [List.any_cons]
  rcases tf (P x) with h|h
  ·rw [if_pos h,h];rfl
  ·rw [if_neg (by rw [h];decide),h,Bool.false_or];exact uS P r (i+1)
def NC (l:List Br) (k:Nat):St:=⟨[(0,.sl (gq l) l.length false),(1,.fn 131 [] []),(7,.int .i64 (l.length:Int)),(8,.int .i64 (k:Int))],[],.dead,[]⟩
def H7 (l:List Br):Option Nat→St
 |none=> ⟨[(0,.sl (gq l) l.length false)],[],.dead,[]⟩
 |some i=> ⟨[(4,.int .i64 (i:Int))],[],.dead,[]⟩
theorem H9 {nt:Nat} (hn:19≤nt) (l:List Br) (P:Br→Bool) (hlen:l.length<2^40) (hg:∀ x ∈ l,CO 131 [.agg (CD x)] (.ret (.bool (P x)))):∀ (r p:List Br),p++r=l→
  aw prog ap [] nt (aa 0 (af f159)) G0 (NC l) (H7 l) p.length (oL P r p.length):=by
 intro r
 induction r with
 |nil=>
  intro p hp
  rw [List.append_nil] at hp
  subst hp
  have h0:(decide ((p.length:Int)<(p.length:Int)))=false:=decide_eq_false (by omega)
  exact .done (pN 159 [] 1 0 (.c (aB h0) .nil) (.nil) hn)
 | cons x r ih=>
  intro p hp
  have hl:p.length<l.length:=by rw [← hp];simp
  have hlx:l[p.length]=x:=by subst hp;simp
  have hx:=pI hl
  rw [hlx] at hx
  have hnx:=ih (p++ [x]) (by rw [← hp];simp)
  rw [List.length_append,List.length_singleton] at hnx
  have cg:=hg x (by rw [← hp];simp)
  unfold oL
  generalize p.length=k at*
  generalize gq (l.drop (k+1))=rB at hx
  have h0:(decide ((k:Int)<(l.length:Int)))=true:=decide_eq_true (by omega)
  have hw:k<2^62:=by omega
  rcases tf (P x) with d0|d0
  ·rw [if_pos d0]
   exact .done (pN 159 [] 2 3 (.c (ay d0) (.k 6 (eG k) (.c h0 (.c (ay h0) .nil)))) (.c cg (.v 14 (.ppt hx) .nil)) hn)
  ·rw [if_neg (by rw [d0];decide)]
   exact .next (pN 159 [] 2 1 (.c (aB d0) (.k 6 (eG k) (.c h0 (.c (ay h0) .nil)))) (.v 18 (.eq (sI hw)) (.c cg (.v 14 (.ppt hx) .nil))) hn) hnx
theorem O8 (l:List Br) (i:Nat) (l0:az prog ap [] 19 (.block 0 (.loop (aa 0 (af f159)))) ⟨[(0,.sl (gq l) l.length false),(1,.fn 131 [] []),(4,.int .i64 0),(5,.dead),(7,.int .i64 (l.length:Int)),(8,.int .i64 0),(9,.dead),(16,.dead)],[],.dead,[]⟩ (.ret) ⟨[(4,.int .i64 (i:Int))],[],.dead,[]⟩):CO 159 [.sl (gq l) l.length false,.fn 131 [] []] (.ret (.int .i64 (i:Int))):=pK [0] 0 0 .nil (.l l0 .nil)
theorem O6 (l:List Br) (l0:az prog ap [] 19 (.block 0 (.loop (aa 0 (af f159)))) ⟨[(0,.sl (gq l) l.length false),(1,.fn 131 [] []),(4,.int .i64 0),(5,.dead),(7,.int .i64 (l.length:Int)),(8,.int .i64 0),(9,.dead),(16,.dead)],[],.dead,[]⟩ (.normal) ⟨[(0,.sl (gq l) l.length false)],[],.dead,[]⟩):CO 159 [.sl (gq l) l.length false,.fn 131 [] []] (.ret (.int .i64 (-1))):=pK [0] 0 0 .nil (.l l0 .nil)
theorem O4 (l:List Br) (P:Br→Bool) (hlen:l.length<2^40) (hg:∀ x ∈ l,CO 131 [.agg (CD x)] (.ret (.bool (P x)))):CO 159 [.sl (gq l) l.length false,.fn 131 [] []] (.ret (.int .i64 (Ur (oL P l 0)))):=by
 have h:∀ nt,19≤nt→aw prog ap [] nt (aa 0 (af f159)) G0 (NC l) (H7 l) 0 (oL P l 0):=fun nt hn=>H9 hn l P hlen hg l [] rfl
 cases hq:oL P l 0 with
 |none=>
  rw [hq] at h
  exact O6 l (aw.blk h (by simp [G0]) rfl (aK.of ⟨rfl,rfl,rfl,rfl,trivial⟩) (aK.of ⟨rfl,trivial⟩))
 |some i=>
  rw [hq] at h
  exact O8 l i (aw.blk h (by simp [G0]) rfl (aK.of ⟨rfl,rfl,rfl,rfl,trivial⟩) (aK.of ⟨rfl,trivial⟩))
theorem KG (l:List Br) (ix:Int) (cI:CO 159 [.sl (gq l) l.length false,.fn 131 [] []] (.ret (.int .i64 ix))):CO 130 [.sl (gq l) l.length false,.fn 131 [] []] (.ret (.bool (decide (((0:Nat):Int)≤ix)))):=pK [] 0 0 .nil (.c cI .nil)
theorem HH (l:List Br) (P:Br→Bool) (hlen:l.length<2^40) (hg:∀ x ∈ l,CO 131 [.agg (CD x)] (.ret (.bool (P x)))):CO 130 [.sl (gq l) l.length false,.fn 131 [] []] (.ret (.bool (l.any P))):=by
 have h:=KG l _ (O4 l P hlen hg)
 rw [← uS P l 0]
 cases hq:oL P l 0 with
 |none=>rw [hq] at h;exact h
 |some i=>
  rw [hq] at h
  rw [show (some i).isSome=decide (((0:Nat):Int)≤Ur (some i)) from (decide_eq_true (show ((0:Nat):Int)≤(i:Int) by omega)).symm]
  exact h
def ND (l:List Br) (k:Nat):St:=⟨[(0,.sl (gq l) l.length false),(1,.fn 160 [] []),(7,.int .i64 (l.length:Int)),(8,.int .i64 (k:Int))],[],.dead,[]⟩
def H8 (l:List Br):Option Nat→St
 |none=> ⟨[(0,.sl (gq l) l.length false)],[],.dead,[]⟩
 |some i=> ⟨[(4,.int .i64 (i:Int))],[],.dead,[]⟩
theorem H_ {nt:Nat} (hn:19≤nt) (l:List Br) (P:Br→Bool) (hlen:l.length<2^40) (hg:∀ x ∈ l,CO 160 [.agg (CD x)] (.ret (.bool (P x)))):∀ (r p:List Br),p++r=l→
  aw prog ap [] nt (aa 0 (af f159)) G0 (ND l) (H8 l) p.length (oL P r p.length):=by
 intro r
 induction r with
 |nil=>
  intro p hp
  rw [List.append_nil] at hp
  subst hp
  have h0:(decide ((p.length:Int)<(p.length:Int)))=false:=decide_eq_false (by omega)
  exact .done (pN 159 [] 1 0 (.c (aB h0) .nil) (.nil) hn)
 | cons x r ih=>
  intro p hp
  have hl:p.length<l.length:=by rw [← hp];simp
  have hlx:l[p.length]=x:=by subst hp;simp
  have hx:=pI hl
  rw [hlx] at hx
  have hnx:=ih (p++ [x]) (by rw [← hp];simp)
  rw [List.length_append,List.length_singleton] at hnx
  have cg:=hg x (by rw [← hp];simp)
  unfold oL
  generalize p.length=k at*
  generalize gq (l.drop (k+1))=rB at hx
  have h0:(decide ((k:Int)<(l.length:Int)))=true:=decide_eq_true (by omega)
  have hw:k<2^62:=by omega
  rcases tf (P x) with d0|d0
  ·rw [if_pos d0]
   exact .done (pN 159 [] 2 3 (.c (ay d0) (.k 6 (eG k) (.c h0 (.c (ay h0) .nil)))) (.c cg (.v 14 (.ppt hx) .nil)) hn)
  ·rw [if_neg (by rw [d0];decide)]
   exact .next (pN 159 [] 2 1 (.c (aB d0) (.k 6 (eG k) (.c h0 (.c (ay h0) .nil)))) (.v 18 (.eq (sI hw)) (.c cg (.v 14 (.ppt hx) .nil))) hn) hnx
theorem O9 (l:List Br) (i:Nat) (l0:az prog ap [] 19 (.block 0 (.loop (aa 0 (af f159)))) ⟨[(0,.sl (gq l) l.length false),(1,.fn 160 [] []),(4,.int .i64 0),(5,.dead),(7,.int .i64 (l.length:Int)),(8,.int .i64 0),(9,.dead),(16,.dead)],[],.dead,[]⟩ (.ret) ⟨[(4,.int .i64 (i:Int))],[],.dead,[]⟩):CO 159 [.sl (gq l) l.length false,.fn 160 [] []] (.ret (.int .i64 (i:Int))):=pK [0] 0 0 .nil (.l l0 .nil)
theorem O7 (l:List Br) (l0:az prog ap [] 19 (.block 0 (.loop (aa 0 (af f159)))) ⟨[(0,.sl (gq l) l.length false),(1,.fn 160 [] []),(4,.int .i64 0),(5,.dead),(7,.int .i64 (l.length:Int)),(8,.int .i64 0),(9,.dead),(16,.dead)],[],.dead,[]⟩ (.normal) ⟨[(0,.sl (gq l) l.length false)],[],.dead,[]⟩):CO 159 [.sl (gq l) l.length false,.fn 160 [] []] (.ret (.int .i64 (-1))):=pK [0] 0 0 .nil (.l l0 .nil)
theorem O5 (l:List Br) (P:Br→Bool) (hlen:l.length<2^40) (hg:∀ x ∈ l,CO 160 [.agg (CD x)] (.ret (.bool (P x)))):CO 159 [.sl (gq l) l.length false,.fn 160 [] []] (.ret (.int .i64 (Ur (oL P l 0)))):=by
 have h:∀ nt,19≤nt→aw prog ap [] nt (aa 0 (af f159)) G0 (ND l) (H8 l) 0 (oL P l 0):=fun nt hn=>H_ hn l P hlen hg l [] rfl
 cases hq:oL P l 0 with
 |none=>
  rw [hq] at h
  exact O7 l (aw.blk h (by simp [G0]) rfl (aK.of ⟨rfl,rfl,rfl,rfl,trivial⟩) (aK.of ⟨rfl,trivial⟩))
 |some i=>
  rw [hq] at h
  exact O9 l i (aw.blk h (by simp [G0]) rfl (aK.of ⟨rfl,rfl,rfl,rfl,trivial⟩) (aK.of ⟨rfl,trivial⟩))
theorem KH (l:List Br) (ix:Int) (cI:CO 159 [.sl (gq l) l.length false,.fn 160 [] []] (.ret (.int .i64 ix))):CO 130 [.sl (gq l) l.length false,.fn 160 [] []] (.ret (.bool (decide (((0:Nat):Int)≤ix)))):=pK [] 0 0 .nil (.c cI .nil)
theorem HI (l:List Br) (P:Br→Bool) (hlen:l.length<2^40) (hg:∀ x ∈ l,CO 160 [.agg (CD x)] (.ret (.bool (P x)))):CO 130 [.sl (gq l) l.length false,.fn 160 [] []] (.ret (.bool (l.any P))):=by
 have h:=KH l _ (O5 l P hlen hg)
 rw [← uS P l 0]
 cases hq:oL P l 0 with
 |none=>rw [hq] at h;exact h
 |some i=>
  rw [hq] at h
  rw [show (some i).isSome=decide (((0:Nat):Int)≤Ur (some i)) from (decide_eq_true (show ((0:Nat):Int)≤(i:Int) by omega)).symm]
  exact h
def CA (x:Br):Bool:= !(il x.fn x.fa x.fd)|| !(il x.rn x.ra x.rd)
def AX (x:Br):Bool:=decide (lp x.rn x.ra x.rd<((0:Nat):Int))
theorem Ot (x:Br) (hs:x.sm):CO 131 [.agg (CD x)] (.ret (.bool (CA x))):=by
 rcases tf (il x.fn x.fa x.fd) with b0|b0
 ·rw [show CA x= !(il x.rn x.ra x.rd) by unfold CA;rw [b0];rfl]
  exact pK [] 1 0 (.k 3 (aG b0) (.n 3 .nil)) (.c (eC x.rn x.ra x.rd (Nat.lt_trans hs.2.1 (by decide)) (Nat.lt_trans hs.2.2 (by decide))) (.c (eC x.fn x.fa x.fd (Nat.lt_trans hs.1.1 (by decide)) (Nat.lt_trans hs.1.2 (by decide))) .nil))
 ·rw [show CA x=true by unfold CA;rw [b0];rfl]
  exact pK [] 1 1 (.c (cG b0) (.n 3 .nil)) (.c (eC x.fn x.fa x.fd (Nat.lt_trans hs.1.1 (by decide)) (Nat.lt_trans hs.1.2 (by decide))) .nil)
theorem KZ (x:Br) (hs:x.sm):CO 160 [.agg (CD x)] (.ret (.bool (AX x))):=pK [] 0 0 (.n 3 .nil) (.c (cL x.rn x.ra x.rd (Nat.lt_trans hs.2.1 (by decide)) (Nat.lt_trans hs.2.2 (by decide))) .nil)
def RD (cmp:Br→Br→Int) (l:List Br):Int:=cond (decide (((8:Nat):Int)<(l.length:Int))) 2 (cond ((l.length:Int)==((0:Nat):Int)) 11 (cond (CC cmp none l) (cond (l.any CA) 3 0) 11))
theorem Yv (nm:List UInt8) (u1 u2:Int) (l:List Br) (bad:Bool) (d0:(decide (((8:Nat):Int)<(l.length:Int)))=false) (d1:((l.length:Int)==((0:Nat):Int))=false) (cA:CO 130 [.sl (gq l) l.length false,.fn 131 [] []] (.ret (.bool bad)))
  (l0:az prog ap [] 60 (.block 1 (.loop (aa 1 (af f102)))) ⟨[(0,.agg [.str nm,.int .i64 u1,.int .i64 u2,.sl (gq l) l.length false]),(1,.ptr 0 0 0),(2,.int .i64 0),(3,.sl (gq l) l.length false),(4,.dead),(5,.dead),(8,.bool (decide (((8:Nat):Int)<(l.length:Int)))),(12,.bool ((l.length:Int)==((0:Nat):Int))),(16,.sl (gq l) l.length false),(17,.int .i64 (l.length:Int)),(18,.int .i64 0),(19,.dead),(32,.dead),(56,.dead),(59,.dead)],[(0,⟨[.str nm,.int .i64 u1,.int .i64 u2,.sl (gq l) l.length false],0,false,0,0,true⟩)],.dead,[]⟩ (.normal) ⟨[(3,.sl (gq l) l.length false)],[],.dead,[]⟩):CO 102 [.agg [.str nm,.int .i64 u1,.int .i64 u2,.sl (gq l) l.length false]] (.ret (.int .i64 (cond bad 3 0))):=by
 rcases tf bad with b2|b2
 ·rw [show (cond bad 3 0:Int)=3 by rw [b2];rfl]
  exact pK [1] 3 4 (.c (ay b2) (.c (aB d1) (.c (aB d0) (.n 1 .nil)))) (.c cA (.l l0 .nil))
 ·rw [show (cond bad 3 0:Int)=0 by rw [b2];rfl]
  exact pK [1] 3 0 (.c (aB b2) (.c (aB d1) (.c (aB d0) (.n 1 .nil)))) (.c cA (.l l0 .nil))
theorem Yu (nm:List UInt8) (u1 u2:Int) (l:List Br) (d0:(decide (((8:Nat):Int)<(l.length:Int)))=false) (d1:((l.length:Int)==((0:Nat):Int))=false)
  (l0:az prog ap [] 60 (.block 1 (.loop (aa 1 (af f102)))) ⟨[(0,.agg [.str nm,.int .i64 u1,.int .i64 u2,.sl (gq l) l.length false]),(1,.ptr 0 0 0),(2,.int .i64 0),(3,.sl (gq l) l.length false),(4,.dead),(5,.dead),(8,.bool (decide (((8:Nat):Int)<(l.length:Int)))),(12,.bool ((l.length:Int)==((0:Nat):Int))),(16,.sl (gq l) l.length false),(17,.int .i64 (l.length:Int)),(18,.int .i64 0),(19,.dead),(32,.dead),(56,.dead),(59,.dead)],[(0,⟨[.str nm,.int .i64 u1,.int .i64 u2,.sl (gq l) l.length false],0,false,0,0,true⟩)],.dead,[]⟩ (.ret) ⟨[(2,.int .i64 11)],[],.dead,[]⟩):CO 102 [.agg [.str nm,.int .i64 u1,.int .i64 u2,.sl (gq l) l.length false]] (.ret (.int .i64 11)):=pK [1] 2 0 (.c (aB d1) (.c (aB d0) (.n 1 .nil))) (.l l0 .nil)
theorem wh (nm:List UInt8) (u1 u2:Int) (l:List Br) (cmp:Br→Br→Int) (hlen:l.length<2^40) (hsm:∀ x ∈ l,x.sm) (hC:px 129 cmp l):CO 102 [.agg [.str nm,.int .i64 u1,.int .i64 u2,.sl (gq l) l.length false]] (.ret (.int .i64 (RD cmp l))):=by
 unfold RD
 rcases tf (decide (((8:Nat):Int)<(l.length:Int))) with d0|d0
 ·rw [d0]
  exact pK [] 1 1 (.c (ay d0) (.n 1 .nil)) (.nil)
 ·rw [d0]
  rcases tf ((l.length:Int)==((0:Nat):Int)) with d1|d1
  ·rw [d1]
   exact pK [] 2 2 (.c (ay d1) (.c (aB d0) (.n 1 .nil))) (.nil)
  ·rw [d1]
   have h:∀ nt,60≤nt→aw prog ap [] nt (aa 1 (af f102)) XL (Rq nm u1 u2 l) (Nn l) 0 (CC cmp none l):=fun nt hn=>Kv hn nm u1 u2 l cmp hlen hsm hC l [] rfl
   cases hq:CC cmp none l with
   |true=>
    rw [hq] at h
    exact Yv nm u1 u2 l _ d0 d1 (HH l CA hlen fun x hx=>Ot x (hsm x hx)) (aw.blk h (by simp [XL]) rfl (aK.of ⟨rfl,rfl,rfl,rfl,rfl,trivial⟩) (aK.of ⟨rfl,trivial⟩))
   |false=>
    rw [hq] at h
    exact Yu nm u1 u2 l d0 d1 (aw.blk h (by simp [XL]) rfl (aK.of ⟨rfl,rfl,rfl,rfl,rfl,trivial⟩) (aK.of ⟨rfl,trivial⟩))
theorem K0 (nm:List UInt8) (u1 u2:Int) (l:List Br) (any2:Bool) (cA:CO 130 [.sl (gq l) l.length false,.fn 160 [] []] (.ret (.bool any2))):CO 132 [.agg [.str nm,.int .i64 u1,.int .i64 u2,.sl (gq l) l.length false]] (.ret (.bool any2)):=pK [] 0 0 (.n 1 .nil) (.c cA .nil)
theorem HV (nm:List UInt8) (u1 u2:Int) (l:List Br) (hlen:l.length<2^40) (hsm:∀ x ∈ l,x.sm):CO 132 [.agg [.str nm,.int .i64 u1,.int .i64 u2,.sl (gq l) l.length false]] (.ret (.bool (l.any AX))):=K0 nm u1 u2 l _ (HI l AX hlen fun x hx=>KZ x (hsm x hx))
theorem DA (nm:List UInt8) (u1 u2:Int) (l:List Br) (ckv:Int) (fal:Bool) (cK_:CO 102 [.agg [.str nm,.int .i64 u1,.int .i64 u2,.sl (gq l) l.length false]] (.ret (.int .i64 ckv))) (cF:CO 132 [.agg [.str nm,.int .i64 u1,.int .i64 u2,.sl (gq l) l.length false]] (.ret (.bool fal))):CO 103 [.agg [.str nm,.int .i64 u1,.int .i64 u2,.sl (gq l) l.length false]] (.ret (.bool (ckv==((0:Nat):Int) && !fal))):=by
 rcases tf (ckv==((0:Nat):Int)) with b0|b0
 ·rw [b0,Bool.true_and]
  exact pK [] 1 1 (.k 4 (ay b0) (.n 4 .nil)) (.c cF (.c cK_ .nil))
 ·rw [b0,Bool.false_and]
  exact pK [] 1 0 (.c (aB b0) (.n 4 .nil)) (.c cK_ .nil)
theorem xj (nm:List UInt8) (u1 u2:Int) (l:List Br) (cmp:Br→Br→Int) (hlen:l.length<2^40) (hsm:∀ x ∈ l,x.sm) (hC:px 129 cmp l):CO 103 [.agg [.str nm,.int .i64 u1,.int .i64 u2,.sl (gq l) l.length false]] (.ret (.bool (RD cmp l==((0:Nat):Int) && !(l.any AX)))):=DA nm u1 u2 l _ _ (wh nm u1 u2 l cmp hlen hsm hC) (HV nm u1 u2 l hlen hsm)
structure Sq where
 nm:List UInt8
 u1:Int
 u2:Int
 l:List Br
def Sq.c (q:Sq):Sc:=⟨q.nm,q.u1,q.u2,gq q.l,q.l.length⟩
def Az:List AV→List Br
 | .bool a::.str b::.str c::.bool d::.str e::.str f::r=> ⟨a,b,c,d,e,f⟩::Az r
 |_=> []
theorem AA:∀ l:List Br,Az (gq l)=l
 | []=>rfl
 |x::r=>by
  show Az (CD x++gq r)=_
  simp only [CD,List.cons_append,List.nil_append,Az,AA r]
def GY (cmp:Br→Br→Int) (x:Sc):Int:=RD cmp (Az x.bx)
def G7 (cmp:Br→Br→Int) (x:Sc):Bool:=(RD cmp (Az x.bx)==((0:Nat):Int)) && !((Az x.bx).any AX)
def Cq (f:Nat) (cmp:Br→Br→Int) (qs:List Sq):Prop:=∀ q ∈ qs,q.l.length<2^40∧(∀ x ∈ q.l,x.sm)∧px f cmp q.l
theorem aZ (e:List Nd) (ne:Bool) (qs:List Sq) (ns:Bool) (cmp:Br→Br→Int) (op:Int) (name:List UInt8) (hsm:∀ y ∈ e,y.sm) (hke:e.length<2^40) (hqs:qs.length<2^40) (hc:Cq 129 cmp qs):
  CO 14 [.sl (aF e) e.length ne,.sl (cR (qs.map Sq.c)) qs.length ns,.int .i64 op,.str name] (.ret (.int .i64 ((dG (GY cmp) (G7 cmp) e (qs.map Sq.c) op name:Nat):Int))):=by
 have h:=Jq e ne (qs.map Sq.c) ns (GY cmp) (G7 cmp) op name hsm hke (by rw [List.length_map];exact hqs)
  (by
   intro x hx
   obtain ⟨q,hq,rfl⟩:=List.mem_map.1 hx
   obtain ⟨h1,h2,h3⟩:=hc q hq
   unfold GY G7
   rw [show Az (Sq.c q).bx=q.l from AA q.l]
   exact ⟨wh q.nm q.u1 q.u2 q.l cmp h1 h2 h3,fun _=>xj q.nm q.u1 q.u2 q.l cmp h1 h2 h3⟩)
  (fun hq=>Rd e ne (bC e) [] (by rw [show (bC e==((0:Nat):Int))=false from beq_eq_false_iff_ne.2 hq];rfl) (um e ne hsm))
 rw [List.length_map] at h
 exact h
def Mm (so sp:List UInt8→Nat) (x:List UInt8):Bool:= !(decide (((1:Nat):Int)<((so x:Nat):Int))) && !(decide (((1:Nat):Int)<((sp x:Nat):Int)))
end Go.Proofs.Tryz
open Go AM Go.RowKit Go.Shelf
namespace Go.Proofs.Tryz
attribute [local go_sem] Oper.semAt_some
theorem iT {W W':World} (h:Below W.heap.size W W'):iC (bQ W) (bQ W'):=by
 intro k o v hv
 have hk:=AC hv
 rw [← hv]
 unfold bQ
 rw [h.block k hk,World.cell?_of_block (h.block k hk)]
theorem mB {W W':World} (h:Below W.heap.size W W') (hg:h_ ap (bQ W)):h_ ap (bQ W'):=by
 intro k xs hk
 obtain ⟨vs,h1,h2⟩:=hg k xs hk
 exact ⟨vs,aX (iT h) _ h1,fun j u hu=> ⟨iT h _ _ _ (h2 j u hu).1,(h2 j u hu).2⟩⟩
theorem WQ {W:World} (hg:h_ ap (bQ W)) (m:aN):br ap (aS []) m (bQ W) W:=
 ⟨fun b b' B B' h=>by simp [aS] at h,fun b B h=>by simp [aS] at h,fun k o v h=>h,fun b B h=>by simp [aS] at h,hg⟩
theorem nu {f:Nat} {args:List AV} {kd:IntKind} {x:Int} (hc:CO f args (.ret (.int kd x))) {W:World} (hg:h_ ap (bQ W)) {cargs:List Value} (hv:bP (bQ W) args cargs) {n:Nat}:
  CallsIn Fence.wide n prog f cargs.toArray W fun e W'=>e= .returned (.int kd x)∧Below W.heap.size W W':=by
 refine callsIn_wide.2 ?_
 refine (hc.calls (fun _=>(0,0)) (bQ W) W cargs (WQ hg _) (bh _ hv)).mono ?_
 rintro e W' ⟨m',S',hF⟩
 obtain ⟨_,hfr,hout⟩:=hF
 obtain ⟨cv,rfl,h1⟩:=hout
 simp only [pA,VR,PR] at h1
 subst h1
 exact ⟨rfl,hfr.os,hfr.tape,hfr.output,hfr.size,fun k hk=>hfr.rest k hk fun b B h=>by simp [aS] at h⟩
theorem uM {W W':World} (h:Below W.heap.size W W') (row:Option Nat):W.grownBy W' row:=
 ⟨h.os,h.tape,h.output,h.size,fun k hk _=>h.block k hk⟩
def gB (f g:Nat→Int) (k:Nat):List Int:=(List.range k).flatMap fun j=> [f j,g j]
theorem lD (f g:Nat→Int) (k:Nat):gB f g (k+1)=gB f g k++ [f k]++ [g k]:=by simp [gB,List.range_succ]
theorem lC (f g:Nat→Int) (k:Nat):(gB f g k).length=2*k:=by
 induction k with
 |zero=>rfl
 |succ k ih=>rw [lD];simp [ih];omega
theorem GG (f g:Nat→Int) {k n:Nat} (h:k≤n):gB f g k<+:gB f g n:=by
 induction n with
 |zero=>
  obtain rfl:k=0:=by omega
  exact List.prefix_refl _
 |succ n ih=>
  by_cases hk:k=n+1
  ·subst hk;exact List.prefix_refl _
  ·exact (ih (by omega)).trans (by rw [lD,List.append_assoc];exact List.prefix_append _ _)
set_option maxRecDepth 100000 in
set_option maxHeartbeats 4000000 in
theorem DC (n:Nat) (hn:2≤n) (l kn ke ks n₀ b off len cap:Nat) (E SC:AV) (ue us:Value) (ns:Nat→List UInt8) (so sp:Nat→Int) (hreach:len*16≤140737488351232)
  (hso:∀ k,k<len→CO 14 [E,SC,.int .i64 6,.str (ns k)] (.ret (.int .i64 (so k)))) (hsp:∀ k,k<len→CO 14 [E,SC,.int .i64 8,.str (ns k)] (.ret (.int .i64 (sp k))))
  (J Jx:List Int→World→Prop) (W:World) (hAJ:AbidesFrom W.heap.size J)
  (hY:∀ pre x W1,J pre W1→pre.length<2*len→YieldAt Fence.wide (n - 1) prog l #[.int .i64 x] W1 fun e W'=>
   (e= .returned (.bool true)∧J (pre++ [x]) W'∧Below n₀ W1 W')∨(e= .returned (.bool false)∧Jx (pre++ [x]) W'))
  (hn0:n₀≤W.heap.size) (hbn:b<n₀) (hkn:kn<n₀) (hke:ke<n₀) (hks:ks<n₀)
  (w0:World) (hw0:w0.heap.size=n₀) (hW:Below n₀ w0 W) (hg:h_ ap (bQ w0)) (hpr:bP (bQ w0) [E,SC] [ue,us])
  (cn:w0.cell? ⟨kn,0,none⟩=some (.slice (some ⟨b,off,none⟩) len cap)) (ce:w0.cell? ⟨ke,0,none⟩=some ue) (cs:w0.cell? ⟨ks,0,none⟩=some us)
  (hc:∀ j,j<len→w0.cell? ⟨b,off+j,none⟩=some (.string ⟨(ns j).toArray⟩)) (h0:J [] W):
  CallsIn Fence.wide n prog 73 #[.func (.yield l) #[] #[],.pointer (some ⟨kn,0,none⟩),.pointer (some ⟨ke,0,none⟩),.pointer (some ⟨ks,0,none⟩)] W fun e W'=>(∃ v,e= .returned v)∧
   ((∃ ys,ys=gB so sp len∧J ys W')∨(∃ pre,pre<+:gB so sp len∧Jx pre W')):=by
 have kee:∀ (w:World),Below n₀ w0 w→∀ (k j:Nat) (v:Value),k<n₀→w0.cell? ⟨k,j,none⟩=some v→w.cell? ⟨k,j,none⟩=some v:=fun w h k j v hk hv=>(Below.cell h (p:=⟨k,j,none⟩) hk).trans hv
 have cn':=kee _ hW _ _ _ hkn cn
 refine callsIn_of_wp Tryz.func73 rfl trivial ?_ rfl
 simp only [Tryz.ntmps73,List.size_toArray,List.length_cons,List.length_nil,Nat.reduceAdd,Nat.reduceSub,Array.replicate_succ,Array.replicate_zero,List.push_toArray,List.append_toArray,List.nil_append,List.cons_append]
 gi_wp2
 gi_loopw [9] (fun i wr=> ∃ k:Nat,k≤len∧i= .int .i64 k∧J (gB so sp k) wr∧Below n₀ w0 wr∧W.heap.size≤wr.heap.size)
  (fun i _=>len - (intOf i).toNat)
 case atStart=>exact ⟨0,Nat.zero_le _,rfl,h0,hW,Nat.le_refl _⟩
 case round=>
  obtain ⟨k,hk,rfl,hJs,hnx,hsz⟩:=hrel
  have hcx:k<len→wr.cell? ⟨b,off+k,none⟩=some (.string ⟨(ns k).toArray⟩):=fun h=>kee _ hnx _ _ _ hbn (hc k h)
  have XM:=kee _ hnx _ _ _ hke ce
  have cs1:=kee _ hnx _ _ _ hks cs
  by_cases hlt:k<len
  ·have hcx':=hcx hlt
   have bW1:∀ (w:World),Below n₀ w0 w→Below w0.heap.size w0 w:=fun w h=>by rw [hw0];exact h
   have PR4:∀ (w:World) (op:Int),Below n₀ w0 w→bP (bQ w) [E,SC,.int .i64 op,.str (ns k)] [ue,us,.int .i64 op,.string ⟨(ns k).toArray⟩]:=fun w op h=>by
    have h2:=aX (iT (bW1 w h)) _ hpr
    simp only [bP,PR] at h2 ⊢
    exact ⟨h2.1,h2.2.1,trivial,trivial,trivial⟩
   have LE1:gB so sp len=gB so sp k++ [so k]++ [sp k]++(gB so sp len).drop (2*(k+1)):=by
    rw [← lD]
    obtain ⟨r,hr⟩:=GG so sp (show k+1≤len by omega)
    conv=>rhs;rw [← hr]
    rw [List.drop_left' (lC ..)]
    exact hr.symm
   have hf14:Fence.wide.fn 14:=trivial
   have h1n:1≤n:=by omega
   gi_wp2_with (gi_at_call 14;refine (nu (hso k hlt) (mB (bW1 _ hnx) hg) (PR4 _ 6 hnx)).mono ?_;rintro e W1 ⟨rfl,hb1⟩;have hJ1:=hAJ _ _ _ none hJs (uM hb1 none) (fun r e=>by cases e);have hnx1:Below n₀ w0 W1:=hnx.trans (hb1.mono (by omega));obtain ⟨fn,tmps,assign,body,hy,hR⟩:=hY _ (so k) W1 hJ1 (by rw [lC];omega))
   refine hR.mono ?_
   rintro e W3 (⟨rfl,hJ3,hk3⟩|⟨rfl,hJx3⟩)
   ·have hnx3:=hnx1.trans hk3
    have Yp:=kee _ hnx3 _ _ _ hke ce
    have cs3:=kee _ hnx3 _ _ _ hks cs
    gi_wp2_with (gi_at_call 14;refine (nu (hsp k hlt) (mB (bW1 _ hnx3) hg) (PR4 _ 8 hnx3)).mono ?_;rintro e W4 ⟨rfl,hb4⟩;have hJ4:=hAJ _ _ _ none hJ3 (uM hb4 none) (fun r e=>by cases e);have hnx4:Below n₀ w0 W4:=hnx3.trans (hb4.mono (by rw [← hw0];exact hnx3.size));obtain ⟨fn4,tmps4,assign4,body4,hy4,hR4⟩:=hY _ (sp k) W4 hJ4 (by rw [List.length_append,lC,List.length_singleton];omega))
    refine hR4.mono ?_
    rintro e W5 (⟨rfl,hJ5,hk5⟩|⟨rfl,hJx5⟩)
    ·gi_wp2
     go_roundw
     case rel=>exact ⟨k+1,by omega,by simp,by rw [lD];exact hJ5,hnx4.trans hk5,by have:=hb1.size;have:=hk3.size;have:=hb4.size;have:=hk5.size;omega⟩
     case measure=>simp [intOf];omega
    ·gi_wp2
     refine bodyPost_ret (results_none rfl _ _ _) rfl ?_
     exact ⟨⟨_,rfl⟩,.inr ⟨_,by rw [LE1];exact List.prefix_append _ _,hJx5⟩⟩
   ·gi_wp2_with (refine ⟨fun _ _=>trivial, ?_⟩)
    refine bodyPost_ret (results_none rfl _ _ _) rfl ?_
    exact ⟨⟨_,rfl⟩,.inr ⟨_,by rw [LE1,List.append_assoc];exact List.prefix_append _ _,hJx3⟩⟩
  ·obtain rfl:k=len:=by omega
   gi_wp2
   go_end0
   exact ⟨⟨_,rfl⟩,.inl ⟨_,rfl,hJs⟩⟩
attribute [local go_sem] Oper.semAt_some
theorem Gi (a1 a2 a3:Option Addr) (l1 l2 l3 c1 c2 c3:Nat) (n:Nat) (w:World):
  CallsIn Fence.wide n prog 47 #[.slice a1 l1 c1,.slice a2 l2 c2,.slice a3 l3 c3] w fun e w'=>e= .returned (.func (.func 73) #[] #[.pointer (some ⟨w.heap.size+2,0,none⟩),.pointer (some ⟨w.heap.size,0,none⟩),.pointer (some ⟨w.heap.size+1,0,none⟩)])∧w'=((w.alloc (.cells #[.slice a1 l1 c1] 25)).alloc (.cells #[.slice a2 l2 c2] 27)).alloc (.cells #[.slice a3 l3 c3] 29):=by
 refine callsIn_of_wp Tryz.func47 rfl trivial ?_ rfl
 simp only [Tryz.ntmps47,List.size_toArray,List.length_cons,List.length_nil,Nat.reduceAdd,Nat.reduceSub,Array.replicate_succ,Array.replicate_zero,List.push_toArray,List.append_toArray,List.nil_append,List.cons_append]
 gi_wp2
 go_ret
 refine ⟨?_,rfl⟩
 simp
theorem Jf {w:World} {tmps:Array Value} {k:Nat} {b:Bool} (ht:tmps.getD 6 undef= .pointer (some ⟨k,0,none⟩)) (hc:w.cell? ⟨k,0,none⟩=some (.bool b)):(results f17 tmps).run prog w= .ok (.bool b) w:=by
 refine mQ (vs:= [.bool b]) rfl ?_
 intro i r v hr hv
 match i with
 | 0=>
  simp only [List.getElem?_cons_zero,Option.some.injEq] at hv
  subst hv
  have:r= .cell 6 4:=by
   have h0:f17.results.toList[0]? =some (.cell 6 4):=rfl
   rw [h0] at hr;exact (Option.some.inj hr).symm
  subst this
  have hu:prog.underlying 4=some .bool:=by kernel_rfl
  simp only [yt,ht]
  simp [asAddr,loadVar,hu,hc,go_sem]
 |n+1=>simp at hv
theorem Gd (E:AV) (x:Int) (hx:x ≠ 0) (hck:CO 21 [E] (.ret (.int .i64 x))) (n:Nat) (hn:3≤n) (ue us un:Value) (w:World) (hg:h_ ap (bQ w)) (hpr:bP (bQ w) [E] [ue]):
  CallsIn Fence.wide n prog 17 #[ue,us,un] w fun e w'=>e= .returned (.bool false)∧Below w.heap.size w w':=by
 have h21:Fence.wide.fn 21:=trivial
 have h1n:1≤n:=by omega
 have ha:Below w.heap.size w (w.alloc (.cells #[.bool false] 4)):=(Below.refl _ w).alloc (Nat.le_refl _) _
 have hx':decide (x=0)=false:=decide_eq_false hx
 refine callsIn_of_wp_marks Tryz.func17 rfl trivial ?_ rfl
 simp only [Tryz.ntmps17,List.size_toArray,List.length_cons,List.length_nil,Nat.reduceAdd,Nat.reduceSub,Array.replicate_succ,Array.replicate_zero,List.push_toArray,List.append_toArray,List.nil_append,List.cons_append]
 gi_wp2_with (gi_at_call 21;refine (nu hck (mB ha hg) (aX (iT ha) _ hpr)).mono ?_;rintro e W1 ⟨rfl,hb1⟩;have hc1:=(hb1.cell (p:=⟨w.heap.size,0,none⟩) (by simp)).trans (show (w.alloc (.cells #[.bool false] 4)).cell? ⟨w.heap.size,0,none⟩=some (.bool false) by simp);have hf1:=(hb1.frozen (p:=⟨w.heap.size,0,none⟩) (by simp)).trans (show (w.alloc (.cells #[.bool false] 4)).frozen? ⟨w.heap.size,0,none⟩=false by simp))
 exact ⟨_,Jf rfl (World.cell?_setCell_same' _ _ _ (by rw [hc1];rfl)),rfl,(ha.trans (hb1.mono (by simp))).setCell (p:=⟨w.heap.size,0,none⟩) (Nat.le_refl _) _⟩
attribute [local go_sem] Oper.semAt_some
set_option maxRecDepth 100000 in
set_option maxHeartbeats 1000000 in
theorem BN (n:Nat) (l kn ke ks cap:Nat) (an:Option Addr) (so sp:Nat→Int) (J Jx:List Int→World→Prop) (W:World) (cn:W.cell? ⟨kn,0,none⟩=some (.slice an 0 cap)) (h0:J [] W):
  CallsIn Fence.wide n prog 73 #[.func (.yield l) #[] #[],.pointer (some ⟨kn,0,none⟩),.pointer (some ⟨ke,0,none⟩),.pointer (some ⟨ks,0,none⟩)] W fun e W'=>(∃ v,e= .returned v)∧
   ((∃ ys,ys=gB so sp 0∧J ys W')∨(∃ pre,pre<+:gB so sp 0∧Jx pre W')):=by
 refine callsIn_of_wp Tryz.func73 rfl trivial ?_ rfl
 simp only [Tryz.ntmps73,List.size_toArray,List.length_cons,List.length_nil,Nat.reduceAdd,Nat.reduceSub,Array.replicate_succ,Array.replicate_zero,List.push_toArray,List.append_toArray,List.nil_append,List.cons_append]
 gi_wp2
 gi_loopw [9] (fun i wr=>i= .int .i64 0∧J [] wr) (fun _ _=>0)
 case atStart=>exact ⟨rfl,h0⟩
 case round=>
  obtain ⟨rfl,hJs⟩:=hrel
  gi_wp2
  go_end0
  exact ⟨⟨_,rfl⟩,.inl ⟨_,rfl,hJs⟩⟩
theorem zZ (n:Nat) (hn:2≤n) (kn ke ks b off cap:Nat) (an:Option Addr) (E SC:AV) (ue us:Value) (ns:List (List UInt8)) (so sp:List UInt8→Int) (hreach:ns.length*16≤140737488351232)
  (hso:∀ s ∈ ns,CO 14 [E,SC,.int .i64 6,.str s] (.ret (.int .i64 (so s)))) (hsp:∀ s ∈ ns,CO 14 [E,SC,.int .i64 8,.str s] (.ret (.int .i64 (sp s))))
  (w:World) (hg:h_ ap (bQ w)) (hpr:bP (bQ w) [E,SC] [ue,us]) (hkn:kn<w.heap.size) (hke:ke<w.heap.size) (hks:ks<w.heap.size)
  (cn:w.cell? ⟨kn,0,none⟩=some (.slice an ns.length cap)) (ce:w.cell? ⟨ke,0,none⟩=some ue) (cs:w.cell? ⟨ks,0,none⟩=some us)
  (hc:0<ns.length→an=some ⟨b,off,none⟩∧b<w.heap.size∧∀ j,j<ns.length→w.cell? ⟨b,off+j,none⟩=some (.string ⟨((ns[j]?).getD []).toArray⟩)):
  SeqStopsK Fence.wide n prog 73 #[.pointer (some ⟨kn,0,none⟩),.pointer (some ⟨ke,0,none⟩),.pointer (some ⟨ks,0,none⟩)] (fun x:Int=> #[Value.int .i64 x]) (Below w.heap.size)
   (fun ys=>ys=gB (fun k=>so ((ns[k]?).getD [])) (fun k=>sp ((ns[k]?).getD [])) ns.length) (fun pre=>pre<+:gB (fun k=>so ((ns[k]?).getD [])) (fun k=>sp ((ns[k]?).getD [])) ns.length) (2*ns.length) w:=by
 intro l J Jx W hW hJ _ hY h0
 have hm:∀ k,k<ns.length→(ns[k]?).getD [] ∈ ns:=fun k hk=>by rw [List.getElem?_eq_getElem hk];exact List.getElem_mem hk
 by_cases h:0<ns.length
 ·obtain ⟨rfl,hb,hcc⟩:=hc h
  exact DC n hn l kn ke ks w.heap.size b off ns.length cap E SC ue us (fun k=>(ns[k]?).getD []) _ _ hreach (fun k hk=>hso _ (hm k hk)) (fun k hk=>hsp _ (hm k hk)) J Jx W hJ hY hW.size hb hkn hke hks w rfl hW hg hpr cn ce cs hcc h0
 ·have h1:ns.length=0:=by omega
  rw [h1] at cn ⊢
  exact BN n l kn ke ks cap an _ _ J Jx W ((hW.cell (p:=⟨kn,0,none⟩) hkn).trans cn) h0
set_option maxRecDepth 100000 in
set_option maxHeartbeats 2000000 in
theorem Dz (E SC:AV) (hck:CO 21 [E] (.ret (.int .i64 0))) (ns:List (List UInt8)) (so sp:List UInt8→Int) (hreach:ns.length*16≤140737488351232)
  (hso:∀ s ∈ ns,CO 14 [E,SC,.int .i64 6,.str s] (.ret (.int .i64 (so s)))) (hsp:∀ s ∈ ns,CO 14 [E,SC,.int .i64 8,.str s] (.ret (.int .i64 (sp s)))) (n:Nat) (hn:4≤n)
  (a1 a2 an:Option Addr) (l1 l2 c1 c2 cap b off:Nat) (w:World) (hg:h_ ap (bQ w)) (hpr:bP (bQ w) [E,SC] [.slice a1 l1 c1,.slice a2 l2 c2])
  (hc:0<ns.length→an=some ⟨b,off,none⟩∧∀ j,j<ns.length→w.cell? ⟨b,off+j,none⟩=some (.string ⟨((ns[j]?).getD []).toArray⟩)):
  CallsIn Fence.wide n prog 17 #[.slice a1 l1 c1,.slice a2 l2 c2,.slice an ns.length cap] w fun e w'=>e= .returned (.bool ((gB (fun k=>so ((ns[k]?).getD [])) (fun k=>sp ((ns[k]?).getD [])) ns.length).all fun x=>decide (x≤1)))∧Below w.heap.size w w':=by
 have h21:Fence.wide.fn 21:=trivial
 have h47:Fence.wide.fn 47:=trivial
 have h1n:1≤n:=by omega
 have ha:Below w.heap.size w (w.alloc (.cells #[.bool false] 4)):=(Below.refl _ w).alloc (Nat.le_refl _) _
 have hpe:bP (bQ w) [E] [.slice a1 l1 c1]:=by simp only [bP] at hpr ⊢;exact ⟨hpr.1,trivial⟩
 refine callsIn_of_wp_marks Tryz.func17 rfl trivial ?_ rfl
 simp only [Tryz.ntmps17,List.size_toArray,List.length_cons,List.length_nil,Nat.reduceAdd,Nat.reduceSub,Array.replicate_succ,Array.replicate_zero,List.push_toArray,List.append_toArray,List.nil_append,List.cons_append]
 gi_wp2_with (first
  |(gi_at_call 21;refine (nu hck (mB ha hg) (aX (iT ha) _ hpe)).mono ?_;rintro e W1 ⟨rfl,hb1⟩)
  |(gi_at_call 47;refine (Gi a1 a2 an l1 l2 ns.length c1 c2 cap _ _).mono ?_;rintro e W2 ⟨rfl,rfl⟩)
  |gi_in)
 obtain ⟨W3,hW3⟩:∃ W3,((W1.alloc (.cells #[.slice a1 l1 c1] 25)).alloc (.cells #[.slice a2 l2 c2] 27)).alloc (.cells #[.slice an ns.length cap] 29)=W3:=⟨_,rfl⟩
 rw [hW3]
 have hs3:W3.heap.size=W1.heap.size+3:=by rw [← hW3];simp
 have hb3:Below W1.heap.size W1 W3:=by rw [← hW3];exact (((Below.refl _ W1).alloc (Nat.le_refl _) _).alloc (by simp) _).alloc (by simp;omega) _
 have hs1:w.heap.size+1≤W1.heap.size:=by have:=hb1.size;simpa using this
 have hwW1:Below w.heap.size w W1:=ha.trans (hb1.mono (by simp))
 have hw3:Below w.heap.size w W3:=hwW1.trans (hb3.mono (by omega))
 have k1:W3.cell? ⟨W1.heap.size,0,none⟩=some (.slice a1 l1 c1):=by rw [← hW3];exact (((Boxed.new W1 25 (.slice a1 l1 c1)).alloc _).alloc _).cell
 have k2:W3.cell? ⟨W1.heap.size+1,0,none⟩=some (.slice a2 l2 c2):=by
  have:=((Boxed.new (W1.alloc (.cells #[.slice a1 l1 c1] 25)) 27 (.slice a2 l2 c2)).alloc (.cells #[.slice an ns.length cap] 29)).cell
  rw [World.size_alloc] at this
  rw [← hW3];exact this
 have k3:W3.cell? ⟨W1.heap.size+2,0,none⟩=some (.slice an ns.length cap):=by
  have:=(Boxed.new ((W1.alloc (.cells #[.slice a1 l1 c1] 25)).alloc (.cells #[.slice a2 l2 c2] 27)) 29 (.slice an ns.length cap)).cell
  rw [World.size_alloc,World.size_alloc] at this
  rw [← hW3];exact this
 have kc:W3.cell? ⟨w.heap.size,0,none⟩=some (.bool false):=((hb3.cell (p:=⟨w.heap.size,0,none⟩) hs1).trans (hb1.cell (p:=⟨w.heap.size,0,none⟩) (by simp))).trans (Boxed.new w 4 (.bool false)).cell
 have kf:W3.frozen? ⟨w.heap.size,0,none⟩=false:=((hb3.frozen (p:=⟨w.heap.size,0,none⟩) hs1).trans (hb1.frozen (p:=⟨w.heap.size,0,none⟩) (by simp))).trans (Boxed.new w 4 (.bool false)).frozen
 have hc3:0<ns.length→an=some ⟨b,off,none⟩∧b<W3.heap.size∧∀ j,j<ns.length→W3.cell? ⟨b,off+j,none⟩=some (.string ⟨((ns[j]?).getD []).toArray⟩):=by
  intro h
  obtain ⟨h1,h2⟩:=hc h
  have hbl:b<w.heap.size:=World.block_lt_of_cell? w ⟨b,off+0,none⟩ (h2 0 h)
  exact ⟨h1,by omega,fun j hj=>(hw3.cell (p:=⟨b,off+j,none⟩) hbl).trans (h2 j hj)⟩
 have oB:∀ {A B:World} {row:Option Nat},Below w.heap.size w A→A.grownBy B row→(∀ r,row=some r→W3.heap.size≤r∧∃ o:Obj,A.heap[r]? =some o∧o.isCells=false)→Below w.heap.size w B:=
  fun h hg hr=>ownFrom_below (β:=Unit) (n₀:=w.heap.size) (B:=W3.heap.size) (w₀:=w) (Nat.le_refl _) hw3.size () _ _ _ h hg hr
 have oC:∀ {A:World} {D:Nat} {o:Obj} {v:Value},W3.heap.size≤D→A.cell? ⟨w.heap.size,0,none⟩=some v→(A.putObj D o).cell? ⟨w.heap.size,0,none⟩=some v:=
  fun {A D o v} hD hv=>(World.cell?_of_block (World.putObj_heap_other (show w.heap.size ≠ D by omega))).trans hv
 have pB:∀ {A:World} {D:Nat} {o:Obj},W3.heap.size≤D→Below w.heap.size w A→Below w.heap.size w (A.putObj D o):=
  fun {A D o} hD h=>h.trans ((Below.refl _ A).grown (grownBy_putObj' A D o) h.size (fun k e=>by cases e;omega))
 refine wpIn_rangeFunc_ownF rfl h1n (gf:=73) (lb:=#[.pointer (some ⟨W1.heap.size+2,0,none⟩),.pointer (some ⟨W1.heap.size,0,none⟩),.pointer (some ⟨W1.heap.size+1,0,none⟩)]) rfl trivial (enters_of Tryz.func73 (by kernel_rfl) rfl)
  (zZ (n - 1) (by omega) (W1.heap.size+2) W1.heap.size (W1.heap.size+1) b off cap an E SC _ _ ns so sp hreach hso hsp W3 (mB hw3 hg) (aX (iT hw3) _ hpr) (by omega) (by omega) (by omega) k3 k1 k2 hc3)
  (fun h k=>h.trans k) (fun W l o o' hl h hc hw=>belowK_b (Nat.le_refl _) W l o o' hl h hc hw) (Below.refl _ _) (fun _=>rfl)
  (fun pre W=>(∀ x ∈ pre,x≤1)∧W.cell? ⟨w.heap.size,0,none⟩=some (.bool false)∧W.frozen? ⟨w.heap.size,0,none⟩=false∧Below w.heap.size w W)
  (fun c pre W=>c= .ret∧(∃ x ∈ pre,¬ x≤1)∧W.cell? ⟨w.heap.size,0,none⟩=some (.bool false)∧Below w.heap.size w W)
  (fun s A B row hs hg hr=> ⟨hs.1,cell_kept hs.2.1 hg (fun r e=>(hr r e).2),(frozen_kept hs.2.1 hg (fun r e=>(hr r e).2)).trans hs.2.2.1,oB hs.2.2.2 hg hr⟩)
  (fun c s A B row hs hg hr=> ⟨hs.1,hs.2.1,cell_kept hs.2.2.1 hg (fun r e=>(hr r e).2),oB hs.2.2.2 hg hr⟩)
  ⟨by simp,kc,kf,hw3⟩
  (fun x=> {tmps:=#[.slice a1 l1 c1,.slice a2 l2 c2,.slice an ns.length cap,undef,undef,undef,.pointer (some ⟨w.heap.size,0,none⟩),.int .i64 x,.slice a1 l1 c1,.int .i64 0,.bool false,.slice a1 l1 c1,.slice a2 l2 c2,.slice an ns.length cap,.func (.func 73) #[] #[.pointer (some ⟨W1.heap.size+2,0,none⟩),.pointer (some ⟨W1.heap.size,0,none⟩),.pointer (some ⟨W1.heap.size+1,0,none⟩)],.int .i64 x,undef,undef],defers:= []}) ?assign ?body ?done ?stop
 case assign=>
  intro l x W K hK
  gi_wp2
  exact hK
 case body=>
  rintro l pre x W ⟨hp,hcW,hfW,hbW⟩ _
  by_cases hx:x≤1
  ·have hx1:¬ (1<x):=by omega
   gi_wp2
   exact ⟨KeepsOthers.refl _,Below.refl _ _,(fun y hy=>by rcases List.mem_append.1 hy with h|h;exact hp y h;rw [List.mem_singleton.1 h];exact hx),hcW,hfW,hbW⟩
  ·have hx1:1<x:=by omega
   gi_wp2
   exact ⟨KeepsOthers.setCell _ _ _,rfl,⟨x,by simp,hx⟩,World.cell?_setCell_same' _ _ _ (by rw [hcW];rfl),hbW.setCell (p:=⟨w.heap.size,0,none⟩) (Nat.le_refl _) _⟩
 case done=>
  rintro D xs W hD rfl ⟨hp,hcW,hfW,hbW⟩ hK
  gi_wp2
  have hK':(W.setCell ⟨w.heap.size,0,none⟩ (.bool true)).heap[D]? =some (.deferred (some [])):=(Below.heap_setCell W ⟨w.heap.size,0,none⟩ (.bool true) D (by show D ≠ w.heap.size;omega)).trans hK
  refine ⟨by simp,.inl ⟨_,_,rfl,run_takeDeferred hK', ?_⟩⟩
  refine ⟨_,Jf rfl (oC hD (World.cell?_setCell_same' _ _ _ (by rw [hcW];rfl))), ?_,pB hD (hbW.setCell (p:=⟨w.heap.size,0,none⟩) (Nat.le_refl _) _)⟩
  congr 2
  exact (List.all_eq_true.2 fun x hx=>decide_eq_true (hp x hx)).symm
 case stop=>
  rintro D c pre W hD hSp ⟨rfl,⟨x,hx,hx1⟩,hcW,hbW⟩ hK
  gi_wp2
  refine ⟨by simp,.inl ⟨_,_,rfl,run_takeDeferred hK, ?_⟩⟩
  refine ⟨_,Jf rfl (oC hD hcW), ?_,pB hD hbW⟩
  congr 2
  obtain ⟨r,hr⟩:=hSp
  symm
  rw [Bool.eq_false_iff]
  intro h
  rw [← hr] at h
  have h2:=of_decide_eq_true (List.all_eq_true.1 h x (List.mem_append.2 (.inl hx)))
  omega
def K9 (x:AV):Prop:=x= .nilS∨∃ l n b,x= .sl l n b
theorem K9.val {S:aJ} {x:AV} {v:Value} (h:K9 x) (hv:PR S x v):∃ a l c,v= .slice a l c:=by
 rcases h with rfl|⟨l,n,b,rfl⟩
 ·simp only [PR] at hv;exact ⟨_,_,_,hv⟩
 ·simp only [PR] at hv;obtain ⟨a,cap,rfl,_⟩:=hv;exact ⟨_,_,_,rfl⟩
def Jy (ns:List (List UInt8)) (b:Bool):AV:= .sl (ns.map .str) ns.length b
theorem Jz {S:aJ} {ns:List (List UInt8)} {b:Bool} {v:Value} (hv:PR S (Jy ns b) v):∃ an cap k off,v= .slice an ns.length cap∧(0<ns.length→an=some ⟨k,off,none⟩∧∀ j,j<ns.length→S k (off+j)=some (.string ⟨((ns[j]?).getD []).toArray⟩)):=by
 simp only [Jy,PR] at hv
 obtain ⟨a,cap,rfl,_,h⟩:=hv
 rcases h with ⟨rfl,_,h,_⟩|⟨k,off,vs,rfl,h1,h2⟩
 ·exact ⟨none,cap,0,0,rfl,fun hn=>by have:=congrArg List.length h;simp at this;subst this;simp at hn⟩
 ·refine ⟨_,cap,k,off,rfl,fun _=> ⟨rfl,fun j hj=> ?_⟩⟩
  obtain ⟨u,hu,hp⟩:=DZ h1 j (x:= .str ((ns[j]?).getD [])) (by rw [List.getElem?_map,List.getElem?_eq_getElem hj];rfl)
  simp only [PR] at hp
  rw [← hp]
  exact (h2 j u hu).1
theorem Uf:qJ prog 17:=enters_of Tryz.func17 (by kernel_rfl) rfl
theorem wg {args:List AV} {b:Bool} (h:∀ w cargs,h_ ap (bQ w)→bP (bQ w) args cargs→CallsIn Fence.wide 9 prog 17 cargs.toArray w fun e w'=>e= .returned (.bool b)∧Below w.heap.size w w'):CO 17 args (.ret (.bool b)):=by
 refine ⟨Nat.le_refl _,Uf, ?_⟩
 intro m S w cargs hS hv
 have hle:iC S (bQ w):=fun k o v hk=>hS.sealed k o v hk
 have hg:h_ ap (bQ w):=by
  intro k xs hk
  obtain ⟨vs,h1,h2⟩:=hS.glob k xs hk
  exact ⟨vs,aX hle _ h1,fun j u hu=> ⟨hle _ _ _ (h2 j u hu).1,(h2 j u hu).2⟩⟩
 refine (callsIn_wide.1 (h w cargs hg (aX hle _ (fP (m:=m) _ hv)))).mono ?_
 rintro e w' ⟨rfl,hb⟩
 refine ⟨m,S, ?_, ?_,⟨_,rfl, ?_⟩⟩
 ·exact ⟨fun b b' B B' h=>by simp [aS,gz,fL] at h,fun b B h=>by simp [aS,gz,fL] at h,fun k o v h=>iT hb k o v (hle k o v h),fun b B h=>by simp [aS,gz,fL] at h,hS.glob⟩
 ·exact ⟨Ge.refl _ _,iC.refl S,hb.os,hb.tape,hb.output,hb.size,fun k hk _=>hb.block k hk,fun _ B h=>by simp [aS,gz,fL] at h,fun _ _ _ h=> .inl h⟩
 ·simp only [pA,VR,PR]
theorem Jg (E SC NM:AV) (x:Int) (hx:x ≠ 0) (hck:CO 21 [E] (.ret (.int .i64 x))):CO 17 [E,SC,NM] (.ret (.bool false)):=by
 refine wg fun w cargs hg hv=> ?_
 match cargs,hv with
 | [ue,us,un],hv=>
  simp only [bP] at hv
  exact Gd E x hx hck 9 (by omega) ue us un w hg (by simp only [bP];exact ⟨hv.1,trivial⟩)
theorem Jh (E SC:AV) (b:Bool) (hE:K9 E) (hSC:K9 SC) (hck:CO 21 [E] (.ret (.int .i64 0))) (ns:List (List UInt8)) (so sp:List UInt8→Int) (hreach:ns.length*16≤140737488351232)
  (hso:∀ s ∈ ns,CO 14 [E,SC,.int .i64 6,.str s] (.ret (.int .i64 (so s)))) (hsp:∀ s ∈ ns,CO 14 [E,SC,.int .i64 8,.str s] (.ret (.int .i64 (sp s)))):
  CO 17 [E,SC,Jy ns b] (.ret (.bool (ns.all fun s=>decide (so s≤1) && decide (sp s≤1)))):=by
 have e:(ns.all fun s=>decide (so s≤1) && decide (sp s≤1))=(gB (fun k=>so ((ns[k]?).getD [])) (fun k=>sp ((ns[k]?).getD [])) ns.length).all fun x=>decide (x≤1):=by
  have:ns=(List.range ns.length).map fun k=>(ns[k]?).getD []:=by
   apply List.ext_getElem
   ·simp
   ·intro i h1 h2;simp [List.getElem?_eq_getElem h1]
  conv=>lhs;rw [this]
  simp [gB,List.all_flatMap,List.all_map,Function.comp_def]
 rw [e]
 refine wg fun w cargs hg hv=> ?_
 match cargs,hv with
 | [ue,us,un],hv=>
  simp only [bP] at hv
  obtain ⟨h1,h2,h3,_⟩:=hv
  obtain ⟨a1,l1,c1,rfl⟩:=hE.val h1
  obtain ⟨a2,l2,c2,rfl⟩:=hSC.val h2
  obtain ⟨an,cap,k,off,rfl,hn⟩:=Jz h3
  exact Dz E SC hck ns so sp hreach hso hsp 9 (by omega) a1 a2 an l1 l2 c1 c2 cap k off w hg (by simp only [bP];exact ⟨h1,h2,trivial⟩) fun h=> ⟨(hn h).1,fun j hj=>m_ ((hn h).2 j hj) rfl⟩
end Go.Proofs.Tryz
set_option maxRecDepth 100000
open Go AM
namespace Go.Proofs.Tryz
theorem Mn (so sp:List UInt8→Nat) (x:List UInt8):Mm so sp x=(decide (((so x:Nat):Int)≤1) && decide (((sp x:Nat):Int)≤1)):=by
 unfold Mm
 congr 1
 ·by_cases h:((so x:Nat):Int)≤1
  ·rw [decide_eq_true h,decide_eq_false (by omega)];rfl
  ·rw [decide_eq_false h,decide_eq_true (by omega)];rfl
 ·by_cases h:((sp x:Nat):Int)≤1
  ·rw [decide_eq_true h,decide_eq_false (by omega)];rfl
  ·rw [decide_eq_false h,decide_eq_true (by omega)];rfl
def EL (cmp:Br→Br→Int) (e:List Nd) (qs:List Sq) (nl:List (List UInt8)):Bool:=
 (bC e==((0:Nat):Int)) && nl.all (Mm (fun x=>dG (GY cmp) (G7 cmp) e (qs.map Sq.c) 6 x) (fun x=>dG (GY cmp) (G7 cmp) e (qs.map Sq.c) 8 x))
theorem gM (e:List Nd) (ne:Bool) (qs:List Sq) (ns:Bool) (cmp:Br→Br→Int) (nl:List (List UInt8)) (nb:Bool) (hsm:∀ y ∈ e,y.sm) (hke:e.length<2^40) (hqs:qs.length<2^40) (hc:Cq 129 cmp qs) (hl:nl.length<2^40):
  CO 17 [.sl (aF e) e.length ne,.sl (cR (qs.map Sq.c)) qs.length ns,.sl (List.map AV.str nl) nl.length nb] (.ret (.bool (EL cmp e qs nl))):=by
 have ck:=um e ne hsm
 unfold EL
 by_cases hq:bC e=0
 ·rw [hq] at ck
  have h:=Jh (.sl (aF e) e.length ne) (.sl (cR (qs.map Sq.c)) qs.length ns) nb (.inr ⟨_,_,_,rfl⟩) (.inr ⟨_,_,_,rfl⟩) ck nl
   (fun x=>((dG (GY cmp) (G7 cmp) e (qs.map Sq.c) 6 x:Nat):Int)) (fun x=>((dG (GY cmp) (G7 cmp) e (qs.map Sq.c) 8 x:Nat):Int)) (by omega)
   (fun x _=>aZ e ne qs ns cmp 6 x hsm hke hqs hc) (fun x _=>aZ e ne qs ns cmp 8 x hsm hke hqs hc)
  rw [hq,show ((0:Int)==((0:Nat):Int))=true from rfl,Bool.true_and]
  rw [show nl.all (Mm (fun x=>dG (GY cmp) (G7 cmp) e (qs.map Sq.c) 6 x) (fun x=>dG (GY cmp) (G7 cmp) e (qs.map Sq.c) 8 x))=nl.all fun s=>decide (((dG (GY cmp) (G7 cmp) e (qs.map Sq.c) 6 s:Nat):Int)≤1) && decide (((dG (GY cmp) (G7 cmp) e (qs.map Sq.c) 8 s:Nat):Int)≤1) from by congr 1;funext x;exact Mn _ _ x]
  exact h
 ·rw [show (bC e==((0:Nat):Int))=false from beq_eq_false_iff_ne.2 hq,Bool.false_and]
  exact Jg _ _ _ (bC e) hq ck
end Go.Proofs.Tryz
