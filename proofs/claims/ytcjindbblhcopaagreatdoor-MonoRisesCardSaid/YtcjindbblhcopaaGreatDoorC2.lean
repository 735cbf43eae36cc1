/- Contracts of functions that the law reaches, each by its own hypotheses; joined by a program of mine. -/
import Derived.Test.YtcjindbblhcopaaGreatDoorC1
import Derived.Test.YtcjindbblhcopaaGreatDoorM5
set_option linter.unusedSimpArgs false
set_option linter.unusedVariables false
set_option maxRecDepth 100000
open Go AM
namespace Go.Proofs.Tryz
def zcc2_0 : List AV := [.str [],.int .i64 0,.bool false,.bool false,.bool false]
def apT (x y:Nat) (na nb:Bool) (p:Nat × Nat):St:=⟨[(0,.sl (aj (az x)) (az x).length na),(1,.sl (aj (az y)) (az y).length nb),(5,.int .i64 (p.1:Int)),(6,.int .i64 (p.2:Int))],[],.dead,[]⟩
def ajs (q:Nat):St:=⟨[(5,.int .i64 (q:Int))],[],.dead,[]⟩
theorem TY {x d:Nat} (b:d<16777216):(az (x*d)).length≤(az x).length+1:=by
 apply A8
 have a:=uT x
 have hp:=Vq (az x).length
 rw [Nat.pow_succ]
 rcases Nat.eq_zero_or_pos d with rfl|h0
 ·rw [Nat.mul_zero];exact Nat.mul_pos hp (by omega)
 ·exact Nat.lt_of_lt_of_le (Nat.mul_lt_mul_of_pos_right a h0) (Nat.mul_le_mul_left _ (by omega))
theorem Xw {nt:Nat} (k:26≤nt) (x y:Nat) (e g:Bool) (p:0<y) (q:(az x).length<2^36) (r:(az y).length<2^35):∀ (n b a:Nat),a - b<n→b≤x / y→x / y≤a→a<16777216→aF prog ap [] nt (ae 0 (af f110)) (fun _=> .exit 0) (apT x y e g) ajs (b,a) (x / y):=by
 intro n
 induction n with
 |zero=>intro b a h;omega
 | succ n ih=>
  intro b a h u t v
  rcases Nat.lt_or_ge b a with hlt|hge
  ·have i:(b+a+1) / 2<16777216:=by omega
   have o:=Gm (y*((b+a+1) / 2)) x
   have m:=LH y ((b+a+1) / 2) g i (by omega)
   have w:=TY (x:=y) i
   have f:=PG (az (y*((b+a+1) / 2))) (az x) true e (dJ.dig _) (dJ.dig _) (by omega) (by omega)
   have c:=Nat.le_div_iff_mul_le (x:=(b+a+1) / 2) (y:=x) p
   rw [Nat.mul_comm] at c
   have z:((0:Nat):Int)=0:=rfl
   by_cases hle:y*((b+a+1) / 2)≤x
   ·have j:=c.2 hle
    refine .next ?_ (ih ((b+a+1) / 2) a (by omega) j t v)
    have d:=ajt k x y (y*((b+a+1) / 2)) b a (J3 (az (y*((b+a+1) / 2))) (az x)) e g
    simp (disch:=first|omega|(simp [ak,ay]<;>omega)) only [bG,bu,aZ,dB,bz,tJ] at d
    exact d (o.2.2 hle) hlt m f
   ·have j:x / y<(b+a+1) / 2:=Nat.lt_of_not_le (fun l=>hle (c.1 l))
    refine .next ?_ (ih b ((b+a+1) / 2 - 1) (by omega) u (by omega) (by omega))
    have d:=aju k x y (y*((b+a+1) / 2)) b a (J3 (az (y*((b+a+1) / 2))) (az x)) e g
    simp (disch:=first|omega|(simp [ak,ay]<;>omega)) only [dO,eF,fB,aZ,bG,bu,dB,bz,tJ,jX] at d
    exact d (fun l=>hle (o.2.1 l)) hlt m f
  ·have s:b=x / y:=by omega
   have d:=ajv k x y 0 b a 0 e g (by rw [aZ];simp [lit];omega)
   rw [← s]
   exact .done d
theorem TZ (x y:Nat) (d c:Bool) (f:0<y) (e:x<y*16777216) (a:(az x).length<2^36) (b:(az y).length<2^35):CO 110 [.sl (aj (az x)) (az x).length d,.sl (aj (az y)) (az y).length c] (.ret (.int .i64 ((x / y:Nat):Int))):=by
 have h:x / y<16777216:=by rw [Nat.div_lt_iff_lt_mul f,Nat.mul_comm];exact e
 exact abu x y (x / y) d c (aF.blk (fun nt g=>Xw g x y d c f a b 16777216 0 16777215 (by omega) (Nat.zero_le _) (Nat.le_of_lt_succ h) (by omega)) (by simp) rfl (aK.of ⟨rfl,rfl,rfl,rfl,trivial⟩) (aK.of ⟨rfl,trivial⟩))
theorem mY (l:List UInt8) (c:UInt8):ai (l++ [c])=ai l*256+c.toNat:=by
 unfold ai;rw [List.foldl_append];rfl
theorem toNat_ofNat {x:Nat} (h:x<256):(UInt8.ofNat x).toNat=x:=by
 rw [UInt8.toNat_ofNat'];exact Nat.mod_eq_of_lt h
def bS (o:List Nat):List UInt8:=o.map UInt8.ofNat
theorem aev (o:List Nat):List.map (fun c=>UInt8.ofNat (Int.toNat (AV.toInt c))) (n_ o)=bS o:=by
 unfold n_ bS;rw [List.map_map];rfl
theorem PX (l:List Nat) (k:Nat):List.take k (n_ l)=n_ (l.take k):=by unfold n_;rw [List.map_take]
def Tm (l:List Nat):Nat→List Nat
 |0=> []
 |k+1=> [l.getD k 0 / 65536,l.getD k 0 / 256 % 256,l.getD k 0 % 256]++Tm l k
theorem MO (a b:List Nat):bS (a++b)=bS a++bS b:=by unfold bS;rw [List.map_append]
theorem OV {l:List Nat} (a:dJ l):∀ (k:Nat) (o:List Nat),k≤l.length→ai (bS (o++Tm l k))=ai (bS o)*16777216^k+fQ (l.take k)
 |0,o,_=>by simp [Tm,fQ]
 | k+1,o,h=>by
  simp only [Tm]
  rw [← List.append_assoc,OV a k _ (by omega),nX (by omega)]
  have b:=a.getD k
  generalize l.getD k 0=d at*
  have e:ai (bS (o++ [d / 65536,d / 256 % 256,d % 256]))=ai (bS o)*16777216+d:=by
   rw [show o++ [d / 65536,d / 256 % 256,d % 256]=((o++ [d / 65536])++ [d / 256 % 256])++ [d % 256] by simp,MO,MO,MO]
   simp only [bS,List.map_cons,List.map_nil]
   rw [mY,mY,mY,toNat_ofNat (show d / 65536<256 by omega),toNat_ofNat (Nat.mod_lt _ (by omega)),toNat_ofNat (Nat.mod_lt _ (by omega))]
   omega
  rw [e,Nat.add_mul,Nat.pow_succ,Nat.mul_comm (16777216^k) 16777216,Nat.mul_assoc,Nat.mul_comm d]
  omega
def WY (l:List Nat):AV:=match l with| []=> .nilS|x::l=> .ref 0 0 0 (x::l).length
def WZ (l:List Nat):Hp:=match l with| []=> []|x::l=> [(0,⟨n_ (x::l),0,false,0,1,true⟩)]
theorem AZ {l:List Nat} (h:l ≠ []):WY l= .ref 0 0 0 l.length:=by cases l with|nil=>exact absurd rfl h|cons _ _=>rfl
theorem A7 {l:List Nat} (h:l ≠ []):WZ l= [(0,⟨n_ l,0,false,0,1,true⟩)]:=by cases l with|nil=>exact absurd rfl h|cons _ _=>rfl
def ab8 (l:List Nat) (nn:Bool) (p:Nat × List Nat):St:=⟨[(0,.sl (aj l) l.length nn),(3,WY p.2),(4,.int .i64 ((p.1:Int) - 1))],WZ p.2,.dead,[]⟩
def U8 (o:List Nat):St:=⟨[(3,WY o)],WZ o,.dead,[]⟩
theorem ZI (o:List Nat) (a b c:Nat):n_ o++ [AV.int .u8 (a:Int),AV.int .u8 (b:Int),AV.int .u8 (c:Int)]=n_ (o++ [a,b,c]):=by simp [n_]
theorem aau:(2:Nat)^16=65536:=by decide
theorem ali:(2:Nat)^8=256:=by decide
theorem YD {nt:Nat} (e:35≤nt) (l:List Nat) (c:Bool) (j:l.length<2^36) (f:dJ l):∀ (k:Nat) (o:List Nat),k≤l.length→o.length+3*k=3*l.length→aF prog ap [] nt (ae 0 (af f79)) (fun _=> .exit 0) (ab8 l c) U8 (k,o) (o++Tm l k):=by
 intro k
 induction k with
 | zero=>
  intro o _ _
  simp only [Tm,List.append_nil]
  refine .done ?_
  unfold ab8 U8
  rcases Decidable.em (o= []) with rfl|hne
  ·exact YG e l [] c
  ·rw [AZ hne,A7 hne]
   exact YE e l o c
 | succ k ih=>
  intro o n m
  have p:=f.getD k
  have i:(((k+1:Nat):Int) - 1)=(k:Int):=by omega
  have h:IntKind.wrap .i64 ((k:Int) - ((1:Nat):Int))=(k:Int) - 1:=dC (by omega) (by omega)
  have hnext:=ih (o++ [l.getD k 0 / 65536,l.getD k 0 / 256 % 256,l.getD k 0 % 256]) (by omega) (by simp;omega)
  rw [List.append_assoc] at hnext
  simp only [Tm]
  refine .next ?_ hnext
  unfold ab8
  rw [i]
  generalize g:l.getD k 0=d at*
  have a:o++ [d / 65536,d / 256 % 256,d % 256] ≠ []:=by simp
  rcases Decidable.em (o= []) with rfl|hne
  ·have b:=ab_ e l [] k c
   simp (disch:=first|omega|(simp [ak,ay]<;>omega)) only [aA,Nat.mul_one,gq,g,eQ,dF,bu,aZ,bG,h,a_,show min 16 64=16 from rfl,qh,aau,w8u,Nat.mod_eq_of_lt,show min 8 64=8 from rfl,ali] at b
   simp only [List.nil_append,WY,WZ,n_,List.map_cons,List.map_nil,List.length_cons,List.length_nil] at b ⊢
   apply b<;>first|exact True.intro|omega|assumption|exact rfl
  ·have b:=ab9 e l o k c
   rw [AZ hne,A7 hne,AZ a,A7 a]
   simp (disch:=first|omega|(simp [ak,ay]<;>omega)) only [fP,bu,Nat.mul_one,ay,aA,gq,g,eQ,dF,aZ,bG,h,PX,List.take_length,a_,show min 16 64=16 from rfl,qh,aau,w8u,Nat.mod_eq_of_lt,show min 8 64=8 from rfl,ali,ZI] at b
   simp only [List.length_append,List.length_cons,List.length_nil]
   apply b<;>first|exact True.intro|omega|assumption|exact rfl
theorem KQ (l:List Nat) (c:Bool) (i:l.length<2^36) (b:dJ l):CO 79 [.sl (aj l) l.length c] (.ret (.str (ag (fQ l)))):=by
 have hloop:=fun nt (hn:35≤nt)=>YD hn l c i b l.length [] (Nat.le_refl _) (by simp)
 have a:=OV b l.length [] (Nat.le_refl _)
 have g:(Tm l l.length).length=3*l.length:=by
  have:∀ k,(Tm l k).length=3*k:=by
   intro k
   induction k with
   |zero=>rfl
   |succ k ih=>simp only [Tm,List.length_append,List.length_cons,List.length_nil,ih];omega
  exact this _
 have f:IntKind.wrap .i64 ((l.length:Int) - ((1:Nat):Int))=(l.length:Int) - 1:=DC (by omega)
 simp only [List.nil_append] at hloop a
 rw [List.take_length,show ai (bS [])=0 from rfl,Nat.zero_mul,Nat.zero_add] at a
 generalize Tm l l.length=o at*
 rcases Decidable.em (o= []) with rfl|hne
 ·rw [← a]
  exact YH l [] c (aF.blk hloop (by simp) rfl (aK.of ⟨rfl,rfl,congrArg _ f,trivial⟩) (aK.of ⟨rfl,trivial⟩)) (iw [] (by simp))
 ·have h:=YF l o c
  have j:=iw (bS o) (by simp [bS];omega)
  rw [a] at j
  have e:List.take o.length (n_ o)=n_ o:=by rw [PX,List.take_length]
  simp (disch:=first|omega|(simp [ak,ay]<;>omega)) only [Nat.mul_one,e,IW,bu,aev,a] at h
  apply h<;>first|exact True.intro|omega|assumption|exact rfl|skip
  ·exact ay o
  ·have:List.all (n_ o) (gW (.int .u8))=true:=by
    rw [List.all_eq_true];intro x m
    obtain ⟨d,_,rfl⟩:=List.mem_map.1 m
    rfl
   exact this
  ·exact aF.blk hloop (by simp) rfl (aK.of ⟨rfl,rfl,congrArg _ f,trivial⟩) (by unfold U8;rw [AZ hne,A7 hne];exact aK.of ⟨rfl,trivial⟩)
theorem dn (x:Nat) (c:x<9223372036854775808):CO 49 [.int .i64 (x:Int)] (.ret (.str (ag x))):=by
 rcases Nat.eq_zero_or_pos x with rfl|h0
 ·exact ac0 0 rfl (iw [] (by simp))
 ·have h:=acZ x
  have e:∀ k,Int.toNat (IntKind.wrap .u8 (Int.fdiv (x:Int) (2^k)))=x / 2^k % 256:=by
   intro k;rw [qh,w8u,aA]
  simp only [show min 56 64=56 from rfl,show min 48 64=48 from rfl,show min 40 64=40 from rfl,show min 32 64=32 from rfl,show min 24 64=24 from rfl,show min 16 64=16 from rfl,show min 8 64=8 from rfl,show min 0 64=0 from rfl,e] at h
  have a:=iw [UInt8.ofNat (x / 2^56 % 256),UInt8.ofNat (x / 2^48 % 256),UInt8.ofNat (x / 2^40 % 256),UInt8.ofNat (x / 2^32 % 256),UInt8.ofNat (x / 2^24 % 256),UInt8.ofNat (x / 2^16 % 256),UInt8.ofNat (x / 2^8 % 256),UInt8.ofNat (x / 2^0 % 256)] (by simp)
  have b:ai [UInt8.ofNat (x / 2^56 % 256),UInt8.ofNat (x / 2^48 % 256),UInt8.ofNat (x / 2^40 % 256),UInt8.ofNat (x / 2^32 % 256),UInt8.ofNat (x / 2^24 % 256),UInt8.ofNat (x / 2^16 % 256),UInt8.ofNat (x / 2^8 % 256),UInt8.ofNat (x / 2^0 % 256)]=x:=by
   have t:∀ y,(UInt8.ofNat (y % 256)).toNat=y % 256:=fun y=>toNat_ofNat (Nat.mod_lt _ (by omega))
   simp only [ai,List.foldl_cons,List.foldl_nil,t]
   omega
  rw [b] at a h
  apply h
  ·rw [aZ];exact decide_eq_true h0
  ·exact a
def aao (s:List UInt8) (k:Nat):St:=⟨[(0,.str s),(4,.int .i64 ((ai (s.take k):Nat):Int)),(5,.int .i64 (k:Int))],[],.dead,[]⟩
def NC (s:List UInt8) (k:Nat):St:=⟨[(4,.int .i64 ((ai (s.take k):Nat):Int))],[],.dead,[]⟩
theorem ES {s:List UInt8} {k:Nat} (h:k<s.length):ai (s.take (k+1))=ai (s.take k)*256+(s.getD k 0).toNat:=by
 rw [List.take_add_one,List.getElem?_eq_getElem h,List.getD_eq_getElem?_getD,List.getElem?_eq_getElem h]
 exact mY _ _
theorem Jm (s:List UInt8) (k:Nat):ai (s.take k)≤ai s:=by
 rcases Nat.lt_or_ge k s.length with h|h
 ·have e:s=s.take k++s.drop k:=(List.take_append_drop k s).symm
  have:∀ (b a:List UInt8),ai a≤ai (a++b):=by
   intro b
   induction b with
   |nil=>intro a;simp
   |cons c r ih=>
    intro a
    have d:=ih (a++ [c])
    rw [mY,List.append_assoc] at d
    simp only [List.cons_append,List.nil_append] at d
    omega
  calc ai (s.take k)≤ai (s.take k++s.drop k):=this _ _
   _=ai s:=by rw [← e]
 ·rw [List.take_of_length_le h];exact Nat.le_refl _
theorem UA {nt:Nat} (f:35≤nt) (s:List UInt8) (hs:s.length<2^40) (n:ai s<9223372036854775808):∀ (d k:Nat),k+d=s.length→aF prog ap [] nt (ae 0 (af f107)) (fun _=> .exit 0) (aao s) (NC s) k s.length:=by
 intro d
 induction d with
 |zero=>
  intro k h
  have e:k=s.length:=by omega
  subst e
  exact .done (acG f s _ _ (by rw [aZ];simp [lit]))
 | succ d ih=>
  intro k h
  have b:k<s.length:=by omega
  refine .next ?_ (ih (k+1) (by omega))
  have a:=acF f s (ai (s.take k)) k
  rw [aA] at a
  have i:=Jm s (k+1)
  have g:=ES b
  have o:(s.getD k 0).toNat<256:=UInt8.toNat_lt _
  unfold aao
  rw [g]
  rw [g] at i
  generalize (s.getD k 0).toNat=c at*
  generalize ai (s.take k)=v at*
  have l:IntKind.wrap .i64 ((v:Int)*2^(min 8 64))=((v*256:Nat):Int):=by
   rw [show min 8 64=8 from rfl,dC]<;>omega
  have m:(((v*256:Nat):Int))+(c:Int)=((v*256+c:Nat):Int):=by omega
  have j:IntKind.wrap .i64 (c:Int)=(c:Int):=bz (by omega)
  rw [j,l,m,bz (by omega)] at a
  simp (disch:=first|omega|(simp [ak,ay]<;>omega)) only [dF,bu,aZ,bG,dB,bz] at a
  apply a<;>first|exact True.intro|omega|assumption|exact rfl
theorem yu {x k:Nat}:(ag x).length≤k↔x<2^(8*k):=by
 constructor
 ·intro h
  have a:=nY (ag x)
  rw [bD] at a
  exact Nat.lt_of_lt_of_le a (Nat.pow_le_pow_right (by omega) (by omega))
 ·exact iC
theorem abM (s:List UInt8) (hs:s.length<2^40) (f:ai s<9223372036854775808):CO 107 [.str s] (.ret (.tup [.int .i64 ((ai s:Nat):Int),.bool true])):=by
 have k:=iw s hs
 have a:=bD (ai s)
 have j:(ag (ai s)).length≤8:=iC (Nat.lt_of_lt_of_le f (by decide))
 have hloop:=fun nt (e:35≤nt)=>UA e (ag (ai s)) (by omega) (by rw [a];exact f) (ag (ai s)).length 0 (by omega)
 have hless:aK ⟨[(4,.int .i64 ((ai s:Nat):Int))],[],.dead,[]⟩ (NC (ag (ai s)) (ag (ai s)).length):=by
  unfold NC
  rw [List.take_length,a]
  exact aK.refl _
 have g:=Y2 s (ai s)
 have h:=Y3 s (ai s)
 have d:(ag (ai s)).length=8→((ag (ai s)).getD 0 0).toNat≤127:=by
  intro b
  cases e:ag (ai s) with
  |nil=>rw [e] at b;cases b
  |cons c r=>
   rw [e] at b a
   rw [ji] at a
   have:r.length=7:=by simpa using b
   rw [this,show 256^7=72057594037927936 from rfl] at a
   simp only [List.getD_cons_zero]
   omega
 generalize ag (ai s)=t at*
 by_cases b:t.length=8
 ·have i:=d b
  simp (disch:=first|omega|(simp [ak,ay]<;>omega)) only [aZ,dO,eF,fB,b,bu,jS,decide_true,bG] at g
  apply g<;>first|exact True.intro|omega|assumption|exact rfl|skip
  exact aF.blk hloop (by simp) rfl (aK.of ⟨rfl,rfl,rfl,trivial⟩) hless
 ·simp (disch:=first|omega|(simp [ak,ay]<;>omega)) only [jS,b,decide_false,dO,Bool.not_false,aZ,eF,fB] at h
  apply h<;>first|exact True.intro|omega|assumption|exact rfl|skip
  exact aF.blk hloop (by simp) rfl (aK.of ⟨rfl,rfl,rfl,trivial⟩) hless
theorem yI (s:List UInt8) (b:Nat) (hs:s.length<2^40) (d:b≤7) (c:ai s<2^(8*b)):CO 77 [.str s,.int .i64 (b:Int)] (.ret (.tup [.int .i64 ((ai s:Nat):Int),.bool true])):=by
 have h:=am1 s (ai s) b
 have a:ai s<9223372036854775808:=Nat.lt_of_lt_of_le c (Nat.le_trans (Nat.pow_le_pow_right (by omega) (show 8*b≤63 by omega)) (by decide))
 have e:=yu.2 c
 simp (disch:=first|omega|(simp [ak,ay]<;>omega)) only [aZ,dO,eF,fB] at h
 exact h (by omega) (iw s hs) (abM s hs a)
theorem EK (s:List UInt8) (b:Nat) (hs:s.length<2^40) (a:2^(8*b)≤ai s):CO 77 [.str s,.int .i64 (b:Int)] (.ret (.tup [.int .i64 0,.bool false])):=by
 have h:=am0 s 0 b
 have c:¬ (ag (ai s)).length≤b:=fun h=>by have:=yu.1 h;omega
 simp (disch:=first|omega|(simp [ak,ay]<;>omega)) only [aZ,bG,bu] at h
 exact h (by omega) (iw s hs)
theorem QM {d:Nat} (h:0<d):fK d=fK (d / 2)+1:=by
 rcases Nat.lt_or_ge d 2 with h1|h1
 ·have:d=1:=by omega
  subst this;rfl
 ·have:=ul (x:=d) (k:=1) (by omega)
  rw [Nat.pow_one] at this;omega
def aok (p:Nat × Nat):St:=⟨[(3,.int .i64 (p.1:Int)),(4,.int .i64 (p.2:Int))],[],.dead,[]⟩
def aey (n:Nat):St:=⟨[(3,.int .i64 (n:Int))],[],.dead,[]⟩
theorem Xi {nt:Nat} (c:24≤nt):∀ (b n d:Nat),d<b→d<256→n+fK d<2^45→aF prog ap [] nt (ae 0 (af f133)) (fun _=> .exit 0) aok aey (n,d) (n+fK d):=by
 intro b
 induction b with
 |zero=>intro n d h;omega
 | succ b ih=>
  intro n d h g f
  rcases Nat.eq_zero_or_pos d with rfl|h0
  ·exact .done (alN c n 0 rfl)
  ·have e:=QM h0
   rw [e,show n+(fK (d / 2)+1)=n+1+fK (d / 2) by omega]
   refine .next ?_ (ih (n+1) (d / 2) (by omega) (by omega) (by omega))
   have a:=alM c n d
   clear ih e
   simp (disch:=first|omega|(simp [ak,ay]<;>omega)) only [aZ,bG,bu,dB,bz,tJ] at a
   apply a<;>first|exact True.intro|omega|assumption|exact rfl
theorem La (s:List UInt8) (hs:s.length<2^40):CO 133 [.str s] (.ret (.int .i64 ((fK (ai s):Nat):Int))):=by
 have f:=iw s hs
 have a:=bD (ai s)
 have k:=Bz (ai s)
 have b:(ag (ai s)).length≤s.length:=lG (Nat.le_refl _)
 have h0:=acs s 0
 have g:=acu s (fK (ai s))
 cases d:ag (ai s) with
 |nil=>
  rw [d] at h0 a f
  rw [← a]
  exact h0 rfl f
 | cons c r=>
  rw [d] at g a f k b
  have j:c ≠ 0:=by simpa [nR] using k
  have i:0<c.toNat:=by
   rcases Nat.eq_zero_or_pos c.toNat with h|h
   ·exact absurd (by apply UInt8.toNat_inj.1;simpa using h) j
   ·exact h
  have hc256:c.toNat<256:=UInt8.toNat_lt c
  have l:fK (ai s)=8*r.length+fK c.toNat:=by
   have e:=Dz (x:=c.toNat) (y:=ai r) (8*r.length) i (nY r)
   rw [← e,← a,ji,Nat.mul_comm,show (256:Nat)=2^8 from rfl,← Nat.pow_mul]
  have m:fK c.toNat≤8:=lw (by omega)
  simp only [List.length_cons] at b
  have hloop:=fun nt (d:24≤nt)=>Xi d 256 (8*r.length) c.toNat hc256 hc256 (by omega)
  rw [← l] at hloop
  simp only [List.length_cons,List.getD_cons_zero] at g
  have t:r.length+1 - 1=r.length:=rfl
  have q:(((r.length+1:Nat):Int)) - ((1:Nat):Int)=(r.length:Int):=by omega
  have p:IntKind.wrap .i64 (r.length:Int)=(r.length:Int):=bz (by omega)
  have o:IntKind.wrap .i64 (((8:Nat):Int)*(r.length:Int))=((8*r.length:Nat):Int):=by rw [dC]<;>omega
  have n:IntKind.wrap .i64 (c.toNat:Int)=(c.toNat:Int):=bz (by omega)
  rw [q,p,o,n] at g
  refine g (by rw [aZ];exact decide_eq_true (by omega)) (by rw [jS];simp [lit]) f ?_
  exact aF.blk hloop (by simp) rfl (aK.of ⟨rfl,rfl,trivial⟩) (aK.of ⟨rfl,trivial⟩)
theorem xh (s:List UInt8):CO 128 [.str s] (.ret (.bool (nR s))):=by
 cases s with
 |nil=>exact amI [] rfl
 | cons c r=>
  have h:=amJ (c::r)
  have e:(!((((c::r).getD 0 0).toNat:Int)==((0:Nat):Int)))=nR (c::r):=by
   simp only [List.getD_cons_zero,nR]
   by_cases hc:c=0
   ·subst hc;rfl
   ·have:c.toNat ≠ 0:=fun h=>hc (by apply UInt8.toNat_inj.1;simpa using h)
    have a:((c.toNat:Int)==((0:Nat):Int))=false:=by simp;omega
    rw [a];simp [hc]
  rw [e] at h
  apply h
  ·simp
  ·simp [lit];omega
theorem zO:∀ (a b:List UInt8),a.length=b.length→iO a b=decide (ai a<ai b)
 | [],[],_=>rfl
 | [],_::_,h=>by simp at h
 |_::_,[],h=>by simp at h
 | x::a,y::b,h=>by
  have d:a.length=b.length:=by simpa using h
  have g:=zO a b d
  have j:=nY a
  have k:=nY b
  simp only [iO,g]
  rw [ji,ji,d,show (256:Nat)=2^8 from rfl,← Nat.pow_mul]
  rw [d] at j
  have e:decide (x<y)=decide (x.toNat<y.toNat):=by simp [UInt8.lt_iff_toNat_lt]
  have c:(x==y)=decide (x.toNat=y.toNat):=by
   by_cases h:x=y
   ·subst h;simp
   ·have:x.toNat ≠ y.toNat:=fun i=>h (UInt8.toNat_inj.1 i)
    simp [h,this]
  rw [e,c]
  generalize 2^(8*b.length)=M at*
  generalize ai a=u at*
  generalize ai b=v at*
  generalize x.toNat=p at*
  generalize y.toNat=q at*
  rcases Nat.lt_trichotomy p q with h3|h3|h3
  ·have f:(p+1)*M≤q*M:=Nat.mul_le_mul_right _ h3
   rw [Nat.add_mul,Nat.one_mul] at f
   rw [decide_eq_true h3,decide_eq_true (show p*M+u<q*M+v by omega)];rfl
  ·subst h3
   rw [decide_eq_false (Nat.lt_irrefl _),decide_eq_true rfl]
   simp
  ·have f:(q+1)*M≤p*M:=Nat.mul_le_mul_right _ h3
   rw [Nat.add_mul,Nat.one_mul] at f
   rw [decide_eq_false (show ¬ p<q by omega),decide_eq_false (show ¬ p=q by omega),decide_eq_false (show ¬ p*M+u<q*M+v by omega)];rfl
theorem Ae {x y:Nat} (h:(ag x).length<(ag y).length):x<y:=by
 rcases Nat.lt_or_ge x y with h1|h1
 ·exact h1
 ·have a:y≤ai (ag x):=by rw [bD];exact h1
  have:=lG a
  omega
theorem Vu (s t:List UInt8) (hs:s.length<2^40) (g:t.length<2^40):CO 118 [.str s,.str t] (.ret (.int .i64 (vz (ai s) (ai t)))):=by
 have d:=iw s hs
 have c:=iw t g
 have k:=bD (ai s)
 have i:=bD (ai t)
 unfold vz
 by_cases hl:(ag (ai s)).length=(ag (ai t)).length
 ·have a:=zO _ _ hl
  rw [k,i] at a
  have f:(ag (ai s)==ag (ai t))=decide (ai s=ai t):=by
   by_cases h:ai s=ai t
   ·rw [h];simp
   ·have:ag (ai s) ≠ ag (ai t):=fun j=>h (U5 j)
    simp [h,this]
  have b:lit false (!((((ag (ai s)).length:Nat):Int)==(((ag (ai t)).length:Nat):Int)))=true:=by rw [hl];simp [lit]
  by_cases h1:ai s<ai t
  ·rw [if_pos h1]
   exact YY s t (by rw [a,decide_eq_true h1];rfl) b d c
  ·rw [if_neg h1]
   by_cases e:ai t<ai s
   ·rw [if_pos e]
    exact YZ s t (by rw [a,f,decide_eq_false h1,decide_eq_false (show ¬ ai s=ai t by omega)];rfl) (by rw [a,decide_eq_false h1];rfl) b d c
   ·rw [if_neg e]
    exact Y0 s t (by rw [a,f,decide_eq_false h1,decide_eq_true (show ai s=ai t by omega)];rfl) (by rw [a,decide_eq_false h1];rfl) b d c
 ·have b:lit true (!((((ag (ai s)).length:Nat):Int)==(((ag (ai t)).length:Nat):Int)))=true:=by rw [jS,decide_eq_false hl];rfl
  by_cases h1:(ag (ai s)).length<(ag (ai t)).length
  ·rw [if_pos (Ae h1)]
   exact YW s t (by rw [aZ,decide_eq_true h1];rfl) b d c
  ·have e:=Ae (show (ag (ai t)).length<(ag (ai s)).length by omega)
   rw [if_neg (by omega),if_pos e]
   exact YX s t (by rw [aZ,decide_eq_false h1];rfl) b d c
theorem alb {nt:Nat} (a:35≤nt) (s:List UInt8) (o:List Nat) (e d k:Nat) (h0:(decide (((0:Nat):Int)≤(k:Int)))=true) (c:(decide ((k:Int)<(((List.length s):Nat):Int)))=true) (b:lit true (decide ((k:Int)<(e:Int)))=true):ah prog ap [] nt (ae 2 (af f78)) ⟨[(0,.str s),(3,.nilS),(4,.int .i64 (e:Int)),(5,.int .i64 (d:Int)),(6,.int .i64 (k:Int))],[],.dead,[]⟩ (.normal) ⟨[(0,.str s),(3,.nilS),(4,.int .i64 (e:Int)),(5,.int .i64 (IntKind.wrap .i64 ((IntKind.wrap .i64 ((d:Int)*((256:Nat):Int)))+(IntKind.wrap .i64 ((UInt8.toNat (List.getD s (Int.toNat (k:Int)) 0):Nat):Int))))),(6,.int .i64 (IntKind.wrap .i64 ((k:Int)+((1:Nat):Int))))],[],.dead,[]⟩:=pJ 78 [] 1 1 (.c h0 (.c c (.c b .nil))) (.nil) a
theorem alc {nt:Nat} (a:35≤nt) (s:List UInt8) (o:List Nat) (e d k:Nat) (h0:lit false (decide ((k:Int)<(e:Int)))=true):ah prog ap [] nt (ae 2 (af f78)) ⟨[(0,.str s),(3,.nilS),(4,.int .i64 (e:Int)),(5,.int .i64 (d:Int)),(6,.int .i64 (k:Int))],[],.dead,[]⟩ (.exit 2) ⟨[(0,.str s),(3,.nilS),(4,.int .i64 (e:Int)),(5,.int .i64 (d:Int))],[],.dead,[]⟩:=pJ 78 [] 1 0 (.c h0 .nil) (.nil) a
theorem ak_ {nt:Nat} (a:35≤nt) (s:List UInt8) (o:List Nat) (e d k:Nat) (h0:(decide (((0:Nat):Int)≤(k:Int)))=true) (c:(decide ((k:Int)<(((List.length s):Nat):Int)))=true) (b:lit true (decide ((k:Int)<(e:Int)))=true):ah prog ap [] nt (ae 2 (af f78)) ⟨[(0,.str s),(3,.ref 0 0 0 o.length),(4,.int .i64 (e:Int)),(5,.int .i64 (d:Int)),(6,.int .i64 (k:Int))],[(0,⟨(aj o),0,false,0,1,true⟩)],.dead,[]⟩ (.normal) ⟨[(0,.str s),(3,.ref 0 0 0 o.length),(4,.int .i64 (e:Int)),(5,.int .i64 (IntKind.wrap .i64 ((IntKind.wrap .i64 ((d:Int)*((256:Nat):Int)))+(IntKind.wrap .i64 ((UInt8.toNat (List.getD s (Int.toNat (k:Int)) 0):Nat):Int))))),(6,.int .i64 (IntKind.wrap .i64 ((k:Int)+((1:Nat):Int))))],[(0,⟨(aj o),0,false,0,1,true⟩)],.dead,[]⟩:=pJ 78 [] 1 1 (.c h0 (.c c (.c b .nil))) (.nil) a
theorem ala {nt:Nat} (a:35≤nt) (s:List UInt8) (o:List Nat) (e d k:Nat) (h0:lit false (decide ((k:Int)<(e:Int)))=true):ah prog ap [] nt (ae 2 (af f78)) ⟨[(0,.str s),(3,.ref 0 0 0 o.length),(4,.int .i64 (e:Int)),(5,.int .i64 (d:Int)),(6,.int .i64 (k:Int))],[(0,⟨(aj o),0,false,0,1,true⟩)],.dead,[]⟩ (.exit 2) ⟨[(0,.str s),(3,.ref 0 0 0 o.length),(4,.int .i64 (e:Int)),(5,.int .i64 (d:Int))],[(0,⟨(aj o),0,false,0,1,true⟩)],.dead,[]⟩:=pJ 78 [] 1 0 (.c h0 .nil) (.nil) a
theorem ak6 {nt:Nat} (b:35≤nt) (s:List UInt8) (o:List Nat) (z:Int) (d:Nat) (h0:lit true (decide (((0:Nat):Int)<z))=true) (a:aI prog ap [] 35 (.block 2 (.loop (ae 2 (af f78)))) ⟨[(0,.str s),(2,.dead),(3,.nilS),(4,.int .i64 z),(5,.int .i64 0),(6,.int .i64 (if ((0:Nat):Int)>(IntKind.wrap .i64 (z - ((3:Nat):Int))) then ((0:Nat):Int) else (IntKind.wrap .i64 (z - ((3:Nat):Int))))),(12,.bool (decide (((0:Nat):Int)<z))),(20,.dead)],[],.dead,[]⟩ (.normal) ⟨[(0,.str s),(4,.int .i64 z),(5,.int .i64 (d:Int)),(3,.nilS)],[],.dead,[]⟩):ah prog ap [] nt (ae 0 (af f78)) ⟨[(0,.str s),(3,.nilS),(4,.int .i64 z)],[],.dead,[]⟩ (.normal) ⟨[(0,.str s),(3,.ref 0 0 0 1),(4,.int .i64 (IntKind.wrap .i64 (z - ((3:Nat):Int))))],[(0,⟨[.int .i64 (d:Int)],0,false,0,1,true⟩)],.dead,[]⟩:=pJ 78 [2] 2 1 (.k 3 h0 .nil) (.l a .nil) b
theorem ak7 {nt:Nat} (a:35≤nt) (s:List UInt8) (o:List Nat) (z:Int) (d:Nat) (h0:lit false (decide (((0:Nat):Int)<z))=true):ah prog ap [] nt (ae 0 (af f78)) ⟨[(0,.str s),(3,.nilS),(4,.int .i64 z)],[],.dead,[]⟩ (.exit 0) ⟨[(3,.nilS)],[],.dead,[]⟩:=pJ 78 [2] 1 0 (.c h0 .nil) (.nil) a
theorem acd (s:List UInt8) (o:List Nat) (a:CO 76 [.str s] (.ret (.str (ag (ai s))))) (b:aI prog ap [] 35 (.block 0 (.loop (ae 0 (af f78)))) ⟨[(0,.str (ag (ai s))),(2,.nilS),(3,.nilS),(4,.int .i64 (((List.length (ag (ai s))):Nat):Int)),(5,.dead),(6,.dead),(12,.dead),(20,.dead)],[],.dead,[]⟩ (.normal) ⟨[(3,.nilS)],[],.dead,[]⟩):CO 78 [.str s] (.ret (.nilS)):=pK [0] 0 0 .nil (.l b (.c a .nil))
theorem ak1 {nt:Nat} (b:35≤nt) (s:List UInt8) (o:List Nat) (z:Int) (d:Nat) (h0:(Nat.ble (o.length+1) 1099511627776)=true) (e:(Nat.ble (o.length*1) (List.length (aj o)))=true) (c:lit true (decide (((0:Nat):Int)<z))=true) (a:aI prog ap [] 35 (.block 2 (.loop (ae 2 (af f78)))) ⟨[(0,.str s),(2,.dead),(3,.ref 0 0 0 o.length),(4,.int .i64 z),(5,.int .i64 0),(6,.int .i64 (if ((0:Nat):Int)>(IntKind.wrap .i64 (z - ((3:Nat):Int))) then ((0:Nat):Int) else (IntKind.wrap .i64 (z - ((3:Nat):Int))))),(12,.bool (decide (((0:Nat):Int)<z))),(20,.dead)],[(0,⟨(aj o),0,false,0,1,true⟩)],.dead,[]⟩ (.normal) ⟨[(0,.str s),(4,.int .i64 z),(5,.int .i64 (d:Int)),(3,.ref 0 0 0 o.length)],[(0,⟨(aj o),0,false,0,1,true⟩)],.dead,[]⟩):ah prog ap [] nt (ae 0 (af f78)) ⟨[(0,.str s),(3,.ref 0 0 0 o.length),(4,.int .i64 z)],[(0,⟨(aj o),0,false,0,1,true⟩)],.dead,[]⟩ (.normal) ⟨[(0,.str s),(3,.ref 0 0 0 (o.length+1)),(4,.int .i64 (IntKind.wrap .i64 (z - ((3:Nat):Int))))],[(0,⟨((List.take (o.length*1) (aj o))++ [.int .i64 (d:Int)]),0,false,0,1,true⟩)],.dead,[]⟩:=pJ 78 [2] 1 1 (.k 1 h0 (.c e (.k 1 c .nil))) (.l a .nil) b
theorem ak2 {nt:Nat} (a:35≤nt) (s:List UInt8) (o:List Nat) (z:Int) (d:Nat) (h0:lit false (decide (((0:Nat):Int)<z))=true):ah prog ap [] nt (ae 0 (af f78)) ⟨[(0,.str s),(3,.ref 0 0 0 o.length),(4,.int .i64 z)],[(0,⟨(aj o),0,false,0,1,true⟩)],.dead,[]⟩ (.exit 0) ⟨[(3,.ref 0 0 0 o.length)],[(0,⟨(aj o),0,false,0,1,true⟩)],.dead,[]⟩:=pJ 78 [2] 1 0 (.c h0 .nil) (.nil) a
theorem acb (s:List UInt8) (o:List Nat) (a:CO 76 [.str s] (.ret (.str (ag (ai s))))) (b:aI prog ap [] 35 (.block 0 (.loop (ae 0 (af f78)))) ⟨[(0,.str (ag (ai s))),(2,.nilS),(3,.nilS),(4,.int .i64 (((List.length (ag (ai s))):Nat):Int)),(5,.dead),(6,.dead),(12,.dead),(20,.dead)],[],.dead,[]⟩ (.normal) ⟨[(3,.ref 0 0 0 o.length)],[(0,⟨(aj o),0,false,0,1,true⟩)],.dead,[]⟩):CO 78 [.str s] (.ret (.own (List.take (o.length*1) (aj o)) o.length 1)):=pK [0] 0 0 .nil (.l b (.c a .nil))
def Vk (s:List UInt8) (o:List Nat) (e j k:Nat):St:=⟨[(0,.str s),(3,MJ o),(4,.int .i64 (e:Int)),(5,.int .i64 ((ai ((s.take k).drop j):Nat):Int)),(6,.int .i64 (k:Int))],MK o,.dead,[]⟩
def Vj (s:List UInt8) (o:List Nat) (e d:Nat):St:=⟨[(0,.str s),(3,MJ o),(4,.int .i64 (e:Int)),(5,.int .i64 (d:Int))],MK o,.dead,[]⟩
theorem QZ {s:List UInt8} {j k:Nat} (h:k<s.length) (a:j≤k):ai ((s.take (k+1)).drop j)=ai ((s.take k).drop j)*256+(s.getD k 0).toNat:=by
 rw [List.take_add_one,List.getElem?_eq_getElem h,List.drop_append_of_le_length (by simp;omega),List.getD_eq_getElem?_getD,List.getElem?_eq_getElem h]
 exact mY _ _
theorem Py {s:List UInt8} {j k:Nat} (h:k≤j+3):ai ((s.take k).drop j)<16777216:=by
 have a:=nY ((s.take k).drop j)
 have b:((s.take k).drop j).length≤3:=by simp;omega
 exact Nat.lt_of_lt_of_le a (Nat.le_trans (Nat.pow_le_pow_right (by omega) (show 8*((s.take k).drop j).length≤24 by omega)) (by decide))
theorem YK {nt:Nat} (f:35≤nt) (s:List UInt8) (o:List Nat) (e j:Nat) (hs:s.length<2^40) (r:e≤s.length) (q:e≤j+3):∀ (n k:Nat),k+n=e→j≤k→aF prog ap [] nt (ae 2 (af f78)) (fun _=> .exit 2) (Vk s o e j) (Vj s o e) k (ai ((s.take e).drop j)):=by
 intro n
 induction n with
 | zero=>
  intro k p b
  have h:k=e:=by omega
  subst h
  refine .done ?_
  unfold Vk Vj
  rcases Decidable.em (o= []) with rfl|hne
  ·exact alc f s [] k _ k (by rw [aZ];simp [lit])
  ·rw [gY hne,gZ hne]
   exact ala f s o k _ k (by rw [aZ];simp [lit])
 | succ n ih=>
  intro k p b
  refine .next ?_ (ih (k+1) (by omega) (by omega))
  have g:k<s.length:=by omega
  have t:=Py (s:=s) (j:=j) (k:=k) (by omega)
  have u:(s.getD k 0).toNat<256:=UInt8.toNat_lt _
  have l:=QZ g b
  unfold Vk
  rw [l]
  generalize i:(s.getD k 0).toNat=c at*
  generalize ai ((s.take k).drop j)=d at*
  clear ih l
  have v:IntKind.wrap .i64 ((d:Int)*((256:Nat):Int))=((d*256:Nat):Int):=by rw [dC]<;>omega
  have m:(((d*256:Nat):Int))+(c:Int)=((d*256+c:Nat):Int):=by omega
  rcases Decidable.em (o= []) with rfl|hne
  ·have a:=alb f s [] e d k
   simp (disch:=first|omega|(simp [ak,ay]<;>omega)) only [dF,bu,aZ,bG,xJ,bz,aA,i,m,dB] at a
   apply a<;>first|exact True.intro|omega|assumption|exact rfl
  ·have a:=ak_ f s o e d k
   rw [gY hne,gZ hne]
   simp (disch:=first|omega|(simp [ak,ay]<;>omega)) only [dF,bu,aZ,bG,xJ,bz,aA,i,m,dB] at a
   apply a<;>first|exact True.intro|omega|assumption|exact rfl
def QY (s:List UInt8) (p:Int × List Nat):St:=⟨[(0,.str s),(3,MJ p.2),(4,.int .i64 p.1)],MK p.2,.dead,[]⟩
def Px (o:List Nat):St:=⟨[(3,MJ o)],MK o,.dead,[]⟩
theorem YJ {nt:Nat} (c:35≤nt) (s:List UInt8) (o:List Nat) (e:Nat) (hs:s.length<2^38) (h:e≤s.length) (h0:0<e) (j:o.length<2^39):
  ah prog ap [] nt (ae 0 (af f78)) (QY s ((e:Int),o)) .normal (QY s ((e:Int) - 3,o++ [ai ((s.take e).drop (e - 3))])):=by
 have hloop:=fun nt (c:35≤nt)=>YK c s o e (e - 3) (by omega) h (by omega) (e - (e - 3)) (e - 3) (by omega) (Nat.le_refl _)
 have g:IntKind.wrap .i64 ((e:Int) - ((3:Nat):Int))=(e:Int) - 3:=dC (by omega) (by omega)
 have f:(if ((0:Nat):Int)>(e:Int) - 3 then ((0:Nat):Int) else (e:Int) - 3)=((e - 3:Nat):Int):=by
  split<;>omega
 have b:ai ((s.take (e - 3)).drop (e - 3))=0:=by
  rw [List.drop_of_length_le (by simp;omega)];rfl
 have i:(List.drop (e - 3) (List.take e s)).length≤3:=by simp;omega
 unfold QY
 generalize ai ((s.take e).drop (e - 3))=d at*
 rcases Decidable.em (o= []) with rfl|hne
 ·have a:=ak6 c s [] (e:Int) d
  rw [g,f] at a
  simp (disch:=first|omega|(simp [ak,ay]<;>omega)) only [aZ,bG,bu] at a
  simp only [List.nil_append,MJ,MK,aj,List.map_cons,List.map_nil,List.length_cons,List.length_nil] at a ⊢
  apply a
  ·omega
  ·refine aF.blk hloop (by simp) rfl ?_ (aK.of ⟨rfl,rfl,rfl,rfl,trivial⟩)
   unfold Vk
   rw [b]
   exact aK.of ⟨rfl,rfl,rfl,rfl,rfl,trivial⟩
 ·have a:=ak1 c s o (e:Int) d
  rw [g,f] at a
  rw [gY hne,gZ hne,gY (iP _ _),gZ (iP _ _)]
  simp (disch:=first|omega|(simp [ak,ay]<;>omega)) only [fP,bu,Nat.mul_one,dW,aZ,bG,dQ,List.take_length,jw] at a
  simp only [List.length_append,List.length_singleton]
  apply a<;>first|exact True.intro|omega|assumption|exact rfl|skip
  ·refine aF.blk hloop (by simp) rfl ?_ ?_
   ·unfold Vk
    rw [b,gY hne,gZ hne]
    exact aK.of ⟨rfl,rfl,rfl,rfl,rfl,trivial⟩
   ·unfold Vj
    rw [gY hne,gZ hne]
    exact aK.of ⟨rfl,rfl,rfl,rfl,trivial⟩
theorem Vd {nt:Nat} (b:35≤nt) (s:List UInt8) (o:List Nat) (z:Int) (c:z≤0):ah prog ap [] nt (ae 0 (af f78)) (QY s (z,o)) (.exit 0) (Px o):=by
 unfold QY Px
 have a:lit false (decide (((0:Nat):Int)<z))=true:=by simp [lit];exact c
 rcases Decidable.em (o= []) with rfl|hne
 ·exact ak7 b s [] z 0 a
 ·rw [gY hne,gZ hne]
  exact ak2 b s o z 0 a
theorem aeG {s:List UInt8} {e:Nat} (g:e≤s.length):ai (s.take e)=16777216*ai (s.take (e - 3))+ai ((s.take e).drop (e - 3)):=by
 have c:∀ (b a:List UInt8),ai (a++b)=ai a*256^b.length+ai b:=by
  intro b a
  unfold ai
  rw [List.foldl_append,Gx];rfl
 have hs:s.take e=s.take (e - 3)++(s.take e).drop (e - 3):=by
  have f:=List.take_append_drop (e - 3) (s.take e)
  rw [List.take_take,Nat.min_eq_left (by omega)] at f
  exact f.symm
 have d:=c ((s.take e).drop (e - 3)) (s.take (e - 3))
 rw [← hs] at d
 rw [d]
 rcases Nat.lt_or_ge e 3 with h3|h3
 ·have:e - 3=0:=by omega
  rw [this];simp [ai]
 ·have:((s.take e).drop (e - 3)).length=3:=by simp;omega
  rw [this,Nat.mul_comm,show 256^3=16777216 from rfl]
theorem Ve {nt:Nat} (b:35≤nt) (s:List UInt8) (hs:s.length<2^38) (l:nR s=true):∀ (n e:Nat) (o:List Nat),e<n→e≤s.length→o.length+e<2^39→aF prog ap [] nt (ae 0 (af f78)) (fun _=> .exit 0) (QY s) Px ((e:Int),o) (o++az (ai (s.take e))):=by
 intro n
 induction n with
 |zero=>intro e o h;omega
 | succ n ih=>
  intro e o h d u
  rcases Nat.eq_zero_or_pos e with rfl|h0
  ·have:ai (s.take 0)=0:=rfl
   rw [this,gG,List.append_nil]
   exact .done (Vd b s o _ (by omega))
  ·have m:0<ai (s.take e):=by
    cases s with
    |nil=>simp at d;omega
    | cons c r=>
     have p:c ≠ 0:=by simpa [nR] using l
     have a:0<c.toNat:=by
      rcases Nat.eq_zero_or_pos c.toNat with h|h
      ·exact absurd (by apply UInt8.toNat_inj.1;simpa using h) p
      ·exact h
     obtain ⟨f,rfl⟩:∃ f,e=f+1:=⟨e - 1,by omega⟩
     rw [List.take_succ_cons,ji]
     have:=Nat.mul_pos a (show 0<256^(r.take f).length from Nat.pow_pos (by omega))
     omega
   have g:=aeG d
   have t:=Py (s:=s) (j:=e - 3) (k:=e) (by omega)
   have hstep:=YJ b s o e hs d h0 (by omega)
   rw [nC m,show ai (s.take e) % 16777216=ai ((s.take e).drop (e - 3)) by omega,show ai (s.take e) / 16777216=ai (s.take (e - 3)) by omega]
   rcases Nat.lt_or_ge e 3 with h3|h3
   ·have q:e - 3=0:=by omega
    have i:ai (s.take (e - 3))=0:=by rw [q];rfl
    rw [i,gG]
    exact .next hstep (.done (Vd b s _ _ (by omega)))
   ·have hnext:=ih (e - 3) (o++ [ai ((s.take e).drop (e - 3))]) (by omega) (by omega) (by simp;omega)
    rw [List.append_assoc] at hnext
    rw [show ((e:Int) - 3)=((e - 3:Nat):Int) by omega] at hstep
    exact .next hstep hnext
theorem aay (s:List UInt8) (hs:s.length<2^37):CO 78 [.str s] (.ret (.sl (aj (az (ai s))) (az (ai s)).length false)):=by
 have c:=iw s (by omega)
 have b:(ag (ai s)).length≤s.length:=lG (Nat.le_refl _)
 have a:=bD (ai s)
 have hloop:=fun nt (hn:35≤nt)=>Ve hn (ag (ai s)) (by omega) (Bz _) ((ag (ai s)).length+1) (ag (ai s)).length [] (by omega) (Nat.le_refl _) (by simp;omega)
 rw [List.take_length,a,List.nil_append] at hloop
 generalize d:az (ai s)=o at*
 rcases Decidable.em (o= []) with rfl|hne
 ·have h:=acd s [] c (aF.blk hloop (by simp) rfl (aK.of ⟨rfl,rfl,rfl,trivial⟩) (aK.of ⟨rfl,trivial⟩))
  exact h.out (kz.ret rfl rfl (aT.nilS false rfl))
 ·have h:=(acb s o c (aF.blk hloop (by simp) rfl (aK.of ⟨rfl,rfl,rfl,trivial⟩) (by unfold Px;rw [gY hne,gZ hne];exact aK.of ⟨rfl,trivial⟩))).thaw (by simp)
  simp only [wG,thaw,Nat.mul_one,dQ,List.take_length] at h
  exact h.out (kz.sl1 _ _ _)
theorem aus (s t:List UInt8) (x y q r:Nat) (h0:(!((y:Int)==((0:Nat):Int)))=true) (d:lit false ((((List.length (ag (ai t))):Nat):Int)==((0:Nat):Int))=true) (a:CO 76 [.str t] (.ret (.str (ag (ai t))))) (b:CO 77 [.str s,.int .i64 7] (.ret (.tup [.int .i64 (x:Int),.bool true]))) (c:CO 77 [.str (ag (ai t)),.int .i64 7] (.ret (.tup [.int .i64 (y:Int),.bool true]))) (f:CO 49 [.int .i64 (IntKind.wrap .i64 (Int.tdiv (x:Int) (y:Int)))] (.ret (.str (ag q)))) (e:CO 49 [.int .i64 (Int.tmod (x:Int) (y:Int))] (.ret (.str (ag r)))):CO 81 [.str s,.str t] (.ret (.tup [.str (ag q),.str (ag r),.bool true])):=pK [0] 3 6 (.c h0 (.c h0 (.k 2 d .nil))) (.c e (.c f (.c c (.c b (.c a .nil)))))
theorem auq (s t:List UInt8) (x y q r m:Nat) (Q:List Nat) (a:Int) (b:Bool) (h0:(decide (((0:Nat):Int)≤(((az (ai s)).length:Nat):Int)))=true) (g:(decide ((((az (ai s)).length:Nat):Int)=(((az (ai s)).length:Nat):Int)))=true) (k:(decide ((((az (ai s)).length:Nat):Int)≤((1099511627776:Nat):Int)))=true) (h:lit false ((((List.length (ag (ai t))):Nat):Int)==((0:Nat):Int))=true) (c:CO 76 [.str t] (.ret (.str (ag (ai t))))) (l:CO 77 [.str s,.int .i64 7] (.ret (.tup [.int .i64 0,.bool false]))) (f:CO 77 [.str (ag (ai t)),.int .i64 7] (.ret (.tup [.int .i64 a,.bool b]))) (i:CO 78 [.str s] (.ret (.sl (aj (az (ai s))) (az (ai s)).length false))) (n:CO 78 [.str (ag (ai t))] (.ret (.sl (aj (az (ai (ag (ai t))))) (az (ai (ag (ai t)))).length false))) (e:aI prog ap [] 87 (.block 0 (.loop (ae 0 (af f81)))) ⟨[(0,.str s),(1,.str (ag (ai t))),(4,.str []),(5,.str []),(6,.bool false),(7,.int .i64 0),(8,.bool false),(9,.int .i64 a),(10,.bool b),(11,.sl (aj (az (ai s))) (az (ai s)).length false),(12,.sl (aj (az (ai (ag (ai t))))) (az (ai (ag (ai t)))).length false),(13,.ref 0 0 0 (Int.toNat (((az (ai s)).length:Nat):Int))),(14,.nilS),(15,.int .i64 (IntKind.wrap .i64 ((((az (ai s)).length:Nat):Int) - ((1:Nat):Int)))),(20,.bool ((((List.length (ag (ai t))):Nat):Int)==((0:Nat):Int))),(34,.bool false),(54,.dead),(68,.dead)],[(0,⟨(iV (Int.toNat (((az (ai s)).length:Nat):Int)) [.int .i64 0]),0,false,0,1,true⟩)],.dead,[]⟩ (.normal) ⟨[(13,.ref 0 0 0 m),(14,.sl (aj (az r)) (az r).length false)],[(0,⟨(aj Q),0,false,0,1,true⟩)],.dead,[]⟩) (d:CO 79 [.sl (List.take (m*1) (aj Q)) m true] (.ret (.str (ag q)))) (j:CO 79 [.sl (aj (az r)) (az r).length false] (.ret (.str (ag r)))):CO 81 [.str s,.str t] (.ret (.tup [.str (ag q),.str (ag r),.bool true])):=pK [0] 3 0 (.c h0 (.c g (.c k (.k 2 h .nil)))) (.c j (.c d (.l e (.c n (.c i (.c f (.c l (.c c .nil))))))))
theorem aur (s t:List UInt8) (x y q r m:Nat) (Q:List Nat) (l:Int) (n:Bool) (h0:(decide (((0:Nat):Int)≤(((az (ai s)).length:Nat):Int)))=true) (e:(decide ((((az (ai s)).length:Nat):Int)=(((az (ai s)).length:Nat):Int)))=true) (i:(decide ((((az (ai s)).length:Nat):Int)≤((1099511627776:Nat):Int)))=true) (f:lit false ((((List.length (ag (ai t))):Nat):Int)==((0:Nat):Int))=true) (a:CO 76 [.str t] (.ret (.str (ag (ai t))))) (j:CO 77 [.str s,.int .i64 7] (.ret (.tup [.int .i64 (x:Int),.bool true]))) (d:CO 77 [.str (ag (ai t)),.int .i64 7] (.ret (.tup [.int .i64 0,.bool false]))) (g:CO 78 [.str s] (.ret (.sl (aj (az (ai s))) (az (ai s)).length false))) (k:CO 78 [.str (ag (ai t))] (.ret (.sl (aj (az (ai (ag (ai t))))) (az (ai (ag (ai t)))).length false))) (c:aI prog ap [] 87 (.block 0 (.loop (ae 0 (af f81)))) ⟨[(0,.str s),(1,.str (ag (ai t))),(4,.str []),(5,.str []),(6,.bool false),(7,.int .i64 (x:Int)),(8,.bool true),(9,.int .i64 0),(10,.bool false),(11,.sl (aj (az (ai s))) (az (ai s)).length false),(12,.sl (aj (az (ai (ag (ai t))))) (az (ai (ag (ai t)))).length false),(13,.ref 0 0 0 (Int.toNat (((az (ai s)).length:Nat):Int))),(14,.nilS),(15,.int .i64 (IntKind.wrap .i64 ((((az (ai s)).length:Nat):Int) - ((1:Nat):Int)))),(20,.bool ((((List.length (ag (ai t))):Nat):Int)==((0:Nat):Int))),(34,.bool false),(54,.dead),(68,.dead)],[(0,⟨(iV (Int.toNat (((az (ai s)).length:Nat):Int)) [.int .i64 0]),0,false,0,1,true⟩)],.dead,[]⟩ (.normal) ⟨[(13,.ref 0 0 0 m),(14,.sl (aj (az r)) (az r).length false)],[(0,⟨(aj Q),0,false,0,1,true⟩)],.dead,[]⟩) (b:CO 79 [.sl (List.take (m*1) (aj Q)) m true] (.ret (.str (ag q)))) (h:CO 79 [.sl (aj (az r)) (az r).length false] (.ret (.str (ag r)))):CO 81 [.str s,.str t] (.ret (.tup [.str (ag q),.str (ag r),.bool true])):=pK [0] 3 2 (.c h0 (.c e (.c i (.k 2 f .nil)))) (.c h (.c b (.l c (.c k (.c g (.c d (.c j (.c a .nil))))))))
theorem aut {nt:Nat} (e:87≤nt) (x y r w q p a m k:Nat) (c:Int) (Q:List Nat) (h0:(gW (.int .i64) (List.headD (List.drop ((0+(Int.toNat (k:Int)))*1) (List.take ((0+(Int.toNat (k:Int)))*1) (aj Q)++ [.int .i64 (q:Int)]++List.drop (((0+(Int.toNat (k:Int)))*1)+1) (aj Q))) .dead))=true) (b:(decide (((0:Nat):Int)≤(k:Int)))=true) (d:(decide ((k:Int)<(m:Int)))=true) (j:(Nat.ble (((0+(Int.toNat (k:Int)))*1)+1) (List.length (aj Q)))=true) (h:lit true (decide (((0:Nat):Int)≤c))=true) (g:(Nat.beq (List.length (aj (az r))) ((az r).length*1))=true) (l:(Nat.ble (1+(az r).length) 1099511627776)=true) (v:(gW (.int .i64) (List.headD (List.drop ((Int.toNat (k:Int))*1) (aj (az x))) .dead))=true) (o:(decide ((k:Int)<(((az x).length:Nat):Int)))=true) (s:lit true (decide (((0:Nat):Int)≤(k:Int)))=true) (f:CO 108 [.sl (List.take ((1+(az r).length)*1) ([.int .i64 (AV.toInt (List.headD (List.drop ((Int.toNat (k:Int))*1) (aj (az x))) .dead))]++(aj (az r)))) (1+(az r).length) true] (.ret (.sl (aj (az w)) (az w).length false))) (t:CO 109 [.sl (aj (az w)) (az w).length false,.sl (aj (az y)) (az y).length false] (.ret (.int .i64 c))) (i:CO 110 [.sl (aj (az w)) (az w).length false,.sl (aj (az y)) (az y).length false] (.ret (.int .i64 (q:Int)))) (n:CO 112 [.sl (aj (az y)) (az y).length false,.int .i64 (AV.toInt (List.headD (List.drop ((0+(Int.toNat (k:Int)))*1) (List.take ((0+(Int.toNat (k:Int)))*1) (aj Q)++ [.int .i64 (q:Int)]++List.drop (((0+(Int.toNat (k:Int)))*1)+1) (aj Q))) .dead))] (.ret (.sl (aj (az p)) (az p).length true))) (u:CO 111 [.sl (aj (az w)) (az w).length false,.sl (aj (az p)) (az p).length true] (.ret (.sl (aj (az a)) (az a).length false))):ah prog ap [] nt (ae 0 (af f81)) ⟨[(11,.sl (aj (az x)) (az x).length false),(12,.sl (aj (az y)) (az y).length false),(13,.ref 0 0 0 m),(14,.sl (aj (az r)) (az r).length false),(15,.int .i64 (k:Int))],[(0,⟨(aj Q),0,false,0,1,true⟩)],.dead,[]⟩ (.normal) ⟨[(11,.sl (aj (az x)) (az x).length false),(12,.sl (aj (az y)) (az y).length false),(13,.ref 0 0 0 m),(14,.sl (aj (az a)) (az a).length false),(15,.int .i64 (IntKind.wrap .i64 ((k:Int) - ((1:Nat):Int))))],[(0,⟨(List.take ((0+(Int.toNat (k:Int)))*1) (aj Q)++ [.int .i64 (q:Int)]++List.drop (((0+(Int.toNat (k:Int)))*1)+1) (aj Q)),0,false,0,1,true⟩)],.dead,[]⟩:=pJ 81 [] 2 3 (.c h0 (.c b (.c d (.c j (.c b (.c d (.c h (.c g (.c l (.k 2 v (.c b (.c o (.c s .nil))))))))))))) (.c u (.c n (.c i (.c t (.c f .nil))))) e
theorem auu {nt:Nat} (a:87≤nt) (x y r w q p l m k:Nat) (c:Int) (Q:List Nat) (h0:lit false (decide (((0:Nat):Int)≤c))=true) (f:(Nat.beq (List.length (aj (az r))) ((az r).length*1))=true) (i:(Nat.ble (1+(az r).length) 1099511627776)=true) (g:(gW (.int .i64) (List.headD (List.drop ((Int.toNat (k:Int))*1) (aj (az x))) .dead))=true) (e:(decide (((0:Nat):Int)≤(k:Int)))=true) (d:(decide ((k:Int)<(((az x).length:Nat):Int)))=true) (h:lit true (decide (((0:Nat):Int)≤(k:Int)))=true) (b:CO 108 [.sl (List.take ((1+(az r).length)*1) ([.int .i64 (AV.toInt (List.headD (List.drop ((Int.toNat (k:Int))*1) (aj (az x))) .dead))]++(aj (az r)))) (1+(az r).length) true] (.ret (.sl (aj (az w)) (az w).length false))) (j:CO 109 [.sl (aj (az w)) (az w).length false,.sl (aj (az y)) (az y).length false] (.ret (.int .i64 c))):ah prog ap [] nt (ae 0 (af f81)) ⟨[(11,.sl (aj (az x)) (az x).length false),(12,.sl (aj (az y)) (az y).length false),(13,.ref 0 0 0 m),(14,.sl (aj (az r)) (az r).length false),(15,.int .i64 (k:Int))],[(0,⟨(aj Q),0,false,0,1,true⟩)],.dead,[]⟩ (.normal) ⟨[(11,.sl (aj (az x)) (az x).length false),(12,.sl (aj (az y)) (az y).length false),(13,.ref 0 0 0 m),(14,.sl (aj (az w)) (az w).length false),(15,.int .i64 (IntKind.wrap .i64 ((k:Int) - ((1:Nat):Int))))],[(0,⟨(aj Q),0,false,0,1,true⟩)],.dead,[]⟩:=pJ 81 [] 2 1 (.c h0 (.c f (.c i (.k 2 g (.c e (.c d (.c h .nil))))))) (.c j (.c b .nil)) a
theorem alH {nt:Nat} (a:87≤nt) (x y r w q p b m k:Nat) (c:Int) (Q:List Nat):ah prog ap [] nt (ae 0 (af f81)) ⟨[(11,.sl (aj (az x)) (az x).length false),(12,.sl (aj (az y)) (az y).length false),(13,.ref 0 0 0 m),(14,.sl (aj (az r)) (az r).length false),(15,.int .i64 (-1))],[(0,⟨(aj Q),0,false,0,1,true⟩)],.dead,[]⟩ (.exit 0) ⟨[(13,.ref 0 0 0 m),(14,.sl (aj (az r)) (az r).length false)],[(0,⟨(aj Q),0,false,0,1,true⟩)],.dead,[]⟩:=pJ 81 [] 1 0 (.n 1 .nil) (.nil) a
def zA (x y m k:Nat):List Nat:=(List.range m).map fun i=>if i<k then 0 else x / 16777216^i / y % 16777216
theorem xe (x y m k:Nat):(zA x y m k).length=m:=by simp [zA]
theorem YQ {x y m k:Nat} (a:k<m):(zA x y m (k+1)).set k (x / 16777216^k / y % 16777216)=zA x y m k:=by
 apply List.ext_getElem?
 intro i
 rw [List.getElem?_set,xe]
 unfold zA
 by_cases hi:k=i
 ·subst hi;simp [a]
 ·rw [if_neg hi]
  by_cases him:i<m
  ·simp only [List.getElem?_map,List.getElem?_range him,Option.map_some]
   by_cases h1:i<k
   ·rw [if_pos (by omega),if_pos h1]
   ·rw [if_neg (by omega),if_neg h1]
  ·rw [List.getElem?_eq_none (by simp;omega),List.getElem?_eq_none (by simp;omega)]
theorem G6 (x y m:Nat):zA x y m m=List.replicate m 0:=by
 unfold zA
 apply List.ext_getElem?
 intro i
 by_cases him:i<m
 ·simp [him]
 ·rw [List.getElem?_eq_none (by simp;omega),List.getElem?_eq_none (by simp;omega)]
theorem YP (x y m k:Nat):dJ (zA x y m k):=by
 intro d a
 obtain ⟨i,_,rfl⟩:=List.mem_map.1 a
 show (if i<k then 0 else _)<_
 split<;>omega
theorem WC (z:Nat):∀ m,fQ ((List.range m).map fun i=>z / 16777216^i % 16777216)=z % 16777216^m:=by
 intro m
 induction m with
 |zero=>simp [fQ,Nat.mod_one]
 |succ m ih=>
  rw [List.range_succ,List.map_append,ER,ih,List.length_map,List.length_range,Nat.pow_succ,Nat.mod_mul]
  simp only [List.map_cons,List.map_nil,fQ,Nat.mul_zero,Nat.add_zero]
theorem YR {x y m:Nat} (h:x / y<16777216^m):fQ (zA x y m 0)=x / y:=by
 have e:zA x y m 0=(List.range m).map fun i=>x / y / 16777216^i % 16777216:=by
  unfold zA
  apply List.map_congr_left
  intro i _
  rw [if_neg (by omega),Nat.div_div_eq_div_mul,Nat.div_div_eq_div_mul,Nat.mul_comm]
 rw [e,WC,Nat.mod_eq_of_lt h]
theorem TW:∀ (k x:Nat),(az x).getD k 0=x / 16777216^k % 16777216:=by
 intro k
 induction k with
 |zero=>
  intro x
  rcases Nat.eq_zero_or_pos x with rfl|h
  ·rw [gG];rfl
  ·rw [nC h];simp
 |succ k ih=>
  intro x
  rcases Nat.eq_zero_or_pos x with rfl|h
  ·rw [gG];simp
  ·rw [nC h,List.getD_cons_succ,ih,Nat.div_div_eq_div_mul,Nat.pow_succ,Nat.mul_comm]
theorem O1 {V R' Q' x H:Nat} (a:0<V) (h:H=V*Q'+R'):(x+16777216*H) / V=16777216*Q'+(x+16777216*R') / V∧(x+16777216*H) % V=(x+16777216*R') % V:=by
 subst h
 have e:x+16777216*(V*Q'+R')=x+16777216*R'+V*(16777216*Q'):=by
  rw [Nat.mul_add,Nat.mul_left_comm];omega
 rw [e]
 constructor
 ·rw [Nat.add_mul_div_left _ _ a,Nat.add_comm]
 ·rw [Nat.add_mul_mod_self_left]
def Q4 (x y m k:Nat):St:=⟨[(11,.sl (aj (az x)) (az x).length false),(12,.sl (aj (az y)) (az y).length false),(13,.ref 0 0 0 m),(14,.sl (aj (az (x / 16777216^k % y))) (az (x / 16777216^k % y)).length false),(15,.int .i64 ((k:Int) - 1))],[(0,⟨aj (zA x y m k),0,false,0,1,true⟩)],.dead,[]⟩
theorem auw {nt:Nat} (i:87≤nt) (x y r w q p b m k d:Nat) (c:Int) (Q Q2:List Nat) (A:k<(az x).length) (s:(az x).getD k 0=d) (h:Q.length=m) (t:k<m) (B:m<2^40) (o:(az r).length<2^39) (a:Q.set k q=Q2) (u:0≤c)
  (c0:CO 108 [.sl (aj (d::az r)) (1+(az r).length) true] (.ret (.sl (aj (az w)) (az w).length false)))
  (c1:CO 109 [.sl (aj (az w)) (az w).length false,.sl (aj (az y)) (az y).length false] (.ret (.int .i64 c)))
  (c2:CO 110 [.sl (aj (az w)) (az w).length false,.sl (aj (az y)) (az y).length false] (.ret (.int .i64 (q:Int))))
  (c3:CO 112 [.sl (aj (az y)) (az y).length false,.int .i64 (q:Int)] (.ret (.sl (aj (az p)) (az p).length true)))
  (c4:CO 111 [.sl (aj (az w)) (az w).length false,.sl (aj (az p)) (az p).length true] (.ret (.sl (aj (az b)) (az b).length false))):
  ah prog ap [] nt (ae 0 (af f81)) ⟨[(11,.sl (aj (az x)) (az x).length false),(12,.sl (aj (az y)) (az y).length false),(13,.ref 0 0 0 m),(14,.sl (aj (az r)) (az r).length false),(15,.int .i64 (k:Int))],[(0,⟨aj Q,0,false,0,1,true⟩)],.dead,[]⟩ .normal
   ⟨[(11,.sl (aj (az x)) (az x).length false),(12,.sl (aj (az y)) (az y).length false),(13,.ref 0 0 0 m),(14,.sl (aj (az b)) (az b).length false),(15,.int .i64 ((k:Int) - 1))],[(0,⟨aj Q2,0,false,0,1,true⟩)],.dead,[]⟩:=by
 have g:=aut i x y r w q p b m k c Q
 have v:IntKind.wrap .i64 ((k:Int) - ((1:Nat):Int))=(k:Int) - 1:=dC (by omega) (by omega)
 have hset':=XU (l:=Q) (j:=k) (by omega) q
 rw [a] at hset'
 have e:Q2.getD k 0=q:=by rw [← a,List.getD_eq_getElem?_getD,List.getElem?_set_self (by omega)];rfl
 have z:Q2.length=m:=by rw [← a];simp [h]
 have f:List.take (1+(az r).length) (aj (d::az r))=aj (d::az r):=by rw [dQ,List.take_of_length_le (by simp;omega)]
 have n:(((0:Nat):Int)≤c)=True:=by simp [u]
 simp (disch:=first|omega|(simp [ak,ay]<;>omega)) only [aA,Nat.zero_add,Nat.mul_one,hset',gq,e,eQ,dF,bu,aZ,dW,fP,n,decide_true,bG,IW,s,a_,Kv,f,v] at g
 apply g<;>first|exact True.intro|omega|assumption|exact rfl
theorem auv {nt:Nat} (e:87≤nt) (x y r w m k d:Nat) (c:Int) (Q:List Nat) (o:k<(az x).length) (g:(az x).getD k 0=d) (n:Q.length=m) (h:k<m) (p:m<2^40) (j:(az r).length<2^39) (i:c<0)
  (c0:CO 108 [.sl (aj (d::az r)) (1+(az r).length) true] (.ret (.sl (aj (az w)) (az w).length false)))
  (c1:CO 109 [.sl (aj (az w)) (az w).length false,.sl (aj (az y)) (az y).length false] (.ret (.int .i64 c))):
  ah prog ap [] nt (ae 0 (af f81)) ⟨[(11,.sl (aj (az x)) (az x).length false),(12,.sl (aj (az y)) (az y).length false),(13,.ref 0 0 0 m),(14,.sl (aj (az r)) (az r).length false),(15,.int .i64 (k:Int))],[(0,⟨aj Q,0,false,0,1,true⟩)],.dead,[]⟩ .normal
   ⟨[(11,.sl (aj (az x)) (az x).length false),(12,.sl (aj (az y)) (az y).length false),(13,.ref 0 0 0 m),(14,.sl (aj (az w)) (az w).length false),(15,.int .i64 ((k:Int) - 1))],[(0,⟨aj Q,0,false,0,1,true⟩)],.dead,[]⟩:=by
 have b:=auu e x y r w 0 0 0 m k c Q
 have l:IntKind.wrap .i64 ((k:Int) - ((1:Nat):Int))=(k:Int) - 1:=dC (by omega) (by omega)
 have a:List.take (1+(az r).length) (aj (d::az r))=aj (d::az r):=by rw [dQ,List.take_of_length_le (by simp;omega)]
 have f:(((0:Nat):Int)≤c)=False:=by simp [i]
 simp (disch:=first|omega|(simp [ak,ay]<;>omega)) only [f,decide_false,dO,Bool.not_false,dW,Nat.mul_one,IW,decide_true,fP,bu,aA,gq,g,eQ,dF,aZ,bG,a_,Kv,a,l] at b
 apply b<;>first|exact True.intro|omega|assumption|exact rfl
theorem YN (x y m k:Nat) (c:0<y) (j:k<m):∃ d r w:Nat,(az x).getD k 0=d∧x / 16777216^(k+1) % y=r∧d+16777216*r=w∧d<16777216∧r<y∧x / 16777216^k % y=w % y∧(zA x y m (k+1)).set k (w / y)=zA x y m k∧(zA x y m (k+1)).getD k 0=0:=by
 have i:=Nat.mod_lt (x / 16777216^k) (show 0<16777216 by omega)
 have f:=Nat.mod_lt (x / 16777216^(k+1)) c
 refine ⟨x / 16777216^k % 16777216,x / 16777216^(k+1) % y,_,TW k x,rfl,rfl,i,f, ?_, ?_, ?_⟩
 ·have b:=Nat.div_add_mod (x / 16777216^(k+1)) y
  obtain ⟨_,l⟩:=O1 (x:=x / 16777216^k % 16777216) c b.symm
  have e:x / 16777216^k % 16777216+16777216*(x / 16777216^(k+1))=x / 16777216^k:=by
   rw [Nat.pow_succ,← Nat.div_div_eq_div_mul];omega
  rw [e] at l
  exact l
 ·have b:=Nat.div_add_mod (x / 16777216^(k+1)) y
  obtain ⟨v1,_⟩:=O1 (x:=x / 16777216^k % 16777216) c b.symm
  have e:x / 16777216^k % 16777216+16777216*(x / 16777216^(k+1))=x / 16777216^k:=by
   rw [Nat.pow_succ,← Nat.div_div_eq_div_mul];omega
  rw [e] at v1
  have a:=YQ (x:=x) (y:=y) j
  rw [v1] at a
  have h:x / 16777216^k % 16777216+16777216*(x / 16777216^(k+1) % y)<y*16777216:=by omega
  have g:(x / 16777216^k % 16777216+16777216*(x / 16777216^(k+1) % y)) / y<16777216:=by rw [Nat.div_lt_iff_lt_mul c,Nat.mul_comm 16777216 y];exact h
  rw [Nat.mul_add_mod,Nat.mod_eq_of_lt g] at a
  exact a
 ·unfold zA;rw [List.getD_eq_getElem?_getD];simp [j]
theorem Qs {w y:Nat} (h:w<y*16777216):(az w).length≤(az y).length+1:=by
 apply A8
 have a:=uT y
 rw [Nat.pow_succ]
 exact Nat.lt_trans h (Nat.mul_lt_mul_of_pos_right a (by omega))
theorem YO {nt:Nat} (E:87≤nt) (x y m k:Nat) (s:0<y) (M:(az x).length=m) (C:k<m) (H:m<2^35) (L:(az y).length<2^34):ah prog ap [] nt (ae 0 (af f81)) (Q4 x y m (k+1)) .normal (Q4 x y m k):=by
 obtain ⟨d,r,w,F,K,J,u,v,q,a,g⟩:=YN x y m k s C
 have l:=xe x y m (k+1)
 unfold Q4
 rw [show (((k+1:Nat):Int) - 1)=(k:Int) by omega,K,q]
 have f:w<y*16777216:=by omega
 have G:=qj (Nat.le_of_lt v)
 have b:=yF (d::az r) true (by simp;omega)
 rw [P5 (dJ.cons u (dJ.dig r))] at b
 simp only [fQ,jL,J,List.length_cons] at b
 rw [Nat.add_comm (az r).length 1] at b
 have c:=b.out (kz.sl1 _ _ _)
 have z:w / y<16777216:=by rw [Nat.div_lt_iff_lt_mul s,Nat.mul_comm];exact f
 have I:=Qs f
 have p:=PG (az w) (az y) false false (dJ.dig _) (dJ.dig _) (by omega) (by omega)
 have j:=Gm w y
 generalize zA x y m k=Q2 at*
 generalize zA x y m (k+1)=Q1 at*
 by_cases hc:0≤J3 (az w) (az y)
 ·have e:=j.1.1 hc
  have o:=TZ w y false false s f (by omega) (by omega)
  have t:=LH y (w / y) false z (by omega)
  have D:y*(w / y)≤w:=Nat.mul_div_le w y
  have n:=UX w (y*(w / y)) false true D (by omega)
  have B:w - y*(w / y)=w % y:=by have:=Nat.div_add_mod w y;omega
  rw [B] at n
  exact auw E x y r w (w / y) (y*(w / y)) (w % y) m k d _ Q1 Q2 (by omega) F l C (by omega) (by omega) a hc c p o t n
 ·have e:w<y:=Nat.lt_of_not_le (fun h=>hc (j.1.2 h))
  have A:w / y=0:=Nat.div_eq_of_lt e
  rw [Nat.mod_eq_of_lt e]
  rw [A] at a
  have hsame:Q1.set k 0=Q1:=by
   apply List.ext_getElem?
   intro i
   rw [List.getElem?_set]
   by_cases hi:k=i
   ·subst hi
    rw [List.getD_eq_getElem?_getD,List.getElem?_eq_getElem (by omega)] at g
    rw [if_pos rfl,if_pos (by omega),List.getElem?_eq_getElem (by omega)]
    simpa using g.symm
   ·rw [if_neg hi]
  rw [hsame] at a
  subst a
  exact auv E x y r w m k d _ Q1 (by omega) F l C (by omega) (by omega) (by omega) c p
def PE (x y m k:Nat):St:=⟨[(13,.ref 0 0 0 m),(14,.sl (aj (az (x / 16777216^k % y))) (az (x / 16777216^k % y)).length false)],[(0,⟨aj (zA x y m k),0,false,0,1,true⟩)],.dead,[]⟩
theorem YM {nt:Nat} (c:87≤nt) (x y m:Nat) (d:0<y) (e:(az x).length=m) (a:m<2^35) (b:(az y).length<2^34):∀ k,k≤m→aF prog ap [] nt (ae 0 (af f81)) (fun _=> .exit 0) (Q4 x y m) (PE x y m) k 0:=by
 intro k
 induction k with
 |zero=>
  intro _
  refine .done ?_
  unfold PE
  have h:=alH c x y (x / 16777216^0 % y) 0 0 0 0 m 0 0 (zA x y m 0)
  exact h
 |succ k ih=>exact fun f=> .next (YO c x y m k d e (by omega) a b) (ih (by omega))
theorem Ho {s:List UInt8}:(az (ai s)).length≤s.length:=by
 apply A8
 have h:=nY s
 refine Nat.lt_of_lt_of_le h ?_
 rw [show (16777216:Nat)=2^24 from rfl,← Nat.pow_mul]
 exact Nat.pow_le_pow_right (by omega) (by omega)
theorem rP (s t:List UInt8) (hs:s.length<2^33) (G:t.length<2^33) (h0:0<ai t):CO 81 [.str s,.str t] (.ret (.tup [.str (ag (ai s / ai t)),.str (ag (ai s % ai t)),.bool true])):=by
 have L:=iw t (by omega)
 have b:=bD (ai t)
 have E:(ag (ai t)).length≤t.length:=lG (Nat.le_refl _)
 have g:ag (ai t) ≠ []:=fun h=>by have:=kH.1 h;omega
 have C:0<(ag (ai t)).length:=by
  cases D:ag (ai t) with
  |nil=>exact absurd D g
  |cons _ _=>simp
 have e:((ag (ai t)).length=0)=False:=by simp;exact g
 have K:((7:Nat):Int)=7:=rfl
 by_cases hb:ai s<2^(8*7)∧ai t<2^(8*7)
 ·have d:=yI s 7 (by omega) (by omega) hb.1
  have a:=yI (ag (ai t)) 7 (by omega) (by omega) (by rw [b];exact hb.2)
  rw [b] at a
  have y:ai s<9223372036854775808:=Nat.lt_of_lt_of_le hb.1 (by decide)
  have w:ai t<9223372036854775808:=Nat.lt_of_lt_of_le hb.2 (by decide)
  have J:=Nat.div_le_self (ai s) (ai t)
  have H:=Nat.mod_le (ai s) (ai t)
  have I:=dn (ai s / ai t) (by omega)
  have M:=dn (ai s % ai t) (by omega)
  have h:=aus s t (ai s) (ai t) (ai s / ai t) (ai s % ai t)
  have n:(ai t=0)=False:=by simp;omega
  clear hb hs
  simp (disch:=first|omega|(simp [ak,ay]<;>omega)) only [jS,n,decide_false,Bool.not_false,e,dO,tJ,bz,Ce] at h
  apply h<;>first|exact True.intro|omega|assumption|exact rfl
 ·have x:=aay s (by omega)
  have i:=aay (ag (ai t)) (by omega)
  rw [b] at i
  have B:=Ho (s:=s)
  have F:=Ho (s:=t)
  have hloop:=fun nt (hn:87≤nt)=>YM hn (ai s) (ai t) _ h0 rfl (by omega) (by omega) _ (Nat.le_refl _)
  have o:=xe (ai s) (ai t) (az (ai s)).length 0
  have l:fQ (zA (ai s) (ai t) (az (ai s)).length 0)=ai s / ai t:=YR (Nat.lt_of_le_of_lt (Nat.div_le_self _ _) (uT _))
  have p:=KQ (zA (ai s) (ai t) (az (ai s)).length 0) true (by omega) (YP _ _ _ _)
  rw [l,o] at p
  have u:ai s / 16777216^0 % ai t=ai s % ai t:=by rw [Nat.pow_zero,Nat.div_one]
  have A:=qj (Nat.le_of_lt (Nat.mod_lt (ai s) h0))
  have q:=KQ (az (ai s % ai t)) false (by omega) (dJ.dig _)
  rw [jL] at q
  have f:ai s / 16777216^(az (ai s)).length % ai t=0:=by rw [Nat.div_eq_of_lt (uT _),Nat.zero_mod]
  have k:IntKind.wrap .i64 ((((az (ai s)).length:Nat):Int) - ((1:Nat):Int))=((az (ai s)).length:Int) - 1:=DC (by omega)
  have c:PE (ai s) (ai t) (az (ai s)).length 0=⟨[(13,.ref 0 0 0 (az (ai s)).length),(14,.sl (aj (az (ai s % ai t))) (az (ai s % ai t)).length false)],[(0,⟨aj (zA (ai s) (ai t) (az (ai s)).length 0),0,false,0,1,true⟩)],.dead,[]⟩:=by unfold PE;rw [u]
  have z:(az (ai s)).length<2^35:=by omega
  have j:List.take (az (ai s)).length (aj (zA (ai s) (ai t) (az (ai s)).length 0))=aj (zA (ai s) (ai t) (az (ai s)).length 0):=by rw [dQ,List.take_of_length_le (by omega)]
  by_cases hx:ai s<2^(8*7)
  ·have v:2^(8*7)≤ai t:=by
    rcases Nat.lt_or_ge (ai t) (2^(8*7)) with h|h
    ·exact absurd ⟨hx,h⟩ hb
    ·exact h
   have d:=yI s 7 (by omega) (by omega) hx
   have a:=EK (ag (ai t)) 7 (by omega) (by rw [b];exact v)
   clear hb hx v
   have h:=aur s t (ai s) 0 (ai s / ai t) (ai s % ai t) (az (ai s)).length (zA (ai s) (ai t) (az (ai s)).length 0) 0 true
   rw [b] at h
   simp (disch:=first|omega|(simp [ak,ay]<;>omega)) only [dF,bu,decide_true,jS,e,decide_false,dO,Bool.not_false,aA,k,BA,Nat.mul_one,j] at h
   apply h<;>first|exact True.intro|omega|assumption|exact rfl|skip
   ·refine aF.blkF hloop (by simp) rfl ?_ (by rw [c];exact pY.refl _)
    unfold Q4
    rw [G6,f,gG]
    exact pY.of ⟨aT.refl _,aT.refl _,aT.refl _,aT.nilS false rfl,aT.refl _,trivial⟩
  ·have d:=EK s 7 (by omega) (Nat.le_of_not_lt hx)
   have a:∃ m r,CO 77 [.str (ag (ai t)),.int .i64 7] (.ret (.tup [.int .i64 m,.bool r])):=by
    rcases Nat.lt_or_ge (ai t) (2^(8*7)) with h|h
    ·exact ⟨_,_,yI (ag (ai t)) 7 (by omega) (by omega) (by rw [b];exact h)⟩
    ·exact ⟨_,_,EK (ag (ai t)) 7 (by omega) (by rw [b];exact h)⟩
   obtain ⟨m,r,a⟩:=a
   clear hb hx
   have h:=auq s t 0 0 (ai s / ai t) (ai s % ai t) (az (ai s)).length (zA (ai s) (ai t) (az (ai s)).length 0) m r
   rw [b] at h
   simp (disch:=first|omega|(simp [ak,ay]<;>omega)) only [dF,bu,decide_true,jS,e,decide_false,dO,Bool.not_false,aA,k,BA,Nat.mul_one,j] at h
   apply h<;>first|exact True.intro|omega|assumption|exact rfl|skip
   ·refine aF.blkF hloop (by simp) rfl ?_ (by rw [c];exact pY.refl _)
    unfold Q4
    rw [G6,f,gG]
    exact pY.of ⟨aT.refl _,aT.refl _,aT.refl _,aT.nilS false rfl,aT.refl _,trivial⟩
theorem al2 {nt:Nat} (a:25≤nt) (s t q r:List UInt8) (h0:lit true (decide (((0:Nat):Int)<(((List.length t):Nat):Int)))=true) (b:CO 81 [.str s,.str t] (.ret (.tup [.str q,.str r,.bool true]))):ah prog ap [] nt (ae 0 (af f80)) ⟨[(0,.str s),(1,.str t)],[],.dead,[]⟩ (.normal) ⟨[(0,.str t),(1,.str r)],[],.dead,[]⟩:=pJ 80 [] 1 1 (.c h0 .nil) (.c b .nil) a
theorem al3 {nt:Nat} (a:25≤nt) (s t q r:List UInt8) (h0:lit false (decide (((0:Nat):Int)<(((List.length t):Nat):Int)))=true):ah prog ap [] nt (ae 0 (af f80)) ⟨[(0,.str s),(1,.str t)],[],.dead,[]⟩ (.exit 0) ⟨[(0,.str s)],[],.dead,[]⟩:=pJ 80 [] 1 0 (.c h0 .nil) (.nil) a
theorem alZ (s t g:List UInt8) (b:CO 76 [.str s] (.ret (.str (ag (ai s))))) (c:CO 76 [.str t] (.ret (.str (ag (ai t))))) (a:aI prog ap [] 25 (.block 0 (.loop (ae 0 (af f80)))) ⟨[(0,.str (ag (ai s))),(1,.str (ag (ai t))),(4,.str []),(6,.dead),(14,.dead)],[],.dead,[]⟩ (.normal) ⟨[(0,.str g)],[],.dead,[]⟩):CO 80 [.str s,.str t] (.ret (.str g)):=pK [0] 0 0 .nil (.l a (.c c (.c b .nil)))
def al0 (p:Nat × Nat):St:=⟨[(0,.str (ag p.1)),(1,.str (ag p.2))],[],.dead,[]⟩
def aaw (x:Nat):St:=⟨[(0,.str (ag x))],[],.dead,[]⟩
theorem Rf {nt:Nat} (e:25≤nt):∀ (n y x:Nat),y<n→(ag x).length<2^33→(ag y).length<2^33→aF prog ap [] nt (ae 0 (af f80)) (fun _=> .exit 0) al0 aaw (x,y) (Nat.gcd x y):=by
 intro n
 induction n with
 |zero=>intro y x h;omega
 | succ n ih=>
  intro y x h g d
  rcases Nat.eq_zero_or_pos y with rfl|h0
  ·rw [Nat.gcd_zero_right]
   refine .done ?_
   unfold al0 aaw
   rw [ig]
   exact al3 e (ag x) [] [] [] rfl
  ·have i:=Nat.mod_lt x h0
   have f:(ag (x % y)).length<2^33:=by
    have:x % y≤ai (ag y):=by rw [bD];omega
    have:=lG this
    omega
   have hnext:=ih (x % y) y (by omega) d f
   rw [show Nat.gcd y (x % y)=Nat.gcd x y by rw [Nat.gcd_comm y,← Nat.gcd_rec,Nat.gcd_comm]] at hnext
   refine .next ?_ hnext
   have b:=rP (ag x) (ag y) g d (by rw [bD];exact h0)
   rw [bD,bD] at b
   have c:ag y ≠ []:=fun h=>by have:=kH.1 h;omega
   have a:0<(ag y).length:=by
    cases b:ag y with
    |nil=>exact absurd b c
    |cons _ _=>simp
   exact al2 e (ag x) (ag y) _ _ (by rw [aZ,bG];exact decide_eq_true a) b
theorem PL (s t:List UInt8) (hs:s.length<2^33) (b:t.length<2^33):CO 80 [.str s,.str t] (.ret (.str (ag (Nat.gcd (ai s) (ai t))))):=by
 have c:(ag (ai s)).length≤s.length:=lG (Nat.le_refl _)
 have d:(ag (ai t)).length≤t.length:=lG (Nat.le_refl _)
 exact alZ s t _ (iw s (by omega)) (iw t (by omega)) (aF.blk (fun nt a=>Rf a (ai t+1) (ai t) (ai s) (by omega) (by omega) (by omega)) (by simp) rfl (aK.of ⟨rfl,rfl,trivial⟩) (aK.of ⟨rfl,trivial⟩))
theorem alu (neg:Bool) (n d:List UInt8) (g:Nat) (h0:lit true (!(nR n))=true) (a:CO 128 [.str n] (.ret (.bool (nR n)))) (b:CO 128 [.str d] (.ret (.bool (nR d)))):CO 104 [.agg [.bool neg,.str n,.str d]] (.ret (.bool false)):=pK [] 3 7 (.k 2 h0 (.n 2 .nil)) (.c b (.c a .nil))
theorem alv (neg:Bool) (n d:List UInt8) (g:Nat) (h0:lit true (!(nR d))=true) (c:lit false (!(nR n))=true) (a:CO 128 [.str n] (.ret (.bool (nR n)))) (b:CO 128 [.str d] (.ret (.bool (nR d)))):CO 104 [.agg [.bool neg,.str n,.str d]] (.ret (.bool false)):=pK [] 3 6 (.k 1 h0 (.c c (.n 2 .nil))) (.c b (.c a .nil))
theorem alx (neg:Bool) (n d:List UInt8) (g:Nat) (h0:lit true (d== [])=true) (c:lit false (!(nR d))=true) (a:lit false (!(nR n))=true) (b:CO 128 [.str n] (.ret (.bool (nR n)))) (e:CO 128 [.str d] (.ret (.bool (nR d)))):CO 104 [.agg [.bool neg,.str n,.str d]] (.ret (.bool false)):=pK [] 3 4 (.c h0 (.k 1 c (.c a (.n 2 .nil)))) (.c e (.c b .nil))
theorem aly (neg:Bool) (n d:List UInt8) (g:Nat) (h0:lit true (!neg)=true) (c:lit true (n== [])=true) (a:lit false (d== [])=true) (h:lit false (!(nR d))=true) (b:lit false (!(nR n))=true) (e:CO 128 [.str n] (.ret (.bool (nR n)))) (f:CO 128 [.str d] (.ret (.bool (nR d)))) (i:CO 49 [.int .i64 1] (.ret (.str (ag 1)))) (j:CO 118 [.str d,.str (ag 1)] (.ret (.int .i64 (vz (ai d) (ai (ag 1)))))):CO 104 [.agg [.bool neg,.str n,.str d]] (.ret (.bool ((vz (ai d) (ai (ag 1)))==((0:Nat):Int)))):=pK [] 5 24 (.k 1 h0 (.k 1 c (.k 1 a (.k 1 h (.c b (.n 2 .nil)))))) (.c j (.c i (.c f (.c e .nil))))
theorem alz (neg:Bool) (n d:List UInt8) (g:Nat) (h0:lit false (!neg)=true) (c:lit true (n== [])=true) (a:lit false (d== [])=true) (h:lit false (!(nR d))=true) (b:lit false (!(nR n))=true) (e:CO 128 [.str n] (.ret (.bool (nR n)))) (f:CO 128 [.str d] (.ret (.bool (nR d)))):CO 104 [.agg [.bool neg,.str n,.str d]] (.ret (.bool false)):=pK [] 5 8 (.c h0 (.k 1 c (.k 1 a (.k 1 h (.c b (.n 2 .nil)))))) (.c f (.c e .nil))
theorem alA (neg:Bool) (n d:List UInt8) (g:Nat) (h0:lit false (n== [])=true) (c:lit false (d== [])=true) (a:lit false (!(nR d))=true) (h:lit false (!(nR n))=true) (b:CO 128 [.str n] (.ret (.bool (nR n)))) (e:CO 128 [.str d] (.ret (.bool (nR d)))) (f:CO 80 [.str n,.str d] (.ret (.str (ag g)))) (j:CO 49 [.int .i64 1] (.ret (.str (ag 1)))) (i:CO 118 [.str (ag g),.str (ag 1)] (.ret (.int .i64 (vz (ai (ag g)) (ai (ag 1)))))):CO 104 [.agg [.bool neg,.str n,.str d]] (.ret (.bool ((vz (ai (ag g)) (ai (ag 1)))==((0:Nat):Int)))):=pK [] 4 0 (.k 2 h0 (.k 1 c (.k 1 a (.c h (.n 2 .nil))))) (.c i (.c j (.c f (.c e (.c b .nil)))))
theorem alp (neg:Bool) (n d:List UInt8) (g:Nat) (h0:lit true (n== [])=true) (a:CO 49 [.int .i64 1] (.ret (.str (ag 1)))):CO 51 [.bool neg,.str n,.str d] (.ret (.agg [.bool false,.str [],.str (ag 1)])):=pK [] 1 1 (.k 4 h0 .nil) (.c a .nil)
theorem alq (neg:Bool) (n d:List UInt8) (g:Nat) (h0:lit false (n== [])=true) (a:CO 80 [.str n,.str d] (.ret (.str (ag g)))) (b:CO 81 [.str n,.str (ag g)] (.ret (.tup [.str (ag (ai n / g)),.str (ag (ai n % g)),.bool true]))) (c:CO 81 [.str d,.str (ag g)] (.ret (.tup [.str (ag (ai d / g)),.str (ag (ai d % g)),.bool true]))):CO 51 [.bool neg,.str n,.str d] (.ret (.agg [.bool neg,.str (ag (ai n / g)),.str (ag (ai d / g))])):=pK [] 1 0 (.k 4 h0 .nil) (.c c (.c b (.c a .nil)))
theorem alm (neg:Bool) (n d:List UInt8) (h0:lit true (decide ((((fK (ai n)):Nat):Int)≤((400:Nat):Int)))=true) (c:lit true (jq neg n d)=true) (a:CO 104 [.agg [.bool neg,.str n,.str d]] (.ret (.bool (jq neg n d)))) (b:CO 133 [.str n] (.ret (.int .i64 (((fK (ai n)):Nat):Int)))) (e:CO 133 [.str d] (.ret (.int .i64 (((fK (ai d)):Nat):Int)))):CO 105 [.agg [.bool neg,.str n,.str d]] (.ret (.bool (decide ((((fK (ai d)):Nat):Int)≤((400:Nat):Int))))):=pK [] 2 3 (.k 1 h0 (.k 1 c (.n 3 .nil))) (.c e (.c b (.c a .nil)))
theorem aln (neg:Bool) (n d:List UInt8) (h0:lit false (decide ((((fK (ai n)):Nat):Int)≤((400:Nat):Int)))=true) (c:lit true (jq neg n d)=true) (a:CO 104 [.agg [.bool neg,.str n,.str d]] (.ret (.bool (jq neg n d)))) (b:CO 133 [.str n] (.ret (.int .i64 (((fK (ai n)):Nat):Int)))):CO 105 [.agg [.bool neg,.str n,.str d]] (.ret (.bool false)):=pK [] 2 1 (.c h0 (.k 1 c (.n 3 .nil))) (.c b (.c a .nil))
theorem alo (neg:Bool) (n d:List UInt8) (h0:lit false (jq neg n d)=true) (a:CO 104 [.agg [.bool neg,.str n,.str d]] (.ret (.bool (jq neg n d)))):CO 105 [.agg [.bool neg,.str n,.str d]] (.ret (.bool false)):=pK [] 2 0 (.k 1 h0 (.n 3 .nil)) (.c a .nil)
theorem alE (neg:Bool) (n d:List UInt8) (h0:lit true (!(jq neg n d))=true) (a:CO 104 [.agg [.bool neg,.str n,.str d]] (.ret (.bool (jq neg n d)))) (b:CO 49 [.int .i64 1] (.ret (.str (ag 1)))):CO 70 [.agg [.bool neg,.str n,.str d]] (.ret (.agg [.bool false,.str [],.str (ag 1)])):=pK [] 1 1 (.k 4 h0 (.n 3 .nil)) (.c b (.c a .nil))
theorem alF (neg:Bool) (n d:List UInt8) (h0:lit false (!(jq neg n d))=true) (a:CO 104 [.agg [.bool neg,.str n,.str d]] (.ret (.bool (jq neg n d)))):CO 70 [.agg [.bool neg,.str n,.str d]] (.ret (.agg [.bool neg,.str n,.str d])):=pK [] 1 0 (.k 7 h0 (.n 3 .nil)) (.c a .nil)
theorem alr (v:Int) (x z:Nat) (h0:lit true (decide (((0:Nat):Int)≤v))=true) (a:CO 49 [.int .i64 v] (.ret (.str (ag z)))) (b:CO 49 [.int .i64 1] (.ret (.str (ag 1)))):CO 36 [.int .i64 v] (.ret (.agg [.bool false,.str (ag z),.str (ag 1)])):=pK [] 1 1 (.k 4 h0 .nil) (.c b (.c a .nil))
theorem alB (neg e:Bool) (n d a b:List UInt8) (h0:lit true (a== [])=true) (c:CO 70 [.agg [.bool neg,.str n,.str d]] (.ret (.agg [.bool e,.str a,.str b]))):CO 45 [.agg [.bool neg,.str n,.str d]] (.ret (.int .i64 0)):=pK [] 1 1 (.c h0 (.n 5 .nil)) (.c c .nil)
theorem alC (neg b:Bool) (n d a c:List UInt8) (h0:lit true b=true) (f:lit false (a== [])=true) (e:CO 70 [.agg [.bool neg,.str n,.str d]] (.ret (.agg [.bool b,.str a,.str c]))):CO 45 [.agg [.bool neg,.str n,.str d]] (.ret (.int .i64 (-1))):=pK [] 2 2 (.c h0 (.k 1 f (.n 5 .nil))) (.c e .nil)
theorem alD (neg b:Bool) (n d a c:List UInt8) (h0:lit false b=true) (f:lit false (a== [])=true) (e:CO 70 [.agg [.bool neg,.str n,.str d]] (.ret (.agg [.bool b,.str a,.str c]))):CO 45 [.agg [.bool neg,.str n,.str d]] (.ret (.int .i64 1)):=pK [] 2 0 (.c h0 (.k 1 f (.n 5 .nil))) (.c e .nil)
theorem PT {x:Nat}:((vz x (ai (ag 1)))==((0:Nat):Int))=decide (x=1):=by
 rw [bD]
 unfold vz
 rcases Nat.lt_trichotomy x 1 with h|h|h
 ·rw [if_pos h,decide_eq_false (by omega)];rfl
 ·rw [if_neg (by omega),if_neg (by omega),decide_eq_true h];rfl
 ·rw [if_neg (by omega),if_pos h,decide_eq_false (by omega)];rfl
theorem rD (neg:Bool) (n d:List UInt8) (t:n.length<2^33) (u:d.length<2^33):CO 104 [.agg [.bool neg,.str n,.str d]] (.ret (.bool (jq neg n d))):=by
 have i:=xh n
 have g:=xh d
 have p:=dn 1 (by omega)
 have s:(ag 1).length≤1:=iC (by omega)
 have w:=Vu d (ag 1) (by omega) (by omega)
 have v:=PL n d t u
 have o:=@PT (ai d)
 cases a:nR n with
 |false=>
  have e:jq neg n d=false:=by unfold jq;rw [a];rfl
  rw [e]
  exact alu neg n d 0 (by rw [a];rfl) i g
 | true=>
  cases b:nR d with
  |false=>
   have e:jq neg n d=false:=by unfold jq;rw [b];simp
   rw [e]
   exact alv neg n d 0 (by rw [b];rfl) (by rw [a];rfl) i g
  | true=>
   have r:=(rf n).1 a
   have q:=(rf d).1 b
   by_cases hd0:d= []
   ·have e:jq neg n d=false:=by
     subst hd0;unfold jq;simp [show ai []=0 from rfl]
    rw [e]
    exact alx neg n d 0 (by rw [hd0];rfl) (by rw [b];rfl) (by rw [a];rfl) i g
   ·have j:0<ai d:=by
     rcases Nat.eq_zero_or_pos (ai d) with h|h
     ·rw [h,ig] at q;exact absurd q.symm hd0
     ·exact h
    have f:(d== [])=false:=by simpa using hd0
    by_cases hn0:n= []
    ·have c:(n== [])=true:=by simpa using hn0
     have l:ai n=0:=by rw [hn0];rfl
     cases neg with
     | false=>
      have h:=aly false n d 0 rfl (by rw [c];rfl) (by rw [f];rfl) (by rw [b];rfl) (by rw [a];rfl) i g p w
      rw [o] at h
      have e:jq false n d=decide (ai d=1):=by
       rw [Bool.eq_iff_iff,mF,l,Nat.gcd_zero_left]
       simp [a,b];omega
      rw [e];exact h
     | true=>
      have h:=alz true n d 0 rfl (by rw [c];rfl) (by rw [f];rfl) (by rw [b];rfl) (by rw [a];rfl) i g
      have e:jq true n d=false:=by
       rw [Bool.eq_false_iff];intro h
       have:=(mF.1 h).2.2.2.2 rfl
       omega
      rw [e];exact h
    ·have c:(n== [])=false:=by simpa using hn0
     have m:0<ai n:=by
      rcases Nat.eq_zero_or_pos (ai n) with h|h
      ·rw [h,ig] at r;exact absurd r.symm hn0
      ·exact h
     have x:(ag (Nat.gcd (ai n) (ai d))).length≤d.length:=lG (Nat.gcd_le_right _ j)
     have k:=Vu (ag (Nat.gcd (ai n) (ai d))) (ag 1) (by omega) (by omega)
     have h:=alA neg n d (Nat.gcd (ai n) (ai d)) (by rw [c];rfl) (by rw [f];rfl) (by rw [b];rfl) (by rw [a];rfl) i g v p k
     rw [PT,bD] at h
     have e:jq neg n d=decide (Nat.gcd (ai n) (ai d)=1):=by
      rw [Bool.eq_iff_iff,mF]
      simp [a,b,j,m]
     rw [e];exact h
theorem iU (neg:Bool) (n d:List UInt8) (e:n.length<2^33) (g:d.length<2^33):CO 105 [.agg [.bool neg,.str n,.str d]] (.ret (.bool (iY neg n d))):=by
 have b:=rD neg n d e g
 have c:=La n (by omega)
 have f:=La d (by omega)
 unfold iY
 cases a:jq neg n d with
 |false=>exact alo neg n d (by rw [a];rfl) b
 | true=>
  by_cases h3:fK (ai n)≤400
  ·have h:=alm neg n d (by rw [dF,decide_eq_true h3];rfl) (by rw [a];rfl) b c f
   rw [dF] at h
   rw [decide_eq_true h3]
   exact h
  ·have h:=aln neg n d (by rw [dF,decide_eq_false h3];rfl) (by rw [a];rfl) b c
   rw [decide_eq_false h3]
   exact h
structure RQ where
 neg:Bool
 n:Nat
 d:Nat
def RQ.ok (q:RQ):Prop:=0<q.d∧Nat.gcd q.n q.d=1∧(q.neg=true→0<q.n)
def qA (q:RQ):AV:= .agg [.bool q.neg,.str (ag q.n),.str (ag q.d)]
def q0:RQ:=⟨false,0,1⟩
def wX (neg:Bool) (n d:Nat):RQ:=⟨neg && decide (0<n),n / Nat.gcd n d,d / Nat.gcd n d⟩
def vQ (neg:Bool) (n d:List UInt8):RQ:=if jq neg n d=true then ⟨neg,ai n,ai d⟩ else q0
theorem ND (q:RQ) (h:q.ok):jq q.neg (ag q.n) (ag q.d)=true:=by
 rw [mF,bD,bD]
 exact ⟨Bz _,Bz _,h⟩
theorem XW {neg:Bool} {n d:List UInt8} (h:jq neg n d=true):AV.agg [.bool neg,.str n,.str d]=qA ⟨neg,ai n,ai d⟩:=by
 obtain ⟨b,a,_⟩:=mF.1 h
 unfold qA
 rw [(rf n).1 b,(rf d).1 a]
theorem Pg {neg:Bool} {n d:Nat} (h:0<d):(wX neg n d).ok:=by
 have a:0<Nat.gcd n d:=Nat.gcd_pos_of_pos_right _ h
 refine ⟨Nat.div_pos (Nat.gcd_le_right _ h) a, ?_, ?_⟩
 ·show Nat.gcd (n / Nat.gcd n d) (d / Nat.gcd n d)=1
  rw [Nat.gcd_div (Nat.gcd_dvd_left _ _) (Nat.gcd_dvd_right _ _),Nat.div_self a]
 ·intro b
  have:0<n:=by simp [wX] at b;exact b.2
  exact Nat.div_pos (Nat.gcd_le_left _ this) a
theorem bV (neg:Bool) (n d:List UInt8) (c:n.length<2^33) (e:d.length<2^33):CO 70 [.agg [.bool neg,.str n,.str d]] (.ret (qA (vQ neg n d))):=by
 have b:=rD neg n d c e
 unfold vQ
 cases a:jq neg n d with
 |false=>
  have h:=alE neg n d (by rw [a];rfl) b (dn 1 (by omega))
  rw [if_neg (by simp)]
  unfold qA q0
  rw [ig];exact h
 |true=>
  have h:=alF neg n d (by rw [a];rfl) b
  rw [if_pos rfl,← XW a]
  exact h
theorem dP (neg:Bool) (n d:Nat) (e:(ag n).length<2^33) (f:(ag d).length<2^33) (h0:0<d):CO 51 [.bool neg,.str (ag n),.str (ag d)] (.ret (qA (wX neg n d))):=by
 have c:=PL (ag n) (ag d) e f
 rw [bD,bD] at c
 have a:0<Nat.gcd n d:=Nat.gcd_pos_of_pos_right _ h0
 have j:(ag (Nat.gcd n d)).length≤(ag d).length:=lG (by rw [bD];exact Nat.gcd_le_right _ h0)
 have i:=rP (ag n) (ag (Nat.gcd n d)) e (by omega) (by rw [bD];exact a)
 have g:=rP (ag d) (ag (Nat.gcd n d)) f (by omega) (by rw [bD];exact a)
 simp only [bD] at i g
 rcases Nat.eq_zero_or_pos n with rfl|hp
 ·have h:=alp neg (ag 0) (ag d) 0 (by rw [ig];rfl) (dn 1 (by omega))
  unfold qA wX
  simp only [Nat.lt_irrefl,decide_false,Bool.and_false,Nat.gcd_zero_left,Nat.zero_div,Nat.div_self h0,ig]
  rw [ig] at h
  exact h
 ·have b:ag n ≠ []:=fun h=>by have:=kH.1 h;omega
  have h:=alq neg (ag n) (ag d) (Nat.gcd n d) (by simp [lit,b])
  simp only [bD] at h
  unfold qA wX
  simp only [hp,decide_true,Bool.and_true]
  exact h c i g
def adp (q:RQ):Int:=if q.n=0 then 0 else if q.neg then -1 else 1
theorem ado (neg:Bool) (n d:List UInt8):fZ neg n d=adp (vQ neg n d):=by
 unfold fZ adp vQ
 cases b:jq neg n d with
 |false=>simp [q0]
 | true=>
  simp only [true_and,if_true]
  by_cases h:0<ai n
  ·have a:¬ ai n=0:=by omega
   simp [h,a]
  ·have a:ai n=0:=by omega
   simp [a]
theorem fM (neg:Bool) (n d:List UInt8) (f:n.length<2^33) (g:d.length<2^33):CO 45 [.agg [.bool neg,.str n,.str d]] (.ret (.int .i64 (fZ neg n d))):=by
 have b:=bV neg n d f g
 rw [ado]
 generalize vQ neg n d=q at*
 obtain ⟨e,N,D⟩:=q
 unfold qA at b
 unfold adp
 simp only at b ⊢
 rcases Nat.eq_zero_or_pos N with rfl|hp
 ·rw [if_pos rfl]
  exact alB neg e n d (ag 0) (ag D) (by rw [ig];rfl) b
 ·have c:ag N ≠ []:=fun h=>by have:=kH.1 h;omega
  have a:(ag N== [])=false:=by simpa using c
  rw [if_neg (by omega)]
  cases e with
  |true=>exact alC neg true n d (ag N) (ag D) rfl (by rw [a];rfl) b
  |false=>exact alD neg false n d (ag N) (ag D) rfl (by rw [a];rfl) b
def sW (neg:Bool) (n d:List UInt8) (a:Nat):Bool:=((neg==false) && ((n==(ag a)) && ((d==(ag 1)) && true)))
theorem yA (a:Nat) (b:a<9223372036854775808):CO 36 [.int .i64 (a:Int)] (.ret (N_ false a 1)):=
 alr (a:Int) 0 a (by simp [lit]) (dn a b) (dn 1 (by omega))
theorem aav:CO 36 [.int .i64 0] (.ret (N_ false 0 1)):=yA 0 (by omega)
theorem als:CO 36 [.int .i64 1] (.ret (N_ false 1 1)):=yA 1 (by omega)
def Qj:List UInt8:= [97,98,99,100,101,102,103,104,105,106,107,108,109,110,111,112,113,114,115,116,117,118,119,120,121,122,48,49,50,51,52,53,54,55,56,57,95]
def Ia:List AV:= [.bool false,.bool false,.bool false,.bool false,.bool false,.bool false,.bool false,.bool false,.bool false,.bool false,.bool false,.bool false,.bool false,.bool false,.bool false,.bool false,.bool false,.bool false,.bool false,.bool false,.bool false,.bool false,.bool false,.bool false,.bool false,.bool false,.bool false,.bool false,.bool false,.bool false,.bool false,.bool false,.bool false,.bool false,.bool false,.bool false,.bool false,.bool false,.bool false,.bool false,.bool false,.bool false,.bool false,.bool false,.bool false,.bool false,.bool false,.bool false,.bool true,.bool true,.bool true,.bool true,.bool true,.bool true,.bool true,.bool true,.bool true,.bool true,.bool false,.bool false,.bool false,.bool false,.bool false,.bool false,.bool false,.bool false,.bool false,.bool false,.bool false,.bool false,.bool false,.bool false,.bool false,.bool false,.bool false,.bool false,.bool false,.bool false,.bool false,.bool false,.bool false,.bool false,.bool false,.bool false,.bool false,.bool false,.bool false,.bool false,.bool false,.bool false,.bool false,.bool false,.bool false,.bool false,.bool false,.bool true,.bool false,.bool true,.bool true,.bool true,.bool true,.bool true,.bool true,.bool true,.bool true,.bool true,.bool true,.bool true,.bool true,.bool true,.bool true,.bool true,.bool true,.bool true,.bool true,.bool true,.bool true,.bool true,.bool true,.bool true,.bool true,.bool true,.bool true,.bool false,.bool false,.bool false,.bool false,.bool false,.bool false,.bool false,.bool false,.bool false,.bool false,.bool false,.bool false,.bool false,.bool false,.bool false,.bool false,.bool false,.bool false,.bool false,.bool false,.bool false,.bool false,.bool false,.bool false,.bool false,.bool false,.bool false,.bool false,.bool false,.bool false,.bool false,.bool false,.bool false,.bool false,.bool false,.bool false,.bool false,.bool false,.bool false,.bool false,.bool false,.bool false,.bool false,.bool false,.bool false,.bool false,.bool false,.bool false,.bool false,.bool false,.bool false,.bool false,.bool false,.bool false,.bool false,.bool false,.bool false,.bool false,.bool false,.bool false,.bool false,.bool false,.bool false,.bool false,.bool false,.bool false,.bool false,.bool false,.bool false,.bool false,.bool false,.bool false,.bool false,.bool false,.bool false,.bool false,.bool false,.bool false,.bool false,.bool false,.bool false,.bool false,.bool false,.bool false,.bool false,.bool false,.bool false,.bool false,.bool false,.bool false,.bool false,.bool false,.bool false,.bool false,.bool false,.bool false,.bool false,.bool false,.bool false,.bool false,.bool false,.bool false,.bool false,.bool false,.bool false,.bool false,.bool false,.bool false,.bool false,.bool false,.bool false,.bool false,.bool false,.bool false,.bool false,.bool false,.bool false,.bool false,.bool false,.bool false,.bool false,.bool false,.bool false,.bool false,.bool false,.bool false,.bool false,.bool false,.bool false,.bool false,.bool false,.bool false,.bool false]
theorem aa3:CO 143 [.str Qj] (.ret (.tup [.agg Ia,.bool true])):=Gg IC (lf:=3000) (n:=4) (ans:= []) .nil (by kernel_rfl)
theorem ajq (a:List AV) (c:Nat) (h0:(gW .bool (List.headD (List.drop (0+((Int.toNat (c:Int))*1)) a) .dead))=true) (d:(decide (((0:Nat):Int)≤(c:Int)))=true) (b:(decide ((c:Int)<((256:Nat):Int)))=true):CO 166 [.pp a 0,.int .u8 (c:Int)] (.ret (.bool (AV.toBool (List.headD (List.drop (0+((Int.toNat (c:Int))*1)) a) .dead)))):=pK [] 0 0 (.c h0 (.c d (.c b .nil))) (.nil)
theorem auP {nt:Nat} (c:16≤nt) (s:List UInt8) (a:List AV) (b:Bool) (h0:lit true (!b)=true) (f:(decide (((0:Nat):Int)<(((List.length s):Nat):Int)))=true) (e:lit true (decide (((0:Nat):Int)<(((List.length s):Nat):Int)))=true) (d:CO 166 [.pp a 0,.int .u8 ((UInt8.toNat (List.getD s 0 0):Nat):Int)] (.ret (.bool b))):ah prog ap [] nt (ae 0 (af f144)) ⟨[(0,.str s),(1,.pp a 0)],[],.dead,[]⟩ (.exit 0) ⟨[(0,.str s)],[],.dead,[]⟩:=pJ 144 [] 2 3 (.c h0 (.k 1 f (.c e .nil))) (.c d .nil) c
theorem auQ {nt:Nat} (c:16≤nt) (s:List UInt8) (a:List AV) (b:Bool) (h0:(decide (((1:Nat):Int)≤(((List.length s):Nat):Int)))=true) (f:(decide ((((List.length s):Nat):Int)≤(((List.length s):Nat):Int)))=true) (e:lit false (!b)=true) (g:(decide (((0:Nat):Int)<(((List.length s):Nat):Int)))=true) (h:lit true (decide (((0:Nat):Int)<(((List.length s):Nat):Int)))=true) (d:CO 166 [.pp a 0,.int .u8 ((UInt8.toNat (List.getD s 0 0):Nat):Int)] (.ret (.bool b))):ah prog ap [] nt (ae 0 (af f144)) ⟨[(0,.str s),(1,.pp a 0)],[],.dead,[]⟩ (.normal) ⟨[(0,.str (List.drop 1 (List.take (Int.toNat (((List.length s):Nat):Int)) s))),(1,.pp a 0)],[],.dead,[]⟩:=pJ 144 [] 2 1 (.k 1 h0 (.c f (.c e (.k 1 g (.c h .nil))))) (.c d .nil) c
theorem auR {nt:Nat} (c:16≤nt) (s:List UInt8) (a:List AV) (b:Bool) (h0:lit false (decide (((0:Nat):Int)<(((List.length s):Nat):Int)))=true):ah prog ap [] nt (ae 0 (af f144)) ⟨[(0,.str s),(1,.pp a 0)],[],.dead,[]⟩ (.exit 0) ⟨[(0,.str s)],[],.dead,[]⟩:=pJ 144 [] 1 0 (.c h0 .nil) (.nil) c
theorem anv (s r:List UInt8) (a:List AV) (b:aI prog ap [] 16 (.block 0 (.loop (ae 0 (af f144)))) ⟨[(0,.str s),(1,.pp a 0),(4,.str []),(7,.dead),(12,.dead)],[],.dead,[]⟩ (.normal) ⟨[(0,.str r)],[],.dead,[]⟩):CO 144 [.str s,.pp a 0] (.ret (.str r)):=pK [0] 0 0 .nil (.l b .nil)
theorem auS {nt:Nat} (c:22≤nt) (s:List UInt8) (a:List AV) (b:Bool) (h0:lit true (!b)=true) (f:(decide (((0:Nat):Int)≤(IntKind.wrap .i64 ((((List.length s):Nat):Int) - ((1:Nat):Int)))))=true) (e:(decide ((IntKind.wrap .i64 ((((List.length s):Nat):Int) - ((1:Nat):Int)))<(((List.length s):Nat):Int)))=true) (g:lit true (decide (((0:Nat):Int)<(((List.length s):Nat):Int)))=true) (d:CO 166 [.pp a 0,.int .u8 ((UInt8.toNat (List.getD s (Int.toNat (IntKind.wrap .i64 ((((List.length s):Nat):Int) - ((1:Nat):Int)))) 0):Nat):Int)] (.ret (.bool b))):ah prog ap [] nt (ae 0 (af f145)) ⟨[(0,.str s),(1,.pp a 0)],[],.dead,[]⟩ (.exit 0) ⟨[(0,.str s)],[],.dead,[]⟩:=pJ 145 [] 2 3 (.c h0 (.c f (.c e (.c g .nil)))) (.c d .nil) c
theorem auT {nt:Nat} (c:22≤nt) (s:List UInt8) (a:List AV) (b:Bool) (h0:(decide (((0:Nat):Int)≤(IntKind.wrap .i64 ((((List.length s):Nat):Int) - ((1:Nat):Int)))))=true) (f:(decide ((IntKind.wrap .i64 ((((List.length s):Nat):Int) - ((1:Nat):Int)))≤(((List.length s):Nat):Int)))=true) (e:lit false (!b)=true) (g:(decide ((IntKind.wrap .i64 ((((List.length s):Nat):Int) - ((1:Nat):Int)))<(((List.length s):Nat):Int)))=true) (h:lit true (decide (((0:Nat):Int)<(((List.length s):Nat):Int)))=true) (d:CO 166 [.pp a 0,.int .u8 ((UInt8.toNat (List.getD s (Int.toNat (IntKind.wrap .i64 ((((List.length s):Nat):Int) - ((1:Nat):Int)))) 0):Nat):Int)] (.ret (.bool b))):ah prog ap [] nt (ae 0 (af f145)) ⟨[(0,.str s),(1,.pp a 0)],[],.dead,[]⟩ (.normal) ⟨[(0,.str (List.drop 0 (List.take (Int.toNat (IntKind.wrap .i64 ((((List.length s):Nat):Int) - ((1:Nat):Int)))) s))),(1,.pp a 0)],[],.dead,[]⟩:=pJ 145 [] 2 1 (.k 1 h0 (.c f (.c e (.c h0 (.c g (.c h .nil)))))) (.c d .nil) c
theorem auU {nt:Nat} (c:22≤nt) (s:List UInt8) (a:List AV) (b:Bool) (h0:lit false (decide (((0:Nat):Int)<(((List.length s):Nat):Int)))=true):ah prog ap [] nt (ae 0 (af f145)) ⟨[(0,.str s),(1,.pp a 0)],[],.dead,[]⟩ (.exit 0) ⟨[(0,.str s)],[],.dead,[]⟩:=pJ 145 [] 1 0 (.c h0 .nil) (.nil) c
theorem anz (s r:List UInt8) (a:List AV) (b:aI prog ap [] 22 (.block 0 (.loop (ae 0 (af f145)))) ⟨[(0,.str s),(1,.pp a 0),(4,.str []),(7,.dead),(15,.dead)],[],.dead,[]⟩ (.normal) ⟨[(0,.str r)],[],.dead,[]⟩):CO 145 [.str s,.pp a 0] (.ret (.str r)):=pK [0] 0 0 .nil (.l b .nil)
def aa1:List Bool:= [false,false,false,false,false,false,false,false,false,false,false,false,false,false,false,false,false,false,false,false,false,false,false,false,false,false,false,false,false,false,false,false,false,false,false,false,false,false,false,false,false,false,false,false,false,false,false,false,true,true,true,true,true,true,true,true,true,true,false,false,false,false,false,false,false,false,false,false,false,false,false,false,false,false,false,false,false,false,false,false,false,false,false,false,false,false,false,false,false,false,false,false,false,false,false,true,false,true,true,true,true,true,true,true,true,true,true,true,true,true,true,true,true,true,true,true,true,true,true,true,true,true,true,false,false,false,false,false,false,false,false,false,false,false,false,false,false,false,false,false,false,false,false,false,false,false,false,false,false,false,false,false,false,false,false,false,false,false,false,false,false,false,false,false,false,false,false,false,false,false,false,false,false,false,false,false,false,false,false,false,false,false,false,false,false,false,false,false,false,false,false,false,false,false,false,false,false,false,false,false,false,false,false,false,false,false,false,false,false,false,false,false,false,false,false,false,false,false,false,false,false,false,false,false,false,false,false,false,false,false,false,false,false,false,false,false,false,false,false,false,false,false,false,false,false,false,false,false,false,false,false,false,false,false,false,false]
theorem aa2:Ia=aa1.map AV.bool:=rfl
def inN (c:Nat):Bool:=(decide (97≤c) && decide (c≤122))||(decide (48≤c) && decide (c≤57))||decide (c=95)
def iM (c:UInt8):Bool:=inN c.toNat
theorem Xh:∀ i:Fin 256,aa1.getD i.val false=inN i.val:=by decide
theorem TT (c:UInt8):CO 166 [.pp Ia 0,.int .u8 (c.toNat:Int)] (.ret (.bool (iM c))):=by
 have b:c.toNat<256:=UInt8.toNat_lt c
 have e:aa1.length=256:=by decide
 have d:List.headD (List.drop c.toNat Ia) .dead= .bool (iM c):=by
  have a:=Xh ⟨c.toNat,b⟩
  simp only at a
  rw [aa2,← List.map_drop,List.drop_eq_getElem_cons (by omega),List.map_cons,List.headD_cons]
  rw [List.getD_eq_getElem?_getD,List.getElem?_eq_getElem (by omega)] at a
  unfold iM
  rw [← a];rfl
 have h:=ajq Ia c.toNat
 rw [aA,Nat.zero_add,Nat.mul_one,d] at h
 exact h rfl (by rw [dF];exact decide_eq_true (by omega)) (by rw [aZ];exact decide_eq_true b)
def amZ (s:List UInt8):St:=⟨[(0,.str s),(1,.pp Ia 0)],[],.dead,[]⟩
def aaB (s:List UInt8):St:=⟨[(0,.str s)],[],.dead,[]⟩
theorem Zx {nt:Nat} (a:16≤nt):∀ (s:List UInt8),s.length<2^40→aF prog ap [] nt (ae 0 (af f144)) (fun _=> .exit 0) amZ aaB s (s.dropWhile iM):=by
 intro s
 induction s with
 |nil=>exact fun _=> .done (auR a [] Ia true rfl)
 | cons c s ih=>
  intro e
  simp only [List.length_cons] at e
  rw [List.dropWhile_cons]
  have b:=TT c
  cases d:iM c with
  |true=>
   rw [d] at b
   refine .next ?_ (by simpa using ih (by omega))
   have h:=auQ a (c::s) Ia true
   have f:List.drop 1 (List.take (s.length+1) (c::s))=s:=by simp
   simp only [List.length_cons,List.getD_cons_zero] at h
   simp (disch:=first|omega|(simp [ak,ay]<;>omega)) only [dF,bu,Bool.not_true,dO,Bool.not_false,aZ,bG,aA,f] at h
   apply h<;>first|exact True.intro|omega|assumption|exact rfl
  |false=>
   rw [d] at b
   refine .done ?_
   have h:=auP a (c::s) Ia false
   simp only [List.length_cons,List.getD_cons_zero] at h
   simp (disch:=first|omega|(simp [ak,ay]<;>omega)) only [Bool.not_false,bG,aZ,bu] at h
   apply h<;>first|exact True.intro|omega|assumption|exact rfl
def Wn (s:List UInt8):List UInt8:=(s.reverse.dropWhile iM).reverse
theorem Wp (s:List UInt8) (c:UInt8):Wn (s++ [c])=if iM c=true then Wn s else s++ [c]:=by
 unfold Wn
 rw [List.reverse_append]
 simp only [List.reverse_cons,List.reverse_nil,List.nil_append,List.singleton_append,List.dropWhile_cons]
 by_cases h:iM c=true
 ·simp [h]
 ·simp [h]
theorem ZE {nt:Nat} (a:22≤nt):∀ (k:Nat) (s:List UInt8),s.length=k→k<2^40→aF prog ap [] nt (ae 0 (af f145)) (fun _=> .exit 0) amZ aaB s (Wn s):=by
 intro k
 induction k with
 |zero=>
  intro s hs _
  have:s= []:=List.eq_nil_of_length_eq_zero hs
  subst this
  exact .done (auU a [] Ia true rfl)
 | succ k ih=>
  intro s hs j
  rcases List.eq_nil_or_concat s with rfl|⟨s',c,rfl⟩
  ·simp at hs
  ·rw [List.concat_eq_append] at hs ⊢
   have d:s'.length=k:=by simpa using hs
   rw [Wp]
   have f:=TT c
   have e:(s'++ [c]).getD s'.length 0=c:=by simp
   have i:s'.length+1 - 1=s'.length:=rfl
   have b:List.take s'.length (s'++ [c])=s':=by simp
   cases g:iM c with
   |true=>
    rw [g] at f
    rw [if_pos rfl]
    refine .next ?_ (ih s' d (by omega))
    have h:=auT a (s'++ [c]) Ia true
    simp (disch:=first|omega|(simp [ak,ay]<;>omega)) only [List.length_append,List.length_cons,List.length_nil,Nat.zero_add,jX,i,dF,bu,Bool.not_true,dO,Bool.not_false,aZ,bG,aA,e,b,List.drop_zero] at h
    apply h<;>first|exact True.intro|omega|assumption|exact rfl
   |false=>
    rw [g] at f
    rw [if_neg (by simp)]
    refine .done ?_
    have h:=auS a (s'++ [c]) Ia false
    simp (disch:=first|omega|(simp [ak,ay]<;>omega)) only [Bool.not_false,bG,List.length_append,List.length_cons,List.length_nil,Nat.zero_add,jX,i,dF,bu,aZ,aA,e] at h
    apply h<;>first|exact True.intro|omega|assumption|exact rfl
theorem ZF (s u v:List UInt8) (h0:lit true (s== [])=true):CO 117 [.str s,.str Qj] (.ret (.str s)):=pK [] 2 3 (.k 1 h0 .nil) (.nil)
theorem ZG (s u v:List UInt8) (h0:lit false (s== [])=true) (a:CO 143 [.str Qj] (.ret (.tup [.agg Ia,.bool true]))) (b:CO 145 [.str s,.pp Ia 0] (.ret (.str u))) (c:CO 144 [.str u,.pp Ia 0] (.ret (.str v))):CO 117 [.str s,.str Qj] (.ret (.str v)):=pK [] 5 16 (.k 5 h0 .nil) (.c c (.c b (.c a .nil)))
theorem Yv (s v:List UInt8) (h0:lit true (s== [])=true):CO 86 [.str s] (.ret (.bool false)):=pK [] 4 15 (.k 3 h0 .nil) (.nil)
theorem Yw (s v:List UInt8) (h0:lit true (decide (((20:Nat):Int)<(((List.length s):Nat):Int)))=true) (a:lit false (s== [])=true):CO 86 [.str s] (.ret (.bool false)):=pK [] 4 14 (.k 2 h0 (.c a .nil)) (.nil)
theorem Yx (s v:List UInt8) (h0:lit true (decide (((UInt8.toNat (List.getD s 0 0):Nat):Int)<((97:Nat):Int)))=true) (b:(decide (((0:Nat):Int)<(((List.length s):Nat):Int)))=true) (a:lit false (decide (((20:Nat):Int)<(((List.length s):Nat):Int)))=true) (c:lit false (s== [])=true):CO 86 [.str s] (.ret (.bool false)):=pK [] 4 12 (.k 1 h0 (.k 1 b (.c a (.c c .nil)))) (.nil)
theorem Yy (s v:List UInt8) (h0:lit true (decide (((122:Nat):Int)<((UInt8.toNat (List.getD s 0 0):Nat):Int)))=true) (a:(decide (((0:Nat):Int)<(((List.length s):Nat):Int)))=true) (b:lit false (decide (((UInt8.toNat (List.getD s 0 0):Nat):Int)<((97:Nat):Int)))=true) (c:lit false (decide (((20:Nat):Int)<(((List.length s):Nat):Int)))=true) (d:lit false (s== [])=true):CO 86 [.str s] (.ret (.bool false)):=pK [] 4 8 (.c h0 (.k 1 a (.c b (.k 1 a (.c c (.c d .nil)))))) (.nil)
theorem Yz (s v:List UInt8) (h0:lit false (decide (((122:Nat):Int)<((UInt8.toNat (List.getD s 0 0):Nat):Int)))=true) (a:(decide (((0:Nat):Int)<(((List.length s):Nat):Int)))=true) (c:lit false (decide (((UInt8.toNat (List.getD s 0 0):Nat):Int)<((97:Nat):Int)))=true) (d:lit false (decide (((20:Nat):Int)<(((List.length s):Nat):Int)))=true) (e:lit false (s== [])=true) (b:CO 117 [.str s,.str Qj] (.ret (.str v))):CO 86 [.str s] (.ret (.bool (v== []))):=pK [] 4 0 (.c h0 (.k 1 a (.c c (.k 1 a (.c d (.c e .nil)))))) (.c b .nil)
theorem amg {nt:Nat} (a:50≤nt) (s:List UInt8) (k:Nat) (h0:lit true (!(((UInt8.toNat (List.getD s (Int.toNat (k:Int)) 0):Nat):Int)==((95:Nat):Int)))=true) (d:lit true (decide (((UInt8.toNat (List.getD s (Int.toNat (k:Int)) 0):Nat):Int)<((48:Nat):Int)))=true) (b:lit true (decide (((UInt8.toNat (List.getD s (Int.toNat (k:Int)) 0):Nat):Int)<((97:Nat):Int)))=true) (e:(decide (((0:Nat):Int)≤(k:Int)))=true) (c:(decide ((k:Int)<(((List.length s):Nat):Int)))=true) (f:lit true (decide ((k:Int)<(((List.length s):Nat):Int)))=true):ah prog ap [] nt (ae 0 (af f75)) ⟨[(0,.str s),(3,.int .i64 (k:Int))],[],.dead,[]⟩ (.ret) ⟨[(2,.bool false)],[],.dead,[]⟩:=pJ 75 [] 6 63 (.c h0 (.k 1 d (.k 1 b (.c e (.c c (.c f .nil)))))) (.nil) a
theorem amh {nt:Nat} (a:50≤nt) (s:List UInt8) (k:Nat) (h0:lit false (!(((UInt8.toNat (List.getD s (Int.toNat (k:Int)) 0):Nat):Int)==((95:Nat):Int)))=true) (d:lit true (decide (((UInt8.toNat (List.getD s (Int.toNat (k:Int)) 0):Nat):Int)<((48:Nat):Int)))=true) (b:lit true (decide (((UInt8.toNat (List.getD s (Int.toNat (k:Int)) 0):Nat):Int)<((97:Nat):Int)))=true) (e:(decide (((0:Nat):Int)≤(k:Int)))=true) (c:(decide ((k:Int)<(((List.length s):Nat):Int)))=true) (f:lit true (decide ((k:Int)<(((List.length s):Nat):Int)))=true):ah prog ap [] nt (ae 0 (af f75)) ⟨[(0,.str s),(3,.int .i64 (k:Int))],[],.dead,[]⟩ (.normal) ⟨[(0,.str s),(3,.int .i64 (IntKind.wrap .i64 ((k:Int)+((1:Nat):Int))))],[],.dead,[]⟩:=pJ 75 [] 6 31 (.c h0 (.k 1 d (.k 1 b (.c e (.c c (.c f .nil)))))) (.nil) a
theorem ami {nt:Nat} (a:50≤nt) (s:List UInt8) (k:Nat) (h0:lit true (!(((UInt8.toNat (List.getD s (Int.toNat (k:Int)) 0):Nat):Int)==((95:Nat):Int)))=true) (e:lit true (decide (((57:Nat):Int)<((UInt8.toNat (List.getD s (Int.toNat (k:Int)) 0):Nat):Int)))=true) (c:lit false (decide (((UInt8.toNat (List.getD s (Int.toNat (k:Int)) 0):Nat):Int)<((48:Nat):Int)))=true) (f:lit true (decide (((UInt8.toNat (List.getD s (Int.toNat (k:Int)) 0):Nat):Int)<((97:Nat):Int)))=true) (d:(decide (((0:Nat):Int)≤(k:Int)))=true) (g:(decide ((k:Int)<(((List.length s):Nat):Int)))=true) (b:lit true (decide ((k:Int)<(((List.length s):Nat):Int)))=true):ah prog ap [] nt (ae 0 (af f75)) ⟨[(0,.str s),(3,.int .i64 (k:Int))],[],.dead,[]⟩ (.ret) ⟨[(2,.bool false)],[],.dead,[]⟩:=pJ 75 [] 6 55 (.c h0 (.c e (.c c (.k 1 f (.c d (.c g (.c b .nil))))))) (.nil) a
theorem amj {nt:Nat} (a:50≤nt) (s:List UInt8) (k:Nat) (h0:lit false (!(((UInt8.toNat (List.getD s (Int.toNat (k:Int)) 0):Nat):Int)==((95:Nat):Int)))=true) (e:lit true (decide (((57:Nat):Int)<((UInt8.toNat (List.getD s (Int.toNat (k:Int)) 0):Nat):Int)))=true) (c:lit false (decide (((UInt8.toNat (List.getD s (Int.toNat (k:Int)) 0):Nat):Int)<((48:Nat):Int)))=true) (f:lit true (decide (((UInt8.toNat (List.getD s (Int.toNat (k:Int)) 0):Nat):Int)<((97:Nat):Int)))=true) (d:(decide (((0:Nat):Int)≤(k:Int)))=true) (g:(decide ((k:Int)<(((List.length s):Nat):Int)))=true) (b:lit true (decide ((k:Int)<(((List.length s):Nat):Int)))=true):ah prog ap [] nt (ae 0 (af f75)) ⟨[(0,.str s),(3,.int .i64 (k:Int))],[],.dead,[]⟩ (.normal) ⟨[(0,.str s),(3,.int .i64 (IntKind.wrap .i64 ((k:Int)+((1:Nat):Int))))],[],.dead,[]⟩:=pJ 75 [] 6 23 (.c h0 (.c e (.c c (.k 1 f (.c d (.c g (.c b .nil))))))) (.nil) a
theorem amk {nt:Nat} (a:50≤nt) (s:List UInt8) (k:Nat) (h0:lit false (decide (((57:Nat):Int)<((UInt8.toNat (List.getD s (Int.toNat (k:Int)) 0):Nat):Int)))=true) (d:lit false (decide (((UInt8.toNat (List.getD s (Int.toNat (k:Int)) 0):Nat):Int)<((48:Nat):Int)))=true) (b:lit true (decide (((UInt8.toNat (List.getD s (Int.toNat (k:Int)) 0):Nat):Int)<((97:Nat):Int)))=true) (e:(decide (((0:Nat):Int)≤(k:Int)))=true) (c:(decide ((k:Int)<(((List.length s):Nat):Int)))=true) (f:lit true (decide ((k:Int)<(((List.length s):Nat):Int)))=true):ah prog ap [] nt (ae 0 (af f75)) ⟨[(0,.str s),(3,.int .i64 (k:Int))],[],.dead,[]⟩ (.normal) ⟨[(0,.str s),(3,.int .i64 (IntKind.wrap .i64 ((k:Int)+((1:Nat):Int))))],[],.dead,[]⟩:=pJ 75 [] 6 7 (.k 1 h0 (.c d (.k 1 b (.c e (.c c (.c f .nil)))))) (.nil) a
theorem aml {nt:Nat} (a:50≤nt) (s:List UInt8) (k:Nat) (h0:lit true (!(((UInt8.toNat (List.getD s (Int.toNat (k:Int)) 0):Nat):Int)==((95:Nat):Int)))=true) (e:lit true (decide (((UInt8.toNat (List.getD s (Int.toNat (k:Int)) 0):Nat):Int)<((48:Nat):Int)))=true) (c:lit true (decide (((122:Nat):Int)<((UInt8.toNat (List.getD s (Int.toNat (k:Int)) 0):Nat):Int)))=true) (f:lit false (decide (((UInt8.toNat (List.getD s (Int.toNat (k:Int)) 0):Nat):Int)<((97:Nat):Int)))=true) (d:(decide (((0:Nat):Int)≤(k:Int)))=true) (g:(decide ((k:Int)<(((List.length s):Nat):Int)))=true) (b:lit true (decide ((k:Int)<(((List.length s):Nat):Int)))=true):ah prog ap [] nt (ae 0 (af f75)) ⟨[(0,.str s),(3,.int .i64 (k:Int))],[],.dead,[]⟩ (.ret) ⟨[(2,.bool false)],[],.dead,[]⟩:=pJ 75 [] 6 61 (.c h0 (.k 1 e (.c c (.c f (.c d (.c g (.c b .nil))))))) (.nil) a
theorem amm {nt:Nat} (a:50≤nt) (s:List UInt8) (k:Nat) (h0:lit false (!(((UInt8.toNat (List.getD s (Int.toNat (k:Int)) 0):Nat):Int)==((95:Nat):Int)))=true) (e:lit true (decide (((UInt8.toNat (List.getD s (Int.toNat (k:Int)) 0):Nat):Int)<((48:Nat):Int)))=true) (c:lit true (decide (((122:Nat):Int)<((UInt8.toNat (List.getD s (Int.toNat (k:Int)) 0):Nat):Int)))=true) (f:lit false (decide (((UInt8.toNat (List.getD s (Int.toNat (k:Int)) 0):Nat):Int)<((97:Nat):Int)))=true) (d:(decide (((0:Nat):Int)≤(k:Int)))=true) (g:(decide ((k:Int)<(((List.length s):Nat):Int)))=true) (b:lit true (decide ((k:Int)<(((List.length s):Nat):Int)))=true):ah prog ap [] nt (ae 0 (af f75)) ⟨[(0,.str s),(3,.int .i64 (k:Int))],[],.dead,[]⟩ (.normal) ⟨[(0,.str s),(3,.int .i64 (IntKind.wrap .i64 ((k:Int)+((1:Nat):Int))))],[],.dead,[]⟩:=pJ 75 [] 6 29 (.c h0 (.k 1 e (.c c (.c f (.c d (.c g (.c b .nil))))))) (.nil) a
theorem amn {nt:Nat} (a:50≤nt) (s:List UInt8) (k:Nat) (h0:lit true (!(((UInt8.toNat (List.getD s (Int.toNat (k:Int)) 0):Nat):Int)==((95:Nat):Int)))=true) (e:lit true (decide (((57:Nat):Int)<((UInt8.toNat (List.getD s (Int.toNat (k:Int)) 0):Nat):Int)))=true) (c:lit false (decide (((UInt8.toNat (List.getD s (Int.toNat (k:Int)) 0):Nat):Int)<((48:Nat):Int)))=true) (f:lit true (decide (((122:Nat):Int)<((UInt8.toNat (List.getD s (Int.toNat (k:Int)) 0):Nat):Int)))=true) (d:lit false (decide (((UInt8.toNat (List.getD s (Int.toNat (k:Int)) 0):Nat):Int)<((97:Nat):Int)))=true) (g:(decide (((0:Nat):Int)≤(k:Int)))=true) (b:(decide ((k:Int)<(((List.length s):Nat):Int)))=true) (h:lit true (decide ((k:Int)<(((List.length s):Nat):Int)))=true):ah prog ap [] nt (ae 0 (af f75)) ⟨[(0,.str s),(3,.int .i64 (k:Int))],[],.dead,[]⟩ (.ret) ⟨[(2,.bool false)],[],.dead,[]⟩:=pJ 75 [] 6 53 (.c h0 (.c e (.c c (.c f (.c d (.c g (.c b (.c h .nil)))))))) (.nil) a
theorem amo {nt:Nat} (a:50≤nt) (s:List UInt8) (k:Nat) (h0:lit false (!(((UInt8.toNat (List.getD s (Int.toNat (k:Int)) 0):Nat):Int)==((95:Nat):Int)))=true) (e:lit true (decide (((57:Nat):Int)<((UInt8.toNat (List.getD s (Int.toNat (k:Int)) 0):Nat):Int)))=true) (c:lit false (decide (((UInt8.toNat (List.getD s (Int.toNat (k:Int)) 0):Nat):Int)<((48:Nat):Int)))=true) (f:lit true (decide (((122:Nat):Int)<((UInt8.toNat (List.getD s (Int.toNat (k:Int)) 0):Nat):Int)))=true) (d:lit false (decide (((UInt8.toNat (List.getD s (Int.toNat (k:Int)) 0):Nat):Int)<((97:Nat):Int)))=true) (g:(decide (((0:Nat):Int)≤(k:Int)))=true) (b:(decide ((k:Int)<(((List.length s):Nat):Int)))=true) (h:lit true (decide ((k:Int)<(((List.length s):Nat):Int)))=true):ah prog ap [] nt (ae 0 (af f75)) ⟨[(0,.str s),(3,.int .i64 (k:Int))],[],.dead,[]⟩ (.normal) ⟨[(0,.str s),(3,.int .i64 (IntKind.wrap .i64 ((k:Int)+((1:Nat):Int))))],[],.dead,[]⟩:=pJ 75 [] 6 21 (.c h0 (.c e (.c c (.c f (.c d (.c g (.c b (.c h .nil)))))))) (.nil) a
theorem amq {nt:Nat} (a:50≤nt) (s:List UInt8) (k:Nat) (h0:lit false (decide (((57:Nat):Int)<((UInt8.toNat (List.getD s (Int.toNat (k:Int)) 0):Nat):Int)))=true) (e:lit false (decide (((UInt8.toNat (List.getD s (Int.toNat (k:Int)) 0):Nat):Int)<((48:Nat):Int)))=true) (c:lit true (decide (((122:Nat):Int)<((UInt8.toNat (List.getD s (Int.toNat (k:Int)) 0):Nat):Int)))=true) (f:lit false (decide (((UInt8.toNat (List.getD s (Int.toNat (k:Int)) 0):Nat):Int)<((97:Nat):Int)))=true) (d:(decide (((0:Nat):Int)≤(k:Int)))=true) (g:(decide ((k:Int)<(((List.length s):Nat):Int)))=true) (b:lit true (decide ((k:Int)<(((List.length s):Nat):Int)))=true):ah prog ap [] nt (ae 0 (af f75)) ⟨[(0,.str s),(3,.int .i64 (k:Int))],[],.dead,[]⟩ (.normal) ⟨[(0,.str s),(3,.int .i64 (IntKind.wrap .i64 ((k:Int)+((1:Nat):Int))))],[],.dead,[]⟩:=pJ 75 [] 6 5 (.k 1 h0 (.c e (.c c (.c f (.c d (.c g (.c b .nil))))))) (.nil) a
theorem acX {nt:Nat} (a:50≤nt) (s:List UInt8) (k:Nat) (h0:lit false (decide (((122:Nat):Int)<((UInt8.toNat (List.getD s (Int.toNat (k:Int)) 0):Nat):Int)))=true) (d:lit false (decide (((UInt8.toNat (List.getD s (Int.toNat (k:Int)) 0):Nat):Int)<((97:Nat):Int)))=true) (b:(decide (((0:Nat):Int)≤(k:Int)))=true) (e:(decide ((k:Int)<(((List.length s):Nat):Int)))=true) (c:lit true (decide ((k:Int)<(((List.length s):Nat):Int)))=true):ah prog ap [] nt (ae 0 (af f75)) ⟨[(0,.str s),(3,.int .i64 (k:Int))],[],.dead,[]⟩ (.normal) ⟨[(0,.str s),(3,.int .i64 (IntKind.wrap .i64 ((k:Int)+((1:Nat):Int))))],[],.dead,[]⟩:=pJ 75 [] 5 1 (.k 2 h0 (.c d (.c b (.c e (.c c .nil))))) (.nil) a
theorem acY {nt:Nat} (a:50≤nt) (s:List UInt8) (k:Nat) (h0:lit false (decide ((k:Int)<(((List.length s):Nat):Int)))=true):ah prog ap [] nt (ae 0 (af f75)) ⟨[(0,.str s),(3,.int .i64 (k:Int))],[],.dead,[]⟩ (.exit 0) ⟨[],[],.dead,[]⟩:=pJ 75 [] 1 0 (.c h0 .nil) (.nil) a
theorem acR (s:List UInt8) (h0:lit true (decide ((((List.length s):Nat):Int)<((1:Nat):Int)))=true):CO 75 [.str s] (.ret (.bool false)):=pK [0] 4 15 (.k 3 h0 .nil) (.nil)
theorem acS (s:List UInt8) (h0:lit true (decide (((20:Nat):Int)<(((List.length s):Nat):Int)))=true) (a:lit false (decide ((((List.length s):Nat):Int)<((1:Nat):Int)))=true):CO 75 [.str s] (.ret (.bool false)):=pK [0] 4 14 (.k 2 h0 (.c a .nil)) (.nil)
theorem acT (s:List UInt8) (h0:lit true (decide (((UInt8.toNat (List.getD s 0 0):Nat):Int)<((97:Nat):Int)))=true) (b:(decide (((0:Nat):Int)<(((List.length s):Nat):Int)))=true) (a:lit false (decide (((20:Nat):Int)<(((List.length s):Nat):Int)))=true) (c:lit false (decide ((((List.length s):Nat):Int)<((1:Nat):Int)))=true):CO 75 [.str s] (.ret (.bool false)):=pK [0] 4 12 (.k 1 h0 (.k 1 b (.c a (.c c .nil)))) (.nil)
theorem acU (s:List UInt8) (h0:lit true (decide (((122:Nat):Int)<((UInt8.toNat (List.getD s 0 0):Nat):Int)))=true) (a:(decide (((0:Nat):Int)<(((List.length s):Nat):Int)))=true) (b:lit false (decide (((UInt8.toNat (List.getD s 0 0):Nat):Int)<((97:Nat):Int)))=true) (c:lit false (decide (((20:Nat):Int)<(((List.length s):Nat):Int)))=true) (d:lit false (decide ((((List.length s):Nat):Int)<((1:Nat):Int)))=true):CO 75 [.str s] (.ret (.bool false)):=pK [0] 4 8 (.c h0 (.k 1 a (.c b (.k 1 a (.c c (.c d .nil)))))) (.nil)
theorem acV (s:List UInt8) (h0:lit false (decide (((122:Nat):Int)<((UInt8.toNat (List.getD s 0 0):Nat):Int)))=true) (a:(decide (((0:Nat):Int)<(((List.length s):Nat):Int)))=true) (c:lit false (decide (((UInt8.toNat (List.getD s 0 0):Nat):Int)<((97:Nat):Int)))=true) (d:lit false (decide (((20:Nat):Int)<(((List.length s):Nat):Int)))=true) (e:lit false (decide ((((List.length s):Nat):Int)<((1:Nat):Int)))=true) (b:aI prog ap [] 50 (.block 0 (.loop (ae 0 (af f75)))) ⟨[(0,.str s),(2,.bool false),(3,.int .i64 0),(4,.dead),(22,.bool (decide (((122:Nat):Int)<((UInt8.toNat (List.getD s 0 0):Nat):Int)))),(26,.dead),(49,.dead)],[],.dead,[]⟩ (.normal) ⟨[],[],.dead,[]⟩):CO 75 [.str s] (.ret (.bool true)):=pK [0] 4 0 (.c h0 (.k 1 a (.c c (.k 1 a (.c d (.c e .nil)))))) (.l b .nil)
theorem acW (s:List UInt8) (h0:lit false (decide (((122:Nat):Int)<((UInt8.toNat (List.getD s 0 0):Nat):Int)))=true) (a:(decide (((0:Nat):Int)<(((List.length s):Nat):Int)))=true) (c:lit false (decide (((UInt8.toNat (List.getD s 0 0):Nat):Int)<((97:Nat):Int)))=true) (d:lit false (decide (((20:Nat):Int)<(((List.length s):Nat):Int)))=true) (e:lit false (decide ((((List.length s):Nat):Int)<((1:Nat):Int)))=true) (b:aI prog ap [] 50 (.block 0 (.loop (ae 0 (af f75)))) ⟨[(0,.str s),(2,.bool false),(3,.int .i64 0),(4,.dead),(22,.bool (decide (((122:Nat):Int)<((UInt8.toNat (List.getD s 0 0):Nat):Int)))),(26,.dead),(49,.dead)],[],.dead,[]⟩ (.ret) ⟨[(2,.bool false)],[],.dead,[]⟩):CO 75 [.str s] (.ret (.bool false)):=pK [0] 4 0 (.c h0 (.k 1 a (.c c (.k 1 a (.c d (.c e .nil)))))) (.l b .nil)
def qG (s:List UInt8):Bool:= !(s== []) && decide (s.length≤20) && decide (97≤(s.getD 0 0).toNat) && decide ((s.getD 0 0).toNat≤122) && s.all iM
theorem Iw {p:UInt8→Bool}:∀ {l:List UInt8},l.dropWhile p= []↔∀ x ∈ l,p x=true
 | []=>by simp
 |c::l=>by
  rw [List.dropWhile_cons]
  cases h:p c with
  |true=>simp [h,Iw (l:=l)]
  |false=>simp [h]
theorem Wv {s:List UInt8}:(Wn s).dropWhile iM= []↔s.all iM=true:=by
 unfold Wn
 rw [List.all_eq_true]
 constructor
 ·intro h
  have f:∀ x ∈ (s.reverse.dropWhile iM),iM x=true:=by
   intro x a
   exact Iw.1 h x (by simpa using a)
  have e:s.reverse.dropWhile iM= []:=by
   cases b:s.reverse.dropWhile iM with
   |nil=>rfl
   | cons y r=>
    exfalso
    have c:=f y (by rw [b];simp)
    have g:∀ (l:List UInt8),l.dropWhile iM=y::r→iM y=false:=by
     intro l
     induction l with
     |nil=>intro h;simp at h
     | cons z l ih=>
      intro h
      rw [List.dropWhile_cons] at h
      split at h
      ·exact ih h
      ·rename_i d
       cases h
       simpa using d
    rw [g _ b] at c
    cases c
  intro x a
  exact Iw.1 e x (by simpa using a)
 ·intro h
  have:s.reverse.dropWhile iM= []:=Iw.2 fun x a=>h x (by simpa using a)
  rw [this];rfl
theorem adD (s:List UInt8) (hs:s.length<2^40):CO 144 [.str s,.pp Ia 0] (.ret (.str (s.dropWhile iM))):=
 anv s _ Ia (aF.blk (fun nt a=>Zx a s hs) (by simp) rfl (aK.of ⟨rfl,rfl,trivial⟩) (aK.of ⟨rfl,trivial⟩))
theorem adE (s:List UInt8) (hs:s.length<2^40):CO 145 [.str s,.pp Ia 0] (.ret (.str (Wn s))):=
 anz s _ Ia (aF.blk (fun nt a=>ZE a _ s rfl hs) (by simp) rfl (aK.of ⟨rfl,rfl,trivial⟩) (aK.of ⟨rfl,trivial⟩))
theorem ZC (s:List UInt8):(Wn s).length≤s.length:=by
 unfold Wn
 rw [List.length_reverse]
 have:=(List.dropWhile_sublist iM (l:=s.reverse)).length_le
 simpa using this
theorem ZH (s:List UInt8) (hs:s.length<2^40):CO 117 [.str s,.str Qj] (.ret (.str ((Wn s).dropWhile iM))):=by
 by_cases h:s= []
 ·subst h
  exact ZF [] [] [] rfl
 ·have a:=ZC s
  exact ZG s _ _ (by simp [lit,h]) aa3 (adE s hs) (adD _ (by omega))
theorem lD (s:List UInt8):CO 86 [.str s] (.ret (.bool (qG s))):=by
 unfold qG
 by_cases h0:s= []
 ·subst h0;exact Yv [] [] rfl
 ·have a:(s== [])=false:=by simpa using h0
  have c:0<s.length:=by cases s with|nil=>exact absurd rfl h0|cons _ _=>simp
  rw [a]
  by_cases h1:s.length≤20
  ·have b:lit false (decide (((20:Nat):Int)<(s.length:Int)))=true:=by rw [aZ];simp [lit,h1]
   have cl:decide (((0:Nat):Int)<(s.length:Int))=true:=by rw [aZ];exact decide_eq_true c
   rw [decide_eq_true h1]
   by_cases h2:97≤(s.getD 0 0).toNat
   ·rw [decide_eq_true h2]
    have d:lit false (decide (((s.getD 0 0).toNat:Int)<((97:Nat):Int)))=true:=by rw [aZ];simp only [lit,Bool.not_eq_true'];exact decide_eq_false (by omega)
    by_cases h3:(s.getD 0 0).toNat≤122
    ·rw [decide_eq_true h3]
     have f:lit false (decide (((122:Nat):Int)<((s.getD 0 0).toNat:Int)))=true:=by rw [aZ];simp only [lit,Bool.not_eq_true'];exact decide_eq_false (by omega)
     have h:=Yz s _ f cl d b (by rw [a];rfl) (ZH s (by omega))
     have e:((Wn s).dropWhile iM== [])=s.all iM:=by
      rw [Bool.eq_iff_iff,← Wv];simp
     rw [e] at h
     exact h
    ·rw [decide_eq_false h3]
     exact Yy s [] (by rw [aZ];exact decide_eq_true (by omega)) cl d b (by rw [a];rfl)
   ·rw [decide_eq_false h2]
    exact Yx s [] (by rw [aZ];exact decide_eq_true (by omega)) cl b (by rw [a];rfl)
  ·rw [decide_eq_false h1]
   exact Yw s [] (by rw [aZ];exact decide_eq_true (by omega)) (by rw [a];rfl)
def VJ (s:List UInt8) (k:Nat):St:=⟨[(0,.str s),(3,.int .i64 (k:Int))],[],.dead,[]⟩
def VI:Bool→St
 |true=> ⟨[],[],.dead,[]⟩
 |false=> ⟨[(2,.bool false)],[],.dead,[]⟩
def rnE:Bool→bM
 |true=> .exit 0
 |false=> .ret
theorem VK {nt:Nat} (a:50≤nt) (s:List UInt8) (k c:Nat) (u:k<s.length) (hs:s.length<2^40) (b:(s.getD k 0).toNat=c):
  (inN c=true→ah prog ap [] nt (ae 0 (af f75)) (VJ s k) .normal (VJ s (k+1)))∧(inN c=false→ah prog ap [] nt (ae 0 (af f75)) (VJ s k) .ret (VI false)):=by
 have f:inN c=true↔((97≤c∧c≤122)∨(48≤c∧c≤57))∨c=95:=by unfold inN;simp
 unfold VJ VI
 have j:=amg a s k
 simp (disch:=first|omega|(simp [ak,ay]<;>omega)) only [aA,b,jS,bG,eF,fB,aZ,bu,dF] at j
 have l:=amh a s k
 simp (disch:=first|omega|(simp [ak,ay]<;>omega)) only [aA,b,jS,dO,eF,Af,bu,aZ,bG,dF,dB,bz] at l
 have o:=ami a s k
 simp (disch:=first|omega|(simp [ak,ay]<;>omega)) only [aA,b,jS,bG,eF,fB,aZ,bu,dO,dF] at o
 have n:=amj a s k
 simp (disch:=first|omega|(simp [ak,ay]<;>omega)) only [aA,b,jS,dO,eF,Af,bu,aZ,bG,fB,dF,dB,bz] at n
 have q:=amk a s k
 simp (disch:=first|omega|(simp [ak,ay]<;>omega)) only [aA,b,aZ,dO,eF,fB,bG,bu,dF,dB,bz] at q
 have m:=aml a s k
 simp (disch:=first|omega|(simp [ak,ay]<;>omega)) only [aA,b,jS,bG,eF,fB,aZ,bu,dO,dF] at m
 have i:=amm a s k
 simp (disch:=first|omega|(simp [ak,ay]<;>omega)) only [aA,b,jS,dO,eF,Af,bu,aZ,bG,fB,dF,dB,bz] at i
 have p:=amn a s k
 simp (disch:=first|omega|(simp [ak,ay]<;>omega)) only [aA,b,jS,bG,eF,fB,aZ,bu,dO,dF] at p
 have r:=amo a s k
 simp (disch:=first|omega|(simp [ak,ay]<;>omega)) only [aA,b,jS,dO,eF,Af,bu,aZ,bG,fB,dF,dB,bz] at r
 have t:=amq a s k
 simp (disch:=first|omega|(simp [ak,ay]<;>omega)) only [aA,b,aZ,dO,eF,fB,bG,bu,dF,dB,bz] at t
 have e:=acX a s k
 simp (disch:=first|omega|(simp [ak,ay]<;>omega)) only [aA,b,aZ,dO,eF,fB,dF,bu,bG,dB,bz] at e
 constructor
 ·intro g
  have d:=f.1 g
  by_cases h1:c<97<;>by_cases h2:122<c<;>by_cases h3:c<48<;>by_cases h4:57<c<;>by_cases h5:c=95<;>first
   |(exfalso;omega)
   |(apply l<;>omega)
   |(apply n<;>omega)
   |(apply q<;>omega)
   |(apply i<;>omega)
   |(apply r<;>omega)
   |(apply t<;>omega)
   |(apply e<;>omega)
 ·intro g
  have d:¬ (((97≤c∧c≤122)∨(48≤c∧c≤57))∨c=95):=by rw [← f,g];simp
  have w:c ≠ 95:=fun h=>d (.inr h)
  have x:c<97∨122<c:=by
   rcases Nat.lt_or_ge c 97 with h|h
   ·exact .inl h
   ·rcases Nat.lt_or_ge 122 c with h'|h'
    ·exact .inr h'
    ·exact absurd (.inl (.inl ⟨h,h'⟩)) d
  have v:c<48∨57<c:=by
   rcases Nat.lt_or_ge c 48 with h|h
   ·exact .inl h
   ·rcases Nat.lt_or_ge 57 c with h'|h'
    ·exact .inr h'
    ·exact absurd (.inl (.inr ⟨h,h'⟩)) d
  clear d
  by_cases h1:c<97<;>by_cases h2:122<c<;>by_cases h3:c<48<;>by_cases h4:57<c<;>by_cases h5:c=95<;>first
   |(exfalso;omega)
   |(apply j<;>omega)
   |(apply o<;>omega)
   |(apply m<;>omega)
   |(apply p<;>omega)
theorem Y7 {nt:Nat} (b:50≤nt) (s:List UInt8) (hs:s.length<2^40):∀ (r p:List UInt8),p++r=s→aF prog ap [] nt (ae 0 (af f75)) rnE (VJ s) VI p.length (r.all iM):=by
 intro r
 induction r with
 |nil=>
  intro p h
  have hp:p.length=s.length:=by rw [← h];simp
  rw [hp]
  exact .done (acY b s _ (by rw [aZ];simp [lit]))
 | cons c r ih=>
  intro p h
  have i:p.length+(r.length+1)=s.length:=by rw [← h];simp
  have d:s.getD p.length 0=c:=by rw [← h];exact PW rfl
  obtain ⟨g,f⟩:=VK b s p.length c.toNat (by omega) hs (by rw [d])
  rw [List.all_cons]
  have e:iM c=inN c.toNat:=rfl
  cases a:iM c with
  |true=>
   have hnext:=ih (p++ [c]) (by simp [h])
   rw [List.length_append,List.length_singleton] at hnext
   rw [Bool.true_and]
   exact .next (g (e ▸ a)) hnext
  |false=>exact .done (f (e ▸ a))
theorem VL (s:List UInt8):CO 75 [.str s] (.ret (.bool (qG s))):=by
 unfold qG
 by_cases h0:s= []
 ·subst h0;exact acR [] rfl
 ·have c:(s== [])=false:=by simpa using h0
  have e:0<s.length:=by cases s with|nil=>exact absurd rfl h0|cons _ _=>simp
  have a:lit false (decide ((s.length:Int)<((1:Nat):Int)))=true:=by rw [aZ];simp only [lit,Bool.not_eq_true'];exact decide_eq_false (by omega)
  rw [c]
  by_cases h1:s.length≤20
  ·have b:lit false (decide (((20:Nat):Int)<(s.length:Int)))=true:=by rw [aZ];simp [lit,h1]
   have cl:decide (((0:Nat):Int)<(s.length:Int))=true:=by rw [aZ];exact decide_eq_true e
   rw [decide_eq_true h1]
   by_cases h2:97≤(s.getD 0 0).toNat
   ·rw [decide_eq_true h2]
    have d:lit false (decide (((s.getD 0 0).toNat:Int)<((97:Nat):Int)))=true:=by rw [aZ];simp only [lit,Bool.not_eq_true'];exact decide_eq_false (by omega)
    by_cases h3:(s.getD 0 0).toNat≤122
    ·rw [decide_eq_true h3]
     have g:lit false (decide (((122:Nat):Int)<((s.getD 0 0).toNat:Int)))=true:=by rw [aZ];simp only [lit,Bool.not_eq_true'];exact decide_eq_false (by omega)
     have hloop:=fun nt (hn:50≤nt)=>Y7 hn s (by omega) s [] rfl
     cases f:s.all iM with
     |true=>
      rw [f] at hloop
      have h:=acV s g cl d b a
      exact h (aF.blk hloop (by simp [rnE]) rfl (aK.of ⟨rfl,rfl,trivial⟩) (aK.of trivial))
     |false=>
      rw [f] at hloop
      have h:=acW s g cl d b a
      exact h (aF.blk hloop (by simp [rnE]) rfl (aK.of ⟨rfl,rfl,trivial⟩) (aK.of ⟨rfl,trivial⟩))
    ·rw [decide_eq_false h3]
     exact acU s (by rw [aZ];exact decide_eq_true (by omega)) cl d b a
   ·rw [decide_eq_false h2]
    exact acT s (by rw [aZ];exact decide_eq_true (by omega)) cl b a
  ·rw [decide_eq_false h1]
   exact acS s (by rw [aZ];exact decide_eq_true (by omega)) a
def jU:List AV:= [.str [],.int .i64 0,.bool false,.bool false,.bool false,.str [36],.int .i64 0,.bool true,.bool false,.bool false,.str [],.int .i64 0,.bool true,.bool false,.bool false,.str [],.int .i64 0,.bool true,.bool false,.bool false,.str [],.int .i64 0,.bool true,.bool false,.bool false,.str [102,97,99,116,46],.int .i64 0,.bool false,.bool true,.bool false,.str [111,119,110,46],.int .i64 0,.bool false,.bool true,.bool false,.str [112,114,105,111,114,46],.int .i64 0,.bool false,.bool true,.bool false,.str [115,112,111,117,115,101,46],.int .i64 0,.bool false,.bool true,.bool false,.str [97,100,100],.int .i64 2,.bool false,.bool false,.bool false,.str [115,117,98],.int .i64 2,.bool false,.bool false,.bool false,.str [109,117,108],.int .i64 2,.bool false,.bool false,.bool false,.str [100,105,118],.int .i64 2,.bool false,.bool false,.bool false,.str [109,105,110],.int .i64 2,.bool false,.bool false,.bool false,.str [109,97,120],.int .i64 2,.bool false,.bool false,.bool false,.str [105,102],.int .i64 3,.bool false,.bool false,.bool false,.str [108,101,115,115],.int .i64 2,.bool false,.bool false,.bool false,.str [101,113,117,97,108],.int .i64 2,.bool false,.bool false,.bool false,.str [97,110,100],.int .i64 2,.bool false,.bool false,.bool false,.str [111,114],.int .i64 2,.bool false,.bool false,.bool false,.str [110,111,116],.int .i64 1,.bool false,.bool false,.bool false,.str [100,111,119,110],.int .i64 1,.bool false,.bool false,.bool true,.str [117,112],.int .i64 1,.bool false,.bool false,.bool true,.str [110,101,97,114],.int .i64 1,.bool false,.bool false,.bool true,.str [114,97,116,101,46],.int .i64 1,.bool false,.bool true,.bool false]
theorem ak3 (a:Int) (h0:lit true (decide (a<((1:Nat):Int)))=true):CO 82 [.int .i64 a] (.ret (.tup [.agg zcc2_0,.bool false])):=pK [] 2 3 (.k 7 h0 .nil) (.nil)
theorem ak4 (a:Int) (h0:lit true (decide (((24:Nat):Int)<a))=true) (b:lit false (decide (a<((1:Nat):Int)))=true):CO 82 [.int .i64 a] (.ret (.tup [.agg zcc2_0,.bool false])):=pK [] 2 2 (.k 6 h0 (.c b .nil)) (.nil)
theorem ak5 (a:Int) (h0:(gW .str (List.headD (List.drop (0+((Int.toNat a)*5)) jU) .dead))=true) (f:(gW (.int .i64) (List.headD (List.tail (List.drop (0+((Int.toNat a)*5)) jU)) .dead))=true) (d:(gW .bool (List.headD (List.tail (List.tail (List.drop (0+((Int.toNat a)*5)) jU))) .dead))=true) (g:(gW .bool (List.headD (List.tail (List.tail (List.tail (List.drop (0+((Int.toNat a)*5)) jU)))) .dead))=true) (e:(gW .bool (List.headD (List.tail (List.tail (List.tail (List.tail (List.drop (0+((Int.toNat a)*5)) jU))))) .dead))=true) (h:(decide (((0:Nat):Int)≤a))=true) (c:(decide (a<((25:Nat):Int)))=true) (i:lit false (decide (((24:Nat):Int)<a))=true) (b:lit false (decide (a<((1:Nat):Int)))=true):CO 82 [.int .i64 a] (.ret (.tup [.agg [.str (AV.toStr (List.headD (List.drop (0+((Int.toNat a)*5)) jU) .dead)),.int .i64 (AV.toInt (List.headD (List.tail (List.drop (0+((Int.toNat a)*5)) jU)) .dead)),.bool (AV.toBool (List.headD (List.tail (List.tail (List.drop (0+((Int.toNat a)*5)) jU))) .dead)),.bool (AV.toBool (List.headD (List.tail (List.tail (List.tail (List.drop (0+((Int.toNat a)*5)) jU)))) .dead)),.bool (AV.toBool (List.headD (List.tail (List.tail (List.tail (List.tail (List.drop (0+((Int.toNat a)*5)) jU))))) .dead))],.bool true])):=pK [] 2 0 (.k 6 h0 (.c f (.c d (.c g (.c e (.c h (.c c (.c i (.c b .nil))))))))) (.nil)
theorem aaR (a:Int) (h0:lit true (a==((15:Nat):Int))=true):CO 30 [.int .i64 a] (.ret (.int .i64 3)):=pK [] 1 1 (.c h0 .nil) (.nil)
theorem aaS (a:Int) (h0:lit true (decide (a≤((14:Nat):Int)))=true) (c:lit true (decide (((9:Nat):Int)≤a))=true) (b:lit false (a==((15:Nat):Int))=true):CO 30 [.int .i64 a] (.ret (.int .i64 2)):=pK [] 4 14 (.k 1 h0 (.c c (.c b .nil))) (.nil)
theorem aaT (a:Int) (h0:lit true (decide (a≤((19:Nat):Int)))=true) (d:lit true (decide (((16:Nat):Int)≤a))=true) (b:lit false (decide (a≤((14:Nat):Int)))=true) (e:lit true (decide (((9:Nat):Int)≤a))=true) (c:lit false (a==((15:Nat):Int))=true):CO 30 [.int .i64 a] (.ret (.int .i64 2)):=pK [] 5 26 (.c h0 (.c d (.c b (.c e (.c c .nil))))) (.nil)
theorem aaU (a:Int) (h0:lit true (decide (a≤((24:Nat):Int)))=true) (e:lit true (decide (((20:Nat):Int)≤a))=true) (c:lit false (decide (a≤((19:Nat):Int)))=true) (f:lit true (decide (((16:Nat):Int)≤a))=true) (d:lit false (decide (a≤((14:Nat):Int)))=true) (g:lit true (decide (((9:Nat):Int)≤a))=true) (b:lit false (a==((15:Nat):Int))=true):CO 30 [.int .i64 a] (.ret (.int .i64 1)):=pK [] 7 106 (.c h0 (.c e (.c c (.c f (.c d (.c g (.c b .nil))))))) (.nil)
theorem aaV (a:Int) (h0:lit false (decide (a≤((24:Nat):Int)))=true) (e:lit true (decide (((20:Nat):Int)≤a))=true) (c:lit false (decide (a≤((19:Nat):Int)))=true) (f:lit true (decide (((16:Nat):Int)≤a))=true) (d:lit false (decide (a≤((14:Nat):Int)))=true) (g:lit true (decide (((9:Nat):Int)≤a))=true) (b:lit false (a==((15:Nat):Int))=true):CO 30 [.int .i64 a] (.ret (.int .i64 0)):=pK [] 7 42 (.c h0 (.c e (.c c (.c f (.c d (.c g (.c b .nil))))))) (.nil)
theorem aaW (a:Int) (h0:lit false (decide (((20:Nat):Int)≤a))=true) (d:lit false (decide (a≤((19:Nat):Int)))=true) (b:lit true (decide (((16:Nat):Int)≤a))=true) (e:lit false (decide (a≤((14:Nat):Int)))=true) (c:lit true (decide (((9:Nat):Int)≤a))=true) (f:lit false (a==((15:Nat):Int))=true):CO 30 [.int .i64 a] (.ret (.int .i64 0)):=pK [] 7 10 (.k 1 h0 (.c d (.c b (.c e (.c c (.c f .nil)))))) (.nil)
theorem aaX (a:Int) (h0:lit true (decide (a≤((24:Nat):Int)))=true) (d:lit true (decide (((20:Nat):Int)≤a))=true) (b:lit false (decide (((16:Nat):Int)≤a))=true) (e:lit false (decide (a≤((14:Nat):Int)))=true) (c:lit true (decide (((9:Nat):Int)≤a))=true) (f:lit false (a==((15:Nat):Int))=true):CO 30 [.int .i64 a] (.ret (.int .i64 1)):=pK [] 7 98 (.c h0 (.c d (.k 1 b (.c e (.c c (.c f .nil)))))) (.nil)
theorem aaY (a:Int) (h0:lit false (decide (a≤((24:Nat):Int)))=true) (d:lit true (decide (((20:Nat):Int)≤a))=true) (b:lit false (decide (((16:Nat):Int)≤a))=true) (e:lit false (decide (a≤((14:Nat):Int)))=true) (c:lit true (decide (((9:Nat):Int)≤a))=true) (f:lit false (a==((15:Nat):Int))=true):CO 30 [.int .i64 a] (.ret (.int .i64 0)):=pK [] 7 34 (.c h0 (.c d (.k 1 b (.c e (.c c (.c f .nil)))))) (.nil)
theorem aaZ (a:Int) (h0:lit false (decide (((20:Nat):Int)≤a))=true) (d:lit false (decide (((16:Nat):Int)≤a))=true) (b:lit false (decide (a≤((14:Nat):Int)))=true) (e:lit true (decide (((9:Nat):Int)≤a))=true) (c:lit false (a==((15:Nat):Int))=true):CO 30 [.int .i64 a] (.ret (.int .i64 0)):=pK [] 7 2 (.k 1 h0 (.k 1 d (.c b (.c e (.c c .nil))))) (.nil)
theorem aa0 (a:Int) (h0:lit true (decide (a≤((19:Nat):Int)))=true) (c:lit true (decide (((16:Nat):Int)≤a))=true) (b:lit false (decide (((9:Nat):Int)≤a))=true) (d:lit false (a==((15:Nat):Int))=true):CO 30 [.int .i64 a] (.ret (.int .i64 2)):=pK [] 5 24 (.c h0 (.c c (.k 1 b (.c d .nil)))) (.nil)
theorem Xb (a:Int) (h0:lit true (decide (a≤((24:Nat):Int)))=true) (d:lit true (decide (((20:Nat):Int)≤a))=true) (b:lit false (decide (a≤((19:Nat):Int)))=true) (e:lit true (decide (((16:Nat):Int)≤a))=true) (c:lit false (decide (((9:Nat):Int)≤a))=true) (f:lit false (a==((15:Nat):Int))=true):CO 30 [.int .i64 a] (.ret (.int .i64 1)):=pK [] 7 104 (.c h0 (.c d (.c b (.c e (.k 1 c (.c f .nil)))))) (.nil)
theorem Xc (a:Int) (h0:lit false (decide (a≤((24:Nat):Int)))=true) (d:lit true (decide (((20:Nat):Int)≤a))=true) (b:lit false (decide (a≤((19:Nat):Int)))=true) (e:lit true (decide (((16:Nat):Int)≤a))=true) (c:lit false (decide (((9:Nat):Int)≤a))=true) (f:lit false (a==((15:Nat):Int))=true):CO 30 [.int .i64 a] (.ret (.int .i64 0)):=pK [] 7 40 (.c h0 (.c d (.c b (.c e (.k 1 c (.c f .nil)))))) (.nil)
theorem Xd (a:Int) (h0:lit false (decide (((20:Nat):Int)≤a))=true) (d:lit false (decide (a≤((19:Nat):Int)))=true) (b:lit true (decide (((16:Nat):Int)≤a))=true) (e:lit false (decide (((9:Nat):Int)≤a))=true) (c:lit false (a==((15:Nat):Int))=true):CO 30 [.int .i64 a] (.ret (.int .i64 0)):=pK [] 7 8 (.k 1 h0 (.c d (.c b (.k 1 e (.c c .nil))))) (.nil)
theorem Xe (a:Int) (h0:lit true (decide (a≤((24:Nat):Int)))=true) (d:lit true (decide (((20:Nat):Int)≤a))=true) (b:lit false (decide (((16:Nat):Int)≤a))=true) (e:lit false (decide (((9:Nat):Int)≤a))=true) (c:lit false (a==((15:Nat):Int))=true):CO 30 [.int .i64 a] (.ret (.int .i64 1)):=pK [] 7 96 (.c h0 (.c d (.k 1 b (.k 1 e (.c c .nil))))) (.nil)
theorem Xf (a:Int) (h0:lit false (decide (a≤((24:Nat):Int)))=true) (d:lit true (decide (((20:Nat):Int)≤a))=true) (b:lit false (decide (((16:Nat):Int)≤a))=true) (e:lit false (decide (((9:Nat):Int)≤a))=true) (c:lit false (a==((15:Nat):Int))=true):CO 30 [.int .i64 a] (.ret (.int .i64 0)):=pK [] 7 32 (.c h0 (.c d (.k 1 b (.k 1 e (.c c .nil))))) (.nil)
theorem Xg (a:Int) (h0:lit false (decide (((20:Nat):Int)≤a))=true) (c:lit false (decide (((16:Nat):Int)≤a))=true) (b:lit false (decide (((9:Nat):Int)≤a))=true) (d:lit false (a==((15:Nat):Int))=true):CO 30 [.int .i64 a] (.ret (.int .i64 0)):=pK [] 7 0 (.k 1 h0 (.k 1 c (.k 1 b (.c d .nil)))) (.nil)
theorem ab4 (a:Int) (h0:lit true (decide (a≤((8:Nat):Int)))=true) (b:lit true (decide (((5:Nat):Int)≤a))=true):CO 32 [.int .i64 a] (.ret (.bool true)):=pK [] 2 3 (.c h0 (.c b .nil)) (.nil)
theorem ab5 (a:Int) (h0:lit false (decide (a≤((8:Nat):Int)))=true) (b:lit true (decide (((5:Nat):Int)≤a))=true):CO 32 [.int .i64 a] (.ret (.bool (a==((24:Nat):Int)))):=pK [] 2 1 (.c h0 (.c b .nil)) (.nil)
theorem ab6 (a:Int) (h0:lit false (decide (((5:Nat):Int)≤a))=true):CO 32 [.int .i64 a] (.ret (.bool (a==((24:Nat):Int)))):=pK [] 2 0 (.k 1 h0 .nil) (.nil)
theorem abX (a:Int) (h0:lit true (decide (((1:Nat):Int)≤a))=true):CO 94 [.int .i64 a] (.ret (.bool (decide (a≤((4:Nat):Int))))):=pK [] 1 1 (.c h0 .nil) (.nil)
theorem abY (a:Int) (h0:lit false (decide (((1:Nat):Int)≤a))=true):CO 94 [.int .i64 a] (.ret (.bool false)):=pK [] 1 0 (.c h0 .nil) (.nil)
theorem ads (a:Int) (h0:lit true (decide (((21:Nat):Int)≤a))=true):CO 34 [.int .i64 a] (.ret (.bool (decide (a≤((23:Nat):Int))))):=pK [] 1 1 (.c h0 .nil) (.nil)
theorem adt (a:Int) (h0:lit false (decide (((21:Nat):Int)≤a))=true):CO 34 [.int .i64 a] (.ret (.bool false)):=pK [] 1 0 (.c h0 .nil) (.nil)
def dM (op:Int):Nat:=if op=15 then 3 else if (9≤op∧op≤14)∨(16≤op∧op≤19) then 2 else if 20≤op∧op≤24 then 1 else 0
def gI (op:Int):Bool:=decide ((5≤op∧op≤8)∨op=24)
def vM (op:Int):Bool:=decide (1≤op∧op≤4)
def pW (op:Int):Bool:=decide (21≤op∧op≤23)
def WE (op:Int):List UInt8:=AV.toStr (List.headD (List.drop (0+((Int.toNat op)*5)) jU) .dead)
theorem H_ (a:Int):CO 30 [.int .i64 a] (.ret (.int .i64 ((dM a:Nat):Int))):=by
 cases c:(a==((15:Nat):Int)) with
 | true=>
  have h:=aaR a (by rw [c];rfl)
  have e:dM a=3:=by
   clear h
   simp only [decide_eq_true_eq,decide_eq_false_iff_not,beq_iff_eq,beq_eq_false_iff_ne] at*
   unfold dM;(repeat' split)<;>omega
  rw [e];exact h
 | false =>
  cases g:(decide (((9:Nat):Int)≤a)) with
  | true =>
   cases d:(decide (a≤((14:Nat):Int))) with
   | true=>
    have h:=aaS a (by rw [d];rfl) (by rw [g];rfl) (by rw [c];rfl)
    have e:dM a=2:=by
     clear h
     simp only [decide_eq_true_eq,decide_eq_false_iff_not,beq_iff_eq,beq_eq_false_iff_ne] at*
     unfold dM;(repeat' split)<;>omega
    rw [e];exact h
   | false=>
    cases b:(decide (((16:Nat):Int)≤a)) with
    | true=>
     cases f:(decide (a≤((19:Nat):Int))) with
     | true=>
      have h:=aaT a (by rw [f];rfl) (by rw [b];rfl) (by rw [d];rfl) (by rw [g];rfl) (by rw [c];rfl)
      have e:dM a=2:=by
       clear h
       simp only [decide_eq_true_eq,decide_eq_false_iff_not,beq_iff_eq,beq_eq_false_iff_ne] at*
       unfold dM;(repeat' split)<;>omega
      rw [e];exact h
     | false=>
      cases i:(decide (((20:Nat):Int)≤a)) with
      | true=>
       cases j:(decide (a≤((24:Nat):Int))) with
       | true=>
        have h:=aaU a (by rw [j];rfl) (by rw [i];rfl) (by rw [f];rfl) (by rw [b];rfl) (by rw [d];rfl) (by rw [g];rfl) (by rw [c];rfl)
        have e:dM a=1:=by
         clear h
         simp only [decide_eq_true_eq,decide_eq_false_iff_not,beq_iff_eq,beq_eq_false_iff_ne] at*
         unfold dM;(repeat' split)<;>omega
        rw [e];exact h
       | false=>
        have h:=aaV a (by rw [j];rfl) (by rw [i];rfl) (by rw [f];rfl) (by rw [b];rfl) (by rw [d];rfl) (by rw [g];rfl) (by rw [c];rfl)
        have e:dM a=0:=by
         clear h
         simp only [decide_eq_true_eq,decide_eq_false_iff_not,beq_iff_eq,beq_eq_false_iff_ne] at*
         unfold dM;(repeat' split)<;>omega
        rw [e];exact h
      | false=>
       have h:=aaW a (by rw [i];rfl) (by rw [f];rfl) (by rw [b];rfl) (by rw [d];rfl) (by rw [g];rfl) (by rw [c];rfl)
       have e:dM a=0:=by
        clear h
        simp only [decide_eq_true_eq,decide_eq_false_iff_not,beq_iff_eq,beq_eq_false_iff_ne] at*
        unfold dM;(repeat' split)<;>omega
       rw [e];exact h
    | false=>
     cases f:(decide (((20:Nat):Int)≤a)) with
     | true=>
      cases i:(decide (a≤((24:Nat):Int))) with
      | true=>
       have h:=aaX a (by rw [i];rfl) (by rw [f];rfl) (by rw [b];rfl) (by rw [d];rfl) (by rw [g];rfl) (by rw [c];rfl)
       have e:dM a=1:=by
        clear h
        simp only [decide_eq_true_eq,decide_eq_false_iff_not,beq_iff_eq,beq_eq_false_iff_ne] at*
        unfold dM;(repeat' split)<;>omega
       rw [e];exact h
      | false=>
       have h:=aaY a (by rw [i];rfl) (by rw [f];rfl) (by rw [b];rfl) (by rw [d];rfl) (by rw [g];rfl) (by rw [c];rfl)
       have e:dM a=0:=by
        clear h
        simp only [decide_eq_true_eq,decide_eq_false_iff_not,beq_iff_eq,beq_eq_false_iff_ne] at*
        unfold dM;(repeat' split)<;>omega
       rw [e];exact h
     | false=>
      have h:=aaZ a (by rw [f];rfl) (by rw [b];rfl) (by rw [d];rfl) (by rw [g];rfl) (by rw [c];rfl)
      have e:dM a=0:=by
       clear h
       simp only [decide_eq_true_eq,decide_eq_false_iff_not,beq_iff_eq,beq_eq_false_iff_ne] at*
       unfold dM;(repeat' split)<;>omega
      rw [e];exact h
  | false=>
   cases d:(decide (((16:Nat):Int)≤a)) with
   | true=>
    cases b:(decide (a≤((19:Nat):Int))) with
    | true=>
     have h:=aa0 a (by rw [b];rfl) (by rw [d];rfl) (by rw [g];rfl) (by rw [c];rfl)
     have e:dM a=2:=by
      clear h
      simp only [decide_eq_true_eq,decide_eq_false_iff_not,beq_iff_eq,beq_eq_false_iff_ne] at*
      unfold dM;(repeat' split)<;>omega
     rw [e];exact h
    | false=>
     cases f:(decide (((20:Nat):Int)≤a)) with
     | true=>
      cases i:(decide (a≤((24:Nat):Int))) with
      | true=>
       have h:=Xb a (by rw [i];rfl) (by rw [f];rfl) (by rw [b];rfl) (by rw [d];rfl) (by rw [g];rfl) (by rw [c];rfl)
       have e:dM a=1:=by
        clear h
        simp only [decide_eq_true_eq,decide_eq_false_iff_not,beq_iff_eq,beq_eq_false_iff_ne] at*
        unfold dM;(repeat' split)<;>omega
       rw [e];exact h
      | false=>
       have h:=Xc a (by rw [i];rfl) (by rw [f];rfl) (by rw [b];rfl) (by rw [d];rfl) (by rw [g];rfl) (by rw [c];rfl)
       have e:dM a=0:=by
        clear h
        simp only [decide_eq_true_eq,decide_eq_false_iff_not,beq_iff_eq,beq_eq_false_iff_ne] at*
        unfold dM;(repeat' split)<;>omega
       rw [e];exact h
     | false=>
      have h:=Xd a (by rw [f];rfl) (by rw [b];rfl) (by rw [d];rfl) (by rw [g];rfl) (by rw [c];rfl)
      have e:dM a=0:=by
       clear h
       simp only [decide_eq_true_eq,decide_eq_false_iff_not,beq_iff_eq,beq_eq_false_iff_ne] at*
       unfold dM;(repeat' split)<;>omega
      rw [e];exact h
   | false=>
    cases b:(decide (((20:Nat):Int)≤a)) with
    | true=>
     cases f:(decide (a≤((24:Nat):Int))) with
     | true=>
      have h:=Xe a (by rw [f];rfl) (by rw [b];rfl) (by rw [d];rfl) (by rw [g];rfl) (by rw [c];rfl)
      have e:dM a=1:=by
       clear h
       simp only [decide_eq_true_eq,decide_eq_false_iff_not,beq_iff_eq,beq_eq_false_iff_ne] at*
       unfold dM;(repeat' split)<;>omega
      rw [e];exact h
     | false=>
      have h:=Xf a (by rw [f];rfl) (by rw [b];rfl) (by rw [d];rfl) (by rw [g];rfl) (by rw [c];rfl)
      have e:dM a=0:=by
       clear h
       simp only [decide_eq_true_eq,decide_eq_false_iff_not,beq_iff_eq,beq_eq_false_iff_ne] at*
       unfold dM;(repeat' split)<;>omega
      rw [e];exact h
    | false=>
     have h:=Xg a (by rw [b];rfl) (by rw [d];rfl) (by rw [g];rfl) (by rw [c];rfl)
     have e:dM a=0:=by
      clear h
      simp only [decide_eq_true_eq,decide_eq_false_iff_not,beq_iff_eq,beq_eq_false_iff_ne] at*
      unfold dM;(repeat' split)<;>omega
     rw [e];exact h
theorem IV (a:Int):CO 32 [.int .i64 a] (.ret (.bool (gI a))):=by
 cases b:(decide (((5:Nat):Int)≤a)) with
 | true=>
  cases c:(decide (a≤((8:Nat):Int))) with
  | true=>
   have h:=ab4 a (by rw [c];rfl) (by rw [b];rfl)
   have e:gI a=true:=by
    clear h
    simp only [decide_eq_true_eq,decide_eq_false_iff_not,beq_iff_eq,beq_eq_false_iff_ne] at*
    unfold gI;first|(rw [decide_eq_true_eq];omega)|(rw [Bool.eq_iff_iff];simp only [decide_eq_true_eq,beq_iff_eq];omega)
   rw [e];exact h
  | false=>
   have h:=ab5 a (by rw [c];rfl) (by rw [b];rfl)
   have e:gI a=(a==((24:Nat):Int)):=by
    clear h
    simp only [decide_eq_true_eq,decide_eq_false_iff_not,beq_iff_eq,beq_eq_false_iff_ne] at*
    unfold gI;first|(rw [decide_eq_true_eq];omega)|(rw [Bool.eq_iff_iff];simp only [decide_eq_true_eq,beq_iff_eq];omega)
   rw [e];exact h
 | false=>
  have h:=ab6 a (by rw [b];rfl)
  have e:gI a=(a==((24:Nat):Int)):=by
   clear h
   simp only [decide_eq_true_eq,decide_eq_false_iff_not,beq_iff_eq,beq_eq_false_iff_ne] at*
   unfold gI;first|(rw [decide_eq_true_eq];omega)|(rw [Bool.eq_iff_iff];simp only [decide_eq_true_eq,beq_iff_eq];omega)
  rw [e];exact h
theorem Bl (a:Int):CO 94 [.int .i64 a] (.ret (.bool (vM a))):=by
 cases b:(decide (((1:Nat):Int)≤a)) with
 | true=>
  have h:=abX a (by rw [b];rfl)
  have e:vM a=(decide (a≤((4:Nat):Int))):=by
   clear h
   simp only [decide_eq_true_eq,decide_eq_false_iff_not,beq_iff_eq,beq_eq_false_iff_ne] at*
   unfold vM;first|(rw [decide_eq_false_iff_not];omega)|(rw [Bool.eq_iff_iff];simp only [decide_eq_true_eq,beq_iff_eq];omega)
  rw [e];exact h
 | false=>
  have h:=abY a (by rw [b];rfl)
  have e:vM a=false:=by
   clear h
   simp only [decide_eq_true_eq,decide_eq_false_iff_not,beq_iff_eq,beq_eq_false_iff_ne] at*
   unfold vM;first|(rw [decide_eq_false_iff_not];omega)|(rw [Bool.eq_iff_iff];simp only [decide_eq_true_eq,beq_iff_eq];omega)
  rw [e];exact h
theorem BD (a:Int):CO 34 [.int .i64 a] (.ret (.bool (pW a))):=by
 cases b:(decide (((21:Nat):Int)≤a)) with
 | true=>
  have h:=ads a (by rw [b];rfl)
  have e:pW a=(decide (a≤((23:Nat):Int))):=by
   clear h
   simp only [decide_eq_true_eq,decide_eq_false_iff_not,beq_iff_eq,beq_eq_false_iff_ne] at*
   unfold pW;first|(rw [decide_eq_false_iff_not];omega)|(rw [Bool.eq_iff_iff];simp only [decide_eq_true_eq,beq_iff_eq];omega)
  rw [e];exact h
 | false=>
  have h:=adt a (by rw [b];rfl)
  have e:pW a=false:=by
   clear h
   simp only [decide_eq_true_eq,decide_eq_false_iff_not,beq_iff_eq,beq_eq_false_iff_ne] at*
   unfold pW;first|(rw [decide_eq_false_iff_not];omega)|(rw [Bool.eq_iff_iff];simp only [decide_eq_true_eq,beq_iff_eq];omega)
  rw [e];exact h
theorem KT {a:Int} (h:1≤a) (b:a≤24):a=1∨a=2∨a=3∨a=4∨a=5∨a=6∨a=7∨a=8∨a=9∨a=10∨a=11∨a=12∨a=13∨a=14∨a=15∨a=16∨a=17∨a=18∨a=19∨a=20∨a=21∨a=22∨a=23∨a=24:=by omega
abbrev shA (op:Int):AV:= .agg [.str (WE op),.int .i64 ((dM op:Nat):Int),.bool (vM op),.bool (gI op),.bool (pW op)]
theorem ak9 {a:Int} (h:1≤a) (b:a≤24):CO 82 [.int .i64 a] (.ret (.tup [shA a,.bool true])):=by
 rcases KT h b with rfl|rfl|rfl|rfl|rfl|rfl|rfl|rfl|rfl|rfl|rfl|rfl|rfl|rfl|rfl|rfl|rfl|rfl|rfl|rfl|rfl|rfl|rfl|rfl
 all_goals exact ak5 _ rfl rfl rfl rfl rfl rfl rfl rfl rfl
theorem ace {a:Int} (h:a<1∨24<a):CO 82 [.int .i64 a] (.ret (.tup [.agg zcc2_0,.bool false])):=by
 by_cases h1:a<1
 ·exact ak3 a (by simp [lit];omega)
 ·exact ak4 a (by simp [lit];omega) (by simp [lit];omega)
theorem Ox {a:Int} (h:1≤a) (b:a≤24):List.headD (List.drop (a.toNat*5+1) jU) .dead= .int .i64 ((dM a:Nat):Int):=by
 rcases KT h b with rfl|rfl|rfl|rfl|rfl|rfl|rfl|rfl|rfl|rfl|rfl|rfl|rfl|rfl|rfl|rfl|rfl|rfl|rfl|rfl|rfl|rfl|rfl|rfl
 all_goals rfl
def Jr (op:Int):Bool:=decide (1≤op∧op≤24)
theorem dh (a:Int):CO 82 [.int .i64 a] (.ret (.tup [shA a,.bool (Jr a)])):=by
 by_cases h:1≤a∧a≤24
 ·have e:Jr a=true:=decide_eq_true h
  rw [e];exact ak9 h.1 h.2
 ·have e:Jr a=false:=decide_eq_false h
  have f:dM a=0:=by unfold dM;(repeat' split)<;>omega
  have g:vM a=false:=by unfold vM;rw [decide_eq_false_iff_not];omega
  have d:gI a=false:=by unfold gI;rw [decide_eq_false_iff_not];omega
  have c:pW a=false:=by unfold pW;rw [decide_eq_false_iff_not];omega
  have b:WE a= []:=by
   unfold WE
   by_cases h1:a<1
   ·have:a.toNat=0:=by omega
    rw [this];rfl
   ·have i:jU.length=125:=by decide
    rw [List.drop_of_length_le (by omega)];rfl
  unfold shA
  rw [e,f,g,d,c,b]
  exact ace (by omega)
structure Nd where
 op:Int
 neg:Bool
 num:List UInt8
 den:List UInt8
 name:List UInt8
def iZ (x:Nd):List AV:= [.int .i64 x.op,.bool x.neg,.str x.num,.str x.den,.str x.name]
def Nd.sm (x:Nd):Prop:=x.num.length<2^33∧x.den.length<2^33
def f_ (x:Nd):Bool:=cond (x.op==((4:Nat):Int)) (sW x.neg x.num x.den 0||sW x.neg x.num x.den 1) (cond (vM x.op) (iY x.neg x.num x.den) (cond (pW x.op) (iY x.neg x.num x.den && decide (((0:Nat):Int)<fZ x.neg x.num x.den)) ((x.neg==false) && ((x.num== []) && ((x.den== []) && true)))))
def aJ (x:Nd):Int:=cond (!Jr x.op||(!gI x.op && !(x.name== []))) 11 (cond (!f_ x) 11 (cond (gI x.op && !qG x.name) 12 0))
theorem WF (x:Nd) (c:x.sm):CO 52 [.agg (iZ x)] (.ret (.int .i64 (aJ x))):=by
 have a:x.num.length<2^36:=Nat.lt_trans c.1 (by decide)
 have b:x.den.length<2^36:=Nat.lt_trans c.2 (by decide)
 rcases tf (Jr x.op) with b0|b0
 ·rcases tf (gI x.op) with b1|b1
  ·rcases tf (x.op==((4:Nat):Int)) with b2|b2
   ·rcases tf ((x.neg==false) && ((x.num==(ag 0)) && ((x.den==(ag 1)) && true))) with b3|b3
    ·rcases tf (qG x.name) with b4|b4
     ·rw [show aJ x=0 by simp only [aJ,f_,sW,b0,b1,b2,b3,b4]<;>rfl]
      exact pK [] 8 88 (.c (aS b4) (.k 1 (aC b1) (.k 2 (aC b3) (.k 3 (aC b2) (.k 2 (aS b1) (.k 1 (aS b0) (.n 2 .nil))))))) (.c (lD x.name) (.c (nT) (.c (dh x.op) .nil)))
     ·rw [show aJ x=12 by simp only [aJ,f_,sW,b0,b1,b2,b3,b4]<;>rfl]
      exact pK [] 8 216 (.c (dK b4) (.k 1 (aC b1) (.k 2 (aC b3) (.k 3 (aC b2) (.k 2 (aS b1) (.k 1 (aS b0) (.n 2 .nil))))))) (.c (lD x.name) (.c (nT) (.c (dh x.op) .nil)))
    ·rcases tf ((x.neg==false) && ((x.num==(ag 1)) && ((x.den==(ag 1)) && true))) with b4|b4
     ·rcases tf (qG x.name) with b5|b5
      ·rw [show aJ x=0 by simp only [aJ,f_,sW,b0,b1,b2,b3,b4,b5]<;>rfl]
       exact pK [] 8 72 (.c (aS b5) (.k 1 (aC b1) (.k 1 (aS b4) (.k 3 (aB b3) (.k 3 (aC b2) (.k 2 (aS b1) (.k 1 (aS b0) (.n 2 .nil)))))))) (.c (lD x.name) (.c (Ej) (.c (nT) (.c (dh x.op) .nil))))
      ·rw [show aJ x=12 by simp only [aJ,f_,sW,b0,b1,b2,b3,b4,b5]<;>rfl]
       exact pK [] 8 200 (.c (dK b5) (.k 1 (aC b1) (.k 1 (aS b4) (.k 3 (aB b3) (.k 3 (aC b2) (.k 2 (aS b1) (.k 1 (aS b0) (.n 2 .nil)))))))) (.c (lD x.name) (.c (Ej) (.c (nT) (.c (dh x.op) .nil))))
     ·rw [show aJ x=11 by simp only [aJ,f_,sW,b0,b1,b2,b3,b4]<;>rfl]
      exact pK [] 6 40 (.c (dK b4) (.k 3 (aB b3) (.k 3 (aC b2) (.k 2 (aS b1) (.k 1 (aS b0) (.n 2 .nil)))))) (.c (Ej) (.c (nT) (.c (dh x.op) .nil)))
   ·rcases tf (vM x.op) with b3|b3
    ·rcases tf (iY x.neg x.num x.den) with b4|b4
     ·rcases tf (qG x.name) with b5|b5
      ·rw [show aJ x=0 by simp only [aJ,f_,sW,b0,b1,b2,b3,b4,b5]<;>rfl]
       exact pK [] 8 80 (.c (aS b5) (.k 1 (aC b1) (.k 1 (aS b4) (.k 3 (aC b3) (.k 1 (aB b2) (.k 2 (aS b1) (.k 1 (aS b0) (.n 2 .nil)))))))) (.c (lD x.name) (.c (jb x.neg x.num x.den a b) (.c (dh x.op) .nil)))
      ·rw [show aJ x=12 by simp only [aJ,f_,sW,b0,b1,b2,b3,b4,b5]<;>rfl]
       exact pK [] 8 208 (.c (dK b5) (.k 1 (aC b1) (.k 1 (aS b4) (.k 3 (aC b3) (.k 1 (aB b2) (.k 2 (aS b1) (.k 1 (aS b0) (.n 2 .nil)))))))) (.c (lD x.name) (.c (jb x.neg x.num x.den a b) (.c (dh x.op) .nil)))
     ·rw [show aJ x=11 by simp only [aJ,f_,sW,b0,b1,b2,b3,b4]<;>rfl]
      exact pK [] 6 48 (.c (dK b4) (.k 3 (aC b3) (.k 1 (aB b2) (.k 2 (aS b1) (.k 1 (aS b0) (.n 2 .nil)))))) (.c (jb x.neg x.num x.den a b) (.c (dh x.op) .nil))
    ·rcases tf (pW x.op) with b4|b4
     ·rcases tf (iY x.neg x.num x.den) with b5|b5
      ·rcases tf (decide (((0:Nat):Int)<(fZ x.neg x.num x.den))) with b6|b6
       ·rcases tf (qG x.name) with b7|b7
        ·rw [show aJ x=0 by simp only [aJ,f_,sW,b0,b1,b2,b3,b4,b5,b6,b7]<;>rfl]
         exact pK [] 10 352 (.c (aS b7) (.k 1 (aC b1) (.k 1 (aS b6) (.k 3 (aC b5) (.k 3 (aC b4) (.k 1 (aB b3) (.k 1 (aB b2) (.k 2 (aS b1) (.k 1 (aS b0) (.n 2 .nil)))))))))) (.c (lD x.name) (.c (fG x.neg x.num x.den a b) (.c (jb x.neg x.num x.den a b) (.c (dh x.op) .nil))))
        ·rw [show aJ x=12 by simp only [aJ,f_,sW,b0,b1,b2,b3,b4,b5,b6,b7]<;>rfl]
         exact pK [] 10 864 (.c (dK b7) (.k 1 (aC b1) (.k 1 (aS b6) (.k 3 (aC b5) (.k 3 (aC b4) (.k 1 (aB b3) (.k 1 (aB b2) (.k 2 (aS b1) (.k 1 (aS b0) (.n 2 .nil)))))))))) (.c (lD x.name) (.c (fG x.neg x.num x.den a b) (.c (jb x.neg x.num x.den a b) (.c (dh x.op) .nil))))
       ·rw [show aJ x=11 by simp only [aJ,f_,sW,b0,b1,b2,b3,b4,b5,b6]<;>rfl]
        exact pK [] 8 224 (.c (dK b6) (.k 3 (aC b5) (.k 3 (aC b4) (.k 1 (aB b3) (.k 1 (aB b2) (.k 2 (aS b1) (.k 1 (aS b0) (.n 2 .nil)))))))) (.c (fG x.neg x.num x.den a b) (.c (jb x.neg x.num x.den a b) (.c (dh x.op) .nil)))
      ·rw [show aJ x=11 by simp only [aJ,f_,sW,b0,b1,b2,b3,b4,b5]<;>rfl]
       exact pK [] 8 160 (.k 1 (aB b5) (.k 3 (aC b4) (.k 1 (aB b3) (.k 1 (aB b2) (.k 2 (aS b1) (.k 1 (aS b0) (.n 2 .nil))))))) (.c (jb x.neg x.num x.den a b) (.c (dh x.op) .nil))
     ·rcases tf ((x.neg==false) && ((x.num== []) && ((x.den== []) && true))) with b5|b5
      ·rcases tf (qG x.name) with b6|b6
       ·rw [show aJ x=0 by simp only [aJ,f_,sW,b0,b1,b2,b3,b4,b5,b6]<;>rfl]
        exact pK [] 9 128 (.c (aS b6) (.k 1 (aC b1) (.k 1 (aS b5) (.k 3 (aB b4) (.k 1 (aB b3) (.k 1 (aB b2) (.k 2 (aS b1) (.k 1 (aS b0) (.n 2 .nil))))))))) (.c (lD x.name) (.c (dh x.op) .nil))
       ·rw [show aJ x=12 by simp only [aJ,f_,sW,b0,b1,b2,b3,b4,b5,b6]<;>rfl]
        exact pK [] 9 384 (.c (dK b6) (.k 1 (aC b1) (.k 1 (aS b5) (.k 3 (aB b4) (.k 1 (aB b3) (.k 1 (aB b2) (.k 2 (aS b1) (.k 1 (aS b0) (.n 2 .nil))))))))) (.c (lD x.name) (.c (dh x.op) .nil))
      ·rw [show aJ x=11 by simp only [aJ,f_,sW,b0,b1,b2,b3,b4,b5]<;>rfl]
       exact pK [] 7 64 (.c (dK b5) (.k 3 (aB b4) (.k 1 (aB b3) (.k 1 (aB b2) (.k 2 (aS b1) (.k 1 (aS b0) (.n 2 .nil))))))) (.c (dh x.op) .nil)
  ·rcases tf (x.name== []) with b2|b2
   ·rcases tf (x.op==((4:Nat):Int)) with b3|b3
    ·rcases tf ((x.neg==false) && ((x.num==(ag 0)) && ((x.den==(ag 1)) && true))) with b4|b4
     ·rw [show aJ x=0 by simp only [aJ,f_,sW,b0,b1,b2,b3,b4]<;>rfl]
      exact pK [] 8 26 (.k 1 (aB b1) (.k 2 (aC b4) (.k 3 (aC b3) (.k 1 (aS b2) (.k 1 (dK b1) (.k 1 (aS b0) (.n 2 .nil))))))) (.c (nT) (.c (dh x.op) .nil))
     ·rcases tf ((x.neg==false) && ((x.num==(ag 1)) && ((x.den==(ag 1)) && true))) with b5|b5
      ·rw [show aJ x=0 by simp only [aJ,f_,sW,b0,b1,b2,b3,b4,b5]<;>rfl]
       exact pK [] 8 10 (.k 1 (aB b1) (.k 1 (aS b5) (.k 3 (aB b4) (.k 3 (aC b3) (.k 1 (aS b2) (.k 1 (dK b1) (.k 1 (aS b0) (.n 2 .nil)))))))) (.c (Ej) (.c (nT) (.c (dh x.op) .nil)))
      ·rw [show aJ x=11 by simp only [aJ,f_,sW,b0,b1,b2,b3,b4,b5]<;>rfl]
       exact pK [] 6 42 (.c (dK b5) (.k 3 (aB b4) (.k 3 (aC b3) (.k 1 (aS b2) (.k 1 (dK b1) (.k 1 (aS b0) (.n 2 .nil))))))) (.c (Ej) (.c (nT) (.c (dh x.op) .nil)))
    ·rcases tf (vM x.op) with b4|b4
     ·rcases tf (iY x.neg x.num x.den) with b5|b5
      ·rw [show aJ x=0 by simp only [aJ,f_,sW,b0,b1,b2,b3,b4,b5]<;>rfl]
       exact pK [] 8 18 (.k 1 (aB b1) (.k 1 (aS b5) (.k 3 (aC b4) (.k 1 (aB b3) (.k 1 (aS b2) (.k 1 (dK b1) (.k 1 (aS b0) (.n 2 .nil)))))))) (.c (jb x.neg x.num x.den a b) (.c (dh x.op) .nil))
      ·rw [show aJ x=11 by simp only [aJ,f_,sW,b0,b1,b2,b3,b4,b5]<;>rfl]
       exact pK [] 6 50 (.c (dK b5) (.k 3 (aC b4) (.k 1 (aB b3) (.k 1 (aS b2) (.k 1 (dK b1) (.k 1 (aS b0) (.n 2 .nil))))))) (.c (jb x.neg x.num x.den a b) (.c (dh x.op) .nil))
     ·rcases tf (pW x.op) with b5|b5
      ·rcases tf (iY x.neg x.num x.den) with b6|b6
       ·rcases tf (decide (((0:Nat):Int)<(fZ x.neg x.num x.den))) with b7|b7
        ·rw [show aJ x=0 by simp only [aJ,f_,sW,b0,b1,b2,b3,b4,b5,b6,b7]<;>rfl]
         exact pK [] 10 98 (.k 1 (aB b1) (.k 1 (aS b7) (.k 3 (aC b6) (.k 3 (aC b5) (.k 1 (aB b4) (.k 1 (aB b3) (.k 1 (aS b2) (.k 1 (dK b1) (.k 1 (aS b0) (.n 2 .nil)))))))))) (.c (fG x.neg x.num x.den a b) (.c (jb x.neg x.num x.den a b) (.c (dh x.op) .nil)))
        ·rw [show aJ x=11 by simp only [aJ,f_,sW,b0,b1,b2,b3,b4,b5,b6,b7]<;>rfl]
         exact pK [] 8 226 (.c (dK b7) (.k 3 (aC b6) (.k 3 (aC b5) (.k 1 (aB b4) (.k 1 (aB b3) (.k 1 (aS b2) (.k 1 (dK b1) (.k 1 (aS b0) (.n 2 .nil))))))))) (.c (fG x.neg x.num x.den a b) (.c (jb x.neg x.num x.den a b) (.c (dh x.op) .nil)))
       ·rw [show aJ x=11 by simp only [aJ,f_,sW,b0,b1,b2,b3,b4,b5,b6]<;>rfl]
        exact pK [] 8 162 (.k 1 (aB b6) (.k 3 (aC b5) (.k 1 (aB b4) (.k 1 (aB b3) (.k 1 (aS b2) (.k 1 (dK b1) (.k 1 (aS b0) (.n 2 .nil)))))))) (.c (jb x.neg x.num x.den a b) (.c (dh x.op) .nil))
      ·rcases tf ((x.neg==false) && ((x.num== []) && ((x.den== []) && true))) with b6|b6
       ·rw [show aJ x=0 by simp only [aJ,f_,sW,b0,b1,b2,b3,b4,b5,b6]<;>rfl]
        exact pK [] 9 2 (.k 1 (aB b1) (.k 1 (aS b6) (.k 3 (aB b5) (.k 1 (aB b4) (.k 1 (aB b3) (.k 1 (aS b2) (.k 1 (dK b1) (.k 1 (aS b0) (.n 2 .nil))))))))) (.c (dh x.op) .nil)
       ·rw [show aJ x=11 by simp only [aJ,f_,sW,b0,b1,b2,b3,b4,b5,b6]<;>rfl]
        exact pK [] 7 66 (.c (dK b6) (.k 3 (aB b5) (.k 1 (aB b4) (.k 1 (aB b3) (.k 1 (aS b2) (.k 1 (dK b1) (.k 1 (aS b0) (.n 2 .nil)))))))) (.c (dh x.op) .nil)
   ·rw [show aJ x=11 by simp only [aJ,f_,sW,b0,b1,b2]<;>rfl]
    exact pK [] 3 6 (.c (dK b2) (.k 1 (dK b1) (.k 1 (aS b0) (.n 2 .nil)))) (.c (dh x.op) .nil)
 ·rw [show aJ x=11 by simp only [aJ,f_,sW,b0]<;>rfl]
  exact pK [] 2 3 (.k 1 (dK b0) (.n 2 .nil)) (.c (dh x.op) .nil)
theorem KR (x:Nd) (a:x.sm):CO 74 [.agg (iZ x)] (.ret (.bool (f_ x))):=by
 rcases tf (x.op==((4:Nat):Int)) with b0|b0
 ·rcases tf ((x.neg==false) && ((x.num==(ag 0)) && ((x.den==(ag 1)) && true))) with b1|b1
  ·rw [show f_ x=true by simp only [f_,sW,b0,b1]<;>rfl]
   exact pK [] 2 3 (.c (aC b1) (.k 3 (aC b0) (.n 1 .nil))) (.c (aav) .nil)
  ·rw [show f_ x=((x.neg==false) && ((x.num==(ag 1)) && ((x.den==(ag 1)) && true))) by simp only [f_,sW,b0,b1]<;>rfl]
   exact pK [] 2 1 (.k 3 (aB b1) (.k 3 (aC b0) (.n 1 .nil))) (.c (als) (.c (aav) .nil))
 ·rcases tf (vM x.op) with b1|b1
  ·rw [show f_ x=(iY x.neg x.num x.den) by simp only [f_,sW,b0,b1]<;>rfl]
   exact pK [] 2 2 (.k 3 (aC b1) (.k 1 (aB b0) (.n 1 .nil))) (.c (iU x.neg x.num x.den a.1 a.2) (.c (Bl x.op) .nil))
  ·rcases tf (pW x.op) with b2|b2
   ·rcases tf (iY x.neg x.num x.den) with b3|b3
    ·rw [show f_ x=(decide (((0:Nat):Int)<(fZ x.neg x.num x.den))) by simp only [f_,sW,b0,b1,b2,b3]<;>rfl]
     exact pK [] 4 12 (.k 3 (aC b3) (.k 3 (aC b2) (.k 1 (aB b1) (.k 1 (aB b0) (.n 1 .nil))))) (.c (fM x.neg x.num x.den a.1 a.2) (.c (iU x.neg x.num x.den a.1 a.2) (.c (BD x.op) (.c (Bl x.op) .nil))))
    ·rw [show f_ x=false by simp only [f_,sW,b0,b1,b2,b3]<;>rfl]
     exact pK [] 4 4 (.c (aB b3) (.k 3 (aC b2) (.k 1 (aB b1) (.k 1 (aB b0) (.n 1 .nil))))) (.c (iU x.neg x.num x.den a.1 a.2) (.c (BD x.op) (.c (Bl x.op) .nil)))
   ·rw [show f_ x=((x.neg==false) && ((x.num== []) && ((x.den== []) && true))) by simp only [f_,sW,b0,b1,b2]<;>rfl]
    exact pK [] 3 0 (.k 3 (aB b2) (.k 1 (aB b1) (.k 1 (aB b0) (.n 1 .nil)))) (.c (BD x.op) (.c (Bl x.op) .nil))
def aH (l:List Nd):List AV:=l.flatMap iZ
theorem aou {nt:Nat} (c:35≤nt) (l:List Nd) (b:Bool) (k d:Nat) (w:Int) (x:Nd) (r:List Nd) (a:(List.drop ((Int.toNat (k:Int))*5) (aH l))=iZ x++aH r) (h0:lit true (!(w==((0:Nat):Int)))=true) (e:(decide (((0:Nat):Int)≤(k:Int)))=true) (f:(decide ((k:Int)<(l.length:Int)))=true) (g:lit true (decide ((k:Int)<(l.length:Int)))=true) (i:CO 52 [.agg [.int .i64 x.op,.bool x.neg,.str x.num,.str x.den,.str x.name]] (.ret (.int .i64 w))):ah prog ap [] nt (ae 0 (af f21)) ⟨[(10,.sl (aH l) l.length b),(11,.int .i64 (l.length:Int)),(12,.int .i64 (k:Int)),(3,.int .i64 (d:Int))],[],.dead,[]⟩ (.ret) ⟨[(2,.int .i64 w)],[],.dead,[]⟩:=
 have h:ah prog ap [] nt (ae 0 (af f21)) ⟨[(10,.sl (aH l) l.length b),(11,.int .i64 (l.length:Int)),(12,.int .i64 (k:Int)),(3,.int .i64 (d:Int))],[],.dead,[]⟩ (.ret) ⟨[(2,.int .i64 w)],[(0,⟨[.int .i64 x.op,.bool x.neg,.str x.num,.str x.den,.str x.name],0,false,0,0,true⟩)],.dead,[]⟩:=pJ 21 [] 2 3 (.c h0 (.k 11 e (.c f (.c g .nil)))) (.c i (.v 14 (.ppt a) .nil)) c
 h.forgetD 0 ⟨[.int .i64 x.op,.bool x.neg,.str x.num,.str x.den,.str x.name],0,false,0,0,true⟩ (by intro v h;cases h) (by decide) rfl ⟨Fz.same rfl,trivial⟩ rfl rfl
theorem aov {nt:Nat} (c:35≤nt) (l:List Nd) (b:Bool) (k d:Nat) (w:Int) (x:Nd) (r:List Nd) (a:(List.drop ((Int.toNat (k:Int))*5) (aH l))=iZ x++aH r) (h0:lit true (decide ((IntKind.wrap .i64 ((d:Int) - (AV.toInt (List.headD (List.drop ((0+((Int.toNat x.op)*5))+1) jU) .dead))))<((0:Nat):Int)))=true) (i:(gW (.int .i64) (List.headD (List.drop ((0+((Int.toNat x.op)*5))+1) jU) .dead))=true) (n:(decide (((0:Nat):Int)≤x.op))=true) (j:(decide (x.op<((25:Nat):Int)))=true) (g:lit false (!(w==((0:Nat):Int)))=true) (f:(decide (((0:Nat):Int)≤(k:Int)))=true) (m:(decide ((k:Int)<(l.length:Int)))=true) (o:lit true (decide ((k:Int)<(l.length:Int)))=true) (e:CO 52 [.agg [.int .i64 x.op,.bool x.neg,.str x.num,.str x.den,.str x.name]] (.ret (.int .i64 w))):ah prog ap [] nt (ae 0 (af f21)) ⟨[(10,.sl (aH l) l.length b),(11,.int .i64 (l.length:Int)),(12,.int .i64 (k:Int)),(3,.int .i64 (d:Int))],[],.dead,[]⟩ (.ret) ⟨[(2,.int .i64 11)],[],.dead,[]⟩:=
 have h:ah prog ap [] nt (ae 0 (af f21)) ⟨[(10,.sl (aH l) l.length b),(11,.int .i64 (l.length:Int)),(12,.int .i64 (k:Int)),(3,.int .i64 (d:Int))],[],.dead,[]⟩ (.ret) ⟨[(2,.int .i64 11)],[(0,⟨[.int .i64 x.op,.bool x.neg,.str x.num,.str x.den,.str x.name],0,false,0,0,true⟩)],.dead,[]⟩:=pJ 21 [] 3 5 (.c h0 (.c i (.c n (.c j (.k 1 g (.k 11 f (.c m (.c o .nil)))))))) (.c e (.v 14 (.ppt a) .nil)) c
 h.forgetD 0 ⟨[.int .i64 x.op,.bool x.neg,.str x.num,.str x.den,.str x.name],0,false,0,0,true⟩ (by intro v h;cases h) (by decide) rfl ⟨Fz.same rfl,trivial⟩ rfl rfl
theorem aow {nt:Nat} (c:35≤nt) (l:List Nd) (a:Bool) (k d:Nat) (w:Int) (x:Nd) (r:List Nd) (b:(List.drop ((Int.toNat (k:Int))*5) (aH l))=iZ x++aH r) (h0:lit false (decide ((IntKind.wrap .i64 ((d:Int) - (AV.toInt (List.headD (List.drop ((0+((Int.toNat x.op)*5))+1) jU) .dead))))<((0:Nat):Int)))=true) (i:(gW (.int .i64) (List.headD (List.drop ((0+((Int.toNat x.op)*5))+1) jU) .dead))=true) (n:(decide (((0:Nat):Int)≤x.op))=true) (j:(decide (x.op<((25:Nat):Int)))=true) (g:lit false (!(w==((0:Nat):Int)))=true) (f:(decide (((0:Nat):Int)≤(k:Int)))=true) (m:(decide ((k:Int)<(l.length:Int)))=true) (o:lit true (decide ((k:Int)<(l.length:Int)))=true) (e:CO 52 [.agg [.int .i64 x.op,.bool x.neg,.str x.num,.str x.den,.str x.name]] (.ret (.int .i64 w))):ah prog ap [] nt (ae 0 (af f21)) ⟨[(10,.sl (aH l) l.length a),(11,.int .i64 (l.length:Int)),(12,.int .i64 (k:Int)),(3,.int .i64 (d:Int))],[],.dead,[]⟩ (.normal) ⟨[(10,.sl (aH l) l.length a),(11,.int .i64 (l.length:Int)),(12,.int .i64 (IntKind.wrap .i64 ((k:Int)+((1:Nat):Int)))),(3,.int .i64 (IntKind.wrap .i64 ((IntKind.wrap .i64 ((d:Int) - (AV.toInt (List.headD (List.drop ((0+((Int.toNat x.op)*5))+1) jU) .dead))))+((1:Nat):Int))))],[],.dead,[]⟩:=
 have h:ah prog ap [] nt (ae 0 (af f21)) ⟨[(10,.sl (aH l) l.length a),(11,.int .i64 (l.length:Int)),(12,.int .i64 (k:Int)),(3,.int .i64 (d:Int))],[],.dead,[]⟩ (.normal) ⟨[(10,.sl (aH l) l.length a),(11,.int .i64 (l.length:Int)),(12,.int .i64 (IntKind.wrap .i64 ((k:Int)+((1:Nat):Int)))),(3,.int .i64 (IntKind.wrap .i64 ((IntKind.wrap .i64 ((d:Int) - (AV.toInt (List.headD (List.drop ((0+((Int.toNat x.op)*5))+1) jU) .dead))))+((1:Nat):Int))))],[(0,⟨[.int .i64 x.op,.bool x.neg,.str x.num,.str x.den,.str x.name],0,false,0,0,true⟩)],.dead,[]⟩:=pJ 21 [] 3 1 (.c h0 (.c i (.c n (.c j (.k 1 g (.k 11 f (.c m (.c o .nil)))))))) (.c e (.v 14 (.ppt b) .nil)) c
 h.forgetD 0 ⟨[.int .i64 x.op,.bool x.neg,.str x.num,.str x.den,.str x.name],0,false,0,0,true⟩ (by intro v h;cases h) (by decide) rfl ⟨Fz.same rfl,Fz.same rfl,Fz.same rfl,Fz.same rfl,trivial⟩ rfl rfl
theorem Tv {nt:Nat} (a:35≤nt) (l:List Nd) (b:Bool) (k d:Nat) (w:Int) (h0:lit false (decide ((k:Int)<(l.length:Int)))=true):ah prog ap [] nt (ae 0 (af f21)) ⟨[(10,.sl (aH l) l.length b),(11,.int .i64 (l.length:Int)),(12,.int .i64 (k:Int)),(3,.int .i64 (d:Int))],[],.dead,[]⟩ (.exit 0) ⟨[(3,.int .i64 (d:Int))],[],.dead,[]⟩:=pJ 21 [] 1 0 (.c h0 .nil) (.nil) a
theorem aeH (l:List Nd) (a:Bool) (d:Nat) (h0:lit true (decide (((60:Nat):Int)<(l.length:Int)))=true):CO 21 [.sl (aH l) l.length a] (.ret (.int .i64 2)):=pK [0] 1 1 (.c h0 .nil) (.nil)
theorem aeI (l:List Nd) (a:Bool) (d:Nat) (h0:lit true (!((d:Int)==((1:Nat):Int)))=true) (c:lit false (decide (((60:Nat):Int)<(l.length:Int)))=true) (b:aI prog ap [] 35 (.block 0 (.loop (ae 0 (af f21)))) ⟨[(0,.sl (aH l) l.length a),(2,.int .i64 0),(3,.int .i64 0),(5,.dead),(6,.dead),(9,.bool (decide (((60:Nat):Int)<(l.length:Int)))),(10,.sl (aH l) l.length a),(11,.int .i64 (l.length:Int)),(12,.int .i64 0),(13,.dead),(19,.dead),(29,.dead),(34,.dead)],[],.dead,[]⟩ (.normal) ⟨[(3,.int .i64 (d:Int))],[],.dead,[]⟩):CO 21 [.sl (aH l) l.length a] (.ret (.int .i64 11)):=pK [0] 2 2 (.c h0 (.c c .nil)) (.l b .nil)
theorem aeJ (l:List Nd) (a:Bool) (d:Nat) (h0:lit false (!((d:Int)==((1:Nat):Int)))=true) (c:lit false (decide (((60:Nat):Int)<(l.length:Int)))=true) (b:aI prog ap [] 35 (.block 0 (.loop (ae 0 (af f21)))) ⟨[(0,.sl (aH l) l.length a),(2,.int .i64 0),(3,.int .i64 0),(5,.dead),(6,.dead),(9,.bool (decide (((60:Nat):Int)<(l.length:Int)))),(10,.sl (aH l) l.length a),(11,.int .i64 (l.length:Int)),(12,.int .i64 0),(13,.dead),(19,.dead),(29,.dead),(34,.dead)],[],.dead,[]⟩ (.normal) ⟨[(3,.int .i64 (d:Int))],[],.dead,[]⟩):CO 21 [.sl (aH l) l.length a] (.ret (.int .i64 0)):=pK [0] 2 0 (.c h0 (.c c .nil)) (.l b .nil)
theorem aeK (l:List Nd) (a:Bool) (w:Int) (h0:lit false (decide (((60:Nat):Int)<(l.length:Int)))=true) (b:aI prog ap [] 35 (.block 0 (.loop (ae 0 (af f21)))) ⟨[(0,.sl (aH l) l.length a),(2,.int .i64 0),(3,.int .i64 0),(5,.dead),(6,.dead),(9,.bool (decide (((60:Nat):Int)<(l.length:Int)))),(10,.sl (aH l) l.length a),(11,.int .i64 (l.length:Int)),(12,.int .i64 0),(13,.dead),(19,.dead),(29,.dead),(34,.dead)],[],.dead,[]⟩ (.ret) ⟨[(2,.int .i64 w)],[],.dead,[]⟩):CO 21 [.sl (aH l) l.length a] (.ret (.int .i64 w)):=pK [0] 1 0 (.c h0 .nil) (.l b .nil)
theorem alO {nt:Nat} (c:69≤nt) (l:List Nd) (b:Bool) (k d:Nat) (m n:Bool) (x:Nd) (r:List Nd) (a:(List.drop ((Int.toNat (k:Int))*5) (aH l))=iZ x++aH r) (h0:lit true (decide (x.op<((1:Nat):Int)))=true) (g:(decide (((0:Nat):Int)≤(k:Int)))=true) (f:(decide ((k:Int)<(l.length:Int)))=true) (j:lit true (decide ((k:Int)<(l.length:Int)))=true) (e:CO 32 [.int .i64 x.op] (.ret (.bool (gI x.op)))) (i:CO 74 [.agg [.int .i64 x.op,.bool x.neg,.str x.num,.str x.den,.str x.name]] (.ret (.bool m))):ah prog ap [] nt (ae 0 (af f48)) ⟨[(0,.sl (aH l) l.length b),(4,.int .i64 (k:Int)),(3,.int .i64 (d:Int))],[],.dead,[]⟩ (.ret) ⟨[(2,.int .i64 11)],[],.dead,[]⟩:=
 have h:ah prog ap [] nt (ae 0 (af f48)) ⟨[(0,.sl (aH l) l.length b),(4,.int .i64 (k:Int)),(3,.int .i64 (d:Int))],[],.dead,[]⟩ (.ret) ⟨[(2,.int .i64 11)],[(0,⟨[.int .i64 x.op,.bool x.neg,.str x.num,.str x.den,.str x.name],0,false,0,0,true⟩)],.dead,[]⟩:=pJ 48 [] 5 31 (.k 3 h0 (.k 13 g (.c f (.c j .nil)))) (.c i (.c e (.v 21 (.ppt a) .nil))) c
 h.forgetD 0 ⟨[.int .i64 x.op,.bool x.neg,.str x.num,.str x.den,.str x.name],0,false,0,0,true⟩ (by intro v h;cases h) (by decide) rfl ⟨Fz.same rfl,trivial⟩ rfl rfl
theorem alP {nt:Nat} (c:69≤nt) (l:List Nd) (b:Bool) (k d:Nat) (n o:Bool) (x:Nd) (r:List Nd) (a:(List.drop ((Int.toNat (k:Int))*5) (aH l))=iZ x++aH r) (h0:lit true (decide (((24:Nat):Int)<x.op))=true) (i:lit false (decide (x.op<((1:Nat):Int)))=true) (g:(decide (((0:Nat):Int)≤(k:Int)))=true) (m:(decide ((k:Int)<(l.length:Int)))=true) (f:lit true (decide ((k:Int)<(l.length:Int)))=true) (e:CO 32 [.int .i64 x.op] (.ret (.bool (gI x.op)))) (j:CO 74 [.agg [.int .i64 x.op,.bool x.neg,.str x.num,.str x.den,.str x.name]] (.ret (.bool n))):ah prog ap [] nt (ae 0 (af f48)) ⟨[(0,.sl (aH l) l.length b),(4,.int .i64 (k:Int)),(3,.int .i64 (d:Int))],[],.dead,[]⟩ (.ret) ⟨[(2,.int .i64 11)],[],.dead,[]⟩:=
 have h:ah prog ap [] nt (ae 0 (af f48)) ⟨[(0,.sl (aH l) l.length b),(4,.int .i64 (k:Int)),(3,.int .i64 (d:Int))],[],.dead,[]⟩ (.ret) ⟨[(2,.int .i64 11)],[(0,⟨[.int .i64 x.op,.bool x.neg,.str x.num,.str x.den,.str x.name],0,false,0,0,true⟩)],.dead,[]⟩:=pJ 48 [] 5 29 (.k 2 h0 (.k 1 i (.k 13 g (.c m (.c f .nil))))) (.c j (.c e (.v 21 (.ppt a) .nil))) c
 h.forgetD 0 ⟨[.int .i64 x.op,.bool x.neg,.str x.num,.str x.den,.str x.name],0,false,0,0,true⟩ (by intro v h;cases h) (by decide) rfl ⟨Fz.same rfl,trivial⟩ rfl rfl
theorem alQ {nt:Nat} (e:69≤nt) (l:List Nd) (c:Bool) (k d:Nat) (b p:Bool) (x:Nd) (r:List Nd) (a:(List.drop ((Int.toNat (k:Int))*5) (aH l))=iZ x++aH r) (h0:lit true (!b)=true) (j:lit false (decide (((24:Nat):Int)<x.op))=true) (n:lit false (decide (x.op<((1:Nat):Int)))=true) (m:(decide (((0:Nat):Int)≤(k:Int)))=true) (i:(decide ((k:Int)<(l.length:Int)))=true) (g:lit true (decide ((k:Int)<(l.length:Int)))=true) (f:CO 32 [.int .i64 x.op] (.ret (.bool (gI x.op)))) (o:CO 74 [.agg [.int .i64 x.op,.bool x.neg,.str x.num,.str x.den,.str x.name]] (.ret (.bool b))):ah prog ap [] nt (ae 0 (af f48)) ⟨[(0,.sl (aH l) l.length c),(4,.int .i64 (k:Int)),(3,.int .i64 (d:Int))],[],.dead,[]⟩ (.ret) ⟨[(2,.int .i64 11)],[],.dead,[]⟩:=
 have h:ah prog ap [] nt (ae 0 (af f48)) ⟨[(0,.sl (aH l) l.length c),(4,.int .i64 (k:Int)),(3,.int .i64 (d:Int))],[],.dead,[]⟩ (.ret) ⟨[(2,.int .i64 11)],[(0,⟨[.int .i64 x.op,.bool x.neg,.str x.num,.str x.den,.str x.name],0,false,0,0,true⟩)],.dead,[]⟩:=pJ 48 [] 5 25 (.k 1 h0 (.c j (.k 1 n (.k 13 m (.c i (.c g .nil)))))) (.c o (.c f (.v 21 (.ppt a) .nil))) e
 h.forgetD 0 ⟨[.int .i64 x.op,.bool x.neg,.str x.num,.str x.den,.str x.name],0,false,0,0,true⟩ (by intro v h;cases h) (by decide) rfl ⟨Fz.same rfl,trivial⟩ rfl rfl
theorem alR {nt:Nat} (e:69≤nt) (l:List Nd) (c:Bool) (k d:Nat) (b s:Bool) (x:Nd) (r:List Nd) (a:(List.drop ((Int.toNat (k:Int))*5) (aH l))=iZ x++aH r) (h0:lit true (!(x.name== []))=true) (j:lit true (!(gI x.op))=true) (o:lit false (!b)=true) (m:lit false (decide (((24:Nat):Int)<x.op))=true) (i:lit false (decide (x.op<((1:Nat):Int)))=true) (g:(decide (((0:Nat):Int)≤(k:Int)))=true) (n:(decide ((k:Int)<(l.length:Int)))=true) (q:lit true (decide ((k:Int)<(l.length:Int)))=true) (f:CO 32 [.int .i64 x.op] (.ret (.bool (gI x.op)))) (p:CO 74 [.agg [.int .i64 x.op,.bool x.neg,.str x.num,.str x.den,.str x.name]] (.ret (.bool b))):ah prog ap [] nt (ae 0 (af f48)) ⟨[(0,.sl (aH l) l.length c),(4,.int .i64 (k:Int)),(3,.int .i64 (d:Int))],[],.dead,[]⟩ (.ret) ⟨[(2,.int .i64 11)],[],.dead,[]⟩:=
 have h:ah prog ap [] nt (ae 0 (af f48)) ⟨[(0,.sl (aH l) l.length c),(4,.int .i64 (k:Int)),(3,.int .i64 (d:Int))],[],.dead,[]⟩ (.ret) ⟨[(2,.int .i64 11)],[(0,⟨[.int .i64 x.op,.bool x.neg,.str x.num,.str x.den,.str x.name],0,false,0,0,true⟩)],.dead,[]⟩:=pJ 48 [] 6 49 (.c h0 (.k 1 j (.c o (.c m (.k 1 i (.k 13 g (.c n (.c q .nil)))))))) (.c p (.c f (.v 21 (.ppt a) .nil))) e
 h.forgetD 0 ⟨[.int .i64 x.op,.bool x.neg,.str x.num,.str x.den,.str x.name],0,false,0,0,true⟩ (by intro v h;cases h) (by decide) rfl ⟨Fz.same rfl,trivial⟩ rfl rfl
theorem alS {nt:Nat} (e:69≤nt) (l:List Nd) (c:Bool) (k d:Nat) (b f:Bool) (x:Nd) (r:List Nd) (a:(List.drop ((Int.toNat (k:Int))*5) (aH l))=iZ x++aH r) (h0:lit true (decide ((d:Int)<(((dM x.op):Nat):Int)))=true) (n:lit false (gI x.op)=true) (u:lit false (!(x.name== []))=true) (o:lit true (!(gI x.op))=true) (j:lit false (!b)=true) (i:lit false (decide (((24:Nat):Int)<x.op))=true) (p:lit false (decide (x.op<((1:Nat):Int)))=true) (y:(decide (((0:Nat):Int)≤(k:Int)))=true) (s:(decide ((k:Int)<(l.length:Int)))=true) (t:lit true (decide ((k:Int)<(l.length:Int)))=true) (g:CO 32 [.int .i64 x.op] (.ret (.bool (gI x.op)))) (w:CO 74 [.agg [.int .i64 x.op,.bool x.neg,.str x.num,.str x.den,.str x.name]] (.ret (.bool b))) (m:CO 75 [.str x.name] (.ret (.bool f))) (q:CO 30 [.int .i64 x.op] (.ret (.int .i64 (((dM x.op):Nat):Int)))):ah prog ap [] nt (ae 0 (af f48)) ⟨[(0,.sl (aH l) l.length c),(4,.int .i64 (k:Int)),(3,.int .i64 (d:Int))],[],.dead,[]⟩ (.ret) ⟨[(2,.int .i64 11)],[],.dead,[]⟩:=
 have h:ah prog ap [] nt (ae 0 (af f48)) ⟨[(0,.sl (aH l) l.length c),(4,.int .i64 (k:Int)),(3,.int .i64 (d:Int))],[],.dead,[]⟩ (.ret) ⟨[(2,.int .i64 11)],[(0,⟨[.int .i64 x.op,.bool x.neg,.str x.num,.str x.den,.str x.name],0,false,0,0,true⟩)],.dead,[]⟩:=pJ 48 [] 9 273 (.c h0 (.k 2 n (.k 1 u (.k 1 o (.c j (.c i (.k 1 p (.k 13 y (.c s (.c t .nil)))))))))) (.c q (.c m (.c w (.c g (.v 21 (.ppt a) .nil))))) e
 h.forgetD 0 ⟨[.int .i64 x.op,.bool x.neg,.str x.num,.str x.den,.str x.name],0,false,0,0,true⟩ (by intro v h;cases h) (by decide) rfl ⟨Fz.same rfl,trivial⟩ rfl rfl
theorem alT {nt:Nat} (e:69≤nt) (l:List Nd) (a:Bool) (k d:Nat) (c f:Bool) (x:Nd) (r:List Nd) (b:(List.drop ((Int.toNat (k:Int))*5) (aH l))=iZ x++aH r) (h0:lit false (decide ((d:Int)<(((dM x.op):Nat):Int)))=true) (n:lit false (gI x.op)=true) (u:lit false (!(x.name== []))=true) (o:lit true (!(gI x.op))=true) (j:lit false (!c)=true) (i:lit false (decide (((24:Nat):Int)<x.op))=true) (p:lit false (decide (x.op<((1:Nat):Int)))=true) (y:(decide (((0:Nat):Int)≤(k:Int)))=true) (s:(decide ((k:Int)<(l.length:Int)))=true) (t:lit true (decide ((k:Int)<(l.length:Int)))=true) (g:CO 32 [.int .i64 x.op] (.ret (.bool (gI x.op)))) (w:CO 74 [.agg [.int .i64 x.op,.bool x.neg,.str x.num,.str x.den,.str x.name]] (.ret (.bool c))) (m:CO 75 [.str x.name] (.ret (.bool f))) (q:CO 30 [.int .i64 x.op] (.ret (.int .i64 (((dM x.op):Nat):Int)))):ah prog ap [] nt (ae 0 (af f48)) ⟨[(0,.sl (aH l) l.length a),(4,.int .i64 (k:Int)),(3,.int .i64 (d:Int))],[],.dead,[]⟩ (.normal) ⟨[(0,.sl (aH l) l.length a),(4,.int .i64 (IntKind.wrap .i64 ((k:Int)+((1:Nat):Int)))),(3,.int .i64 (IntKind.wrap .i64 ((IntKind.wrap .i64 ((d:Int) - (((dM x.op):Nat):Int)))+((1:Nat):Int))))],[],.dead,[]⟩:=
 have h:ah prog ap [] nt (ae 0 (af f48)) ⟨[(0,.sl (aH l) l.length a),(4,.int .i64 (k:Int)),(3,.int .i64 (d:Int))],[],.dead,[]⟩ (.normal) ⟨[(0,.sl (aH l) l.length a),(4,.int .i64 (IntKind.wrap .i64 ((k:Int)+((1:Nat):Int)))),(3,.int .i64 (IntKind.wrap .i64 ((IntKind.wrap .i64 ((d:Int) - (((dM x.op):Nat):Int)))+((1:Nat):Int))))],[(0,⟨[.int .i64 x.op,.bool x.neg,.str x.num,.str x.den,.str x.name],0,false,0,0,true⟩)],.dead,[]⟩:=pJ 48 [] 9 17 (.c h0 (.k 2 n (.k 1 u (.k 1 o (.c j (.c i (.k 1 p (.k 13 y (.c s (.c t .nil)))))))))) (.c q (.c m (.c w (.c g (.v 21 (.ppt b) .nil))))) e
 h.forgetD 0 ⟨[.int .i64 x.op,.bool x.neg,.str x.num,.str x.den,.str x.name],0,false,0,0,true⟩ (by intro v h;cases h) (by decide) rfl ⟨Fz.same rfl,Fz.same rfl,Fz.same rfl,trivial⟩ rfl rfl
theorem alU {nt:Nat} (f:69≤nt) (l:List Nd) (e:Bool) (k d:Nat) (c b:Bool) (x:Nd) (r:List Nd) (a:(List.drop ((Int.toNat (k:Int))*5) (aH l))=iZ x++aH r) (h0:lit true (!b)=true) (n:lit true (gI x.op)=true) (s:lit false (!(gI x.op))=true) (o:lit false (!c)=true) (j:lit false (decide (((24:Nat):Int)<x.op))=true) (i:lit false (decide (x.op<((1:Nat):Int)))=true) (p:(decide (((0:Nat):Int)≤(k:Int)))=true) (u:(decide ((k:Int)<(l.length:Int)))=true) (q:lit true (decide ((k:Int)<(l.length:Int)))=true) (g:CO 32 [.int .i64 x.op] (.ret (.bool (gI x.op)))) (t:CO 74 [.agg [.int .i64 x.op,.bool x.neg,.str x.num,.str x.den,.str x.name]] (.ret (.bool c))) (m:CO 75 [.str x.name] (.ret (.bool b))):ah prog ap [] nt (ae 0 (af f48)) ⟨[(0,.sl (aH l) l.length e),(4,.int .i64 (k:Int)),(3,.int .i64 (d:Int))],[],.dead,[]⟩ (.ret) ⟨[(2,.int .i64 12)],[],.dead,[]⟩:=
 have h:ah prog ap [] nt (ae 0 (af f48)) ⟨[(0,.sl (aH l) l.length e),(4,.int .i64 (k:Int)),(3,.int .i64 (d:Int))],[],.dead,[]⟩ (.ret) ⟨[(2,.int .i64 12)],[(0,⟨[.int .i64 x.op,.bool x.neg,.str x.num,.str x.den,.str x.name],0,false,0,0,true⟩)],.dead,[]⟩:=pJ 48 [] 8 193 (.c h0 (.c n (.k 2 s (.c o (.c j (.k 1 i (.k 13 p (.c u (.c q .nil))))))))) (.c m (.c t (.c g (.v 21 (.ppt a) .nil)))) f
 h.forgetD 0 ⟨[.int .i64 x.op,.bool x.neg,.str x.num,.str x.den,.str x.name],0,false,0,0,true⟩ (by intro v h;cases h) (by decide) rfl ⟨Fz.same rfl,trivial⟩ rfl rfl
theorem alV {nt:Nat} (f:69≤nt) (l:List Nd) (e:Bool) (k d:Nat) (c b:Bool) (x:Nd) (r:List Nd) (a:(List.drop ((Int.toNat (k:Int))*5) (aH l))=iZ x++aH r) (h0:lit true (decide ((d:Int)<(((dM x.op):Nat):Int)))=true) (n:lit false (!b)=true) (u:lit true (gI x.op)=true) (o:lit false (!(gI x.op))=true) (j:lit false (!c)=true) (i:lit false (decide (((24:Nat):Int)<x.op))=true) (p:lit false (decide (x.op<((1:Nat):Int)))=true) (y:(decide (((0:Nat):Int)≤(k:Int)))=true) (s:(decide ((k:Int)<(l.length:Int)))=true) (t:lit true (decide ((k:Int)<(l.length:Int)))=true) (g:CO 32 [.int .i64 x.op] (.ret (.bool (gI x.op)))) (w:CO 74 [.agg [.int .i64 x.op,.bool x.neg,.str x.num,.str x.den,.str x.name]] (.ret (.bool c))) (m:CO 75 [.str x.name] (.ret (.bool b))) (q:CO 30 [.int .i64 x.op] (.ret (.int .i64 (((dM x.op):Nat):Int)))):ah prog ap [] nt (ae 0 (af f48)) ⟨[(0,.sl (aH l) l.length e),(4,.int .i64 (k:Int)),(3,.int .i64 (d:Int))],[],.dead,[]⟩ (.ret) ⟨[(2,.int .i64 11)],[],.dead,[]⟩:=
 have h:ah prog ap [] nt (ae 0 (af f48)) ⟨[(0,.sl (aH l) l.length e),(4,.int .i64 (k:Int)),(3,.int .i64 (d:Int))],[],.dead,[]⟩ (.ret) ⟨[(2,.int .i64 11)],[(0,⟨[.int .i64 x.op,.bool x.neg,.str x.num,.str x.den,.str x.name],0,false,0,0,true⟩)],.dead,[]⟩:=pJ 48 [] 9 321 (.c h0 (.k 1 n (.c u (.k 2 o (.c j (.c i (.k 1 p (.k 13 y (.c s (.c t .nil)))))))))) (.c q (.c m (.c w (.c g (.v 21 (.ppt a) .nil))))) f
 h.forgetD 0 ⟨[.int .i64 x.op,.bool x.neg,.str x.num,.str x.den,.str x.name],0,false,0,0,true⟩ (by intro v h;cases h) (by decide) rfl ⟨Fz.same rfl,trivial⟩ rfl rfl
theorem alW {nt:Nat} (f:69≤nt) (l:List Nd) (a:Bool) (k d:Nat) (e c:Bool) (x:Nd) (r:List Nd) (b:(List.drop ((Int.toNat (k:Int))*5) (aH l))=iZ x++aH r) (h0:lit false (decide ((d:Int)<(((dM x.op):Nat):Int)))=true) (n:lit false (!c)=true) (u:lit true (gI x.op)=true) (o:lit false (!(gI x.op))=true) (j:lit false (!e)=true) (i:lit false (decide (((24:Nat):Int)<x.op))=true) (p:lit false (decide (x.op<((1:Nat):Int)))=true) (y:(decide (((0:Nat):Int)≤(k:Int)))=true) (s:(decide ((k:Int)<(l.length:Int)))=true) (t:lit true (decide ((k:Int)<(l.length:Int)))=true) (g:CO 32 [.int .i64 x.op] (.ret (.bool (gI x.op)))) (w:CO 74 [.agg [.int .i64 x.op,.bool x.neg,.str x.num,.str x.den,.str x.name]] (.ret (.bool e))) (m:CO 75 [.str x.name] (.ret (.bool c))) (q:CO 30 [.int .i64 x.op] (.ret (.int .i64 (((dM x.op):Nat):Int)))):ah prog ap [] nt (ae 0 (af f48)) ⟨[(0,.sl (aH l) l.length a),(4,.int .i64 (k:Int)),(3,.int .i64 (d:Int))],[],.dead,[]⟩ (.normal) ⟨[(0,.sl (aH l) l.length a),(4,.int .i64 (IntKind.wrap .i64 ((k:Int)+((1:Nat):Int)))),(3,.int .i64 (IntKind.wrap .i64 ((IntKind.wrap .i64 ((d:Int) - (((dM x.op):Nat):Int)))+((1:Nat):Int))))],[],.dead,[]⟩:=
 have h:ah prog ap [] nt (ae 0 (af f48)) ⟨[(0,.sl (aH l) l.length a),(4,.int .i64 (k:Int)),(3,.int .i64 (d:Int))],[],.dead,[]⟩ (.normal) ⟨[(0,.sl (aH l) l.length a),(4,.int .i64 (IntKind.wrap .i64 ((k:Int)+((1:Nat):Int)))),(3,.int .i64 (IntKind.wrap .i64 ((IntKind.wrap .i64 ((d:Int) - (((dM x.op):Nat):Int)))+((1:Nat):Int))))],[(0,⟨[.int .i64 x.op,.bool x.neg,.str x.num,.str x.den,.str x.name],0,false,0,0,true⟩)],.dead,[]⟩:=pJ 48 [] 9 65 (.c h0 (.k 1 n (.c u (.k 2 o (.c j (.c i (.k 1 p (.k 13 y (.c s (.c t .nil)))))))))) (.c q (.c m (.c w (.c g (.v 21 (.ppt b) .nil))))) f
 h.forgetD 0 ⟨[.int .i64 x.op,.bool x.neg,.str x.num,.str x.den,.str x.name],0,false,0,0,true⟩ (by intro v h;cases h) (by decide) rfl ⟨Fz.same rfl,Fz.same rfl,Fz.same rfl,trivial⟩ rfl rfl
theorem Q7 {nt:Nat} (a:69≤nt) (l:List Nd) (b:Bool) (k d:Nat) (e c:Bool) (h0:lit false (decide ((k:Int)<(l.length:Int)))=true):ah prog ap [] nt (ae 0 (af f48)) ⟨[(0,.sl (aH l) l.length b),(4,.int .i64 (k:Int)),(3,.int .i64 (d:Int))],[],.dead,[]⟩ (.exit 0) ⟨[(3,.int .i64 (d:Int))],[],.dead,[]⟩:=pJ 48 [] 1 0 (.c h0 .nil) (.nil) a
theorem acv (l:List Nd) (a:Bool) (d:Nat) (h0:lit true (decide (((60:Nat):Int)<(l.length:Int)))=true):CO 48 [.sl (aH l) l.length a] (.ret (.int .i64 2)):=pK [0] 1 1 (.c h0 .nil) (.nil)
theorem acw (l:List Nd) (a:Bool) (d:Nat) (h0:lit true (!((d:Int)==((1:Nat):Int)))=true) (c:lit false (decide (((60:Nat):Int)<(l.length:Int)))=true) (b:aI prog ap [] 69 (.block 0 (.loop (ae 0 (af f48)))) ⟨[(0,.sl (aH l) l.length a),(2,.int .i64 0),(3,.int .i64 0),(4,.int .i64 0),(5,.dead),(6,.dead),(7,.dead),(8,.dead),(9,.dead),(12,.bool (decide (((60:Nat):Int)<(l.length:Int)))),(16,.dead),(48,.dead),(56,.dead),(62,.dead),(68,.dead)],[],.dead,[]⟩ (.normal) ⟨[(3,.int .i64 (d:Int))],[],.dead,[]⟩):CO 48 [.sl (aH l) l.length a] (.ret (.int .i64 11)):=pK [0] 2 2 (.c h0 (.c c .nil)) (.l b .nil)
theorem acx (l:List Nd) (a:Bool) (d:Nat) (h0:lit false (!((d:Int)==((1:Nat):Int)))=true) (c:lit false (decide (((60:Nat):Int)<(l.length:Int)))=true) (b:aI prog ap [] 69 (.block 0 (.loop (ae 0 (af f48)))) ⟨[(0,.sl (aH l) l.length a),(2,.int .i64 0),(3,.int .i64 0),(4,.int .i64 0),(5,.dead),(6,.dead),(7,.dead),(8,.dead),(9,.dead),(12,.bool (decide (((60:Nat):Int)<(l.length:Int)))),(16,.dead),(48,.dead),(56,.dead),(62,.dead),(68,.dead)],[],.dead,[]⟩ (.normal) ⟨[(3,.int .i64 (d:Int))],[],.dead,[]⟩):CO 48 [.sl (aH l) l.length a] (.ret (.int .i64 0)):=pK [0] 2 0 (.c h0 (.c c .nil)) (.l b .nil)
theorem acy (l:List Nd) (a:Bool) (w:Int) (h0:lit false (decide (((60:Nat):Int)<(l.length:Int)))=true) (b:aI prog ap [] 69 (.block 0 (.loop (ae 0 (af f48)))) ⟨[(0,.sl (aH l) l.length a),(2,.int .i64 0),(3,.int .i64 0),(4,.int .i64 0),(5,.dead),(6,.dead),(7,.dead),(8,.dead),(9,.dead),(12,.bool (decide (((60:Nat):Int)<(l.length:Int)))),(16,.dead),(48,.dead),(56,.dead),(62,.dead),(68,.dead)],[],.dead,[]⟩ (.ret) ⟨[(2,.int .i64 w)],[],.dead,[]⟩):CO 48 [.sl (aH l) l.length a] (.ret (.int .i64 w)):=pK [0] 1 0 (.c h0 .nil) (.l b .nil)
theorem KN (x:Nd) (r:List Nd):aH (x::r)=iZ x++aH r:=rfl
theorem Po (a b:List Nd):aH (a++b)=aH a++aH b:=by unfold aH;rw [List.flatMap_append]
theorem lH (l:List Nd):(aH l).length=l.length*5:=by
 induction l with
 |nil=>rfl
 |cons x r ih=>rw [KN,List.length_append,ih,List.length_cons];simp [iZ];omega
theorem yx {p r:List Nd} {x:Nd} {k:Nat} (h:k=p.length):List.drop (Int.toNat (k:Int)*5) (aH (p++x::r))=iZ x++aH r:=by
 subst h
 rw [aA,Po,KN,← lH,List.drop_left]
def jm:List Nd→Nat→Nat ⊕ Int
 | [],d=> .inl d
 |x::r,d=>if aJ x=0 then (if d<dM x.op then .inr 11 else jm r (d - dM x.op+1)) else .inr (aJ x)
def dH (l:List Nd):Int:=if 60<l.length then 2 else match jm l 0 with| .inl d=>if d=1 then 0 else 11| .inr w=>w
def JL:Nat ⊕ Int→bM
 | .inl _=> .exit 0
 | .inr _=> .ret
def Qn (l:List Nd) (nn:Bool) (p:Nat × Nat):St:=⟨[(10,.sl (aH l) l.length nn),(11,.int .i64 (l.length:Int)),(12,.int .i64 (p.1:Int)),(3,.int .i64 (p.2:Int))],[],.dead,[]⟩
def zU:Nat ⊕ Int→St
 | .inl d=> ⟨[(3,.int .i64 (d:Int))],[],.dead,[]⟩
 | .inr w=> ⟨[(2,.int .i64 w)],[],.dead,[]⟩
theorem MM (a:Int):dM a≤3:=by unfold dM;(repeat' split)<;>omega
theorem EW {x:Nd} (h:aJ x=0):1≤x.op∧x.op≤24:=by
 cases a:Jr x.op with
 |true=>simpa [Jr] using a
 |false=>unfold aJ at h;rw [a] at h;simp at h
theorem Tz {nt:Nat} (i:35≤nt) (l p r:List Nd) (c:Bool) (x:Nd) (d:Nat) (s:x.sm) (m:l=p++x::r) (q:l.length<2^40) (v:d<2^41):
  (¬ aJ x=0→ah prog ap [] nt (ae 0 (af f21)) (Qn l c (p.length,d)) .ret (zU (.inr (aJ x))))∧
  (aJ x=0→d<dM x.op→ah prog ap [] nt (ae 0 (af f21)) (Qn l c (p.length,d)) .ret (zU (.inr 11)))∧
  (aJ x=0→¬ d<dM x.op→ah prog ap [] nt (ae 0 (af f21)) (Qn l c (p.length,d)) .normal (Qn l c (p.length+1,d - dM x.op+1))):=by
 have b:List.drop (Int.toNat (p.length:Int)*5) (aH l)=iZ x++aH r:=by rw [m];exact yx rfl
 have o:p.length+(r.length+1)=l.length:=by rw [m];simp
 have n:=WF x s
 have u:=MM x.op
 unfold Qn zU
 refine ⟨fun e=> ?_,fun e t=> ?_,fun e t=> ?_⟩
 ·have a:=aou i l c p.length d (aJ x) x r b
  have j:(!(aJ x==((0:Nat):Int)))=true:=by simpa using e
  simp (disch:=first|omega|(simp [ak,ay]<;>omega)) only [j,bG,dF,bu,aZ] at a
  apply a<;>first|exact True.intro|omega|assumption|exact rfl
 ·obtain ⟨g,h⟩:=EW e
  have f:=Ox g h
  rw [e] at n
  have a:=aov i l c p.length d 0 x r b
  have k:IntKind.wrap .i64 ((d:Int) - ((dM x.op:Nat):Int))=(d:Int) - (dM x.op:Int):=dC (by omega) (by omega)
  simp (disch:=first|omega|(simp [ak,ay]<;>omega)) only [Nat.zero_add,f,a_,k,bG,bu,eQ,dO,eF,Af,dF,aZ] at a
  apply a<;>first|exact True.intro|omega|assumption|exact rfl
 ·obtain ⟨g,h⟩:=EW e
  have f:=Ox g h
  rw [e] at n
  have a:=aow i l c p.length d 0 x r b
  have k:IntKind.wrap .i64 ((d:Int) - ((dM x.op:Nat):Int))=((d - dM x.op:Nat):Int):=by rw [dC]<;>omega
  simp (disch:=first|omega|(simp [ak,ay]<;>omega)) only [Nat.zero_add,f,a_,k,aZ,dO,eF,fB,eQ,bu,Af,dF,bG,dB,bz] at a
  apply a<;>first|exact True.intro|omega|assumption|exact rfl
theorem Xn {nt:Nat} (e:35≤nt) (l:List Nd) (a:Bool) (b:l.length<2^40) (c:∀ x ∈ l,x.sm):∀ (r p:List Nd) (d:Nat),p++r=l→d≤p.length→aF prog ap [] nt (ae 0 (af f21)) JL (Qn l a) zU (p.length,d) (jm r d):=by
 intro r
 induction r with
 |nil=>
  intro p d h _
  have hp:p.length=l.length:=by rw [← h];simp
  rw [hp]
  exact .done (Tv e l a l.length d 0 (by rw [aZ];simp [lit]))
 | cons x r ih=>
  intro p d h k
  have j:p.length+(r.length+1)=l.length:=by rw [← h];simp
  obtain ⟨g,f,i⟩:=Tz e l p r a x d (c x (by rw [← h];simp)) h.symm b (by omega)
  simp only [jm]
  by_cases h1:aJ x=0
  ·rw [if_pos h1]
   by_cases h2:d<dM x.op
   ·rw [if_pos h2];exact .done (f h1 h2)
   ·rw [if_neg h2]
    have hnext:=ih (p++ [x]) (d - dM x.op+1) (by simp [h]) (by simp;omega)
    rw [List.length_append,List.length_singleton] at hnext
    exact .next (i h1 h2) hnext
  ·rw [if_neg h1];exact .done (g h1)
theorem CB (l:List Nd) (a:Bool) (b:∀ x ∈ l,x.sm):CO 21 [.sl (aH l) l.length a] (.ret (.int .i64 (dH l))):=by
 unfold dH
 by_cases h60:60<l.length
 ·rw [if_pos h60]
  exact aeH l a 0 (by rw [aZ];exact decide_eq_true h60)
 ·rw [if_neg h60]
  have c:lit false (decide (((60:Nat):Int)<(l.length:Int)))=true:=by rw [aZ];simp only [lit,Bool.not_eq_true'];exact decide_eq_false h60
  have hloop:=fun nt (hn:35≤nt)=>Xn hn l a (by omega) b l [] 0 rfl (by simp)
  cases e:jm l 0 with
  | inl d=>
   rw [e] at hloop
   by_cases hd:d=1
   ·have h:=aeJ l a d (by rw [jS,decide_eq_true hd];rfl) c
    simp only [if_pos hd]
    exact h (aF.blk hloop (by simp [JL]) rfl (aK.of ⟨rfl,rfl,rfl,rfl,trivial⟩) (aK.of ⟨rfl,trivial⟩))
   ·have h:=aeI l a d (by rw [jS,decide_eq_false hd];rfl) c
    simp only [if_neg hd]
    exact h (aF.blk hloop (by simp [JL]) rfl (aK.of ⟨rfl,rfl,rfl,rfl,trivial⟩) (aK.of ⟨rfl,trivial⟩))
  |inr w=>
   rw [e] at hloop
   exact aeK l a w c (aF.blk hloop (by simp [JL]) rfl (aK.of ⟨rfl,rfl,rfl,rfl,trivial⟩) (aK.of ⟨rfl,trivial⟩))
def G9 (l:List Nd) (nn:Bool) (p:Nat × Nat):St:=⟨[(0,.sl (aH l) l.length nn),(4,.int .i64 (p.1:Int)),(3,.int .i64 (p.2:Int))],[],.dead,[]⟩
theorem EU {x:Nd} (h:Jr x.op=false∨f_ x=false∨(gI x.op=false∧(x.name== [])=false)):aJ x=11:=by
 unfold aJ
 rcases h with h|h|⟨h,a⟩
 ·rw [h];rfl
 ·rw [h];cases (!Jr x.op||(!gI x.op && !(x.name== [])))<;>rfl
 ·rw [h,a];cases Jr x.op<;>rfl
theorem Q8 {nt:Nat} (j:69≤nt) (l p r:List Nd) (e:Bool) (x:Nd) (d:Nat) (C:x.sm) (y:l=p++x::r) (B:l.length<2^40) (E:d<2^41):
  (¬ aJ x=0→ah prog ap [] nt (ae 0 (af f48)) (G9 l e (p.length,d)) .ret (zU (.inr (aJ x))))∧
  (aJ x=0→d<dM x.op→ah prog ap [] nt (ae 0 (af f48)) (G9 l e (p.length,d)) .ret (zU (.inr 11)))∧
  (aJ x=0→¬ d<dM x.op→ah prog ap [] nt (ae 0 (af f48)) (G9 l e (p.length,d)) .normal (G9 l e (p.length+1,d - dM x.op+1))):=by
 have b:List.drop (Int.toNat (p.length:Int)*5) (aH l)=iZ x++aH r:=by rw [y];exact yx rfl
 have z:p.length+(r.length+1)=l.length:=by rw [y];simp
 have k0:=IV x.op
 have k1:=KR x C
 have k2:=VL x.name
 have k3:=H_ x.op
 have D:=MM x.op
 have k:decide (((0:Nat):Int)≤(p.length:Int))=true:=by simp
 have i:decide ((p.length:Int)<(l.length:Int))=true:=by rw [aZ];exact decide_eq_true (by omega)
 have n:lit true (decide ((p.length:Int)<(l.length:Int)))=true:=i
 have A:¬ d<dM x.op→IntKind.wrap .i64 ((d:Int) - ((dM x.op:Nat):Int))=((d - dM x.op:Nat):Int):=fun h=>by rw [dC]<;>omega
 unfold G9 zU
 cases u:Jr x.op with
 | false=>
  have g:aJ x=11:=EU (.inl u)
  rw [g]
  refine ⟨fun _=> ?_,fun c=>(by simp at c),fun c=>(by simp at c)⟩
  have w:x.op<1∨24<x.op:=by
   have:¬ (1≤x.op∧x.op≤24):=by simpa [Jr] using u
   omega
  by_cases c:x.op<1
  ·exact alO j l e p.length d (f_ x) true x r b (by simp [lit];omega) k i n k0 k1
  ·exact alP j l e p.length d (f_ x) true x r b (by simp [lit];omega) (by simp [lit];omega) k i n k0 k1
 | true=>
  have w:1≤x.op∧x.op≤24:=by simpa [Jr] using u
  have s:lit false (decide (((24:Nat):Int)<x.op))=true:=by simp [lit];omega
  have q:lit false (decide (x.op<((1:Nat):Int)))=true:=by simp [lit];omega
  cases t:f_ x with
  |false=>
   have g:aJ x=11:=EU (.inr (.inl t))
   rw [g]
   rw [t] at k1
   refine ⟨fun _=> ?_,fun c=>(by simp at c),fun c=>(by simp at c)⟩
   exact alQ j l e p.length d false true x r b rfl s q k i n k0 k1
  | true=>
   rw [t] at k1
   cases a:gI x.op with
   | false=>
    rw [a] at k0
    cases f:(x.name== []) with
    |false=>
     have g:aJ x=11:=EU (.inr (.inr ⟨a,f⟩))
     rw [g]
     refine ⟨fun _=> ?_,fun c=>(by simp at c),fun c=>(by simp at c)⟩
     exact alR j l e p.length d true true x r b (by rw [f];rfl) (by rw [a];rfl) rfl s q k i n (by rw [a];exact k0) k1
    | true=>
     have g:aJ x=0:=by unfold aJ;rw [u,a,f,t];rfl
     refine ⟨fun h=>absurd g h,fun _ o=> ?_,fun _ o=> ?_⟩
     ·exact alS j l e p.length d true _ x r b (by rw [aZ,decide_eq_true o];rfl) (by rw [a];rfl) (by rw [f];rfl) (by rw [a];rfl) rfl s q k i n (by rw [a];exact k0) k1 k2 k3
     ·have v:=alT j l e p.length d true _ x r b (by rw [aZ,decide_eq_false o];rfl) (by rw [a];rfl) (by rw [f];rfl) (by rw [a];rfl) rfl s q k i n (by rw [a];exact k0) k1 k2 k3
      rw [A o,BJ (by omega),BJ (by omega)] at v
      exact v
   | true=>
    rw [a] at k0
    cases m:qG x.name with
    |false=>
     have g:aJ x=12:=by unfold aJ;rw [u,a,t,m];rfl
     rw [g]
     rw [m] at k2
     refine ⟨fun _=> ?_,fun c=>(by simp at c),fun c=>(by simp at c)⟩
     exact alU j l e p.length d true false x r b rfl (by rw [a];rfl) (by rw [a];rfl) rfl s q k i n (by rw [a];exact k0) k1 k2
    | true=>
     have g:aJ x=0:=by unfold aJ;rw [u,a,t,m];rfl
     rw [m] at k2
     refine ⟨fun h=>absurd g h,fun _ o=> ?_,fun _ o=> ?_⟩
     ·exact alV j l e p.length d true true x r b (by rw [aZ,decide_eq_true o];rfl) rfl (by rw [a];rfl) (by rw [a];rfl) rfl s q k i n (by rw [a];exact k0) k1 k2 k3
     ·have v:=alW j l e p.length d true true x r b (by rw [aZ,decide_eq_false o];rfl) rfl (by rw [a];rfl) (by rw [a];rfl) rfl s q k i n (by rw [a];exact k0) k1 k2 k3
      rw [A o,BJ (by omega),BJ (by omega)] at v
      exact v
theorem Vt {nt:Nat} (e:69≤nt) (l:List Nd) (a:Bool) (b:l.length<2^40) (c:∀ x ∈ l,x.sm):∀ (r p:List Nd) (d:Nat),p++r=l→d≤p.length→aF prog ap [] nt (ae 0 (af f48)) JL (G9 l a) zU (p.length,d) (jm r d):=by
 intro r
 induction r with
 |nil=>
  intro p d h _
  have hp:p.length=l.length:=by rw [← h];simp
  rw [hp]
  exact .done (Q7 e l a l.length d true true (by rw [aZ];simp [lit]))
 | cons x r ih=>
  intro p d h k
  have j:p.length+(r.length+1)=l.length:=by rw [← h];simp
  obtain ⟨g,f,i⟩:=Q8 e l p r a x d (c x (by rw [← h];simp)) h.symm b (by omega)
  simp only [jm]
  by_cases h1:aJ x=0
  ·rw [if_pos h1]
   by_cases h2:d<dM x.op
   ·rw [if_pos h2];exact .done (f h1 h2)
   ·rw [if_neg h2]
    have hnext:=ih (p++ [x]) (d - dM x.op+1) (by simp [h]) (by simp;omega)
    rw [List.length_append,List.length_singleton] at hnext
    exact .next (i h1 h2) hnext
  ·rw [if_neg h1];exact .done (g h1)
theorem zB (l:List Nd) (a:Bool) (b:∀ x ∈ l,x.sm):CO 48 [.sl (aH l) l.length a] (.ret (.int .i64 (dH l))):=by
 unfold dH
 by_cases h60:60<l.length
 ·rw [if_pos h60]
  exact acv l a 0 (by rw [aZ];exact decide_eq_true h60)
 ·rw [if_neg h60]
  have c:lit false (decide (((60:Nat):Int)<(l.length:Int)))=true:=by rw [aZ];simp only [lit,Bool.not_eq_true'];exact decide_eq_false h60
  have hloop:=fun nt (hn:69≤nt)=>Vt hn l a (by omega) b l [] 0 rfl (by simp)
  cases e:jm l 0 with
  | inl d=>
   rw [e] at hloop
   by_cases hd:d=1
   ·have h:=acx l a d (by rw [jS,decide_eq_true hd];rfl) c
    simp only [if_pos hd]
    exact h (aF.blk hloop (by simp [JL]) rfl (aK.of ⟨rfl,rfl,rfl,trivial⟩) (aK.of ⟨rfl,trivial⟩))
   ·have h:=acw l a d (by rw [jS,decide_eq_false hd];rfl) c
    simp only [if_neg hd]
    exact h (aF.blk hloop (by simp [JL]) rfl (aK.of ⟨rfl,rfl,rfl,trivial⟩) (aK.of ⟨rfl,trivial⟩))
  |inr w=>
   rw [e] at hloop
   exact acy l a w c (aF.blk hloop (by simp [JL]) rfl (aK.of ⟨rfl,rfl,rfl,trivial⟩) (aK.of ⟨rfl,trivial⟩))
theorem aen {nt:Nat} (e:45≤nt) (l:List Nd) (a:Bool) (k:Nat) (C:List AV) (o own:List Nat) (x:Nd) (r:List Nd) (b:(List.drop ((Int.toNat (k:Int))*5) (aH l))=iZ x++aH r) (h0:(decide ((IntKind.wrap .i64 (((0:Nat):Int) - (AV.toInt (List.headD (List.drop ((0+((Int.toNat x.op)*5))+1) jU) .dead))))=0))=true) (j:(Nat.ble (((0+(Int.toNat (k:Int)))*1)+1) (List.length C))=true) (d:(decide (((0:Nat):Int)≤(k:Int)))=true) (c:(decide ((k:Int)<(l.length:Int)))=true) (i:(gW (.int .i64) (List.headD (List.drop ((0+((Int.toNat x.op)*5))+1) jU) .dead))=true) (g:(decide (((0:Nat):Int)≤x.op))=true) (m:(decide (x.op<((25:Nat):Int)))=true) (n:lit true (decide ((k:Int)<(l.length:Int)))=true) (f:CO 62 [.nilS] (.ret (.sl (aj own) own.length false))):ah prog ap [] nt (ae 0 (af f37)) ⟨[(15,.sl (aH l) l.length a),(16,.int .i64 (l.length:Int)),(17,.int .i64 (k:Int)),(4,.ref 0 0 0 l.length),(5,.nilS)],[(0,⟨C,0,false,0,1,true⟩)],.dead,[]⟩ (.normal) ⟨[(15,.sl (aH l) l.length a),(16,.int .i64 (l.length:Int)),(17,.int .i64 (IntKind.wrap .i64 ((k:Int)+((1:Nat):Int)))),(4,.ref 0 0 0 l.length),(5,.ref 1 0 0 1)],[(0,⟨(List.take ((0+(Int.toNat (k:Int)))*1) C++ [.sl (aj own) own.length false]++List.drop (((0+(Int.toNat (k:Int)))*1)+1) C),0,false,0,1,true⟩),(1,⟨[.int .i64 (k:Int)],0,false,0,1,true⟩)],.dead,[]⟩:=
 have h:ah prog ap [] nt (ae 0 (af f37)) ⟨[(15,.sl (aH l) l.length a),(16,.int .i64 (l.length:Int)),(17,.int .i64 (k:Int)),(4,.ref 0 0 0 l.length),(5,.nilS)],[(0,⟨C,0,false,0,1,true⟩)],.dead,[]⟩ (.normal) ⟨[(15,.sl (aH l) l.length a),(16,.int .i64 (l.length:Int)),(17,.int .i64 (IntKind.wrap .i64 ((k:Int)+((1:Nat):Int)))),(4,.ref 0 0 0 l.length),(5,.ref 1 0 0 1)],[(0,⟨(List.take ((0+(Int.toNat (k:Int)))*1) C++ [.sl (aj own) own.length false]++List.drop (((0+(Int.toNat (k:Int)))*1)+1) C),0,false,0,1,true⟩),(1,⟨[.int .i64 (k:Int)],0,false,0,1,true⟩),(2,⟨[.int .i64 x.op,.bool x.neg,.str x.num,.str x.den,.str x.name],0,false,0,0,true⟩)],.dead,[]⟩:=pJ 37 [] 2 1 (.k 4 h0 (.c j (.c d (.c c (.c h0 (.k 1 i (.c g (.c m (.k 7 d (.c c (.c n .nil))))))))))) (.c f (.v 20 (.ppt b) .nil)) e
 h.forgetD 2 ⟨[.int .i64 x.op,.bool x.neg,.str x.num,.str x.den,.str x.name],0,false,0,0,true⟩ (by intro v h;cases h) (by decide) rfl ⟨Fz.same rfl,Fz.same rfl,Fz.same rfl,Fz.same rfl,Fz.same rfl,trivial⟩ ⟨rfl,E5.same rfl,by decide,rfl,E5.same rfl,by decide,rfl⟩ rfl
theorem Qh {nt:Nat} (a:45≤nt) (l:List Nd) (b:Bool) (k:Nat) (C:List AV) (c own:List Nat) (h0:lit false (decide ((k:Int)<(l.length:Int)))=true):ah prog ap [] nt (ae 0 (af f37)) ⟨[(15,.sl (aH l) l.length b),(16,.int .i64 (l.length:Int)),(17,.int .i64 (k:Int)),(4,.ref 0 0 0 l.length),(5,.nilS)],[(0,⟨C,0,false,0,1,true⟩)],.dead,[]⟩ (.exit 0) ⟨[(4,.ref 0 0 0 l.length)],[(0,⟨C,0,false,0,1,true⟩)],.dead,[]⟩:=pJ 37 [] 1 0 (.c h0 .nil) (.nil) a
theorem aek {nt:Nat} (m:45≤nt) (l:List Nd) (b:Bool) (k:Nat) (C:List AV) (a own:List Nat) (x:Nd) (r:List Nd) (c:(List.drop ((Int.toNat (k:Int))*5) (aH l))=iZ x++aH r) (h0:(Nat.ble (((Int.toNat (IntKind.wrap .i64 ((a.length:Int) - (AV.toInt (List.headD (List.drop ((0+((Int.toNat x.op)*5))+1) jU) .dead))))) - 0)+1) 1099511627776)=true) (p:(Nat.ble (((Int.toNat (IntKind.wrap .i64 ((a.length:Int) - (AV.toInt (List.headD (List.drop ((0+((Int.toNat x.op)*5))+1) jU) .dead))))) - 0)*1) (List.length (aj a)))=true) (j:(decide (((0:Nat):Int)≤(IntKind.wrap .i64 ((a.length:Int) - (AV.toInt (List.headD (List.drop ((0+((Int.toNat x.op)*5))+1) jU) .dead))))))=true) (g:(decide ((IntKind.wrap .i64 ((a.length:Int) - (AV.toInt (List.headD (List.drop ((0+((Int.toNat x.op)*5))+1) jU) .dead))))≤(a.length:Int)))=true) (o:(Nat.ble (((0+(Int.toNat (k:Int)))*1)+1) (List.length C))=true) (f:(decide (((0:Nat):Int)≤(k:Int)))=true) (i:(decide ((k:Int)<(l.length:Int)))=true) (t:(decide ((a.length:Int)≤(a.length:Int)))=true) (q:(gW (.int .i64) (List.headD (List.drop ((0+((Int.toNat x.op)*5))+1) jU) .dead))=true) (s:(decide (((0:Nat):Int)≤x.op))=true) (d:(decide (x.op<((25:Nat):Int)))=true) (e:lit true (decide ((k:Int)<(l.length:Int)))=true) (n:au prog ap 62 [.ref 0 0 (0+(Int.toNat (IntKind.wrap .i64 ((a.length:Int) - (AV.toInt (List.headD (List.drop ((0+((Int.toNat x.op)*5))+1) jU) .dead)))))) ((Int.toNat (a.length:Int)) - (Int.toNat (IntKind.wrap .i64 ((a.length:Int) - (AV.toInt (List.headD (List.drop ((0+((Int.toNat x.op)*5))+1) jU) .dead))))))] [⟨(aj a),0,false,0,1,true⟩] (.ret (.sl (aj own) own.length false)) [⟨(aj a),0,false,0,1,true⟩]):ah prog ap [] nt (ae 0 (af f37)) ⟨[(15,.sl (aH l) l.length b),(16,.int .i64 (l.length:Int)),(17,.int .i64 (k:Int)),(4,.ref 0 0 0 l.length),(5,.ref 1 0 0 a.length)],[(0,⟨C,0,false,0,1,true⟩),(1,⟨(aj a),0,false,0,1,true⟩)],.dead,[]⟩ (.normal) ⟨[(15,.sl (aH l) l.length b),(16,.int .i64 (l.length:Int)),(17,.int .i64 (IntKind.wrap .i64 ((k:Int)+((1:Nat):Int)))),(4,.ref 0 0 0 l.length),(5,.ref 1 0 0 (((Int.toNat (IntKind.wrap .i64 ((a.length:Int) - (AV.toInt (List.headD (List.drop ((0+((Int.toNat x.op)*5))+1) jU) .dead))))) - 0)+1))],[(0,⟨(List.take ((0+(Int.toNat (k:Int)))*1) C++ [.sl (aj own) own.length false]++List.drop (((0+(Int.toNat (k:Int)))*1)+1) C),0,false,0,1,true⟩),(1,⟨((List.take (((Int.toNat (IntKind.wrap .i64 ((a.length:Int) - (AV.toInt (List.headD (List.drop ((0+((Int.toNat x.op)*5))+1) jU) .dead))))) - 0)*1) (aj a))++ [.int .i64 (k:Int)]),0,false,0,1,true⟩)],.dead,[]⟩:=
 have h:ah prog ap [] nt (ae 0 (af f37)) ⟨[(15,.sl (aH l) l.length b),(16,.int .i64 (l.length:Int)),(17,.int .i64 (k:Int)),(4,.ref 0 0 0 l.length),(5,.ref 1 0 0 a.length)],[(0,⟨C,0,false,0,1,true⟩),(1,⟨(aj a),0,false,0,1,true⟩)],.dead,[]⟩ (.normal) ⟨[(15,.sl (aH l) l.length b),(16,.int .i64 (l.length:Int)),(17,.int .i64 (IntKind.wrap .i64 ((k:Int)+((1:Nat):Int)))),(4,.ref 0 0 0 l.length),(5,.ref 1 0 0 (((Int.toNat (IntKind.wrap .i64 ((a.length:Int) - (AV.toInt (List.headD (List.drop ((0+((Int.toNat x.op)*5))+1) jU) .dead))))) - 0)+1))],[(0,⟨(List.take ((0+(Int.toNat (k:Int)))*1) C++ [.sl (aj own) own.length false]++List.drop (((0+(Int.toNat (k:Int)))*1)+1) C),0,false,0,1,true⟩),(1,⟨((List.take (((Int.toNat (IntKind.wrap .i64 ((a.length:Int) - (AV.toInt (List.headD (List.drop ((0+((Int.toNat x.op)*5))+1) jU) .dead))))) - 0)*1) (aj a))++ [.int .i64 (k:Int)]),0,false,0,1,true⟩),(2,⟨[.int .i64 x.op,.bool x.neg,.str x.num,.str x.den,.str x.name],0,false,0,0,true⟩)],.dead,[]⟩:=pJ 37 [] 1 1 (.k 1 h0 (.c p (.k 2 j (.c g (.c o (.c f (.c i (.c j (.c g (.c t (.c q (.c s (.c d (.k 7 f (.c i (.c e .nil)))))))))))))))) (.c n (.v 20 (.ppt c) .nil)) m
 h.forgetD 2 ⟨[.int .i64 x.op,.bool x.neg,.str x.num,.str x.den,.str x.name],0,false,0,0,true⟩ (by intro v h;cases h) (by decide) rfl ⟨Fz.same rfl,Fz.same rfl,Fz.same rfl,Fz.same rfl,Fz.same rfl,trivial⟩ ⟨rfl,E5.same rfl,by decide,rfl,E5.same rfl,by decide,rfl⟩ rfl
theorem Qg {nt:Nat} (b:45≤nt) (l:List Nd) (c:Bool) (k:Nat) (C:List AV) (a own:List Nat) (h0:lit false (decide ((k:Int)<(l.length:Int)))=true):ah prog ap [] nt (ae 0 (af f37)) ⟨[(15,.sl (aH l) l.length c),(16,.int .i64 (l.length:Int)),(17,.int .i64 (k:Int)),(4,.ref 0 0 0 l.length),(5,.ref 1 0 0 a.length)],[(0,⟨C,0,false,0,1,true⟩),(1,⟨(aj a),0,false,0,1,true⟩)],.dead,[]⟩ (.exit 0) ⟨[(4,.ref 0 0 0 l.length)],[(0,⟨C,0,false,0,1,true⟩),(1,⟨(aj a),0,false,0,1,true⟩)],.dead,[]⟩:=pJ 37 [] 1 0 (.c h0 .nil) (.nil) b
theorem ael (l:List Nd) (a:Bool) (w:Int) (C:List AV) (h0:lit true (!(w==((0:Nat):Int)))=true) (b:CO 21 [.sl (aH l) l.length a] (.ret (.int .i64 w))):CO 37 [.sl (aH l) l.length a] (.ret (.tup [.nilS,.bool false])):=pK [0] 1 1 (.c h0 .nil) (.c b .nil)
theorem aem (l:List Nd) (a:Bool) (w:Int) (C:List AV) (h0:(decide (((0:Nat):Int)≤(l.length:Int)))=true) (e:(decide ((l.length:Int)=(l.length:Int)))=true) (d:(decide ((l.length:Int)≤((1099511627776:Nat):Int)))=true) (f:lit false (!(w==((0:Nat):Int)))=true) (c:CO 21 [.sl (aH l) l.length a] (.ret (.int .i64 w))) (b:aI prog ap [] 45 (.block 0 (.loop (ae 0 (af f37)))) ⟨[(0,.sl (aH l) l.length a),(2,.nilS),(3,.bool false),(4,.ref 0 0 0 (Int.toNat (l.length:Int))),(5,.nilS),(6,.dead),(7,.dead),(8,.dead),(11,.bool (!(w==((0:Nat):Int)))),(15,.sl (aH l) l.length a),(16,.int .i64 (l.length:Int)),(17,.int .i64 0),(18,.dead)],[(0,⟨(iV (Int.toNat (l.length:Int)) [.nilS]),0,false,0,1,true⟩)],.dead,[]⟩ (.normal) ⟨[(4,.ref 0 0 0 l.length)],[(0,⟨C,0,false,0,1,true⟩)],.dead,[]⟩):CO 37 [.sl (aH l) l.length a] (.ret (.tup [.own (List.take (l.length*1) C) l.length 1,.bool true])):=pK [0] 1 0 (.c h0 (.c e (.c d (.c f .nil)))) (.l b (.c c .nil))
theorem aeM:CO 62 [.nilS] (.ret (.nilS)):=pK [] 1 1 (.n 1 .nil) (.nil)
theorem aeL (a:List Nat) (i n:Nat) (h0:(Nat.beq (List.length (List.take (n*1) (List.drop (i*1) (aj a)))) (n*1))=true) (b:(Nat.ble (0+n) 1099511627776)=true):au prog ap 62 [.ref 0 0 i n] [⟨(aj a),0,false,0,1,true⟩] (.ret (.own (List.take ((0+n)*1) ([]++(List.take (n*1) (List.drop (i*1) (aj a))))) (0+n) 1)) [⟨(aj a),0,false,0,1,true⟩]:=pK [] 1 0 (.c h0 (.c b (.n 3 .nil))) (.nil)
def vJ:List Nd→Nat→List Nat→List (List Nat)
 | [],_,_=> []
 |x::r,k,st=>st.drop (st.length - dM x.op)::vJ r (k+1) (st.take (st.length - dM x.op)++ [k])
def bQ (l:List Nd):List (List Nat):=vJ l 0 []
def yR (a:List Nat):AV:= .sl (aj a) a.length false
def bC (ll:List (List Nat)):List AV:=ll.map yR
def SX:List Nd→Nat→List Nat→List Nat
 | [],_,st=>st
 |x::r,k,st=>SX r (k+1) (st.take (st.length - dM x.op)++ [k])
theorem BZ (r:List Nd):∀ k a,(vJ r k a).length=r.length:=by
 induction r with
 |nil=>intros;rfl
 |cons x r ih=>intro k a;simp only [vJ,List.length_cons,ih]
def agE (st:List Nat):AV:=match st with| []=> .nilS|x::l=> .ref 1 0 0 (x::l).length
def agH (st:List Nat):Hp:=match st with| []=> []|x::l=> [(1,⟨aj (x::l),0,false,0,1,true⟩)]
theorem MI {l:List Nat} (h:l ≠ []):agE l= .ref 1 0 0 l.length:=by cases l with|nil=>exact absurd rfl h|cons _ _=>rfl
theorem H8 {l:List Nat} (h:l ≠ []):agH l= [(1,⟨aj l,0,false,0,1,true⟩)]:=by cases l with|nil=>exact absurd rfl h|cons _ _=>rfl
def H9 (l:List Nd) (nn:Bool) (p:Nat × List Nat × List AV):St:=⟨[(15,.sl (aH l) l.length nn),(16,.int .i64 (l.length:Int)),(17,.int .i64 (p.1:Int)),(4,.ref 0 0 0 l.length),(5,agE p.2.1)],(0,⟨p.2.2,0,false,0,1,true⟩)::agH p.2.1,.dead,[]⟩
def FX (l:List Nd) (p:List Nat × List AV):St:=⟨[(4,.ref 0 0 0 l.length)],(0,⟨p.2,0,false,0,1,true⟩)::agH p.1,.dead,[]⟩
theorem Qq:au prog ap 62 [.nilS] [] (.ret (.sl (aj []) ([]:List Nat).length false)) []:=aeM.out (kz.ret rfl rfl (aT.nilS false rfl))
theorem TC (a:List Nat) (i n:Nat) (h:i+n=a.length) (g:a.length<2^40):au prog ap 62 [.ref 0 0 i n] [⟨aj a,0,false,0,1,true⟩] (.ret (.sl (aj (a.drop i)) n false)) [⟨aj a,0,false,0,1,true⟩]:=by
 have e:=aeL a i n
 have f:n≤a.length:=by omega
 have d:List.take n (List.drop i (aj a))=aj (a.drop i):=by
  rw [J9,dQ,List.take_of_length_le (by simp;omega)]
 have b:(aj (a.drop i)).length=n:=by rw [dW,List.length_drop];omega
 simp (disch:=first|omega|(simp [ak,ay]<;>omega)) only [Nat.mul_one,d,b,IW,decide_true,Nat.zero_add,fP,bu,List.nil_append] at e
 have c:=(e True.intro (by omega)).thaw (by simp)
 simp only [wG,thaw,Nat.mul_one] at c
 rw [List.take_of_length_le (by rw [List.length_take,b];omega),List.take_of_length_le (by omega)] at c
 exact c.out (kz.sl1 _ _ _)
theorem WW {nt:Nat} (k:45≤nt) (l p r:List Nd) (e:Bool) (x:Nd) (a:List Nat) (C C2:List AV) (j:l=p++x::r) (t:l.length<2^39) (g:1≤x.op∧x.op≤24) (h:dM x.op≤a.length) (u:a.length≤p.length) (n:C.length=l.length)
  (hset:List.take p.length C++ [yR (a.drop (a.length - dM x.op))]++List.drop (p.length+1) C=C2):
  ah prog ap [] nt (ae 0 (af f37)) (H9 l e (p.length,a,C)) .normal (H9 l e (p.length+1,a.take (a.length - dM x.op)++ [p.length],C2)):=by
 have d:List.drop (Int.toNat (p.length:Int)*5) (aH l)=iZ x++aH r:=by rw [j];exact yx rfl
 have o:p.length+(r.length+1)=l.length:=by rw [j];simp
 obtain ⟨q,w⟩:=g
 have i:=Ox q w
 unfold H9
 simp only
 rw [MI (iP _ _),H8 (iP _ _)]
 rcases Decidable.em (a= []) with rfl|hne
 ·have h0:dM x.op=0:=by simpa using h
  have b:=aen k l e p.length C [] [] x r d
  simp only [List.length_nil,Nat.zero_sub,List.drop_nil,List.take_nil,List.nil_append] at hset ⊢
  unfold yR at hset
  have f:=Qq
  simp (disch:=first|omega|(simp [ak,ay]<;>omega)) only [Nat.zero_add,i,h0,a_,jX,Nat.sub_zero,bu,aA,Nat.mul_one,n,fP,dF,aZ,eQ,bG,List.length_nil,dB,bz] at b
  simp only [agE,agH,aj,List.map_cons,List.map_nil,List.length_cons,List.length_nil,Nat.zero_add] at b hset f ⊢
  rw [hset] at b
  apply b<;>first|exact True.intro|omega|assumption|exact rfl|skip
 ·have s:=TC a (a.length - dM x.op) (dM x.op) (by omega) (by omega)
  have b:=aek k l e p.length C a (a.drop (a.length - dM x.op)) x r d
  rw [MI hne,H8 hne]
  unfold yR at hset
  generalize A:a.length - dM x.op=m at*
  have c:(a.drop m).length=dM x.op:=by rw [List.length_drop];omega
  have z:IntKind.wrap .i64 ((a.length:Int) - ((dM x.op:Nat):Int))=(m:Int):=by rw [dC]<;>omega
  have y:a.length - m=dM x.op:=by omega
  rw [c] at b hset
  have v:(a.take m).length=m:=by rw [List.length_take];omega
  simp (disch:=first|omega|(simp [ak,ay]<;>omega)) only [Nat.zero_add,i,a_,z,aA,Nat.sub_zero,fP,bu,Nat.mul_one,dW,dF,n,aZ,eQ,bG,y,dB,bz,hset,dQ,jw] at b
  simp only [List.length_append,List.length_singleton,v]
  apply b<;>first|exact True.intro|omega|assumption|exact rfl|skip
theorem OX {r:List Nd} {d e:Nat} {x:Nd} (h:jm (x::r) d= .inl e):(1≤x.op∧x.op≤24)∧dM x.op≤d∧jm r (d - dM x.op+1)= .inl e:=by
 simp only [jm] at h
 by_cases h1:aJ x=0
 ·rw [if_pos h1] at h
  by_cases h2:d<dM x.op
  ·rw [if_pos h2] at h;cases h
  ·rw [if_neg h2] at h
   exact ⟨EW h1,by omega,h⟩
 ·rw [if_neg h1] at h;cases h
theorem uO (a:List (List Nat)):(bC a).length=a.length:=by simp [bC]
theorem Qi (done:List (List Nat)) (a:List Nat) (m:Nat):List.take done.length (bC done++List.replicate (m+1) AV.nilS)++ [yR a]++List.drop (done.length+1) (bC done++List.replicate (m+1) AV.nilS)=bC (done++ [a])++List.replicate m AV.nilS:=by
 have b:=uO done
 rw [List.take_append_of_le_length (by omega),List.take_of_length_le (by omega),List.drop_append,List.drop_of_length_le (by omega),List.nil_append,show done.length+1 - (bC done).length=1 by omega,List.replicate_succ,List.drop_succ_cons,List.drop_zero]
 unfold bC
 rw [List.map_append]
 rfl
theorem WV {nt:Nat} (g:45≤nt) (l:List Nd) (f:Bool) (k:l.length<2^39) (e:Nat):∀ (r p:List Nd) (a:List Nat) (done:List (List Nat)),p++r=l→jm r a.length= .inl e→a.length≤p.length→done.length=p.length→aF prog ap [] nt (ae 0 (af f37)) (fun _=> .exit 0) (H9 l f) (FX l) (p.length,a,bC done++List.replicate r.length .nilS) (SX r p.length a,bC (done++vJ r p.length a)):=by
 intro r
 induction r with
 | nil=>
  intro p a done h o d j
  have hp:p.length=l.length:=by rw [← h];simp
  rw [hp]
  simp only [vJ,SX,List.append_nil,List.length_nil,List.replicate_zero]
  refine .done ?_
  unfold H9 FX
  have q:ah prog ap [] nt (ae 0 (af f37)) (H9 l f (l.length,a,bC done)) (.exit 0) (FX l (a,bC done)):=by
   unfold H9 FX
   rcases Decidable.em (a= []) with rfl|hne
   ·exact Qh g l f l.length (bC done) [] [] (by rw [aZ];simp [lit])
   ·simp only
    rw [MI hne,H8 hne]
    exact Qg g l f l.length (bC done) a [] (by rw [aZ];simp [lit])
  exact q
 | cons x r ih=>
  intro p a done h o d j
  obtain ⟨m,n,i⟩:=OX o
  have s:p.length+(r.length+1)=l.length:=by rw [← h];simp
  have c:(a.take (a.length - dM x.op)++ [p.length]).length=a.length - dM x.op+1:=by
   rw [List.length_append,List.length_take,List.length_singleton,Nat.min_eq_left (by omega)]
  have hnext:=ih (p++ [x]) (a.take (a.length - dM x.op)++ [p.length]) (done++ [a.drop (a.length - dM x.op)]) (by simp [h]) (by rw [c];exact i) (by rw [c];simp;omega) (by simp [j])
  rw [List.length_append,List.length_singleton,List.append_assoc] at hnext
  simp only [vJ,SX,List.length_cons]
  have b:=Qi done (a.drop (a.length - dM x.op)) r.length
  rw [j] at b
  have hstep:=WW g l p r f x a (bC done++List.replicate (r.length+1) .nilS) _ h.symm k m n d (by rw [List.length_append,uO,List.length_replicate];omega) b
  exact .next hstep hnext
theorem Vy (n:Nat):iV n [AV.nilS]=List.replicate n AV.nilS:=by
 unfold iV
 induction n with
 |zero=>rfl
 |succ n ih=>rw [List.replicate_succ,List.flatten_cons,ih,List.replicate_succ];rfl
theorem Cm {l:List Nd} (h:dH l=0):l.length≤60∧jm l 0= .inl 1:=by
 unfold dH at h
 by_cases h60:60<l.length
 ·rw [if_pos h60] at h;cases h
 ·rw [if_neg h60] at h
  refine ⟨by omega, ?_⟩
  have b:∀ (r:List Nd) (d:Nat) (w:Int),jm r d= .inr w→w ≠ 0:=by
   intro r
   induction r with
   |nil=>intro d w h;cases h
   | cons x r ih=>
    intro d w h
    simp only [jm] at h
    by_cases h1:aJ x=0
    ·rw [if_pos h1] at h
     by_cases h2:d<dM x.op
     ·rw [if_pos h2] at h;cases h;decide
     ·rw [if_neg h2] at h;exact ih _ _ h
    ·rw [if_neg h1] at h;cases h;exact h1
  cases a:jm l 0 with
  |inl d=>
   rw [a] at h
   by_cases hd:d=1
   ·rw [hd]
   ·simp only [if_neg hd] at h;cases h
  |inr w=>rw [a] at h;exact absurd h (b l 0 w a)
theorem Xa (l:List Nd) (b:Bool) (i:∀ x ∈ l,x.sm) (k:dH l=0):CO 37 [.sl (aH l) l.length b] (.ret (.tup [.sl (bC (bQ l)) l.length true,.bool true])):=by
 have c:List.take l.length (bC (bQ l))=bC (bQ l):=List.take_of_length_le (by rw [uO];unfold bQ;rw [BZ];omega)
 suffices hown:CO 37 [.sl (aH l) l.length b] (.ret (.tup [.own (bC (bQ l)) l.length 1,.bool true])) by
  have h:=hown.thaw (by simp)
  simp only [wG,List.map_cons,List.map_nil,thaw,Nat.mul_one,c] at h
  exact h
 have d:=CB l b i
 obtain ⟨o,j⟩:=Cm k
 rw [k] at d
 have hloop:=fun nt (hn:45≤nt)=>WV hn l b (by omega) 1 l [] [] [] rfl j (by simp) rfl
 have f:(bQ l).length=l.length:=BZ l 0 []
 have h:=aem l b 0 (bC (bQ l))
 simp (disch:=first|omega|(simp [ak,ay]<;>omega)) only [dF,bu,decide_true,dO,eF,Af,aA,Vy,Nat.mul_one,c] at h
 have m:(bC (bQ l)).length=l.length:=by rw [uO,f]
 have p:l.length<1099511627776:=by omega
 apply h<;>first|exact True.intro|omega|assumption|exact rfl|skip
 intro nt g
 have e:=aF.blk (s:=H9 l b (0,[],List.replicate l.length AV.nilS)) (s':=FX l (SX l 0 [],bC (bQ l))) (id:=0) hloop (by simp) rfl (aK.refl _) (aK.refl _) nt g
 unfold H9 FX at e
 simp only [agE,agH] at e
 have a:=e.weak (s':=⟨[(0,.sl (aH l) l.length b),(2,.nilS),(3,.bool false),(4,.ref 0 0 0 l.length),(5,.nilS),(6,.dead),(7,.dead),(8,.dead),(11,.bool false),(15,.sl (aH l) l.length b),(16,.int .i64 (l.length:Int)),(17,.int .i64 0),(18,.dead)],[(0,⟨List.replicate l.length AV.nilS,0,false,0,1,true⟩)],.dead,[]⟩) (aK.of ⟨rfl,rfl,rfl,rfl,rfl,trivial⟩) (aK.refl _)
 rcases Decidable.em (SX l 0 []= []) with he|he
 ·rw [he] at a;exact a
 ·have n:=H8 he
  unfold agH at n
  rw [n] at a
  exact a.forget 1 _ (by intro v h;cases h) (by decide) rfl ⟨Fz.same rfl,trivial⟩ ⟨rfl,E5.same rfl,by decide,rfl⟩
theorem alK {nt:Nat} (b:59≤nt) (l:List Nd) (a:Bool) (h0:(gW (.int .i64) (List.headD (aH l) .dead))=true) (e:(decide (((0:Nat):Int)<(l.length:Int)))=true) (d:lit true (decide (((0:Nat):Int)<(l.length:Int)))=true) (c:CO 30 [.int .i64 (AV.toInt (List.headD (aH l) .dead))] (.ret (.int .i64 0))):ah prog ap [] nt (ae 0 (af f40)) ⟨[(0,.sl (aH l) l.length a),(5,.nilS),(6,.nilS),(7,.int .i64 0)],[],.dead,[]⟩ (.normal) ⟨[(0,.sl (aH l) l.length a),(5,.ref 0 0 0 1),(6,.ref 1 0 0 1),(7,.int .i64 1)],[(0,⟨[.nilS],0,false,0,1,true⟩),(1,⟨[.int .i64 0],0,false,0,1,true⟩)],.dead,[]⟩:=pJ 40 [] 4 1 (.k 9 h0 (.k 1 e (.c d .nil))) (.c c .nil) b
theorem acn {nt:Nat} (d:59≤nt) (l:List Nd) (c:Bool) (C:List AV) (b own:List Nat) (i k a:Nat) (h0:(gW (.int .i64) (List.headD (List.drop ((0+(Int.toNat (i:Int)))*1) (aj b)) .dead))=true) (f:(decide (((0:Nat):Int)≤(i:Int)))=true) (e:(decide ((i:Int)<(b.length:Int)))=true) (g:lit true (decide ((i:Int)<(b.length:Int)))=true):ah prog ap [] nt (ae 2 (af f40)) ⟨[(0,.sl (aH l) l.length c),(7,.int .i64 (k:Int)),(8,.int .i64 (a:Int)),(5,.ref 0 0 0 k),(6,.ref 1 0 0 b.length),(9,.nilS),(10,.int .i64 (i:Int))],[(0,⟨C,0,false,0,1,true⟩),(1,⟨(aj b),0,false,0,1,true⟩)],.dead,[]⟩ (.normal) ⟨[(0,.sl (aH l) l.length c),(7,.int .i64 (k:Int)),(8,.int .i64 (a:Int)),(5,.ref 0 0 0 k),(6,.ref 1 0 0 b.length),(9,.ref 2 0 0 1),(10,.int .i64 (IntKind.wrap .i64 ((i:Int)+((1:Nat):Int))))],[(0,⟨C,0,false,0,1,true⟩),(1,⟨(aj b),0,false,0,1,true⟩),(2,⟨[.int .i64 (AV.toInt (List.headD (List.drop ((0+(Int.toNat (i:Int)))*1) (aj b)) .dead))],0,false,0,1,true⟩)],.dead,[]⟩:=pJ 40 [] 2 1 (.k 3 h0 (.c f (.c e (.c g .nil)))) (.nil) d
theorem aco {nt:Nat} (d:59≤nt) (l:List Nd) (c:Bool) (C:List AV) (b own:List Nat) (i k a:Nat) (h0:lit false (decide ((i:Int)<(b.length:Int)))=true):ah prog ap [] nt (ae 2 (af f40)) ⟨[(0,.sl (aH l) l.length c),(7,.int .i64 (k:Int)),(8,.int .i64 (a:Int)),(5,.ref 0 0 0 k),(6,.ref 1 0 0 b.length),(9,.nilS),(10,.int .i64 (i:Int))],[(0,⟨C,0,false,0,1,true⟩),(1,⟨(aj b),0,false,0,1,true⟩)],.dead,[]⟩ (.exit 2) ⟨[(0,.sl (aH l) l.length c),(7,.int .i64 (k:Int)),(8,.int .i64 (a:Int)),(5,.ref 0 0 0 k),(6,.ref 1 0 0 b.length),(9,.nilS)],[(0,⟨C,0,false,0,1,true⟩),(1,⟨(aj b),0,false,0,1,true⟩)],.dead,[]⟩:=pJ 40 [] 1 0 (.c h0 .nil) (.nil) d
theorem acl {nt:Nat} (d:59≤nt) (l:List Nd) (c:Bool) (C:List AV) (b own:List Nat) (i k a:Nat) (h0:(Nat.ble (own.length+1) 1099511627776)=true) (f:(Nat.ble (own.length*1) (List.length (aj own)))=true) (e:(gW (.int .i64) (List.headD (List.drop ((0+(Int.toNat (i:Int)))*1) (aj b)) .dead))=true) (h:(decide (((0:Nat):Int)≤(i:Int)))=true) (g:(decide ((i:Int)<(b.length:Int)))=true) (j:lit true (decide ((i:Int)<(b.length:Int)))=true):ah prog ap [] nt (ae 2 (af f40)) ⟨[(0,.sl (aH l) l.length c),(7,.int .i64 (k:Int)),(8,.int .i64 (a:Int)),(5,.ref 0 0 0 k),(6,.ref 1 0 0 b.length),(9,.ref 2 0 0 own.length),(10,.int .i64 (i:Int))],[(0,⟨C,0,false,0,1,true⟩),(1,⟨(aj b),0,false,0,1,true⟩),(2,⟨(aj own),0,false,0,1,true⟩)],.dead,[]⟩ (.normal) ⟨[(0,.sl (aH l) l.length c),(7,.int .i64 (k:Int)),(8,.int .i64 (a:Int)),(5,.ref 0 0 0 k),(6,.ref 1 0 0 b.length),(9,.ref 2 0 0 (own.length+1)),(10,.int .i64 (IntKind.wrap .i64 ((i:Int)+((1:Nat):Int))))],[(0,⟨C,0,false,0,1,true⟩),(1,⟨(aj b),0,false,0,1,true⟩),(2,⟨((List.take (own.length*1) (aj own))++ [.int .i64 (AV.toInt (List.headD (List.drop ((0+(Int.toNat (i:Int)))*1) (aj b)) .dead))]),0,false,0,1,true⟩)],.dead,[]⟩:=pJ 40 [] 1 1 (.k 1 h0 (.c f (.k 1 e (.c h (.c g (.c j .nil)))))) (.nil) d
theorem acm {nt:Nat} (d:59≤nt) (l:List Nd) (c:Bool) (C:List AV) (b own:List Nat) (i k a:Nat) (h0:lit false (decide ((i:Int)<(b.length:Int)))=true):ah prog ap [] nt (ae 2 (af f40)) ⟨[(0,.sl (aH l) l.length c),(7,.int .i64 (k:Int)),(8,.int .i64 (a:Int)),(5,.ref 0 0 0 k),(6,.ref 1 0 0 b.length),(9,.ref 2 0 0 own.length),(10,.int .i64 (i:Int))],[(0,⟨C,0,false,0,1,true⟩),(1,⟨(aj b),0,false,0,1,true⟩),(2,⟨(aj own),0,false,0,1,true⟩)],.dead,[]⟩ (.exit 2) ⟨[(0,.sl (aH l) l.length c),(7,.int .i64 (k:Int)),(8,.int .i64 (a:Int)),(5,.ref 0 0 0 k),(6,.ref 1 0 0 b.length),(9,.ref 2 0 0 own.length)],[(0,⟨C,0,false,0,1,true⟩),(1,⟨(aj b),0,false,0,1,true⟩),(2,⟨(aj own),0,false,0,1,true⟩)],.dead,[]⟩:=pJ 40 [] 1 0 (.c h0 .nil) (.nil) d
theorem alL {nt:Nat} (e:59≤nt) (l:List Nd) (c:Bool) (k a:Nat) (C:List AV) (b own:List Nat) (x:Nd) (r:List Nd) (d:(List.drop (((Int.toNat (k:Int))*5)+0) (aH l))=iZ x++aH r) (h0:(Nat.ble (k+1) 1099511627776)=true) (j:(Nat.ble (k*1) (List.length C))=true) (p:(Nat.ble (((Int.toNat (IntKind.wrap .i64 ((b.length:Int) - (a:Int)))) - 0)+1) 1099511627776)=true) (m:(Nat.ble (((Int.toNat (IntKind.wrap .i64 ((b.length:Int) - (a:Int)))) - 0)*1) (List.length (aj b)))=true) (h:(decide (((0:Nat):Int)≤(IntKind.wrap .i64 ((b.length:Int) - (a:Int)))))=true) (g:(decide ((IntKind.wrap .i64 ((b.length:Int) - (a:Int)))≤(b.length:Int)))=true) (n:(decide (((0:Nat):Int)≤(k:Int)))=true) (q:(decide ((k:Int)<(l.length:Int)))=true) (o:lit true (decide ((k:Int)<(l.length:Int)))=true) (f:CO 30 [.int .i64 x.op] (.ret (.int .i64 (a:Int)))) (i:aI prog ap [] 59 (.block 2 (.loop (ae 2 (af f40)))) ⟨[(0,.sl (aH l) l.length c),(2,.dead),(3,.dead),(4,.dead),(5,.ref 0 0 0 k),(6,.ref 1 0 0 b.length),(7,.int .i64 (k:Int)),(8,.int .i64 (a:Int)),(9,.nilS),(10,.int .i64 (IntKind.wrap .i64 ((b.length:Int) - (a:Int)))),(14,.dead),(18,.bool (decide ((k:Int)<(l.length:Int)))),(34,.dead)],[(0,⟨C,0,false,0,1,true⟩),(1,⟨(aj b),0,false,0,1,true⟩)],.dead,[]⟩ (.normal) ⟨[(0,.sl (aH l) l.length c),(5,.ref 0 0 0 k),(6,.ref 1 0 0 b.length),(7,.int .i64 (k:Int)),(8,.int .i64 (a:Int)),(9,.nilS)],[(0,⟨C,0,false,0,1,true⟩),(1,⟨(aj b),0,false,0,1,true⟩)],.dead,[]⟩):ah prog ap [] nt (ae 0 (af f40)) ⟨[(0,.sl (aH l) l.length c),(5,.ref 0 0 0 k),(6,.ref 1 0 0 b.length),(7,.int .i64 (k:Int))],[(0,⟨C,0,false,0,1,true⟩),(1,⟨(aj b),0,false,0,1,true⟩)],.dead,[]⟩ (.normal) ⟨[(0,.sl (aH l) l.length c),(5,.ref 0 0 0 (k+1)),(6,.ref 1 0 0 (((Int.toNat (IntKind.wrap .i64 ((b.length:Int) - (a:Int)))) - 0)+1)),(7,.int .i64 (IntKind.wrap .i64 ((k:Int)+((1:Nat):Int))))],[(0,⟨((List.take (k*1) C)++ [.nilS]),0,false,0,1,true⟩),(1,⟨((List.take (((Int.toNat (IntKind.wrap .i64 ((b.length:Int) - (a:Int)))) - 0)*1) (aj b))++ [.int .i64 (k:Int)]),0,false,0,1,true⟩)],.dead,[]⟩:=pJ 40 [2] 1 1 (.k 1 h0 (.c j (.k 2 p (.c m (.k 2 h (.c g (.k 1 n (.c q (.c o .nil))))))))) (.l i (.c f (.v 24 (.ppt d) .nil))) e
theorem Q5 {nt:Nat} (c:59≤nt) (l:List Nd) (d:Bool) (k a:Nat) (C:List AV) (b own:List Nat) (h0:lit false (decide ((k:Int)<(l.length:Int)))=true):ah prog ap [] nt (ae 0 (af f40)) ⟨[(0,.sl (aH l) l.length d),(5,.ref 0 0 0 k),(6,.ref 1 0 0 b.length),(7,.int .i64 (k:Int))],[(0,⟨C,0,false,0,1,true⟩),(1,⟨(aj b),0,false,0,1,true⟩)],.dead,[]⟩ (.exit 0) ⟨[(5,.ref 0 0 0 k)],[(0,⟨C,0,false,0,1,true⟩),(1,⟨(aj b),0,false,0,1,true⟩)],.dead,[]⟩:=pJ 40 [2] 1 0 (.c h0 .nil) (.nil) c
theorem alJ {nt:Nat} (e:59≤nt) (l:List Nd) (c:Bool) (k a:Nat) (C:List AV) (b own:List Nat) (x:Nd) (r:List Nd) (d:(List.drop (((Int.toNat (k:Int))*5)+0) (aH l))=iZ x++aH r) (h0:(Nat.ble (k+1) 1099511627776)=true) (j:(Nat.ble (k*1) (List.length C))=true) (p:(Nat.ble (((Int.toNat (IntKind.wrap .i64 ((b.length:Int) - (a:Int)))) - 0)+1) 1099511627776)=true) (m:(Nat.ble (((Int.toNat (IntKind.wrap .i64 ((b.length:Int) - (a:Int)))) - 0)*1) (List.length (aj b)))=true) (h:(decide (((0:Nat):Int)≤(IntKind.wrap .i64 ((b.length:Int) - (a:Int)))))=true) (g:(decide ((IntKind.wrap .i64 ((b.length:Int) - (a:Int)))≤(b.length:Int)))=true) (n:(decide (((0:Nat):Int)≤(k:Int)))=true) (q:(decide ((k:Int)<(l.length:Int)))=true) (o:lit true (decide ((k:Int)<(l.length:Int)))=true) (f:CO 30 [.int .i64 x.op] (.ret (.int .i64 (a:Int)))) (i:aI prog ap [] 59 (.block 2 (.loop (ae 2 (af f40)))) ⟨[(0,.sl (aH l) l.length c),(2,.dead),(3,.dead),(4,.dead),(5,.ref 0 0 0 k),(6,.ref 1 0 0 b.length),(7,.int .i64 (k:Int)),(8,.int .i64 (a:Int)),(9,.nilS),(10,.int .i64 (IntKind.wrap .i64 ((b.length:Int) - (a:Int)))),(14,.dead),(18,.bool (decide ((k:Int)<(l.length:Int)))),(34,.dead)],[(0,⟨C,0,false,0,1,true⟩),(1,⟨(aj b),0,false,0,1,true⟩)],.dead,[]⟩ (.normal) ⟨[(0,.sl (aH l) l.length c),(5,.ref 0 0 0 k),(6,.ref 1 0 0 b.length),(7,.int .i64 (k:Int)),(8,.int .i64 (a:Int)),(9,.sl (aj own) own.length true)],[(0,⟨C,0,false,0,1,true⟩),(1,⟨(aj b),0,false,0,1,true⟩)],.dead,[]⟩):ah prog ap [] nt (ae 0 (af f40)) ⟨[(0,.sl (aH l) l.length c),(5,.ref 0 0 0 k),(6,.ref 1 0 0 b.length),(7,.int .i64 (k:Int))],[(0,⟨C,0,false,0,1,true⟩),(1,⟨(aj b),0,false,0,1,true⟩)],.dead,[]⟩ (.normal) ⟨[(0,.sl (aH l) l.length c),(5,.ref 0 0 0 (k+1)),(6,.ref 1 0 0 (((Int.toNat (IntKind.wrap .i64 ((b.length:Int) - (a:Int)))) - 0)+1)),(7,.int .i64 (IntKind.wrap .i64 ((k:Int)+((1:Nat):Int))))],[(0,⟨((List.take (k*1) C)++ [.sl (aj own) own.length true]),0,false,0,1,true⟩),(1,⟨((List.take (((Int.toNat (IntKind.wrap .i64 ((b.length:Int) - (a:Int)))) - 0)*1) (aj b))++ [.int .i64 (k:Int)]),0,false,0,1,true⟩)],.dead,[]⟩:=pJ 40 [2] 1 1 (.k 1 h0 (.c j (.k 2 p (.c m (.k 2 h (.c g (.k 1 n (.c q (.c o .nil))))))))) (.l i (.c f (.v 24 (.ppt d) .nil))) e
theorem aci (l:List Nd) (a:Bool) (w:Int) (C:List AV) (n:Nat) (h0:lit true (!(w==((0:Nat):Int)))=true) (b:CO 48 [.sl (aH l) l.length a] (.ret (.int .i64 w))):CO 40 [.sl (aH l) l.length a] (.ret (.tup [.nilS,.bool false])):=pK [0] 1 1 (.c h0 .nil) (.c b .nil)
theorem acj (l:List Nd) (a:Bool) (w:Int) (C:List AV) (n:Nat) (h0:lit false (!(w==((0:Nat):Int)))=true) (c:CO 48 [.sl (aH l) l.length a] (.ret (.int .i64 w))) (b:aI prog ap [] 59 (.block 0 (.loop (ae 0 (af f40)))) ⟨[(0,.sl (aH l) l.length a),(2,.nilS),(3,.bool false),(4,.int .i64 w),(5,.nilS),(6,.nilS),(7,.int .i64 0),(8,.dead),(9,.dead),(10,.dead),(14,.bool (!(w==((0:Nat):Int)))),(18,.dead),(34,.dead)],[],.dead,[]⟩ (.normal) ⟨[(5,.ref 0 0 0 n)],[(0,⟨C,0,false,0,1,true⟩)],.dead,[]⟩):CO 40 [.sl (aH l) l.length a] (.ret (.tup [.own (List.take (n*1) C) n 1,.bool true])):=pK [0] 1 0 (.c h0 .nil) (.l b (.c c .nil))
def JE (a:List Nat):AV:=match a with| []=> .nilS|x::l=> .sl (aj (x::l)) (x::l).length true
def iR (ll:List (List Nat)):List AV:=ll.map JE
theorem W_ {a:List Nat} (h:a ≠ []):JE a= .sl (aj a) a.length true:=by cases a with|nil=>exact absurd rfl h|cons _ _=>rfl
theorem FZ (a:List (List Nat)):(iR a).length=a.length:=by simp [iR]
theorem MN (b:List (List Nat)) (a:List Nat):iR b++ [JE a]=iR (b++ [a]):=by simp [iR]
theorem U6 {p r:List Nd} {x:Nd} {k:Nat} (h:k=p.length):List.drop (Int.toNat (k:Int)*5+0) (aH (p++x::r))=iZ x++aH r:=by rw [Nat.add_zero];exact yx h
def riE (own:List Nat):AV:=match own with| []=> .nilS|x::l=> .ref 2 0 0 (x::l).length
def riH (own:List Nat):Hp:=match own with| []=> []|x::l=> [(2,⟨aj (x::l),0,false,0,1,true⟩)]
theorem Je {l:List Nat} (h:l ≠ []):riE l= .ref 2 0 0 l.length:=by cases l with|nil=>exact absurd rfl h|cons _ _=>rfl
theorem Jf {l:List Nat} (h:l ≠ []):riH l= [(2,⟨aj l,0,false,0,1,true⟩)]:=by cases l with|nil=>exact absurd rfl h|cons _ _=>rfl
def Js (C:List AV) (st:List Nat):Hp:= [(0,⟨C,0,false,0,1,true⟩),(1,⟨aj st,0,false,0,1,true⟩)]
def Rh (l:List Nd) (nn:Bool) (C:List AV) (st:List Nat) (k a:Nat) (p:Nat × List Nat):St:=⟨[(0,.sl (aH l) l.length nn),(7,.int .i64 (k:Int)),(8,.int .i64 (a:Int)),(5,.ref 0 0 0 k),(6,.ref 1 0 0 st.length),(9,riE p.2),(10,.int .i64 (p.1:Int))],Js C st++riH p.2,.dead,[]⟩
def Lh (l:List Nd) (nn:Bool) (C:List AV) (st:List Nat) (k a:Nat) (own:List Nat):St:=⟨[(0,.sl (aH l) l.length nn),(7,.int .i64 (k:Int)),(8,.int .i64 (a:Int)),(5,.ref 0 0 0 k),(6,.ref 1 0 0 st.length),(9,riE own)],Js C st++riH own,.dead,[]⟩
theorem Y1 {nt:Nat} (h:59≤nt) (l:List Nd) (f:Bool) (C:List AV) (b:List Nat) (k a:Nat) (o:b.length<2^39):∀ (d i:Nat) (own:List Nat),i+d=b.length→own.length≤i→aF prog ap [] nt (ae 2 (af f40)) (fun _=> .exit 2) (Rh l f C b k a) (Lh l f C b k a) (i,own) (own++b.drop i):=by
 intro d
 induction d with
 | zero=>
  intro i own m n
  rw [List.drop_of_length_le (by omega),List.append_nil]
  have j:i=b.length:=by omega
  subst j
  refine .done ?_
  unfold Rh Lh Js
  rcases Decidable.em (own= []) with rfl|hne
  ·exact aco h l f C b [] b.length k a (by rw [aZ];simp [lit])
  ·simp only
   rw [Je hne,Jf hne]
   exact acm h l f C b own b.length k a (by rw [aZ];simp [lit])
 | succ d ih=>
  intro i own m n
  have g:i<b.length:=by omega
  have hnext:=ih (i+1) (own++ [b.getD i 0]) (by omega) (by simp;omega)
  have e:b.drop i=b.getD i 0::b.drop (i+1):=by
   rw [List.drop_eq_getElem_cons g,List.getD_eq_getElem?_getD,List.getElem?_eq_getElem g];rfl
  rw [List.append_assoc,List.singleton_append,← e] at hnext
  refine .next ?_ hnext
  unfold Rh Js
  simp only
  rw [Je (iP _ _),Jf (iP _ _)]
  rcases Decidable.em (own= []) with rfl|hne
  ·have c:=acn h l f C b [] i k a
   simp (disch:=first|omega|(simp [ak,ay]<;>omega)) only [aA,Nat.zero_add,Nat.mul_one,gq,eQ,dF,bu,aZ,bG,dB,bz,a_] at c
   simp only [riE,riH,aj,List.map_cons,List.map_nil,List.length_cons,List.length_nil,List.nil_append,Nat.zero_add] at c ⊢
   apply c<;>first|exact True.intro|omega|assumption|exact rfl
  ·have c:=acl h l f C b own i k a
   simp (disch:=first|omega|(simp [ak,ay]<;>omega)) only [fP,bu,Nat.mul_one,dW,aA,Nat.zero_add,gq,eQ,dF,aZ,bG,dB,bz,dQ,List.take_length,a_,jw] at c
   rw [Je hne,Jf hne]
   simp only [List.length_append,List.length_singleton]
   apply c<;>first|exact True.intro|omega|assumption|exact rfl
def KZ (l:List Nd) (nn:Bool) (p:Nat × List Nat × List AV):St:=⟨[(0,.sl (aH l) l.length nn),(5,match p.1 with|0=> .nilS|_=> .ref 0 0 0 p.1),(6,match p.1 with|0=> .nilS|_=> .ref 1 0 0 p.2.1.length),(7,.int .i64 (p.1:Int))],match p.1 with|0=> []|_=>Js p.2.2 p.2.1,.dead,[]⟩
def Ei (p:Nat × List Nat × List AV):St:=⟨[(5,match p.1 with|0=> .nilS|_=> .ref 0 0 0 p.1)],match p.1 with|0=> []|_=>Js p.2.2 p.2.1,.dead,[]⟩
theorem YT {nt:Nat} (e:59≤nt) (l p r:List Nd) (c:Bool) (x:Nd) (a:List Nat) (C:List AV) (u:l=p++x::r) (J:l.length<2^38) (t:dM x.op≤a.length) (H:a.length≤p.length) (j:p= []→a= []∧C= []) (D:C.length=p.length):
  ah prog ap [] nt (ae 0 (af f40)) (KZ l c (p.length,a,C)) .normal (KZ l c (p.length+1,a.take (a.length - dM x.op)++ [p.length],C++ [JE (a.drop (a.length - dM x.op))])):=by
 have z:p.length+(r.length+1)=l.length:=by rw [u];simp
 have k3:=H_ x.op
 have F:=MM x.op
 rcases Decidable.em (p= []) with hp|hp
 ·obtain ⟨rfl,rfl⟩:=j hp
  subst hp
  have h0:dM x.op=0:=by simpa using t
  rw [h0] at k3
  rw [h0]
  have y:l=x::r:=by rw [u];rfl
  subst y
  exact alK e (x::r) c rfl (by rw [aZ];exact decide_eq_true (Nat.succ_pos r.length)) (by rw [aZ];exact decide_eq_true (Nat.succ_pos r.length)) k3
 ·obtain ⟨k,I⟩:∃ k,p.length=k+1:=⟨p.length - 1,by cases p with|nil=>exact absurd rfl hp|cons _ _=>simp⟩
  have f:List.drop (Int.toNat (p.length:Int)*5+0) (aH l)=iZ x++aH r:=by rw [u];exact U6 rfl
  have hloop:=fun nt (e:59≤nt)=>Y1 e l c C a p.length (dM x.op) (by omega) (dM x.op) (a.length - dM x.op) [] (by omega) (by simp)
  rw [List.nil_append] at hloop
  have i:KZ l c (p.length,a,C)=⟨[(0,.sl (aH l) l.length c),(5,.ref 0 0 0 p.length),(6,.ref 1 0 0 a.length),(7,.int .i64 (p.length:Int))],Js C a,.dead,[]⟩:=by rw [I];rfl
  rw [i]
  generalize L:a.length - dM x.op=m at*
  have G:IntKind.wrap .i64 ((a.length:Int) - ((dM x.op:Nat):Int))=(m:Int):=by rw [dC]<;>omega
  have q:(a.take m).length=m:=by rw [List.length_take];omega
  have K:C.length<2^38:=by omega
  have o:List.take p.length C=C:=List.take_of_length_le (by omega)
  rcases Decidable.em (a.drop m= []) with ho|ho
  ·have g:=alL e l c p.length (dM x.op) C a [] x r f
   rw [ho] at hloop ⊢
   simp (disch:=first|omega|(simp [ak,ay]<;>omega)) only [fP,bu,Nat.mul_one,D,G,aA,Nat.sub_zero,dW,dF,aZ,bG,dB,bz,o,dQ,jw] at g
   show ah prog ap [] nt _ _ .normal ⟨[(0,.sl (aH l) l.length c),(5,.ref 0 0 0 (p.length+1)),(6,.ref 1 0 0 (a.take m++ [p.length]).length),(7,.int .i64 ((p.length+1:Nat):Int))],Js (C++ [JE []]) (a.take m++ [p.length]),.dead,[]⟩
   simp only [List.length_append,List.length_singleton,q]
   unfold Js
   apply g<;>first|exact True.intro|omega|assumption|exact rfl|skip
   ·refine aF.blk hloop (by simp) rfl ?_ ?_
    ·unfold Rh Js;exact aK.of ⟨rfl,rfl,rfl,rfl,rfl,rfl,rfl,trivial⟩
    ·unfold Lh Js;exact aK.of ⟨rfl,rfl,rfl,rfl,rfl,rfl,trivial⟩
  ·have g:=alJ e l c p.length (dM x.op) C a (a.drop m) x r f
   simp (disch:=first|omega|(simp [ak,ay]<;>omega)) only [fP,bu,Nat.mul_one,D,G,aA,Nat.sub_zero,dW,dF,aZ,bG,dB,bz,o,dQ,jw] at g
   show ah prog ap [] nt _ _ .normal ⟨[(0,.sl (aH l) l.length c),(5,.ref 0 0 0 (p.length+1)),(6,.ref 1 0 0 (a.take m++ [p.length]).length),(7,.int .i64 ((p.length+1:Nat):Int))],Js (C++ [JE (a.drop m)]) (a.take m++ [p.length]),.dead,[]⟩
   rw [W_ ho]
   simp only [List.length_append,List.length_singleton,q]
   unfold Js
   apply g<;>first|exact True.intro|omega|assumption|exact rfl|skip
   ·intro nt w
    have d:=(aF.blk (s:=Rh l c C a p.length (dM x.op) (m,[])) (s':=Lh l c C a p.length (dM x.op) (a.drop m)) (id:=2) hloop (by simp) rfl (aK.refl _) (aK.refl _) nt w)
    unfold Rh Lh Js at d
    simp only [riE,riH,List.append_nil] at d
    have A:=Jf ho
    have E:=Je ho
    unfold riE at E
    unfold riH at A
    rw [A,E] at d
    have n:=d.forget (b:=2) (B:=⟨aj (a.drop m),0,false,0,1,true⟩) (hp':= [(0,⟨C,0,false,0,1,true⟩),(1,⟨aj a,0,false,0,1,true⟩)]) (en':= [(0,.sl (aH l) l.length c),(5,.ref 0 0 0 p.length),(6,.ref 1 0 0 a.length),(7,.int .i64 (p.length:Int)),(8,.int .i64 ((dM x.op:Nat):Int)),(9,.sl (List.take ((a.drop m).length*1) (List.drop (0*1) (aj (a.drop m)))) (a.drop m).length true)]) (by intro v h;cases h) (by decide) rfl ⟨Fz.same rfl,Fz.same rfl,Fz.same rfl,Fz.same rfl,Fz.same rfl,Fz.ref,trivial⟩ ⟨rfl,E5.same rfl,by decide,rfl,E5.same rfl,by decide,rfl⟩
    rw [Nat.mul_one,Nat.zero_mul,List.drop_zero,dQ,List.take_length] at n
    exact n.weak (aK.of ⟨rfl,rfl,rfl,rfl,rfl,rfl,rfl,trivial⟩) (aK.refl _)
theorem ack {nt:Nat} (d:59≤nt) (l:List Nd) (b:Bool) (a:List Nat) (C:List AV) (h0:0<l.length):ah prog ap [] nt (ae 0 (af f40)) (KZ l b (l.length,a,C)) (.exit 0) (Ei (l.length,a,C)):=by
 obtain ⟨k,c⟩:∃ k,l.length=k+1:=⟨l.length - 1,by omega⟩
 have e:KZ l b (l.length,a,C)=⟨[(0,.sl (aH l) l.length b),(5,.ref 0 0 0 l.length),(6,.ref 1 0 0 a.length),(7,.int .i64 (l.length:Int))],Js C a,.dead,[]⟩:=by
  unfold KZ;simp only [c]
 have f:Ei (l.length,a,C)=⟨[(5,.ref 0 0 0 l.length)],Js C a,.dead,[]⟩:=by
  unfold Ei;simp only [c]
 rw [e,f]
 exact Q5 d l b l.length 0 C a [] (by rw [aZ];simp [lit])
theorem YS {nt:Nat} (m:59≤nt) (l:List Nd) (j:Bool) (i:l.length<2^38) (h0:0<l.length) (e:Nat):∀ (r p:List Nd) (a:List Nat) (done:List (List Nat)),p++r=l→jm r a.length= .inl e→a.length≤p.length→done.length=p.length→(p= []→a= [])→aF prog ap [] nt (ae 0 (af f40)) (fun _=> .exit 0) (KZ l j) Ei (p.length,a,iR done) (l.length,SX r p.length a,iR (done++vJ r p.length a)):=by
 intro r
 induction r with
 |nil=>
  intro p a done h n d f c
  have hp:p.length=l.length:=by rw [← h];simp
  rw [hp]
  simp only [vJ,SX,List.append_nil]
  exact .done (ack m l j a _ h0)
 | cons x r ih=>
  intro p a done h n d f c
  obtain ⟨o,k,g⟩:=OX n
  have b:(a.take (a.length - dM x.op)++ [p.length]).length=a.length - dM x.op+1:=by
   rw [List.length_append,List.length_take,List.length_singleton,Nat.min_eq_left (by omega)]
  have hnext:=ih (p++ [x]) (a.take (a.length - dM x.op)++ [p.length]) (done++ [a.drop (a.length - dM x.op)]) (by simp [h]) (by rw [b];exact g) (by rw [b];simp;omega) (by simp [f]) (fun h=>by simp at h)
  rw [List.length_append,List.length_singleton,List.append_assoc,← MN] at hnext
  simp only [vJ,SX]
  refine .next (YT m l p r j x a (iR done) h.symm i k d (fun hp=> ⟨c hp, ?_⟩) (by rw [FZ];exact f)) hnext
  have:done= []:=List.eq_nil_of_length_eq_zero (by rw [f,hp];rfl)
  rw [this];rfl
theorem Vs (l:List Nd) (a:Bool) (g:∀ x ∈ l,x.sm) (j:dH l=0):CO 40 [.sl (aH l) l.length a] (.ret (.tup [.sl (iR (bQ l)) l.length true,.bool true])):=by
 have m:(iR (bQ l)).length=l.length:=by rw [FZ];unfold bQ;rw [BZ]
 have b:List.take l.length (iR (bQ l))=iR (bQ l):=List.take_of_length_le (by omega)
 suffices hown:CO 40 [.sl (aH l) l.length a] (.ret (.tup [.own (iR (bQ l)) l.length 1,.bool true])) by
  have h:=hown.thaw (by simp)
  simp only [wG,List.map_cons,List.map_nil,thaw,Nat.mul_one,b] at h
  exact h
 have d:=zB l a g
 obtain ⟨o,c⟩:=Cm j
 rw [j] at d
 have h0:0<l.length:=by
  cases l with
  |nil=>simp [jm] at c
  |cons _ _=>simp
 have hloop:=fun nt (hn:59≤nt)=>YS hn l a (by omega) h0 1 l [] [] [] rfl c (by simp) rfl (fun _=>rfl)
 have h:=acj l a 0 (iR (bQ l)) l.length
 have q:l.length<1099511627776:=by omega
 simp (disch:=first|omega|(simp [ak,ay]<;>omega)) only [dO,eF,Af,Nat.mul_one,b] at h
 apply h<;>first|exact True.intro|omega|assumption|exact rfl|skip
 intro nt f
 have e:=aF.blk (s:=KZ l a (0,[],iR [])) (s':=Ei (l.length,SX l 0 [],iR (bQ l))) (id:=0) hloop (by simp) rfl (aK.refl _) (aK.refl _) nt f
 obtain ⟨k,n⟩:∃ k,l.length=k+1:=⟨l.length - 1,by omega⟩
 have p:Ei (l.length,SX l 0 [],iR (bQ l))=⟨[(5,.ref 0 0 0 l.length)],Js (iR (bQ l)) (SX l 0 []),.dead,[]⟩:=by
  unfold Ei;simp only [n]
 rw [p] at e
 unfold Js at e
 have i:=e.forget 1 _ (en':= [(5,.ref 0 0 0 l.length)]) (hp':= [(0,⟨iR (bQ l),0,false,0,1,true⟩)]) (by intro v h;cases h) (by decide) rfl ⟨Fz.same rfl,trivial⟩ ⟨rfl,E5.same rfl,by decide,rfl⟩
 exact i.weak (aK.of ⟨rfl,rfl,rfl,rfl,trivial⟩) (aK.refl _)
structure Sc where
 name:List UInt8
 u1:Int
 u2:Int
 bx:List AV
 bn:Nat
def xw (x:Sc):List AV:= [.str x.name,.int .i64 x.u1,.int .i64 x.u2,.sl x.bx x.bn false]
def bZ (l:List Sc):List AV:=l.flatMap xw
theorem nU (l:List Sc):(bZ l).length=l.length*4:=by
 induction l with
 |nil=>rfl
 |cons x r ih=>simp only [bZ,List.flatMap_cons,List.length_append,List.length_cons] at ih ⊢;rw [ih];simp [xw];omega
theorem EH {l:List Sc} {k:Nat} (h:k<l.length):List.drop (k*4) (bZ l)=xw l[k]++bZ (l.drop (k+1)):=by
 induction l generalizing k with
 |nil=>simp at h
 | cons x r ih=>
  cases k with
  |zero=>simp [bZ]
  |succ k=>
   have a:k<r.length:=by simpa using h
   show List.drop ((k+1)*4) (xw x++bZ r)=_
   rw [show (k+1)*4=(xw x).length+k*4 by simp [xw];omega,List.drop_append,Nat.add_sub_cancel_left,ih a,List.drop_of_length_le (by omega)]
   rfl
def eu (a b:Nat):Nat:=if a=0 then b else if b=0∨a=b then a else 3
def jM (a:Nat):Nat:=if a=1∨a=2 then 3 - a else a
def eX (A:List (List Nat)) (ss:List Nat) (k i:Nat):Nat:=ss.getD ((A.getD k []).getD i 0) 0
def eG (A:List (List Nat)) (ss:List Nat) (k:Nat):Nat:=(A.getD k []).foldl (fun s i=>eu s (ss.getD i 0)) 0
abbrev wB (e:List Nd) (ne:Bool) (A:List (List Nat)) (sc:List Sc) (ns:Bool) (ss:List Nat):bi:=⟨[.sl (aH e) e.length ne,.sl (bC A) A.length true,.sl (bZ sc) sc.length ns,.ref 1 0 0 ss.length],0,false,0,0,false⟩
abbrev sB (ss:List Nat):bi:=⟨aj ss,0,false,0,1,true⟩
abbrev wH (e:List Nd) (ne:Bool) (A:List (List Nat)) (sc:List Sc) (ns:Bool) (ss:List Nat):List bi:= [wB e ne A sc ns ss,sB ss]
theorem lh {A:List (List Nat)} {k:Nat} (h:k<A.length):List.drop (Int.toNat (k:Int)*1) (bC A)= [yR (A.getD k [])]++bC (A.drop (k+1)):=by
 unfold bC
 rw [aA,Nat.mul_one,← List.map_drop,List.drop_eq_getElem_cons h,List.getD_eq_getElem?_getD,List.getElem?_eq_getElem h]
 rfl
theorem kG {a:List Nat} {k:Nat} (h:k<a.length):List.drop (Int.toNat (k:Int)*1) (aj a)= [AV.int .i64 ((a.getD k 0:Nat):Int)]++aj (a.drop (k+1)):=by
 unfold aj
 rw [aA,Nat.mul_one,← List.map_drop,List.drop_eq_getElem_cons h,List.getD_eq_getElem?_getD,List.getElem?_eq_getElem h]
 rfl
theorem aQ (k:Nat):decide (((0:Nat):Int)≤(k:Int))=true:=decide_eq_true (by omega)
theorem bK {k n:Nat} (h:k<n):decide ((k:Int)<(n:Int))=true:=decide_eq_true (by omega)
theorem ale (e:List Nd) (c:Bool) (A:List (List Nat)) (f:List Sc) (d:Bool) (b:List Nat) (k i:Nat) (a:List Nat) (rA:List AV) (j:Nat) (o:List AV) (s:Nat) (p:List AV) (m:k<A.length) (h:(List.drop ((Int.toNat (k:Int))*1) (bC A))= [yR a]++rA) (l:i<a.length) (g:(List.drop ((Int.toNat (i:Int))*1) (aj a))= [AV.int .i64 (j:Int)]++o) (n:j<b.length) (hs:(List.drop ((0+(Int.toNat (j:Int)))*1) (aj b))= [AV.int .i64 (s:Int)]++p):
  au prog ap 69 [.ptr 0 0 0,.int .i64 (k:Int),.int .i64 (i:Int)] (wH e c A f d b) (.ret (.int .i64 (s:Int))) (wH e c A f d b):=pK [] 0 0 (.a (g_ [.int .i64] hs rfl) (.c (aQ j) (.c (bK n) (.k 1 (aQ i) (.c (bK l) (.k 1 (aQ k) (.c (bK m) (.n 2 .nil)))))))) (.v 22 (.rd1 (.int .i64) hs rfl) (.v 19 (.ppt g) (.v 16 (.ppt h) .nil)))
theorem pR (e:List Nd) (b:Bool) (A:List (List Nat)) (d:List Sc) (c:Bool) (a:List Nat) (k i:Nat) (g:k<A.length) (f:i<(A.getD k []).length) (h:(A.getD k []).getD i 0<a.length):
  au prog ap 69 [.ptr 0 0 0,.int .i64 (k:Int),.int .i64 (i:Int)] (wH e b A d c a) (.ret (.int .i64 ((eX A a k i:Nat):Int))) (wH e b A d c a):=
 ale e b A d c a k i _ _ _ _ _ _ g (lh g) f (kG f) h (by rw [Nat.zero_add];exact kG h)
theorem iq (a b:Nat):((a:Int)==(b:Int))=decide (a=b):=by by_cases h:a=b<;>simp [h]<;>omega
theorem IM (a b:Nat):CO 68 [.int .i64 (a:Int),.int .i64 (b:Int)] (.ret (.int .i64 ((eu a b:Nat):Int))):=by
 rcases tf ((a:Int)==((0:Nat):Int)) with b0|b0
 ·rw [show eu a b=b by unfold eu;simp only [iq,decide_eq_true_eq,decide_eq_false_iff_not] at b0;simp [*]]
  exact pK [] 1 1 (.c (aC b0) .nil) (.nil)
 ·rcases tf ((b:Int)==((0:Nat):Int)) with b1|b1
  ·rw [show eu a b=a by unfold eu;simp only [iq,decide_eq_true_eq,decide_eq_false_iff_not] at b0 b1;simp [*]]
   exact pK [] 3 6 (.k 1 (aC b1) (.c (aB b0) .nil)) (.nil)
  ·rcases tf ((a:Int)==(b:Int)) with b2|b2
   ·rw [show eu a b=a by unfold eu;simp only [iq,decide_eq_true_eq,decide_eq_false_iff_not] at b0 b1 b2;simp [*]]
    exact pK [] 3 4 (.c (aC b2) (.c (aB b1) (.c (aB b0) .nil))) (.nil)
   ·rw [show eu a b=3 by unfold eu;simp only [iq,decide_eq_true_eq,decide_eq_false_iff_not] at b0 b1 b2;simp [*]]
    exact pK [] 3 0 (.c (aB b2) (.c (aB b1) (.c (aB b0) .nil))) (.nil)
theorem P6 (a:Nat):CO 97 [.int .i64 (a:Int)] (.ret (.int .i64 ((jM a:Nat):Int))):=by
 rcases tf ((a:Int)==((1:Nat):Int)) with b0|b0
 ·have e:((jM a:Nat):Int)=IntKind.wrap .i64 (((3:Nat):Int) - (a:Int)):=by
   simp only [iq,decide_eq_true_eq,decide_eq_false_iff_not] at b0
   subst b0
   decide
  rw [e]
  exact pK [] 2 3 (.k 1 (aC b0) .nil) (.nil)
 ·rcases tf ((a:Int)==((2:Nat):Int)) with b1|b1
  ·have e:((jM a:Nat):Int)=IntKind.wrap .i64 (((3:Nat):Int) - (a:Int)):=by
    simp only [iq,decide_eq_true_eq,decide_eq_false_iff_not] at b0 b1
    subst b1
    decide
   rw [e]
   exact pK [] 2 2 (.c (aC b1) (.c (aB b0) .nil)) (.nil)
  ·rw [show jM a=a by unfold jM;simp only [iq,decide_eq_true_eq,decide_eq_false_iff_not] at b0 b1;simp [*]]
   exact pK [] 2 0 (.c (aB b1) (.c (aB b0) .nil)) (.nil)
theorem ja {i:Nat} (h:i<2^62):AV.int .i64 (IntKind.wrap .i64 ((i:Int)+((1:Nat):Int)))= .int .i64 ((i+1:Nat):Int):=by rw [dC]<;>first|rfl|omega
def cy (fd fc:Nat→Nat→Nat→Nat):List Nat→List Nat→Nat→List Nat × Nat
 | [],_,c=>([],c)
 |x::l,m,c=>(fd x (m.headD 0) c::(cy fd fc l m.tail (fc x (m.headD 0) c)).1,(cy fd fc l m.tail (fc x (m.headD 0) c)).2)
theorem qX {l:List Nat} {i:Nat} (h:i<l.length):l.getD i 0=l[i]:=by rw [List.getD_eq_getElem?_getD,List.getElem?_eq_getElem h];rfl
def aeo (e:List Nd) (ne:Bool) (A:List (List Nat)) (sc:List Sc) (ns:Bool) (ss:List Nat) (k n:Nat) (p:Nat × Nat):St:=⟨[(0,.ptr 0 0 0),(1,.int .i64 (k:Int)),(5,.int .i64 (p.2:Int)),(14,.int .i64 (n:Int)),(15,.int .i64 (p.1:Int))],[(0,⟨[.sl (aH e) e.length ne,.sl (bC A) A.length true,.sl (bZ sc) sc.length ns,.ref 1 0 0 ss.length],0,false,0,0,false⟩),(1,⟨(aj ss),0,false,0,1,true⟩)],.dead,[]⟩
def ZZ (e:List Nd) (ne:Bool) (A:List (List Nat)) (sc:List Sc) (ns:Bool) (ss:List Nat) (k:Nat) (acc:Nat):St:=⟨[(0,.ptr 0 0 0),(1,.int .i64 (k:Int)),(5,.int .i64 (acc:Int))],[(0,⟨[.sl (aH e) e.length ne,.sl (bC A) A.length true,.sl (bZ sc) sc.length ns,.ref 1 0 0 ss.length],0,false,0,0,false⟩),(1,⟨(aj ss),0,false,0,1,true⟩)],.dead,[]⟩
theorem Tf {nt:Nat} (p:26≤nt) (e:List Nd) (f:Bool) (A:List (List Nat)) (h:List Sc) (g:Bool) (c:List Nat) (k n:Nat) (r:k<A.length) (x:n<2^40) (t:n=(A.getD k []).length) (q:∀ j ∈ A.getD k [],j<c.length):∀ (d i a:Nat),i+d=n→
  aF prog ap (wH e f A h g c) nt (ae 0 (af f39)) (fun _=> .exit 0) (aeo e f A h g c k n) (ZZ e f A h g c k) (i,a) (((A.getD k []).drop i).foldl (fun s j=>eu s (c.getD j 0)) a):=by
 intro d
 induction d with
 |zero=>
  intro i a v
  have m:(decide ((i:Int)<(n:Int)))=false:=decide_eq_false (by omega)
  rw [List.drop_of_length_le (by omega)]
  exact .done (pN 39 [] 1 0 (.c (aB m) .nil) (.nil) p)
 | succ d ih=>
  intro i a v
  have m:(decide ((i:Int)<(n:Int)))=true:=decide_eq_true (by omega)
  have b:i<(A.getD k []).length:=by omega
  have o:=b
  have l:(A.getD k []).getD i 0<c.length:=by
   rw [qX b];exact q _ (List.getElem_mem b)
  have u:i<2^62:=by omega
  rw [List.drop_eq_getElem_cons b]
  have w:(A.getD k [])[i]=(A.getD k []).getD i 0:=(qX b).symm
  rw [w]
  exact .next (pN 39 [] 1 1 (.c (aC m) .nil) (.v 24 (.eq (ja u)) (.c (IM a (eX A c k i)) (.c (pR e f A h g c k i r o l) .nil))) p) (ih (i+1) (eu a (eX A c k i)) (by omega))
theorem aep (e:List Nd) (d:Bool) (A:List (List Nat)) (c:List Sc) (f:Bool) (b:List Nat) (k:Nat) (a:List Nat) (rA:List AV) (z:Nat) (g:k<A.length) (h:(List.drop ((Int.toNat (k:Int))*1) (bC A))= [yR a]++rA)
  (l0:aI prog ap (wH e d A c f b) 26 (.block 0 (.loop (ae 0 (af f39)))) ⟨[(0,.ptr 0 0 0),(1,.int .i64 (k:Int)),(4,.int .i64 0),(5,.int .i64 0),(6,.dead),(14,.int .i64 (a.length:Int)),(15,.int .i64 0),(16,.dead)],[(0,⟨[.sl (aH e) e.length d,.sl (bC A) A.length true,.sl (bZ c) c.length f,.ref 1 0 0 b.length],0,false,0,0,false⟩),(1,⟨(aj b),0,false,0,1,true⟩)],.dead,[]⟩ (.normal) ⟨[(0,.ptr 0 0 0),(1,.int .i64 (k:Int)),(5,.int .i64 (z:Int))],[(0,⟨[.sl (aH e) e.length d,.sl (bC A) A.length true,.sl (bZ c) c.length f,.ref 1 0 0 b.length],0,false,0,0,false⟩),(1,⟨(aj b),0,false,0,1,true⟩)],.dead,[]⟩):
  au prog ap 39 [.ptr 0 0 0,.int .i64 (k:Int)] (wH e d A c f b) (.ret (.int .i64 (z:Int))) (wH e d A c f b):=pK [0] 0 0 (.k 1 (aQ k) (.c (bK g) (.n 1 .nil))) (.l l0 (.v 12 (.ppt h) .nil))
theorem aaP (e:List Nd) (b:Bool) (A:List (List Nat)) (d:List Sc) (c:Bool) (a:List Nat) (k:Nat) (f:k<A.length) (g:(A.getD k []).length<2^40) (i:∀ j ∈ A.getD k [],j<a.length):
  au prog ap 39 [.ptr 0 0 0,.int .i64 (k:Int)] (wH e b A d c a) (.ret (.int .i64 ((eG A a k:Nat):Int))) (wH e b A d c a):=
 have h:∀ nt,26≤nt→aF prog ap (wH e b A d c a) nt (ae 0 (af f39)) (fun _=> .exit 0) (aeo e b A d c a k (A.getD k []).length) (ZZ e b A d c a k) (0,0) (eG A a k):=fun nt l=>Tf l e b A d c a k _ f g rfl i _ 0 0 (Nat.zero_add _)
 aep e b A d c a k _ _ (eG A a k) f (lh f) (aF.blk h (by simp) rfl (aK.of ⟨rfl,rfl,rfl,rfl,rfl,trivial⟩) (aK.of ⟨rfl,rfl,rfl,trivial⟩))
def jd:Nd:=⟨0,false,[],[],[]⟩
def fF (op:Int):Bool:=(op==1)||((op==2)||(op==3))
def rq (e:List Nd) (A:List (List Nat)) (k i:Nat):Nd:=e.getD ((A.getD k []).getD i 0) jd
theorem ut {e:List Nd} {j:Nat} (h:j<e.length):List.drop (Int.toNat (j:Int)*5) (aH e)=iZ (e.getD j jd)++aH (e.drop (j+1)):=by
 have b:e=e.take j++e[j]::e.drop (j+1):=by simp
 have a:e.getD j jd=e[j]:=by rw [List.getD_eq_getElem?_getD,List.getElem?_eq_getElem h];rfl
 rw [a]
 conv=>lhs;rw [b]
 exact yx (by rw [List.length_take];omega)
theorem jl {A:List (List Nat)} {k i m:Nat} (a:∀ j ∈ A.getD k [],j<m) (h:i<(A.getD k []).length):(A.getD k []).getD i 0<m:=by rw [qX h];exact a _ (List.getElem_mem h)
theorem akz (e:List Nd) (l:Bool) (A:List (List Nat)) (o:List Sc) (m:Bool) (n:List Nat) (k i:Nat) (a:List Nat) (rA:List AV) (j:Nat) (p:List AV) (x:Nd) (q:List AV) (f:k<A.length) (c:(List.drop ((Int.toNat (k:Int))*1) (bC A))= [yR a]++rA) (d:i<a.length) (b:(List.drop ((Int.toNat (i:Int))*1) (aj a))= [AV.int .i64 (j:Int)]++p) (g:j<e.length) (h:(List.drop ((Int.toNat (j:Int))*5) (aH e))=iZ x++q):
  au prog ap 98 [.ptr 0 0 0,.int .i64 (k:Int),.int .i64 (i:Int)] (wH e l A o m n) (.ret (.tup [.agg [.bool x.neg,.str x.num,.str x.den],.bool (fF x.op)])) (wH e l A o m n):=by
 rcases tf (x.op==((1:Nat):Int)) with b0|b0
 ·rw [show fF x.op=true from by unfold fF;rw [show (x.op==1)=true from b0];rfl]
  exact pK [] 2 3 (.k 5 (aC b0) (.k 10 (aQ j) (.c (bK g) (.k 1 (aQ i) (.c (bK d) (.k 1 (aQ k) (.c (bK f) (.n 2 .nil)))))))) (.v 23 (.ppt h) (.v 21 (.ppt b) (.v 18 (.ppt c) .nil)))
 ·rcases tf (x.op==((2:Nat):Int)) with b1|b1
  ·rw [show fF x.op=true from by unfold fF;rw [show (x.op==1)=false from b0,show (x.op==2)=true from b1];rfl]
   exact pK [] 2 2 (.k 4 (aC b1) (.k 1 (aB b0) (.k 10 (aQ j) (.c (bK g) (.k 1 (aQ i) (.c (bK d) (.k 1 (aQ k) (.c (bK f) (.n 2 .nil))))))))) (.v 23 (.ppt h) (.v 21 (.ppt b) (.v 18 (.ppt c) .nil)))
  ·rw [show fF x.op=(x.op==((3:Nat):Int)) from by unfold fF;rw [show (x.op==1)=false from b0,show (x.op==2)=false from b1];rfl]
   exact pK [] 2 0 (.k 5 (aB b1) (.k 1 (aB b0) (.k 10 (aQ j) (.c (bK g) (.k 1 (aQ i) (.c (bK d) (.k 1 (aQ k) (.c (bK f) (.n 2 .nil))))))))) (.v 23 (.ppt h) (.v 21 (.ppt b) (.v 18 (.ppt c) .nil)))
theorem um (e:List Nd) (b:Bool) (A:List (List Nat)) (d:List Sc) (c:Bool) (a:List Nat) (k i:Nat) (g:k<A.length) (f:i<(A.getD k []).length) (h:(A.getD k []).getD i 0<e.length):
  au prog ap 98 [.ptr 0 0 0,.int .i64 (k:Int),.int .i64 (i:Int)] (wH e b A d c a) (.ret (.tup [.agg [.bool (rq e A k i).neg,.str (rq e A k i).num,.str (rq e A k i).den],.bool (fF (rq e A k i).op)])) (wH e b A d c a):=
 akz e b A d c a k i _ _ _ _ _ _ g (lh g) f (kG f) h (ut h)
def gX (neg:Bool) (s:Nat):Nat:=cond neg (jM s) s
theorem Oh (e:List Nd) (b:Bool) (A:List (List Nat)) (d:List Sc) (c:Bool) (a:List Nat) (k i:Nat) (x:Nd) (g:k<A.length) (f:i<(A.getD k []).length) (h:(A.getD k []).getD i 0<a.length):
  au prog ap 99 [.ptr 0 0 0,.int .i64 (k:Int),.int .i64 (i:Int),.agg [.bool x.neg,.str x.num,.str x.den]] (wH e b A d c a) (.ret (.int .i64 ((gX x.neg (eX A a k i):Nat):Int))) (wH e b A d c a):=by
 rcases tf x.neg with b0|b0
 ·rw [show gX x.neg (eX A a k i)=jM (eX A a k i) by unfold gX;rw [b0];rfl]
  exact pK [] 1 1 (.c (aC b0) (.n 1 .nil)) (.c (P6 (eX A a k i)) (.c (pR e b A d c a k i g f h) .nil))
 ·rw [show gX x.neg (eX A a k i)=eX A a k i by unfold gX;rw [b0];rfl]
  exact pK [] 1 0 (.c (aB b0) (.n 1 .nil)) (.c (pR e b A d c a k i g f h) .nil)
def DX (e:List Nd) (A:List (List Nat)) (ss:List Nat) (k:Nat):Nat:=cond (fF (rq e A k 0).op) (gX (rq e A k 0).neg (eX A ss k 1)) (cond (fF (rq e A k 1).op) (gX (rq e A k 1).neg (eX A ss k 0)) 3)
def CU (e:List Nd) (A:List (List Nat)) (ss:List Nat) (k:Nat):Nat:=cond (fF (rq e A k 1).op) (cond (fZ (rq e A k 1).neg (rq e A k 1).num (rq e A k 1).den==((0:Nat):Int)) 3 (gX (rq e A k 1).neg (eX A ss k 0))) 3
def Ik (A:List (List Nat)) (ss:List Nat) (k:Nat):Nat:=cond (((eX A ss k 0:Nat):Int)==((0:Nat):Int)) (eu (eX A ss k 1) (eX A ss k 2)) 3
theorem ab3 (e:List Nd) (b:Bool) (A:List (List Nat)) (d:List Sc) (c:Bool) (a:List Nat) (k:Nat) (f:k<A.length) (hs:∀ j ∈ A.getD k [],j<a.length) (h:∀ j ∈ A.getD k [],j<e.length) (h0:0<(A.getD k []).length) (g:1<(A.getD k []).length):
  au prog ap 64 [.ptr 0 0 0,.int .i64 (k:Int)] (wH e b A d c a) (.ret (.int .i64 ((DX e A a k:Nat):Int))) (wH e b A d c a):=by
 rcases tf (fF (rq e A k 0).op) with b0|b0
 ·rw [show DX e A a k=gX (rq e A k 0).neg (eX A a k 1) by unfold DX;rw [b0];rfl]
  exact pK [] 1 1 (.k 3 (aC b0) (.n 1 .nil)) (.c (Oh e b A d c a k 1 (rq e A k 0) f g (jl hs g)) (.c (um e b A d c a k 0 f h0 (jl h h0)) .nil))
 ·rcases tf (fF (rq e A k 1).op) with b1|b1
  ·rw [show DX e A a k=gX (rq e A k 1).neg (eX A a k 0) by unfold DX;rw [b0,b1];rfl]
   exact pK [] 2 2 (.k 3 (aC b1) (.k 1 (aB b0) (.n 1 .nil))) (.c (Oh e b A d c a k 0 (rq e A k 1) f h0 (jl hs h0)) (.c (um e b A d c a k 1 f g (jl h g)) (.c (um e b A d c a k 0 f h0 (jl h h0)) .nil)))
  ·rw [show DX e A a k=3 by unfold DX;rw [b0,b1];rfl]
   exact pK [] 2 0 (.c (aB b1) (.k 1 (aB b0) (.n 1 .nil))) (.c (um e b A d c a k 1 f g (jl h g)) (.c (um e b A d c a k 0 f h0 (jl h h0)) .nil))
theorem abv (e:List Nd) (b:Bool) (A:List (List Nat)) (f:List Sc) (d:Bool) (a:List Nat) (k:Nat) (g:k<A.length) (hs:∀ j ∈ A.getD k [],j<a.length) (i:∀ j ∈ A.getD k [],j<e.length) (h0:0<(A.getD k []).length) (c:1<(A.getD k []).length) (h:(rq e A k 1).num.length<2^36∧(rq e A k 1).den.length<2^36):
  au prog ap 65 [.ptr 0 0 0,.int .i64 (k:Int)] (wH e b A f d a) (.ret (.int .i64 ((CU e A a k:Nat):Int))) (wH e b A f d a):=by
 rcases tf (fF (rq e A k 1).op) with b0|b0
 ·rcases tf ((fZ (rq e A k 1).neg (rq e A k 1).num (rq e A k 1).den)==((0:Nat):Int)) with b1|b1
  ·rw [show CU e A a k=3 by unfold CU;rw [b0,b1];rfl]
   exact pK [] 2 1 (.c (aS b1) (.k 3 (aC b0) (.n 1 .nil))) (.c (fG (rq e A k 1).neg (rq e A k 1).num (rq e A k 1).den h.1 h.2) (.c (um e b A f d a k 1 g c (jl i c)) .nil))
  ·rw [show CU e A a k=gX (rq e A k 1).neg (eX A a k 0) by unfold CU;rw [b0,b1];rfl]
   exact pK [] 2 3 (.k 3 (dK b1) (.k 3 (aC b0) (.n 1 .nil))) (.c (Oh e b A f d a k 0 (rq e A k 1) g h0 (jl hs h0)) (.c (fG (rq e A k 1).neg (rq e A k 1).num (rq e A k 1).den h.1 h.2) (.c (um e b A f d a k 1 g c (jl i c)) .nil)))
 ·rw [show CU e A a k=3 by unfold CU;rw [b0];rfl]
  exact pK [] 2 0 (.k 1 (aB b0) (.n 1 .nil)) (.c (um e b A f d a k 1 g c (jl i c)) .nil)
theorem abd (e:List Nd) (b:Bool) (A:List (List Nat)) (d:List Sc) (c:Bool) (a:List Nat) (k:Nat) (f:k<A.length) (hs:∀ j ∈ A.getD k [],j<a.length) (i:∀ j ∈ A.getD k [],j<e.length) (h0:0<(A.getD k []).length) (g:1<(A.getD k []).length) (h:2<(A.getD k []).length):
  au prog ap 66 [.ptr 0 0 0,.int .i64 (k:Int)] (wH e b A d c a) (.ret (.int .i64 ((Ik A a k:Nat):Int))) (wH e b A d c a):=by
 rcases tf ((((eX A a k 0):Nat):Int)==((0:Nat):Int)) with b0|b0
 ·rw [show Ik A a k=eu (eX A a k 1) (eX A a k 2) by unfold Ik;rw [b0];rfl]
  exact pK [] 1 0 (.c (aS b0) .nil) (.c (IM (eX A a k 1) (eX A a k 2)) (.c (pR e b A d c a k 2 f h (jl hs h)) (.c (pR e b A d c a k 1 f g (jl hs g)) (.c (pR e b A d c a k 0 f h0 (jl hs h0)) .nil))))
 ·rw [show Ik A a k=3 by unfold Ik;rw [b0];rfl]
  exact pK [] 1 1 (.c (dK b0) .nil) (.c (pR e b A d c a k 0 f h0 (jl hs h0)) .nil)
theorem adx (e:List Nd) (b:Bool) (A:List (List Nat)) (d:List Sc) (c:Bool) (a:List Nat) (k:Nat) (f:k<A.length) (hs:∀ j ∈ A.getD k [],j<a.length) (h:∀ j ∈ A.getD k [],j<e.length) (h0:0<(A.getD k []).length) (g:1<(A.getD k []).length):
  au prog ap 63 [.ptr 0 0 0,.int .i64 (k:Int)] (wH e b A d c a) (.ret (.int .i64 ((eu (eX A a k 0) (jM (eX A a k 1)):Nat):Int))) (wH e b A d c a):=by
 exact pK [] 0 0 .nil (.c (IM (eX A a k 0) (jM (eX A a k 1))) (.c (P6 (eX A a k 1)) (.c (pR e b A d c a k 1 f g (jl hs g)) (.c (pR e b A d c a k 0 f h0 (jl hs h0)) .nil))))
abbrev rH (e:List Nd) (ne:Bool) (A:List (List Nat)) (sc:List Sc) (ns:Bool) (ss:List Nat) (k:Nat):List bi:= [⟨[.ptr 2 0 0],0,false,0,0,false⟩,⟨[.int .i64 (k:Int)],0,false,0,0,true⟩,⟨[.sl (aH e) e.length ne,.sl (bC A) A.length true,.sl (bZ sc) sc.length ns,.ref 3 0 0 ss.length],0,false,0,0,false⟩,⟨(aj ss),0,false,0,1,true⟩]
theorem Z_ (e:List Nd) (b:Bool) (A:List (List Nat)) (d:List Sc) (c:Bool) (a:List Nat) (k:Nat) (x:Sc) (y:Nd) (h:List AV) (g:k<e.length) (f:(List.drop ((Int.toNat (k:Int))*5) (aH e))=iZ y++h):
  au prog ap 101 [.agg (xw x),.ptr 0 0 0,.ptr 1 0 0] (rH e b A d c a k) (.ret (.bool (x.name==y.name))) (rH e b A d c a k):=pK [] 0 0 (.k 1 (aQ k) (.c (bK g) (.n 4 .nil))) (.v 12 (.ppt f) .nil)
def ajT (e:List Nd) (ne:Bool) (A:List (List Nat)) (sc:List Sc) (ns:Bool) (ss:List Nat) (k:Nat) (p:Nat × Unit):St:=⟨[(0,.sl (bZ sc) sc.length ns),(1,.fn 101 [] [.ptr 0 0 0,.ptr 1 0 0]),(7,.int .i64 (sc.length:Int)),(8,.int .i64 (p.1:Int))],[(0,⟨[.ptr 2 0 0],0,false,0,0,false⟩),(1,⟨[.int .i64 (k:Int)],0,false,0,0,true⟩),(2,⟨[.sl (aH e) e.length ne,.sl (bC A) A.length true,.sl (bZ sc) sc.length ns,.ref 3 0 0 ss.length],0,false,0,0,false⟩),(3,⟨(aj ss),0,false,0,1,true⟩)],.dead,[]⟩
def aap (e:List Nd) (ne:Bool) (A:List (List Nat)) (sc:List Sc) (ns:Bool) (ss:List Nat) (k:Nat):Option Nat→St
 |none=> ⟨[(0,.sl (bZ sc) sc.length ns)],[(0,⟨[.ptr 2 0 0],0,false,0,0,false⟩),(1,⟨[.int .i64 (k:Int)],0,false,0,0,true⟩),(2,⟨[.sl (aH e) e.length ne,.sl (bC A) A.length true,.sl (bZ sc) sc.length ns,.ref 3 0 0 ss.length],0,false,0,0,false⟩),(3,⟨(aj ss),0,false,0,1,true⟩)],.dead,[]⟩
 |some i=> ⟨[(4,.int .i64 (i:Int))],[(0,⟨[.ptr 2 0 0],0,false,0,0,false⟩),(1,⟨[.int .i64 (k:Int)],0,false,0,0,true⟩),(2,⟨[.sl (aH e) e.length ne,.sl (bC A) A.length true,.sl (bZ sc) sc.length ns,.ref 3 0 0 ss.length],0,false,0,0,false⟩),(3,⟨(aj ss),0,false,0,1,true⟩)],.dead,[]⟩
def SQ:Option Nat→bM
 |none=> .exit 0
 |some _=> .ret
def II (nm:List UInt8):List Sc→Nat→Option Nat
 | [],_=>none
 |x::r,i=>if x.name==nm then some i else II nm r (i+1)
theorem XY {nt:Nat} (h:19≤nt) (e:List Nd) (c:Bool) (A:List (List Nat)) (a:List Sc) (d:Bool) (f:List Nat) (k:Nat) (y:Nd) (l:List AV) (n:k<e.length) (o:(List.drop ((Int.toNat (k:Int))*5) (aH e))=iZ y++l) (s:a.length<2^40):∀ (r p:List Sc),p++r=a→
  aF prog ap (rH e c A a d f k) nt (ae 0 (af f100)) SQ (ajT e c A a d f k) (aap e c A a d f k) (p.length,()) (II y.name r p.length):=by
 intro r
 induction r with
 |nil=>
  intro p hp
  rw [List.append_nil] at hp
  subst hp
  generalize t:p.length=i
  have b:(decide ((i:Int)<(p.length:Int)))=false:=decide_eq_false (by omega)
  exact .done (pN 100 [] 1 0 (.c (aB b) .nil) (.nil) h)
 | cons x r ih=>
  intro p hp
  have j:(List.drop ((Int.toNat (p.length:Int))*4) (bZ a))=xw x++bZ r:=by
   have m:p.length<a.length:=by rw [← hp];simp
   rw [aA,EH m]
   have v:a[p.length]=x:=by subst hp;simp
   have u:a.drop (p.length+1)=r:=by rw [← hp];simp
   rw [v,u]
  have m:p.length<a.length:=by rw [← hp];simp
  have g:=ih (p++ [x]) (by rw [← hp];simp)
  rw [List.length_append,List.length_singleton] at g
  unfold II
  generalize t:p.length=i at*
  generalize bZ r=rS at j
  have b:(decide ((i:Int)<(a.length:Int)))=true:=decide_eq_true (by omega)
  have q:i<2^62:=by omega
  rcases tf (x.name==y.name) with b1|b1
  ·rw [if_pos b1]
   exact .done (pN 100 [] 2 3 (.c (aC b1) (.k 4 (aQ i) (.c b (.c (aC b) .nil)))) (.c (Z_ e c A a d f k x y l n o) (.v 14 (.ppt j) .nil)) h)
  ·rw [if_neg (by rw [b1];decide)]
   exact .next (pN 100 [] 2 1 (.c (aB b1) (.k 4 (aQ i) (.c b (.c (aC b) .nil)))) (.v 18 (.eq (ja q)) (.c (Z_ e c A a d f k x y l n o) (.v 14 (.ppt j) .nil))) h) g
theorem ajV (e:List Nd) (d:Bool) (A:List (List Nat)) (a:List Sc) (b:Bool) (c:List Nat) (k:Nat) (f:aI prog ap (rH e d A a b c k) 19 (.block 0 (.loop (ae 0 (af f100)))) ⟨[(0,.sl (bZ a) a.length b),(1,.fn 101 [] [.ptr 0 0 0,.ptr 1 0 0]),(4,.int .i64 0),(5,.dead),(7,.int .i64 (a.length:Int)),(8,.int .i64 0),(9,.dead),(16,.dead)],[(0,⟨[.ptr 2 0 0],0,false,0,0,false⟩),(1,⟨[.int .i64 (k:Int)],0,false,0,0,true⟩),(2,⟨[.sl (aH e) e.length d,.sl (bC A) A.length true,.sl (bZ a) a.length b,.ref 3 0 0 c.length],0,false,0,0,false⟩),(3,⟨(aj c),0,false,0,1,true⟩)],.dead,[]⟩ (.normal) ⟨[(0,.sl (bZ a) a.length b)],[(0,⟨[.ptr 2 0 0],0,false,0,0,false⟩),(1,⟨[.int .i64 (k:Int)],0,false,0,0,true⟩),(2,⟨[.sl (aH e) e.length d,.sl (bC A) A.length true,.sl (bZ a) a.length b,.ref 3 0 0 c.length],0,false,0,0,false⟩),(3,⟨(aj c),0,false,0,1,true⟩)],.dead,[]⟩):
  au prog ap 100 [.sl (bZ a) a.length b,(.fn 101 [] [.ptr 0 0 0,.ptr 1 0 0])] (rH e d A a b c k) (.ret (.int .i64 (-1))) (rH e d A a b c k):=pK [0] 0 0 .nil (.l f .nil)
theorem ajW (e:List Nd) (d:Bool) (A:List (List Nat)) (a:List Sc) (c:Bool) (b:List Nat) (k i:Nat) (f:aI prog ap (rH e d A a c b k) 19 (.block 0 (.loop (ae 0 (af f100)))) ⟨[(0,.sl (bZ a) a.length c),(1,.fn 101 [] [.ptr 0 0 0,.ptr 1 0 0]),(4,.int .i64 0),(5,.dead),(7,.int .i64 (a.length:Int)),(8,.int .i64 0),(9,.dead),(16,.dead)],[(0,⟨[.ptr 2 0 0],0,false,0,0,false⟩),(1,⟨[.int .i64 (k:Int)],0,false,0,0,true⟩),(2,⟨[.sl (aH e) e.length d,.sl (bC A) A.length true,.sl (bZ a) a.length c,.ref 3 0 0 b.length],0,false,0,0,false⟩),(3,⟨(aj b),0,false,0,1,true⟩)],.dead,[]⟩ (.ret) ⟨[(4,.int .i64 (i:Int))],[(0,⟨[.ptr 2 0 0],0,false,0,0,false⟩),(1,⟨[.int .i64 (k:Int)],0,false,0,0,true⟩),(2,⟨[.sl (aH e) e.length d,.sl (bC A) A.length true,.sl (bZ a) a.length c,.ref 3 0 0 b.length],0,false,0,0,false⟩),(3,⟨(aj b),0,false,0,1,true⟩)],.dead,[]⟩):
  au prog ap 100 [.sl (bZ a) a.length c,(.fn 101 [] [.ptr 0 0 0,.ptr 1 0 0])] (rH e d A a c b k) (.ret (.int .i64 (i:Int))) (rH e d A a c b k):=pK [0] 0 0 .nil (.l f .nil)
def ixI:Option Nat→Int
 |none=> -1
 |some i=>(i:Int)
theorem ajU (e:List Nd) (d:Bool) (A:List (List Nat)) (a:List Sc) (b:Bool) (c:List Nat) (k:Nat) (g:k<e.length) (f:a.length<2^40):
  au prog ap 100 [.sl (bZ a) a.length b,(.fn 101 [] [.ptr 0 0 0,.ptr 1 0 0])] (rH e d A a b c k) (.ret (.int .i64 (ixI (II (e.getD k jd).name a 0)))) (rH e d A a b c k):=by
 have h:∀ nt,19≤nt→aF prog ap (rH e d A a b c k) nt (ae 0 (af f100)) SQ (ajT e d A a b c k) (aap e d A a b c k) (0,()) (II (e.getD k jd).name a 0):=fun nt l=>XY l e d A a b c k (e.getD k jd) _ g (ut g) f a [] rfl
 cases j:II (e.getD k jd).name a 0 with
 |none=>
  rw [j] at h
  exact ajV e d A a b c k (aF.blk h (by simp [SQ]) rfl (aK.of ⟨rfl,rfl,rfl,rfl,trivial⟩) (aK.of ⟨rfl,trivial⟩))
 |some i=>
  rw [j] at h
  exact ajW e d A a b c k i (aF.blk h (by simp [SQ]) rfl (aK.of ⟨rfl,rfl,rfl,rfl,trivial⟩) (aK.of ⟨rfl,trivial⟩))
def G8 (ck:Sc→Int) (up:Sc→Bool) (nm:List UInt8) (sc:List Sc) (s:Nat):Nat:=match sc.find? (fun x=>x.name==nm) with
 |none=>3
 |some x=>cond (ck x==0) (cond (up x) s 3) 3
theorem Gz (a:List UInt8):∀ (r:List Sc) (i:Nat),(II a r i=none∧r.find? (fun x=>x.name==a)=none)∨∃ j x,II a r i=some (i+j)∧r[j]? =some x∧r.find? (fun x=>x.name==a)=some x
 | [],_=> .inl ⟨rfl,rfl⟩
 | x::r,i=>by
  unfold II
  rw [List.find?_cons]
  rcases tf (x.name==a) with h|h
  ·rw [if_pos h,h];exact .inr ⟨0,x,rfl,rfl,rfl⟩
  ·rw [if_neg (by rw [h];decide),h]
   rcases Gz a r (i+1) with ⟨c,b⟩|⟨j,y,c,b,d⟩
   ·exact .inl ⟨c,b⟩
   ·exact .inr ⟨j+1,y,by rw [c];congr 1;omega,b,d⟩
theorem acp (e:List Nd) (d:Bool) (A:List (List Nat)) (a:List Sc) (b:Bool) (c:List Nat) (k:Nat) (f:au prog ap 100 [.sl (bZ a) a.length b,(.fn 101 [] [.ptr 0 0 0,.ptr 1 0 0])] (rH e d A a b c k) (.ret (.int .i64 (-1))) (rH e d A a b c k)):
  au prog ap 67 [.ptr 0 0 0,.int .i64 (k:Int)] (wH e d A a b c) (.ret (.int .i64 ((3:Nat):Int))) (wH e d A a b c):=pK [] 3 7 (.n 5 .nil) (.c f .nil)
theorem acr (e:List Nd) (h:Bool) (A:List (List Nat)) (c:List Sc) (f:Bool) (a:List Nat) (ck:Sc→Int) (g:Sc→Bool) (k p:Nat) (x:Sc) (o:List AV) (hp:p<c.length) (b:x ∈ c) (i:(List.drop ((Int.toNat (p:Int))*4) (bZ c))=xw x++o) (q:k<A.length) (hs:∀ j ∈ A.getD k [],j<a.length) (h0:0<(A.getD k []).length) (l:∀ x ∈ c,CO 102 [.agg (xw x)] (.ret (.int .i64 (ck x)))∧(ck x=0→CO 103 [.agg (xw x)] (.ret (.bool (g x))))) (n:au prog ap 100 [.sl (bZ c) c.length f,(.fn 101 [] [.ptr 0 0 0,.ptr 1 0 0])] (rH e h A c f a k) (.ret (.int .i64 (p:Int))) (rH e h A c f a k)):
  au prog ap 67 [.ptr 0 0 0,.int .i64 (k:Int)] (wH e h A c f a) (.ret (.int .i64 ((cond (ck x==0) (cond (g x) (eX A a k 0) 3) 3:Nat):Int))) (wH e h A c f a):=by
 have m:(decide ((p:Int)<((0:Nat):Int)))=false:=decide_eq_false (by omega)
 rcases tf ((ck x)==((0:Nat):Int)) with b0|b0
 ·rcases tf (g x) with b1|b1
  ·have d:ck x=0:=by simpa using b0
   rw [show cond (ck x==0) (cond (g x) (eX A a k 0) 3) 3=eX A a k 0 by rw [show (ck x==0)=true from b0];rw [b1];rfl]
   exact pK [] 3 0 (.k 2 (aS b1) (.k 4 (aQ p) (.c (bK hp) (.k 2 (aS b0) (.k 4 (aQ p) (.c (bK hp) (.k 2 (aB m) (.n 2 .nil)))))))) (.c (pR e h A c f a k 0 q h0 (jl hs h0)) (.c ((l x b).2 d) (.v 31 (.ppt i) (.c (l x b).1 (.v 20 (.ppt i) (.c n .nil))))))
  ·have d:ck x=0:=by simpa using b0
   rw [show cond (ck x==0) (cond (g x) (eX A a k 0) 3) 3=3 by rw [show (ck x==0)=true from b0];rw [b1];rfl]
   exact pK [] 3 4 (.c (dK b1) (.k 4 (aQ p) (.c (bK hp) (.k 2 (aS b0) (.k 4 (aQ p) (.c (bK hp) (.k 2 (aB m) (.n 2 .nil)))))))) (.c ((l x b).2 d) (.v 31 (.ppt i) (.c (l x b).1 (.v 20 (.ppt i) (.c n .nil)))))
 ·rw [show cond (ck x==0) (cond (g x) (eX A a k 0) 3) 3=3 by rw [show (ck x==0)=false from b0];rfl]
  exact pK [] 3 6 (.k 1 (dK b0) (.k 4 (aQ p) (.c (bK hp) (.k 2 (aB m) (.n 2 .nil))))) (.c (l x b).1 (.v 20 (.ppt i) (.c n .nil)))
theorem YU (e:List Nd) (c:Bool) (A:List (List Nat)) (a:List Sc) (d:Bool) (b:List Nat) (ck:Sc→Int) (l:Sc→Bool) (k:Nat) (o:k<A.length) (m:k<e.length) (g:a.length<2^40) (hs:∀ j ∈ A.getD k [],j<b.length) (h0:0<(A.getD k []).length) (q:∀ x ∈ a,CO 102 [.agg (xw x)] (.ret (.int .i64 (ck x)))∧(ck x=0→CO 103 [.agg (xw x)] (.ret (.bool (l x))))):
  au prog ap 67 [.ptr 0 0 0,.int .i64 (k:Int)] (wH e c A a d b) (.ret (.int .i64 ((G8 ck l (e.getD k jd).name a (eX A b k 0):Nat):Int))) (wH e c A a d b):=by
 have h:=ajU e c A a d b k m g
 unfold G8
 rcases Gz (e.getD k jd).name a 0 with ⟨i,f⟩|⟨j,x,i,f,r⟩
 ·rw [f];rw [i] at h
  exact acp e c A a d b k h
 ·rw [r];rw [i,Nat.zero_add] at h
  obtain ⟨n,p⟩:=List.getElem?_eq_some_iff.1 f
  exact acr e c A a d b ck l k j x _ n (List.mem_of_getElem? f) (by rw [aA,EH n,p]) o hs h0 q h
def iE (e:List Nd) (ne:Bool) (A:List (List Nat)) (sc:List Sc) (ns:Bool) (op:Int) (name:List UInt8) (p:Nat × List Nat):St:=⟨[(0,.sl (aH e) e.length ne),(2,.int .i64 op),(3,.str name),(11,.ptr 0 0 0),(12,.mp [.int .i64 9,.int .i64 13,.int .i64 14,.int .i64 21,.int .i64 22,.int .i64 23,.int .i64 10,.int .i64 11,.int .i64 12,.int .i64 15,.int .i64 24] [.fn 39 [] [],.fn 39 [] [],.fn 39 [] [],.fn 39 [] [],.fn 39 [] [],.fn 39 [] [],.fn 63 [] [],.fn 64 [] [],.fn 65 [] [],.fn 66 [] [],.fn 67 [] []]),(41,.sl (aH e) e.length ne),(42,.int .i64 (e.length:Int)),(43,.int .i64 (p.1:Int))],[(0,⟨[.sl (aH e) e.length ne,.sl (bC A) A.length true,.sl (bZ sc) sc.length ns,.ref 1 0 0 p.2.length],0,false,0,0,false⟩),(1,⟨(aj p.2),0,false,0,1,true⟩)],.dead,[]⟩
def VV (e:List Nd) (ne:Bool) (A:List (List Nat)) (sc:List Sc) (ns:Bool) (ss:List Nat):St:=⟨[(0,.sl (aH e) e.length ne),(11,.ptr 0 0 0)],[(0,⟨[.sl (aH e) e.length ne,.sl (bC A) A.length true,.sl (bZ sc) sc.length ns,.ref 1 0 0 ss.length],0,false,0,0,false⟩),(1,⟨(aj ss),0,false,0,1,true⟩)],.dead,[]⟩
def fU (ck:Sc→Int) (up:Sc→Bool) (e:List Nd) (A:List (List Nat)) (sc:List Sc) (ss:List Nat) (k:Nat) (x:Nd):Nat:=
 if x.op=9∨x.op=13∨x.op=14∨x.op=21∨x.op=22∨x.op=23 then eG A ss k else if x.op=10 then eu (eX A ss k 0) (jM (eX A ss k 1)) else if x.op=11 then DX e A ss k else if x.op=12 then CU e A ss k else if x.op=15 then Ik A ss k else if x.op=24 then G8 ck up x.name sc (eX A ss k 0) else 3
def yJ (ck:Sc→Int) (up:Sc→Bool) (e:List Nd) (A:List (List Nat)) (sc:List Sc) (op:Int) (name:List UInt8) (ss:List Nat) (k:Nat) (x:Nd):Nat:=
 cond (x.op==op && x.name==name) 1 (cond (((eG A ss k:Nat):Int)==((0:Nat):Int)) 0 (fU ck up e A sc ss k x))
theorem uH (e:List Nd) (c:Bool) (A:List (List Nat)) (b:List Sc) (d:Bool) (a:List Nat):([some ⟨[.sl (aH e) e.length c,.sl (bC A) A.length true,.sl (bZ b) b.length d,.ref 2 0 0 a.length],0,false,0,0,false⟩,some (sB a)]:List (Option bi))= [some ⟨[.sl (aH e) e.length c,.sl (bC A) A.length true,.sl (bZ b) b.length d,.ref 2 0 0 a.length],0,false,0,0,false⟩,some (sB a)]:=rfl
abbrev DJ (o:Int):AV:=KF true (xZ [.int .i64 9,.int .i64 13,.int .i64 14,.int .i64 21,.int .i64 22,.int .i64 23,.int .i64 10,.int .i64 11,.int .i64 12,.int .i64 15,.int .i64 24] [.fn 39 [] [],.fn 39 [] [],.fn 39 [] [],.fn 39 [] [],.fn 39 [] [],.fn 39 [] [],.fn 63 [] [],.fn 64 [] [],.fn 65 [] [],.fn 66 [] [],.fn 67 [] []] (.int .i64 o)) .nilF
theorem aY {a:List Nat} {k v:Nat} (h:k<a.length):List.take ((0+(Int.toNat (k:Int)))*1) (aj a)++ [AV.int .i64 (v:Int)]++List.drop (((0+(Int.toNat (k:Int)))*1)+1) (aj a)=aj (a.set k v):=by
 rw [aA,Nat.zero_add,Nat.mul_one]
 unfold aj
 rw [← List.map_take,← List.map_drop,List.set_eq_take_append_cons_drop,if_pos h,List.map_append,List.map_cons,List.append_assoc]
 rfl
theorem UM {x:Nd} (h:x.op=9∨x.op=13∨x.op=14∨x.op=21∨x.op=22∨x.op=23):DJ x.op= .tup [.fn 39 [] [],.bool true]:=by rcases x with ⟨o,b,n,d,a⟩;dsimp only at h ⊢;rcases h with h|h|h|h|h|h<;>subst h<;>rfl
theorem UT {x:Nd} (h:x.op=10):DJ x.op= .tup [.fn 63 [] [],.bool true]:=by rcases x with ⟨o,b,n,d,a⟩;dsimp only at h ⊢;subst h;rfl
theorem UQ {x:Nd} (h:x.op=11):DJ x.op= .tup [.fn 64 [] [],.bool true]:=by rcases x with ⟨o,b,n,d,a⟩;dsimp only at h ⊢;subst h;rfl
theorem UO {x:Nd} (h:x.op=12):DJ x.op= .tup [.fn 65 [] [],.bool true]:=by rcases x with ⟨o,b,n,d,a⟩;dsimp only at h ⊢;subst h;rfl
theorem UN {x:Nd} (h:x.op=15):DJ x.op= .tup [.fn 66 [] [],.bool true]:=by rcases x with ⟨o,b,n,d,a⟩;dsimp only at h ⊢;subst h;rfl
theorem O_ {x:Nd} (h:x.op=24):DJ x.op= .tup [.fn 67 [] [],.bool true]:=by rcases x with ⟨o,b,n,d,a⟩;dsimp only at h ⊢;subst h;rfl
theorem UR {x:Nd} (h:¬ ((x.op=9∨x.op=13∨x.op=14∨x.op=21∨x.op=22∨x.op=23)∨(x.op=10)∨(x.op=11)∨(x.op=12)∨(x.op=15)∨(x.op=24))):DJ x.op= .tup [.nilF,.bool false]:=by
 rcases x with ⟨o,b,n,d,f⟩
 dsimp only at h ⊢
 have a:∀ c:Int,o ≠ c→(o==c)=false:=fun c e=>beq_eq_false_iff_ne.2 e
 simp only [DJ,xZ,XK]
 rw [a 9 (by intro q;exact h (by omega)),a 13 (by intro q;exact h (by omega)),a 14 (by intro q;exact h (by omega)),a 21 (by intro q;exact h (by omega)),a 22 (by intro q;exact h (by omega)),a 23 (by intro q;exact h (by omega)),a 10 (by intro q;exact h (by omega)),a 11 (by intro q;exact h (by omega)),a 12 (by intro q;exact h (by omega)),a 15 (by intro q;exact h (by omega)),a 24 (by intro q;exact h (by omega))]
 rfl
theorem amS {nt:Nat} (j:111≤nt) (e:List Nd) (g:Bool) (A:List (List Nat)) (i:List Sc) (h:Bool) (c:List Nat) (d:Int) (a:List UInt8) (k:Nat) (x:Nd) (m:List AV) (v:e.getD k jd=x) (q:(List.drop ((Int.toNat (k:Int))*5) (aH e))=iZ x++m) (t:k<e.length) (r:e.length<2^40) (s:A.length=e.length) (u:c.length=e.length) (f:DJ x.op= .tup [.nilF,.bool false]) (l:(x.op==d)=true) (o:(x.name==a)=true):ah prog ap [] nt (ae 0 (af f14)) (iE e g A i h d a (k,c)) .normal (iE e g A i h d a (k+1,c.set k 1)):=by
 have b:k<c.length:=by omega
 have p:k<2^62:=by omega
 have h0:(decide ((k:Int)<(e.length:Int)))=true:=decide_eq_true (by omega)
 have n:Nat.ble (((0+(Int.toNat (k:Int)))*1)+1) (List.length (aj c))=true:=by rw [Nat.ble_eq,aA];simp [aj];omega
 unfold iE
 dsimp only
 rw [List.length_set,← aY b]
 exact pN 14 [] 3 7 (.c n (.c (aQ k) (.c (bK b) (.k 1 (aC o) (.k 1 (aC l) (.k 10 (aQ k) (.c h0 (.c (aC h0) .nil)))))))) (.v 101 (.eq (ja p)) (.v 52 (.eq f) (.v 46 (.ppt q) .nil))) j
theorem amU {nt:Nat} (j:111≤nt) (e:List Nd) (d:Bool) (A:List (List Nat)) (g:List Sc) (f:Bool) (b:List Nat) (h:Int) (a:List UInt8) (k:Nat) (x:Nd) (m:List AV) (w:e.getD k jd=x) (r:(List.drop ((Int.toNat (k:Int))*5) (aH e))=iZ x++m) (u:k<e.length) (s:e.length<2^40) (t:A.length=e.length) (v:b.length=e.length) (i:DJ x.op= .tup [.nilF,.bool false]) (l:(x.op==h)=true) (p:(x.name==a)=false) (n:((((eG A b k):Nat):Int)==((0:Nat):Int))=true) (call_:au prog ap 39 [.ptr 0 0 0,.int .i64 (k:Int)] (wH e d A g f b) (.ret (.int .i64 ((eG A b k:Nat):Int))) (wH e d A g f b)):ah prog ap [] nt (ae 0 (af f14)) (iE e d A g f h a (k,b)) .normal (iE e d A g f h a (k+1,b.set k 0)):=by
 have c:k<b.length:=by omega
 have q:k<2^62:=by omega
 have h0:(decide ((k:Int)<(e.length:Int)))=true:=decide_eq_true (by omega)
 have o:Nat.ble (((0+(Int.toNat (k:Int)))*1)+1) (List.length (aj b))=true:=by rw [Nat.ble_eq,aA];simp [aj];omega
 unfold iE
 dsimp only
 rw [List.length_set,← aY c]
 exact pN 14 [] 4 11 (.c o (.c (aQ k) (.c (bK c) (.k 1 (aC n) (.c (aB p) (.k 1 (aC l) (.k 10 (aQ k) (.c h0 (.c (aC h0) .nil))))))))) (.v 101 (.eq (ja q)) (.c call_ (.v 52 (.eq i) (.v 46 (.ppt r) .nil)))) j
theorem amW {nt:Nat} (j:111≤nt) (e:List Nd) (d:Bool) (A:List (List Nat)) (g:List Sc) (f:Bool) (a:List Nat) (h:Int) (b:List UInt8) (k:Nat) (x:Nd) (m:List AV) (v:e.getD k jd=x) (q:(List.drop ((Int.toNat (k:Int))*5) (aH e))=iZ x++m) (t:k<e.length) (r:e.length<2^40) (s:A.length=e.length) (u:a.length=e.length) (i:DJ x.op= .tup [.nilF,.bool false]) (l:(x.op==h)=false) (n:((((eG A a k):Nat):Int)==((0:Nat):Int))=true) (call_:au prog ap 39 [.ptr 0 0 0,.int .i64 (k:Int)] (wH e d A g f a) (.ret (.int .i64 ((eG A a k:Nat):Int))) (wH e d A g f a)):ah prog ap [] nt (ae 0 (af f14)) (iE e d A g f h b (k,a)) .normal (iE e d A g f h b (k+1,a.set k 0)):=by
 have c:k<a.length:=by omega
 have p:k<2^62:=by omega
 have h0:(decide ((k:Int)<(e.length:Int)))=true:=decide_eq_true (by omega)
 have o:Nat.ble (((0+(Int.toNat (k:Int)))*1)+1) (List.length (aj a))=true:=by rw [Nat.ble_eq,aA];simp [aj];omega
 unfold iE
 dsimp only
 rw [List.length_set,← aY c]
 exact pN 14 [] 4 9 (.c o (.c (aQ k) (.c (bK c) (.k 1 (aC n) (.k 1 (aB l) (.k 10 (aQ k) (.c h0 (.c (aC h0) .nil)))))))) (.v 101 (.eq (ja p)) (.c call_ (.v 52 (.eq i) (.v 46 (.ppt q) .nil)))) j
theorem amR {nt:Nat} (l:111≤nt) (e:List Nd) (h:Bool) (A:List (List Nat)) (j:List Sc) (i:Bool) (c:List Nat) (d:Int) (a:List UInt8) (k:Nat) (x:Nd) (n:List AV) (w:e.getD k jd=x) (r:(List.drop ((Int.toNat (k:Int))*5) (aH e))=iZ x++n) (u:k<e.length) (s:e.length<2^40) (t:A.length=e.length) (v:c.length=e.length) (f:Nat) (g:DJ x.op= .tup [.fn f [] [],.bool true]) (m:(x.op==d)=true) (p:(x.name==a)=true):ah prog ap [] nt (ae 0 (af f14)) (iE e h A j i d a (k,c)) .normal (iE e h A j i d a (k+1,c.set k 1)):=by
 have b:k<c.length:=by omega
 have q:k<2^62:=by omega
 have h0:(decide ((k:Int)<(e.length:Int)))=true:=decide_eq_true (by omega)
 have o:Nat.ble (((0+(Int.toNat (k:Int)))*1)+1) (List.length (aj c))=true:=by rw [Nat.ble_eq,aA];simp [aj];omega
 unfold iE
 dsimp only
 rw [List.length_set,← aY b]
 exact pN 14 [] 3 7 (.c o (.c (aQ k) (.c (bK b) (.k 1 (aC p) (.k 1 (aC m) (.k 10 (aQ k) (.c h0 (.c (aC h0) .nil)))))))) (.v 101 (.eq (ja q)) (.v 52 (.eq g) (.v 46 (.ppt r) .nil))) l
theorem amT {nt:Nat} (l:111≤nt) (e:List Nd) (d:Bool) (A:List (List Nat)) (h:List Sc) (g:Bool) (b:List Nat) (i:Int) (a:List UInt8) (k:Nat) (x:Nd) (n:List AV) (y:e.getD k jd=x) (s:(List.drop ((Int.toNat (k:Int))*5) (aH e))=iZ x++n) (v:k<e.length) (t:e.length<2^40) (u:A.length=e.length) (w:b.length=e.length) (f:Nat) (j:DJ x.op= .tup [.fn f [] [],.bool true]) (m:(x.op==i)=true) (q:(x.name==a)=false) (o:((((eG A b k):Nat):Int)==((0:Nat):Int))=true) (call_:au prog ap 39 [.ptr 0 0 0,.int .i64 (k:Int)] (wH e d A h g b) (.ret (.int .i64 ((eG A b k:Nat):Int))) (wH e d A h g b)):ah prog ap [] nt (ae 0 (af f14)) (iE e d A h g i a (k,b)) .normal (iE e d A h g i a (k+1,b.set k 0)):=by
 have c:k<b.length:=by omega
 have r:k<2^62:=by omega
 have h0:(decide ((k:Int)<(e.length:Int)))=true:=decide_eq_true (by omega)
 have p:Nat.ble (((0+(Int.toNat (k:Int)))*1)+1) (List.length (aj b))=true:=by rw [Nat.ble_eq,aA];simp [aj];omega
 unfold iE
 dsimp only
 rw [List.length_set,← aY c]
 exact pN 14 [] 4 11 (.c p (.c (aQ k) (.c (bK c) (.k 1 (aC o) (.c (aB q) (.k 1 (aC m) (.k 10 (aQ k) (.c h0 (.c (aC h0) .nil))))))))) (.v 101 (.eq (ja r)) (.c call_ (.v 52 (.eq j) (.v 46 (.ppt s) .nil)))) l
theorem amV {nt:Nat} (l:111≤nt) (e:List Nd) (d:Bool) (A:List (List Nat)) (h:List Sc) (g:Bool) (a:List Nat) (i:Int) (b:List UInt8) (k:Nat) (x:Nd) (n:List AV) (w:e.getD k jd=x) (r:(List.drop ((Int.toNat (k:Int))*5) (aH e))=iZ x++n) (u:k<e.length) (s:e.length<2^40) (t:A.length=e.length) (v:a.length=e.length) (f:Nat) (j:DJ x.op= .tup [.fn f [] [],.bool true]) (m:(x.op==i)=false) (o:((((eG A a k):Nat):Int)==((0:Nat):Int))=true) (call_:au prog ap 39 [.ptr 0 0 0,.int .i64 (k:Int)] (wH e d A h g a) (.ret (.int .i64 ((eG A a k:Nat):Int))) (wH e d A h g a)):ah prog ap [] nt (ae 0 (af f14)) (iE e d A h g i b (k,a)) .normal (iE e d A h g i b (k+1,a.set k 0)):=by
 have c:k<a.length:=by omega
 have q:k<2^62:=by omega
 have h0:(decide ((k:Int)<(e.length:Int)))=true:=decide_eq_true (by omega)
 have p:Nat.ble (((0+(Int.toNat (k:Int)))*1)+1) (List.length (aj a))=true:=by rw [Nat.ble_eq,aA];simp [aj];omega
 unfold iE
 dsimp only
 rw [List.length_set,← aY c]
 exact pN 14 [] 4 9 (.c p (.c (aQ k) (.c (bK c) (.k 1 (aC o) (.k 1 (aB m) (.k 10 (aQ k) (.c h0 (.c (aC h0) .nil)))))))) (.v 101 (.eq (ja q)) (.c call_ (.v 52 (.eq j) (.v 46 (.ppt r) .nil)))) l
theorem adi {nt:Nat} (m:111≤nt) (e:List Nd) (f:Bool) (A:List (List Nat)) (j:List Sc) (g:Bool) (b:List Nat) (i:Int) (a:List UInt8) (k:Nat) (x:Nd) (r:List AV) (y:e.getD k jd=x) (q:(List.drop ((Int.toNat (k:Int))*5) (aH e))=iZ x++r) (v:k<e.length) (t:e.length<2^40) (u:A.length=e.length) (w:b.length=e.length) (d:DJ x.op= .tup [.nilF,.bool false]) (l:(x.op==i)=false∨(x.name==a)=false) (n:((((eG A b k):Nat):Int)==((0:Nat):Int))=false) (call_:au prog ap 39 [.ptr 0 0 0,.int .i64 (k:Int)] (wH e f A j g b) (.ret (.int .i64 ((eG A b k:Nat):Int))) (wH e f A j g b)):ah prog ap [] nt (ae 0 (af f14)) (iE e f A j g i a (k,b)) .normal (iE e f A j g i a (k+1,b.set k (3))):=by
 have c:k<b.length:=by omega
 have p:k<2^62:=by omega
 have h0:(decide ((k:Int)<(e.length:Int)))=true:=decide_eq_true (by omega)
 have o:Nat.ble (((0+(Int.toNat (k:Int)))*1)+1) (List.length (aj b))=true:=by rw [Nat.ble_eq,aA];simp [aj];omega
 unfold iE
 dsimp only
 rw [List.length_set,← aY c]
 rcases tf (x.op==i) with b1|b1
 ·have s:(x.name==a)=false:=by rcases l with h|h;rw [h] at b1;cases b1;exact h
  exact pN 14 [] 5 3 (.c o (.c (aQ k) (.c (bK c) (.k 2 (aB n) (.c (aB s) (.k 1 (aC b1) (.k 10 (aQ k) (.c h0 (.c (aC h0) .nil))))))))) (.v 101 (.eq (ja p)) (.c call_ (.v 52 (.eq d) (.v 46 (.ppt q) .nil)))) m
 ·exact pN 14 [] 5 1 (.c o (.c (aQ k) (.c (bK c) (.k 2 (aB n) (.k 1 (aB b1) (.k 10 (aQ k) (.c h0 (.c (aC h0) .nil)))))))) (.v 101 (.eq (ja p)) (.c call_ (.v 52 (.eq d) (.v 46 (.ppt q) .nil)))) m
theorem adc {nt:Nat} (m:111≤nt) (e:List Nd) (d:Bool) (A:List (List Nat)) (g:List Sc) (f:Bool) (b:List Nat) (j:Int) (a:List UInt8) (k:Nat) (x:Nd) (r:List AV) (y:e.getD k jd=x) (q:(List.drop ((Int.toNat (k:Int))*5) (aH e))=iZ x++r) (v:k<e.length) (t:e.length<2^40) (u:A.length=e.length) (w:b.length=e.length) (i:DJ x.op= .tup [.fn 39 [] [],.bool true]) (l:(x.op==j)=false∨(x.name==a)=false) (n:((((eG A b k):Nat):Int)==((0:Nat):Int))=false) (call_:au prog ap 39 [.ptr 0 0 0,.int .i64 (k:Int)] (wH e d A g f b) (.ret (.int .i64 ((eG A b k:Nat):Int))) (wH e d A g f b)):ah prog ap [] nt (ae 0 (af f14)) (iE e d A g f j a (k,b)) .normal (iE e d A g f j a (k+1,b.set k (eG A b k))):=by
 have c:k<b.length:=by omega
 have p:k<2^62:=by omega
 have h0:(decide ((k:Int)<(e.length:Int)))=true:=decide_eq_true (by omega)
 have o:Nat.ble (((0+(Int.toNat (k:Int)))*1)+1) (List.length (aj b))=true:=by rw [Nat.ble_eq,aA];simp [aj];omega
 unfold iE
 dsimp only
 rw [List.length_set,← aY c]
 rcases tf (x.op==j) with b1|b1
 ·have s:(x.name==a)=false:=by rcases l with h|h;rw [h] at b1;cases b1;exact h
  exact pN 14 [] 5 19 (.c o (.c (aQ k) (.c (bK c) (.k 2 (aB n) (.c (aB s) (.k 1 (aC b1) (.k 10 (aQ k) (.c h0 (.c (aC h0) .nil))))))))) (.v 101 (.eq (ja p)) (.u 99 (uH e d A g f b) (.c call_ (.c call_ (.v 52 (.eq i) (.v 46 (.ppt q) .nil)))))) m
 ·exact pN 14 [] 5 17 (.c o (.c (aQ k) (.c (bK c) (.k 2 (aB n) (.k 1 (aB b1) (.k 10 (aQ k) (.c h0 (.c (aC h0) .nil)))))))) (.v 101 (.eq (ja p)) (.u 99 (uH e d A g f b) (.c call_ (.c call_ (.v 52 (.eq i) (.v 46 (.ppt q) .nil)))))) m
theorem adk {nt:Nat} (m:111≤nt) (e:List Nd) (c:Bool) (A:List (List Nat)) (f:List Sc) (d:Bool) (a:List Nat) (j:Int) (b:List UInt8) (k:Nat) (x:Nd) (r:List AV) (y:e.getD k jd=x) (q:(List.drop ((Int.toNat (k:Int))*5) (aH e))=iZ x++r) (v:k<e.length) (t:e.length<2^40) (u:A.length=e.length) (w:a.length=e.length) (i:DJ x.op= .tup [.fn 63 [] [],.bool true]) (l:(x.op==j)=false∨(x.name==b)=false) (n:((((eG A a k):Nat):Int)==((0:Nat):Int))=false) (call_:au prog ap 39 [.ptr 0 0 0,.int .i64 (k:Int)] (wH e c A f d a) (.ret (.int .i64 ((eG A a k:Nat):Int))) (wH e c A f d a)) (crule:au prog ap 63 [.ptr 0 0 0,.int .i64 (k:Int)] (wH e c A f d a) (.ret (.int .i64 (((eu (eX A a k 0) (jM (eX A a k 1))):Nat):Int))) (wH e c A f d a)):ah prog ap [] nt (ae 0 (af f14)) (iE e c A f d j b (k,a)) .normal (iE e c A f d j b (k+1,a.set k (eu (eX A a k 0) (jM (eX A a k 1))))):=by
 have g:k<a.length:=by omega
 have p:k<2^62:=by omega
 have h0:(decide ((k:Int)<(e.length:Int)))=true:=decide_eq_true (by omega)
 have o:Nat.ble (((0+(Int.toNat (k:Int)))*1)+1) (List.length (aj a))=true:=by rw [Nat.ble_eq,aA];simp [aj];omega
 unfold iE
 dsimp only
 rw [List.length_set,← aY g]
 rcases tf (x.op==j) with b1|b1
 ·have s:(x.name==b)=false:=by rcases l with h|h;rw [h] at b1;cases b1;exact h
  exact pN 14 [] 5 19 (.c o (.c (aQ k) (.c (bK g) (.k 2 (aB n) (.c (aB s) (.k 1 (aC b1) (.k 10 (aQ k) (.c h0 (.c (aC h0) .nil))))))))) (.v 101 (.eq (ja p)) (.u 99 (uH e c A f d a) (.c crule (.c call_ (.v 52 (.eq i) (.v 46 (.ppt q) .nil)))))) m
 ·exact pN 14 [] 5 17 (.c o (.c (aQ k) (.c (bK g) (.k 2 (aB n) (.k 1 (aB b1) (.k 10 (aQ k) (.c h0 (.c (aC h0) .nil)))))))) (.v 101 (.eq (ja p)) (.u 99 (uH e c A f d a) (.c crule (.c call_ (.v 52 (.eq i) (.v 46 (.ppt q) .nil)))))) m
theorem adh {nt:Nat} (m:111≤nt) (e:List Nd) (c:Bool) (A:List (List Nat)) (f:List Sc) (d:Bool) (a:List Nat) (j:Int) (b:List UInt8) (k:Nat) (x:Nd) (r:List AV) (y:e.getD k jd=x) (q:(List.drop ((Int.toNat (k:Int))*5) (aH e))=iZ x++r) (v:k<e.length) (t:e.length<2^40) (u:A.length=e.length) (w:a.length=e.length) (i:DJ x.op= .tup [.fn 64 [] [],.bool true]) (l:(x.op==j)=false∨(x.name==b)=false) (n:((((eG A a k):Nat):Int)==((0:Nat):Int))=false) (call_:au prog ap 39 [.ptr 0 0 0,.int .i64 (k:Int)] (wH e c A f d a) (.ret (.int .i64 ((eG A a k:Nat):Int))) (wH e c A f d a)) (crule:au prog ap 64 [.ptr 0 0 0,.int .i64 (k:Int)] (wH e c A f d a) (.ret (.int .i64 (((DX e A a k):Nat):Int))) (wH e c A f d a)):ah prog ap [] nt (ae 0 (af f14)) (iE e c A f d j b (k,a)) .normal (iE e c A f d j b (k+1,a.set k (DX e A a k))):=by
 have g:k<a.length:=by omega
 have p:k<2^62:=by omega
 have h0:(decide ((k:Int)<(e.length:Int)))=true:=decide_eq_true (by omega)
 have o:Nat.ble (((0+(Int.toNat (k:Int)))*1)+1) (List.length (aj a))=true:=by rw [Nat.ble_eq,aA];simp [aj];omega
 unfold iE
 dsimp only
 rw [List.length_set,← aY g]
 rcases tf (x.op==j) with b1|b1
 ·have s:(x.name==b)=false:=by rcases l with h|h;rw [h] at b1;cases b1;exact h
  exact pN 14 [] 5 19 (.c o (.c (aQ k) (.c (bK g) (.k 2 (aB n) (.c (aB s) (.k 1 (aC b1) (.k 10 (aQ k) (.c h0 (.c (aC h0) .nil))))))))) (.v 101 (.eq (ja p)) (.u 99 (uH e c A f d a) (.c crule (.c call_ (.v 52 (.eq i) (.v 46 (.ppt q) .nil)))))) m
 ·exact pN 14 [] 5 17 (.c o (.c (aQ k) (.c (bK g) (.k 2 (aB n) (.k 1 (aB b1) (.k 10 (aQ k) (.c h0 (.c (aC h0) .nil)))))))) (.v 101 (.eq (ja p)) (.u 99 (uH e c A f d a) (.c crule (.c call_ (.v 52 (.eq i) (.v 46 (.ppt q) .nil)))))) m
theorem adf {nt:Nat} (m:111≤nt) (e:List Nd) (c:Bool) (A:List (List Nat)) (f:List Sc) (d:Bool) (a:List Nat) (j:Int) (b:List UInt8) (k:Nat) (x:Nd) (r:List AV) (y:e.getD k jd=x) (q:(List.drop ((Int.toNat (k:Int))*5) (aH e))=iZ x++r) (v:k<e.length) (t:e.length<2^40) (u:A.length=e.length) (w:a.length=e.length) (i:DJ x.op= .tup [.fn 65 [] [],.bool true]) (l:(x.op==j)=false∨(x.name==b)=false) (n:((((eG A a k):Nat):Int)==((0:Nat):Int))=false) (call_:au prog ap 39 [.ptr 0 0 0,.int .i64 (k:Int)] (wH e c A f d a) (.ret (.int .i64 ((eG A a k:Nat):Int))) (wH e c A f d a)) (crule:au prog ap 65 [.ptr 0 0 0,.int .i64 (k:Int)] (wH e c A f d a) (.ret (.int .i64 (((CU e A a k):Nat):Int))) (wH e c A f d a)):ah prog ap [] nt (ae 0 (af f14)) (iE e c A f d j b (k,a)) .normal (iE e c A f d j b (k+1,a.set k (CU e A a k))):=by
 have g:k<a.length:=by omega
 have p:k<2^62:=by omega
 have h0:(decide ((k:Int)<(e.length:Int)))=true:=decide_eq_true (by omega)
 have o:Nat.ble (((0+(Int.toNat (k:Int)))*1)+1) (List.length (aj a))=true:=by rw [Nat.ble_eq,aA];simp [aj];omega
 unfold iE
 dsimp only
 rw [List.length_set,← aY g]
 rcases tf (x.op==j) with b1|b1
 ·have s:(x.name==b)=false:=by rcases l with h|h;rw [h] at b1;cases b1;exact h
  exact pN 14 [] 5 19 (.c o (.c (aQ k) (.c (bK g) (.k 2 (aB n) (.c (aB s) (.k 1 (aC b1) (.k 10 (aQ k) (.c h0 (.c (aC h0) .nil))))))))) (.v 101 (.eq (ja p)) (.u 99 (uH e c A f d a) (.c crule (.c call_ (.v 52 (.eq i) (.v 46 (.ppt q) .nil)))))) m
 ·exact pN 14 [] 5 17 (.c o (.c (aQ k) (.c (bK g) (.k 2 (aB n) (.k 1 (aB b1) (.k 10 (aQ k) (.c h0 (.c (aC h0) .nil)))))))) (.v 101 (.eq (ja p)) (.u 99 (uH e c A f d a) (.c crule (.c call_ (.v 52 (.eq i) (.v 46 (.ppt q) .nil)))))) m
theorem ade {nt:Nat} (m:111≤nt) (e:List Nd) (c:Bool) (A:List (List Nat)) (f:List Sc) (d:Bool) (a:List Nat) (j:Int) (b:List UInt8) (k:Nat) (x:Nd) (r:List AV) (y:e.getD k jd=x) (q:(List.drop ((Int.toNat (k:Int))*5) (aH e))=iZ x++r) (v:k<e.length) (t:e.length<2^40) (u:A.length=e.length) (w:a.length=e.length) (i:DJ x.op= .tup [.fn 66 [] [],.bool true]) (l:(x.op==j)=false∨(x.name==b)=false) (n:((((eG A a k):Nat):Int)==((0:Nat):Int))=false) (call_:au prog ap 39 [.ptr 0 0 0,.int .i64 (k:Int)] (wH e c A f d a) (.ret (.int .i64 ((eG A a k:Nat):Int))) (wH e c A f d a)) (crule:au prog ap 66 [.ptr 0 0 0,.int .i64 (k:Int)] (wH e c A f d a) (.ret (.int .i64 (((Ik A a k):Nat):Int))) (wH e c A f d a)):ah prog ap [] nt (ae 0 (af f14)) (iE e c A f d j b (k,a)) .normal (iE e c A f d j b (k+1,a.set k (Ik A a k))):=by
 have g:k<a.length:=by omega
 have p:k<2^62:=by omega
 have h0:(decide ((k:Int)<(e.length:Int)))=true:=decide_eq_true (by omega)
 have o:Nat.ble (((0+(Int.toNat (k:Int)))*1)+1) (List.length (aj a))=true:=by rw [Nat.ble_eq,aA];simp [aj];omega
 unfold iE
 dsimp only
 rw [List.length_set,← aY g]
 rcases tf (x.op==j) with b1|b1
 ·have s:(x.name==b)=false:=by rcases l with h|h;rw [h] at b1;cases b1;exact h
  exact pN 14 [] 5 19 (.c o (.c (aQ k) (.c (bK g) (.k 2 (aB n) (.c (aB s) (.k 1 (aC b1) (.k 10 (aQ k) (.c h0 (.c (aC h0) .nil))))))))) (.v 101 (.eq (ja p)) (.u 99 (uH e c A f d a) (.c crule (.c call_ (.v 52 (.eq i) (.v 46 (.ppt q) .nil)))))) m
 ·exact pN 14 [] 5 17 (.c o (.c (aQ k) (.c (bK g) (.k 2 (aB n) (.k 1 (aB b1) (.k 10 (aQ k) (.c h0 (.c (aC h0) .nil)))))))) (.v 101 (.eq (ja p)) (.u 99 (uH e c A f d a) (.c crule (.c call_ (.v 52 (.eq i) (.v 46 (.ppt q) .nil)))))) m
theorem Zk {nt:Nat} (m:111≤nt) (e:List Nd) (d:Bool) (A:List (List Nat)) (c:List Sc) (f:Bool) (a:List Nat) (j:Int) (b:List UInt8) (k:Nat) (x:Nd) (s:List AV) (z:e.getD k jd=x) (q:(List.drop ((Int.toNat (k:Int))*5) (aH e))=iZ x++s) (w:k<e.length) (u:e.length<2^40) (v:A.length=e.length) (y:a.length=e.length) (ck:Sc→Int) (r:Sc→Bool) (i:DJ x.op= .tup [.fn 67 [] [],.bool true]) (l:(x.op==j)=false∨(x.name==b)=false) (n:((((eG A a k):Nat):Int)==((0:Nat):Int))=false) (call_:au prog ap 39 [.ptr 0 0 0,.int .i64 (k:Int)] (wH e d A c f a) (.ret (.int .i64 ((eG A a k:Nat):Int))) (wH e d A c f a)) (crule:au prog ap 67 [.ptr 0 0 0,.int .i64 (k:Int)] (wH e d A c f a) (.ret (.int .i64 (((G8 ck r x.name c (eX A a k 0)):Nat):Int))) (wH e d A c f a)):ah prog ap [] nt (ae 0 (af f14)) (iE e d A c f j b (k,a)) .normal (iE e d A c f j b (k+1,a.set k (G8 ck r x.name c (eX A a k 0)))):=by
 have g:k<a.length:=by omega
 have p:k<2^62:=by omega
 have h0:(decide ((k:Int)<(e.length:Int)))=true:=decide_eq_true (by omega)
 have o:Nat.ble (((0+(Int.toNat (k:Int)))*1)+1) (List.length (aj a))=true:=by rw [Nat.ble_eq,aA];simp [aj];omega
 unfold iE
 dsimp only
 rw [List.length_set,← aY g]
 rcases tf (x.op==j) with b1|b1
 ·have t:(x.name==b)=false:=by rcases l with h|h;rw [h] at b1;cases b1;exact h
  exact pN 14 [] 5 19 (.c o (.c (aQ k) (.c (bK g) (.k 2 (aB n) (.c (aB t) (.k 1 (aC b1) (.k 10 (aQ k) (.c h0 (.c (aC h0) .nil))))))))) (.v 101 (.eq (ja p)) (.u 99 (uH e d A c f a) (.c crule (.c call_ (.v 52 (.eq i) (.v 46 (.ppt q) .nil)))))) m
 ·exact pN 14 [] 5 17 (.c o (.c (aQ k) (.c (bK g) (.k 2 (aB n) (.k 1 (aB b1) (.k 10 (aQ k) (.c h0 (.c (aC h0) .nil)))))))) (.v 101 (.eq (ja p)) (.u 99 (uH e d A c f a) (.c crule (.c call_ (.v 52 (.eq i) (.v 46 (.ppt q) .nil)))))) m
theorem adg {nt:Nat} (g:111≤nt) (e:List Nd) (d:Bool) (A:List (List Nat)) (b:List Sc) (f:Bool) (c:List Nat) (h:Int) (a:List UInt8):ah prog ap [] nt (ae 0 (af f14)) (iE e d A b f h a (e.length,c)) (.exit 0) (VV e d A b f c):=by
 have h0:(decide ((e.length:Int)<(e.length:Int)))=false:=decide_eq_false (by omega)
 exact pN 14 [] 1 0 (.c (aB h0) .nil) (.nil) g
end Go.Proofs.Tryz
open Go AM
namespace Go.Proofs.Tryz
theorem FY:∀ (r:List Nd) (k:Nat) (a:List Nat),(∀ j ∈ a,j<k)→(∃ e,jm r a.length= .inl e)→(vJ r k a).length=r.length∧∀ i x,r[i]? =some x→((vJ r k a).getD i []).length=dM x.op∧∀ j ∈ (vJ r k a).getD i [],j<k+i
 | [],k,a,_,_=> ⟨rfl,fun i x h=>by simp at h⟩
 | x ::r,k,a,hst,⟨e,he⟩=>by
  simp only [jm] at he
  split at he
  ·split at he
   ·cases he
   ·rename_i n m
    have g:(a.take (a.length - dM x.op)++ [k]).length=a.length - dM x.op+1:=by rw [List.length_append,List.length_take,List.length_singleton];omega
    have d:=FY r (k+1) (a.take (a.length - dM x.op)++ [k]) (by
     intro j b
     rcases List.mem_append.1 b with b|b
     ·have:=hst j (List.mem_of_mem_take b);omega
     ·rw [List.mem_singleton.1 b];omega) ⟨e,by rw [g];exact he⟩
    refine ⟨by simp only [vJ,List.length_cons,d.1], ?_⟩
    intro i y c
    cases i with
    |zero=>
     simp only [List.getElem?_cons_zero,Option.some.injEq] at c
     subst c
     simp only [vJ,List.getD_cons_zero]
     refine ⟨by rw [List.length_drop];omega,fun j b=> ?_⟩
     have:=hst j (List.mem_of_mem_drop b);omega
    |succ i=>
     simp only [List.getElem?_cons_succ] at c
     obtain ⟨f,l⟩:=d.2 i y c
     simp only [vJ,List.getD_cons_succ]
     exact ⟨f,fun j b=>by have:=l j b;omega⟩
  ·cases he
theorem OY:∀ (r:List Nd) (d:Nat) (w:Int),jm r d= .inr w→w ≠ 0
 | [],d,w,h=>by simp [jm] at h
 | x::r,d,w,h=>by
  simp only [jm] at h
  split at h
  ·split at h
   ·cases h;decide
   ·exact OY r _ w h
  ·rename_i a
   cases h;exact a
theorem ni {e:List Nd} (a:dH e=0):(bQ e).length=e.length∧∀ i x,e[i]? =some x→((bQ e).getD i []).length=dM x.op∧∀ j ∈ (bQ e).getD i [],j<i:=by
 have h:∃ d,jm e ([]:List Nat).length= .inl d:=by
  unfold dH at a
  split at a
  ·cases a
  ·split at a
   ·rename_i d f;exact ⟨d,f⟩
   ·rename_i w g
    exact absurd a (OY _ _ _ g)
 obtain ⟨c,b⟩:=FY e 0 [] (by simp) h
 exact ⟨c,fun i x k=>by have:=b i x k;rw [Nat.zero_add] at this;exact this⟩
end Go.Proofs.Tryz
