/- Contracts of functions that the law reaches, each by its own hypotheses; joined by a program of mine. -/
import Derived.Test.YtcjindbblhcopaaGreatDoorC1
import Derived.Test.YtcjindbblhcopaaGreatDoorM5
set_option linter.unusedSimpArgs false
set_option linter.unusedVariables false
set_option maxRecDepth 100000
open Go AM
namespace Go.Proofs.Tryz
def zcc2_0 : List AV := [.str [],.int .i64 0,.bool false,.bool false,.bool false]
def apl (x y:Nat) (na nb:Bool) (p:Nat × Nat):St:=⟨[(0,.sl (ai (az x)) (az x).length na),(1,.sl (ai (az y)) (az y).length nb),(5,.int .i64 (p.1:Int)),(6,.int .i64 (p.2:Int))],[],.dead,[]⟩
def ai_ (q:Nat):St:=⟨[(5,.int .i64 (q:Int))],[],.dead,[]⟩
theorem TK {x d:Nat} (b:d<16777216):(az (x*d)).length≤(az x).length+1:=by
 apply AL
 have a:=uN x
 have hp:=Vb (az x).length
 rw [Nat.pow_succ]
 rcases Nat.eq_zero_or_pos d with rfl|h0
 ·rw [Nat.mul_zero];exact Nat.mul_pos hp (by omega)
 ·exact Nat.lt_of_lt_of_le (Nat.mul_lt_mul_of_pos_right a h0) (Nat.mul_le_mul_left _ (by omega))
theorem Xe {nt:Nat} (l:26≤nt) (x y:Nat) (i j:Bool) (t:0<y) (w:(az x).length<2^36) (s:(az y).length<2^35):∀ (n a b:Nat),b - a<n→a≤x / y→x / y≤b→b<16777216→aF prog ap [] nt (ae 0 (af f110)) (fun _=> .exit 0) (apl x y i j) ai_ (a,b) (x / y):=by
 intro n
 induction n with
 |zero=>intro a b h;omega
 | succ n ih=>
  intro a b h v p q
  rcases Nat.lt_or_ge a b with hlt|hge
  ·have g:(a+b+1) / 2<16777216:=by omega
   have m:=F7 (y*((a+b+1) / 2)) x
   have o:=Lp y ((a+b+1) / 2) j g (by omega)
   have r:=TK (x:=y) g
   have e:=Po (az (y*((a+b+1) / 2))) (az x) true i (dI.dig _) (dI.dig _) (by omega) (by omega)
   have c:=Nat.le_div_iff_mul_le (x:=(a+b+1) / 2) (y:=x) t
   rw [Nat.mul_comm] at c
   have z:((0:Nat):Int)=0:=rfl
   by_cases hle:y*((a+b+1) / 2)≤x
   ·have f:=c.2 hle
    refine .next ?_ (ih ((a+b+1) / 2) b (by omega) f p q)
    have d:=aja l x y (y*((a+b+1) / 2)) a b (JR (az (y*((a+b+1) / 2))) (az x)) i j
    simp (disch:=first|omega|(simp [ak,ay]<;>omega)) only [bG,bu,aY,dA,bz,tq] at d
    exact d (m.2.2 hle) hlt o e
   ·have f:x / y<(a+b+1) / 2:=Nat.lt_of_not_le (fun k=>hle (c.1 k))
    refine .next ?_ (ih a ((a+b+1) / 2 - 1) (by omega) v (by omega) (by omega))
    have d:=ajb l x y (y*((a+b+1) / 2)) a b (JR (az (y*((a+b+1) / 2))) (az x)) i j
    simp (disch:=first|omega|(simp [ak,ay]<;>omega)) only [dM,eu,fB,aY,bG,bu,dA,bz,tq,jV] at d
    exact d (fun k=>hle (m.2.1 k)) hlt o e
  ·have u:a=x / y:=by omega
   have d:=ajc l x y 0 a b 0 i j (by rw [aY];simp [lit];omega)
   rw [← u]
   exact .done d
theorem TL (x y:Nat) (b d:Bool) (f:0<y) (a:x<y*16777216) (e:(az x).length<2^36) (c:(az y).length<2^35):CO 110 [.sl (ai (az x)) (az x).length b,.sl (ai (az y)) (az y).length d] (.ret (.int .i64 ((x / y:Nat):Int))):=by
 have g:x / y<16777216:=by rw [Nat.div_lt_iff_lt_mul f,Nat.mul_comm];exact a
 exact aa_ x y (x / y) b d (aF.blk (fun nt h=>Xe h x y b d f e c 16777216 0 16777215 (by omega) (Nat.zero_le _) (Nat.le_of_lt_succ g) (by omega)) (by simp) rfl (aK.of ⟨rfl,rfl,rfl,rfl,trivial⟩) (aK.of ⟨rfl,trivial⟩))
theorem mW (l:List UInt8) (c:UInt8):ah (l++ [c])=ah l*256+c.toNat:=by
 unfold ah;rw [List.foldl_append];rfl
theorem toNat_ofNat {x:Nat} (h:x<256):(UInt8.ofNat x).toNat=x:=by
 rw [UInt8.toNat_ofNat'];exact Nat.mod_eq_of_lt h
def bS (o:List Nat):List UInt8:=o.map UInt8.ofNat
theorem aeb (o:List Nat):List.map (fun c=>UInt8.ofNat (Int.toNat (AV.toInt c))) (nY o)=bS o:=by
 unfold nY bS;rw [List.map_map];rfl
theorem PK (l:List Nat) (k:Nat):List.take k (nY l)=nY (l.take k):=by unfold nY;rw [List.map_take]
def SS (l:List Nat):Nat→List Nat
 |0=> []
 |k+1=> [l.getD k 0 / 65536,l.getD k 0 / 256 % 256,l.getD k 0 % 256]++SS l k
theorem MG (a b:List Nat):bS (a++b)=bS a++bS b:=by unfold bS;rw [List.map_append]
theorem OI {l:List Nat} (a:dI l):∀ (k:Nat) (o:List Nat),k≤l.length→ah (bS (o++SS l k))=ah (bS o)*16777216^k+fQ (l.take k)
 |0,o,_=>by simp [SS,fQ]
 | k+1,o,h=>by
  simp only [SS]
  rw [← List.append_assoc,OI a k _ (by omega),nU (by omega)]
  have b:=a.getD k
  generalize l.getD k 0=d at*
  have e:ah (bS (o++ [d / 65536,d / 256 % 256,d % 256]))=ah (bS o)*16777216+d:=by
   rw [show o++ [d / 65536,d / 256 % 256,d % 256]=((o++ [d / 65536])++ [d / 256 % 256])++ [d % 256] by simp,MG,MG,MG]
   simp only [bS,List.map_cons,List.map_nil]
   rw [mW,mW,mW,toNat_ofNat (show d / 65536<256 by omega),toNat_ofNat (Nat.mod_lt _ (by omega)),toNat_ofNat (Nat.mod_lt _ (by omega))]
   omega
  rw [e,Nat.add_mul,Nat.pow_succ,Nat.mul_comm (16777216^k) 16777216,Nat.mul_assoc,Nat.mul_comm d]
  omega
def WG (l:List Nat):AV:=match l with| []=> .nilS|x::l=> .ref 0 0 0 (x::l).length
def WH (l:List Nat):Hp:=match l with| []=> []|x::l=> [(0,⟨nY (x::l),0,false,0,1,true⟩)]
theorem AB {l:List Nat} (h:l ≠ []):WG l= .ref 0 0 0 l.length:=by cases l with|nil=>exact absurd rfl h|cons _ _=>rfl
theorem AC {l:List Nat} (h:l ≠ []):WH l= [(0,⟨nY l,0,false,0,1,true⟩)]:=by cases l with|nil=>exact absurd rfl h|cons _ _=>rfl
def abP (l:List Nat) (nn:Bool) (p:Nat × List Nat):St:=⟨[(0,.sl (ai l) l.length nn),(3,WG p.2),(4,.int .i64 ((p.1:Int) - 1))],WH p.2,.dead,[]⟩
def UT (o:List Nat):St:=⟨[(3,WG o)],WH o,.dead,[]⟩
theorem Zo (o:List Nat) (a b c:Nat):nY o++ [AV.int .u8 (a:Int),AV.int .u8 (b:Int),AV.int .u8 (c:Int)]=nY (o++ [a,b,c]):=by simp [nY]
theorem aac:(2:Nat)^16=65536:=by decide
theorem ak1:(2:Nat)^8=256:=by decide
theorem Yk {nt:Nat} (e:35≤nt) (l:List Nat) (c:Bool) (j:l.length<2^36) (f:dI l):∀ (k:Nat) (o:List Nat),k≤l.length→o.length+3*k=3*l.length→aF prog ap [] nt (ae 0 (af f79)) (fun _=> .exit 0) (abP l c) UT (k,o) (o++SS l k):=by
 intro k
 induction k with
 | zero=>
  intro o _ _
  simp only [SS,List.append_nil]
  refine .done ?_
  unfold abP UT
  rcases Decidable.em (o= []) with rfl|hne
  ·exact Yn e l [] c
  ·rw [AB hne,AC hne]
   exact Yl e l o c
 | succ k ih=>
  intro o n p
  have m:=f.getD k
  have i:(((k+1:Nat):Int) - 1)=(k:Int):=by omega
  have h:IntKind.wrap .i64 ((k:Int) - ((1:Nat):Int))=(k:Int) - 1:=dB (by omega) (by omega)
  have hnext:=ih (o++ [l.getD k 0 / 65536,l.getD k 0 / 256 % 256,l.getD k 0 % 256]) (by omega) (by simp;omega)
  rw [List.append_assoc] at hnext
  simp only [SS]
  refine .next ?_ hnext
  unfold abP
  rw [i]
  generalize g:l.getD k 0=d at*
  have a:o++ [d / 65536,d / 256 % 256,d % 256] ≠ []:=by simp
  rcases Decidable.em (o= []) with rfl|hne
  ·have b:=abR e l [] k c
   simp (disch:=first|omega|(simp [ak,ay]<;>omega)) only [aA,Nat.mul_one,gp,g,eP,dD,bu,aY,bG,h,a_,show min 16 64=16 from rfl,qf,aac,w8u,Nat.mod_eq_of_lt,show min 8 64=8 from rfl,ak1] at b
   simp only [List.nil_append,WG,WH,nY,List.map_cons,List.map_nil,List.length_cons,List.length_nil] at b ⊢
   apply b<;>first|exact True.intro|omega|assumption|exact rfl
  ·have b:=abQ e l o k c
   rw [AB hne,AC hne,AB a,AC a]
   simp (disch:=first|omega|(simp [ak,ay]<;>omega)) only [fP,bu,Nat.mul_one,ay,aA,gp,g,eP,dD,aY,bG,h,PK,List.take_length,a_,show min 16 64=16 from rfl,qf,aac,w8u,Nat.mod_eq_of_lt,show min 8 64=8 from rfl,ak1,Zo] at b
   simp only [List.length_append,List.length_cons,List.length_nil]
   apply b<;>first|exact True.intro|omega|assumption|exact rfl
theorem KG (l:List Nat) (c:Bool) (g:l.length<2^36) (b:dI l):CO 79 [.sl (ai l) l.length c] (.ret (.str (ag (fQ l)))):=by
 have hloop:=fun nt (hn:35≤nt)=>Yk hn l c g b l.length [] (Nat.le_refl _) (by simp)
 have a:=OI b l.length [] (Nat.le_refl _)
 have m:(SS l l.length).length=3*l.length:=by
  have:∀ k,(SS l k).length=3*k:=by
   intro k
   induction k with
   |zero=>rfl
   |succ k ih=>simp only [SS,List.length_append,List.length_cons,List.length_nil,ih];omega
  exact this _
 have f:IntKind.wrap .i64 ((l.length:Int) - ((1:Nat):Int))=(l.length:Int) - 1:=Dn (by omega)
 simp only [List.nil_append] at hloop a
 rw [List.take_length,show ah (bS [])=0 from rfl,Nat.zero_mul,Nat.zero_add] at a
 generalize SS l l.length=o at*
 rcases Decidable.em (o= []) with rfl|hne
 ·rw [← a]
  exact Yo l [] c (aF.blk hloop (by simp) rfl (aK.of ⟨rfl,rfl,congrArg _ f,trivial⟩) (aK.of ⟨rfl,trivial⟩)) (iq [] (by simp))
 ·have h:=Ym l o c
  have j:=iq (bS o) (by simp [bS];omega)
  rw [a] at j
  have e:List.take o.length (nY o)=nY o:=by rw [PK,List.take_length]
  simp (disch:=first|omega|(simp [ak,ay]<;>omega)) only [Nat.mul_one,e,II,bu,aeb,a] at h
  apply h<;>first|exact True.intro|omega|assumption|exact rfl|skip
  ·exact ay o
  ·have:List.all (nY o) (gV (.int .u8))=true:=by
    rw [List.all_eq_true];intro x i
    obtain ⟨d,_,rfl⟩:=List.mem_map.1 i
    rfl
   exact this
  ·exact aF.blk hloop (by simp) rfl (aK.of ⟨rfl,rfl,congrArg _ f,trivial⟩) (by unfold UT;rw [AB hne,AC hne];exact aK.of ⟨rfl,trivial⟩)
theorem dm (x:Nat) (c:x<9223372036854775808):CO 49 [.int .i64 (x:Int)] (.ret (.str (ag x))):=by
 rcases Nat.eq_zero_or_pos x with rfl|h0
 ·exact acI 0 rfl (iq [] (by simp))
 ·have h:=acH x
  have e:∀ k,Int.toNat (IntKind.wrap .u8 (Int.fdiv (x:Int) (2^k)))=x / 2^k % 256:=by
   intro k;rw [qf,w8u,aA]
  simp only [show min 56 64=56 from rfl,show min 48 64=48 from rfl,show min 40 64=40 from rfl,show min 32 64=32 from rfl,show min 24 64=24 from rfl,show min 16 64=16 from rfl,show min 8 64=8 from rfl,show min 0 64=0 from rfl,e] at h
  have a:=iq [UInt8.ofNat (x / 2^56 % 256),UInt8.ofNat (x / 2^48 % 256),UInt8.ofNat (x / 2^40 % 256),UInt8.ofNat (x / 2^32 % 256),UInt8.ofNat (x / 2^24 % 256),UInt8.ofNat (x / 2^16 % 256),UInt8.ofNat (x / 2^8 % 256),UInt8.ofNat (x / 2^0 % 256)] (by simp)
  have b:ah [UInt8.ofNat (x / 2^56 % 256),UInt8.ofNat (x / 2^48 % 256),UInt8.ofNat (x / 2^40 % 256),UInt8.ofNat (x / 2^32 % 256),UInt8.ofNat (x / 2^24 % 256),UInt8.ofNat (x / 2^16 % 256),UInt8.ofNat (x / 2^8 % 256),UInt8.ofNat (x / 2^0 % 256)]=x:=by
   have t:∀ y,(UInt8.ofNat (y % 256)).toNat=y % 256:=fun y=>toNat_ofNat (Nat.mod_lt _ (by omega))
   simp only [ah,List.foldl_cons,List.foldl_nil,t]
   omega
  rw [b] at a h
  apply h
  ·rw [aY];exact decide_eq_true h0
  ·exact a
def Z5 (s:List UInt8) (k:Nat):St:=⟨[(0,.str s),(4,.int .i64 ((ah (s.take k):Nat):Int)),(5,.int .i64 (k:Int))],[],.dead,[]⟩
def Nl (s:List UInt8) (k:Nat):St:=⟨[(4,.int .i64 ((ah (s.take k):Nat):Int))],[],.dead,[]⟩
theorem EI {s:List UInt8} {k:Nat} (h:k<s.length):ah (s.take (k+1))=ah (s.take k)*256+(s.getD k 0).toNat:=by
 rw [List.take_add_one,List.getElem?_eq_getElem h,List.getD_eq_getElem?_getD,List.getElem?_eq_getElem h]
 exact mW _ _
theorem Jd (s:List UInt8) (k:Nat):ah (s.take k)≤ah s:=by
 rcases Nat.lt_or_ge k s.length with h|h
 ·have e:s=s.take k++s.drop k:=(List.take_append_drop k s).symm
  have:∀ (b a:List UInt8),ah a≤ah (a++b):=by
   intro b
   induction b with
   |nil=>intro a;simp
   |cons c r ih=>
    intro a
    have d:=ih (a++ [c])
    rw [mW,List.append_assoc] at d
    simp only [List.cons_append,List.nil_append] at d
    omega
  calc ah (s.take k)≤ah (s.take k++s.drop k):=this _ _
   _=ah s:=by rw [← e]
 ·rw [List.take_of_length_le h];exact Nat.le_refl _
theorem Ul {nt:Nat} (g:35≤nt) (s:List UInt8) (hs:s.length<2^40) (o:ah s<9223372036854775808):∀ (d k:Nat),k+d=s.length→aF prog ap [] nt (ae 0 (af f107)) (fun _=> .exit 0) (Z5 s) (Nl s) k s.length:=by
 intro d
 induction d with
 |zero=>
  intro k j
  have e:k=s.length:=by omega
  subst e
  exact .done (acm g s _ _ (by rw [aY];simp [lit]))
 | succ d ih=>
  intro k j
  have b:k<s.length:=by omega
  refine .next ?_ (ih (k+1) (by omega))
  have a:=acl g s (ah (s.take k)) k
  rw [aA] at a
  have l:=Jd s (k+1)
  have f:=EI b
  have n:(s.getD k 0).toNat<256:=UInt8.toNat_lt _
  unfold Z5
  rw [f]
  rw [f] at l
  generalize (s.getD k 0).toNat=c at*
  generalize ah (s.take k)=v at*
  have h:IntKind.wrap .i64 ((v:Int)*2^(min 8 64))=((v*256:Nat):Int):=by
   rw [show min 8 64=8 from rfl,dB]<;>omega
  have m:(((v*256:Nat):Int))+(c:Int)=((v*256+c:Nat):Int):=by omega
  have i:IntKind.wrap .i64 (c:Int)=(c:Int):=bz (by omega)
  rw [i,h,m,bz (by omega)] at a
  simp (disch:=first|omega|(simp [ak,ay]<;>omega)) only [dD,bu,aY,bG,dA,bz] at a
  apply a<;>first|exact True.intro|omega|assumption|exact rfl
theorem yf {x k:Nat}:(ag x).length≤k↔x<2^(8*k):=by
 constructor
 ·intro h
  have a:=nV (ag x)
  rw [bD] at a
  exact Nat.lt_of_lt_of_le a (Nat.pow_le_pow_right (by omega) (by omega))
 ·exact iy
theorem abt (s:List UInt8) (hs:s.length<2^40) (i:ah s<9223372036854775808):CO 107 [.str s] (.ret (.tup [.int .i64 ((ah s:Nat):Int),.bool true])):=by
 have k:=iq s hs
 have a:=bD (ah s)
 have j:(ag (ah s)).length≤8:=iy (Nat.lt_of_lt_of_le i (by decide))
 have hloop:=fun nt (e:35≤nt)=>Ul e (ag (ah s)) (by omega) (by rw [a];exact i) (ag (ah s)).length 0 (by omega)
 have hless:aK ⟨[(4,.int .i64 ((ah s:Nat):Int))],[],.dead,[]⟩ (Nl (ag (ah s)) (ag (ah s)).length):=by
  unfold Nl
  rw [List.take_length,a]
  exact aK.refl _
 have f:=YK s (ah s)
 have g:=YL s (ah s)
 have d:(ag (ah s)).length=8→((ag (ah s)).getD 0 0).toNat≤127:=by
  intro b
  cases e:ag (ah s) with
  |nil=>rw [e] at b;cases b
  |cons c r=>
   rw [e] at b a
   rw [jh] at a
   have:r.length=7:=by simpa using b
   rw [this,show 256^7=72057594037927936 from rfl] at a
   simp only [List.getD_cons_zero]
   omega
 generalize ag (ah s)=t at*
 by_cases b:t.length=8
 ·have h:=d b
  simp (disch:=first|omega|(simp [ak,ay]<;>omega)) only [aY,dM,eu,fB,b,bu,jQ,decide_true,bG] at f
  apply f<;>first|exact True.intro|omega|assumption|exact rfl|skip
  exact aF.blk hloop (by simp) rfl (aK.of ⟨rfl,rfl,rfl,trivial⟩) hless
 ·simp (disch:=first|omega|(simp [ak,ay]<;>omega)) only [jQ,b,decide_false,dM,Bool.not_false,aY,eu,fB] at g
  apply g<;>first|exact True.intro|omega|assumption|exact rfl|skip
  exact aF.blk hloop (by simp) rfl (aK.of ⟨rfl,rfl,rfl,trivial⟩) hless
theorem yC (s:List UInt8) (b:Nat) (hs:s.length<2^40) (e:b≤7) (c:ah s<2^(8*b)):CO 77 [.str s,.int .i64 (b:Int)] (.ret (.tup [.int .i64 ((ah s:Nat):Int),.bool true])):=by
 have h:=amy s (ah s) b
 have a:ah s<9223372036854775808:=Nat.lt_of_lt_of_le c (Nat.le_trans (Nat.pow_le_pow_right (by omega) (show 8*b≤63 by omega)) (by decide))
 have d:=yf.2 c
 simp (disch:=first|omega|(simp [ak,ay]<;>omega)) only [aY,dM,eu,fB] at h
 exact h (by omega) (iq s hs) (abt s hs a)
theorem Ey (s:List UInt8) (b:Nat) (hs:s.length<2^40) (c:2^(8*b)≤ah s):CO 77 [.str s,.int .i64 (b:Int)] (.ret (.tup [.int .i64 0,.bool false])):=by
 have h:=amx s 0 b
 have a:¬ (ag (ah s)).length≤b:=fun h=>by have:=yf.1 h;omega
 simp (disch:=first|omega|(simp [ak,ay]<;>omega)) only [aY,bG,bu] at h
 exact h (by omega) (iq s hs)
theorem QB {d:Nat} (h:0<d):fK d=fK (d / 2)+1:=by
 rcases Nat.lt_or_ge d 2 with h1|h1
 ·have:d=1:=by omega
  subst this;rfl
 ·have:=uh (x:=d) (k:=1) (by omega)
  rw [Nat.pow_one] at this;omega
def anR (p:Nat × Nat):St:=⟨[(3,.int .i64 (p.1:Int)),(4,.int .i64 (p.2:Int))],[],.dead,[]⟩
def aee (n:Nat):St:=⟨[(3,.int .i64 (n:Int))],[],.dead,[]⟩
theorem WT {nt:Nat} (e:24≤nt):∀ (b n d:Nat),d<b→d<256→n+fK d<2^45→aF prog ap [] nt (ae 0 (af f133)) (fun _=> .exit 0) anR aee (n,d) (n+fK d):=by
 intro b
 induction b with
 |zero=>intro n d h;omega
 | succ b ih=>
  intro n d h g f
  rcases Nat.eq_zero_or_pos d with rfl|h0
  ·exact .done (alu e n 0 rfl)
  ·have a:=QB h0
   rw [a,show n+(fK (d / 2)+1)=n+1+fK (d / 2) by omega]
   refine .next ?_ (ih (n+1) (d / 2) (by omega) (by omega) (by omega))
   have c:=als e n d
   clear ih a
   simp (disch:=first|omega|(simp [ak,ay]<;>omega)) only [aY,bG,bu,dA,bz,tq] at c
   apply c<;>first|exact True.intro|omega|assumption|exact rfl
theorem KR (s:List UInt8) (hs:s.length<2^40):CO 133 [.str s] (.ret (.int .i64 ((fK (ah s):Nat):Int))):=by
 have d:=iq s hs
 have a:=bD (ah s)
 have k:=Ba (ah s)
 have b:(ag (ah s)).length≤s.length:=lD (Nat.le_refl _)
 have h0:=ab9 s 0
 have g:=ab_ s (fK (ah s))
 cases f:ag (ah s) with
 |nil=>
  rw [f] at h0 a d
  rw [← a]
  exact h0 rfl d
 | cons c r=>
  rw [f] at g a d k b
  have j:c ≠ 0:=by simpa [nR] using k
  have i:0<c.toNat:=by
   rcases Nat.eq_zero_or_pos c.toNat with h|h
   ·exact absurd (by apply UInt8.toNat_inj.1;simpa using h) j
   ·exact h
  have hc256:c.toNat<256:=UInt8.toNat_lt c
  have p:fK (ah s)=8*r.length+fK c.toNat:=by
   have e:=Dl (x:=c.toNat) (y:=ah r) (8*r.length) i (nV r)
   rw [← e,← a,jh,Nat.mul_comm,show (256:Nat)=2^8 from rfl,← Nat.pow_mul]
  have l:fK c.toNat≤8:=lq (by omega)
  simp only [List.length_cons] at b
  have hloop:=fun nt (f:24≤nt)=>WT f 256 (8*r.length) c.toNat hc256 hc256 (by omega)
  rw [← p] at hloop
  simp only [List.length_cons,List.getD_cons_zero] at g
  have t:r.length+1 - 1=r.length:=rfl
  have q:(((r.length+1:Nat):Int)) - ((1:Nat):Int)=(r.length:Int):=by omega
  have m:IntKind.wrap .i64 (r.length:Int)=(r.length:Int):=bz (by omega)
  have o:IntKind.wrap .i64 (((8:Nat):Int)*(r.length:Int))=((8*r.length:Nat):Int):=by rw [dB]<;>omega
  have n:IntKind.wrap .i64 (c.toNat:Int)=(c.toNat:Int):=bz (by omega)
  rw [q,m,o,n] at g
  refine g (by rw [aY];exact decide_eq_true (by omega)) (by rw [jQ];simp [lit]) d ?_
  exact aF.blk hloop (by simp) rfl (aK.of ⟨rfl,rfl,trivial⟩) (aK.of ⟨rfl,trivial⟩)
theorem wY (s:List UInt8):CO 128 [.str s] (.ret (.bool (nR s))):=by
 cases s with
 |nil=>exact amd [] rfl
 | cons c r=>
  have h:=ame (c::r)
  have e:(!((((c::r).getD 0 0).toNat:Int)==((0:Nat):Int)))=nR (c::r):=by
   simp only [List.getD_cons_zero,nR]
   by_cases hc:c=0
   ·subst hc;rfl
   ·have:c.toNat ≠ 0:=fun h=>hc (by apply UInt8.toNat_inj.1;simpa using h)
    have a:((c.toNat:Int)==((0:Nat):Int))=false:=by simp;omega
    rw [a];simp [hc]
  rw [e] at h
  apply h
  ·simp
  ·simp [lit];omega
theorem zH:∀ (a b:List UInt8),a.length=b.length→iM a b=decide (ah a<ah b)
 | [],[],_=>rfl
 | [],_::_,h=>by simp at h
 |_::_,[],h=>by simp at h
 | x::a,y::b,h=>by
  have c:a.length=b.length:=by simpa using h
  have j:=zH a b c
  have g:=nV a
  have k:=nV b
  simp only [iM,j]
  rw [jh,jh,c,show (256:Nat)=2^8 from rfl,← Nat.pow_mul]
  rw [c] at g
  have d:decide (x<y)=decide (x.toNat<y.toNat):=by simp [UInt8.lt_iff_toNat_lt]
  have f:(x==y)=decide (x.toNat=y.toNat):=by
   by_cases h:x=y
   ·subst h;simp
   ·have:x.toNat ≠ y.toNat:=fun i=>h (UInt8.toNat_inj.1 i)
    simp [h,this]
  rw [d,f]
  generalize 2^(8*b.length)=M at*
  generalize ah a=u at*
  generalize ah b=v at*
  generalize x.toNat=p at*
  generalize y.toNat=q at*
  rcases Nat.lt_trichotomy p q with h3|h3|h3
  ·have e:(p+1)*M≤q*M:=Nat.mul_le_mul_right _ h3
   rw [Nat.add_mul,Nat.one_mul] at e
   rw [decide_eq_true h3,decide_eq_true (show p*M+u<q*M+v by omega)];rfl
  ·subst h3
   rw [decide_eq_false (Nat.lt_irrefl _),decide_eq_true rfl]
   simp
  ·have e:(q+1)*M≤p*M:=Nat.mul_le_mul_right _ h3
   rw [Nat.add_mul,Nat.one_mul] at e
   rw [decide_eq_false (show ¬ p<q by omega),decide_eq_false (show ¬ p=q by omega),decide_eq_false (show ¬ p*M+u<q*M+v by omega)];rfl
theorem zX {x y:Nat} (h:(ag x).length<(ag y).length):x<y:=by
 rcases Nat.lt_or_ge x y with h1|h1
 ·exact h1
 ·have a:y≤ah (ag x):=by rw [bD];exact h1
  have:=lD a
  omega
theorem Vg (s t:List UInt8) (hs:s.length<2^40) (k:t.length<2^40):CO 118 [.str s,.str t] (.ret (.int .i64 (uZ (ah s) (ah t)))):=by
 have d:=iq s hs
 have c:=iq t k
 have g:=bD (ah s)
 have j:=bD (ah t)
 unfold uZ
 by_cases hl:(ag (ah s)).length=(ag (ah t)).length
 ·have b:=zH _ _ hl
  rw [g,j] at b
  have f:(ag (ah s)==ag (ah t))=decide (ah s=ah t):=by
   by_cases h:ah s=ah t
   ·rw [h];simp
   ·have:ag (ah s) ≠ ag (ah t):=fun i=>h (UO i)
    simp [h,this]
  have a:lit false (!((((ag (ah s)).length:Nat):Int)==(((ag (ah t)).length:Nat):Int)))=true:=by rw [hl];simp [lit]
  by_cases h1:ah s<ah t
  ·rw [if_pos h1]
   exact YG s t (by rw [b,decide_eq_true h1];rfl) a d c
  ·rw [if_neg h1]
   by_cases e:ah t<ah s
   ·rw [if_pos e]
    exact YH s t (by rw [b,f,decide_eq_false h1,decide_eq_false (show ¬ ah s=ah t by omega)];rfl) (by rw [b,decide_eq_false h1];rfl) a d c
   ·rw [if_neg e]
    exact YI s t (by rw [b,f,decide_eq_false h1,decide_eq_true (show ah s=ah t by omega)];rfl) (by rw [b,decide_eq_false h1];rfl) a d c
 ·have a:lit true (!((((ag (ah s)).length:Nat):Int)==(((ag (ah t)).length:Nat):Int)))=true:=by rw [jQ,decide_eq_false hl];rfl
  by_cases h1:(ag (ah s)).length<(ag (ah t)).length
  ·rw [if_pos (zX h1)]
   exact YE s t (by rw [aY,decide_eq_true h1];rfl) a d c
  ·have e:=zX (show (ag (ah t)).length<(ag (ah s)).length by omega)
   rw [if_neg (by omega),if_pos e]
   exact YF s t (by rw [aY,decide_eq_false h1];rfl) a d c
theorem akU {nt:Nat} (b:35≤nt) (s:List UInt8) (o:List Nat) (e d k:Nat) (h0:(decide (((0:Nat):Int)≤(k:Int)))=true) (c:(decide ((k:Int)<(((List.length s):Nat):Int)))=true) (a:lit true (decide ((k:Int)<(e:Int)))=true):aj prog ap [] nt (ae 2 (af f78)) ⟨[(0,.str s),(3,.nilS),(4,.int .i64 (e:Int)),(5,.int .i64 (d:Int)),(6,.int .i64 (k:Int))],[],.dead,[]⟩ (.normal) ⟨[(0,.str s),(3,.nilS),(4,.int .i64 (e:Int)),(5,.int .i64 (IntKind.wrap .i64 ((IntKind.wrap .i64 ((d:Int)*((256:Nat):Int)))+(IntKind.wrap .i64 ((UInt8.toNat (List.getD s (Int.toNat (k:Int)) 0):Nat):Int))))),(6,.int .i64 (IntKind.wrap .i64 ((k:Int)+((1:Nat):Int))))],[],.dead,[]⟩:=pJ 78 [] 1 1 (.c h0 (.c c (.c a .nil))) (.nil) b
theorem akV {nt:Nat} (a:35≤nt) (s:List UInt8) (o:List Nat) (e d k:Nat) (h0:lit false (decide ((k:Int)<(e:Int)))=true):aj prog ap [] nt (ae 2 (af f78)) ⟨[(0,.str s),(3,.nilS),(4,.int .i64 (e:Int)),(5,.int .i64 (d:Int)),(6,.int .i64 (k:Int))],[],.dead,[]⟩ (.exit 2) ⟨[(0,.str s),(3,.nilS),(4,.int .i64 (e:Int)),(5,.int .i64 (d:Int))],[],.dead,[]⟩:=pJ 78 [] 1 0 (.c h0 .nil) (.nil) a
theorem akS {nt:Nat} (b:35≤nt) (s:List UInt8) (o:List Nat) (e d k:Nat) (h0:(decide (((0:Nat):Int)≤(k:Int)))=true) (c:(decide ((k:Int)<(((List.length s):Nat):Int)))=true) (a:lit true (decide ((k:Int)<(e:Int)))=true):aj prog ap [] nt (ae 2 (af f78)) ⟨[(0,.str s),(3,.ref 0 0 0 o.length),(4,.int .i64 (e:Int)),(5,.int .i64 (d:Int)),(6,.int .i64 (k:Int))],[(0,⟨(ai o),0,false,0,1,true⟩)],.dead,[]⟩ (.normal) ⟨[(0,.str s),(3,.ref 0 0 0 o.length),(4,.int .i64 (e:Int)),(5,.int .i64 (IntKind.wrap .i64 ((IntKind.wrap .i64 ((d:Int)*((256:Nat):Int)))+(IntKind.wrap .i64 ((UInt8.toNat (List.getD s (Int.toNat (k:Int)) 0):Nat):Int))))),(6,.int .i64 (IntKind.wrap .i64 ((k:Int)+((1:Nat):Int))))],[(0,⟨(ai o),0,false,0,1,true⟩)],.dead,[]⟩:=pJ 78 [] 1 1 (.c h0 (.c c (.c a .nil))) (.nil) b
theorem akT {nt:Nat} (a:35≤nt) (s:List UInt8) (o:List Nat) (e d k:Nat) (h0:lit false (decide ((k:Int)<(e:Int)))=true):aj prog ap [] nt (ae 2 (af f78)) ⟨[(0,.str s),(3,.ref 0 0 0 o.length),(4,.int .i64 (e:Int)),(5,.int .i64 (d:Int)),(6,.int .i64 (k:Int))],[(0,⟨(ai o),0,false,0,1,true⟩)],.dead,[]⟩ (.exit 2) ⟨[(0,.str s),(3,.ref 0 0 0 o.length),(4,.int .i64 (e:Int)),(5,.int .i64 (d:Int))],[(0,⟨(ai o),0,false,0,1,true⟩)],.dead,[]⟩:=pJ 78 [] 1 0 (.c h0 .nil) (.nil) a
theorem akO {nt:Nat} (b:35≤nt) (s:List UInt8) (o:List Nat) (z:Int) (d:Nat) (h0:lit true (decide (((0:Nat):Int)<z))=true) (a:aH prog ap [] 35 (.block 2 (.loop (ae 2 (af f78)))) ⟨[(0,.str s),(2,.dead),(3,.nilS),(4,.int .i64 z),(5,.int .i64 0),(6,.int .i64 (if ((0:Nat):Int)>(IntKind.wrap .i64 (z - ((3:Nat):Int))) then ((0:Nat):Int) else (IntKind.wrap .i64 (z - ((3:Nat):Int))))),(12,.bool (decide (((0:Nat):Int)<z))),(20,.dead)],[],.dead,[]⟩ (.normal) ⟨[(0,.str s),(4,.int .i64 z),(5,.int .i64 (d:Int)),(3,.nilS)],[],.dead,[]⟩):aj prog ap [] nt (ae 0 (af f78)) ⟨[(0,.str s),(3,.nilS),(4,.int .i64 z)],[],.dead,[]⟩ (.normal) ⟨[(0,.str s),(3,.ref 0 0 0 1),(4,.int .i64 (IntKind.wrap .i64 (z - ((3:Nat):Int))))],[(0,⟨[.int .i64 (d:Int)],0,false,0,1,true⟩)],.dead,[]⟩:=pJ 78 [2] 2 1 (.k 3 h0 .nil) (.l a .nil) b
theorem akP {nt:Nat} (a:35≤nt) (s:List UInt8) (o:List Nat) (z:Int) (d:Nat) (h0:lit false (decide (((0:Nat):Int)<z))=true):aj prog ap [] nt (ae 0 (af f78)) ⟨[(0,.str s),(3,.nilS),(4,.int .i64 z)],[],.dead,[]⟩ (.exit 0) ⟨[(3,.nilS)],[],.dead,[]⟩:=pJ 78 [2] 1 0 (.c h0 .nil) (.nil) a
theorem abU (s:List UInt8) (o:List Nat) (a:CO 76 [.str s] (.ret (.str (ag (ah s))))) (b:aH prog ap [] 35 (.block 0 (.loop (ae 0 (af f78)))) ⟨[(0,.str (ag (ah s))),(2,.nilS),(3,.nilS),(4,.int .i64 (((List.length (ag (ah s))):Nat):Int)),(5,.dead),(6,.dead),(12,.dead),(20,.dead)],[],.dead,[]⟩ (.normal) ⟨[(3,.nilS)],[],.dead,[]⟩):CO 78 [.str s] (.ret (.nilS)):=pK [0] 0 0 .nil (.l b (.c a .nil))
theorem akJ {nt:Nat} (c:35≤nt) (s:List UInt8) (o:List Nat) (z:Int) (d:Nat) (h0:(Nat.ble (o.length+1) 1099511627776)=true) (e:(Nat.ble (o.length*1) (List.length (ai o)))=true) (a:lit true (decide (((0:Nat):Int)<z))=true) (b:aH prog ap [] 35 (.block 2 (.loop (ae 2 (af f78)))) ⟨[(0,.str s),(2,.dead),(3,.ref 0 0 0 o.length),(4,.int .i64 z),(5,.int .i64 0),(6,.int .i64 (if ((0:Nat):Int)>(IntKind.wrap .i64 (z - ((3:Nat):Int))) then ((0:Nat):Int) else (IntKind.wrap .i64 (z - ((3:Nat):Int))))),(12,.bool (decide (((0:Nat):Int)<z))),(20,.dead)],[(0,⟨(ai o),0,false,0,1,true⟩)],.dead,[]⟩ (.normal) ⟨[(0,.str s),(4,.int .i64 z),(5,.int .i64 (d:Int)),(3,.ref 0 0 0 o.length)],[(0,⟨(ai o),0,false,0,1,true⟩)],.dead,[]⟩):aj prog ap [] nt (ae 0 (af f78)) ⟨[(0,.str s),(3,.ref 0 0 0 o.length),(4,.int .i64 z)],[(0,⟨(ai o),0,false,0,1,true⟩)],.dead,[]⟩ (.normal) ⟨[(0,.str s),(3,.ref 0 0 0 (o.length+1)),(4,.int .i64 (IntKind.wrap .i64 (z - ((3:Nat):Int))))],[(0,⟨((List.take (o.length*1) (ai o))++ [.int .i64 (d:Int)]),0,false,0,1,true⟩)],.dead,[]⟩:=pJ 78 [2] 1 1 (.k 1 h0 (.c e (.k 1 a .nil))) (.l b .nil) c
theorem akK {nt:Nat} (a:35≤nt) (s:List UInt8) (o:List Nat) (z:Int) (d:Nat) (h0:lit false (decide (((0:Nat):Int)<z))=true):aj prog ap [] nt (ae 0 (af f78)) ⟨[(0,.str s),(3,.ref 0 0 0 o.length),(4,.int .i64 z)],[(0,⟨(ai o),0,false,0,1,true⟩)],.dead,[]⟩ (.exit 0) ⟨[(3,.ref 0 0 0 o.length)],[(0,⟨(ai o),0,false,0,1,true⟩)],.dead,[]⟩:=pJ 78 [2] 1 0 (.c h0 .nil) (.nil) a
theorem abT (s:List UInt8) (o:List Nat) (a:CO 76 [.str s] (.ret (.str (ag (ah s))))) (b:aH prog ap [] 35 (.block 0 (.loop (ae 0 (af f78)))) ⟨[(0,.str (ag (ah s))),(2,.nilS),(3,.nilS),(4,.int .i64 (((List.length (ag (ah s))):Nat):Int)),(5,.dead),(6,.dead),(12,.dead),(20,.dead)],[],.dead,[]⟩ (.normal) ⟨[(3,.ref 0 0 0 o.length)],[(0,⟨(ai o),0,false,0,1,true⟩)],.dead,[]⟩):CO 78 [.str s] (.ret (.own (List.take (o.length*1) (ai o)) o.length 1)):=pK [0] 0 0 .nil (.l b (.c a .nil))
def U7 (s:List UInt8) (o:List Nat) (e j k:Nat):St:=⟨[(0,.str s),(3,Md o),(4,.int .i64 (e:Int)),(5,.int .i64 ((ah ((s.take k).drop j):Nat):Int)),(6,.int .i64 (k:Int))],Me o,.dead,[]⟩
def U6 (s:List UInt8) (o:List Nat) (e d:Nat):St:=⟨[(0,.str s),(3,Md o),(4,.int .i64 (e:Int)),(5,.int .i64 (d:Int))],Me o,.dead,[]⟩
theorem QO {s:List UInt8} {j k:Nat} (h:k<s.length) (a:j≤k):ah ((s.take (k+1)).drop j)=ah ((s.take k).drop j)*256+(s.getD k 0).toNat:=by
 rw [List.take_add_one,List.getElem?_eq_getElem h,List.drop_append_of_le_length (by simp;omega),List.getD_eq_getElem?_getD,List.getElem?_eq_getElem h]
 exact mW _ _
theorem Pi {s:List UInt8} {j k:Nat} (h:k≤j+3):ah ((s.take k).drop j)<16777216:=by
 have a:=nV ((s.take k).drop j)
 have b:((s.take k).drop j).length≤3:=by simp;omega
 exact Nat.lt_of_lt_of_le a (Nat.le_trans (Nat.pow_le_pow_right (by omega) (show 8*((s.take k).drop j).length≤24 by omega)) (by decide))
theorem Yr {nt:Nat} (f:35≤nt) (s:List UInt8) (o:List Nat) (e j:Nat) (hs:s.length<2^40) (t:e≤s.length) (u:e≤j+3):∀ (n k:Nat),k+n=e→j≤k→aF prog ap [] nt (ae 2 (af f78)) (fun _=> .exit 2) (U7 s o e j) (U6 s o e) k (ah ((s.take e).drop j)):=by
 intro n
 induction n with
 | zero=>
  intro k p a
  have h:k=e:=by omega
  subst h
  refine .done ?_
  unfold U7 U6
  rcases Decidable.em (o= []) with rfl|hne
  ·exact akV f s [] k _ k (by rw [aY];simp [lit])
  ·rw [gX hne,gY hne]
   exact akT f s o k _ k (by rw [aY];simp [lit])
 | succ n ih=>
  intro k p a
  refine .next ?_ (ih (k+1) (by omega) (by omega))
  have g:k<s.length:=by omega
  have v:=Pi (s:=s) (j:=j) (k:=k) (by omega)
  have q:(s.getD k 0).toNat<256:=UInt8.toNat_lt _
  have i:=QO g a
  unfold U7
  rw [i]
  generalize m:(s.getD k 0).toNat=c at*
  generalize ah ((s.take k).drop j)=d at*
  clear ih i
  have r:IntKind.wrap .i64 ((d:Int)*((256:Nat):Int))=((d*256:Nat):Int):=by rw [dB]<;>omega
  have l:(((d*256:Nat):Int))+(c:Int)=((d*256+c:Nat):Int):=by omega
  rcases Decidable.em (o= []) with rfl|hne
  ·have b:=akU f s [] e d k
   simp (disch:=first|omega|(simp [ak,ay]<;>omega)) only [dD,bu,aY,bG,xC,bz,aA,m,l,dA] at b
   apply b<;>first|exact True.intro|omega|assumption|exact rfl
  ·have b:=akS f s o e d k
   rw [gX hne,gY hne]
   simp (disch:=first|omega|(simp [ak,ay]<;>omega)) only [dD,bu,aY,bG,xC,bz,aA,m,l,dA] at b
   apply b<;>first|exact True.intro|omega|assumption|exact rfl
def QN (s:List UInt8) (p:Int × List Nat):St:=⟨[(0,.str s),(3,Md p.2),(4,.int .i64 p.1)],Me p.2,.dead,[]⟩
def Ph (o:List Nat):St:=⟨[(3,Md o)],Me o,.dead,[]⟩
theorem Yq {nt:Nat} (c:35≤nt) (s:List UInt8) (o:List Nat) (e:Nat) (hs:s.length<2^38) (i:e≤s.length) (h0:0<e) (j:o.length<2^39):
  aj prog ap [] nt (ae 0 (af f78)) (QN s ((e:Int),o)) .normal (QN s ((e:Int) - 3,o++ [ah ((s.take e).drop (e - 3))])):=by
 have hloop:=fun nt (c:35≤nt)=>Yr c s o e (e - 3) (by omega) i (by omega) (e - (e - 3)) (e - 3) (by omega) (Nat.le_refl _)
 have g:IntKind.wrap .i64 ((e:Int) - ((3:Nat):Int))=(e:Int) - 3:=dB (by omega) (by omega)
 have f:(if ((0:Nat):Int)>(e:Int) - 3 then ((0:Nat):Int) else (e:Int) - 3)=((e - 3:Nat):Int):=by
  split<;>omega
 have b:ah ((s.take (e - 3)).drop (e - 3))=0:=by
  rw [List.drop_of_length_le (by simp;omega)];rfl
 have h:(List.drop (e - 3) (List.take e s)).length≤3:=by simp;omega
 unfold QN
 generalize ah ((s.take e).drop (e - 3))=d at*
 rcases Decidable.em (o= []) with rfl|hne
 ·have a:=akO c s [] (e:Int) d
  rw [g,f] at a
  simp (disch:=first|omega|(simp [ak,ay]<;>omega)) only [aY,bG,bu] at a
  simp only [List.nil_append,Md,Me,ai,List.map_cons,List.map_nil,List.length_cons,List.length_nil] at a ⊢
  apply a
  ·omega
  ·refine aF.blk hloop (by simp) rfl ?_ (aK.of ⟨rfl,rfl,rfl,rfl,trivial⟩)
   unfold U7
   rw [b]
   exact aK.of ⟨rfl,rfl,rfl,rfl,rfl,trivial⟩
 ·have a:=akJ c s o (e:Int) d
  rw [g,f] at a
  rw [gX hne,gY hne,gX (iO _ _),gY (iO _ _)]
  simp (disch:=first|omega|(simp [ak,ay]<;>omega)) only [fP,bu,Nat.mul_one,dV,aY,bG,dP,List.take_length,jr] at a
  simp only [List.length_append,List.length_singleton]
  apply a<;>first|exact True.intro|omega|assumption|exact rfl|skip
  ·refine aF.blk hloop (by simp) rfl ?_ ?_
   ·unfold U7
    rw [b,gX hne,gY hne]
    exact aK.of ⟨rfl,rfl,rfl,rfl,rfl,trivial⟩
   ·unfold U6
    rw [gX hne,gY hne]
    exact aK.of ⟨rfl,rfl,rfl,rfl,trivial⟩
theorem UY {nt:Nat} (b:35≤nt) (s:List UInt8) (o:List Nat) (z:Int) (c:z≤0):aj prog ap [] nt (ae 0 (af f78)) (QN s (z,o)) (.exit 0) (Ph o):=by
 unfold QN Ph
 have a:lit false (decide (((0:Nat):Int)<z))=true:=by simp [lit];exact c
 rcases Decidable.em (o= []) with rfl|hne
 ·exact akP b s [] z 0 a
 ·rw [gX hne,gY hne]
  exact akK b s o z 0 a
theorem aem {s:List UInt8} {e:Nat} (g:e≤s.length):ah (s.take e)=16777216*ah (s.take (e - 3))+ah ((s.take e).drop (e - 3)):=by
 have c:∀ (b a:List UInt8),ah (a++b)=ah a*256^b.length+ah b:=by
  intro b a
  unfold ah
  rw [List.foldl_append,Gl];rfl
 have hs:s.take e=s.take (e - 3)++(s.take e).drop (e - 3):=by
  have f:=List.take_append_drop (e - 3) (s.take e)
  rw [List.take_take,Nat.min_eq_left (by omega)] at f
  exact f.symm
 have d:=c ((s.take e).drop (e - 3)) (s.take (e - 3))
 rw [← hs] at d
 rw [d]
 rcases Nat.lt_or_ge e 3 with h3|h3
 ·have:e - 3=0:=by omega
  rw [this];simp [ah]
 ·have:((s.take e).drop (e - 3)).length=3:=by simp;omega
  rw [this,Nat.mul_comm,show 256^3=16777216 from rfl]
theorem UZ {nt:Nat} (f:35≤nt) (s:List UInt8) (hs:s.length<2^38) (m:nR s=true):∀ (n e:Nat) (o:List Nat),e<n→e≤s.length→o.length+e<2^39→aF prog ap [] nt (ae 0 (af f78)) (fun _=> .exit 0) (QN s) Ph ((e:Int),o) (o++az (ah (s.take e))):=by
 intro n
 induction n with
 |zero=>intro e o h;omega
 | succ n ih=>
  intro e o h d u
  rcases Nat.eq_zero_or_pos e with rfl|h0
  ·have:ah (s.take 0)=0:=rfl
   rw [this,gB,List.append_nil]
   exact .done (UY f s o _ (by omega))
  ·have l:0<ah (s.take e):=by
    cases s with
    |nil=>simp at d;omega
    | cons c r=>
     have p:c ≠ 0:=by simpa [nR] using m
     have b:0<c.toNat:=by
      rcases Nat.eq_zero_or_pos c.toNat with h|h
      ·exact absurd (by apply UInt8.toNat_inj.1;simpa using h) p
      ·exact h
     obtain ⟨a,rfl⟩:∃ a,e=a+1:=⟨e - 1,by omega⟩
     rw [List.take_succ_cons,jh]
     have:=Nat.mul_pos b (show 0<256^(r.take a).length from Nat.pow_pos (by omega))
     omega
   have q:=aem d
   have t:=Pi (s:=s) (j:=e - 3) (k:=e) (by omega)
   have hstep:=Yq f s o e hs d h0 (by omega)
   rw [ni l,show ah (s.take e) % 16777216=ah ((s.take e).drop (e - 3)) by omega,show ah (s.take e) / 16777216=ah (s.take (e - 3)) by omega]
   rcases Nat.lt_or_ge e 3 with h3|h3
   ·have g:e - 3=0:=by omega
    have i:ah (s.take (e - 3))=0:=by rw [g];rfl
    rw [i,gB]
    exact .next hstep (.done (UY f s _ _ (by omega)))
   ·have hnext:=ih (e - 3) (o++ [ah ((s.take e).drop (e - 3))]) (by omega) (by omega) (by simp;omega)
    rw [List.append_assoc] at hnext
    rw [show ((e:Int) - 3)=((e - 3:Nat):Int) by omega] at hstep
    exact .next hstep hnext
theorem aaf (s:List UInt8) (hs:s.length<2^37):CO 78 [.str s] (.ret (.sl (ai (az (ah s))) (az (ah s)).length false)):=by
 have c:=iq s (by omega)
 have b:(ag (ah s)).length≤s.length:=lD (Nat.le_refl _)
 have a:=bD (ah s)
 have hloop:=fun nt (hn:35≤nt)=>UZ hn (ag (ah s)) (by omega) (Ba _) ((ag (ah s)).length+1) (ag (ah s)).length [] (by omega) (Nat.le_refl _) (by simp;omega)
 rw [List.take_length,a,List.nil_append] at hloop
 generalize d:az (ah s)=o at*
 rcases Decidable.em (o= []) with rfl|hne
 ·have h:=abU s [] c (aF.blk hloop (by simp) rfl (aK.of ⟨rfl,rfl,rfl,trivial⟩) (aK.of ⟨rfl,trivial⟩))
  exact h.out (ku.ret rfl rfl (aZ.nilS false rfl))
 ·have h:=(abT s o c (aF.blk hloop (by simp) rfl (aK.of ⟨rfl,rfl,rfl,trivial⟩) (by unfold Ph;rw [gX hne,gY hne];exact aK.of ⟨rfl,trivial⟩))).thaw (by simp)
  simp only [wu,thaw,Nat.mul_one,dP,List.take_length] at h
  exact h.out (ku.sl1 _ _ _)
theorem atP (s t:List UInt8) (x y q r:Nat) (h0:(!((y:Int)==((0:Nat):Int)))=true) (e:lit false ((((List.length (ag (ah t))):Nat):Int)==((0:Nat):Int))=true) (a:CO 76 [.str t] (.ret (.str (ag (ah t))))) (f:CO 77 [.str s,.int .i64 7] (.ret (.tup [.int .i64 (x:Int),.bool true]))) (b:CO 77 [.str (ag (ah t)),.int .i64 7] (.ret (.tup [.int .i64 (y:Int),.bool true]))) (c:CO 49 [.int .i64 (IntKind.wrap .i64 (Int.tdiv (x:Int) (y:Int)))] (.ret (.str (ag q)))) (d:CO 49 [.int .i64 (Int.tmod (x:Int) (y:Int))] (.ret (.str (ag r)))):CO 81 [.str s,.str t] (.ret (.tup [.str (ag q),.str (ag r),.bool true])):=pK [0] 3 6 (.c h0 (.c h0 (.k 2 e .nil))) (.c d (.c c (.c b (.c f (.c a .nil)))))
theorem atN (s t:List UInt8) (x y q r m:Nat) (Q:List Nat) (a:Int) (b:Bool) (h0:(decide (((0:Nat):Int)≤(((az (ah s)).length:Nat):Int)))=true) (l:(decide ((((az (ah s)).length:Nat):Int)=(((az (ah s)).length:Nat):Int)))=true) (c:(decide ((((az (ah s)).length:Nat):Int)≤((1099511627776:Nat):Int)))=true) (d:lit false ((((List.length (ag (ah t))):Nat):Int)==((0:Nat):Int))=true) (e:CO 76 [.str t] (.ret (.str (ag (ah t))))) (h:CO 77 [.str s,.int .i64 7] (.ret (.tup [.int .i64 0,.bool false]))) (j:CO 77 [.str (ag (ah t)),.int .i64 7] (.ret (.tup [.int .i64 a,.bool b]))) (g:CO 78 [.str s] (.ret (.sl (ai (az (ah s))) (az (ah s)).length false))) (i:CO 78 [.str (ag (ah t))] (.ret (.sl (ai (az (ah (ag (ah t))))) (az (ah (ag (ah t)))).length false))) (f:aH prog ap [] 87 (.block 0 (.loop (ae 0 (af f81)))) ⟨[(0,.str s),(1,.str (ag (ah t))),(4,.str []),(5,.str []),(6,.bool false),(7,.int .i64 0),(8,.bool false),(9,.int .i64 a),(10,.bool b),(11,.sl (ai (az (ah s))) (az (ah s)).length false),(12,.sl (ai (az (ah (ag (ah t))))) (az (ah (ag (ah t)))).length false),(13,.ref 0 0 0 (Int.toNat (((az (ah s)).length:Nat):Int))),(14,.nilS),(15,.int .i64 (IntKind.wrap .i64 ((((az (ah s)).length:Nat):Int) - ((1:Nat):Int)))),(20,.bool ((((List.length (ag (ah t))):Nat):Int)==((0:Nat):Int))),(34,.bool false),(54,.dead),(68,.dead)],[(0,⟨(iU (Int.toNat (((az (ah s)).length:Nat):Int)) [.int .i64 0]),0,false,0,1,true⟩)],.dead,[]⟩ (.normal) ⟨[(13,.ref 0 0 0 m),(14,.sl (ai (az r)) (az r).length false)],[(0,⟨(ai Q),0,false,0,1,true⟩)],.dead,[]⟩) (k:CO 79 [.sl (List.take (m*1) (ai Q)) m true] (.ret (.str (ag q)))) (n:CO 79 [.sl (ai (az r)) (az r).length false] (.ret (.str (ag r)))):CO 81 [.str s,.str t] (.ret (.tup [.str (ag q),.str (ag r),.bool true])):=pK [0] 3 0 (.c h0 (.c l (.c c (.k 2 d .nil)))) (.c n (.c k (.l f (.c i (.c g (.c j (.c h (.c e .nil))))))))
theorem atO (s t:List UInt8) (x y q r m:Nat) (Q:List Nat) (l:Int) (n:Bool) (h0:(decide (((0:Nat):Int)≤(((az (ah s)).length:Nat):Int)))=true) (j:(decide ((((az (ah s)).length:Nat):Int)=(((az (ah s)).length:Nat):Int)))=true) (a:(decide ((((az (ah s)).length:Nat):Int)≤((1099511627776:Nat):Int)))=true) (b:lit false ((((List.length (ag (ah t))):Nat):Int)==((0:Nat):Int))=true) (c:CO 76 [.str t] (.ret (.str (ag (ah t))))) (f:CO 77 [.str s,.int .i64 7] (.ret (.tup [.int .i64 (x:Int),.bool true]))) (h:CO 77 [.str (ag (ah t)),.int .i64 7] (.ret (.tup [.int .i64 0,.bool false]))) (e:CO 78 [.str s] (.ret (.sl (ai (az (ah s))) (az (ah s)).length false))) (g:CO 78 [.str (ag (ah t))] (.ret (.sl (ai (az (ah (ag (ah t))))) (az (ah (ag (ah t)))).length false))) (d:aH prog ap [] 87 (.block 0 (.loop (ae 0 (af f81)))) ⟨[(0,.str s),(1,.str (ag (ah t))),(4,.str []),(5,.str []),(6,.bool false),(7,.int .i64 (x:Int)),(8,.bool true),(9,.int .i64 0),(10,.bool false),(11,.sl (ai (az (ah s))) (az (ah s)).length false),(12,.sl (ai (az (ah (ag (ah t))))) (az (ah (ag (ah t)))).length false),(13,.ref 0 0 0 (Int.toNat (((az (ah s)).length:Nat):Int))),(14,.nilS),(15,.int .i64 (IntKind.wrap .i64 ((((az (ah s)).length:Nat):Int) - ((1:Nat):Int)))),(20,.bool ((((List.length (ag (ah t))):Nat):Int)==((0:Nat):Int))),(34,.bool false),(54,.dead),(68,.dead)],[(0,⟨(iU (Int.toNat (((az (ah s)).length:Nat):Int)) [.int .i64 0]),0,false,0,1,true⟩)],.dead,[]⟩ (.normal) ⟨[(13,.ref 0 0 0 m),(14,.sl (ai (az r)) (az r).length false)],[(0,⟨(ai Q),0,false,0,1,true⟩)],.dead,[]⟩) (i:CO 79 [.sl (List.take (m*1) (ai Q)) m true] (.ret (.str (ag q)))) (k:CO 79 [.sl (ai (az r)) (az r).length false] (.ret (.str (ag r)))):CO 81 [.str s,.str t] (.ret (.tup [.str (ag q),.str (ag r),.bool true])):=pK [0] 3 2 (.c h0 (.c j (.c a (.k 2 b .nil)))) (.c k (.c i (.l d (.c g (.c e (.c h (.c f (.c c .nil))))))))
theorem atQ {nt:Nat} (l:87≤nt) (x y r w q p a m k:Nat) (c:Int) (Q:List Nat) (h0:(gV (.int .i64) (List.headD (List.drop ((0+(Int.toNat (k:Int)))*1) (List.take ((0+(Int.toNat (k:Int)))*1) (ai Q)++ [.int .i64 (q:Int)]++List.drop (((0+(Int.toNat (k:Int)))*1)+1) (ai Q))) .dead))=true) (b:(decide (((0:Nat):Int)≤(k:Int)))=true) (d:(decide ((k:Int)<(m:Int)))=true) (e:(Nat.ble (((0+(Int.toNat (k:Int)))*1)+1) (List.length (ai Q)))=true) (o:lit true (decide (((0:Nat):Int)≤c))=true) (s:(Nat.beq (List.length (ai (az r))) ((az r).length*1))=true) (h:(Nat.ble (1+(az r).length) 1099511627776)=true) (j:(gV (.int .i64) (List.headD (List.drop ((Int.toNat (k:Int))*1) (ai (az x))) .dead))=true) (f:(decide ((k:Int)<(((az x).length:Nat):Int)))=true) (n:lit true (decide (((0:Nat):Int)≤(k:Int)))=true) (g:CO 108 [.sl (List.take ((1+(az r).length)*1) ([.int .i64 (AV.toInt (List.headD (List.drop ((Int.toNat (k:Int))*1) (ai (az x))) .dead))]++(ai (az r)))) (1+(az r).length) true] (.ret (.sl (ai (az w)) (az w).length false))) (t:CO 109 [.sl (ai (az w)) (az w).length false,.sl (ai (az y)) (az y).length false] (.ret (.int .i64 c))) (v:CO 110 [.sl (ai (az w)) (az w).length false,.sl (ai (az y)) (az y).length false] (.ret (.int .i64 (q:Int)))) (i:CO 112 [.sl (ai (az y)) (az y).length false,.int .i64 (AV.toInt (List.headD (List.drop ((0+(Int.toNat (k:Int)))*1) (List.take ((0+(Int.toNat (k:Int)))*1) (ai Q)++ [.int .i64 (q:Int)]++List.drop (((0+(Int.toNat (k:Int)))*1)+1) (ai Q))) .dead))] (.ret (.sl (ai (az p)) (az p).length true))) (u:CO 111 [.sl (ai (az w)) (az w).length false,.sl (ai (az p)) (az p).length true] (.ret (.sl (ai (az a)) (az a).length false))):aj prog ap [] nt (ae 0 (af f81)) ⟨[(11,.sl (ai (az x)) (az x).length false),(12,.sl (ai (az y)) (az y).length false),(13,.ref 0 0 0 m),(14,.sl (ai (az r)) (az r).length false),(15,.int .i64 (k:Int))],[(0,⟨(ai Q),0,false,0,1,true⟩)],.dead,[]⟩ (.normal) ⟨[(11,.sl (ai (az x)) (az x).length false),(12,.sl (ai (az y)) (az y).length false),(13,.ref 0 0 0 m),(14,.sl (ai (az a)) (az a).length false),(15,.int .i64 (IntKind.wrap .i64 ((k:Int) - ((1:Nat):Int))))],[(0,⟨(List.take ((0+(Int.toNat (k:Int)))*1) (ai Q)++ [.int .i64 (q:Int)]++List.drop (((0+(Int.toNat (k:Int)))*1)+1) (ai Q)),0,false,0,1,true⟩)],.dead,[]⟩:=pJ 81 [] 2 3 (.c h0 (.c b (.c d (.c e (.c b (.c d (.c o (.c s (.c h (.k 2 j (.c b (.c f (.c n .nil))))))))))))) (.c u (.c i (.c v (.c t (.c g .nil))))) l
theorem atS {nt:Nat} (f:87≤nt) (x y r w q p l m k:Nat) (c:Int) (Q:List Nat) (h0:lit false (decide (((0:Nat):Int)≤c))=true) (j:(Nat.beq (List.length (ai (az r))) ((az r).length*1))=true) (a:(Nat.ble (1+(az r).length) 1099511627776)=true) (b:(gV (.int .i64) (List.headD (List.drop ((Int.toNat (k:Int))*1) (ai (az x))) .dead))=true) (g:(decide (((0:Nat):Int)≤(k:Int)))=true) (h:(decide ((k:Int)<(((az x).length:Nat):Int)))=true) (e:lit true (decide (((0:Nat):Int)≤(k:Int)))=true) (d:CO 108 [.sl (List.take ((1+(az r).length)*1) ([.int .i64 (AV.toInt (List.headD (List.drop ((Int.toNat (k:Int))*1) (ai (az x))) .dead))]++(ai (az r)))) (1+(az r).length) true] (.ret (.sl (ai (az w)) (az w).length false))) (i:CO 109 [.sl (ai (az w)) (az w).length false,.sl (ai (az y)) (az y).length false] (.ret (.int .i64 c))):aj prog ap [] nt (ae 0 (af f81)) ⟨[(11,.sl (ai (az x)) (az x).length false),(12,.sl (ai (az y)) (az y).length false),(13,.ref 0 0 0 m),(14,.sl (ai (az r)) (az r).length false),(15,.int .i64 (k:Int))],[(0,⟨(ai Q),0,false,0,1,true⟩)],.dead,[]⟩ (.normal) ⟨[(11,.sl (ai (az x)) (az x).length false),(12,.sl (ai (az y)) (az y).length false),(13,.ref 0 0 0 m),(14,.sl (ai (az w)) (az w).length false),(15,.int .i64 (IntKind.wrap .i64 ((k:Int) - ((1:Nat):Int))))],[(0,⟨(ai Q),0,false,0,1,true⟩)],.dead,[]⟩:=pJ 81 [] 2 1 (.c h0 (.c j (.c a (.k 2 b (.c g (.c h (.c e .nil))))))) (.c i (.c d .nil)) f
theorem aln {nt:Nat} (a:87≤nt) (x y r w q p b m k:Nat) (c:Int) (Q:List Nat):aj prog ap [] nt (ae 0 (af f81)) ⟨[(11,.sl (ai (az x)) (az x).length false),(12,.sl (ai (az y)) (az y).length false),(13,.ref 0 0 0 m),(14,.sl (ai (az r)) (az r).length false),(15,.int .i64 (-1))],[(0,⟨(ai Q),0,false,0,1,true⟩)],.dead,[]⟩ (.exit 0) ⟨[(13,.ref 0 0 0 m),(14,.sl (ai (az r)) (az r).length false)],[(0,⟨(ai Q),0,false,0,1,true⟩)],.dead,[]⟩:=pJ 81 [] 1 0 (.n 1 .nil) (.nil) a
def zn (x y m k:Nat):List Nat:=(List.range m).map fun i=>if i<k then 0 else x / 16777216^i / y % 16777216
theorem wV (x y m k:Nat):(zn x y m k).length=m:=by simp [zn]
theorem Yy {x y m k:Nat} (a:k<m):(zn x y m (k+1)).set k (x / 16777216^k / y % 16777216)=zn x y m k:=by
 apply List.ext_getElem?
 intro i
 rw [List.getElem?_set,wV]
 unfold zn
 by_cases hi:k=i
 ·subst hi;simp [a]
 ·rw [if_neg hi]
  by_cases him:i<m
  ·simp only [List.getElem?_map,List.getElem?_range him,Option.map_some]
   by_cases h1:i<k
   ·rw [if_pos (by omega),if_pos h1]
   ·rw [if_neg (by omega),if_neg h1]
  ·rw [List.getElem?_eq_none (by simp;omega),List.getElem?_eq_none (by simp;omega)]
theorem GK (x y m:Nat):zn x y m m=List.replicate m 0:=by
 unfold zn
 apply List.ext_getElem?
 intro i
 by_cases him:i<m
 ·simp [him]
 ·rw [List.getElem?_eq_none (by simp;omega),List.getElem?_eq_none (by simp;omega)]
theorem Yx (x y m k:Nat):dI (zn x y m k):=by
 intro d a
 obtain ⟨i,_,rfl⟩:=List.mem_map.1 a
 show (if i<k then 0 else _)<_
 split<;>omega
theorem V8 (z:Nat):∀ m,fQ ((List.range m).map fun i=>z / 16777216^i % 16777216)=z % 16777216^m:=by
 intro m
 induction m with
 |zero=>simp [fQ,Nat.mod_one]
 |succ m ih=>
  rw [List.range_succ,List.map_append,EH,ih,List.length_map,List.length_range,Nat.pow_succ,Nat.mod_mul]
  simp only [List.map_cons,List.map_nil,fQ,Nat.mul_zero,Nat.add_zero]
theorem Yz {x y m:Nat} (h:x / y<16777216^m):fQ (zn x y m 0)=x / y:=by
 have e:zn x y m 0=(List.range m).map fun i=>x / y / 16777216^i % 16777216:=by
  unfold zn
  apply List.map_congr_left
  intro i _
  rw [if_neg (by omega),Nat.div_div_eq_div_mul,Nat.div_div_eq_div_mul,Nat.mul_comm]
 rw [e,V8,Nat.mod_eq_of_lt h]
theorem TJ:∀ (k x:Nat),(az x).getD k 0=x / 16777216^k % 16777216:=by
 intro k
 induction k with
 |zero=>
  intro x
  rcases Nat.eq_zero_or_pos x with rfl|h
  ·rw [gB];rfl
  ·rw [ni h];simp
 |succ k ih=>
  intro x
  rcases Nat.eq_zero_or_pos x with rfl|h
  ·rw [gB];simp
  ·rw [ni h,List.getD_cons_succ,ih,Nat.div_div_eq_div_mul,Nat.pow_succ,Nat.mul_comm]
theorem OT {V R' Q' x H:Nat} (a:0<V) (h:H=V*Q'+R'):(x+16777216*H) / V=16777216*Q'+(x+16777216*R') / V∧(x+16777216*H) % V=(x+16777216*R') % V:=by
 subst h
 have e:x+16777216*(V*Q'+R')=x+16777216*R'+V*(16777216*Q'):=by
  rw [Nat.mul_add,Nat.mul_left_comm];omega
 rw [e]
 constructor
 ·rw [Nat.add_mul_div_left _ _ a,Nat.add_comm]
 ·rw [Nat.add_mul_mod_self_left]
def QQ (x y m k:Nat):St:=⟨[(11,.sl (ai (az x)) (az x).length false),(12,.sl (ai (az y)) (az y).length false),(13,.ref 0 0 0 m),(14,.sl (ai (az (x / 16777216^k % y))) (az (x / 16777216^k % y)).length false),(15,.int .i64 ((k:Int) - 1))],[(0,⟨ai (zn x y m k),0,false,0,1,true⟩)],.dead,[]⟩
theorem atU {nt:Nat} (i:87≤nt) (x y r w q p b m k d:Nat) (c:Int) (Q Q2:List Nat) (A:k<(az x).length) (s:(az x).getD k 0=d) (t:Q.length=m) (o:k<m) (B:m<2^40) (u:(az r).length<2^39) (a:Q.set k q=Q2) (h:0≤c)
  (c0:CO 108 [.sl (ai (d::az r)) (1+(az r).length) true] (.ret (.sl (ai (az w)) (az w).length false)))
  (c1:CO 109 [.sl (ai (az w)) (az w).length false,.sl (ai (az y)) (az y).length false] (.ret (.int .i64 c)))
  (c2:CO 110 [.sl (ai (az w)) (az w).length false,.sl (ai (az y)) (az y).length false] (.ret (.int .i64 (q:Int))))
  (c3:CO 112 [.sl (ai (az y)) (az y).length false,.int .i64 (q:Int)] (.ret (.sl (ai (az p)) (az p).length true)))
  (c4:CO 111 [.sl (ai (az w)) (az w).length false,.sl (ai (az p)) (az p).length true] (.ret (.sl (ai (az b)) (az b).length false))):
  aj prog ap [] nt (ae 0 (af f81)) ⟨[(11,.sl (ai (az x)) (az x).length false),(12,.sl (ai (az y)) (az y).length false),(13,.ref 0 0 0 m),(14,.sl (ai (az r)) (az r).length false),(15,.int .i64 (k:Int))],[(0,⟨ai Q,0,false,0,1,true⟩)],.dead,[]⟩ .normal
   ⟨[(11,.sl (ai (az x)) (az x).length false),(12,.sl (ai (az y)) (az y).length false),(13,.ref 0 0 0 m),(14,.sl (ai (az b)) (az b).length false),(15,.int .i64 ((k:Int) - 1))],[(0,⟨ai Q2,0,false,0,1,true⟩)],.dead,[]⟩:=by
 have g:=atQ i x y r w q p b m k c Q
 have n:IntKind.wrap .i64 ((k:Int) - ((1:Nat):Int))=(k:Int) - 1:=dB (by omega) (by omega)
 have hset':=XC (l:=Q) (j:=k) (by omega) q
 rw [a] at hset'
 have f:Q2.getD k 0=q:=by rw [← a,List.getD_eq_getElem?_getD,List.getElem?_set_self (by omega)];rfl
 have z:Q2.length=m:=by rw [← a];simp [t]
 have e:List.take (1+(az r).length) (ai (d::az r))=ai (d::az r):=by rw [dP,List.take_of_length_le (by simp;omega)]
 have v:(((0:Nat):Int)≤c)=True:=by simp [h]
 simp (disch:=first|omega|(simp [ak,ay]<;>omega)) only [aA,Nat.zero_add,Nat.mul_one,hset',gp,f,eP,dD,bu,aY,dV,fP,v,decide_true,bG,II,s,a_,J8,e,n] at g
 apply g<;>first|exact True.intro|omega|assumption|exact rfl
theorem atT {nt:Nat} (j:87≤nt) (x y r w m k d:Nat) (c:Int) (Q:List Nat) (n:k<(az x).length) (f:(az x).getD k 0=d) (o:Q.length=m) (l:k<m) (p:m<2^40) (g:(az r).length<2^39) (i:c<0)
  (c0:CO 108 [.sl (ai (d::az r)) (1+(az r).length) true] (.ret (.sl (ai (az w)) (az w).length false)))
  (c1:CO 109 [.sl (ai (az w)) (az w).length false,.sl (ai (az y)) (az y).length false] (.ret (.int .i64 c))):
  aj prog ap [] nt (ae 0 (af f81)) ⟨[(11,.sl (ai (az x)) (az x).length false),(12,.sl (ai (az y)) (az y).length false),(13,.ref 0 0 0 m),(14,.sl (ai (az r)) (az r).length false),(15,.int .i64 (k:Int))],[(0,⟨ai Q,0,false,0,1,true⟩)],.dead,[]⟩ .normal
   ⟨[(11,.sl (ai (az x)) (az x).length false),(12,.sl (ai (az y)) (az y).length false),(13,.ref 0 0 0 m),(14,.sl (ai (az w)) (az w).length false),(15,.int .i64 ((k:Int) - 1))],[(0,⟨ai Q,0,false,0,1,true⟩)],.dead,[]⟩:=by
 have b:=atS j x y r w 0 0 0 m k c Q
 have e:IntKind.wrap .i64 ((k:Int) - ((1:Nat):Int))=(k:Int) - 1:=dB (by omega) (by omega)
 have a:List.take (1+(az r).length) (ai (d::az r))=ai (d::az r):=by rw [dP,List.take_of_length_le (by simp;omega)]
 have h:(((0:Nat):Int)≤c)=False:=by simp [i]
 simp (disch:=first|omega|(simp [ak,ay]<;>omega)) only [h,decide_false,dM,Bool.not_false,dV,Nat.mul_one,II,decide_true,fP,bu,aA,gp,f,eP,dD,aY,bG,a_,J8,a,e] at b
 apply b<;>first|exact True.intro|omega|assumption|exact rfl
theorem Yv (x y m k:Nat) (c:0<y) (l:k<m):∃ d r w:Nat,(az x).getD k 0=d∧x / 16777216^(k+1) % y=r∧d+16777216*r=w∧d<16777216∧r<y∧x / 16777216^k % y=w % y∧(zn x y m (k+1)).set k (w / y)=zn x y m k∧(zn x y m (k+1)).getD k 0=0:=by
 have e:=Nat.mod_lt (x / 16777216^k) (show 0<16777216 by omega)
 have i:=Nat.mod_lt (x / 16777216^(k+1)) c
 refine ⟨x / 16777216^k % 16777216,x / 16777216^(k+1) % y,_,TJ k x,rfl,rfl,e,i, ?_, ?_, ?_⟩
 ·have b:=Nat.div_add_mod (x / 16777216^(k+1)) y
  obtain ⟨_,j⟩:=OT (x:=x / 16777216^k % 16777216) c b.symm
  have g:x / 16777216^k % 16777216+16777216*(x / 16777216^(k+1))=x / 16777216^k:=by
   rw [Nat.pow_succ,← Nat.div_div_eq_div_mul];omega
  rw [g] at j
  exact j
 ·have b:=Nat.div_add_mod (x / 16777216^(k+1)) y
  obtain ⟨v1,_⟩:=OT (x:=x / 16777216^k % 16777216) c b.symm
  have g:x / 16777216^k % 16777216+16777216*(x / 16777216^(k+1))=x / 16777216^k:=by
   rw [Nat.pow_succ,← Nat.div_div_eq_div_mul];omega
  rw [g] at v1
  have a:=Yy (x:=x) (y:=y) l
  rw [v1] at a
  have h:x / 16777216^k % 16777216+16777216*(x / 16777216^(k+1) % y)<y*16777216:=by omega
  have f:(x / 16777216^k % 16777216+16777216*(x / 16777216^(k+1) % y)) / y<16777216:=by rw [Nat.div_lt_iff_lt_mul c,Nat.mul_comm 16777216 y];exact h
  rw [Nat.mul_add_mod,Nat.mod_eq_of_lt f] at a
  exact a
 ·unfold zn;rw [List.getD_eq_getElem?_getD];simp [l]
theorem Qh {w y:Nat} (h:w<y*16777216):(az w).length≤(az y).length+1:=by
 apply AL
 have a:=uN y
 rw [Nat.pow_succ]
 exact Nat.lt_trans h (Nat.mul_lt_mul_of_pos_right a (by omega))
theorem Yw {nt:Nat} (E:87≤nt) (x y m k:Nat) (A:0<y) (M:(az x).length=m) (z:k<m) (K:m<2^35) (G:(az y).length<2^34):aj prog ap [] nt (ae 0 (af f81)) (QQ x y m (k+1)) .normal (QQ x y m k):=by
 obtain ⟨d,r,w,F,J,L,v,C,p,a,q⟩:=Yv x y m k A z
 have j:=wV x y m (k+1)
 unfold QQ
 rw [show (((k+1:Nat):Int) - 1)=(k:Int) by omega,J,p]
 have f:w<y*16777216:=by omega
 have H:=qh (Nat.le_of_lt C)
 have b:=yz (d::az r) true (by simp;omega)
 rw [PN (dI.cons v (dI.dig r))] at b
 simp only [fQ,jJ,L,List.length_cons] at b
 rw [Nat.add_comm (az r).length 1] at b
 have c:=b.out (ku.sl1 _ _ _)
 have s:w / y<16777216:=by rw [Nat.div_lt_iff_lt_mul A,Nat.mul_comm];exact f
 have I:=Qh f
 have l:=Po (az w) (az y) false false (dI.dig _) (dI.dig _) (by omega) (by omega)
 have n:=F7 w y
 generalize zn x y m k=Q2 at*
 generalize zn x y m (k+1)=Q1 at*
 by_cases hc:0≤JR (az w) (az y)
 ·have e:=n.1.1 hc
  have o:=TL w y false false A f (by omega) (by omega)
  have t:=Lp y (w / y) false s (by omega)
  have u:y*(w / y)≤w:=Nat.mul_div_le w y
  have g:=UJ w (y*(w / y)) false true u (by omega)
  have D:w - y*(w / y)=w % y:=by have:=Nat.div_add_mod w y;omega
  rw [D] at g
  exact atU E x y r w (w / y) (y*(w / y)) (w % y) m k d _ Q1 Q2 (by omega) F j z (by omega) (by omega) a hc c l o t g
 ·have e:w<y:=Nat.lt_of_not_le (fun h=>hc (n.1.2 h))
  have B:w / y=0:=Nat.div_eq_of_lt e
  rw [Nat.mod_eq_of_lt e]
  rw [B] at a
  have hsame:Q1.set k 0=Q1:=by
   apply List.ext_getElem?
   intro i
   rw [List.getElem?_set]
   by_cases hi:k=i
   ·subst hi
    rw [List.getD_eq_getElem?_getD,List.getElem?_eq_getElem (by omega)] at q
    rw [if_pos rfl,if_pos (by omega),List.getElem?_eq_getElem (by omega)]
    simpa using q.symm
   ·rw [if_neg hi]
  rw [hsame] at a
  subst a
  exact atT E x y r w m k d _ Q1 (by omega) F j z (by omega) (by omega) (by omega) c l
def Pn (x y m k:Nat):St:=⟨[(13,.ref 0 0 0 m),(14,.sl (ai (az (x / 16777216^k % y))) (az (x / 16777216^k % y)).length false)],[(0,⟨ai (zn x y m k),0,false,0,1,true⟩)],.dead,[]⟩
theorem Yu {nt:Nat} (c:87≤nt) (x y m:Nat) (d:0<y) (e:(az x).length=m) (b:m<2^35) (a:(az y).length<2^34):∀ k,k≤m→aF prog ap [] nt (ae 0 (af f81)) (fun _=> .exit 0) (QQ x y m) (Pn x y m) k 0:=by
 intro k
 induction k with
 |zero=>
  intro _
  refine .done ?_
  unfold Pn
  have h:=aln c x y (x / 16777216^0 % y) 0 0 0 0 m 0 0 (zn x y m 0)
  exact h
 |succ k ih=>exact fun f=> .next (Yw c x y m k d e (by omega) b a) (ih (by omega))
theorem G7 {s:List UInt8}:(az (ah s)).length≤s.length:=by
 apply AL
 have h:=nV s
 refine Nat.lt_of_lt_of_le h ?_
 rw [show (16777216:Nat)=2^24 from rfl,← Nat.pow_mul]
 exact Nat.pow_le_pow_right (by omega) (by omega)
theorem rJ (s t:List UInt8) (hs:s.length<2^33) (K:t.length<2^33) (h0:0<ah t):CO 81 [.str s,.str t] (.ret (.tup [.str (ag (ah s / ah t)),.str (ag (ah s % ah t)),.bool true])):=by
 have I:=iq t (by omega)
 have b:=bD (ah t)
 have F:(ag (ah t)).length≤t.length:=lD (Nat.le_refl _)
 have f:ag (ah t) ≠ []:=fun h=>by have:=kF.1 h;omega
 have D:0<(ag (ah t)).length:=by
  cases C:ag (ah t) with
  |nil=>exact absurd C f
  |cons _ _=>simp
 have e:((ag (ah t)).length=0)=False:=by simp;exact f
 have H:((7:Nat):Int)=7:=rfl
 by_cases hb:ah s<2^(8*7)∧ah t<2^(8*7)
 ·have d:=yC s 7 (by omega) (by omega) hb.1
  have a:=yC (ag (ah t)) 7 (by omega) (by omega) (by rw [b];exact hb.2)
  rw [b] at a
  have v:ah s<9223372036854775808:=Nat.lt_of_lt_of_le hb.1 (by decide)
  have w:ah t<9223372036854775808:=Nat.lt_of_lt_of_le hb.2 (by decide)
  have J:=Nat.div_le_self (ah s) (ah t)
  have M:=Nat.mod_le (ah s) (ah t)
  have G:=dm (ah s / ah t) (by omega)
  have L:=dm (ah s % ah t) (by omega)
  have h:=atP s t (ah s) (ah t) (ah s / ah t) (ah s % ah t)
  have o:(ah t=0)=False:=by simp;omega
  clear hb hs
  simp (disch:=first|omega|(simp [ak,ay]<;>omega)) only [jQ,o,decide_false,Bool.not_false,e,dM,tq,bz,BR] at h
  apply h<;>first|exact True.intro|omega|assumption|exact rfl
 ·have z:=aaf s (by omega)
  have i:=aaf (ag (ah t)) (by omega)
  rw [b] at i
  have E:=G7 (s:=s)
  have A:=G7 (s:=t)
  have hloop:=fun nt (hn:87≤nt)=>Yu hn (ah s) (ah t) _ h0 rfl (by omega) (by omega) _ (Nat.le_refl _)
  have m:=wV (ah s) (ah t) (az (ah s)).length 0
  have q:fQ (zn (ah s) (ah t) (az (ah s)).length 0)=ah s / ah t:=Yz (Nat.lt_of_le_of_lt (Nat.div_le_self _ _) (uN _))
  have u:=KG (zn (ah s) (ah t) (az (ah s)).length 0) true (by omega) (Yx _ _ _ _)
  rw [q,m] at u
  have l:ah s / 16777216^0 % ah t=ah s % ah t:=by rw [Nat.pow_zero,Nat.div_one]
  have B:=qh (Nat.le_of_lt (Nat.mod_lt (ah s) h0))
  have n:=KG (az (ah s % ah t)) false (by omega) (dI.dig _)
  rw [jJ] at n
  have g:ah s / 16777216^(az (ah s)).length % ah t=0:=by rw [Nat.div_eq_of_lt (uN _),Nat.zero_mod]
  have k:IntKind.wrap .i64 ((((az (ah s)).length:Nat):Int) - ((1:Nat):Int))=((az (ah s)).length:Int) - 1:=Dn (by omega)
  have c:Pn (ah s) (ah t) (az (ah s)).length 0=⟨[(13,.ref 0 0 0 (az (ah s)).length),(14,.sl (ai (az (ah s % ah t))) (az (ah s % ah t)).length false)],[(0,⟨ai (zn (ah s) (ah t) (az (ah s)).length 0),0,false,0,1,true⟩)],.dead,[]⟩:=by unfold Pn;rw [l]
  have x:(az (ah s)).length<2^35:=by omega
  have j:List.take (az (ah s)).length (ai (zn (ah s) (ah t) (az (ah s)).length 0))=ai (zn (ah s) (ah t) (az (ah s)).length 0):=by rw [dP,List.take_of_length_le (by omega)]
  by_cases hx:ah s<2^(8*7)
  ·have y:2^(8*7)≤ah t:=by
    rcases Nat.lt_or_ge (ah t) (2^(8*7)) with h|h
    ·exact absurd ⟨hx,h⟩ hb
    ·exact h
   have d:=yC s 7 (by omega) (by omega) hx
   have a:=Ey (ag (ah t)) 7 (by omega) (by rw [b];exact y)
   clear hb hx y
   have h:=atO s t (ah s) 0 (ah s / ah t) (ah s % ah t) (az (ah s)).length (zn (ah s) (ah t) (az (ah s)).length 0) 0 true
   rw [b] at h
   simp (disch:=first|omega|(simp [ak,ay]<;>omega)) only [dD,bu,decide_true,jQ,e,decide_false,dM,Bool.not_false,aA,k,Bd,Nat.mul_one,j] at h
   apply h<;>first|exact True.intro|omega|assumption|exact rfl|skip
   ·refine aF.blkF hloop (by simp) rfl ?_ (by rw [c];exact pW.refl _)
    unfold QQ
    rw [GK,g,gB]
    exact pW.of ⟨aZ.refl _,aZ.refl _,aZ.refl _,aZ.nilS false rfl,aZ.refl _,trivial⟩
  ·have d:=Ey s 7 (by omega) (Nat.le_of_not_lt hx)
   have a:∃ p r,CO 77 [.str (ag (ah t)),.int .i64 7] (.ret (.tup [.int .i64 p,.bool r])):=by
    rcases Nat.lt_or_ge (ah t) (2^(8*7)) with h|h
    ·exact ⟨_,_,yC (ag (ah t)) 7 (by omega) (by omega) (by rw [b];exact h)⟩
    ·exact ⟨_,_,Ey (ag (ah t)) 7 (by omega) (by rw [b];exact h)⟩
   obtain ⟨p,r,a⟩:=a
   clear hb hx
   have h:=atN s t 0 0 (ah s / ah t) (ah s % ah t) (az (ah s)).length (zn (ah s) (ah t) (az (ah s)).length 0) p r
   rw [b] at h
   simp (disch:=first|omega|(simp [ak,ay]<;>omega)) only [dD,bu,decide_true,jQ,e,decide_false,dM,Bool.not_false,aA,k,Bd,Nat.mul_one,j] at h
   apply h<;>first|exact True.intro|omega|assumption|exact rfl|skip
   ·refine aF.blkF hloop (by simp) rfl ?_ (by rw [c];exact pW.refl _)
    unfold QQ
    rw [GK,g,gB]
    exact pW.of ⟨aZ.refl _,aZ.refl _,aZ.refl _,aZ.nilS false rfl,aZ.refl _,trivial⟩
theorem alJ {nt:Nat} (b:25≤nt) (s t q r:List UInt8) (h0:lit true (decide (((0:Nat):Int)<(((List.length t):Nat):Int)))=true) (a:CO 81 [.str s,.str t] (.ret (.tup [.str q,.str r,.bool true]))):aj prog ap [] nt (ae 0 (af f80)) ⟨[(0,.str s),(1,.str t)],[],.dead,[]⟩ (.normal) ⟨[(0,.str t),(1,.str r)],[],.dead,[]⟩:=pJ 80 [] 1 1 (.c h0 .nil) (.c a .nil) b
theorem alK {nt:Nat} (a:25≤nt) (s t q r:List UInt8) (h0:lit false (decide (((0:Nat):Int)<(((List.length t):Nat):Int)))=true):aj prog ap [] nt (ae 0 (af f80)) ⟨[(0,.str s),(1,.str t)],[],.dead,[]⟩ (.exit 0) ⟨[(0,.str s)],[],.dead,[]⟩:=pJ 80 [] 1 0 (.c h0 .nil) (.nil) a
theorem alH (s t g:List UInt8) (a:CO 76 [.str s] (.ret (.str (ag (ah s))))) (c:CO 76 [.str t] (.ret (.str (ag (ah t))))) (b:aH prog ap [] 25 (.block 0 (.loop (ae 0 (af f80)))) ⟨[(0,.str (ag (ah s))),(1,.str (ag (ah t))),(4,.str []),(6,.dead),(14,.dead)],[],.dead,[]⟩ (.normal) ⟨[(0,.str g)],[],.dead,[]⟩):CO 80 [.str s,.str t] (.ret (.str g)):=pK [0] 0 0 .nil (.l b (.c c (.c a .nil)))
def alI (p:Nat × Nat):St:=⟨[(0,.str (ag p.1)),(1,.str (ag p.2))],[],.dead,[]⟩
def aae (x:Nat):St:=⟨[(0,.str (ag x))],[],.dead,[]⟩
theorem QW {nt:Nat} (e:25≤nt):∀ (n y x:Nat),y<n→(ag x).length<2^33→(ag y).length<2^33→aF prog ap [] nt (ae 0 (af f80)) (fun _=> .exit 0) alI aae (x,y) (Nat.gcd x y):=by
 intro n
 induction n with
 |zero=>intro y x h;omega
 | succ n ih=>
  intro y x h g d
  rcases Nat.eq_zero_or_pos y with rfl|h0
  ·rw [Nat.gcd_zero_right]
   refine .done ?_
   unfold alI aae
   rw [h_]
   exact alK e (ag x) [] [] [] rfl
  ·have i:=Nat.mod_lt x h0
   have f:(ag (x % y)).length<2^33:=by
    have:x % y≤ah (ag y):=by rw [bD];omega
    have:=lD this
    omega
   have hnext:=ih (x % y) y (by omega) d f
   rw [show Nat.gcd y (x % y)=Nat.gcd x y by rw [Nat.gcd_comm y,← Nat.gcd_rec,Nat.gcd_comm]] at hnext
   refine .next ?_ hnext
   have b:=rJ (ag x) (ag y) g d (by rw [bD];exact h0)
   rw [bD,bD] at b
   have c:ag y ≠ []:=fun h=>by have:=kF.1 h;omega
   have a:0<(ag y).length:=by
    cases b:ag y with
    |nil=>exact absurd b c
    |cons _ _=>simp
   exact alJ e (ag x) (ag y) _ _ (by rw [aY,bG];exact decide_eq_true a) b
theorem Py (s t:List UInt8) (hs:s.length<2^33) (d:t.length<2^33):CO 80 [.str s,.str t] (.ret (.str (ag (Nat.gcd (ah s) (ah t))))):=by
 have b:(ag (ah s)).length≤s.length:=lD (Nat.le_refl _)
 have c:(ag (ah t)).length≤t.length:=lD (Nat.le_refl _)
 exact alH s t _ (iq s (by omega)) (iq t (by omega)) (aF.blk (fun nt a=>QW a (ah t+1) (ah t) (ah s) (by omega) (by omega) (by omega)) (by simp) rfl (aK.of ⟨rfl,rfl,trivial⟩) (aK.of ⟨rfl,trivial⟩))
theorem ala (neg:Bool) (n d:List UInt8) (g:Nat) (h0:lit true (!(nR n))=true) (a:CO 128 [.str n] (.ret (.bool (nR n)))) (b:CO 128 [.str d] (.ret (.bool (nR d)))):CO 104 [.agg [.bool neg,.str n,.str d]] (.ret (.bool false)):=pK [] 3 7 (.k 2 h0 (.n 2 .nil)) (.c b (.c a .nil))
theorem alb (neg:Bool) (n d:List UInt8) (g:Nat) (h0:lit true (!(nR d))=true) (b:lit false (!(nR n))=true) (a:CO 128 [.str n] (.ret (.bool (nR n)))) (c:CO 128 [.str d] (.ret (.bool (nR d)))):CO 104 [.agg [.bool neg,.str n,.str d]] (.ret (.bool false)):=pK [] 3 6 (.k 1 h0 (.c b (.n 2 .nil))) (.c c (.c a .nil))
theorem alc (neg:Bool) (n d:List UInt8) (g:Nat) (h0:lit true (d== [])=true) (c:lit false (!(nR d))=true) (a:lit false (!(nR n))=true) (b:CO 128 [.str n] (.ret (.bool (nR n)))) (e:CO 128 [.str d] (.ret (.bool (nR d)))):CO 104 [.agg [.bool neg,.str n,.str d]] (.ret (.bool false)):=pK [] 3 4 (.c h0 (.k 1 c (.c a (.n 2 .nil)))) (.c e (.c b .nil))
theorem ald (neg:Bool) (n d:List UInt8) (g:Nat) (h0:lit true (!neg)=true) (h:lit true (n== [])=true) (a:lit false (d== [])=true) (b:lit false (!(nR d))=true) (i:lit false (!(nR n))=true) (c:CO 128 [.str n] (.ret (.bool (nR n)))) (j:CO 128 [.str d] (.ret (.bool (nR d)))) (e:CO 49 [.int .i64 1] (.ret (.str (ag 1)))) (f:CO 118 [.str d,.str (ag 1)] (.ret (.int .i64 (uZ (ah d) (ah (ag 1)))))):CO 104 [.agg [.bool neg,.str n,.str d]] (.ret (.bool ((uZ (ah d) (ah (ag 1)))==((0:Nat):Int)))):=pK [] 5 24 (.k 1 h0 (.k 1 h (.k 1 a (.k 1 b (.c i (.n 2 .nil)))))) (.c f (.c e (.c j (.c c .nil))))
theorem ale (neg:Bool) (n d:List UInt8) (g:Nat) (h0:lit false (!neg)=true) (e:lit true (n== [])=true) (a:lit false (d== [])=true) (b:lit false (!(nR d))=true) (f:lit false (!(nR n))=true) (c:CO 128 [.str n] (.ret (.bool (nR n)))) (h:CO 128 [.str d] (.ret (.bool (nR d)))):CO 104 [.agg [.bool neg,.str n,.str d]] (.ret (.bool false)):=pK [] 5 8 (.c h0 (.k 1 e (.k 1 a (.k 1 b (.c f (.n 2 .nil)))))) (.c h (.c c .nil))
theorem alf (neg:Bool) (n d:List UInt8) (g:Nat) (h0:lit false (n== [])=true) (i:lit false (d== [])=true) (a:lit false (!(nR d))=true) (b:lit false (!(nR n))=true) (c:CO 128 [.str n] (.ret (.bool (nR n)))) (j:CO 128 [.str d] (.ret (.bool (nR d)))) (e:CO 80 [.str n,.str d] (.ret (.str (ag g)))) (f:CO 49 [.int .i64 1] (.ret (.str (ag 1)))) (h:CO 118 [.str (ag g),.str (ag 1)] (.ret (.int .i64 (uZ (ah (ag g)) (ah (ag 1)))))):CO 104 [.agg [.bool neg,.str n,.str d]] (.ret (.bool ((uZ (ah (ag g)) (ah (ag 1)))==((0:Nat):Int)))):=pK [] 4 0 (.k 2 h0 (.k 1 i (.k 1 a (.c b (.n 2 .nil))))) (.c h (.c f (.c e (.c j (.c c .nil)))))
theorem ak7 (neg:Bool) (n d:List UInt8) (g:Nat) (h0:lit true (n== [])=true) (a:CO 49 [.int .i64 1] (.ret (.str (ag 1)))):CO 51 [.bool neg,.str n,.str d] (.ret (.agg [.bool false,.str [],.str (ag 1)])):=pK [] 1 1 (.k 4 h0 .nil) (.c a .nil)
theorem ak8 (neg:Bool) (n d:List UInt8) (g:Nat) (h0:lit false (n== [])=true) (a:CO 80 [.str n,.str d] (.ret (.str (ag g)))) (c:CO 81 [.str n,.str (ag g)] (.ret (.tup [.str (ag (ah n / g)),.str (ag (ah n % g)),.bool true]))) (b:CO 81 [.str d,.str (ag g)] (.ret (.tup [.str (ag (ah d / g)),.str (ag (ah d % g)),.bool true]))):CO 51 [.bool neg,.str n,.str d] (.ret (.agg [.bool neg,.str (ag (ah n / g)),.str (ag (ah d / g))])):=pK [] 1 0 (.k 4 h0 .nil) (.c b (.c c (.c a .nil)))
theorem ak4 (neg:Bool) (n d:List UInt8) (h0:lit true (decide ((((fK (ah n)):Nat):Int)≤((400:Nat):Int)))=true) (c:lit true (jm neg n d)=true) (a:CO 104 [.agg [.bool neg,.str n,.str d]] (.ret (.bool (jm neg n d)))) (e:CO 133 [.str n] (.ret (.int .i64 (((fK (ah n)):Nat):Int)))) (b:CO 133 [.str d] (.ret (.int .i64 (((fK (ah d)):Nat):Int)))):CO 105 [.agg [.bool neg,.str n,.str d]] (.ret (.bool (decide ((((fK (ah d)):Nat):Int)≤((400:Nat):Int))))):=pK [] 2 3 (.k 1 h0 (.k 1 c (.n 3 .nil))) (.c b (.c e (.c a .nil)))
theorem ak5 (neg:Bool) (n d:List UInt8) (h0:lit false (decide ((((fK (ah n)):Nat):Int)≤((400:Nat):Int)))=true) (b:lit true (jm neg n d)=true) (a:CO 104 [.agg [.bool neg,.str n,.str d]] (.ret (.bool (jm neg n d)))) (c:CO 133 [.str n] (.ret (.int .i64 (((fK (ah n)):Nat):Int)))):CO 105 [.agg [.bool neg,.str n,.str d]] (.ret (.bool false)):=pK [] 2 1 (.c h0 (.k 1 b (.n 3 .nil))) (.c c (.c a .nil))
theorem ak6 (neg:Bool) (n d:List UInt8) (h0:lit false (jm neg n d)=true) (a:CO 104 [.agg [.bool neg,.str n,.str d]] (.ret (.bool (jm neg n d)))):CO 105 [.agg [.bool neg,.str n,.str d]] (.ret (.bool false)):=pK [] 2 0 (.k 1 h0 (.n 3 .nil)) (.c a .nil)
theorem alj (neg:Bool) (n d:List UInt8) (h0:lit true (!(jm neg n d))=true) (a:CO 104 [.agg [.bool neg,.str n,.str d]] (.ret (.bool (jm neg n d)))) (b:CO 49 [.int .i64 1] (.ret (.str (ag 1)))):CO 70 [.agg [.bool neg,.str n,.str d]] (.ret (.agg [.bool false,.str [],.str (ag 1)])):=pK [] 1 1 (.k 4 h0 (.n 3 .nil)) (.c b (.c a .nil))
theorem alk (neg:Bool) (n d:List UInt8) (h0:lit false (!(jm neg n d))=true) (a:CO 104 [.agg [.bool neg,.str n,.str d]] (.ret (.bool (jm neg n d)))):CO 70 [.agg [.bool neg,.str n,.str d]] (.ret (.agg [.bool neg,.str n,.str d])):=pK [] 1 0 (.k 7 h0 (.n 3 .nil)) (.c a .nil)
theorem ak9 (v:Int) (x z:Nat) (h0:lit true (decide (((0:Nat):Int)≤v))=true) (a:CO 49 [.int .i64 v] (.ret (.str (ag z)))) (b:CO 49 [.int .i64 1] (.ret (.str (ag 1)))):CO 36 [.int .i64 v] (.ret (.agg [.bool false,.str (ag z),.str (ag 1)])):=pK [] 1 1 (.k 4 h0 .nil) (.c b (.c a .nil))
theorem alg (neg e:Bool) (n d a b:List UInt8) (h0:lit true (a== [])=true) (c:CO 70 [.agg [.bool neg,.str n,.str d]] (.ret (.agg [.bool e,.str a,.str b]))):CO 45 [.agg [.bool neg,.str n,.str d]] (.ret (.int .i64 0)):=pK [] 1 1 (.c h0 (.n 5 .nil)) (.c c .nil)
theorem alh (neg b:Bool) (n d a c:List UInt8) (h0:lit true b=true) (f:lit false (a== [])=true) (e:CO 70 [.agg [.bool neg,.str n,.str d]] (.ret (.agg [.bool b,.str a,.str c]))):CO 45 [.agg [.bool neg,.str n,.str d]] (.ret (.int .i64 (-1))):=pK [] 2 2 (.c h0 (.k 1 f (.n 5 .nil))) (.c e .nil)
theorem ali (neg b:Bool) (n d a c:List UInt8) (h0:lit false b=true) (f:lit false (a== [])=true) (e:CO 70 [.agg [.bool neg,.str n,.str d]] (.ret (.agg [.bool b,.str a,.str c]))):CO 45 [.agg [.bool neg,.str n,.str d]] (.ret (.int .i64 1)):=pK [] 2 0 (.c h0 (.k 1 f (.n 5 .nil))) (.c e .nil)
theorem PE {x:Nat}:((uZ x (ah (ag 1)))==((0:Nat):Int))=decide (x=1):=by
 rw [bD]
 unfold uZ
 rcases Nat.lt_trichotomy x 1 with h|h|h
 ·rw [if_pos h,decide_eq_false (by omega)];rfl
 ·rw [if_neg (by omega),if_neg (by omega),decide_eq_true h];rfl
 ·rw [if_neg (by omega),if_pos h,decide_eq_false (by omega)];rfl
theorem ru (neg:Bool) (n d:List UInt8) (w:n.length<2^33) (s:d.length<2^33):CO 104 [.agg [.bool neg,.str n,.str d]] (.ret (.bool (jm neg n d))):=by
 have i:=wY n
 have g:=wY d
 have p:=dm 1 (by omega)
 have u:(ag 1).length≤1:=iy (by omega)
 have v:=Vg d (ag 1) (by omega) (by omega)
 have t:=Py n d w s
 have o:=@PE (ah d)
 cases a:nR n with
 |false=>
  have e:jm neg n d=false:=by unfold jm;rw [a];rfl
  rw [e]
  exact ala neg n d 0 (by rw [a];rfl) i g
 | true=>
  cases b:nR d with
  |false=>
   have e:jm neg n d=false:=by unfold jm;rw [b];simp
   rw [e]
   exact alb neg n d 0 (by rw [b];rfl) (by rw [a];rfl) i g
  | true=>
   have r:=(qY n).1 a
   have q:=(qY d).1 b
   by_cases hd0:d= []
   ·have e:jm neg n d=false:=by
     subst hd0;unfold jm;simp [show ah []=0 from rfl]
    rw [e]
    exact alc neg n d 0 (by rw [hd0];rfl) (by rw [b];rfl) (by rw [a];rfl) i g
   ·have j:0<ah d:=by
     rcases Nat.eq_zero_or_pos (ah d) with h|h
     ·rw [h,h_] at q;exact absurd q.symm hd0
     ·exact h
    have f:(d== [])=false:=by simpa using hd0
    by_cases hn0:n= []
    ·have c:(n== [])=true:=by simpa using hn0
     have m:ah n=0:=by rw [hn0];rfl
     cases neg with
     | false=>
      have h:=ald false n d 0 rfl (by rw [c];rfl) (by rw [f];rfl) (by rw [b];rfl) (by rw [a];rfl) i g p v
      rw [o] at h
      have e:jm false n d=decide (ah d=1):=by
       rw [Bool.eq_iff_iff,mD,m,Nat.gcd_zero_left]
       simp [a,b];omega
      rw [e];exact h
     | true=>
      have h:=ale true n d 0 rfl (by rw [c];rfl) (by rw [f];rfl) (by rw [b];rfl) (by rw [a];rfl) i g
      have e:jm true n d=false:=by
       rw [Bool.eq_false_iff];intro h
       have:=(mD.1 h).2.2.2.2 rfl
       omega
      rw [e];exact h
    ·have c:(n== [])=false:=by simpa using hn0
     have l:0<ah n:=by
      rcases Nat.eq_zero_or_pos (ah n) with h|h
      ·rw [h,h_] at r;exact absurd r.symm hn0
      ·exact h
     have x:(ag (Nat.gcd (ah n) (ah d))).length≤d.length:=lD (Nat.gcd_le_right _ j)
     have k:=Vg (ag (Nat.gcd (ah n) (ah d))) (ag 1) (by omega) (by omega)
     have h:=alf neg n d (Nat.gcd (ah n) (ah d)) (by rw [c];rfl) (by rw [f];rfl) (by rw [b];rfl) (by rw [a];rfl) i g t p k
     rw [PE,bD] at h
     have e:jm neg n d=decide (Nat.gcd (ah n) (ah d)=1):=by
      rw [Bool.eq_iff_iff,mD]
      simp [a,b,j,l]
     rw [e];exact h
theorem iT (neg:Bool) (n d:List UInt8) (g:n.length<2^33) (f:d.length<2^33):CO 105 [.agg [.bool neg,.str n,.str d]] (.ret (.bool (iW neg n d))):=by
 have b:=ru neg n d g f
 have c:=KR n (by omega)
 have e:=KR d (by omega)
 unfold iW
 cases a:jm neg n d with
 |false=>exact ak6 neg n d (by rw [a];rfl) b
 | true=>
  by_cases h3:fK (ah n)≤400
  ·have h:=ak4 neg n d (by rw [dD,decide_eq_true h3];rfl) (by rw [a];rfl) b c e
   rw [dD] at h
   rw [decide_eq_true h3]
   exact h
  ·have h:=ak5 neg n d (by rw [dD,decide_eq_false h3];rfl) (by rw [a];rfl) b c
   rw [decide_eq_false h3]
   exact h
structure RQ where
 neg:Bool
 n:Nat
 d:Nat
def RQ.ok (q:RQ):Prop:=0<q.d∧Nat.gcd q.n q.d=1∧(q.neg=true→0<q.n)
def qA (q:RQ):AV:= .agg [.bool q.neg,.str (ag q.n),.str (ag q.d)]
def q0:RQ:=⟨false,0,1⟩
def wQ (neg:Bool) (n d:Nat):RQ:=⟨neg && decide (0<n),n / Nat.gcd n d,d / Nat.gcd n d⟩
def vQ (neg:Bool) (n d:List UInt8):RQ:=if jm neg n d=true then ⟨neg,ah n,ah d⟩ else q0
theorem Np (q:RQ) (h:q.ok):jm q.neg (ag q.n) (ag q.d)=true:=by
 rw [mD,bD,bD]
 exact ⟨Ba _,Ba _,h⟩
theorem XE {neg:Bool} {n d:List UInt8} (h:jm neg n d=true):AV.agg [.bool neg,.str n,.str d]=qA ⟨neg,ah n,ah d⟩:=by
 obtain ⟨b,a,_⟩:=mD.1 h
 unfold qA
 rw [(qY n).1 b,(qY d).1 a]
theorem O3 {neg:Bool} {n d:Nat} (h:0<d):(wQ neg n d).ok:=by
 have a:0<Nat.gcd n d:=Nat.gcd_pos_of_pos_right _ h
 refine ⟨Nat.div_pos (Nat.gcd_le_right _ h) a, ?_, ?_⟩
 ·show Nat.gcd (n / Nat.gcd n d) (d / Nat.gcd n d)=1
  rw [Nat.gcd_div (Nat.gcd_dvd_left _ _) (Nat.gcd_dvd_right _ _),Nat.div_self a]
 ·intro b
  have:0<n:=by simp [wQ] at b;exact b.2
  exact Nat.div_pos (Nat.gcd_le_left _ this) a
theorem bU (neg:Bool) (n d:List UInt8) (e:n.length<2^33) (c:d.length<2^33):CO 70 [.agg [.bool neg,.str n,.str d]] (.ret (qA (vQ neg n d))):=by
 have b:=ru neg n d e c
 unfold vQ
 cases a:jm neg n d with
 |false=>
  have h:=alj neg n d (by rw [a];rfl) b (dm 1 (by omega))
  rw [if_neg (by simp)]
  unfold qA q0
  rw [h_];exact h
 |true=>
  have h:=alk neg n d (by rw [a];rfl) b
  rw [if_pos rfl,← XE a]
  exact h
theorem dO (neg:Bool) (n d:Nat) (g:(ag n).length<2^33) (e:(ag d).length<2^33) (h0:0<d):CO 51 [.bool neg,.str (ag n),.str (ag d)] (.ret (qA (wQ neg n d))):=by
 have f:=Py (ag n) (ag d) g e
 rw [bD,bD] at f
 have a:0<Nat.gcd n d:=Nat.gcd_pos_of_pos_right _ h0
 have j:(ag (Nat.gcd n d)).length≤(ag d).length:=lD (by rw [bD];exact Nat.gcd_le_right _ h0)
 have i:=rJ (ag n) (ag (Nat.gcd n d)) g (by omega) (by rw [bD];exact a)
 have c:=rJ (ag d) (ag (Nat.gcd n d)) e (by omega) (by rw [bD];exact a)
 simp only [bD] at i c
 rcases Nat.eq_zero_or_pos n with rfl|hp
 ·have h:=ak7 neg (ag 0) (ag d) 0 (by rw [h_];rfl) (dm 1 (by omega))
  unfold qA wQ
  simp only [Nat.lt_irrefl,decide_false,Bool.and_false,Nat.gcd_zero_left,Nat.zero_div,Nat.div_self h0,h_]
  rw [h_] at h
  exact h
 ·have b:ag n ≠ []:=fun h=>by have:=kF.1 h;omega
  have h:=ak8 neg (ag n) (ag d) (Nat.gcd n d) (by simp [lit,b])
  simp only [bD] at h
  unfold qA wQ
  simp only [hp,decide_true,Bool.and_true]
  exact h f i c
def ac6 (q:RQ):Int:=if q.n=0 then 0 else if q.neg then -1 else 1
theorem ac5 (neg:Bool) (n d:List UInt8):fV neg n d=ac6 (vQ neg n d):=by
 unfold fV ac6 vQ
 cases b:jm neg n d with
 |false=>simp [q0]
 | true=>
  simp only [true_and,if_true]
  by_cases h:0<ah n
  ·have a:¬ ah n=0:=by omega
   simp [h,a]
  ·have a:ah n=0:=by omega
   simp [a]
theorem fM (neg:Bool) (n d:List UInt8) (g:n.length<2^33) (f:d.length<2^33):CO 45 [.agg [.bool neg,.str n,.str d]] (.ret (.int .i64 (fV neg n d))):=by
 have b:=bU neg n d g f
 rw [ac5]
 generalize vQ neg n d=q at*
 obtain ⟨e,N,D⟩:=q
 unfold qA at b
 unfold ac6
 simp only at b ⊢
 rcases Nat.eq_zero_or_pos N with rfl|hp
 ·rw [if_pos rfl]
  exact alg neg e n d (ag 0) (ag D) (by rw [h_];rfl) b
 ·have c:ag N ≠ []:=fun h=>by have:=kF.1 h;omega
  have a:(ag N== [])=false:=by simpa using c
  rw [if_neg (by omega)]
  cases e with
  |true=>exact alh neg true n d (ag N) (ag D) rfl (by rw [a];rfl) b
  |false=>exact ali neg false n d (ag N) (ag D) rfl (by rw [a];rfl) b
def sQ (neg:Bool) (n d:List UInt8) (a:Nat):Bool:=((neg==false) && ((n==(ag a)) && ((d==(ag 1)) && true)))
theorem yl (a:Nat) (b:a<9223372036854775808):CO 36 [.int .i64 (a:Int)] (.ret (NU false a 1)):=
 ak9 (a:Int) 0 a (by simp [lit]) (dm a b) (dm 1 (by omega))
theorem aad:CO 36 [.int .i64 0] (.ret (NU false 0 1)):=yl 0 (by omega)
theorem ak_:CO 36 [.int .i64 1] (.ret (NU false 1 1)):=yl 1 (by omega)
def P8:List UInt8:= [97,98,99,100,101,102,103,104,105,106,107,108,109,110,111,112,113,114,115,116,117,118,119,120,121,122,48,49,50,51,52,53,54,55,56,57,95]
def Hw:List AV:= [.bool false,.bool false,.bool false,.bool false,.bool false,.bool false,.bool false,.bool false,.bool false,.bool false,.bool false,.bool false,.bool false,.bool false,.bool false,.bool false,.bool false,.bool false,.bool false,.bool false,.bool false,.bool false,.bool false,.bool false,.bool false,.bool false,.bool false,.bool false,.bool false,.bool false,.bool false,.bool false,.bool false,.bool false,.bool false,.bool false,.bool false,.bool false,.bool false,.bool false,.bool false,.bool false,.bool false,.bool false,.bool false,.bool false,.bool false,.bool false,.bool true,.bool true,.bool true,.bool true,.bool true,.bool true,.bool true,.bool true,.bool true,.bool true,.bool false,.bool false,.bool false,.bool false,.bool false,.bool false,.bool false,.bool false,.bool false,.bool false,.bool false,.bool false,.bool false,.bool false,.bool false,.bool false,.bool false,.bool false,.bool false,.bool false,.bool false,.bool false,.bool false,.bool false,.bool false,.bool false,.bool false,.bool false,.bool false,.bool false,.bool false,.bool false,.bool false,.bool false,.bool false,.bool false,.bool false,.bool true,.bool false,.bool true,.bool true,.bool true,.bool true,.bool true,.bool true,.bool true,.bool true,.bool true,.bool true,.bool true,.bool true,.bool true,.bool true,.bool true,.bool true,.bool true,.bool true,.bool true,.bool true,.bool true,.bool true,.bool true,.bool true,.bool true,.bool true,.bool false,.bool false,.bool false,.bool false,.bool false,.bool false,.bool false,.bool false,.bool false,.bool false,.bool false,.bool false,.bool false,.bool false,.bool false,.bool false,.bool false,.bool false,.bool false,.bool false,.bool false,.bool false,.bool false,.bool false,.bool false,.bool false,.bool false,.bool false,.bool false,.bool false,.bool false,.bool false,.bool false,.bool false,.bool false,.bool false,.bool false,.bool false,.bool false,.bool false,.bool false,.bool false,.bool false,.bool false,.bool false,.bool false,.bool false,.bool false,.bool false,.bool false,.bool false,.bool false,.bool false,.bool false,.bool false,.bool false,.bool false,.bool false,.bool false,.bool false,.bool false,.bool false,.bool false,.bool false,.bool false,.bool false,.bool false,.bool false,.bool false,.bool false,.bool false,.bool false,.bool false,.bool false,.bool false,.bool false,.bool false,.bool false,.bool false,.bool false,.bool false,.bool false,.bool false,.bool false,.bool false,.bool false,.bool false,.bool false,.bool false,.bool false,.bool false,.bool false,.bool false,.bool false,.bool false,.bool false,.bool false,.bool false,.bool false,.bool false,.bool false,.bool false,.bool false,.bool false,.bool false,.bool false,.bool false,.bool false,.bool false,.bool false,.bool false,.bool false,.bool false,.bool false,.bool false,.bool false,.bool false,.bool false,.bool false,.bool false,.bool false,.bool false,.bool false,.bool false,.bool false,.bool false,.bool false,.bool false,.bool false,.bool false,.bool false,.bool false,.bool false]
theorem aaK:CO 143 [.str P8] (.ret (.tup [.agg Hw,.bool true])):=FX Io (lf:=3000) (n:=4) (ans:= []) .nil (by kernel_rfl)
theorem ai8 (a:List AV) (c:Nat) (h0:(gV .bool (List.headD (List.drop (0+((Int.toNat (c:Int))*1)) a) .dead))=true) (d:(decide (((0:Nat):Int)≤(c:Int)))=true) (b:(decide ((c:Int)<((256:Nat):Int)))=true):CO 166 [.pp a 0,.int .u8 (c:Int)] (.ret (.bool (AV.toBool (List.headD (List.drop (0+((Int.toNat (c:Int))*1)) a) .dead)))):=pK [] 0 0 (.c h0 (.c d (.c b .nil))) (.nil)
theorem aui {nt:Nat} (e:16≤nt) (s:List UInt8) (a:List AV) (b:Bool) (h0:lit true (!b)=true) (f:(decide (((0:Nat):Int)<(((List.length s):Nat):Int)))=true) (c:lit true (decide (((0:Nat):Int)<(((List.length s):Nat):Int)))=true) (d:CO 166 [.pp a 0,.int .u8 ((UInt8.toNat (List.getD s 0 0):Nat):Int)] (.ret (.bool b))):aj prog ap [] nt (ae 0 (af f144)) ⟨[(0,.str s),(1,.pp a 0)],[],.dead,[]⟩ (.exit 0) ⟨[(0,.str s)],[],.dead,[]⟩:=pJ 144 [] 2 3 (.c h0 (.k 1 f (.c c .nil))) (.c d .nil) e
theorem auj {nt:Nat} (f:16≤nt) (s:List UInt8) (a:List AV) (b:Bool) (h0:(decide (((1:Nat):Int)≤(((List.length s):Nat):Int)))=true) (g:(decide ((((List.length s):Nat):Int)≤(((List.length s):Nat):Int)))=true) (c:lit false (!b)=true) (d:(decide (((0:Nat):Int)<(((List.length s):Nat):Int)))=true) (h:lit true (decide (((0:Nat):Int)<(((List.length s):Nat):Int)))=true) (e:CO 166 [.pp a 0,.int .u8 ((UInt8.toNat (List.getD s 0 0):Nat):Int)] (.ret (.bool b))):aj prog ap [] nt (ae 0 (af f144)) ⟨[(0,.str s),(1,.pp a 0)],[],.dead,[]⟩ (.normal) ⟨[(0,.str (List.drop 1 (List.take (Int.toNat (((List.length s):Nat):Int)) s))),(1,.pp a 0)],[],.dead,[]⟩:=pJ 144 [] 2 1 (.k 1 h0 (.c g (.c c (.k 1 d (.c h .nil))))) (.c e .nil) f
theorem auk {nt:Nat} (c:16≤nt) (s:List UInt8) (a:List AV) (b:Bool) (h0:lit false (decide (((0:Nat):Int)<(((List.length s):Nat):Int)))=true):aj prog ap [] nt (ae 0 (af f144)) ⟨[(0,.str s),(1,.pp a 0)],[],.dead,[]⟩ (.exit 0) ⟨[(0,.str s)],[],.dead,[]⟩:=pJ 144 [] 1 0 (.c h0 .nil) (.nil) c
theorem am1 (s r:List UInt8) (a:List AV) (b:aH prog ap [] 16 (.block 0 (.loop (ae 0 (af f144)))) ⟨[(0,.str s),(1,.pp a 0),(4,.str []),(7,.dead),(12,.dead)],[],.dead,[]⟩ (.normal) ⟨[(0,.str r)],[],.dead,[]⟩):CO 144 [.str s,.pp a 0] (.ret (.str r)):=pK [0] 0 0 .nil (.l b .nil)
theorem aul {nt:Nat} (f:22≤nt) (s:List UInt8) (a:List AV) (b:Bool) (h0:lit true (!b)=true) (g:(decide (((0:Nat):Int)≤(IntKind.wrap .i64 ((((List.length s):Nat):Int) - ((1:Nat):Int)))))=true) (c:(decide ((IntKind.wrap .i64 ((((List.length s):Nat):Int) - ((1:Nat):Int)))<(((List.length s):Nat):Int)))=true) (d:lit true (decide (((0:Nat):Int)<(((List.length s):Nat):Int)))=true) (e:CO 166 [.pp a 0,.int .u8 ((UInt8.toNat (List.getD s (Int.toNat (IntKind.wrap .i64 ((((List.length s):Nat):Int) - ((1:Nat):Int)))) 0):Nat):Int)] (.ret (.bool b))):aj prog ap [] nt (ae 0 (af f145)) ⟨[(0,.str s),(1,.pp a 0)],[],.dead,[]⟩ (.exit 0) ⟨[(0,.str s)],[],.dead,[]⟩:=pJ 145 [] 2 3 (.c h0 (.c g (.c c (.c d .nil)))) (.c e .nil) f
theorem aum {nt:Nat} (f:22≤nt) (s:List UInt8) (a:List AV) (b:Bool) (h0:(decide (((0:Nat):Int)≤(IntKind.wrap .i64 ((((List.length s):Nat):Int) - ((1:Nat):Int)))))=true) (g:(decide ((IntKind.wrap .i64 ((((List.length s):Nat):Int) - ((1:Nat):Int)))≤(((List.length s):Nat):Int)))=true) (c:lit false (!b)=true) (d:(decide ((IntKind.wrap .i64 ((((List.length s):Nat):Int) - ((1:Nat):Int)))<(((List.length s):Nat):Int)))=true) (h:lit true (decide (((0:Nat):Int)<(((List.length s):Nat):Int)))=true) (e:CO 166 [.pp a 0,.int .u8 ((UInt8.toNat (List.getD s (Int.toNat (IntKind.wrap .i64 ((((List.length s):Nat):Int) - ((1:Nat):Int)))) 0):Nat):Int)] (.ret (.bool b))):aj prog ap [] nt (ae 0 (af f145)) ⟨[(0,.str s),(1,.pp a 0)],[],.dead,[]⟩ (.normal) ⟨[(0,.str (List.drop 0 (List.take (Int.toNat (IntKind.wrap .i64 ((((List.length s):Nat):Int) - ((1:Nat):Int)))) s))),(1,.pp a 0)],[],.dead,[]⟩:=pJ 145 [] 2 1 (.k 1 h0 (.c g (.c c (.c h0 (.c d (.c h .nil)))))) (.c e .nil) f
theorem aun {nt:Nat} (c:22≤nt) (s:List UInt8) (a:List AV) (b:Bool) (h0:lit false (decide (((0:Nat):Int)<(((List.length s):Nat):Int)))=true):aj prog ap [] nt (ae 0 (af f145)) ⟨[(0,.str s),(1,.pp a 0)],[],.dead,[]⟩ (.exit 0) ⟨[(0,.str s)],[],.dead,[]⟩:=pJ 145 [] 1 0 (.c h0 .nil) (.nil) c
theorem am4 (s r:List UInt8) (a:List AV) (b:aH prog ap [] 22 (.block 0 (.loop (ae 0 (af f145)))) ⟨[(0,.str s),(1,.pp a 0),(4,.str []),(7,.dead),(15,.dead)],[],.dead,[]⟩ (.normal) ⟨[(0,.str r)],[],.dead,[]⟩):CO 145 [.str s,.pp a 0] (.ret (.str r)):=pK [0] 0 0 .nil (.l b .nil)
def aaI:List Bool:= [false,false,false,false,false,false,false,false,false,false,false,false,false,false,false,false,false,false,false,false,false,false,false,false,false,false,false,false,false,false,false,false,false,false,false,false,false,false,false,false,false,false,false,false,false,false,false,false,true,true,true,true,true,true,true,true,true,true,false,false,false,false,false,false,false,false,false,false,false,false,false,false,false,false,false,false,false,false,false,false,false,false,false,false,false,false,false,false,false,false,false,false,false,false,false,true,false,true,true,true,true,true,true,true,true,true,true,true,true,true,true,true,true,true,true,true,true,true,true,true,true,true,true,false,false,false,false,false,false,false,false,false,false,false,false,false,false,false,false,false,false,false,false,false,false,false,false,false,false,false,false,false,false,false,false,false,false,false,false,false,false,false,false,false,false,false,false,false,false,false,false,false,false,false,false,false,false,false,false,false,false,false,false,false,false,false,false,false,false,false,false,false,false,false,false,false,false,false,false,false,false,false,false,false,false,false,false,false,false,false,false,false,false,false,false,false,false,false,false,false,false,false,false,false,false,false,false,false,false,false,false,false,false,false,false,false,false,false,false,false,false,false,false,false,false,false,false,false,false,false,false,false,false,false,false,false]
theorem aaJ:Hw=aaI.map AV.bool:=rfl
def inN (c:Nat):Bool:=(decide (97≤c) && decide (c≤122))||(decide (48≤c) && decide (c≤57))||decide (c=95)
def iJ (c:UInt8):Bool:=inN c.toNat
theorem WS:∀ i:Fin 256,aaI.getD i.val false=inN i.val:=by decide
theorem TE (c:UInt8):CO 166 [.pp Hw 0,.int .u8 (c.toNat:Int)] (.ret (.bool (iJ c))):=by
 have b:c.toNat<256:=UInt8.toNat_lt c
 have e:aaI.length=256:=by decide
 have d:List.headD (List.drop c.toNat Hw) .dead= .bool (iJ c):=by
  have a:=WS ⟨c.toNat,b⟩
  simp only at a
  rw [aaJ,← List.map_drop,List.drop_eq_getElem_cons (by omega),List.map_cons,List.headD_cons]
  rw [List.getD_eq_getElem?_getD,List.getElem?_eq_getElem (by omega)] at a
  unfold iJ
  rw [← a];rfl
 have h:=ai8 Hw c.toNat
 rw [aA,Nat.zero_add,Nat.mul_one,d] at h
 exact h rfl (by rw [dD];exact decide_eq_true (by omega)) (by rw [aY];exact decide_eq_true b)
def amw (s:List UInt8):St:=⟨[(0,.str s),(1,.pp Hw 0)],[],.dead,[]⟩
def aai (s:List UInt8):St:=⟨[(0,.str s)],[],.dead,[]⟩
theorem Ze {nt:Nat} (a:16≤nt):∀ (s:List UInt8),s.length<2^40→aF prog ap [] nt (ae 0 (af f144)) (fun _=> .exit 0) amw aai s (s.dropWhile iJ):=by
 intro s
 induction s with
 |nil=>exact fun _=> .done (auk a [] Hw true rfl)
 | cons c s ih=>
  intro e
  simp only [List.length_cons] at e
  rw [List.dropWhile_cons]
  have d:=TE c
  cases b:iJ c with
  |true=>
   rw [b] at d
   refine .next ?_ (by simpa using ih (by omega))
   have h:=auj a (c::s) Hw true
   have f:List.drop 1 (List.take (s.length+1) (c::s))=s:=by simp
   simp only [List.length_cons,List.getD_cons_zero] at h
   simp (disch:=first|omega|(simp [ak,ay]<;>omega)) only [dD,bu,Bool.not_true,dM,Bool.not_false,aY,bG,aA,f] at h
   apply h<;>first|exact True.intro|omega|assumption|exact rfl
  |false=>
   rw [b] at d
   refine .done ?_
   have h:=aui a (c::s) Hw false
   simp only [List.length_cons,List.getD_cons_zero] at h
   simp (disch:=first|omega|(simp [ak,ay]<;>omega)) only [Bool.not_false,bG,aY,bu] at h
   apply h<;>first|exact True.intro|omega|assumption|exact rfl
def VV (s:List UInt8):List UInt8:=(s.reverse.dropWhile iJ).reverse
theorem VW (s:List UInt8) (c:UInt8):VV (s++ [c])=if iJ c=true then VV s else s++ [c]:=by
 unfold VV
 rw [List.reverse_append]
 simp only [List.reverse_cons,List.reverse_nil,List.nil_append,List.singleton_append,List.dropWhile_cons]
 by_cases h:iJ c=true
 ·simp [h]
 ·simp [h]
theorem Zk {nt:Nat} (b:22≤nt):∀ (k:Nat) (s:List UInt8),s.length=k→k<2^40→aF prog ap [] nt (ae 0 (af f145)) (fun _=> .exit 0) amw aai s (VV s):=by
 intro k
 induction k with
 |zero=>
  intro s hs _
  have:s= []:=List.eq_nil_of_length_eq_zero hs
  subst this
  exact .done (aun b [] Hw true rfl)
 | succ k ih=>
  intro s hs j
  rcases List.eq_nil_or_concat s with rfl|⟨s',c,rfl⟩
  ·simp at hs
  ·rw [List.concat_eq_append] at hs ⊢
   have d:s'.length=k:=by simpa using hs
   rw [VW]
   have i:=TE c
   have g:(s'++ [c]).getD s'.length 0=c:=by simp
   have e:s'.length+1 - 1=s'.length:=rfl
   have a:List.take s'.length (s'++ [c])=s':=by simp
   cases f:iJ c with
   |true=>
    rw [f] at i
    rw [if_pos rfl]
    refine .next ?_ (ih s' d (by omega))
    have h:=aum b (s'++ [c]) Hw true
    simp (disch:=first|omega|(simp [ak,ay]<;>omega)) only [List.length_append,List.length_cons,List.length_nil,Nat.zero_add,jV,e,dD,bu,Bool.not_true,dM,Bool.not_false,aY,bG,aA,g,a,List.drop_zero] at h
    apply h<;>first|exact True.intro|omega|assumption|exact rfl
   |false=>
    rw [f] at i
    rw [if_neg (by simp)]
    refine .done ?_
    have h:=aul b (s'++ [c]) Hw false
    simp (disch:=first|omega|(simp [ak,ay]<;>omega)) only [Bool.not_false,bG,List.length_append,List.length_cons,List.length_nil,Nat.zero_add,jV,e,dD,bu,aY,aA,g] at h
    apply h<;>first|exact True.intro|omega|assumption|exact rfl
theorem Zl (s u v:List UInt8) (h0:lit true (s== [])=true):CO 117 [.str s,.str P8] (.ret (.str s)):=pK [] 2 3 (.k 1 h0 .nil) (.nil)
theorem Zm (s u v:List UInt8) (h0:lit false (s== [])=true) (a:CO 143 [.str P8] (.ret (.tup [.agg Hw,.bool true]))) (c:CO 145 [.str s,.pp Hw 0] (.ret (.str u))) (b:CO 144 [.str u,.pp Hw 0] (.ret (.str v))):CO 117 [.str s,.str P8] (.ret (.str v)):=pK [] 5 16 (.k 5 h0 .nil) (.c b (.c c (.c a .nil)))
theorem Yd (s v:List UInt8) (h0:lit true (s== [])=true):CO 86 [.str s] (.ret (.bool false)):=pK [] 4 15 (.k 3 h0 .nil) (.nil)
theorem Ye (s v:List UInt8) (h0:lit true (decide (((20:Nat):Int)<(((List.length s):Nat):Int)))=true) (a:lit false (s== [])=true):CO 86 [.str s] (.ret (.bool false)):=pK [] 4 14 (.k 2 h0 (.c a .nil)) (.nil)
theorem Yf (s v:List UInt8) (h0:lit true (decide (((UInt8.toNat (List.getD s 0 0):Nat):Int)<((97:Nat):Int)))=true) (c:(decide (((0:Nat):Int)<(((List.length s):Nat):Int)))=true) (a:lit false (decide (((20:Nat):Int)<(((List.length s):Nat):Int)))=true) (b:lit false (s== [])=true):CO 86 [.str s] (.ret (.bool false)):=pK [] 4 12 (.k 1 h0 (.k 1 c (.c a (.c b .nil)))) (.nil)
theorem Yg (s v:List UInt8) (h0:lit true (decide (((122:Nat):Int)<((UInt8.toNat (List.getD s 0 0):Nat):Int)))=true) (a:(decide (((0:Nat):Int)<(((List.length s):Nat):Int)))=true) (b:lit false (decide (((UInt8.toNat (List.getD s 0 0):Nat):Int)<((97:Nat):Int)))=true) (c:lit false (decide (((20:Nat):Int)<(((List.length s):Nat):Int)))=true) (d:lit false (s== [])=true):CO 86 [.str s] (.ret (.bool false)):=pK [] 4 8 (.c h0 (.k 1 a (.c b (.k 1 a (.c c (.c d .nil)))))) (.nil)
theorem Yh (s v:List UInt8) (h0:lit false (decide (((122:Nat):Int)<((UInt8.toNat (List.getD s 0 0):Nat):Int)))=true) (a:(decide (((0:Nat):Int)<(((List.length s):Nat):Int)))=true) (b:lit false (decide (((UInt8.toNat (List.getD s 0 0):Nat):Int)<((97:Nat):Int)))=true) (c:lit false (decide (((20:Nat):Int)<(((List.length s):Nat):Int)))=true) (e:lit false (s== [])=true) (d:CO 117 [.str s,.str P8] (.ret (.str v))):CO 86 [.str s] (.ret (.bool (v== []))):=pK [] 4 0 (.c h0 (.k 1 a (.c b (.k 1 a (.c c (.c e .nil)))))) (.c d .nil)
theorem alN {nt:Nat} (c:50≤nt) (s:List UInt8) (k:Nat) (h0:lit true (!(((UInt8.toNat (List.getD s (Int.toNat (k:Int)) 0):Nat):Int)==((95:Nat):Int)))=true) (d:lit true (decide (((UInt8.toNat (List.getD s (Int.toNat (k:Int)) 0):Nat):Int)<((48:Nat):Int)))=true) (a:lit true (decide (((UInt8.toNat (List.getD s (Int.toNat (k:Int)) 0):Nat):Int)<((97:Nat):Int)))=true) (b:(decide (((0:Nat):Int)≤(k:Int)))=true) (e:(decide ((k:Int)<(((List.length s):Nat):Int)))=true) (f:lit true (decide ((k:Int)<(((List.length s):Nat):Int)))=true):aj prog ap [] nt (ae 0 (af f75)) ⟨[(0,.str s),(3,.int .i64 (k:Int))],[],.dead,[]⟩ (.ret) ⟨[(2,.bool false)],[],.dead,[]⟩:=pJ 75 [] 6 63 (.c h0 (.k 1 d (.k 1 a (.c b (.c e (.c f .nil)))))) (.nil) c
theorem alO {nt:Nat} (c:50≤nt) (s:List UInt8) (k:Nat) (h0:lit false (!(((UInt8.toNat (List.getD s (Int.toNat (k:Int)) 0):Nat):Int)==((95:Nat):Int)))=true) (d:lit true (decide (((UInt8.toNat (List.getD s (Int.toNat (k:Int)) 0):Nat):Int)<((48:Nat):Int)))=true) (a:lit true (decide (((UInt8.toNat (List.getD s (Int.toNat (k:Int)) 0):Nat):Int)<((97:Nat):Int)))=true) (b:(decide (((0:Nat):Int)≤(k:Int)))=true) (e:(decide ((k:Int)<(((List.length s):Nat):Int)))=true) (f:lit true (decide ((k:Int)<(((List.length s):Nat):Int)))=true):aj prog ap [] nt (ae 0 (af f75)) ⟨[(0,.str s),(3,.int .i64 (k:Int))],[],.dead,[]⟩ (.normal) ⟨[(0,.str s),(3,.int .i64 (IntKind.wrap .i64 ((k:Int)+((1:Nat):Int))))],[],.dead,[]⟩:=pJ 75 [] 6 31 (.c h0 (.k 1 d (.k 1 a (.c b (.c e (.c f .nil)))))) (.nil) c
theorem alP {nt:Nat} (d:50≤nt) (s:List UInt8) (k:Nat) (h0:lit true (!(((UInt8.toNat (List.getD s (Int.toNat (k:Int)) 0):Nat):Int)==((95:Nat):Int)))=true) (e:lit true (decide (((57:Nat):Int)<((UInt8.toNat (List.getD s (Int.toNat (k:Int)) 0):Nat):Int)))=true) (a:lit false (decide (((UInt8.toNat (List.getD s (Int.toNat (k:Int)) 0):Nat):Int)<((48:Nat):Int)))=true) (b:lit true (decide (((UInt8.toNat (List.getD s (Int.toNat (k:Int)) 0):Nat):Int)<((97:Nat):Int)))=true) (f:(decide (((0:Nat):Int)≤(k:Int)))=true) (g:(decide ((k:Int)<(((List.length s):Nat):Int)))=true) (c:lit true (decide ((k:Int)<(((List.length s):Nat):Int)))=true):aj prog ap [] nt (ae 0 (af f75)) ⟨[(0,.str s),(3,.int .i64 (k:Int))],[],.dead,[]⟩ (.ret) ⟨[(2,.bool false)],[],.dead,[]⟩:=pJ 75 [] 6 55 (.c h0 (.c e (.c a (.k 1 b (.c f (.c g (.c c .nil))))))) (.nil) d
theorem alQ {nt:Nat} (d:50≤nt) (s:List UInt8) (k:Nat) (h0:lit false (!(((UInt8.toNat (List.getD s (Int.toNat (k:Int)) 0):Nat):Int)==((95:Nat):Int)))=true) (e:lit true (decide (((57:Nat):Int)<((UInt8.toNat (List.getD s (Int.toNat (k:Int)) 0):Nat):Int)))=true) (a:lit false (decide (((UInt8.toNat (List.getD s (Int.toNat (k:Int)) 0):Nat):Int)<((48:Nat):Int)))=true) (b:lit true (decide (((UInt8.toNat (List.getD s (Int.toNat (k:Int)) 0):Nat):Int)<((97:Nat):Int)))=true) (f:(decide (((0:Nat):Int)≤(k:Int)))=true) (g:(decide ((k:Int)<(((List.length s):Nat):Int)))=true) (c:lit true (decide ((k:Int)<(((List.length s):Nat):Int)))=true):aj prog ap [] nt (ae 0 (af f75)) ⟨[(0,.str s),(3,.int .i64 (k:Int))],[],.dead,[]⟩ (.normal) ⟨[(0,.str s),(3,.int .i64 (IntKind.wrap .i64 ((k:Int)+((1:Nat):Int))))],[],.dead,[]⟩:=pJ 75 [] 6 23 (.c h0 (.c e (.c a (.k 1 b (.c f (.c g (.c c .nil))))))) (.nil) d
theorem alR {nt:Nat} (c:50≤nt) (s:List UInt8) (k:Nat) (h0:lit false (decide (((57:Nat):Int)<((UInt8.toNat (List.getD s (Int.toNat (k:Int)) 0):Nat):Int)))=true) (d:lit false (decide (((UInt8.toNat (List.getD s (Int.toNat (k:Int)) 0):Nat):Int)<((48:Nat):Int)))=true) (a:lit true (decide (((UInt8.toNat (List.getD s (Int.toNat (k:Int)) 0):Nat):Int)<((97:Nat):Int)))=true) (b:(decide (((0:Nat):Int)≤(k:Int)))=true) (e:(decide ((k:Int)<(((List.length s):Nat):Int)))=true) (f:lit true (decide ((k:Int)<(((List.length s):Nat):Int)))=true):aj prog ap [] nt (ae 0 (af f75)) ⟨[(0,.str s),(3,.int .i64 (k:Int))],[],.dead,[]⟩ (.normal) ⟨[(0,.str s),(3,.int .i64 (IntKind.wrap .i64 ((k:Int)+((1:Nat):Int))))],[],.dead,[]⟩:=pJ 75 [] 6 7 (.k 1 h0 (.c d (.k 1 a (.c b (.c e (.c f .nil)))))) (.nil) c
theorem alS {nt:Nat} (d:50≤nt) (s:List UInt8) (k:Nat) (h0:lit true (!(((UInt8.toNat (List.getD s (Int.toNat (k:Int)) 0):Nat):Int)==((95:Nat):Int)))=true) (e:lit true (decide (((UInt8.toNat (List.getD s (Int.toNat (k:Int)) 0):Nat):Int)<((48:Nat):Int)))=true) (a:lit true (decide (((122:Nat):Int)<((UInt8.toNat (List.getD s (Int.toNat (k:Int)) 0):Nat):Int)))=true) (b:lit false (decide (((UInt8.toNat (List.getD s (Int.toNat (k:Int)) 0):Nat):Int)<((97:Nat):Int)))=true) (f:(decide (((0:Nat):Int)≤(k:Int)))=true) (g:(decide ((k:Int)<(((List.length s):Nat):Int)))=true) (c:lit true (decide ((k:Int)<(((List.length s):Nat):Int)))=true):aj prog ap [] nt (ae 0 (af f75)) ⟨[(0,.str s),(3,.int .i64 (k:Int))],[],.dead,[]⟩ (.ret) ⟨[(2,.bool false)],[],.dead,[]⟩:=pJ 75 [] 6 61 (.c h0 (.k 1 e (.c a (.c b (.c f (.c g (.c c .nil))))))) (.nil) d
theorem alT {nt:Nat} (d:50≤nt) (s:List UInt8) (k:Nat) (h0:lit false (!(((UInt8.toNat (List.getD s (Int.toNat (k:Int)) 0):Nat):Int)==((95:Nat):Int)))=true) (e:lit true (decide (((UInt8.toNat (List.getD s (Int.toNat (k:Int)) 0):Nat):Int)<((48:Nat):Int)))=true) (a:lit true (decide (((122:Nat):Int)<((UInt8.toNat (List.getD s (Int.toNat (k:Int)) 0):Nat):Int)))=true) (b:lit false (decide (((UInt8.toNat (List.getD s (Int.toNat (k:Int)) 0):Nat):Int)<((97:Nat):Int)))=true) (f:(decide (((0:Nat):Int)≤(k:Int)))=true) (g:(decide ((k:Int)<(((List.length s):Nat):Int)))=true) (c:lit true (decide ((k:Int)<(((List.length s):Nat):Int)))=true):aj prog ap [] nt (ae 0 (af f75)) ⟨[(0,.str s),(3,.int .i64 (k:Int))],[],.dead,[]⟩ (.normal) ⟨[(0,.str s),(3,.int .i64 (IntKind.wrap .i64 ((k:Int)+((1:Nat):Int))))],[],.dead,[]⟩:=pJ 75 [] 6 29 (.c h0 (.k 1 e (.c a (.c b (.c f (.c g (.c c .nil))))))) (.nil) d
theorem alU {nt:Nat} (e:50≤nt) (s:List UInt8) (k:Nat) (h0:lit true (!(((UInt8.toNat (List.getD s (Int.toNat (k:Int)) 0):Nat):Int)==((95:Nat):Int)))=true) (f:lit true (decide (((57:Nat):Int)<((UInt8.toNat (List.getD s (Int.toNat (k:Int)) 0):Nat):Int)))=true) (a:lit false (decide (((UInt8.toNat (List.getD s (Int.toNat (k:Int)) 0):Nat):Int)<((48:Nat):Int)))=true) (b:lit true (decide (((122:Nat):Int)<((UInt8.toNat (List.getD s (Int.toNat (k:Int)) 0):Nat):Int)))=true) (g:lit false (decide (((UInt8.toNat (List.getD s (Int.toNat (k:Int)) 0):Nat):Int)<((97:Nat):Int)))=true) (h:(decide (((0:Nat):Int)≤(k:Int)))=true) (d:(decide ((k:Int)<(((List.length s):Nat):Int)))=true) (c:lit true (decide ((k:Int)<(((List.length s):Nat):Int)))=true):aj prog ap [] nt (ae 0 (af f75)) ⟨[(0,.str s),(3,.int .i64 (k:Int))],[],.dead,[]⟩ (.ret) ⟨[(2,.bool false)],[],.dead,[]⟩:=pJ 75 [] 6 53 (.c h0 (.c f (.c a (.c b (.c g (.c h (.c d (.c c .nil)))))))) (.nil) e
theorem alV {nt:Nat} (e:50≤nt) (s:List UInt8) (k:Nat) (h0:lit false (!(((UInt8.toNat (List.getD s (Int.toNat (k:Int)) 0):Nat):Int)==((95:Nat):Int)))=true) (f:lit true (decide (((57:Nat):Int)<((UInt8.toNat (List.getD s (Int.toNat (k:Int)) 0):Nat):Int)))=true) (a:lit false (decide (((UInt8.toNat (List.getD s (Int.toNat (k:Int)) 0):Nat):Int)<((48:Nat):Int)))=true) (b:lit true (decide (((122:Nat):Int)<((UInt8.toNat (List.getD s (Int.toNat (k:Int)) 0):Nat):Int)))=true) (g:lit false (decide (((UInt8.toNat (List.getD s (Int.toNat (k:Int)) 0):Nat):Int)<((97:Nat):Int)))=true) (h:(decide (((0:Nat):Int)≤(k:Int)))=true) (d:(decide ((k:Int)<(((List.length s):Nat):Int)))=true) (c:lit true (decide ((k:Int)<(((List.length s):Nat):Int)))=true):aj prog ap [] nt (ae 0 (af f75)) ⟨[(0,.str s),(3,.int .i64 (k:Int))],[],.dead,[]⟩ (.normal) ⟨[(0,.str s),(3,.int .i64 (IntKind.wrap .i64 ((k:Int)+((1:Nat):Int))))],[],.dead,[]⟩:=pJ 75 [] 6 21 (.c h0 (.c f (.c a (.c b (.c g (.c h (.c d (.c c .nil)))))))) (.nil) e
theorem alW {nt:Nat} (d:50≤nt) (s:List UInt8) (k:Nat) (h0:lit false (decide (((57:Nat):Int)<((UInt8.toNat (List.getD s (Int.toNat (k:Int)) 0):Nat):Int)))=true) (e:lit false (decide (((UInt8.toNat (List.getD s (Int.toNat (k:Int)) 0):Nat):Int)<((48:Nat):Int)))=true) (a:lit true (decide (((122:Nat):Int)<((UInt8.toNat (List.getD s (Int.toNat (k:Int)) 0):Nat):Int)))=true) (b:lit false (decide (((UInt8.toNat (List.getD s (Int.toNat (k:Int)) 0):Nat):Int)<((97:Nat):Int)))=true) (f:(decide (((0:Nat):Int)≤(k:Int)))=true) (g:(decide ((k:Int)<(((List.length s):Nat):Int)))=true) (c:lit true (decide ((k:Int)<(((List.length s):Nat):Int)))=true):aj prog ap [] nt (ae 0 (af f75)) ⟨[(0,.str s),(3,.int .i64 (k:Int))],[],.dead,[]⟩ (.normal) ⟨[(0,.str s),(3,.int .i64 (IntKind.wrap .i64 ((k:Int)+((1:Nat):Int))))],[],.dead,[]⟩:=pJ 75 [] 6 5 (.k 1 h0 (.c e (.c a (.c b (.c f (.c g (.c c .nil))))))) (.nil) d
theorem acF {nt:Nat} (c:50≤nt) (s:List UInt8) (k:Nat) (h0:lit false (decide (((122:Nat):Int)<((UInt8.toNat (List.getD s (Int.toNat (k:Int)) 0):Nat):Int)))=true) (d:lit false (decide (((UInt8.toNat (List.getD s (Int.toNat (k:Int)) 0):Nat):Int)<((97:Nat):Int)))=true) (a:(decide (((0:Nat):Int)≤(k:Int)))=true) (b:(decide ((k:Int)<(((List.length s):Nat):Int)))=true) (e:lit true (decide ((k:Int)<(((List.length s):Nat):Int)))=true):aj prog ap [] nt (ae 0 (af f75)) ⟨[(0,.str s),(3,.int .i64 (k:Int))],[],.dead,[]⟩ (.normal) ⟨[(0,.str s),(3,.int .i64 (IntKind.wrap .i64 ((k:Int)+((1:Nat):Int))))],[],.dead,[]⟩:=pJ 75 [] 5 1 (.k 2 h0 (.c d (.c a (.c b (.c e .nil))))) (.nil) c
theorem acG {nt:Nat} (a:50≤nt) (s:List UInt8) (k:Nat) (h0:lit false (decide ((k:Int)<(((List.length s):Nat):Int)))=true):aj prog ap [] nt (ae 0 (af f75)) ⟨[(0,.str s),(3,.int .i64 (k:Int))],[],.dead,[]⟩ (.exit 0) ⟨[],[],.dead,[]⟩:=pJ 75 [] 1 0 (.c h0 .nil) (.nil) a
theorem acz (s:List UInt8) (h0:lit true (decide ((((List.length s):Nat):Int)<((1:Nat):Int)))=true):CO 75 [.str s] (.ret (.bool false)):=pK [0] 4 15 (.k 3 h0 .nil) (.nil)
theorem acA (s:List UInt8) (h0:lit true (decide (((20:Nat):Int)<(((List.length s):Nat):Int)))=true) (a:lit false (decide ((((List.length s):Nat):Int)<((1:Nat):Int)))=true):CO 75 [.str s] (.ret (.bool false)):=pK [0] 4 14 (.k 2 h0 (.c a .nil)) (.nil)
theorem acB (s:List UInt8) (h0:lit true (decide (((UInt8.toNat (List.getD s 0 0):Nat):Int)<((97:Nat):Int)))=true) (c:(decide (((0:Nat):Int)<(((List.length s):Nat):Int)))=true) (a:lit false (decide (((20:Nat):Int)<(((List.length s):Nat):Int)))=true) (b:lit false (decide ((((List.length s):Nat):Int)<((1:Nat):Int)))=true):CO 75 [.str s] (.ret (.bool false)):=pK [0] 4 12 (.k 1 h0 (.k 1 c (.c a (.c b .nil)))) (.nil)
theorem acC (s:List UInt8) (h0:lit true (decide (((122:Nat):Int)<((UInt8.toNat (List.getD s 0 0):Nat):Int)))=true) (a:(decide (((0:Nat):Int)<(((List.length s):Nat):Int)))=true) (b:lit false (decide (((UInt8.toNat (List.getD s 0 0):Nat):Int)<((97:Nat):Int)))=true) (c:lit false (decide (((20:Nat):Int)<(((List.length s):Nat):Int)))=true) (d:lit false (decide ((((List.length s):Nat):Int)<((1:Nat):Int)))=true):CO 75 [.str s] (.ret (.bool false)):=pK [0] 4 8 (.c h0 (.k 1 a (.c b (.k 1 a (.c c (.c d .nil)))))) (.nil)
theorem acD (s:List UInt8) (h0:lit false (decide (((122:Nat):Int)<((UInt8.toNat (List.getD s 0 0):Nat):Int)))=true) (a:(decide (((0:Nat):Int)<(((List.length s):Nat):Int)))=true) (b:lit false (decide (((UInt8.toNat (List.getD s 0 0):Nat):Int)<((97:Nat):Int)))=true) (c:lit false (decide (((20:Nat):Int)<(((List.length s):Nat):Int)))=true) (d:lit false (decide ((((List.length s):Nat):Int)<((1:Nat):Int)))=true) (e:aH prog ap [] 50 (.block 0 (.loop (ae 0 (af f75)))) ⟨[(0,.str s),(2,.bool false),(3,.int .i64 0),(4,.dead),(22,.bool (decide (((122:Nat):Int)<((UInt8.toNat (List.getD s 0 0):Nat):Int)))),(26,.dead),(49,.dead)],[],.dead,[]⟩ (.normal) ⟨[],[],.dead,[]⟩):CO 75 [.str s] (.ret (.bool true)):=pK [0] 4 0 (.c h0 (.k 1 a (.c b (.k 1 a (.c c (.c d .nil)))))) (.l e .nil)
theorem acE (s:List UInt8) (h0:lit false (decide (((122:Nat):Int)<((UInt8.toNat (List.getD s 0 0):Nat):Int)))=true) (a:(decide (((0:Nat):Int)<(((List.length s):Nat):Int)))=true) (b:lit false (decide (((UInt8.toNat (List.getD s 0 0):Nat):Int)<((97:Nat):Int)))=true) (c:lit false (decide (((20:Nat):Int)<(((List.length s):Nat):Int)))=true) (d:lit false (decide ((((List.length s):Nat):Int)<((1:Nat):Int)))=true) (e:aH prog ap [] 50 (.block 0 (.loop (ae 0 (af f75)))) ⟨[(0,.str s),(2,.bool false),(3,.int .i64 0),(4,.dead),(22,.bool (decide (((122:Nat):Int)<((UInt8.toNat (List.getD s 0 0):Nat):Int)))),(26,.dead),(49,.dead)],[],.dead,[]⟩ (.ret) ⟨[(2,.bool false)],[],.dead,[]⟩):CO 75 [.str s] (.ret (.bool false)):=pK [0] 4 0 (.c h0 (.k 1 a (.c b (.k 1 a (.c c (.c d .nil)))))) (.l e .nil)
def qE (s:List UInt8):Bool:= !(s== []) && decide (s.length≤20) && decide (97≤(s.getD 0 0).toNat) && decide ((s.getD 0 0).toNat≤122) && s.all iJ
theorem Ih {p:UInt8→Bool}:∀ {l:List UInt8},l.dropWhile p= []↔∀ x ∈ l,p x=true
 | []=>by simp
 |c::l=>by
  rw [List.dropWhile_cons]
  cases h:p c with
  |true=>simp [h,Ih (l:=l)]
  |false=>simp [h]
theorem V3 {s:List UInt8}:(VV s).dropWhile iJ= []↔s.all iJ=true:=by
 unfold VV
 rw [List.all_eq_true]
 constructor
 ·intro h
  have e:∀ x ∈ (s.reverse.dropWhile iJ),iJ x=true:=by
   intro x a
   exact Ih.1 h x (by simpa using a)
  have d:s.reverse.dropWhile iJ= []:=by
   cases c:s.reverse.dropWhile iJ with
   |nil=>rfl
   | cons y r=>
    exfalso
    have b:=e y (by rw [c];simp)
    have f:∀ (l:List UInt8),l.dropWhile iJ=y::r→iJ y=false:=by
     intro l
     induction l with
     |nil=>intro h;simp at h
     | cons z l ih=>
      intro h
      rw [List.dropWhile_cons] at h
      split at h
      ·exact ih h
      ·rename_i g
       cases h
       simpa using g
    rw [f _ c] at b
    cases b
  intro x a
  exact Ih.1 d x (by simpa using a)
 ·intro h
  have:s.reverse.dropWhile iJ= []:=Ih.2 fun x a=>h x (by simpa using a)
  rw [this];rfl
theorem adl (s:List UInt8) (hs:s.length<2^40):CO 144 [.str s,.pp Hw 0] (.ret (.str (s.dropWhile iJ))):=
 am1 s _ Hw (aF.blk (fun nt a=>Ze a s hs) (by simp) rfl (aK.of ⟨rfl,rfl,trivial⟩) (aK.of ⟨rfl,trivial⟩))
theorem adm (s:List UInt8) (hs:s.length<2^40):CO 145 [.str s,.pp Hw 0] (.ret (.str (VV s))):=
 am4 s _ Hw (aF.blk (fun nt a=>Zk a _ s rfl hs) (by simp) rfl (aK.of ⟨rfl,rfl,trivial⟩) (aK.of ⟨rfl,trivial⟩))
theorem Zj (s:List UInt8):(VV s).length≤s.length:=by
 unfold VV
 rw [List.length_reverse]
 have:=(List.dropWhile_sublist iJ (l:=s.reverse)).length_le
 simpa using this
theorem Zn (s:List UInt8) (hs:s.length<2^40):CO 117 [.str s,.str P8] (.ret (.str ((VV s).dropWhile iJ))):=by
 by_cases h:s= []
 ·subst h
  exact Zl [] [] [] rfl
 ·have a:=Zj s
  exact Zm s _ _ (by simp [lit,h]) aaK (adm s hs) (adl _ (by omega))
theorem lC (s:List UInt8):CO 86 [.str s] (.ret (.bool (qE s))):=by
 unfold qE
 by_cases h0:s= []
 ·subst h0;exact Yd [] [] rfl
 ·have a:(s== [])=false:=by simpa using h0
  have b:0<s.length:=by cases s with|nil=>exact absurd rfl h0|cons _ _=>simp
  rw [a]
  by_cases h1:s.length≤20
  ·have c:lit false (decide (((20:Nat):Int)<(s.length:Int)))=true:=by rw [aY];simp [lit,h1]
   have cl:decide (((0:Nat):Int)<(s.length:Int))=true:=by rw [aY];exact decide_eq_true b
   rw [decide_eq_true h1]
   by_cases h2:97≤(s.getD 0 0).toNat
   ·rw [decide_eq_true h2]
    have d:lit false (decide (((s.getD 0 0).toNat:Int)<((97:Nat):Int)))=true:=by rw [aY];simp only [lit,Bool.not_eq_true'];exact decide_eq_false (by omega)
    by_cases h3:(s.getD 0 0).toNat≤122
    ·rw [decide_eq_true h3]
     have f:lit false (decide (((122:Nat):Int)<((s.getD 0 0).toNat:Int)))=true:=by rw [aY];simp only [lit,Bool.not_eq_true'];exact decide_eq_false (by omega)
     have h:=Yh s _ f cl d c (by rw [a];rfl) (Zn s (by omega))
     have e:((VV s).dropWhile iJ== [])=s.all iJ:=by
      rw [Bool.eq_iff_iff,← V3];simp
     rw [e] at h
     exact h
    ·rw [decide_eq_false h3]
     exact Yg s [] (by rw [aY];exact decide_eq_true (by omega)) cl d c (by rw [a];rfl)
   ·rw [decide_eq_false h2]
    exact Yf s [] (by rw [aY];exact decide_eq_true (by omega)) cl c (by rw [a];rfl)
  ·rw [decide_eq_false h1]
   exact Ye s [] (by rw [aY];exact decide_eq_true (by omega)) (by rw [a];rfl)
def Vr (s:List UInt8) (k:Nat):St:=⟨[(0,.str s),(3,.int .i64 (k:Int))],[],.dead,[]⟩
def Vq:Bool→St
 |true=> ⟨[],[],.dead,[]⟩
 |false=> ⟨[(2,.bool false)],[],.dead,[]⟩
def rnE:Bool→bM
 |true=> .exit 0
 |false=> .ret
theorem Vs {nt:Nat} (d:50≤nt) (s:List UInt8) (k c:Nat) (w:k<s.length) (hs:s.length<2^40) (a:(s.getD k 0).toNat=c):
  (inN c=true→aj prog ap [] nt (ae 0 (af f75)) (Vr s k) .normal (Vr s (k+1)))∧(inN c=false→aj prog ap [] nt (ae 0 (af f75)) (Vr s k) .ret (Vq false)):=by
 have e:inN c=true↔((97≤c∧c≤122)∨(48≤c∧c≤57))∨c=95:=by unfold inN;simp
 unfold Vr Vq
 have n:=alN d s k
 simp (disch:=first|omega|(simp [ak,ay]<;>omega)) only [aA,a,jQ,bG,eu,fB,aY,bu,dD] at n
 have l:=alO d s k
 simp (disch:=first|omega|(simp [ak,ay]<;>omega)) only [aA,a,jQ,dM,eu,zY,bu,aY,bG,dD,dA,bz] at l
 have p:=alP d s k
 simp (disch:=first|omega|(simp [ak,ay]<;>omega)) only [aA,a,jQ,bG,eu,fB,aY,bu,dM,dD] at p
 have i:=alQ d s k
 simp (disch:=first|omega|(simp [ak,ay]<;>omega)) only [aA,a,jQ,dM,eu,zY,bu,aY,bG,fB,dD,dA,bz] at i
 have o:=alR d s k
 simp (disch:=first|omega|(simp [ak,ay]<;>omega)) only [aA,a,aY,dM,eu,fB,bG,bu,dD,dA,bz] at o
 have m:=alS d s k
 simp (disch:=first|omega|(simp [ak,ay]<;>omega)) only [aA,a,jQ,bG,eu,fB,aY,bu,dM,dD] at m
 have q:=alT d s k
 simp (disch:=first|omega|(simp [ak,ay]<;>omega)) only [aA,a,jQ,dM,eu,zY,bu,aY,bG,fB,dD,dA,bz] at q
 have t:=alU d s k
 simp (disch:=first|omega|(simp [ak,ay]<;>omega)) only [aA,a,jQ,bG,eu,fB,aY,bu,dM,dD] at t
 have r:=alV d s k
 simp (disch:=first|omega|(simp [ak,ay]<;>omega)) only [aA,a,jQ,dM,eu,zY,bu,aY,bG,fB,dD,dA,bz] at r
 have j:=alW d s k
 simp (disch:=first|omega|(simp [ak,ay]<;>omega)) only [aA,a,aY,dM,eu,fB,bG,bu,dD,dA,bz] at j
 have f:=acF d s k
 simp (disch:=first|omega|(simp [ak,ay]<;>omega)) only [aA,a,aY,dM,eu,fB,dD,bu,bG,dA,bz] at f
 constructor
 ·intro g
  have b:=e.1 g
  by_cases h1:c<97<;>by_cases h2:122<c<;>by_cases h3:c<48<;>by_cases h4:57<c<;>by_cases h5:c=95<;>first
   |(exfalso;omega)
   |(apply l<;>omega)
   |(apply i<;>omega)
   |(apply o<;>omega)
   |(apply q<;>omega)
   |(apply r<;>omega)
   |(apply j<;>omega)
   |(apply f<;>omega)
 ·intro g
  have b:¬ (((97≤c∧c≤122)∨(48≤c∧c≤57))∨c=95):=by rw [← e,g];simp
  have u:c ≠ 95:=fun h=>b (.inr h)
  have x:c<97∨122<c:=by
   rcases Nat.lt_or_ge c 97 with h|h
   ·exact .inl h
   ·rcases Nat.lt_or_ge 122 c with h'|h'
    ·exact .inr h'
    ·exact absurd (.inl (.inl ⟨h,h'⟩)) b
  have v:c<48∨57<c:=by
   rcases Nat.lt_or_ge c 48 with h|h
   ·exact .inl h
   ·rcases Nat.lt_or_ge 57 c with h'|h'
    ·exact .inr h'
    ·exact absurd (.inl (.inr ⟨h,h'⟩)) b
  clear b
  by_cases h1:c<97<;>by_cases h2:122<c<;>by_cases h3:c<48<;>by_cases h4:57<c<;>by_cases h5:c=95<;>first
   |(exfalso;omega)
   |(apply n<;>omega)
   |(apply p<;>omega)
   |(apply m<;>omega)
   |(apply t<;>omega)
theorem YP {nt:Nat} (b:50≤nt) (s:List UInt8) (hs:s.length<2^40):∀ (r p:List UInt8),p++r=s→aF prog ap [] nt (ae 0 (af f75)) rnE (Vr s) Vq p.length (r.all iJ):=by
 intro r
 induction r with
 |nil=>
  intro p h
  have hp:p.length=s.length:=by rw [← h];simp
  rw [hp]
  exact .done (acG b s _ (by rw [aY];simp [lit]))
 | cons c r ih=>
  intro p h
  have i:p.length+(r.length+1)=s.length:=by rw [← h];simp
  have f:s.getD p.length 0=c:=by rw [← h];exact PI rfl
  obtain ⟨g,d⟩:=Vs b s p.length c.toNat (by omega) hs (by rw [f])
  rw [List.all_cons]
  have e:iJ c=inN c.toNat:=rfl
  cases a:iJ c with
  |true=>
   have hnext:=ih (p++ [c]) (by simp [h])
   rw [List.length_append,List.length_singleton] at hnext
   rw [Bool.true_and]
   exact .next (g (e ▸ a)) hnext
  |false=>exact .done (d (e ▸ a))
theorem Vt (s:List UInt8):CO 75 [.str s] (.ret (.bool (qE s))):=by
 unfold qE
 by_cases h0:s= []
 ·subst h0;exact acz [] rfl
 ·have c:(s== [])=false:=by simpa using h0
  have e:0<s.length:=by cases s with|nil=>exact absurd rfl h0|cons _ _=>simp
  have a:lit false (decide ((s.length:Int)<((1:Nat):Int)))=true:=by rw [aY];simp only [lit,Bool.not_eq_true'];exact decide_eq_false (by omega)
  rw [c]
  by_cases h1:s.length≤20
  ·have b:lit false (decide (((20:Nat):Int)<(s.length:Int)))=true:=by rw [aY];simp [lit,h1]
   have cl:decide (((0:Nat):Int)<(s.length:Int))=true:=by rw [aY];exact decide_eq_true e
   rw [decide_eq_true h1]
   by_cases h2:97≤(s.getD 0 0).toNat
   ·rw [decide_eq_true h2]
    have d:lit false (decide (((s.getD 0 0).toNat:Int)<((97:Nat):Int)))=true:=by rw [aY];simp only [lit,Bool.not_eq_true'];exact decide_eq_false (by omega)
    by_cases h3:(s.getD 0 0).toNat≤122
    ·rw [decide_eq_true h3]
     have g:lit false (decide (((122:Nat):Int)<((s.getD 0 0).toNat:Int)))=true:=by rw [aY];simp only [lit,Bool.not_eq_true'];exact decide_eq_false (by omega)
     have hloop:=fun nt (hn:50≤nt)=>YP hn s (by omega) s [] rfl
     cases f:s.all iJ with
     |true=>
      rw [f] at hloop
      have h:=acD s g cl d b a
      exact h (aF.blk hloop (by simp [rnE]) rfl (aK.of ⟨rfl,rfl,trivial⟩) (aK.of trivial))
     |false=>
      rw [f] at hloop
      have h:=acE s g cl d b a
      exact h (aF.blk hloop (by simp [rnE]) rfl (aK.of ⟨rfl,rfl,trivial⟩) (aK.of ⟨rfl,trivial⟩))
    ·rw [decide_eq_false h3]
     exact acC s (by rw [aY];exact decide_eq_true (by omega)) cl d b a
   ·rw [decide_eq_false h2]
    exact acB s (by rw [aY];exact decide_eq_true (by omega)) cl b a
  ·rw [decide_eq_false h1]
   exact acA s (by rw [aY];exact decide_eq_true (by omega)) a
def jS:List AV:= [.str [],.int .i64 0,.bool false,.bool false,.bool false,.str [36],.int .i64 0,.bool true,.bool false,.bool false,.str [],.int .i64 0,.bool true,.bool false,.bool false,.str [],.int .i64 0,.bool true,.bool false,.bool false,.str [],.int .i64 0,.bool true,.bool false,.bool false,.str [102,97,99,116,46],.int .i64 0,.bool false,.bool true,.bool false,.str [111,119,110,46],.int .i64 0,.bool false,.bool true,.bool false,.str [112,114,105,111,114,46],.int .i64 0,.bool false,.bool true,.bool false,.str [115,112,111,117,115,101,46],.int .i64 0,.bool false,.bool true,.bool false,.str [97,100,100],.int .i64 2,.bool false,.bool false,.bool false,.str [115,117,98],.int .i64 2,.bool false,.bool false,.bool false,.str [109,117,108],.int .i64 2,.bool false,.bool false,.bool false,.str [100,105,118],.int .i64 2,.bool false,.bool false,.bool false,.str [109,105,110],.int .i64 2,.bool false,.bool false,.bool false,.str [109,97,120],.int .i64 2,.bool false,.bool false,.bool false,.str [105,102],.int .i64 3,.bool false,.bool false,.bool false,.str [108,101,115,115],.int .i64 2,.bool false,.bool false,.bool false,.str [101,113,117,97,108],.int .i64 2,.bool false,.bool false,.bool false,.str [97,110,100],.int .i64 2,.bool false,.bool false,.bool false,.str [111,114],.int .i64 2,.bool false,.bool false,.bool false,.str [110,111,116],.int .i64 1,.bool false,.bool false,.bool false,.str [100,111,119,110],.int .i64 1,.bool false,.bool false,.bool true,.str [117,112],.int .i64 1,.bool false,.bool false,.bool true,.str [110,101,97,114],.int .i64 1,.bool false,.bool false,.bool true,.str [114,97,116,101,46],.int .i64 1,.bool false,.bool true,.bool false]
theorem akL (a:Int) (h0:lit true (decide (a<((1:Nat):Int)))=true):CO 82 [.int .i64 a] (.ret (.tup [.agg zcc2_0,.bool false])):=pK [] 2 3 (.k 7 h0 .nil) (.nil)
theorem akM (a:Int) (h0:lit true (decide (((24:Nat):Int)<a))=true) (b:lit false (decide (a<((1:Nat):Int)))=true):CO 82 [.int .i64 a] (.ret (.tup [.agg zcc2_0,.bool false])):=pK [] 2 2 (.k 6 h0 (.c b .nil)) (.nil)
theorem akN (a:Int) (h0:(gV .str (List.headD (List.drop (0+((Int.toNat a)*5)) jS) .dead))=true) (g:(gV (.int .i64) (List.headD (List.tail (List.drop (0+((Int.toNat a)*5)) jS)) .dead))=true) (b:(gV .bool (List.headD (List.tail (List.tail (List.drop (0+((Int.toNat a)*5)) jS))) .dead))=true) (c:(gV .bool (List.headD (List.tail (List.tail (List.tail (List.drop (0+((Int.toNat a)*5)) jS)))) .dead))=true) (h:(gV .bool (List.headD (List.tail (List.tail (List.tail (List.tail (List.drop (0+((Int.toNat a)*5)) jS))))) .dead))=true) (i:(decide (((0:Nat):Int)≤a))=true) (f:(decide (a<((25:Nat):Int)))=true) (e:lit false (decide (((24:Nat):Int)<a))=true) (d:lit false (decide (a<((1:Nat):Int)))=true):CO 82 [.int .i64 a] (.ret (.tup [.agg [.str (AV.toStr (List.headD (List.drop (0+((Int.toNat a)*5)) jS) .dead)),.int .i64 (AV.toInt (List.headD (List.tail (List.drop (0+((Int.toNat a)*5)) jS)) .dead)),.bool (AV.toBool (List.headD (List.tail (List.tail (List.drop (0+((Int.toNat a)*5)) jS))) .dead)),.bool (AV.toBool (List.headD (List.tail (List.tail (List.tail (List.drop (0+((Int.toNat a)*5)) jS)))) .dead)),.bool (AV.toBool (List.headD (List.tail (List.tail (List.tail (List.tail (List.drop (0+((Int.toNat a)*5)) jS))))) .dead))],.bool true])):=pK [] 2 0 (.k 6 h0 (.c g (.c b (.c c (.c h (.c i (.c f (.c e (.c d .nil))))))))) (.nil)
theorem aay (a:Int) (h0:lit true (a==((15:Nat):Int))=true):CO 30 [.int .i64 a] (.ret (.int .i64 3)):=pK [] 1 1 (.c h0 .nil) (.nil)
theorem aaz (a:Int) (h0:lit true (decide (a≤((14:Nat):Int)))=true) (b:lit true (decide (((9:Nat):Int)≤a))=true) (c:lit false (a==((15:Nat):Int))=true):CO 30 [.int .i64 a] (.ret (.int .i64 2)):=pK [] 4 14 (.k 1 h0 (.c b (.c c .nil))) (.nil)
theorem aaA (a:Int) (h0:lit true (decide (a≤((19:Nat):Int)))=true) (d:lit true (decide (((16:Nat):Int)≤a))=true) (b:lit false (decide (a≤((14:Nat):Int)))=true) (c:lit true (decide (((9:Nat):Int)≤a))=true) (e:lit false (a==((15:Nat):Int))=true):CO 30 [.int .i64 a] (.ret (.int .i64 2)):=pK [] 5 26 (.c h0 (.c d (.c b (.c c (.c e .nil))))) (.nil)
theorem aaB (a:Int) (h0:lit true (decide (a≤((24:Nat):Int)))=true) (e:lit true (decide (((20:Nat):Int)≤a))=true) (b:lit false (decide (a≤((19:Nat):Int)))=true) (c:lit true (decide (((16:Nat):Int)≤a))=true) (f:lit false (decide (a≤((14:Nat):Int)))=true) (g:lit true (decide (((9:Nat):Int)≤a))=true) (d:lit false (a==((15:Nat):Int))=true):CO 30 [.int .i64 a] (.ret (.int .i64 1)):=pK [] 7 106 (.c h0 (.c e (.c b (.c c (.c f (.c g (.c d .nil))))))) (.nil)
theorem aaC (a:Int) (h0:lit false (decide (a≤((24:Nat):Int)))=true) (e:lit true (decide (((20:Nat):Int)≤a))=true) (b:lit false (decide (a≤((19:Nat):Int)))=true) (c:lit true (decide (((16:Nat):Int)≤a))=true) (f:lit false (decide (a≤((14:Nat):Int)))=true) (g:lit true (decide (((9:Nat):Int)≤a))=true) (d:lit false (a==((15:Nat):Int))=true):CO 30 [.int .i64 a] (.ret (.int .i64 0)):=pK [] 7 42 (.c h0 (.c e (.c b (.c c (.c f (.c g (.c d .nil))))))) (.nil)
theorem aaD (a:Int) (h0:lit false (decide (((20:Nat):Int)≤a))=true) (d:lit false (decide (a≤((19:Nat):Int)))=true) (b:lit true (decide (((16:Nat):Int)≤a))=true) (c:lit false (decide (a≤((14:Nat):Int)))=true) (e:lit true (decide (((9:Nat):Int)≤a))=true) (f:lit false (a==((15:Nat):Int))=true):CO 30 [.int .i64 a] (.ret (.int .i64 0)):=pK [] 7 10 (.k 1 h0 (.c d (.c b (.c c (.c e (.c f .nil)))))) (.nil)
theorem aaE (a:Int) (h0:lit true (decide (a≤((24:Nat):Int)))=true) (d:lit true (decide (((20:Nat):Int)≤a))=true) (b:lit false (decide (((16:Nat):Int)≤a))=true) (c:lit false (decide (a≤((14:Nat):Int)))=true) (e:lit true (decide (((9:Nat):Int)≤a))=true) (f:lit false (a==((15:Nat):Int))=true):CO 30 [.int .i64 a] (.ret (.int .i64 1)):=pK [] 7 98 (.c h0 (.c d (.k 1 b (.c c (.c e (.c f .nil)))))) (.nil)
theorem aaF (a:Int) (h0:lit false (decide (a≤((24:Nat):Int)))=true) (d:lit true (decide (((20:Nat):Int)≤a))=true) (b:lit false (decide (((16:Nat):Int)≤a))=true) (c:lit false (decide (a≤((14:Nat):Int)))=true) (e:lit true (decide (((9:Nat):Int)≤a))=true) (f:lit false (a==((15:Nat):Int))=true):CO 30 [.int .i64 a] (.ret (.int .i64 0)):=pK [] 7 34 (.c h0 (.c d (.k 1 b (.c c (.c e (.c f .nil)))))) (.nil)
theorem aaG (a:Int) (h0:lit false (decide (((20:Nat):Int)≤a))=true) (d:lit false (decide (((16:Nat):Int)≤a))=true) (b:lit false (decide (a≤((14:Nat):Int)))=true) (c:lit true (decide (((9:Nat):Int)≤a))=true) (e:lit false (a==((15:Nat):Int))=true):CO 30 [.int .i64 a] (.ret (.int .i64 0)):=pK [] 7 2 (.k 1 h0 (.k 1 d (.c b (.c c (.c e .nil))))) (.nil)
theorem aaH (a:Int) (h0:lit true (decide (a≤((19:Nat):Int)))=true) (d:lit true (decide (((16:Nat):Int)≤a))=true) (b:lit false (decide (((9:Nat):Int)≤a))=true) (c:lit false (a==((15:Nat):Int))=true):CO 30 [.int .i64 a] (.ret (.int .i64 2)):=pK [] 5 24 (.c h0 (.c d (.k 1 b (.c c .nil)))) (.nil)
theorem WM (a:Int) (h0:lit true (decide (a≤((24:Nat):Int)))=true) (d:lit true (decide (((20:Nat):Int)≤a))=true) (b:lit false (decide (a≤((19:Nat):Int)))=true) (c:lit true (decide (((16:Nat):Int)≤a))=true) (e:lit false (decide (((9:Nat):Int)≤a))=true) (f:lit false (a==((15:Nat):Int))=true):CO 30 [.int .i64 a] (.ret (.int .i64 1)):=pK [] 7 104 (.c h0 (.c d (.c b (.c c (.k 1 e (.c f .nil)))))) (.nil)
theorem WN (a:Int) (h0:lit false (decide (a≤((24:Nat):Int)))=true) (d:lit true (decide (((20:Nat):Int)≤a))=true) (b:lit false (decide (a≤((19:Nat):Int)))=true) (c:lit true (decide (((16:Nat):Int)≤a))=true) (e:lit false (decide (((9:Nat):Int)≤a))=true) (f:lit false (a==((15:Nat):Int))=true):CO 30 [.int .i64 a] (.ret (.int .i64 0)):=pK [] 7 40 (.c h0 (.c d (.c b (.c c (.k 1 e (.c f .nil)))))) (.nil)
theorem WO (a:Int) (h0:lit false (decide (((20:Nat):Int)≤a))=true) (d:lit false (decide (a≤((19:Nat):Int)))=true) (b:lit true (decide (((16:Nat):Int)≤a))=true) (c:lit false (decide (((9:Nat):Int)≤a))=true) (e:lit false (a==((15:Nat):Int))=true):CO 30 [.int .i64 a] (.ret (.int .i64 0)):=pK [] 7 8 (.k 1 h0 (.c d (.c b (.k 1 c (.c e .nil))))) (.nil)
theorem WP (a:Int) (h0:lit true (decide (a≤((24:Nat):Int)))=true) (d:lit true (decide (((20:Nat):Int)≤a))=true) (b:lit false (decide (((16:Nat):Int)≤a))=true) (c:lit false (decide (((9:Nat):Int)≤a))=true) (e:lit false (a==((15:Nat):Int))=true):CO 30 [.int .i64 a] (.ret (.int .i64 1)):=pK [] 7 96 (.c h0 (.c d (.k 1 b (.k 1 c (.c e .nil))))) (.nil)
theorem WQ (a:Int) (h0:lit false (decide (a≤((24:Nat):Int)))=true) (d:lit true (decide (((20:Nat):Int)≤a))=true) (b:lit false (decide (((16:Nat):Int)≤a))=true) (c:lit false (decide (((9:Nat):Int)≤a))=true) (e:lit false (a==((15:Nat):Int))=true):CO 30 [.int .i64 a] (.ret (.int .i64 0)):=pK [] 7 32 (.c h0 (.c d (.k 1 b (.k 1 c (.c e .nil))))) (.nil)
theorem WR (a:Int) (h0:lit false (decide (((20:Nat):Int)≤a))=true) (d:lit false (decide (((16:Nat):Int)≤a))=true) (b:lit false (decide (((9:Nat):Int)≤a))=true) (c:lit false (a==((15:Nat):Int))=true):CO 30 [.int .i64 a] (.ret (.int .i64 0)):=pK [] 7 0 (.k 1 h0 (.k 1 d (.k 1 b (.c c .nil)))) (.nil)
theorem abL (a:Int) (h0:lit true (decide (a≤((8:Nat):Int)))=true) (b:lit true (decide (((5:Nat):Int)≤a))=true):CO 32 [.int .i64 a] (.ret (.bool true)):=pK [] 2 3 (.c h0 (.c b .nil)) (.nil)
theorem abM (a:Int) (h0:lit false (decide (a≤((8:Nat):Int)))=true) (b:lit true (decide (((5:Nat):Int)≤a))=true):CO 32 [.int .i64 a] (.ret (.bool (a==((24:Nat):Int)))):=pK [] 2 1 (.c h0 (.c b .nil)) (.nil)
theorem abN (a:Int) (h0:lit false (decide (((5:Nat):Int)≤a))=true):CO 32 [.int .i64 a] (.ret (.bool (a==((24:Nat):Int)))):=pK [] 2 0 (.k 1 h0 .nil) (.nil)
theorem abE (a:Int) (h0:lit true (decide (((1:Nat):Int)≤a))=true):CO 94 [.int .i64 a] (.ret (.bool (decide (a≤((4:Nat):Int))))):=pK [] 1 1 (.c h0 .nil) (.nil)
theorem abG (a:Int) (h0:lit false (decide (((1:Nat):Int)≤a))=true):CO 94 [.int .i64 a] (.ret (.bool false)):=pK [] 1 0 (.c h0 .nil) (.nil)
theorem ac9 (a:Int) (h0:lit true (decide (((21:Nat):Int)≤a))=true):CO 34 [.int .i64 a] (.ret (.bool (decide (a≤((23:Nat):Int))))):=pK [] 1 1 (.c h0 .nil) (.nil)
theorem ac_ (a:Int) (h0:lit false (decide (((21:Nat):Int)≤a))=true):CO 34 [.int .i64 a] (.ret (.bool false)):=pK [] 1 0 (.c h0 .nil) (.nil)
def dL (op:Int):Nat:=if op=15 then 3 else if (9≤op∧op≤14)∨(16≤op∧op≤19) then 2 else if 20≤op∧op≤24 then 1 else 0
def gG (op:Int):Bool:=decide ((5≤op∧op≤8)∨op=24)
def vG (op:Int):Bool:=decide (1≤op∧op≤4)
def pU (op:Int):Bool:=decide (21≤op∧op≤23)
def V9 (op:Int):List UInt8:=AV.toStr (List.headD (List.drop (0+((Int.toNat op)*5)) jS) .dead)
theorem Hu (a:Int):CO 30 [.int .i64 a] (.ret (.int .i64 ((dL a:Nat):Int))):=by
 cases b:(a==((15:Nat):Int)) with
 | true=>
  have h:=aay a (by rw [b];rfl)
  have e:dL a=3:=by
   clear h
   simp only [decide_eq_true_eq,decide_eq_false_iff_not,beq_iff_eq,beq_eq_false_iff_ne] at*
   unfold dL;(repeat' split)<;>omega
  rw [e];exact h
 | false =>
  cases f:(decide (((9:Nat):Int)≤a)) with
  | true =>
   cases d:(decide (a≤((14:Nat):Int))) with
   | true=>
    have h:=aaz a (by rw [d];rfl) (by rw [f];rfl) (by rw [b];rfl)
    have e:dL a=2:=by
     clear h
     simp only [decide_eq_true_eq,decide_eq_false_iff_not,beq_iff_eq,beq_eq_false_iff_ne] at*
     unfold dL;(repeat' split)<;>omega
    rw [e];exact h
   | false=>
    cases c:(decide (((16:Nat):Int)≤a)) with
    | true=>
     cases g:(decide (a≤((19:Nat):Int))) with
     | true=>
      have h:=aaA a (by rw [g];rfl) (by rw [c];rfl) (by rw [d];rfl) (by rw [f];rfl) (by rw [b];rfl)
      have e:dL a=2:=by
       clear h
       simp only [decide_eq_true_eq,decide_eq_false_iff_not,beq_iff_eq,beq_eq_false_iff_ne] at*
       unfold dL;(repeat' split)<;>omega
      rw [e];exact h
     | false=>
      cases i:(decide (((20:Nat):Int)≤a)) with
      | true=>
       cases j:(decide (a≤((24:Nat):Int))) with
       | true=>
        have h:=aaB a (by rw [j];rfl) (by rw [i];rfl) (by rw [g];rfl) (by rw [c];rfl) (by rw [d];rfl) (by rw [f];rfl) (by rw [b];rfl)
        have e:dL a=1:=by
         clear h
         simp only [decide_eq_true_eq,decide_eq_false_iff_not,beq_iff_eq,beq_eq_false_iff_ne] at*
         unfold dL;(repeat' split)<;>omega
        rw [e];exact h
       | false=>
        have h:=aaC a (by rw [j];rfl) (by rw [i];rfl) (by rw [g];rfl) (by rw [c];rfl) (by rw [d];rfl) (by rw [f];rfl) (by rw [b];rfl)
        have e:dL a=0:=by
         clear h
         simp only [decide_eq_true_eq,decide_eq_false_iff_not,beq_iff_eq,beq_eq_false_iff_ne] at*
         unfold dL;(repeat' split)<;>omega
        rw [e];exact h
      | false=>
       have h:=aaD a (by rw [i];rfl) (by rw [g];rfl) (by rw [c];rfl) (by rw [d];rfl) (by rw [f];rfl) (by rw [b];rfl)
       have e:dL a=0:=by
        clear h
        simp only [decide_eq_true_eq,decide_eq_false_iff_not,beq_iff_eq,beq_eq_false_iff_ne] at*
        unfold dL;(repeat' split)<;>omega
       rw [e];exact h
    | false=>
     cases g:(decide (((20:Nat):Int)≤a)) with
     | true=>
      cases i:(decide (a≤((24:Nat):Int))) with
      | true=>
       have h:=aaE a (by rw [i];rfl) (by rw [g];rfl) (by rw [c];rfl) (by rw [d];rfl) (by rw [f];rfl) (by rw [b];rfl)
       have e:dL a=1:=by
        clear h
        simp only [decide_eq_true_eq,decide_eq_false_iff_not,beq_iff_eq,beq_eq_false_iff_ne] at*
        unfold dL;(repeat' split)<;>omega
       rw [e];exact h
      | false=>
       have h:=aaF a (by rw [i];rfl) (by rw [g];rfl) (by rw [c];rfl) (by rw [d];rfl) (by rw [f];rfl) (by rw [b];rfl)
       have e:dL a=0:=by
        clear h
        simp only [decide_eq_true_eq,decide_eq_false_iff_not,beq_iff_eq,beq_eq_false_iff_ne] at*
        unfold dL;(repeat' split)<;>omega
       rw [e];exact h
     | false=>
      have h:=aaG a (by rw [g];rfl) (by rw [c];rfl) (by rw [d];rfl) (by rw [f];rfl) (by rw [b];rfl)
      have e:dL a=0:=by
       clear h
       simp only [decide_eq_true_eq,decide_eq_false_iff_not,beq_iff_eq,beq_eq_false_iff_ne] at*
       unfold dL;(repeat' split)<;>omega
      rw [e];exact h
  | false=>
   cases d:(decide (((16:Nat):Int)≤a)) with
   | true=>
    cases c:(decide (a≤((19:Nat):Int))) with
    | true=>
     have h:=aaH a (by rw [c];rfl) (by rw [d];rfl) (by rw [f];rfl) (by rw [b];rfl)
     have e:dL a=2:=by
      clear h
      simp only [decide_eq_true_eq,decide_eq_false_iff_not,beq_iff_eq,beq_eq_false_iff_ne] at*
      unfold dL;(repeat' split)<;>omega
     rw [e];exact h
    | false=>
     cases g:(decide (((20:Nat):Int)≤a)) with
     | true=>
      cases i:(decide (a≤((24:Nat):Int))) with
      | true=>
       have h:=WM a (by rw [i];rfl) (by rw [g];rfl) (by rw [c];rfl) (by rw [d];rfl) (by rw [f];rfl) (by rw [b];rfl)
       have e:dL a=1:=by
        clear h
        simp only [decide_eq_true_eq,decide_eq_false_iff_not,beq_iff_eq,beq_eq_false_iff_ne] at*
        unfold dL;(repeat' split)<;>omega
       rw [e];exact h
      | false=>
       have h:=WN a (by rw [i];rfl) (by rw [g];rfl) (by rw [c];rfl) (by rw [d];rfl) (by rw [f];rfl) (by rw [b];rfl)
       have e:dL a=0:=by
        clear h
        simp only [decide_eq_true_eq,decide_eq_false_iff_not,beq_iff_eq,beq_eq_false_iff_ne] at*
        unfold dL;(repeat' split)<;>omega
       rw [e];exact h
     | false=>
      have h:=WO a (by rw [g];rfl) (by rw [c];rfl) (by rw [d];rfl) (by rw [f];rfl) (by rw [b];rfl)
      have e:dL a=0:=by
       clear h
       simp only [decide_eq_true_eq,decide_eq_false_iff_not,beq_iff_eq,beq_eq_false_iff_ne] at*
       unfold dL;(repeat' split)<;>omega
      rw [e];exact h
   | false=>
    cases c:(decide (((20:Nat):Int)≤a)) with
    | true=>
     cases g:(decide (a≤((24:Nat):Int))) with
     | true=>
      have h:=WP a (by rw [g];rfl) (by rw [c];rfl) (by rw [d];rfl) (by rw [f];rfl) (by rw [b];rfl)
      have e:dL a=1:=by
       clear h
       simp only [decide_eq_true_eq,decide_eq_false_iff_not,beq_iff_eq,beq_eq_false_iff_ne] at*
       unfold dL;(repeat' split)<;>omega
      rw [e];exact h
     | false=>
      have h:=WQ a (by rw [g];rfl) (by rw [c];rfl) (by rw [d];rfl) (by rw [f];rfl) (by rw [b];rfl)
      have e:dL a=0:=by
       clear h
       simp only [decide_eq_true_eq,decide_eq_false_iff_not,beq_iff_eq,beq_eq_false_iff_ne] at*
       unfold dL;(repeat' split)<;>omega
      rw [e];exact h
    | false=>
     have h:=WR a (by rw [c];rfl) (by rw [d];rfl) (by rw [f];rfl) (by rw [b];rfl)
     have e:dL a=0:=by
      clear h
      simp only [decide_eq_true_eq,decide_eq_false_iff_not,beq_iff_eq,beq_eq_false_iff_ne] at*
      unfold dL;(repeat' split)<;>omega
     rw [e];exact h
theorem IG (a:Int):CO 32 [.int .i64 a] (.ret (.bool (gG a))):=by
 cases b:(decide (((5:Nat):Int)≤a)) with
 | true=>
  cases c:(decide (a≤((8:Nat):Int))) with
  | true=>
   have h:=abL a (by rw [c];rfl) (by rw [b];rfl)
   have e:gG a=true:=by
    clear h
    simp only [decide_eq_true_eq,decide_eq_false_iff_not,beq_iff_eq,beq_eq_false_iff_ne] at*
    unfold gG;first|(rw [decide_eq_true_eq];omega)|(rw [Bool.eq_iff_iff];simp only [decide_eq_true_eq,beq_iff_eq];omega)
   rw [e];exact h
  | false=>
   have h:=abM a (by rw [c];rfl) (by rw [b];rfl)
   have e:gG a=(a==((24:Nat):Int)):=by
    clear h
    simp only [decide_eq_true_eq,decide_eq_false_iff_not,beq_iff_eq,beq_eq_false_iff_ne] at*
    unfold gG;first|(rw [decide_eq_true_eq];omega)|(rw [Bool.eq_iff_iff];simp only [decide_eq_true_eq,beq_iff_eq];omega)
   rw [e];exact h
 | false=>
  have h:=abN a (by rw [b];rfl)
  have e:gG a=(a==((24:Nat):Int)):=by
   clear h
   simp only [decide_eq_true_eq,decide_eq_false_iff_not,beq_iff_eq,beq_eq_false_iff_ne] at*
   unfold gG;first|(rw [decide_eq_true_eq];omega)|(rw [Bool.eq_iff_iff];simp only [decide_eq_true_eq,beq_iff_eq];omega)
  rw [e];exact h
theorem A8 (a:Int):CO 94 [.int .i64 a] (.ret (.bool (vG a))):=by
 cases b:(decide (((1:Nat):Int)≤a)) with
 | true=>
  have h:=abE a (by rw [b];rfl)
  have e:vG a=(decide (a≤((4:Nat):Int))):=by
   clear h
   simp only [decide_eq_true_eq,decide_eq_false_iff_not,beq_iff_eq,beq_eq_false_iff_ne] at*
   unfold vG;first|(rw [decide_eq_false_iff_not];omega)|(rw [Bool.eq_iff_iff];simp only [decide_eq_true_eq,beq_iff_eq];omega)
  rw [e];exact h
 | false=>
  have h:=abG a (by rw [b];rfl)
  have e:vG a=false:=by
   clear h
   simp only [decide_eq_true_eq,decide_eq_false_iff_not,beq_iff_eq,beq_eq_false_iff_ne] at*
   unfold vG;first|(rw [decide_eq_false_iff_not];omega)|(rw [Bool.eq_iff_iff];simp only [decide_eq_true_eq,beq_iff_eq];omega)
  rw [e];exact h
theorem Bg (a:Int):CO 34 [.int .i64 a] (.ret (.bool (pU a))):=by
 cases b:(decide (((21:Nat):Int)≤a)) with
 | true=>
  have h:=ac9 a (by rw [b];rfl)
  have e:pU a=(decide (a≤((23:Nat):Int))):=by
   clear h
   simp only [decide_eq_true_eq,decide_eq_false_iff_not,beq_iff_eq,beq_eq_false_iff_ne] at*
   unfold pU;first|(rw [decide_eq_false_iff_not];omega)|(rw [Bool.eq_iff_iff];simp only [decide_eq_true_eq,beq_iff_eq];omega)
  rw [e];exact h
 | false=>
  have h:=ac_ a (by rw [b];rfl)
  have e:pU a=false:=by
   clear h
   simp only [decide_eq_true_eq,decide_eq_false_iff_not,beq_iff_eq,beq_eq_false_iff_ne] at*
   unfold pU;first|(rw [decide_eq_false_iff_not];omega)|(rw [Bool.eq_iff_iff];simp only [decide_eq_true_eq,beq_iff_eq];omega)
  rw [e];exact h
theorem KI {a:Int} (h:1≤a) (b:a≤24):a=1∨a=2∨a=3∨a=4∨a=5∨a=6∨a=7∨a=8∨a=9∨a=10∨a=11∨a=12∨a=13∨a=14∨a=15∨a=16∨a=17∨a=18∨a=19∨a=20∨a=21∨a=22∨a=23∨a=24:=by omega
abbrev shA (op:Int):AV:= .agg [.str (V9 op),.int .i64 ((dL op:Nat):Int),.bool (vG op),.bool (gG op),.bool (pU op)]
theorem akR {a:Int} (h:1≤a) (b:a≤24):CO 82 [.int .i64 a] (.ret (.tup [shA a,.bool true])):=by
 rcases KI h b with rfl|rfl|rfl|rfl|rfl|rfl|rfl|rfl|rfl|rfl|rfl|rfl|rfl|rfl|rfl|rfl|rfl|rfl|rfl|rfl|rfl|rfl|rfl|rfl
 all_goals exact akN _ rfl rfl rfl rfl rfl rfl rfl rfl rfl
theorem abV {a:Int} (h:a<1∨24<a):CO 82 [.int .i64 a] (.ret (.tup [.agg zcc2_0,.bool false])):=by
 by_cases h1:a<1
 ·exact akL a (by simp [lit];omega)
 ·exact akM a (by simp [lit];omega) (by simp [lit];omega)
theorem Oj {a:Int} (h:1≤a) (b:a≤24):List.headD (List.drop (a.toNat*5+1) jS) .dead= .int .i64 ((dL a:Nat):Int):=by
 rcases KI h b with rfl|rfl|rfl|rfl|rfl|rfl|rfl|rfl|rfl|rfl|rfl|rfl|rfl|rfl|rfl|rfl|rfl|rfl|rfl|rfl|rfl|rfl|rfl|rfl
 all_goals rfl
def Jj (op:Int):Bool:=decide (1≤op∧op≤24)
theorem cZ (a:Int):CO 82 [.int .i64 a] (.ret (.tup [shA a,.bool (Jj a)])):=by
 by_cases h:1≤a∧a≤24
 ·have e:Jj a=true:=decide_eq_true h
  rw [e];exact akR h.1 h.2
 ·have e:Jj a=false:=decide_eq_false h
  have b:dL a=0:=by unfold dL;(repeat' split)<;>omega
  have g:vG a=false:=by unfold vG;rw [decide_eq_false_iff_not];omega
  have c:gG a=false:=by unfold gG;rw [decide_eq_false_iff_not];omega
  have f:pU a=false:=by unfold pU;rw [decide_eq_false_iff_not];omega
  have d:V9 a= []:=by
   unfold V9
   by_cases h1:a<1
   ·have:a.toNat=0:=by omega
    rw [this];rfl
   ·have i:jS.length=125:=by decide
    rw [List.drop_of_length_le (by omega)];rfl
  unfold shA
  rw [e,b,g,c,f,d]
  exact abV (by omega)
structure Nd where
 op:Int
 neg:Bool
 num:List UInt8
 den:List UInt8
 name:List UInt8
def iY (x:Nd):List AV:= [.int .i64 x.op,.bool x.neg,.str x.num,.str x.den,.str x.name]
def Nd.sm (x:Nd):Prop:=x.num.length<2^33∧x.den.length<2^33
def fZ (x:Nd):Bool:=cond (x.op==((4:Nat):Int)) (sQ x.neg x.num x.den 0||sQ x.neg x.num x.den 1) (cond (vG x.op) (iW x.neg x.num x.den) (cond (pU x.op) (iW x.neg x.num x.den && decide (((0:Nat):Int)<fV x.neg x.num x.den)) ((x.neg==false) && ((x.num== []) && ((x.den== []) && true)))))
def aJ (x:Nd):Int:=cond (!Jj x.op||(!gG x.op && !(x.name== []))) 11 (cond (!fZ x) 11 (cond (gG x.op && !qE x.name) 12 0))
theorem V_ (x:Nd) (c:x.sm):CO 52 [.agg (iY x)] (.ret (.int .i64 (aJ x))):=by
 have a:x.num.length<2^36:=Nat.lt_trans c.1 (by decide)
 have b:x.den.length<2^36:=Nat.lt_trans c.2 (by decide)
 rcases tf (Jj x.op) with b0|b0
 ·rcases tf (gG x.op) with b1|b1
  ·rcases tf (x.op==((4:Nat):Int)) with b2|b2
   ·rcases tf ((x.neg==false) && ((x.num==(ag 0)) && ((x.den==(ag 1)) && true))) with b3|b3
    ·rcases tf (qE x.name) with b4|b4
     ·rw [show aJ x=0 by simp only [aJ,fZ,sQ,b0,b1,b2,b3,b4]<;>rfl]
      exact pK [] 8 88 (.c (aS b4) (.k 1 (aC b1) (.k 2 (aC b3) (.k 3 (aC b2) (.k 2 (aS b1) (.k 1 (aS b0) (.n 2 .nil))))))) (.c (lC x.name) (.c (nO) (.c (cZ x.op) .nil)))
     ·rw [show aJ x=12 by simp only [aJ,fZ,sQ,b0,b1,b2,b3,b4]<;>rfl]
      exact pK [] 8 216 (.c (dJ b4) (.k 1 (aC b1) (.k 2 (aC b3) (.k 3 (aC b2) (.k 2 (aS b1) (.k 1 (aS b0) (.n 2 .nil))))))) (.c (lC x.name) (.c (nO) (.c (cZ x.op) .nil)))
    ·rcases tf ((x.neg==false) && ((x.num==(ag 1)) && ((x.den==(ag 1)) && true))) with b4|b4
     ·rcases tf (qE x.name) with b5|b5
      ·rw [show aJ x=0 by simp only [aJ,fZ,sQ,b0,b1,b2,b3,b4,b5]<;>rfl]
       exact pK [] 8 72 (.c (aS b5) (.k 1 (aC b1) (.k 1 (aS b4) (.k 3 (aB b3) (.k 3 (aC b2) (.k 2 (aS b1) (.k 1 (aS b0) (.n 2 .nil)))))))) (.c (lC x.name) (.c (D7) (.c (nO) (.c (cZ x.op) .nil))))
      ·rw [show aJ x=12 by simp only [aJ,fZ,sQ,b0,b1,b2,b3,b4,b5]<;>rfl]
       exact pK [] 8 200 (.c (dJ b5) (.k 1 (aC b1) (.k 1 (aS b4) (.k 3 (aB b3) (.k 3 (aC b2) (.k 2 (aS b1) (.k 1 (aS b0) (.n 2 .nil)))))))) (.c (lC x.name) (.c (D7) (.c (nO) (.c (cZ x.op) .nil))))
     ·rw [show aJ x=11 by simp only [aJ,fZ,sQ,b0,b1,b2,b3,b4]<;>rfl]
      exact pK [] 6 40 (.c (dJ b4) (.k 3 (aB b3) (.k 3 (aC b2) (.k 2 (aS b1) (.k 1 (aS b0) (.n 2 .nil)))))) (.c (D7) (.c (nO) (.c (cZ x.op) .nil)))
   ·rcases tf (vG x.op) with b3|b3
    ·rcases tf (iW x.neg x.num x.den) with b4|b4
     ·rcases tf (qE x.name) with b5|b5
      ·rw [show aJ x=0 by simp only [aJ,fZ,sQ,b0,b1,b2,b3,b4,b5]<;>rfl]
       exact pK [] 8 80 (.c (aS b5) (.k 1 (aC b1) (.k 1 (aS b4) (.k 3 (aC b3) (.k 1 (aB b2) (.k 2 (aS b1) (.k 1 (aS b0) (.n 2 .nil)))))))) (.c (lC x.name) (.c (ja x.neg x.num x.den a b) (.c (cZ x.op) .nil)))
      ·rw [show aJ x=12 by simp only [aJ,fZ,sQ,b0,b1,b2,b3,b4,b5]<;>rfl]
       exact pK [] 8 208 (.c (dJ b5) (.k 1 (aC b1) (.k 1 (aS b4) (.k 3 (aC b3) (.k 1 (aB b2) (.k 2 (aS b1) (.k 1 (aS b0) (.n 2 .nil)))))))) (.c (lC x.name) (.c (ja x.neg x.num x.den a b) (.c (cZ x.op) .nil)))
     ·rw [show aJ x=11 by simp only [aJ,fZ,sQ,b0,b1,b2,b3,b4]<;>rfl]
      exact pK [] 6 48 (.c (dJ b4) (.k 3 (aC b3) (.k 1 (aB b2) (.k 2 (aS b1) (.k 1 (aS b0) (.n 2 .nil)))))) (.c (ja x.neg x.num x.den a b) (.c (cZ x.op) .nil))
    ·rcases tf (pU x.op) with b4|b4
     ·rcases tf (iW x.neg x.num x.den) with b5|b5
      ·rcases tf (decide (((0:Nat):Int)<(fV x.neg x.num x.den))) with b6|b6
       ·rcases tf (qE x.name) with b7|b7
        ·rw [show aJ x=0 by simp only [aJ,fZ,sQ,b0,b1,b2,b3,b4,b5,b6,b7]<;>rfl]
         exact pK [] 10 352 (.c (aS b7) (.k 1 (aC b1) (.k 1 (aS b6) (.k 3 (aC b5) (.k 3 (aC b4) (.k 1 (aB b3) (.k 1 (aB b2) (.k 2 (aS b1) (.k 1 (aS b0) (.n 2 .nil)))))))))) (.c (lC x.name) (.c (fG x.neg x.num x.den a b) (.c (ja x.neg x.num x.den a b) (.c (cZ x.op) .nil))))
        ·rw [show aJ x=12 by simp only [aJ,fZ,sQ,b0,b1,b2,b3,b4,b5,b6,b7]<;>rfl]
         exact pK [] 10 864 (.c (dJ b7) (.k 1 (aC b1) (.k 1 (aS b6) (.k 3 (aC b5) (.k 3 (aC b4) (.k 1 (aB b3) (.k 1 (aB b2) (.k 2 (aS b1) (.k 1 (aS b0) (.n 2 .nil)))))))))) (.c (lC x.name) (.c (fG x.neg x.num x.den a b) (.c (ja x.neg x.num x.den a b) (.c (cZ x.op) .nil))))
       ·rw [show aJ x=11 by simp only [aJ,fZ,sQ,b0,b1,b2,b3,b4,b5,b6]<;>rfl]
        exact pK [] 8 224 (.c (dJ b6) (.k 3 (aC b5) (.k 3 (aC b4) (.k 1 (aB b3) (.k 1 (aB b2) (.k 2 (aS b1) (.k 1 (aS b0) (.n 2 .nil)))))))) (.c (fG x.neg x.num x.den a b) (.c (ja x.neg x.num x.den a b) (.c (cZ x.op) .nil)))
      ·rw [show aJ x=11 by simp only [aJ,fZ,sQ,b0,b1,b2,b3,b4,b5]<;>rfl]
       exact pK [] 8 160 (.k 1 (aB b5) (.k 3 (aC b4) (.k 1 (aB b3) (.k 1 (aB b2) (.k 2 (aS b1) (.k 1 (aS b0) (.n 2 .nil))))))) (.c (ja x.neg x.num x.den a b) (.c (cZ x.op) .nil))
     ·rcases tf ((x.neg==false) && ((x.num== []) && ((x.den== []) && true))) with b5|b5
      ·rcases tf (qE x.name) with b6|b6
       ·rw [show aJ x=0 by simp only [aJ,fZ,sQ,b0,b1,b2,b3,b4,b5,b6]<;>rfl]
        exact pK [] 9 128 (.c (aS b6) (.k 1 (aC b1) (.k 1 (aS b5) (.k 3 (aB b4) (.k 1 (aB b3) (.k 1 (aB b2) (.k 2 (aS b1) (.k 1 (aS b0) (.n 2 .nil))))))))) (.c (lC x.name) (.c (cZ x.op) .nil))
       ·rw [show aJ x=12 by simp only [aJ,fZ,sQ,b0,b1,b2,b3,b4,b5,b6]<;>rfl]
        exact pK [] 9 384 (.c (dJ b6) (.k 1 (aC b1) (.k 1 (aS b5) (.k 3 (aB b4) (.k 1 (aB b3) (.k 1 (aB b2) (.k 2 (aS b1) (.k 1 (aS b0) (.n 2 .nil))))))))) (.c (lC x.name) (.c (cZ x.op) .nil))
      ·rw [show aJ x=11 by simp only [aJ,fZ,sQ,b0,b1,b2,b3,b4,b5]<;>rfl]
       exact pK [] 7 64 (.c (dJ b5) (.k 3 (aB b4) (.k 1 (aB b3) (.k 1 (aB b2) (.k 2 (aS b1) (.k 1 (aS b0) (.n 2 .nil))))))) (.c (cZ x.op) .nil)
  ·rcases tf (x.name== []) with b2|b2
   ·rcases tf (x.op==((4:Nat):Int)) with b3|b3
    ·rcases tf ((x.neg==false) && ((x.num==(ag 0)) && ((x.den==(ag 1)) && true))) with b4|b4
     ·rw [show aJ x=0 by simp only [aJ,fZ,sQ,b0,b1,b2,b3,b4]<;>rfl]
      exact pK [] 8 26 (.k 1 (aB b1) (.k 2 (aC b4) (.k 3 (aC b3) (.k 1 (aS b2) (.k 1 (dJ b1) (.k 1 (aS b0) (.n 2 .nil))))))) (.c (nO) (.c (cZ x.op) .nil))
     ·rcases tf ((x.neg==false) && ((x.num==(ag 1)) && ((x.den==(ag 1)) && true))) with b5|b5
      ·rw [show aJ x=0 by simp only [aJ,fZ,sQ,b0,b1,b2,b3,b4,b5]<;>rfl]
       exact pK [] 8 10 (.k 1 (aB b1) (.k 1 (aS b5) (.k 3 (aB b4) (.k 3 (aC b3) (.k 1 (aS b2) (.k 1 (dJ b1) (.k 1 (aS b0) (.n 2 .nil)))))))) (.c (D7) (.c (nO) (.c (cZ x.op) .nil)))
      ·rw [show aJ x=11 by simp only [aJ,fZ,sQ,b0,b1,b2,b3,b4,b5]<;>rfl]
       exact pK [] 6 42 (.c (dJ b5) (.k 3 (aB b4) (.k 3 (aC b3) (.k 1 (aS b2) (.k 1 (dJ b1) (.k 1 (aS b0) (.n 2 .nil))))))) (.c (D7) (.c (nO) (.c (cZ x.op) .nil)))
    ·rcases tf (vG x.op) with b4|b4
     ·rcases tf (iW x.neg x.num x.den) with b5|b5
      ·rw [show aJ x=0 by simp only [aJ,fZ,sQ,b0,b1,b2,b3,b4,b5]<;>rfl]
       exact pK [] 8 18 (.k 1 (aB b1) (.k 1 (aS b5) (.k 3 (aC b4) (.k 1 (aB b3) (.k 1 (aS b2) (.k 1 (dJ b1) (.k 1 (aS b0) (.n 2 .nil)))))))) (.c (ja x.neg x.num x.den a b) (.c (cZ x.op) .nil))
      ·rw [show aJ x=11 by simp only [aJ,fZ,sQ,b0,b1,b2,b3,b4,b5]<;>rfl]
       exact pK [] 6 50 (.c (dJ b5) (.k 3 (aC b4) (.k 1 (aB b3) (.k 1 (aS b2) (.k 1 (dJ b1) (.k 1 (aS b0) (.n 2 .nil))))))) (.c (ja x.neg x.num x.den a b) (.c (cZ x.op) .nil))
     ·rcases tf (pU x.op) with b5|b5
      ·rcases tf (iW x.neg x.num x.den) with b6|b6
       ·rcases tf (decide (((0:Nat):Int)<(fV x.neg x.num x.den))) with b7|b7
        ·rw [show aJ x=0 by simp only [aJ,fZ,sQ,b0,b1,b2,b3,b4,b5,b6,b7]<;>rfl]
         exact pK [] 10 98 (.k 1 (aB b1) (.k 1 (aS b7) (.k 3 (aC b6) (.k 3 (aC b5) (.k 1 (aB b4) (.k 1 (aB b3) (.k 1 (aS b2) (.k 1 (dJ b1) (.k 1 (aS b0) (.n 2 .nil)))))))))) (.c (fG x.neg x.num x.den a b) (.c (ja x.neg x.num x.den a b) (.c (cZ x.op) .nil)))
        ·rw [show aJ x=11 by simp only [aJ,fZ,sQ,b0,b1,b2,b3,b4,b5,b6,b7]<;>rfl]
         exact pK [] 8 226 (.c (dJ b7) (.k 3 (aC b6) (.k 3 (aC b5) (.k 1 (aB b4) (.k 1 (aB b3) (.k 1 (aS b2) (.k 1 (dJ b1) (.k 1 (aS b0) (.n 2 .nil))))))))) (.c (fG x.neg x.num x.den a b) (.c (ja x.neg x.num x.den a b) (.c (cZ x.op) .nil)))
       ·rw [show aJ x=11 by simp only [aJ,fZ,sQ,b0,b1,b2,b3,b4,b5,b6]<;>rfl]
        exact pK [] 8 162 (.k 1 (aB b6) (.k 3 (aC b5) (.k 1 (aB b4) (.k 1 (aB b3) (.k 1 (aS b2) (.k 1 (dJ b1) (.k 1 (aS b0) (.n 2 .nil)))))))) (.c (ja x.neg x.num x.den a b) (.c (cZ x.op) .nil))
      ·rcases tf ((x.neg==false) && ((x.num== []) && ((x.den== []) && true))) with b6|b6
       ·rw [show aJ x=0 by simp only [aJ,fZ,sQ,b0,b1,b2,b3,b4,b5,b6]<;>rfl]
        exact pK [] 9 2 (.k 1 (aB b1) (.k 1 (aS b6) (.k 3 (aB b5) (.k 1 (aB b4) (.k 1 (aB b3) (.k 1 (aS b2) (.k 1 (dJ b1) (.k 1 (aS b0) (.n 2 .nil))))))))) (.c (cZ x.op) .nil)
       ·rw [show aJ x=11 by simp only [aJ,fZ,sQ,b0,b1,b2,b3,b4,b5,b6]<;>rfl]
        exact pK [] 7 66 (.c (dJ b6) (.k 3 (aB b5) (.k 1 (aB b4) (.k 1 (aB b3) (.k 1 (aS b2) (.k 1 (dJ b1) (.k 1 (aS b0) (.n 2 .nil)))))))) (.c (cZ x.op) .nil)
   ·rw [show aJ x=11 by simp only [aJ,fZ,sQ,b0,b1,b2]<;>rfl]
    exact pK [] 3 6 (.c (dJ b2) (.k 1 (dJ b1) (.k 1 (aS b0) (.n 2 .nil)))) (.c (cZ x.op) .nil)
 ·rw [show aJ x=11 by simp only [aJ,fZ,sQ,b0]<;>rfl]
  exact pK [] 2 3 (.k 1 (dJ b0) (.n 2 .nil)) (.c (cZ x.op) .nil)
theorem KH (x:Nd) (a:x.sm):CO 74 [.agg (iY x)] (.ret (.bool (fZ x))):=by
 rcases tf (x.op==((4:Nat):Int)) with b0|b0
 ·rcases tf ((x.neg==false) && ((x.num==(ag 0)) && ((x.den==(ag 1)) && true))) with b1|b1
  ·rw [show fZ x=true by simp only [fZ,sQ,b0,b1]<;>rfl]
   exact pK [] 2 3 (.c (aC b1) (.k 3 (aC b0) (.n 1 .nil))) (.c (aad) .nil)
  ·rw [show fZ x=((x.neg==false) && ((x.num==(ag 1)) && ((x.den==(ag 1)) && true))) by simp only [fZ,sQ,b0,b1]<;>rfl]
   exact pK [] 2 1 (.k 3 (aB b1) (.k 3 (aC b0) (.n 1 .nil))) (.c (ak_) (.c (aad) .nil))
 ·rcases tf (vG x.op) with b1|b1
  ·rw [show fZ x=(iW x.neg x.num x.den) by simp only [fZ,sQ,b0,b1]<;>rfl]
   exact pK [] 2 2 (.k 3 (aC b1) (.k 1 (aB b0) (.n 1 .nil))) (.c (iT x.neg x.num x.den a.1 a.2) (.c (A8 x.op) .nil))
  ·rcases tf (pU x.op) with b2|b2
   ·rcases tf (iW x.neg x.num x.den) with b3|b3
    ·rw [show fZ x=(decide (((0:Nat):Int)<(fV x.neg x.num x.den))) by simp only [fZ,sQ,b0,b1,b2,b3]<;>rfl]
     exact pK [] 4 12 (.k 3 (aC b3) (.k 3 (aC b2) (.k 1 (aB b1) (.k 1 (aB b0) (.n 1 .nil))))) (.c (fM x.neg x.num x.den a.1 a.2) (.c (iT x.neg x.num x.den a.1 a.2) (.c (Bg x.op) (.c (A8 x.op) .nil))))
    ·rw [show fZ x=false by simp only [fZ,sQ,b0,b1,b2,b3]<;>rfl]
     exact pK [] 4 4 (.c (aB b3) (.k 3 (aC b2) (.k 1 (aB b1) (.k 1 (aB b0) (.n 1 .nil))))) (.c (iT x.neg x.num x.den a.1 a.2) (.c (Bg x.op) (.c (A8 x.op) .nil)))
   ·rw [show fZ x=((x.neg==false) && ((x.num== []) && ((x.den== []) && true))) by simp only [fZ,sQ,b0,b1,b2]<;>rfl]
    exact pK [] 3 0 (.k 3 (aB b2) (.k 1 (aB b1) (.k 1 (aB b0) (.n 1 .nil)))) (.c (Bg x.op) (.c (A8 x.op) .nil))
def aI (l:List Nd):List AV:=l.flatMap iY
theorem an1 {nt:Nat} (g:35≤nt) (l:List Nd) (b:Bool) (k d:Nat) (w:Int) (x:Nd) (r:List Nd) (a:(List.drop ((Int.toNat (k:Int))*5) (aI l))=iY x++aI r) (h0:lit true (!(w==((0:Nat):Int)))=true) (i:(decide (((0:Nat):Int)≤(k:Int)))=true) (c:(decide ((k:Int)<(l.length:Int)))=true) (e:lit true (decide ((k:Int)<(l.length:Int)))=true) (f:CO 52 [.agg [.int .i64 x.op,.bool x.neg,.str x.num,.str x.den,.str x.name]] (.ret (.int .i64 w))):aj prog ap [] nt (ae 0 (af f21)) ⟨[(10,.sl (aI l) l.length b),(11,.int .i64 (l.length:Int)),(12,.int .i64 (k:Int)),(3,.int .i64 (d:Int))],[],.dead,[]⟩ (.ret) ⟨[(2,.int .i64 w)],[],.dead,[]⟩:=
 have h:aj prog ap [] nt (ae 0 (af f21)) ⟨[(10,.sl (aI l) l.length b),(11,.int .i64 (l.length:Int)),(12,.int .i64 (k:Int)),(3,.int .i64 (d:Int))],[],.dead,[]⟩ (.ret) ⟨[(2,.int .i64 w)],[(0,⟨[.int .i64 x.op,.bool x.neg,.str x.num,.str x.den,.str x.name],0,false,0,0,true⟩)],.dead,[]⟩:=pJ 21 [] 2 3 (.c h0 (.k 11 i (.c c (.c e .nil)))) (.c f (.v 14 (.ppt a) .nil)) g
 h.forgetD 0 ⟨[.int .i64 x.op,.bool x.neg,.str x.num,.str x.den,.str x.name],0,false,0,0,true⟩ (by intro v h;cases h) (by decide) rfl ⟨Fz.same rfl,trivial⟩ rfl rfl
theorem an2 {nt:Nat} (j:35≤nt) (l:List Nd) (b:Bool) (k d:Nat) (w:Int) (x:Nd) (r:List Nd) (a:(List.drop ((Int.toNat (k:Int))*5) (aI l))=iY x++aI r) (h0:lit true (decide ((IntKind.wrap .i64 ((d:Int) - (AV.toInt (List.headD (List.drop ((0+((Int.toNat x.op)*5))+1) jS) .dead))))<((0:Nat):Int)))=true) (o:(gV (.int .i64) (List.headD (List.drop ((0+((Int.toNat x.op)*5))+1) jS) .dead))=true) (c:(decide (((0:Nat):Int)≤x.op))=true) (e:(decide (x.op<((25:Nat):Int)))=true) (m:lit false (!(w==((0:Nat):Int)))=true) (n:(decide (((0:Nat):Int)≤(k:Int)))=true) (g:(decide ((k:Int)<(l.length:Int)))=true) (i:lit true (decide ((k:Int)<(l.length:Int)))=true) (f:CO 52 [.agg [.int .i64 x.op,.bool x.neg,.str x.num,.str x.den,.str x.name]] (.ret (.int .i64 w))):aj prog ap [] nt (ae 0 (af f21)) ⟨[(10,.sl (aI l) l.length b),(11,.int .i64 (l.length:Int)),(12,.int .i64 (k:Int)),(3,.int .i64 (d:Int))],[],.dead,[]⟩ (.ret) ⟨[(2,.int .i64 11)],[],.dead,[]⟩:=
 have h:aj prog ap [] nt (ae 0 (af f21)) ⟨[(10,.sl (aI l) l.length b),(11,.int .i64 (l.length:Int)),(12,.int .i64 (k:Int)),(3,.int .i64 (d:Int))],[],.dead,[]⟩ (.ret) ⟨[(2,.int .i64 11)],[(0,⟨[.int .i64 x.op,.bool x.neg,.str x.num,.str x.den,.str x.name],0,false,0,0,true⟩)],.dead,[]⟩:=pJ 21 [] 3 5 (.c h0 (.c o (.c c (.c e (.k 1 m (.k 11 n (.c g (.c i .nil)))))))) (.c f (.v 14 (.ppt a) .nil)) j
 h.forgetD 0 ⟨[.int .i64 x.op,.bool x.neg,.str x.num,.str x.den,.str x.name],0,false,0,0,true⟩ (by intro v h;cases h) (by decide) rfl ⟨Fz.same rfl,trivial⟩ rfl rfl
theorem an3 {nt:Nat} (j:35≤nt) (l:List Nd) (a:Bool) (k d:Nat) (w:Int) (x:Nd) (r:List Nd) (b:(List.drop ((Int.toNat (k:Int))*5) (aI l))=iY x++aI r) (h0:lit false (decide ((IntKind.wrap .i64 ((d:Int) - (AV.toInt (List.headD (List.drop ((0+((Int.toNat x.op)*5))+1) jS) .dead))))<((0:Nat):Int)))=true) (o:(gV (.int .i64) (List.headD (List.drop ((0+((Int.toNat x.op)*5))+1) jS) .dead))=true) (c:(decide (((0:Nat):Int)≤x.op))=true) (e:(decide (x.op<((25:Nat):Int)))=true) (m:lit false (!(w==((0:Nat):Int)))=true) (n:(decide (((0:Nat):Int)≤(k:Int)))=true) (g:(decide ((k:Int)<(l.length:Int)))=true) (i:lit true (decide ((k:Int)<(l.length:Int)))=true) (f:CO 52 [.agg [.int .i64 x.op,.bool x.neg,.str x.num,.str x.den,.str x.name]] (.ret (.int .i64 w))):aj prog ap [] nt (ae 0 (af f21)) ⟨[(10,.sl (aI l) l.length a),(11,.int .i64 (l.length:Int)),(12,.int .i64 (k:Int)),(3,.int .i64 (d:Int))],[],.dead,[]⟩ (.normal) ⟨[(10,.sl (aI l) l.length a),(11,.int .i64 (l.length:Int)),(12,.int .i64 (IntKind.wrap .i64 ((k:Int)+((1:Nat):Int)))),(3,.int .i64 (IntKind.wrap .i64 ((IntKind.wrap .i64 ((d:Int) - (AV.toInt (List.headD (List.drop ((0+((Int.toNat x.op)*5))+1) jS) .dead))))+((1:Nat):Int))))],[],.dead,[]⟩:=
 have h:aj prog ap [] nt (ae 0 (af f21)) ⟨[(10,.sl (aI l) l.length a),(11,.int .i64 (l.length:Int)),(12,.int .i64 (k:Int)),(3,.int .i64 (d:Int))],[],.dead,[]⟩ (.normal) ⟨[(10,.sl (aI l) l.length a),(11,.int .i64 (l.length:Int)),(12,.int .i64 (IntKind.wrap .i64 ((k:Int)+((1:Nat):Int)))),(3,.int .i64 (IntKind.wrap .i64 ((IntKind.wrap .i64 ((d:Int) - (AV.toInt (List.headD (List.drop ((0+((Int.toNat x.op)*5))+1) jS) .dead))))+((1:Nat):Int))))],[(0,⟨[.int .i64 x.op,.bool x.neg,.str x.num,.str x.den,.str x.name],0,false,0,0,true⟩)],.dead,[]⟩:=pJ 21 [] 3 1 (.c h0 (.c o (.c c (.c e (.k 1 m (.k 11 n (.c g (.c i .nil)))))))) (.c f (.v 14 (.ppt b) .nil)) j
 h.forgetD 0 ⟨[.int .i64 x.op,.bool x.neg,.str x.num,.str x.den,.str x.name],0,false,0,0,true⟩ (by intro v h;cases h) (by decide) rfl ⟨Fz.same rfl,Fz.same rfl,Fz.same rfl,Fz.same rfl,trivial⟩ rfl rfl
theorem S_ {nt:Nat} (b:35≤nt) (l:List Nd) (a:Bool) (k d:Nat) (w:Int) (h0:lit false (decide ((k:Int)<(l.length:Int)))=true):aj prog ap [] nt (ae 0 (af f21)) ⟨[(10,.sl (aI l) l.length a),(11,.int .i64 (l.length:Int)),(12,.int .i64 (k:Int)),(3,.int .i64 (d:Int))],[],.dead,[]⟩ (.exit 0) ⟨[(3,.int .i64 (d:Int))],[],.dead,[]⟩:=pJ 21 [] 1 0 (.c h0 .nil) (.nil) b
theorem aen (l:List Nd) (a:Bool) (d:Nat) (h0:lit true (decide (((60:Nat):Int)<(l.length:Int)))=true):CO 21 [.sl (aI l) l.length a] (.ret (.int .i64 2)):=pK [0] 1 1 (.c h0 .nil) (.nil)
theorem aeo (l:List Nd) (a:Bool) (d:Nat) (h0:lit true (!((d:Int)==((1:Nat):Int)))=true) (b:lit false (decide (((60:Nat):Int)<(l.length:Int)))=true) (c:aH prog ap [] 35 (.block 0 (.loop (ae 0 (af f21)))) ⟨[(0,.sl (aI l) l.length a),(2,.int .i64 0),(3,.int .i64 0),(5,.dead),(6,.dead),(9,.bool (decide (((60:Nat):Int)<(l.length:Int)))),(10,.sl (aI l) l.length a),(11,.int .i64 (l.length:Int)),(12,.int .i64 0),(13,.dead),(19,.dead),(29,.dead),(34,.dead)],[],.dead,[]⟩ (.normal) ⟨[(3,.int .i64 (d:Int))],[],.dead,[]⟩):CO 21 [.sl (aI l) l.length a] (.ret (.int .i64 11)):=pK [0] 2 2 (.c h0 (.c b .nil)) (.l c .nil)
theorem aep (l:List Nd) (a:Bool) (d:Nat) (h0:lit false (!((d:Int)==((1:Nat):Int)))=true) (b:lit false (decide (((60:Nat):Int)<(l.length:Int)))=true) (c:aH prog ap [] 35 (.block 0 (.loop (ae 0 (af f21)))) ⟨[(0,.sl (aI l) l.length a),(2,.int .i64 0),(3,.int .i64 0),(5,.dead),(6,.dead),(9,.bool (decide (((60:Nat):Int)<(l.length:Int)))),(10,.sl (aI l) l.length a),(11,.int .i64 (l.length:Int)),(12,.int .i64 0),(13,.dead),(19,.dead),(29,.dead),(34,.dead)],[],.dead,[]⟩ (.normal) ⟨[(3,.int .i64 (d:Int))],[],.dead,[]⟩):CO 21 [.sl (aI l) l.length a] (.ret (.int .i64 0)):=pK [0] 2 0 (.c h0 (.c b .nil)) (.l c .nil)
theorem aeq (l:List Nd) (a:Bool) (w:Int) (h0:lit false (decide (((60:Nat):Int)<(l.length:Int)))=true) (b:aH prog ap [] 35 (.block 0 (.loop (ae 0 (af f21)))) ⟨[(0,.sl (aI l) l.length a),(2,.int .i64 0),(3,.int .i64 0),(5,.dead),(6,.dead),(9,.bool (decide (((60:Nat):Int)<(l.length:Int)))),(10,.sl (aI l) l.length a),(11,.int .i64 (l.length:Int)),(12,.int .i64 0),(13,.dead),(19,.dead),(29,.dead),(34,.dead)],[],.dead,[]⟩ (.ret) ⟨[(2,.int .i64 w)],[],.dead,[]⟩):CO 21 [.sl (aI l) l.length a] (.ret (.int .i64 w)):=pK [0] 1 0 (.c h0 .nil) (.l b .nil)
theorem alv {nt:Nat} (i:69≤nt) (l:List Nd) (b:Bool) (k d:Nat) (g n:Bool) (x:Nd) (r:List Nd) (a:(List.drop ((Int.toNat (k:Int))*5) (aI l))=iY x++aI r) (h0:lit true (decide (x.op<((1:Nat):Int)))=true) (j:(decide (((0:Nat):Int)≤(k:Int)))=true) (c:(decide ((k:Int)<(l.length:Int)))=true) (e:lit true (decide ((k:Int)<(l.length:Int)))=true) (f:CO 32 [.int .i64 x.op] (.ret (.bool (gG x.op)))) (m:CO 74 [.agg [.int .i64 x.op,.bool x.neg,.str x.num,.str x.den,.str x.name]] (.ret (.bool g))):aj prog ap [] nt (ae 0 (af f48)) ⟨[(0,.sl (aI l) l.length b),(4,.int .i64 (k:Int)),(3,.int .i64 (d:Int))],[],.dead,[]⟩ (.ret) ⟨[(2,.int .i64 11)],[],.dead,[]⟩:=
 have h:aj prog ap [] nt (ae 0 (af f48)) ⟨[(0,.sl (aI l) l.length b),(4,.int .i64 (k:Int)),(3,.int .i64 (d:Int))],[],.dead,[]⟩ (.ret) ⟨[(2,.int .i64 11)],[(0,⟨[.int .i64 x.op,.bool x.neg,.str x.num,.str x.den,.str x.name],0,false,0,0,true⟩)],.dead,[]⟩:=pJ 48 [] 5 31 (.k 3 h0 (.k 13 j (.c c (.c e .nil)))) (.c m (.c f (.v 21 (.ppt a) .nil))) i
 h.forgetD 0 ⟨[.int .i64 x.op,.bool x.neg,.str x.num,.str x.den,.str x.name],0,false,0,0,true⟩ (by intro v h;cases h) (by decide) rfl ⟨Fz.same rfl,trivial⟩ rfl rfl
theorem alx {nt:Nat} (i:69≤nt) (l:List Nd) (b:Bool) (k d:Nat) (g o:Bool) (x:Nd) (r:List Nd) (a:(List.drop ((Int.toNat (k:Int))*5) (aI l))=iY x++aI r) (h0:lit true (decide (((24:Nat):Int)<x.op))=true) (j:lit false (decide (x.op<((1:Nat):Int)))=true) (c:(decide (((0:Nat):Int)≤(k:Int)))=true) (e:(decide ((k:Int)<(l.length:Int)))=true) (m:lit true (decide ((k:Int)<(l.length:Int)))=true) (f:CO 32 [.int .i64 x.op] (.ret (.bool (gG x.op)))) (n:CO 74 [.agg [.int .i64 x.op,.bool x.neg,.str x.num,.str x.den,.str x.name]] (.ret (.bool g))):aj prog ap [] nt (ae 0 (af f48)) ⟨[(0,.sl (aI l) l.length b),(4,.int .i64 (k:Int)),(3,.int .i64 (d:Int))],[],.dead,[]⟩ (.ret) ⟨[(2,.int .i64 11)],[],.dead,[]⟩:=
 have h:aj prog ap [] nt (ae 0 (af f48)) ⟨[(0,.sl (aI l) l.length b),(4,.int .i64 (k:Int)),(3,.int .i64 (d:Int))],[],.dead,[]⟩ (.ret) ⟨[(2,.int .i64 11)],[(0,⟨[.int .i64 x.op,.bool x.neg,.str x.num,.str x.den,.str x.name],0,false,0,0,true⟩)],.dead,[]⟩:=pJ 48 [] 5 29 (.k 2 h0 (.k 1 j (.k 13 c (.c e (.c m .nil))))) (.c n (.c f (.v 21 (.ppt a) .nil))) i
 h.forgetD 0 ⟨[.int .i64 x.op,.bool x.neg,.str x.num,.str x.den,.str x.name],0,false,0,0,true⟩ (by intro v h;cases h) (by decide) rfl ⟨Fz.same rfl,trivial⟩ rfl rfl
theorem aly {nt:Nat} (i:69≤nt) (l:List Nd) (b:Bool) (k d:Nat) (c p:Bool) (x:Nd) (r:List Nd) (a:(List.drop ((Int.toNat (k:Int))*5) (aI l))=iY x++aI r) (h0:lit true (!c)=true) (o:lit false (decide (((24:Nat):Int)<x.op))=true) (e:lit false (decide (x.op<((1:Nat):Int)))=true) (f:(decide (((0:Nat):Int)≤(k:Int)))=true) (j:(decide ((k:Int)<(l.length:Int)))=true) (m:lit true (decide ((k:Int)<(l.length:Int)))=true) (g:CO 32 [.int .i64 x.op] (.ret (.bool (gG x.op)))) (n:CO 74 [.agg [.int .i64 x.op,.bool x.neg,.str x.num,.str x.den,.str x.name]] (.ret (.bool c))):aj prog ap [] nt (ae 0 (af f48)) ⟨[(0,.sl (aI l) l.length b),(4,.int .i64 (k:Int)),(3,.int .i64 (d:Int))],[],.dead,[]⟩ (.ret) ⟨[(2,.int .i64 11)],[],.dead,[]⟩:=
 have h:aj prog ap [] nt (ae 0 (af f48)) ⟨[(0,.sl (aI l) l.length b),(4,.int .i64 (k:Int)),(3,.int .i64 (d:Int))],[],.dead,[]⟩ (.ret) ⟨[(2,.int .i64 11)],[(0,⟨[.int .i64 x.op,.bool x.neg,.str x.num,.str x.den,.str x.name],0,false,0,0,true⟩)],.dead,[]⟩:=pJ 48 [] 5 25 (.k 1 h0 (.c o (.k 1 e (.k 13 f (.c j (.c m .nil)))))) (.c n (.c g (.v 21 (.ppt a) .nil))) i
 h.forgetD 0 ⟨[.int .i64 x.op,.bool x.neg,.str x.num,.str x.den,.str x.name],0,false,0,0,true⟩ (by intro v h;cases h) (by decide) rfl ⟨Fz.same rfl,trivial⟩ rfl rfl
theorem alz {nt:Nat} (m:69≤nt) (l:List Nd) (b:Bool) (k d:Nat) (c s:Bool) (x:Nd) (r:List Nd) (a:(List.drop ((Int.toNat (k:Int))*5) (aI l))=iY x++aI r) (h0:lit true (!(x.name== []))=true) (q:lit true (!(gG x.op))=true) (e:lit false (!c)=true) (f:lit false (decide (((24:Nat):Int)<x.op))=true) (n:lit false (decide (x.op<((1:Nat):Int)))=true) (o:(decide (((0:Nat):Int)≤(k:Int)))=true) (i:(decide ((k:Int)<(l.length:Int)))=true) (j:lit true (decide ((k:Int)<(l.length:Int)))=true) (g:CO 32 [.int .i64 x.op] (.ret (.bool (gG x.op)))) (p:CO 74 [.agg [.int .i64 x.op,.bool x.neg,.str x.num,.str x.den,.str x.name]] (.ret (.bool c))):aj prog ap [] nt (ae 0 (af f48)) ⟨[(0,.sl (aI l) l.length b),(4,.int .i64 (k:Int)),(3,.int .i64 (d:Int))],[],.dead,[]⟩ (.ret) ⟨[(2,.int .i64 11)],[],.dead,[]⟩:=
 have h:aj prog ap [] nt (ae 0 (af f48)) ⟨[(0,.sl (aI l) l.length b),(4,.int .i64 (k:Int)),(3,.int .i64 (d:Int))],[],.dead,[]⟩ (.ret) ⟨[(2,.int .i64 11)],[(0,⟨[.int .i64 x.op,.bool x.neg,.str x.num,.str x.den,.str x.name],0,false,0,0,true⟩)],.dead,[]⟩:=pJ 48 [] 6 49 (.c h0 (.k 1 q (.c e (.c f (.k 1 n (.k 13 o (.c i (.c j .nil)))))))) (.c p (.c g (.v 21 (.ppt a) .nil))) m
 h.forgetD 0 ⟨[.int .i64 x.op,.bool x.neg,.str x.num,.str x.den,.str x.name],0,false,0,0,true⟩ (by intro v h;cases h) (by decide) rfl ⟨Fz.same rfl,trivial⟩ rfl rfl
theorem alA {nt:Nat} (p:69≤nt) (l:List Nd) (b:Bool) (k d:Nat) (c o:Bool) (x:Nd) (r:List Nd) (a:(List.drop ((Int.toNat (k:Int))*5) (aI l))=iY x++aI r) (h0:lit true (decide ((d:Int)<(((dL x.op):Nat):Int)))=true) (y:lit false (gG x.op)=true) (e:lit false (!(x.name== []))=true) (f:lit true (!(gG x.op))=true) (s:lit false (!c)=true) (t:lit false (decide (((24:Nat):Int)<x.op))=true) (j:lit false (decide (x.op<((1:Nat):Int)))=true) (n:(decide (((0:Nat):Int)≤(k:Int)))=true) (g:(decide ((k:Int)<(l.length:Int)))=true) (q:lit true (decide ((k:Int)<(l.length:Int)))=true) (i:CO 32 [.int .i64 x.op] (.ret (.bool (gG x.op)))) (u:CO 74 [.agg [.int .i64 x.op,.bool x.neg,.str x.num,.str x.den,.str x.name]] (.ret (.bool c))) (w:CO 75 [.str x.name] (.ret (.bool o))) (m:CO 30 [.int .i64 x.op] (.ret (.int .i64 (((dL x.op):Nat):Int)))):aj prog ap [] nt (ae 0 (af f48)) ⟨[(0,.sl (aI l) l.length b),(4,.int .i64 (k:Int)),(3,.int .i64 (d:Int))],[],.dead,[]⟩ (.ret) ⟨[(2,.int .i64 11)],[],.dead,[]⟩:=
 have h:aj prog ap [] nt (ae 0 (af f48)) ⟨[(0,.sl (aI l) l.length b),(4,.int .i64 (k:Int)),(3,.int .i64 (d:Int))],[],.dead,[]⟩ (.ret) ⟨[(2,.int .i64 11)],[(0,⟨[.int .i64 x.op,.bool x.neg,.str x.num,.str x.den,.str x.name],0,false,0,0,true⟩)],.dead,[]⟩:=pJ 48 [] 9 273 (.c h0 (.k 2 y (.k 1 e (.k 1 f (.c s (.c t (.k 1 j (.k 13 n (.c g (.c q .nil)))))))))) (.c m (.c w (.c u (.c i (.v 21 (.ppt a) .nil))))) p
 h.forgetD 0 ⟨[.int .i64 x.op,.bool x.neg,.str x.num,.str x.den,.str x.name],0,false,0,0,true⟩ (by intro v h;cases h) (by decide) rfl ⟨Fz.same rfl,trivial⟩ rfl rfl
theorem alB {nt:Nat} (p:69≤nt) (l:List Nd) (a:Bool) (k d:Nat) (c o:Bool) (x:Nd) (r:List Nd) (b:(List.drop ((Int.toNat (k:Int))*5) (aI l))=iY x++aI r) (h0:lit false (decide ((d:Int)<(((dL x.op):Nat):Int)))=true) (y:lit false (gG x.op)=true) (e:lit false (!(x.name== []))=true) (f:lit true (!(gG x.op))=true) (s:lit false (!c)=true) (t:lit false (decide (((24:Nat):Int)<x.op))=true) (j:lit false (decide (x.op<((1:Nat):Int)))=true) (n:(decide (((0:Nat):Int)≤(k:Int)))=true) (g:(decide ((k:Int)<(l.length:Int)))=true) (q:lit true (decide ((k:Int)<(l.length:Int)))=true) (i:CO 32 [.int .i64 x.op] (.ret (.bool (gG x.op)))) (u:CO 74 [.agg [.int .i64 x.op,.bool x.neg,.str x.num,.str x.den,.str x.name]] (.ret (.bool c))) (w:CO 75 [.str x.name] (.ret (.bool o))) (m:CO 30 [.int .i64 x.op] (.ret (.int .i64 (((dL x.op):Nat):Int)))):aj prog ap [] nt (ae 0 (af f48)) ⟨[(0,.sl (aI l) l.length a),(4,.int .i64 (k:Int)),(3,.int .i64 (d:Int))],[],.dead,[]⟩ (.normal) ⟨[(0,.sl (aI l) l.length a),(4,.int .i64 (IntKind.wrap .i64 ((k:Int)+((1:Nat):Int)))),(3,.int .i64 (IntKind.wrap .i64 ((IntKind.wrap .i64 ((d:Int) - (((dL x.op):Nat):Int)))+((1:Nat):Int))))],[],.dead,[]⟩:=
 have h:aj prog ap [] nt (ae 0 (af f48)) ⟨[(0,.sl (aI l) l.length a),(4,.int .i64 (k:Int)),(3,.int .i64 (d:Int))],[],.dead,[]⟩ (.normal) ⟨[(0,.sl (aI l) l.length a),(4,.int .i64 (IntKind.wrap .i64 ((k:Int)+((1:Nat):Int)))),(3,.int .i64 (IntKind.wrap .i64 ((IntKind.wrap .i64 ((d:Int) - (((dL x.op):Nat):Int)))+((1:Nat):Int))))],[(0,⟨[.int .i64 x.op,.bool x.neg,.str x.num,.str x.den,.str x.name],0,false,0,0,true⟩)],.dead,[]⟩:=pJ 48 [] 9 17 (.c h0 (.k 2 y (.k 1 e (.k 1 f (.c s (.c t (.k 1 j (.k 13 n (.c g (.c q .nil)))))))))) (.c m (.c w (.c u (.c i (.v 21 (.ppt b) .nil))))) p
 h.forgetD 0 ⟨[.int .i64 x.op,.bool x.neg,.str x.num,.str x.den,.str x.name],0,false,0,0,true⟩ (by intro v h;cases h) (by decide) rfl ⟨Fz.same rfl,Fz.same rfl,Fz.same rfl,trivial⟩ rfl rfl
theorem alC {nt:Nat} (o:69≤nt) (l:List Nd) (c:Bool) (k d:Nat) (e b:Bool) (x:Nd) (r:List Nd) (a:(List.drop ((Int.toNat (k:Int))*5) (aI l))=iY x++aI r) (h0:lit true (!b)=true) (u:lit true (gG x.op)=true) (f:lit false (!(gG x.op))=true) (g:lit false (!e)=true) (p:lit false (decide (((24:Nat):Int)<x.op))=true) (q:lit false (decide (x.op<((1:Nat):Int)))=true) (m:(decide (((0:Nat):Int)≤(k:Int)))=true) (n:(decide ((k:Int)<(l.length:Int)))=true) (i:lit true (decide ((k:Int)<(l.length:Int)))=true) (j:CO 32 [.int .i64 x.op] (.ret (.bool (gG x.op)))) (s:CO 74 [.agg [.int .i64 x.op,.bool x.neg,.str x.num,.str x.den,.str x.name]] (.ret (.bool e))) (t:CO 75 [.str x.name] (.ret (.bool b))):aj prog ap [] nt (ae 0 (af f48)) ⟨[(0,.sl (aI l) l.length c),(4,.int .i64 (k:Int)),(3,.int .i64 (d:Int))],[],.dead,[]⟩ (.ret) ⟨[(2,.int .i64 12)],[],.dead,[]⟩:=
 have h:aj prog ap [] nt (ae 0 (af f48)) ⟨[(0,.sl (aI l) l.length c),(4,.int .i64 (k:Int)),(3,.int .i64 (d:Int))],[],.dead,[]⟩ (.ret) ⟨[(2,.int .i64 12)],[(0,⟨[.int .i64 x.op,.bool x.neg,.str x.num,.str x.den,.str x.name],0,false,0,0,true⟩)],.dead,[]⟩:=pJ 48 [] 8 193 (.c h0 (.c u (.k 2 f (.c g (.c p (.k 1 q (.k 13 m (.c n (.c i .nil))))))))) (.c t (.c s (.c j (.v 21 (.ppt a) .nil)))) o
 h.forgetD 0 ⟨[.int .i64 x.op,.bool x.neg,.str x.num,.str x.den,.str x.name],0,false,0,0,true⟩ (by intro v h;cases h) (by decide) rfl ⟨Fz.same rfl,trivial⟩ rfl rfl
theorem alD {nt:Nat} (p:69≤nt) (l:List Nd) (c:Bool) (k d:Nat) (e b:Bool) (x:Nd) (r:List Nd) (a:(List.drop ((Int.toNat (k:Int))*5) (aI l))=iY x++aI r) (h0:lit true (decide ((d:Int)<(((dL x.op):Nat):Int)))=true) (y:lit false (!b)=true) (f:lit true (gG x.op)=true) (g:lit false (!(gG x.op))=true) (s:lit false (!e)=true) (t:lit false (decide (((24:Nat):Int)<x.op))=true) (m:lit false (decide (x.op<((1:Nat):Int)))=true) (o:(decide (((0:Nat):Int)≤(k:Int)))=true) (i:(decide ((k:Int)<(l.length:Int)))=true) (q:lit true (decide ((k:Int)<(l.length:Int)))=true) (j:CO 32 [.int .i64 x.op] (.ret (.bool (gG x.op)))) (u:CO 74 [.agg [.int .i64 x.op,.bool x.neg,.str x.num,.str x.den,.str x.name]] (.ret (.bool e))) (w:CO 75 [.str x.name] (.ret (.bool b))) (n:CO 30 [.int .i64 x.op] (.ret (.int .i64 (((dL x.op):Nat):Int)))):aj prog ap [] nt (ae 0 (af f48)) ⟨[(0,.sl (aI l) l.length c),(4,.int .i64 (k:Int)),(3,.int .i64 (d:Int))],[],.dead,[]⟩ (.ret) ⟨[(2,.int .i64 11)],[],.dead,[]⟩:=
 have h:aj prog ap [] nt (ae 0 (af f48)) ⟨[(0,.sl (aI l) l.length c),(4,.int .i64 (k:Int)),(3,.int .i64 (d:Int))],[],.dead,[]⟩ (.ret) ⟨[(2,.int .i64 11)],[(0,⟨[.int .i64 x.op,.bool x.neg,.str x.num,.str x.den,.str x.name],0,false,0,0,true⟩)],.dead,[]⟩:=pJ 48 [] 9 321 (.c h0 (.k 1 y (.c f (.k 2 g (.c s (.c t (.k 1 m (.k 13 o (.c i (.c q .nil)))))))))) (.c n (.c w (.c u (.c j (.v 21 (.ppt a) .nil))))) p
 h.forgetD 0 ⟨[.int .i64 x.op,.bool x.neg,.str x.num,.str x.den,.str x.name],0,false,0,0,true⟩ (by intro v h;cases h) (by decide) rfl ⟨Fz.same rfl,trivial⟩ rfl rfl
theorem alE {nt:Nat} (p:69≤nt) (l:List Nd) (a:Bool) (k d:Nat) (e c:Bool) (x:Nd) (r:List Nd) (b:(List.drop ((Int.toNat (k:Int))*5) (aI l))=iY x++aI r) (h0:lit false (decide ((d:Int)<(((dL x.op):Nat):Int)))=true) (y:lit false (!c)=true) (f:lit true (gG x.op)=true) (g:lit false (!(gG x.op))=true) (s:lit false (!e)=true) (t:lit false (decide (((24:Nat):Int)<x.op))=true) (m:lit false (decide (x.op<((1:Nat):Int)))=true) (o:(decide (((0:Nat):Int)≤(k:Int)))=true) (i:(decide ((k:Int)<(l.length:Int)))=true) (q:lit true (decide ((k:Int)<(l.length:Int)))=true) (j:CO 32 [.int .i64 x.op] (.ret (.bool (gG x.op)))) (u:CO 74 [.agg [.int .i64 x.op,.bool x.neg,.str x.num,.str x.den,.str x.name]] (.ret (.bool e))) (w:CO 75 [.str x.name] (.ret (.bool c))) (n:CO 30 [.int .i64 x.op] (.ret (.int .i64 (((dL x.op):Nat):Int)))):aj prog ap [] nt (ae 0 (af f48)) ⟨[(0,.sl (aI l) l.length a),(4,.int .i64 (k:Int)),(3,.int .i64 (d:Int))],[],.dead,[]⟩ (.normal) ⟨[(0,.sl (aI l) l.length a),(4,.int .i64 (IntKind.wrap .i64 ((k:Int)+((1:Nat):Int)))),(3,.int .i64 (IntKind.wrap .i64 ((IntKind.wrap .i64 ((d:Int) - (((dL x.op):Nat):Int)))+((1:Nat):Int))))],[],.dead,[]⟩:=
 have h:aj prog ap [] nt (ae 0 (af f48)) ⟨[(0,.sl (aI l) l.length a),(4,.int .i64 (k:Int)),(3,.int .i64 (d:Int))],[],.dead,[]⟩ (.normal) ⟨[(0,.sl (aI l) l.length a),(4,.int .i64 (IntKind.wrap .i64 ((k:Int)+((1:Nat):Int)))),(3,.int .i64 (IntKind.wrap .i64 ((IntKind.wrap .i64 ((d:Int) - (((dL x.op):Nat):Int)))+((1:Nat):Int))))],[(0,⟨[.int .i64 x.op,.bool x.neg,.str x.num,.str x.den,.str x.name],0,false,0,0,true⟩)],.dead,[]⟩:=pJ 48 [] 9 65 (.c h0 (.k 1 y (.c f (.k 2 g (.c s (.c t (.k 1 m (.k 13 o (.c i (.c q .nil)))))))))) (.c n (.c w (.c u (.c j (.v 21 (.ppt b) .nil))))) p
 h.forgetD 0 ⟨[.int .i64 x.op,.bool x.neg,.str x.num,.str x.den,.str x.name],0,false,0,0,true⟩ (by intro v h;cases h) (by decide) rfl ⟨Fz.same rfl,Fz.same rfl,Fz.same rfl,trivial⟩ rfl rfl
theorem QS {nt:Nat} (b:69≤nt) (l:List Nd) (a:Bool) (k d:Nat) (c e:Bool) (h0:lit false (decide ((k:Int)<(l.length:Int)))=true):aj prog ap [] nt (ae 0 (af f48)) ⟨[(0,.sl (aI l) l.length a),(4,.int .i64 (k:Int)),(3,.int .i64 (d:Int))],[],.dead,[]⟩ (.exit 0) ⟨[(3,.int .i64 (d:Int))],[],.dead,[]⟩:=pJ 48 [] 1 0 (.c h0 .nil) (.nil) b
theorem aca (l:List Nd) (a:Bool) (d:Nat) (h0:lit true (decide (((60:Nat):Int)<(l.length:Int)))=true):CO 48 [.sl (aI l) l.length a] (.ret (.int .i64 2)):=pK [0] 1 1 (.c h0 .nil) (.nil)
theorem acb (l:List Nd) (a:Bool) (d:Nat) (h0:lit true (!((d:Int)==((1:Nat):Int)))=true) (b:lit false (decide (((60:Nat):Int)<(l.length:Int)))=true) (c:aH prog ap [] 69 (.block 0 (.loop (ae 0 (af f48)))) ⟨[(0,.sl (aI l) l.length a),(2,.int .i64 0),(3,.int .i64 0),(4,.int .i64 0),(5,.dead),(6,.dead),(7,.dead),(8,.dead),(9,.dead),(12,.bool (decide (((60:Nat):Int)<(l.length:Int)))),(16,.dead),(48,.dead),(56,.dead),(62,.dead),(68,.dead)],[],.dead,[]⟩ (.normal) ⟨[(3,.int .i64 (d:Int))],[],.dead,[]⟩):CO 48 [.sl (aI l) l.length a] (.ret (.int .i64 11)):=pK [0] 2 2 (.c h0 (.c b .nil)) (.l c .nil)
theorem acd (l:List Nd) (a:Bool) (d:Nat) (h0:lit false (!((d:Int)==((1:Nat):Int)))=true) (b:lit false (decide (((60:Nat):Int)<(l.length:Int)))=true) (c:aH prog ap [] 69 (.block 0 (.loop (ae 0 (af f48)))) ⟨[(0,.sl (aI l) l.length a),(2,.int .i64 0),(3,.int .i64 0),(4,.int .i64 0),(5,.dead),(6,.dead),(7,.dead),(8,.dead),(9,.dead),(12,.bool (decide (((60:Nat):Int)<(l.length:Int)))),(16,.dead),(48,.dead),(56,.dead),(62,.dead),(68,.dead)],[],.dead,[]⟩ (.normal) ⟨[(3,.int .i64 (d:Int))],[],.dead,[]⟩):CO 48 [.sl (aI l) l.length a] (.ret (.int .i64 0)):=pK [0] 2 0 (.c h0 (.c b .nil)) (.l c .nil)
theorem ace (l:List Nd) (a:Bool) (w:Int) (h0:lit false (decide (((60:Nat):Int)<(l.length:Int)))=true) (b:aH prog ap [] 69 (.block 0 (.loop (ae 0 (af f48)))) ⟨[(0,.sl (aI l) l.length a),(2,.int .i64 0),(3,.int .i64 0),(4,.int .i64 0),(5,.dead),(6,.dead),(7,.dead),(8,.dead),(9,.dead),(12,.bool (decide (((60:Nat):Int)<(l.length:Int)))),(16,.dead),(48,.dead),(56,.dead),(62,.dead),(68,.dead)],[],.dead,[]⟩ (.ret) ⟨[(2,.int .i64 w)],[],.dead,[]⟩):CO 48 [.sl (aI l) l.length a] (.ret (.int .i64 w)):=pK [0] 1 0 (.c h0 .nil) (.l b .nil)
theorem KD (x:Nd) (r:List Nd):aI (x::r)=iY x++aI r:=rfl
theorem O9 (a b:List Nd):aI (a++b)=aI a++aI b:=by unfold aI;rw [List.flatMap_append]
theorem lG (l:List Nd):(aI l).length=l.length*5:=by
 induction l with
 |nil=>rfl
 |cons x r ih=>rw [KD,List.length_append,ih,List.length_cons];simp [iY];omega
theorem yh {p r:List Nd} {x:Nd} {k:Nat} (h:k=p.length):List.drop (Int.toNat (k:Int)*5) (aI (p++x::r))=iY x++aI r:=by
 subst h
 rw [aA,O9,KD,← lG,List.drop_left]
def jl:List Nd→Nat→Nat ⊕ Int
 | [],d=> .inl d
 |x::r,d=>if aJ x=0 then (if d<dL x.op then .inr 11 else jl r (d - dL x.op+1)) else .inr (aJ x)
def dG (l:List Nd):Int:=if 60<l.length then 2 else match jl l 0 with| .inl d=>if d=1 then 0 else 11| .inr w=>w
def JD:Nat ⊕ Int→bM
 | .inl _=> .exit 0
 | .inr _=> .ret
def Qb (l:List Nd) (nn:Bool) (p:Nat × Nat):St:=⟨[(10,.sl (aI l) l.length nn),(11,.int .i64 (l.length:Int)),(12,.int .i64 (p.1:Int)),(3,.int .i64 (p.2:Int))],[],.dead,[]⟩
def zL:Nat ⊕ Int→St
 | .inl d=> ⟨[(3,.int .i64 (d:Int))],[],.dead,[]⟩
 | .inr w=> ⟨[(2,.int .i64 w)],[],.dead,[]⟩
theorem MC (a:Int):dL a≤3:=by unfold dL;(repeat' split)<;>omega
theorem EL {x:Nd} (h:aJ x=0):1≤x.op∧x.op≤24:=by
 cases a:Jj x.op with
 |true=>simpa [Jj] using a
 |false=>unfold aJ at h;rw [a] at h;simp at h
theorem Tc {nt:Nat} (i:35≤nt) (l p r:List Nd) (c:Bool) (x:Nd) (d:Nat) (s:x.sm) (o:l=p++x::r) (u:l.length<2^40) (v:d<2^41):
  (¬ aJ x=0→aj prog ap [] nt (ae 0 (af f21)) (Qb l c (p.length,d)) .ret (zL (.inr (aJ x))))∧
  (aJ x=0→d<dL x.op→aj prog ap [] nt (ae 0 (af f21)) (Qb l c (p.length,d)) .ret (zL (.inr 11)))∧
  (aJ x=0→¬ d<dL x.op→aj prog ap [] nt (ae 0 (af f21)) (Qb l c (p.length,d)) .normal (Qb l c (p.length+1,d - dL x.op+1))):=by
 have b:List.drop (Int.toNat (p.length:Int)*5) (aI l)=iY x++aI r:=by rw [o];exact yh rfl
 have n:p.length+(r.length+1)=l.length:=by rw [o];simp
 have m:=V_ x s
 have t:=MC x.op
 unfold Qb zL
 refine ⟨fun e=> ?_,fun e q=> ?_,fun e q=> ?_⟩
 ·have a:=an1 i l c p.length d (aJ x) x r b
  have f:(!(aJ x==((0:Nat):Int)))=true:=by simpa using e
  simp (disch:=first|omega|(simp [ak,ay]<;>omega)) only [f,bG,dD,bu,aY] at a
  apply a<;>first|exact True.intro|omega|assumption|exact rfl
 ·obtain ⟨h,g⟩:=EL e
  have j:=Oj h g
  rw [e] at m
  have a:=an2 i l c p.length d 0 x r b
  have k:IntKind.wrap .i64 ((d:Int) - ((dL x.op:Nat):Int))=(d:Int) - (dL x.op:Int):=dB (by omega) (by omega)
  simp (disch:=first|omega|(simp [ak,ay]<;>omega)) only [Nat.zero_add,j,a_,k,bG,bu,eP,dM,eu,zY,dD,aY] at a
  apply a<;>first|exact True.intro|omega|assumption|exact rfl
 ·obtain ⟨h,g⟩:=EL e
  have j:=Oj h g
  rw [e] at m
  have a:=an3 i l c p.length d 0 x r b
  have k:IntKind.wrap .i64 ((d:Int) - ((dL x.op:Nat):Int))=((d - dL x.op:Nat):Int):=by rw [dB]<;>omega
  simp (disch:=first|omega|(simp [ak,ay]<;>omega)) only [Nat.zero_add,j,a_,k,aY,dM,eu,fB,eP,bu,zY,dD,bG,dA,bz] at a
  apply a<;>first|exact True.intro|omega|assumption|exact rfl
theorem WY {nt:Nat} (e:35≤nt) (l:List Nd) (b:Bool) (c:l.length<2^40) (a:∀ x ∈ l,x.sm):∀ (r p:List Nd) (d:Nat),p++r=l→d≤p.length→aF prog ap [] nt (ae 0 (af f21)) JD (Qb l b) zL (p.length,d) (jl r d):=by
 intro r
 induction r with
 |nil=>
  intro p d h _
  have hp:p.length=l.length:=by rw [← h];simp
  rw [hp]
  exact .done (S_ e l b l.length d 0 (by rw [aY];simp [lit]))
 | cons x r ih=>
  intro p d h k
  have j:p.length+(r.length+1)=l.length:=by rw [← h];simp
  obtain ⟨i,f,g⟩:=Tc e l p r b x d (a x (by rw [← h];simp)) h.symm c (by omega)
  simp only [jl]
  by_cases h1:aJ x=0
  ·rw [if_pos h1]
   by_cases h2:d<dL x.op
   ·rw [if_pos h2];exact .done (f h1 h2)
   ·rw [if_neg h2]
    have hnext:=ih (p++ [x]) (d - dL x.op+1) (by simp [h]) (by simp;omega)
    rw [List.length_append,List.length_singleton] at hnext
    exact .next (g h1 h2) hnext
  ·rw [if_neg h1];exact .done (i h1)
theorem B_ (l:List Nd) (a:Bool) (b:∀ x ∈ l,x.sm):CO 21 [.sl (aI l) l.length a] (.ret (.int .i64 (dG l))):=by
 unfold dG
 by_cases h60:60<l.length
 ·rw [if_pos h60]
  exact aen l a 0 (by rw [aY];exact decide_eq_true h60)
 ·rw [if_neg h60]
  have c:lit false (decide (((60:Nat):Int)<(l.length:Int)))=true:=by rw [aY];simp only [lit,Bool.not_eq_true'];exact decide_eq_false h60
  have hloop:=fun nt (hn:35≤nt)=>WY hn l a (by omega) b l [] 0 rfl (by simp)
  cases e:jl l 0 with
  | inl d=>
   rw [e] at hloop
   by_cases hd:d=1
   ·have h:=aep l a d (by rw [jQ,decide_eq_true hd];rfl) c
    simp only [if_pos hd]
    exact h (aF.blk hloop (by simp [JD]) rfl (aK.of ⟨rfl,rfl,rfl,rfl,trivial⟩) (aK.of ⟨rfl,trivial⟩))
   ·have h:=aeo l a d (by rw [jQ,decide_eq_false hd];rfl) c
    simp only [if_neg hd]
    exact h (aF.blk hloop (by simp [JD]) rfl (aK.of ⟨rfl,rfl,rfl,rfl,trivial⟩) (aK.of ⟨rfl,trivial⟩))
  |inr w=>
   rw [e] at hloop
   exact aeq l a w c (aF.blk hloop (by simp [JD]) rfl (aK.of ⟨rfl,rfl,rfl,rfl,trivial⟩) (aK.of ⟨rfl,trivial⟩))
def GN (l:List Nd) (nn:Bool) (p:Nat × Nat):St:=⟨[(0,.sl (aI l) l.length nn),(4,.int .i64 (p.1:Int)),(3,.int .i64 (p.2:Int))],[],.dead,[]⟩
theorem EK {x:Nd} (h:Jj x.op=false∨fZ x=false∨(gG x.op=false∧(x.name== [])=false)):aJ x=11:=by
 unfold aJ
 rcases h with h|h|⟨h,a⟩
 ·rw [h];rfl
 ·rw [h];cases (!Jj x.op||(!gG x.op && !(x.name== [])))<;>rfl
 ·rw [h,a];cases Jj x.op<;>rfl
theorem QT {nt:Nat} (o:69≤nt) (l p r:List Nd) (e:Bool) (x:Nd) (d:Nat) (B:x.sm) (z:l=p++x::r) (D:l.length<2^40) (E:d<2^41):
  (¬ aJ x=0→aj prog ap [] nt (ae 0 (af f48)) (GN l e (p.length,d)) .ret (zL (.inr (aJ x))))∧
  (aJ x=0→d<dL x.op→aj prog ap [] nt (ae 0 (af f48)) (GN l e (p.length,d)) .ret (zL (.inr 11)))∧
  (aJ x=0→¬ d<dL x.op→aj prog ap [] nt (ae 0 (af f48)) (GN l e (p.length,d)) .normal (GN l e (p.length+1,d - dL x.op+1))):=by
 have b:List.drop (Int.toNat (p.length:Int)*5) (aI l)=iY x++aI r:=by rw [z];exact yh rfl
 have y:p.length+(r.length+1)=l.length:=by rw [z];simp
 have k0:=IG x.op
 have k1:=KH x B
 have k2:=Vt x.name
 have k3:=Hu x.op
 have C:=MC x.op
 have j:decide (((0:Nat):Int)≤(p.length:Int))=true:=by simp
 have i:decide ((p.length:Int)<(l.length:Int))=true:=by rw [aY];exact decide_eq_true (by omega)
 have n:lit true (decide ((p.length:Int)<(l.length:Int)))=true:=i
 have A:¬ d<dL x.op→IntKind.wrap .i64 ((d:Int) - ((dL x.op:Nat):Int))=((d - dL x.op:Nat):Int):=fun h=>by rw [dB]<;>omega
 unfold GN zL
 cases t:Jj x.op with
 | false=>
  have g:aJ x=11:=EK (.inl t)
  rw [g]
  refine ⟨fun _=> ?_,fun c=>(by simp at c),fun c=>(by simp at c)⟩
  have w:x.op<1∨24<x.op:=by
   have:¬ (1≤x.op∧x.op≤24):=by simpa [Jj] using t
   omega
  by_cases c:x.op<1
  ·exact alv o l e p.length d (fZ x) true x r b (by simp [lit];omega) j i n k0 k1
  ·exact alx o l e p.length d (fZ x) true x r b (by simp [lit];omega) (by simp [lit];omega) j i n k0 k1
 | true=>
  have w:1≤x.op∧x.op≤24:=by simpa [Jj] using t
  have q:lit false (decide (((24:Nat):Int)<x.op))=true:=by simp [lit];omega
  have s:lit false (decide (x.op<((1:Nat):Int)))=true:=by simp [lit];omega
  cases u:fZ x with
  |false=>
   have g:aJ x=11:=EK (.inr (.inl u))
   rw [g]
   rw [u] at k1
   refine ⟨fun _=> ?_,fun c=>(by simp at c),fun c=>(by simp at c)⟩
   exact aly o l e p.length d false true x r b rfl q s j i n k0 k1
  | true=>
   rw [u] at k1
   cases a:gG x.op with
   | false=>
    rw [a] at k0
    cases f:(x.name== []) with
    |false=>
     have g:aJ x=11:=EK (.inr (.inr ⟨a,f⟩))
     rw [g]
     refine ⟨fun _=> ?_,fun c=>(by simp at c),fun c=>(by simp at c)⟩
     exact alz o l e p.length d true true x r b (by rw [f];rfl) (by rw [a];rfl) rfl q s j i n (by rw [a];exact k0) k1
    | true=>
     have g:aJ x=0:=by unfold aJ;rw [t,a,f,u];rfl
     refine ⟨fun h=>absurd g h,fun _ k=> ?_,fun _ k=> ?_⟩
     ·exact alA o l e p.length d true _ x r b (by rw [aY,decide_eq_true k];rfl) (by rw [a];rfl) (by rw [f];rfl) (by rw [a];rfl) rfl q s j i n (by rw [a];exact k0) k1 k2 k3
     ·have v:=alB o l e p.length d true _ x r b (by rw [aY,decide_eq_false k];rfl) (by rw [a];rfl) (by rw [f];rfl) (by rw [a];rfl) rfl q s j i n (by rw [a];exact k0) k1 k2 k3
      rw [A k,BA (by omega),BA (by omega)] at v
      exact v
   | true=>
    rw [a] at k0
    cases m:qE x.name with
    |false=>
     have g:aJ x=12:=by unfold aJ;rw [t,a,u,m];rfl
     rw [g]
     rw [m] at k2
     refine ⟨fun _=> ?_,fun c=>(by simp at c),fun c=>(by simp at c)⟩
     exact alC o l e p.length d true false x r b rfl (by rw [a];rfl) (by rw [a];rfl) rfl q s j i n (by rw [a];exact k0) k1 k2
    | true=>
     have g:aJ x=0:=by unfold aJ;rw [t,a,u,m];rfl
     rw [m] at k2
     refine ⟨fun h=>absurd g h,fun _ k=> ?_,fun _ k=> ?_⟩
     ·exact alD o l e p.length d true true x r b (by rw [aY,decide_eq_true k];rfl) rfl (by rw [a];rfl) (by rw [a];rfl) rfl q s j i n (by rw [a];exact k0) k1 k2 k3
     ·have v:=alE o l e p.length d true true x r b (by rw [aY,decide_eq_false k];rfl) rfl (by rw [a];rfl) (by rw [a];rfl) rfl q s j i n (by rw [a];exact k0) k1 k2 k3
      rw [A k,BA (by omega),BA (by omega)] at v
      exact v
theorem Vf {nt:Nat} (e:69≤nt) (l:List Nd) (b:Bool) (c:l.length<2^40) (a:∀ x ∈ l,x.sm):∀ (r p:List Nd) (d:Nat),p++r=l→d≤p.length→aF prog ap [] nt (ae 0 (af f48)) JD (GN l b) zL (p.length,d) (jl r d):=by
 intro r
 induction r with
 |nil=>
  intro p d h _
  have hp:p.length=l.length:=by rw [← h];simp
  rw [hp]
  exact .done (QS e l b l.length d true true (by rw [aY];simp [lit]))
 | cons x r ih=>
  intro p d h k
  have j:p.length+(r.length+1)=l.length:=by rw [← h];simp
  obtain ⟨i,f,g⟩:=QT e l p r b x d (a x (by rw [← h];simp)) h.symm c (by omega)
  simp only [jl]
  by_cases h1:aJ x=0
  ·rw [if_pos h1]
   by_cases h2:d<dL x.op
   ·rw [if_pos h2];exact .done (f h1 h2)
   ·rw [if_neg h2]
    have hnext:=ih (p++ [x]) (d - dL x.op+1) (by simp [h]) (by simp;omega)
    rw [List.length_append,List.length_singleton] at hnext
    exact .next (g h1 h2) hnext
  ·rw [if_neg h1];exact .done (i h1)
theorem zo (l:List Nd) (a:Bool) (b:∀ x ∈ l,x.sm):CO 48 [.sl (aI l) l.length a] (.ret (.int .i64 (dG l))):=by
 unfold dG
 by_cases h60:60<l.length
 ·rw [if_pos h60]
  exact aca l a 0 (by rw [aY];exact decide_eq_true h60)
 ·rw [if_neg h60]
  have c:lit false (decide (((60:Nat):Int)<(l.length:Int)))=true:=by rw [aY];simp only [lit,Bool.not_eq_true'];exact decide_eq_false h60
  have hloop:=fun nt (hn:69≤nt)=>Vf hn l a (by omega) b l [] 0 rfl (by simp)
  cases e:jl l 0 with
  | inl d=>
   rw [e] at hloop
   by_cases hd:d=1
   ·have h:=acd l a d (by rw [jQ,decide_eq_true hd];rfl) c
    simp only [if_pos hd]
    exact h (aF.blk hloop (by simp [JD]) rfl (aK.of ⟨rfl,rfl,rfl,trivial⟩) (aK.of ⟨rfl,trivial⟩))
   ·have h:=acb l a d (by rw [jQ,decide_eq_false hd];rfl) c
    simp only [if_neg hd]
    exact h (aF.blk hloop (by simp [JD]) rfl (aK.of ⟨rfl,rfl,rfl,trivial⟩) (aK.of ⟨rfl,trivial⟩))
  |inr w=>
   rw [e] at hloop
   exact ace l a w c (aF.blk hloop (by simp [JD]) rfl (aK.of ⟨rfl,rfl,rfl,trivial⟩) (aK.of ⟨rfl,trivial⟩))
theorem ad4 {nt:Nat} (i:45≤nt) (l:List Nd) (a:Bool) (k:Nat) (C:List AV) (o own:List Nat) (x:Nd) (r:List Nd) (b:(List.drop ((Int.toNat (k:Int))*5) (aI l))=iY x++aI r) (h0:(decide ((IntKind.wrap .i64 (((0:Nat):Int) - (AV.toInt (List.headD (List.drop ((0+((Int.toNat x.op)*5))+1) jS) .dead))))=0))=true) (n:(Nat.ble (((0+(Int.toNat (k:Int)))*1)+1) (List.length C))=true) (c:(decide (((0:Nat):Int)≤(k:Int)))=true) (d:(decide ((k:Int)<(l.length:Int)))=true) (j:(gV (.int .i64) (List.headD (List.drop ((0+((Int.toNat x.op)*5))+1) jS) .dead))=true) (m:(decide (((0:Nat):Int)≤x.op))=true) (f:(decide (x.op<((25:Nat):Int)))=true) (g:lit true (decide ((k:Int)<(l.length:Int)))=true) (e:CO 62 [.nilS] (.ret (.sl (ai own) own.length false))):aj prog ap [] nt (ae 0 (af f37)) ⟨[(15,.sl (aI l) l.length a),(16,.int .i64 (l.length:Int)),(17,.int .i64 (k:Int)),(4,.ref 0 0 0 l.length),(5,.nilS)],[(0,⟨C,0,false,0,1,true⟩)],.dead,[]⟩ (.normal) ⟨[(15,.sl (aI l) l.length a),(16,.int .i64 (l.length:Int)),(17,.int .i64 (IntKind.wrap .i64 ((k:Int)+((1:Nat):Int)))),(4,.ref 0 0 0 l.length),(5,.ref 1 0 0 1)],[(0,⟨(List.take ((0+(Int.toNat (k:Int)))*1) C++ [.sl (ai own) own.length false]++List.drop (((0+(Int.toNat (k:Int)))*1)+1) C),0,false,0,1,true⟩),(1,⟨[.int .i64 (k:Int)],0,false,0,1,true⟩)],.dead,[]⟩:=
 have h:aj prog ap [] nt (ae 0 (af f37)) ⟨[(15,.sl (aI l) l.length a),(16,.int .i64 (l.length:Int)),(17,.int .i64 (k:Int)),(4,.ref 0 0 0 l.length),(5,.nilS)],[(0,⟨C,0,false,0,1,true⟩)],.dead,[]⟩ (.normal) ⟨[(15,.sl (aI l) l.length a),(16,.int .i64 (l.length:Int)),(17,.int .i64 (IntKind.wrap .i64 ((k:Int)+((1:Nat):Int)))),(4,.ref 0 0 0 l.length),(5,.ref 1 0 0 1)],[(0,⟨(List.take ((0+(Int.toNat (k:Int)))*1) C++ [.sl (ai own) own.length false]++List.drop (((0+(Int.toNat (k:Int)))*1)+1) C),0,false,0,1,true⟩),(1,⟨[.int .i64 (k:Int)],0,false,0,1,true⟩),(2,⟨[.int .i64 x.op,.bool x.neg,.str x.num,.str x.den,.str x.name],0,false,0,0,true⟩)],.dead,[]⟩:=pJ 37 [] 2 1 (.k 4 h0 (.c n (.c c (.c d (.c h0 (.k 1 j (.c m (.c f (.k 7 c (.c d (.c g .nil))))))))))) (.c e (.v 20 (.ppt b) .nil)) i
 h.forgetD 2 ⟨[.int .i64 x.op,.bool x.neg,.str x.num,.str x.den,.str x.name],0,false,0,0,true⟩ (by intro v h;cases h) (by decide) rfl ⟨Fz.same rfl,Fz.same rfl,Fz.same rfl,Fz.same rfl,Fz.same rfl,trivial⟩ ⟨rfl,Ji.same rfl,by decide,rfl,Ji.same rfl,by decide,rfl⟩ rfl
theorem P6 {nt:Nat} (b:45≤nt) (l:List Nd) (a:Bool) (k:Nat) (C:List AV) (c own:List Nat) (h0:lit false (decide ((k:Int)<(l.length:Int)))=true):aj prog ap [] nt (ae 0 (af f37)) ⟨[(15,.sl (aI l) l.length a),(16,.int .i64 (l.length:Int)),(17,.int .i64 (k:Int)),(4,.ref 0 0 0 l.length),(5,.nilS)],[(0,⟨C,0,false,0,1,true⟩)],.dead,[]⟩ (.exit 0) ⟨[(4,.ref 0 0 0 l.length)],[(0,⟨C,0,false,0,1,true⟩)],.dead,[]⟩:=pJ 37 [] 1 0 (.c h0 .nil) (.nil) b
theorem ad1 {nt:Nat} (p:45≤nt) (l:List Nd) (b:Bool) (k:Nat) (C:List AV) (a own:List Nat) (x:Nd) (r:List Nd) (e:(List.drop ((Int.toNat (k:Int))*5) (aI l))=iY x++aI r) (h0:(Nat.ble (((Int.toNat (IntKind.wrap .i64 ((a.length:Int) - (AV.toInt (List.headD (List.drop ((0+((Int.toNat x.op)*5))+1) jS) .dead))))) - 0)+1) 1099511627776)=true) (t:(Nat.ble (((Int.toNat (IntKind.wrap .i64 ((a.length:Int) - (AV.toInt (List.headD (List.drop ((0+((Int.toNat x.op)*5))+1) jS) .dead))))) - 0)*1) (List.length (ai a)))=true) (f:(decide (((0:Nat):Int)≤(IntKind.wrap .i64 ((a.length:Int) - (AV.toInt (List.headD (List.drop ((0+((Int.toNat x.op)*5))+1) jS) .dead))))))=true) (g:(decide ((IntKind.wrap .i64 ((a.length:Int) - (AV.toInt (List.headD (List.drop ((0+((Int.toNat x.op)*5))+1) jS) .dead))))≤(a.length:Int)))=true) (s:(Nat.ble (((0+(Int.toNat (k:Int)))*1)+1) (List.length C))=true) (j:(decide (((0:Nat):Int)≤(k:Int)))=true) (i:(decide ((k:Int)<(l.length:Int)))=true) (o:(decide ((a.length:Int)≤(a.length:Int)))=true) (m:(gV (.int .i64) (List.headD (List.drop ((0+((Int.toNat x.op)*5))+1) jS) .dead))=true) (q:(decide (((0:Nat):Int)≤x.op))=true) (d:(decide (x.op<((25:Nat):Int)))=true) (c:lit true (decide ((k:Int)<(l.length:Int)))=true) (n:au prog ap 62 [.ref 0 0 (0+(Int.toNat (IntKind.wrap .i64 ((a.length:Int) - (AV.toInt (List.headD (List.drop ((0+((Int.toNat x.op)*5))+1) jS) .dead)))))) ((Int.toNat (a.length:Int)) - (Int.toNat (IntKind.wrap .i64 ((a.length:Int) - (AV.toInt (List.headD (List.drop ((0+((Int.toNat x.op)*5))+1) jS) .dead))))))] [⟨(ai a),0,false,0,1,true⟩] (.ret (.sl (ai own) own.length false)) [⟨(ai a),0,false,0,1,true⟩]):aj prog ap [] nt (ae 0 (af f37)) ⟨[(15,.sl (aI l) l.length b),(16,.int .i64 (l.length:Int)),(17,.int .i64 (k:Int)),(4,.ref 0 0 0 l.length),(5,.ref 1 0 0 a.length)],[(0,⟨C,0,false,0,1,true⟩),(1,⟨(ai a),0,false,0,1,true⟩)],.dead,[]⟩ (.normal) ⟨[(15,.sl (aI l) l.length b),(16,.int .i64 (l.length:Int)),(17,.int .i64 (IntKind.wrap .i64 ((k:Int)+((1:Nat):Int)))),(4,.ref 0 0 0 l.length),(5,.ref 1 0 0 (((Int.toNat (IntKind.wrap .i64 ((a.length:Int) - (AV.toInt (List.headD (List.drop ((0+((Int.toNat x.op)*5))+1) jS) .dead))))) - 0)+1))],[(0,⟨(List.take ((0+(Int.toNat (k:Int)))*1) C++ [.sl (ai own) own.length false]++List.drop (((0+(Int.toNat (k:Int)))*1)+1) C),0,false,0,1,true⟩),(1,⟨((List.take (((Int.toNat (IntKind.wrap .i64 ((a.length:Int) - (AV.toInt (List.headD (List.drop ((0+((Int.toNat x.op)*5))+1) jS) .dead))))) - 0)*1) (ai a))++ [.int .i64 (k:Int)]),0,false,0,1,true⟩)],.dead,[]⟩:=
 have h:aj prog ap [] nt (ae 0 (af f37)) ⟨[(15,.sl (aI l) l.length b),(16,.int .i64 (l.length:Int)),(17,.int .i64 (k:Int)),(4,.ref 0 0 0 l.length),(5,.ref 1 0 0 a.length)],[(0,⟨C,0,false,0,1,true⟩),(1,⟨(ai a),0,false,0,1,true⟩)],.dead,[]⟩ (.normal) ⟨[(15,.sl (aI l) l.length b),(16,.int .i64 (l.length:Int)),(17,.int .i64 (IntKind.wrap .i64 ((k:Int)+((1:Nat):Int)))),(4,.ref 0 0 0 l.length),(5,.ref 1 0 0 (((Int.toNat (IntKind.wrap .i64 ((a.length:Int) - (AV.toInt (List.headD (List.drop ((0+((Int.toNat x.op)*5))+1) jS) .dead))))) - 0)+1))],[(0,⟨(List.take ((0+(Int.toNat (k:Int)))*1) C++ [.sl (ai own) own.length false]++List.drop (((0+(Int.toNat (k:Int)))*1)+1) C),0,false,0,1,true⟩),(1,⟨((List.take (((Int.toNat (IntKind.wrap .i64 ((a.length:Int) - (AV.toInt (List.headD (List.drop ((0+((Int.toNat x.op)*5))+1) jS) .dead))))) - 0)*1) (ai a))++ [.int .i64 (k:Int)]),0,false,0,1,true⟩),(2,⟨[.int .i64 x.op,.bool x.neg,.str x.num,.str x.den,.str x.name],0,false,0,0,true⟩)],.dead,[]⟩:=pJ 37 [] 1 1 (.k 1 h0 (.c t (.k 2 f (.c g (.c s (.c j (.c i (.c f (.c g (.c o (.c m (.c q (.c d (.k 7 j (.c i (.c c .nil)))))))))))))))) (.c n (.v 20 (.ppt e) .nil)) p
 h.forgetD 2 ⟨[.int .i64 x.op,.bool x.neg,.str x.num,.str x.den,.str x.name],0,false,0,0,true⟩ (by intro v h;cases h) (by decide) rfl ⟨Fz.same rfl,Fz.same rfl,Fz.same rfl,Fz.same rfl,Fz.same rfl,trivial⟩ ⟨rfl,Ji.same rfl,by decide,rfl,Ji.same rfl,by decide,rfl⟩ rfl
theorem P5 {nt:Nat} (c:45≤nt) (l:List Nd) (b:Bool) (k:Nat) (C:List AV) (a own:List Nat) (h0:lit false (decide ((k:Int)<(l.length:Int)))=true):aj prog ap [] nt (ae 0 (af f37)) ⟨[(15,.sl (aI l) l.length b),(16,.int .i64 (l.length:Int)),(17,.int .i64 (k:Int)),(4,.ref 0 0 0 l.length),(5,.ref 1 0 0 a.length)],[(0,⟨C,0,false,0,1,true⟩),(1,⟨(ai a),0,false,0,1,true⟩)],.dead,[]⟩ (.exit 0) ⟨[(4,.ref 0 0 0 l.length)],[(0,⟨C,0,false,0,1,true⟩),(1,⟨(ai a),0,false,0,1,true⟩)],.dead,[]⟩:=pJ 37 [] 1 0 (.c h0 .nil) (.nil) c
theorem ad2 (l:List Nd) (a:Bool) (w:Int) (C:List AV) (h0:lit true (!(w==((0:Nat):Int)))=true) (b:CO 21 [.sl (aI l) l.length a] (.ret (.int .i64 w))):CO 37 [.sl (aI l) l.length a] (.ret (.tup [.nilS,.bool false])):=pK [0] 1 1 (.c h0 .nil) (.c b .nil)
theorem ad3 (l:List Nd) (a:Bool) (w:Int) (C:List AV) (h0:(decide (((0:Nat):Int)≤(l.length:Int)))=true) (e:(decide ((l.length:Int)=(l.length:Int)))=true) (b:(decide ((l.length:Int)≤((1099511627776:Nat):Int)))=true) (c:lit false (!(w==((0:Nat):Int)))=true) (d:CO 21 [.sl (aI l) l.length a] (.ret (.int .i64 w))) (f:aH prog ap [] 45 (.block 0 (.loop (ae 0 (af f37)))) ⟨[(0,.sl (aI l) l.length a),(2,.nilS),(3,.bool false),(4,.ref 0 0 0 (Int.toNat (l.length:Int))),(5,.nilS),(6,.dead),(7,.dead),(8,.dead),(11,.bool (!(w==((0:Nat):Int)))),(15,.sl (aI l) l.length a),(16,.int .i64 (l.length:Int)),(17,.int .i64 0),(18,.dead)],[(0,⟨(iU (Int.toNat (l.length:Int)) [.nilS]),0,false,0,1,true⟩)],.dead,[]⟩ (.normal) ⟨[(4,.ref 0 0 0 l.length)],[(0,⟨C,0,false,0,1,true⟩)],.dead,[]⟩):CO 37 [.sl (aI l) l.length a] (.ret (.tup [.own (List.take (l.length*1) C) l.length 1,.bool true])):=pK [0] 1 0 (.c h0 (.c e (.c b (.c c .nil)))) (.l f (.c d .nil))
theorem aes:CO 62 [.nilS] (.ret (.nilS)):=pK [] 1 1 (.n 1 .nil) (.nil)
theorem aer (a:List Nat) (i n:Nat) (h0:(Nat.beq (List.length (List.take (n*1) (List.drop (i*1) (ai a)))) (n*1))=true) (b:(Nat.ble (0+n) 1099511627776)=true):au prog ap 62 [.ref 0 0 i n] [⟨(ai a),0,false,0,1,true⟩] (.ret (.own (List.take ((0+n)*1) ([]++(List.take (n*1) (List.drop (i*1) (ai a))))) (0+n) 1)) [⟨(ai a),0,false,0,1,true⟩]:=pK [] 1 0 (.c h0 (.c b (.n 3 .nil))) (.nil)
def vC:List Nd→Nat→List Nat→List (List Nat)
 | [],_,_=> []
 |x::r,k,st=>st.drop (st.length - dL x.op)::vC r (k+1) (st.take (st.length - dL x.op)++ [k])
def bQ (l:List Nd):List (List Nat):=vC l 0 []
def yL (a:List Nat):AV:= .sl (ai a) a.length false
def bC (ll:List (List Nat)):List AV:=ll.map yL
def SB:List Nd→Nat→List Nat→List Nat
 | [],_,st=>st
 |x::r,k,st=>SB r (k+1) (st.take (st.length - dL x.op)++ [k])
theorem BN (r:List Nd):∀ k a,(vC r k a).length=r.length:=by
 induction r with
 |nil=>intros;rfl
 |cons x r ih=>intro k a;simp only [vC,List.length_cons,ih]
def agE (st:List Nat):AV:=match st with| []=> .nilS|x::l=> .ref 1 0 0 (x::l).length
def agH (st:List Nat):Hp:=match st with| []=> []|x::l=> [(1,⟨ai (x::l),0,false,0,1,true⟩)]
theorem Mc {l:List Nat} (h:l ≠ []):agE l= .ref 1 0 0 l.length:=by cases l with|nil=>exact absurd rfl h|cons _ _=>rfl
theorem Hr {l:List Nat} (h:l ≠ []):agH l= [(1,⟨ai l,0,false,0,1,true⟩)]:=by cases l with|nil=>exact absurd rfl h|cons _ _=>rfl
def Ht (l:List Nd) (nn:Bool) (p:Nat × List Nat × List AV):St:=⟨[(15,.sl (aI l) l.length nn),(16,.int .i64 (l.length:Int)),(17,.int .i64 (p.1:Int)),(4,.ref 0 0 0 l.length),(5,agE p.2.1)],(0,⟨p.2.2,0,false,0,1,true⟩)::agH p.2.1,.dead,[]⟩
def FK (l:List Nd) (p:List Nat × List AV):St:=⟨[(4,.ref 0 0 0 l.length)],(0,⟨p.2,0,false,0,1,true⟩)::agH p.1,.dead,[]⟩
theorem Qe:au prog ap 62 [.nilS] [] (.ret (.sl (ai []) ([]:List Nat).length false)) []:=aes.out (ku.ret rfl rfl (aZ.nilS false rfl))
theorem Ti (a:List Nat) (i n:Nat) (h:i+n=a.length) (g:a.length<2^40):au prog ap 62 [.ref 0 0 i n] [⟨ai a,0,false,0,1,true⟩] (.ret (.sl (ai (a.drop i)) n false)) [⟨ai a,0,false,0,1,true⟩]:=by
 have e:=aer a i n
 have f:n≤a.length:=by omega
 have d:List.take n (List.drop i (ai a))=ai (a.drop i):=by
  rw [JY,dP,List.take_of_length_le (by simp;omega)]
 have b:(ai (a.drop i)).length=n:=by rw [dV,List.length_drop];omega
 simp (disch:=first|omega|(simp [ak,ay]<;>omega)) only [Nat.mul_one,d,b,II,decide_true,Nat.zero_add,fP,bu,List.nil_append] at e
 have c:=(e True.intro (by omega)).thaw (by simp)
 simp only [wu,thaw,Nat.mul_one] at c
 rw [List.take_of_length_le (by rw [List.length_take,b];omega),List.take_of_length_le (by omega)] at c
 exact c.out (ku.sl1 _ _ _)
theorem WE {nt:Nat} (o:45≤nt) (l p r:List Nd) (e:Bool) (x:Nd) (a:List Nat) (C C2:List AV) (n:l=p++x::r) (y:l.length<2^39) (g:1≤x.op∧x.op≤24) (f:dL x.op≤a.length) (w:a.length≤p.length) (j:C.length=l.length)
  (hset:List.take p.length C++ [yL (a.drop (a.length - dL x.op))]++List.drop (p.length+1) C=C2):
  aj prog ap [] nt (ae 0 (af f37)) (Ht l e (p.length,a,C)) .normal (Ht l e (p.length+1,a.take (a.length - dL x.op)++ [p.length],C2)):=by
 have c:List.drop (Int.toNat (p.length:Int)*5) (aI l)=iY x++aI r:=by rw [n];exact yh rfl
 have k:p.length+(r.length+1)=l.length:=by rw [n];simp
 obtain ⟨u,q⟩:=g
 have i:=Oj u q
 unfold Ht
 simp only
 rw [Mc (iO _ _),Hr (iO _ _)]
 rcases Decidable.em (a= []) with rfl|hne
 ·have h0:dL x.op=0:=by simpa using f
  have b:=ad4 o l e p.length C [] [] x r c
  simp only [List.length_nil,Nat.zero_sub,List.drop_nil,List.take_nil,List.nil_append] at hset ⊢
  unfold yL at hset
  have h:=Qe
  simp (disch:=first|omega|(simp [ak,ay]<;>omega)) only [Nat.zero_add,i,h0,a_,jV,Nat.sub_zero,bu,aA,Nat.mul_one,j,fP,dD,aY,eP,bG,List.length_nil,dA,bz] at b
  simp only [agE,agH,ai,List.map_cons,List.map_nil,List.length_cons,List.length_nil,Nat.zero_add] at b hset h ⊢
  rw [hset] at b
  apply b<;>first|exact True.intro|omega|assumption|exact rfl|skip
 ·have s:=Ti a (a.length - dL x.op) (dL x.op) (by omega) (by omega)
  have b:=ad1 o l e p.length C a (a.drop (a.length - dL x.op)) x r c
  rw [Mc hne,Hr hne]
  unfold yL at hset
  generalize A:a.length - dL x.op=m at*
  have d:(a.drop m).length=dL x.op:=by rw [List.length_drop];omega
  have z:IntKind.wrap .i64 ((a.length:Int) - ((dL x.op:Nat):Int))=(m:Int):=by rw [dB]<;>omega
  have t:a.length - m=dL x.op:=by omega
  rw [d] at b hset
  have v:(a.take m).length=m:=by rw [List.length_take];omega
  simp (disch:=first|omega|(simp [ak,ay]<;>omega)) only [Nat.zero_add,i,a_,z,aA,Nat.sub_zero,fP,bu,Nat.mul_one,dV,dD,j,aY,eP,bG,t,dA,bz,hset,dP,jr] at b
  simp only [List.length_append,List.length_singleton,v]
  apply b<;>first|exact True.intro|omega|assumption|exact rfl|skip
theorem OL {r:List Nd} {d e:Nat} {x:Nd} (h:jl (x::r) d= .inl e):(1≤x.op∧x.op≤24)∧dL x.op≤d∧jl r (d - dL x.op+1)= .inl e:=by
 simp only [jl] at h
 by_cases h1:aJ x=0
 ·rw [if_pos h1] at h
  by_cases h2:d<dL x.op
  ·rw [if_pos h2] at h;cases h
  ·rw [if_neg h2] at h
   exact ⟨EL h1,by omega,h⟩
 ·rw [if_neg h1] at h;cases h
theorem uI (a:List (List Nat)):(bC a).length=a.length:=by simp [bC]
theorem P7 (done:List (List Nat)) (a:List Nat) (m:Nat):List.take done.length (bC done++List.replicate (m+1) AV.nilS)++ [yL a]++List.drop (done.length+1) (bC done++List.replicate (m+1) AV.nilS)=bC (done++ [a])++List.replicate m AV.nilS:=by
 have b:=uI done
 rw [List.take_append_of_le_length (by omega),List.take_of_length_le (by omega),List.drop_append,List.drop_of_length_le (by omega),List.nil_append,show done.length+1 - (bC done).length=1 by omega,List.replicate_succ,List.drop_succ_cons,List.drop_zero]
 unfold bC
 rw [List.map_append]
 rfl
theorem WC {nt:Nat} (m:45≤nt) (l:List Nd) (d:Bool) (n:l.length<2^39) (e:Nat):∀ (r p:List Nd) (a:List Nat) (done:List (List Nat)),p++r=l→jl r a.length= .inl e→a.length≤p.length→done.length=p.length→aF prog ap [] nt (ae 0 (af f37)) (fun _=> .exit 0) (Ht l d) (FK l) (p.length,a,bC done++List.replicate r.length .nilS) (SB r p.length a,bC (done++vC r p.length a)):=by
 intro r
 induction r with
 | nil=>
  intro p a done h o f g
  have hp:p.length=l.length:=by rw [← h];simp
  rw [hp]
  simp only [vC,SB,List.append_nil,List.length_nil,List.replicate_zero]
  refine .done ?_
  unfold Ht FK
  have q:aj prog ap [] nt (ae 0 (af f37)) (Ht l d (l.length,a,bC done)) (.exit 0) (FK l (a,bC done)):=by
   unfold Ht FK
   rcases Decidable.em (a= []) with rfl|hne
   ·exact P6 m l d l.length (bC done) [] [] (by rw [aY];simp [lit])
   ·simp only
    rw [Mc hne,Hr hne]
    exact P5 m l d l.length (bC done) a [] (by rw [aY];simp [lit])
  exact q
 | cons x r ih=>
  intro p a done h o f g
  obtain ⟨k,j,i⟩:=OL o
  have s:p.length+(r.length+1)=l.length:=by rw [← h];simp
  have c:(a.take (a.length - dL x.op)++ [p.length]).length=a.length - dL x.op+1:=by
   rw [List.length_append,List.length_take,List.length_singleton,Nat.min_eq_left (by omega)]
  have hnext:=ih (p++ [x]) (a.take (a.length - dL x.op)++ [p.length]) (done++ [a.drop (a.length - dL x.op)]) (by simp [h]) (by rw [c];exact i) (by rw [c];simp;omega) (by simp [g])
  rw [List.length_append,List.length_singleton,List.append_assoc] at hnext
  simp only [vC,SB,List.length_cons]
  have b:=P7 done (a.drop (a.length - dL x.op)) r.length
  rw [g] at b
  have hstep:=WE m l p r d x a (bC done++List.replicate (r.length+1) .nilS) _ h.symm n k j f (by rw [List.length_append,uI,List.length_replicate];omega) b
  exact .next hstep hnext
theorem Vk (n:Nat):iU n [AV.nilS]=List.replicate n AV.nilS:=by
 unfold iU
 induction n with
 |zero=>rfl
 |succ n ih=>rw [List.replicate_succ,List.flatten_cons,ih,List.replicate_succ];rfl
theorem BZ {l:List Nd} (h:dG l=0):l.length≤60∧jl l 0= .inl 1:=by
 unfold dG at h
 by_cases h60:60<l.length
 ·rw [if_pos h60] at h;cases h
 ·rw [if_neg h60] at h
  refine ⟨by omega, ?_⟩
  have a:∀ (r:List Nd) (d:Nat) (w:Int),jl r d= .inr w→w ≠ 0:=by
   intro r
   induction r with
   |nil=>intro d w h;cases h
   | cons x r ih=>
    intro d w h
    simp only [jl] at h
    by_cases h1:aJ x=0
    ·rw [if_pos h1] at h
     by_cases h2:d<dL x.op
     ·rw [if_pos h2] at h;cases h;decide
     ·rw [if_neg h2] at h;exact ih _ _ h
    ·rw [if_neg h1] at h;cases h;exact h1
  cases b:jl l 0 with
  |inl d=>
   rw [b] at h
   by_cases hd:d=1
   ·rw [hd]
   ·simp only [if_neg hd] at h;cases h
  |inr w=>rw [b] at h;exact absurd h (a l 0 w b)
theorem WL (l:List Nd) (b:Bool) (j:∀ x ∈ l,x.sm) (n:dG l=0):CO 37 [.sl (aI l) l.length b] (.ret (.tup [.sl (bC (bQ l)) l.length true,.bool true])):=by
 have c:List.take l.length (bC (bQ l))=bC (bQ l):=List.take_of_length_le (by rw [uI];unfold bQ;rw [BN];omega)
 suffices hown:CO 37 [.sl (aI l) l.length b] (.ret (.tup [.own (bC (bQ l)) l.length 1,.bool true])) by
  have h:=hown.thaw (by simp)
  simp only [wu,List.map_cons,List.map_nil,thaw,Nat.mul_one,c] at h
  exact h
 have i:=B_ l b j
 obtain ⟨o,d⟩:=BZ n
 rw [n] at i
 have hloop:=fun nt (hn:45≤nt)=>WC hn l b (by omega) 1 l [] [] [] rfl d (by simp) rfl
 have e:(bQ l).length=l.length:=BN l 0 []
 have h:=ad3 l b 0 (bC (bQ l))
 simp (disch:=first|omega|(simp [ak,ay]<;>omega)) only [dD,bu,decide_true,dM,eu,zY,aA,Vk,Nat.mul_one,c] at h
 have m:(bC (bQ l)).length=l.length:=by rw [uI,e]
 have p:l.length<1099511627776:=by omega
 apply h<;>first|exact True.intro|omega|assumption|exact rfl|skip
 intro nt f
 have g:=aF.blk (s:=Ht l b (0,[],List.replicate l.length AV.nilS)) (s':=FK l (SB l 0 [],bC (bQ l))) (id:=0) hloop (by simp) rfl (aK.refl _) (aK.refl _) nt f
 unfold Ht FK at g
 simp only [agE,agH] at g
 have a:=g.weak (s':=⟨[(0,.sl (aI l) l.length b),(2,.nilS),(3,.bool false),(4,.ref 0 0 0 l.length),(5,.nilS),(6,.dead),(7,.dead),(8,.dead),(11,.bool false),(15,.sl (aI l) l.length b),(16,.int .i64 (l.length:Int)),(17,.int .i64 0),(18,.dead)],[(0,⟨List.replicate l.length AV.nilS,0,false,0,1,true⟩)],.dead,[]⟩) (aK.of ⟨rfl,rfl,rfl,rfl,rfl,trivial⟩) (aK.refl _)
 rcases Decidable.em (SB l 0 []= []) with he|he
 ·rw [he] at a;exact a
 ·have k:=Hr he
  unfold agH at k
  rw [k] at a
  exact a.forget 1 _ (by intro v h;cases h) (by decide) rfl ⟨Fz.same rfl,trivial⟩ ⟨rfl,Ji.same rfl,by decide,rfl⟩
theorem alq {nt:Nat} (d:59≤nt) (l:List Nd) (a:Bool) (h0:(gV (.int .i64) (List.headD (aI l) .dead))=true) (e:(decide (((0:Nat):Int)<(l.length:Int)))=true) (b:lit true (decide (((0:Nat):Int)<(l.length:Int)))=true) (c:CO 30 [.int .i64 (AV.toInt (List.headD (aI l) .dead))] (.ret (.int .i64 0))):aj prog ap [] nt (ae 0 (af f40)) ⟨[(0,.sl (aI l) l.length a),(5,.nilS),(6,.nilS),(7,.int .i64 0)],[],.dead,[]⟩ (.normal) ⟨[(0,.sl (aI l) l.length a),(5,.ref 0 0 0 1),(6,.ref 1 0 0 1),(7,.int .i64 1)],[(0,⟨[.nilS],0,false,0,1,true⟩),(1,⟨[.int .i64 0],0,false,0,1,true⟩)],.dead,[]⟩:=pJ 40 [] 4 1 (.k 9 h0 (.k 1 e (.c b .nil))) (.c c .nil) d
theorem ab5 {nt:Nat} (f:59≤nt) (l:List Nd) (c:Bool) (C:List AV) (b own:List Nat) (i k a:Nat) (h0:(gV (.int .i64) (List.headD (List.drop ((0+(Int.toNat (i:Int)))*1) (ai b)) .dead))=true) (g:(decide (((0:Nat):Int)≤(i:Int)))=true) (d:(decide ((i:Int)<(b.length:Int)))=true) (e:lit true (decide ((i:Int)<(b.length:Int)))=true):aj prog ap [] nt (ae 2 (af f40)) ⟨[(0,.sl (aI l) l.length c),(7,.int .i64 (k:Int)),(8,.int .i64 (a:Int)),(5,.ref 0 0 0 k),(6,.ref 1 0 0 b.length),(9,.nilS),(10,.int .i64 (i:Int))],[(0,⟨C,0,false,0,1,true⟩),(1,⟨(ai b),0,false,0,1,true⟩)],.dead,[]⟩ (.normal) ⟨[(0,.sl (aI l) l.length c),(7,.int .i64 (k:Int)),(8,.int .i64 (a:Int)),(5,.ref 0 0 0 k),(6,.ref 1 0 0 b.length),(9,.ref 2 0 0 1),(10,.int .i64 (IntKind.wrap .i64 ((i:Int)+((1:Nat):Int))))],[(0,⟨C,0,false,0,1,true⟩),(1,⟨(ai b),0,false,0,1,true⟩),(2,⟨[.int .i64 (AV.toInt (List.headD (List.drop ((0+(Int.toNat (i:Int)))*1) (ai b)) .dead))],0,false,0,1,true⟩)],.dead,[]⟩:=pJ 40 [] 2 1 (.k 3 h0 (.c g (.c d (.c e .nil)))) (.nil) f
theorem ab6 {nt:Nat} (d:59≤nt) (l:List Nd) (c:Bool) (C:List AV) (b own:List Nat) (i k a:Nat) (h0:lit false (decide ((i:Int)<(b.length:Int)))=true):aj prog ap [] nt (ae 2 (af f40)) ⟨[(0,.sl (aI l) l.length c),(7,.int .i64 (k:Int)),(8,.int .i64 (a:Int)),(5,.ref 0 0 0 k),(6,.ref 1 0 0 b.length),(9,.nilS),(10,.int .i64 (i:Int))],[(0,⟨C,0,false,0,1,true⟩),(1,⟨(ai b),0,false,0,1,true⟩)],.dead,[]⟩ (.exit 2) ⟨[(0,.sl (aI l) l.length c),(7,.int .i64 (k:Int)),(8,.int .i64 (a:Int)),(5,.ref 0 0 0 k),(6,.ref 1 0 0 b.length),(9,.nilS)],[(0,⟨C,0,false,0,1,true⟩),(1,⟨(ai b),0,false,0,1,true⟩)],.dead,[]⟩:=pJ 40 [] 1 0 (.c h0 .nil) (.nil) d
theorem ab3 {nt:Nat} (f:59≤nt) (l:List Nd) (c:Bool) (C:List AV) (b own:List Nat) (i k a:Nat) (h0:(Nat.ble (own.length+1) 1099511627776)=true) (g:(Nat.ble (own.length*1) (List.length (ai own)))=true) (d:(gV (.int .i64) (List.headD (List.drop ((0+(Int.toNat (i:Int)))*1) (ai b)) .dead))=true) (e:(decide (((0:Nat):Int)≤(i:Int)))=true) (h:(decide ((i:Int)<(b.length:Int)))=true) (j:lit true (decide ((i:Int)<(b.length:Int)))=true):aj prog ap [] nt (ae 2 (af f40)) ⟨[(0,.sl (aI l) l.length c),(7,.int .i64 (k:Int)),(8,.int .i64 (a:Int)),(5,.ref 0 0 0 k),(6,.ref 1 0 0 b.length),(9,.ref 2 0 0 own.length),(10,.int .i64 (i:Int))],[(0,⟨C,0,false,0,1,true⟩),(1,⟨(ai b),0,false,0,1,true⟩),(2,⟨(ai own),0,false,0,1,true⟩)],.dead,[]⟩ (.normal) ⟨[(0,.sl (aI l) l.length c),(7,.int .i64 (k:Int)),(8,.int .i64 (a:Int)),(5,.ref 0 0 0 k),(6,.ref 1 0 0 b.length),(9,.ref 2 0 0 (own.length+1)),(10,.int .i64 (IntKind.wrap .i64 ((i:Int)+((1:Nat):Int))))],[(0,⟨C,0,false,0,1,true⟩),(1,⟨(ai b),0,false,0,1,true⟩),(2,⟨((List.take (own.length*1) (ai own))++ [.int .i64 (AV.toInt (List.headD (List.drop ((0+(Int.toNat (i:Int)))*1) (ai b)) .dead))]),0,false,0,1,true⟩)],.dead,[]⟩:=pJ 40 [] 1 1 (.k 1 h0 (.c g (.k 1 d (.c e (.c h (.c j .nil)))))) (.nil) f
theorem ab4 {nt:Nat} (d:59≤nt) (l:List Nd) (c:Bool) (C:List AV) (b own:List Nat) (i k a:Nat) (h0:lit false (decide ((i:Int)<(b.length:Int)))=true):aj prog ap [] nt (ae 2 (af f40)) ⟨[(0,.sl (aI l) l.length c),(7,.int .i64 (k:Int)),(8,.int .i64 (a:Int)),(5,.ref 0 0 0 k),(6,.ref 1 0 0 b.length),(9,.ref 2 0 0 own.length),(10,.int .i64 (i:Int))],[(0,⟨C,0,false,0,1,true⟩),(1,⟨(ai b),0,false,0,1,true⟩),(2,⟨(ai own),0,false,0,1,true⟩)],.dead,[]⟩ (.exit 2) ⟨[(0,.sl (aI l) l.length c),(7,.int .i64 (k:Int)),(8,.int .i64 (a:Int)),(5,.ref 0 0 0 k),(6,.ref 1 0 0 b.length),(9,.ref 2 0 0 own.length)],[(0,⟨C,0,false,0,1,true⟩),(1,⟨(ai b),0,false,0,1,true⟩),(2,⟨(ai own),0,false,0,1,true⟩)],.dead,[]⟩:=pJ 40 [] 1 0 (.c h0 .nil) (.nil) d
theorem alr {nt:Nat} (n:59≤nt) (l:List Nd) (c:Bool) (k a:Nat) (C:List AV) (b own:List Nat) (x:Nd) (r:List Nd) (d:(List.drop (((Int.toNat (k:Int))*5)+0) (aI l))=iY x++aI r) (h0:(Nat.ble (k+1) 1099511627776)=true) (q:(Nat.ble (k*1) (List.length C))=true) (e:(Nat.ble (((Int.toNat (IntKind.wrap .i64 ((b.length:Int) - (a:Int)))) - 0)+1) 1099511627776)=true) (f:(Nat.ble (((Int.toNat (IntKind.wrap .i64 ((b.length:Int) - (a:Int)))) - 0)*1) (List.length (ai b)))=true) (o:(decide (((0:Nat):Int)≤(IntKind.wrap .i64 ((b.length:Int) - (a:Int)))))=true) (p:(decide ((IntKind.wrap .i64 ((b.length:Int) - (a:Int)))≤(b.length:Int)))=true) (i:(decide (((0:Nat):Int)≤(k:Int)))=true) (m:(decide ((k:Int)<(l.length:Int)))=true) (g:lit true (decide ((k:Int)<(l.length:Int)))=true) (h:CO 30 [.int .i64 x.op] (.ret (.int .i64 (a:Int)))) (j:aH prog ap [] 59 (.block 2 (.loop (ae 2 (af f40)))) ⟨[(0,.sl (aI l) l.length c),(2,.dead),(3,.dead),(4,.dead),(5,.ref 0 0 0 k),(6,.ref 1 0 0 b.length),(7,.int .i64 (k:Int)),(8,.int .i64 (a:Int)),(9,.nilS),(10,.int .i64 (IntKind.wrap .i64 ((b.length:Int) - (a:Int)))),(14,.dead),(18,.bool (decide ((k:Int)<(l.length:Int)))),(34,.dead)],[(0,⟨C,0,false,0,1,true⟩),(1,⟨(ai b),0,false,0,1,true⟩)],.dead,[]⟩ (.normal) ⟨[(0,.sl (aI l) l.length c),(5,.ref 0 0 0 k),(6,.ref 1 0 0 b.length),(7,.int .i64 (k:Int)),(8,.int .i64 (a:Int)),(9,.nilS)],[(0,⟨C,0,false,0,1,true⟩),(1,⟨(ai b),0,false,0,1,true⟩)],.dead,[]⟩):aj prog ap [] nt (ae 0 (af f40)) ⟨[(0,.sl (aI l) l.length c),(5,.ref 0 0 0 k),(6,.ref 1 0 0 b.length),(7,.int .i64 (k:Int))],[(0,⟨C,0,false,0,1,true⟩),(1,⟨(ai b),0,false,0,1,true⟩)],.dead,[]⟩ (.normal) ⟨[(0,.sl (aI l) l.length c),(5,.ref 0 0 0 (k+1)),(6,.ref 1 0 0 (((Int.toNat (IntKind.wrap .i64 ((b.length:Int) - (a:Int)))) - 0)+1)),(7,.int .i64 (IntKind.wrap .i64 ((k:Int)+((1:Nat):Int))))],[(0,⟨((List.take (k*1) C)++ [.nilS]),0,false,0,1,true⟩),(1,⟨((List.take (((Int.toNat (IntKind.wrap .i64 ((b.length:Int) - (a:Int)))) - 0)*1) (ai b))++ [.int .i64 (k:Int)]),0,false,0,1,true⟩)],.dead,[]⟩:=pJ 40 [2] 1 1 (.k 1 h0 (.c q (.k 2 e (.c f (.k 2 o (.c p (.k 1 i (.c m (.c g .nil))))))))) (.l j (.c h (.v 24 (.ppt d) .nil))) n
theorem QR {nt:Nat} (d:59≤nt) (l:List Nd) (c:Bool) (k a:Nat) (C:List AV) (b own:List Nat) (h0:lit false (decide ((k:Int)<(l.length:Int)))=true):aj prog ap [] nt (ae 0 (af f40)) ⟨[(0,.sl (aI l) l.length c),(5,.ref 0 0 0 k),(6,.ref 1 0 0 b.length),(7,.int .i64 (k:Int))],[(0,⟨C,0,false,0,1,true⟩),(1,⟨(ai b),0,false,0,1,true⟩)],.dead,[]⟩ (.exit 0) ⟨[(5,.ref 0 0 0 k)],[(0,⟨C,0,false,0,1,true⟩),(1,⟨(ai b),0,false,0,1,true⟩)],.dead,[]⟩:=pJ 40 [2] 1 0 (.c h0 .nil) (.nil) d
theorem alp {nt:Nat} (n:59≤nt) (l:List Nd) (c:Bool) (k a:Nat) (C:List AV) (b own:List Nat) (x:Nd) (r:List Nd) (d:(List.drop (((Int.toNat (k:Int))*5)+0) (aI l))=iY x++aI r) (h0:(Nat.ble (k+1) 1099511627776)=true) (q:(Nat.ble (k*1) (List.length C))=true) (e:(Nat.ble (((Int.toNat (IntKind.wrap .i64 ((b.length:Int) - (a:Int)))) - 0)+1) 1099511627776)=true) (f:(Nat.ble (((Int.toNat (IntKind.wrap .i64 ((b.length:Int) - (a:Int)))) - 0)*1) (List.length (ai b)))=true) (o:(decide (((0:Nat):Int)≤(IntKind.wrap .i64 ((b.length:Int) - (a:Int)))))=true) (p:(decide ((IntKind.wrap .i64 ((b.length:Int) - (a:Int)))≤(b.length:Int)))=true) (i:(decide (((0:Nat):Int)≤(k:Int)))=true) (m:(decide ((k:Int)<(l.length:Int)))=true) (g:lit true (decide ((k:Int)<(l.length:Int)))=true) (h:CO 30 [.int .i64 x.op] (.ret (.int .i64 (a:Int)))) (j:aH prog ap [] 59 (.block 2 (.loop (ae 2 (af f40)))) ⟨[(0,.sl (aI l) l.length c),(2,.dead),(3,.dead),(4,.dead),(5,.ref 0 0 0 k),(6,.ref 1 0 0 b.length),(7,.int .i64 (k:Int)),(8,.int .i64 (a:Int)),(9,.nilS),(10,.int .i64 (IntKind.wrap .i64 ((b.length:Int) - (a:Int)))),(14,.dead),(18,.bool (decide ((k:Int)<(l.length:Int)))),(34,.dead)],[(0,⟨C,0,false,0,1,true⟩),(1,⟨(ai b),0,false,0,1,true⟩)],.dead,[]⟩ (.normal) ⟨[(0,.sl (aI l) l.length c),(5,.ref 0 0 0 k),(6,.ref 1 0 0 b.length),(7,.int .i64 (k:Int)),(8,.int .i64 (a:Int)),(9,.sl (ai own) own.length true)],[(0,⟨C,0,false,0,1,true⟩),(1,⟨(ai b),0,false,0,1,true⟩)],.dead,[]⟩):aj prog ap [] nt (ae 0 (af f40)) ⟨[(0,.sl (aI l) l.length c),(5,.ref 0 0 0 k),(6,.ref 1 0 0 b.length),(7,.int .i64 (k:Int))],[(0,⟨C,0,false,0,1,true⟩),(1,⟨(ai b),0,false,0,1,true⟩)],.dead,[]⟩ (.normal) ⟨[(0,.sl (aI l) l.length c),(5,.ref 0 0 0 (k+1)),(6,.ref 1 0 0 (((Int.toNat (IntKind.wrap .i64 ((b.length:Int) - (a:Int)))) - 0)+1)),(7,.int .i64 (IntKind.wrap .i64 ((k:Int)+((1:Nat):Int))))],[(0,⟨((List.take (k*1) C)++ [.sl (ai own) own.length true]),0,false,0,1,true⟩),(1,⟨((List.take (((Int.toNat (IntKind.wrap .i64 ((b.length:Int) - (a:Int)))) - 0)*1) (ai b))++ [.int .i64 (k:Int)]),0,false,0,1,true⟩)],.dead,[]⟩:=pJ 40 [2] 1 1 (.k 1 h0 (.c q (.k 2 e (.c f (.k 2 o (.c p (.k 1 i (.c m (.c g .nil))))))))) (.l j (.c h (.v 24 (.ppt d) .nil))) n
theorem abZ (l:List Nd) (a:Bool) (w:Int) (C:List AV) (n:Nat) (h0:lit true (!(w==((0:Nat):Int)))=true) (b:CO 48 [.sl (aI l) l.length a] (.ret (.int .i64 w))):CO 40 [.sl (aI l) l.length a] (.ret (.tup [.nilS,.bool false])):=pK [0] 1 1 (.c h0 .nil) (.c b .nil)
theorem ab1 (l:List Nd) (a:Bool) (w:Int) (C:List AV) (n:Nat) (h0:lit false (!(w==((0:Nat):Int)))=true) (b:CO 48 [.sl (aI l) l.length a] (.ret (.int .i64 w))) (c:aH prog ap [] 59 (.block 0 (.loop (ae 0 (af f40)))) ⟨[(0,.sl (aI l) l.length a),(2,.nilS),(3,.bool false),(4,.int .i64 w),(5,.nilS),(6,.nilS),(7,.int .i64 0),(8,.dead),(9,.dead),(10,.dead),(14,.bool (!(w==((0:Nat):Int)))),(18,.dead),(34,.dead)],[],.dead,[]⟩ (.normal) ⟨[(5,.ref 0 0 0 n)],[(0,⟨C,0,false,0,1,true⟩)],.dead,[]⟩):CO 40 [.sl (aI l) l.length a] (.ret (.tup [.own (List.take (n*1) C) n 1,.bool true])):=pK [0] 1 0 (.c h0 .nil) (.l c (.c b .nil))
def Jw (a:List Nat):AV:=match a with| []=> .nilS|x::l=> .sl (ai (x::l)) (x::l).length true
def iQ (ll:List (List Nat)):List AV:=ll.map Jw
theorem WJ {a:List Nat} (h:a ≠ []):Jw a= .sl (ai a) a.length true:=by cases a with|nil=>exact absurd rfl h|cons _ _=>rfl
theorem FN (a:List (List Nat)):(iQ a).length=a.length:=by simp [iQ]
theorem MF (b:List (List Nat)) (a:List Nat):iQ b++ [Jw a]=iQ (b++ [a]):=by simp [iQ]
theorem UQ {p r:List Nd} {x:Nd} {k:Nat} (h:k=p.length):List.drop (Int.toNat (k:Int)*5+0) (aI (p++x::r))=iY x++aI r:=by rw [Nat.add_zero];exact yh h
def riE (own:List Nat):AV:=match own with| []=> .nilS|x::l=> .ref 2 0 0 (x::l).length
def riH (own:List Nat):Hp:=match own with| []=> []|x::l=> [(2,⟨ai (x::l),0,false,0,1,true⟩)]
theorem I5 {l:List Nat} (h:l ≠ []):riE l= .ref 2 0 0 l.length:=by cases l with|nil=>exact absurd rfl h|cons _ _=>rfl
theorem I7 {l:List Nat} (h:l ≠ []):riH l= [(2,⟨ai l,0,false,0,1,true⟩)]:=by cases l with|nil=>exact absurd rfl h|cons _ _=>rfl
def Jk (C:List AV) (st:List Nat):Hp:= [(0,⟨C,0,false,0,1,true⟩),(1,⟨ai st,0,false,0,1,true⟩)]
def QX (l:List Nd) (nn:Bool) (C:List AV) (st:List Nat) (k a:Nat) (p:Nat × List Nat):St:=⟨[(0,.sl (aI l) l.length nn),(7,.int .i64 (k:Int)),(8,.int .i64 (a:Int)),(5,.ref 0 0 0 k),(6,.ref 1 0 0 st.length),(9,riE p.2),(10,.int .i64 (p.1:Int))],Jk C st++riH p.2,.dead,[]⟩
def KX (l:List Nd) (nn:Bool) (C:List AV) (st:List Nat) (k a:Nat) (own:List Nat):St:=⟨[(0,.sl (aI l) l.length nn),(7,.int .i64 (k:Int)),(8,.int .i64 (a:Int)),(5,.ref 0 0 0 k),(6,.ref 1 0 0 st.length),(9,riE own)],Jk C st++riH own,.dead,[]⟩
theorem YJ {nt:Nat} (h:59≤nt) (l:List Nd) (c:Bool) (C:List AV) (b:List Nat) (k a:Nat) (o:b.length<2^39):∀ (d i:Nat) (own:List Nat),i+d=b.length→own.length≤i→aF prog ap [] nt (ae 2 (af f40)) (fun _=> .exit 2) (QX l c C b k a) (KX l c C b k a) (i,own) (own++b.drop i):=by
 intro d
 induction d with
 | zero=>
  intro i own n m
  rw [List.drop_of_length_le (by omega),List.append_nil]
  have j:i=b.length:=by omega
  subst j
  refine .done ?_
  unfold QX KX Jk
  rcases Decidable.em (own= []) with rfl|hne
  ·exact ab6 h l c C b [] b.length k a (by rw [aY];simp [lit])
  ·simp only
   rw [I5 hne,I7 hne]
   exact ab4 h l c C b own b.length k a (by rw [aY];simp [lit])
 | succ d ih=>
  intro i own n m
  have g:i<b.length:=by omega
  have hnext:=ih (i+1) (own++ [b.getD i 0]) (by omega) (by simp;omega)
  have e:b.drop i=b.getD i 0::b.drop (i+1):=by
   rw [List.drop_eq_getElem_cons g,List.getD_eq_getElem?_getD,List.getElem?_eq_getElem g];rfl
  rw [List.append_assoc,List.singleton_append,← e] at hnext
  refine .next ?_ hnext
  unfold QX Jk
  simp only
  rw [I5 (iO _ _),I7 (iO _ _)]
  rcases Decidable.em (own= []) with rfl|hne
  ·have f:=ab5 h l c C b [] i k a
   simp (disch:=first|omega|(simp [ak,ay]<;>omega)) only [aA,Nat.zero_add,Nat.mul_one,gp,eP,dD,bu,aY,bG,dA,bz,a_] at f
   simp only [riE,riH,ai,List.map_cons,List.map_nil,List.length_cons,List.length_nil,List.nil_append,Nat.zero_add] at f ⊢
   apply f<;>first|exact True.intro|omega|assumption|exact rfl
  ·have f:=ab3 h l c C b own i k a
   simp (disch:=first|omega|(simp [ak,ay]<;>omega)) only [fP,bu,Nat.mul_one,dV,aA,Nat.zero_add,gp,eP,dD,aY,bG,dA,bz,dP,List.take_length,a_,jr] at f
   rw [I5 hne,I7 hne]
   simp only [List.length_append,List.length_singleton]
   apply f<;>first|exact True.intro|omega|assumption|exact rfl
def KP (l:List Nd) (nn:Bool) (p:Nat × List Nat × List AV):St:=⟨[(0,.sl (aI l) l.length nn),(5,match p.1 with|0=> .nilS|_=> .ref 0 0 0 p.1),(6,match p.1 with|0=> .nilS|_=> .ref 1 0 0 p.2.1.length),(7,.int .i64 (p.1:Int))],match p.1 with|0=> []|_=>Jk p.2.2 p.2.1,.dead,[]⟩
def D6 (p:Nat × List Nat × List AV):St:=⟨[(5,match p.1 with|0=> .nilS|_=> .ref 0 0 0 p.1)],match p.1 with|0=> []|_=>Jk p.2.2 p.2.1,.dead,[]⟩
theorem YB {nt:Nat} (g:59≤nt) (l p r:List Nd) (c:Bool) (x:Nd) (a:List Nat) (C:List AV) (w:l=p++x::r) (K:l.length<2^38) (t:dL x.op≤a.length) (H:a.length≤p.length) (j:p= []→a= []∧C= []) (F:C.length=p.length):
  aj prog ap [] nt (ae 0 (af f40)) (KP l c (p.length,a,C)) .normal (KP l c (p.length+1,a.take (a.length - dL x.op)++ [p.length],C++ [Jw (a.drop (a.length - dL x.op))])):=by
 have A:p.length+(r.length+1)=l.length:=by rw [w];simp
 have k3:=Hu x.op
 have D:=MC x.op
 rcases Decidable.em (p= []) with hp|hp
 ·obtain ⟨rfl,rfl⟩:=j hp
  subst hp
  have h0:dL x.op=0:=by simpa using t
  rw [h0] at k3
  rw [h0]
  have y:l=x::r:=by rw [w];rfl
  subst y
  exact alq g (x::r) c rfl (by rw [aY];exact decide_eq_true (Nat.succ_pos r.length)) (by rw [aY];exact decide_eq_true (Nat.succ_pos r.length)) k3
 ·obtain ⟨k,I⟩:∃ k,p.length=k+1:=⟨p.length - 1,by cases p with|nil=>exact absurd rfl hp|cons _ _=>simp⟩
  have o:List.drop (Int.toNat (p.length:Int)*5+0) (aI l)=iY x++aI r:=by rw [w];exact UQ rfl
  have hloop:=fun nt (g:59≤nt)=>YJ g l c C a p.length (dL x.op) (by omega) (dL x.op) (a.length - dL x.op) [] (by omega) (by simp)
  rw [List.nil_append] at hloop
  have f:KP l c (p.length,a,C)=⟨[(0,.sl (aI l) l.length c),(5,.ref 0 0 0 p.length),(6,.ref 1 0 0 a.length),(7,.int .i64 (p.length:Int))],Jk C a,.dead,[]⟩:=by rw [I];rfl
  rw [f]
  generalize L:a.length - dL x.op=m at*
  have G:IntKind.wrap .i64 ((a.length:Int) - ((dL x.op:Nat):Int))=(m:Int):=by rw [dB]<;>omega
  have e:(a.take m).length=m:=by rw [List.length_take];omega
  have J:C.length<2^38:=by omega
  have i:List.take p.length C=C:=List.take_of_length_le (by omega)
  rcases Decidable.em (a.drop m= []) with ho|ho
  ·have q:=alr g l c p.length (dL x.op) C a [] x r o
   rw [ho] at hloop ⊢
   simp (disch:=first|omega|(simp [ak,ay]<;>omega)) only [fP,bu,Nat.mul_one,F,G,aA,Nat.sub_zero,dV,dD,aY,bG,dA,bz,i,dP,jr] at q
   show aj prog ap [] nt _ _ .normal ⟨[(0,.sl (aI l) l.length c),(5,.ref 0 0 0 (p.length+1)),(6,.ref 1 0 0 (a.take m++ [p.length]).length),(7,.int .i64 ((p.length+1:Nat):Int))],Jk (C++ [Jw []]) (a.take m++ [p.length]),.dead,[]⟩
   simp only [List.length_append,List.length_singleton,e]
   unfold Jk
   apply q<;>first|exact True.intro|omega|assumption|exact rfl|skip
   ·refine aF.blk hloop (by simp) rfl ?_ ?_
    ·unfold QX Jk;exact aK.of ⟨rfl,rfl,rfl,rfl,rfl,rfl,rfl,trivial⟩
    ·unfold KX Jk;exact aK.of ⟨rfl,rfl,rfl,rfl,rfl,rfl,trivial⟩
  ·have q:=alp g l c p.length (dL x.op) C a (a.drop m) x r o
   simp (disch:=first|omega|(simp [ak,ay]<;>omega)) only [fP,bu,Nat.mul_one,F,G,aA,Nat.sub_zero,dV,dD,aY,bG,dA,bz,i,dP,jr] at q
   show aj prog ap [] nt _ _ .normal ⟨[(0,.sl (aI l) l.length c),(5,.ref 0 0 0 (p.length+1)),(6,.ref 1 0 0 (a.take m++ [p.length]).length),(7,.int .i64 ((p.length+1:Nat):Int))],Jk (C++ [Jw (a.drop m)]) (a.take m++ [p.length]),.dead,[]⟩
   rw [WJ ho]
   simp only [List.length_append,List.length_singleton,e]
   unfold Jk
   apply q<;>first|exact True.intro|omega|assumption|exact rfl|skip
   ·intro nt u
    have d:=(aF.blk (s:=QX l c C a p.length (dL x.op) (m,[])) (s':=KX l c C a p.length (dL x.op) (a.drop m)) (id:=2) hloop (by simp) rfl (aK.refl _) (aK.refl _) nt u)
    unfold QX KX Jk at d
    simp only [riE,riH,List.append_nil] at d
    have z:=I7 ho
    have E:=I5 ho
    unfold riE at E
    unfold riH at z
    rw [z,E] at d
    have n:=d.forget (b:=2) (B:=⟨ai (a.drop m),0,false,0,1,true⟩) (hp':= [(0,⟨C,0,false,0,1,true⟩),(1,⟨ai a,0,false,0,1,true⟩)]) (en':= [(0,.sl (aI l) l.length c),(5,.ref 0 0 0 p.length),(6,.ref 1 0 0 a.length),(7,.int .i64 (p.length:Int)),(8,.int .i64 ((dL x.op:Nat):Int)),(9,.sl (List.take ((a.drop m).length*1) (List.drop (0*1) (ai (a.drop m)))) (a.drop m).length true)]) (by intro v h;cases h) (by decide) rfl ⟨Fz.same rfl,Fz.same rfl,Fz.same rfl,Fz.same rfl,Fz.same rfl,Fz.ref,trivial⟩ ⟨rfl,Ji.same rfl,by decide,rfl,Ji.same rfl,by decide,rfl⟩
    rw [Nat.mul_one,Nat.zero_mul,List.drop_zero,dP,List.take_length] at n
    exact n.weak (aK.of ⟨rfl,rfl,rfl,rfl,rfl,rfl,rfl,trivial⟩) (aK.refl _)
theorem ab2 {nt:Nat} (e:59≤nt) (l:List Nd) (b:Bool) (a:List Nat) (C:List AV) (h0:0<l.length):aj prog ap [] nt (ae 0 (af f40)) (KP l b (l.length,a,C)) (.exit 0) (D6 (l.length,a,C)):=by
 obtain ⟨k,c⟩:∃ k,l.length=k+1:=⟨l.length - 1,by omega⟩
 have d:KP l b (l.length,a,C)=⟨[(0,.sl (aI l) l.length b),(5,.ref 0 0 0 l.length),(6,.ref 1 0 0 a.length),(7,.int .i64 (l.length:Int))],Jk C a,.dead,[]⟩:=by
  unfold KP;simp only [c]
 have f:D6 (l.length,a,C)=⟨[(5,.ref 0 0 0 l.length)],Jk C a,.dead,[]⟩:=by
  unfold D6;simp only [c]
 rw [d,f]
 exact QR e l b l.length 0 C a [] (by rw [aY];simp [lit])
theorem YA {nt:Nat} (n:59≤nt) (l:List Nd) (j:Bool) (k:l.length<2^38) (h0:0<l.length) (e:Nat):∀ (r p:List Nd) (a:List Nat) (done:List (List Nat)),p++r=l→jl r a.length= .inl e→a.length≤p.length→done.length=p.length→(p= []→a= [])→aF prog ap [] nt (ae 0 (af f40)) (fun _=> .exit 0) (KP l j) D6 (p.length,a,iQ done) (l.length,SB r p.length a,iQ (done++vC r p.length a)):=by
 intro r
 induction r with
 |nil=>
  intro p a done h m d f c
  have hp:p.length=l.length:=by rw [← h];simp
  rw [hp]
  simp only [vC,SB,List.append_nil]
  exact .done (ab2 n l j a _ h0)
 | cons x r ih=>
  intro p a done h m d f c
  obtain ⟨o,i,g⟩:=OL m
  have b:(a.take (a.length - dL x.op)++ [p.length]).length=a.length - dL x.op+1:=by
   rw [List.length_append,List.length_take,List.length_singleton,Nat.min_eq_left (by omega)]
  have hnext:=ih (p++ [x]) (a.take (a.length - dL x.op)++ [p.length]) (done++ [a.drop (a.length - dL x.op)]) (by simp [h]) (by rw [b];exact g) (by rw [b];simp;omega) (by simp [f]) (fun h=>by simp at h)
  rw [List.length_append,List.length_singleton,List.append_assoc,← MF] at hnext
  simp only [vC,SB]
  refine .next (YB n l p r j x a (iQ done) h.symm k i d (fun hp=> ⟨c hp, ?_⟩) (by rw [FN];exact f)) hnext
  have:done= []:=List.eq_nil_of_length_eq_zero (by rw [f,hp];rfl)
  rw [this];rfl
theorem Ve (l:List Nd) (a:Bool) (i:∀ x ∈ l,x.sm) (m:dG l=0):CO 40 [.sl (aI l) l.length a] (.ret (.tup [.sl (iQ (bQ l)) l.length true,.bool true])):=by
 have j:(iQ (bQ l)).length=l.length:=by rw [FN];unfold bQ;rw [BN]
 have c:List.take l.length (iQ (bQ l))=iQ (bQ l):=List.take_of_length_le (by omega)
 suffices hown:CO 40 [.sl (aI l) l.length a] (.ret (.tup [.own (iQ (bQ l)) l.length 1,.bool true])) by
  have h:=hown.thaw (by simp)
  simp only [wu,List.map_cons,List.map_nil,thaw,Nat.mul_one,c] at h
  exact h
 have g:=zo l a i
 obtain ⟨n,b⟩:=BZ m
 rw [m] at g
 have h0:0<l.length:=by
  cases l with
  |nil=>simp [jl] at b
  |cons _ _=>simp
 have hloop:=fun nt (hn:59≤nt)=>YA hn l a (by omega) h0 1 l [] [] [] rfl b (by simp) rfl (fun _=>rfl)
 have h:=ab1 l a 0 (iQ (bQ l)) l.length
 have q:l.length<1099511627776:=by omega
 simp (disch:=first|omega|(simp [ak,ay]<;>omega)) only [dM,eu,zY,Nat.mul_one,c] at h
 apply h<;>first|exact True.intro|omega|assumption|exact rfl|skip
 intro nt d
 have e:=aF.blk (s:=KP l a (0,[],iQ [])) (s':=D6 (l.length,SB l 0 [],iQ (bQ l))) (id:=0) hloop (by simp) rfl (aK.refl _) (aK.refl _) nt d
 obtain ⟨k,o⟩:∃ k,l.length=k+1:=⟨l.length - 1,by omega⟩
 have p:D6 (l.length,SB l 0 [],iQ (bQ l))=⟨[(5,.ref 0 0 0 l.length)],Jk (iQ (bQ l)) (SB l 0 []),.dead,[]⟩:=by
  unfold D6;simp only [o]
 rw [p] at e
 unfold Jk at e
 have f:=e.forget 1 _ (en':= [(5,.ref 0 0 0 l.length)]) (hp':= [(0,⟨iQ (bQ l),0,false,0,1,true⟩)]) (by intro v h;cases h) (by decide) rfl ⟨Fz.same rfl,trivial⟩ ⟨rfl,Ji.same rfl,by decide,rfl⟩
 exact f.weak (aK.of ⟨rfl,rfl,rfl,rfl,trivial⟩) (aK.refl _)
structure Sc where
 name:List UInt8
 u1:Int
 u2:Int
 bx:List AV
 bn:Nat
def xf (x:Sc):List AV:= [.str x.name,.int .i64 x.u1,.int .i64 x.u2,.sl x.bx x.bn false]
def eX (l:List Sc):List AV:=l.flatMap xf
theorem nP (l:List Sc):(eX l).length=l.length*4:=by
 induction l with
 |nil=>rfl
 |cons x r ih=>simp only [eX,List.flatMap_cons,List.length_append,List.length_cons] at ih ⊢;rw [ih];simp [xf];omega
theorem Et {l:List Sc} {k:Nat} (h:k<l.length):List.drop (k*4) (eX l)=xf l[k]++eX (l.drop (k+1)):=by
 induction l generalizing k with
 |nil=>simp at h
 | cons x r ih=>
  cases k with
  |zero=>simp [eX]
  |succ k=>
   have a:k<r.length:=by simpa using h
   show List.drop ((k+1)*4) (xf x++eX r)=_
   rw [show (k+1)*4=(xf x).length+k*4 by simp [xf];omega,List.drop_append,Nat.add_sub_cancel_left,ih a,List.drop_of_length_le (by omega)]
   rfl
def d_ (a b:Nat):Nat:=if a=0 then b else if b=0∨a=b then a else 3
def jK (a:Nat):Nat:=if a=1∨a=2 then 3 - a else a
def eU (A:List (List Nat)) (ss:List Nat) (k i:Nat):Nat:=ss.getD ((A.getD k []).getD i 0) 0
def eF (A:List (List Nat)) (ss:List Nat) (k:Nat):Nat:=(A.getD k []).foldl (fun s i=>d_ s (ss.getD i 0)) 0
abbrev wB (e:List Nd) (ne:Bool) (A:List (List Nat)) (sc:List Sc) (ns:Bool) (ss:List Nat):bi:=⟨[.sl (aI e) e.length ne,.sl (bC A) A.length true,.sl (eX sc) sc.length ns,.ref 1 0 0 ss.length],0,false,0,0,false⟩
abbrev sB (ss:List Nat):bi:=⟨ai ss,0,false,0,1,true⟩
abbrev wH (e:List Nd) (ne:Bool) (A:List (List Nat)) (sc:List Sc) (ns:Bool) (ss:List Nat):List bi:= [wB e ne A sc ns ss,sB ss]
theorem kZ {A:List (List Nat)} {k:Nat} (h:k<A.length):List.drop (Int.toNat (k:Int)*1) (bC A)= [yL (A.getD k [])]++bC (A.drop (k+1)):=by
 unfold bC
 rw [aA,Nat.mul_one,← List.map_drop,List.drop_eq_getElem_cons h,List.getD_eq_getElem?_getD,List.getElem?_eq_getElem h]
 rfl
theorem kE {a:List Nat} {k:Nat} (h:k<a.length):List.drop (Int.toNat (k:Int)*1) (ai a)= [AV.int .i64 ((a.getD k 0:Nat):Int)]++ai (a.drop (k+1)):=by
 unfold ai
 rw [aA,Nat.mul_one,← List.map_drop,List.drop_eq_getElem_cons h,List.getD_eq_getElem?_getD,List.getElem?_eq_getElem h]
 rfl
theorem aQ (k:Nat):decide (((0:Nat):Int)≤(k:Int))=true:=decide_eq_true (by omega)
theorem bK {k n:Nat} (h:k<n):decide ((k:Int)<(n:Int))=true:=decide_eq_true (by omega)
theorem akX (e:List Nd) (c:Bool) (A:List (List Nat)) (d:List Sc) (f:Bool) (b:List Nat) (k i:Nat) (a:List Nat) (rA:List AV) (j:Nat) (p:List AV) (s:Nat) (n:List AV) (l:k<A.length) (h:(List.drop ((Int.toNat (k:Int))*1) (bC A))= [yL a]++rA) (o:i<a.length) (m:(List.drop ((Int.toNat (i:Int))*1) (ai a))= [AV.int .i64 (j:Int)]++p) (g:j<b.length) (hs:(List.drop ((0+(Int.toNat (j:Int)))*1) (ai b))= [AV.int .i64 (s:Int)]++n):
  au prog ap 69 [.ptr 0 0 0,.int .i64 (k:Int),.int .i64 (i:Int)] (wH e c A d f b) (.ret (.int .i64 (s:Int))) (wH e c A d f b):=pK [] 0 0 (.a (gZ [.int .i64] hs rfl) (.c (aQ j) (.c (bK g) (.k 1 (aQ i) (.c (bK o) (.k 1 (aQ k) (.c (bK l) (.n 2 .nil)))))))) (.v 22 (.rd1 (.int .i64) hs rfl) (.v 19 (.ppt m) (.v 16 (.ppt h) .nil)))
theorem pM (e:List Nd) (b:Bool) (A:List (List Nat)) (c:List Sc) (d:Bool) (a:List Nat) (k i:Nat) (g:k<A.length) (h:i<(A.getD k []).length) (f:(A.getD k []).getD i 0<a.length):
  au prog ap 69 [.ptr 0 0 0,.int .i64 (k:Int),.int .i64 (i:Int)] (wH e b A c d a) (.ret (.int .i64 ((eU A a k i:Nat):Int))) (wH e b A c d a):=
 akX e b A c d a k i _ _ _ _ _ _ g (kZ g) h (kE h) f (by rw [Nat.zero_add];exact kE f)
theorem ig (a b:Nat):((a:Int)==(b:Int))=decide (a=b):=by by_cases h:a=b<;>simp [h]<;>omega
theorem Iz (a b:Nat):CO 68 [.int .i64 (a:Int),.int .i64 (b:Int)] (.ret (.int .i64 ((d_ a b:Nat):Int))):=by
 rcases tf ((a:Int)==((0:Nat):Int)) with b0|b0
 ·rw [show d_ a b=b by unfold d_;simp only [ig,decide_eq_true_eq,decide_eq_false_iff_not] at b0;simp [*]]
  exact pK [] 1 1 (.c (aC b0) .nil) (.nil)
 ·rcases tf ((b:Int)==((0:Nat):Int)) with b1|b1
  ·rw [show d_ a b=a by unfold d_;simp only [ig,decide_eq_true_eq,decide_eq_false_iff_not] at b0 b1;simp [*]]
   exact pK [] 3 6 (.k 1 (aC b1) (.c (aB b0) .nil)) (.nil)
  ·rcases tf ((a:Int)==(b:Int)) with b2|b2
   ·rw [show d_ a b=a by unfold d_;simp only [ig,decide_eq_true_eq,decide_eq_false_iff_not] at b0 b1 b2;simp [*]]
    exact pK [] 3 4 (.c (aC b2) (.c (aB b1) (.c (aB b0) .nil))) (.nil)
   ·rw [show d_ a b=3 by unfold d_;simp only [ig,decide_eq_true_eq,decide_eq_false_iff_not] at b0 b1 b2;simp [*]]
    exact pK [] 3 0 (.c (aB b2) (.c (aB b1) (.c (aB b0) .nil))) (.nil)
theorem PO (a:Nat):CO 97 [.int .i64 (a:Int)] (.ret (.int .i64 ((jK a:Nat):Int))):=by
 rcases tf ((a:Int)==((1:Nat):Int)) with b0|b0
 ·have e:((jK a:Nat):Int)=IntKind.wrap .i64 (((3:Nat):Int) - (a:Int)):=by
   simp only [ig,decide_eq_true_eq,decide_eq_false_iff_not] at b0
   subst b0
   decide
  rw [e]
  exact pK [] 2 3 (.k 1 (aC b0) .nil) (.nil)
 ·rcases tf ((a:Int)==((2:Nat):Int)) with b1|b1
  ·have e:((jK a:Nat):Int)=IntKind.wrap .i64 (((3:Nat):Int) - (a:Int)):=by
    simp only [ig,decide_eq_true_eq,decide_eq_false_iff_not] at b0 b1
    subst b1
    decide
   rw [e]
   exact pK [] 2 2 (.c (aC b1) (.c (aB b0) .nil)) (.nil)
  ·rw [show jK a=a by unfold jK;simp only [ig,decide_eq_true_eq,decide_eq_false_iff_not] at b0 b1;simp [*]]
   exact pK [] 2 0 (.c (aB b1) (.c (aB b0) .nil)) (.nil)
theorem iZ {i:Nat} (h:i<2^62):AV.int .i64 (IntKind.wrap .i64 ((i:Int)+((1:Nat):Int)))= .int .i64 ((i+1:Nat):Int):=by rw [dB]<;>first|rfl|omega
def cy (fd fc:Nat→Nat→Nat→Nat):List Nat→List Nat→Nat→List Nat × Nat
 | [],_,c=>([],c)
 |x::l,m,c=>(fd x (m.headD 0) c::(cy fd fc l m.tail (fc x (m.headD 0) c)).1,(cy fd fc l m.tail (fc x (m.headD 0) c)).2)
theorem qV {l:List Nat} {i:Nat} (h:i<l.length):l.getD i 0=l[i]:=by rw [List.getD_eq_getElem?_getD,List.getElem?_eq_getElem h];rfl
def ad5 (e:List Nd) (ne:Bool) (A:List (List Nat)) (sc:List Sc) (ns:Bool) (ss:List Nat) (k n:Nat) (p:Nat × Nat):St:=⟨[(0,.ptr 0 0 0),(1,.int .i64 (k:Int)),(5,.int .i64 (p.2:Int)),(14,.int .i64 (n:Int)),(15,.int .i64 (p.1:Int))],[(0,⟨[.sl (aI e) e.length ne,.sl (bC A) A.length true,.sl (eX sc) sc.length ns,.ref 1 0 0 ss.length],0,false,0,0,false⟩),(1,⟨(ai ss),0,false,0,1,true⟩)],.dead,[]⟩
def ZG (e:List Nd) (ne:Bool) (A:List (List Nat)) (sc:List Sc) (ns:Bool) (ss:List Nat) (k:Nat) (acc:Nat):St:=⟨[(0,.ptr 0 0 0),(1,.int .i64 (k:Int)),(5,.int .i64 (acc:Int))],[(0,⟨[.sl (aI e) e.length ne,.sl (bC A) A.length true,.sl (eX sc) sc.length ns,.ref 1 0 0 ss.length],0,false,0,0,false⟩),(1,⟨(ai ss),0,false,0,1,true⟩)],.dead,[]⟩
theorem SL {nt:Nat} (p:26≤nt) (e:List Nd) (g:Bool) (A:List (List Nat)) (f:List Sc) (h:Bool) (c:List Nat) (k n:Nat) (r:k<A.length) (x:n<2^40) (u:n=(A.getD k []).length) (v:∀ j ∈ A.getD k [],j<c.length):∀ (d i a:Nat),i+d=n→
  aF prog ap (wH e g A f h c) nt (ae 0 (af f39)) (fun _=> .exit 0) (ad5 e g A f h c k n) (ZG e g A f h c k) (i,a) (((A.getD k []).drop i).foldl (fun s j=>d_ s (c.getD j 0)) a):=by
 intro d
 induction d with
 |zero=>
  intro i a t
  have m:(decide ((i:Int)<(n:Int)))=false:=decide_eq_false (by omega)
  rw [List.drop_of_length_le (by omega)]
  exact .done (pN 39 [] 1 0 (.c (aB m) .nil) (.nil) p)
 | succ d ih=>
  intro i a t
  have m:(decide ((i:Int)<(n:Int)))=true:=decide_eq_true (by omega)
  have b:i<(A.getD k []).length:=by omega
  have o:=b
  have l:(A.getD k []).getD i 0<c.length:=by
   rw [qV b];exact v _ (List.getElem_mem b)
  have w:i<2^62:=by omega
  rw [List.drop_eq_getElem_cons b]
  have q:(A.getD k [])[i]=(A.getD k []).getD i 0:=(qV b).symm
  rw [q]
  exact .next (pN 39 [] 1 1 (.c (aC m) .nil) (.v 24 (.eq (iZ w)) (.c (Iz a (eU A c k i)) (.c (pM e g A f h c k i r o l) .nil))) p) (ih (i+1) (d_ a (eU A c k i)) (by omega))
theorem ad6 (e:List Nd) (d:Bool) (A:List (List Nat)) (c:List Sc) (f:Bool) (b:List Nat) (k:Nat) (a:List Nat) (rA:List AV) (z:Nat) (h:k<A.length) (g:(List.drop ((Int.toNat (k:Int))*1) (bC A))= [yL a]++rA)
  (l0:aH prog ap (wH e d A c f b) 26 (.block 0 (.loop (ae 0 (af f39)))) ⟨[(0,.ptr 0 0 0),(1,.int .i64 (k:Int)),(4,.int .i64 0),(5,.int .i64 0),(6,.dead),(14,.int .i64 (a.length:Int)),(15,.int .i64 0),(16,.dead)],[(0,⟨[.sl (aI e) e.length d,.sl (bC A) A.length true,.sl (eX c) c.length f,.ref 1 0 0 b.length],0,false,0,0,false⟩),(1,⟨(ai b),0,false,0,1,true⟩)],.dead,[]⟩ (.normal) ⟨[(0,.ptr 0 0 0),(1,.int .i64 (k:Int)),(5,.int .i64 (z:Int))],[(0,⟨[.sl (aI e) e.length d,.sl (bC A) A.length true,.sl (eX c) c.length f,.ref 1 0 0 b.length],0,false,0,0,false⟩),(1,⟨(ai b),0,false,0,1,true⟩)],.dead,[]⟩):
  au prog ap 39 [.ptr 0 0 0,.int .i64 (k:Int)] (wH e d A c f b) (.ret (.int .i64 (z:Int))) (wH e d A c f b):=pK [0] 0 0 (.k 1 (aQ k) (.c (bK h) (.n 1 .nil))) (.l l0 (.v 12 (.ppt g) .nil))
theorem aaw (e:List Nd) (b:Bool) (A:List (List Nat)) (c:List Sc) (d:Bool) (a:List Nat) (k:Nat) (f:k<A.length) (g:(A.getD k []).length<2^40) (i:∀ j ∈ A.getD k [],j<a.length):
  au prog ap 39 [.ptr 0 0 0,.int .i64 (k:Int)] (wH e b A c d a) (.ret (.int .i64 ((eF A a k:Nat):Int))) (wH e b A c d a):=
 have h:∀ nt,26≤nt→aF prog ap (wH e b A c d a) nt (ae 0 (af f39)) (fun _=> .exit 0) (ad5 e b A c d a k (A.getD k []).length) (ZG e b A c d a k) (0,0) (eF A a k):=fun nt l=>SL l e b A c d a k _ f g rfl i _ 0 0 (Nat.zero_add _)
 ad6 e b A c d a k _ _ (eF A a k) f (kZ f) (aF.blk h (by simp) rfl (aK.of ⟨rfl,rfl,rfl,rfl,rfl,trivial⟩) (aK.of ⟨rfl,rfl,rfl,trivial⟩))
def jc:Nd:=⟨0,false,[],[],[]⟩
def fF (op:Int):Bool:=(op==1)||((op==2)||(op==3))
def qZ (e:List Nd) (A:List (List Nat)) (k i:Nat):Nd:=e.getD ((A.getD k []).getD i 0) jc
theorem ul {e:List Nd} {j:Nat} (h:j<e.length):List.drop (Int.toNat (j:Int)*5) (aI e)=iY (e.getD j jc)++aI (e.drop (j+1)):=by
 have b:e=e.take j++e[j]::e.drop (j+1):=by simp
 have a:e.getD j jc=e[j]:=by rw [List.getD_eq_getElem?_getD,List.getElem?_eq_getElem h];rfl
 rw [a]
 conv=>lhs;rw [b]
 exact yh (by rw [List.length_take];omega)
theorem jk {A:List (List Nat)} {k i m:Nat} (a:∀ j ∈ A.getD k [],j<m) (h:i<(A.getD k []).length):(A.getD k []).getD i 0<m:=by rw [qV h];exact a _ (List.getElem_mem h)
theorem akg (e:List Nd) (m:Bool) (A:List (List Nat)) (n:List Sc) (o:Bool) (l:List Nat) (k i:Nat) (a:List Nat) (rA:List AV) (j:Nat) (q:List AV) (x:Nd) (p:List AV) (f:k<A.length) (d:(List.drop ((Int.toNat (k:Int))*1) (bC A))= [yL a]++rA) (h:i<a.length) (g:(List.drop ((Int.toNat (i:Int))*1) (ai a))= [AV.int .i64 (j:Int)]++q) (c:j<e.length) (b:(List.drop ((Int.toNat (j:Int))*5) (aI e))=iY x++p):
  au prog ap 98 [.ptr 0 0 0,.int .i64 (k:Int),.int .i64 (i:Int)] (wH e m A n o l) (.ret (.tup [.agg [.bool x.neg,.str x.num,.str x.den],.bool (fF x.op)])) (wH e m A n o l):=by
 rcases tf (x.op==((1:Nat):Int)) with b0|b0
 ·rw [show fF x.op=true from by unfold fF;rw [show (x.op==1)=true from b0];rfl]
  exact pK [] 2 3 (.k 5 (aC b0) (.k 10 (aQ j) (.c (bK c) (.k 1 (aQ i) (.c (bK h) (.k 1 (aQ k) (.c (bK f) (.n 2 .nil)))))))) (.v 23 (.ppt b) (.v 21 (.ppt g) (.v 18 (.ppt d) .nil)))
 ·rcases tf (x.op==((2:Nat):Int)) with b1|b1
  ·rw [show fF x.op=true from by unfold fF;rw [show (x.op==1)=false from b0,show (x.op==2)=true from b1];rfl]
   exact pK [] 2 2 (.k 4 (aC b1) (.k 1 (aB b0) (.k 10 (aQ j) (.c (bK c) (.k 1 (aQ i) (.c (bK h) (.k 1 (aQ k) (.c (bK f) (.n 2 .nil))))))))) (.v 23 (.ppt b) (.v 21 (.ppt g) (.v 18 (.ppt d) .nil)))
  ·rw [show fF x.op=(x.op==((3:Nat):Int)) from by unfold fF;rw [show (x.op==1)=false from b0,show (x.op==2)=false from b1];rfl]
   exact pK [] 2 0 (.k 5 (aB b1) (.k 1 (aB b0) (.k 10 (aQ j) (.c (bK c) (.k 1 (aQ i) (.c (bK h) (.k 1 (aQ k) (.c (bK f) (.n 2 .nil))))))))) (.v 23 (.ppt b) (.v 21 (.ppt g) (.v 18 (.ppt d) .nil)))
theorem ui (e:List Nd) (b:Bool) (A:List (List Nat)) (c:List Sc) (d:Bool) (a:List Nat) (k i:Nat) (g:k<A.length) (h:i<(A.getD k []).length) (f:(A.getD k []).getD i 0<e.length):
  au prog ap 98 [.ptr 0 0 0,.int .i64 (k:Int),.int .i64 (i:Int)] (wH e b A c d a) (.ret (.tup [.agg [.bool (qZ e A k i).neg,.str (qZ e A k i).num,.str (qZ e A k i).den],.bool (fF (qZ e A k i).op)])) (wH e b A c d a):=
 akg e b A c d a k i _ _ _ _ _ _ g (kZ g) h (kE h) f (ul f)
def gW (neg:Bool) (s:Nat):Nat:=cond neg (jK s) s
theorem N8 (e:List Nd) (b:Bool) (A:List (List Nat)) (c:List Sc) (d:Bool) (a:List Nat) (k i:Nat) (x:Nd) (g:k<A.length) (h:i<(A.getD k []).length) (f:(A.getD k []).getD i 0<a.length):
  au prog ap 99 [.ptr 0 0 0,.int .i64 (k:Int),.int .i64 (i:Int),.agg [.bool x.neg,.str x.num,.str x.den]] (wH e b A c d a) (.ret (.int .i64 ((gW x.neg (eU A a k i):Nat):Int))) (wH e b A c d a):=by
 rcases tf x.neg with b0|b0
 ·rw [show gW x.neg (eU A a k i)=jK (eU A a k i) by unfold gW;rw [b0];rfl]
  exact pK [] 1 1 (.c (aC b0) (.n 1 .nil)) (.c (PO (eU A a k i)) (.c (pM e b A c d a k i g h f) .nil))
 ·rw [show gW x.neg (eU A a k i)=eU A a k i by unfold gW;rw [b0];rfl]
  exact pK [] 1 0 (.c (aB b0) (.n 1 .nil)) (.c (pM e b A c d a k i g h f) .nil)
def DI (e:List Nd) (A:List (List Nat)) (ss:List Nat) (k:Nat):Nat:=cond (fF (qZ e A k 0).op) (gW (qZ e A k 0).neg (eU A ss k 1)) (cond (fF (qZ e A k 1).op) (gW (qZ e A k 1).neg (eU A ss k 0)) 3)
def Cj (e:List Nd) (A:List (List Nat)) (ss:List Nat) (k:Nat):Nat:=cond (fF (qZ e A k 1).op) (cond (fV (qZ e A k 1).neg (qZ e A k 1).num (qZ e A k 1).den==((0:Nat):Int)) 3 (gW (qZ e A k 1).neg (eU A ss k 0))) 3
def H9 (A:List (List Nat)) (ss:List Nat) (k:Nat):Nat:=cond (((eU A ss k 0:Nat):Int)==((0:Nat):Int)) (d_ (eU A ss k 1) (eU A ss k 2)) 3
theorem abK (e:List Nd) (b:Bool) (A:List (List Nat)) (c:List Sc) (d:Bool) (a:List Nat) (k:Nat) (f:k<A.length) (hs:∀ j ∈ A.getD k [],j<a.length) (h:∀ j ∈ A.getD k [],j<e.length) (h0:0<(A.getD k []).length) (g:1<(A.getD k []).length):
  au prog ap 64 [.ptr 0 0 0,.int .i64 (k:Int)] (wH e b A c d a) (.ret (.int .i64 ((DI e A a k:Nat):Int))) (wH e b A c d a):=by
 rcases tf (fF (qZ e A k 0).op) with b0|b0
 ·rw [show DI e A a k=gW (qZ e A k 0).neg (eU A a k 1) by unfold DI;rw [b0];rfl]
  exact pK [] 1 1 (.k 3 (aC b0) (.n 1 .nil)) (.c (N8 e b A c d a k 1 (qZ e A k 0) f g (jk hs g)) (.c (ui e b A c d a k 0 f h0 (jk h h0)) .nil))
 ·rcases tf (fF (qZ e A k 1).op) with b1|b1
  ·rw [show DI e A a k=gW (qZ e A k 1).neg (eU A a k 0) by unfold DI;rw [b0,b1];rfl]
   exact pK [] 2 2 (.k 3 (aC b1) (.k 1 (aB b0) (.n 1 .nil))) (.c (N8 e b A c d a k 0 (qZ e A k 1) f h0 (jk hs h0)) (.c (ui e b A c d a k 1 f g (jk h g)) (.c (ui e b A c d a k 0 f h0 (jk h h0)) .nil)))
  ·rw [show DI e A a k=3 by unfold DI;rw [b0,b1];rfl]
   exact pK [] 2 0 (.c (aB b1) (.k 1 (aB b0) (.n 1 .nil))) (.c (ui e b A c d a k 1 f g (jk h g)) (.c (ui e b A c d a k 0 f h0 (jk h h0)) .nil))
theorem aba (e:List Nd) (b:Bool) (A:List (List Nat)) (c:List Sc) (d:Bool) (a:List Nat) (k:Nat) (g:k<A.length) (hs:∀ j ∈ A.getD k [],j<a.length) (i:∀ j ∈ A.getD k [],j<e.length) (h0:0<(A.getD k []).length) (f:1<(A.getD k []).length) (h:(qZ e A k 1).num.length<2^36∧(qZ e A k 1).den.length<2^36):
  au prog ap 65 [.ptr 0 0 0,.int .i64 (k:Int)] (wH e b A c d a) (.ret (.int .i64 ((Cj e A a k:Nat):Int))) (wH e b A c d a):=by
 rcases tf (fF (qZ e A k 1).op) with b0|b0
 ·rcases tf ((fV (qZ e A k 1).neg (qZ e A k 1).num (qZ e A k 1).den)==((0:Nat):Int)) with b1|b1
  ·rw [show Cj e A a k=3 by unfold Cj;rw [b0,b1];rfl]
   exact pK [] 2 1 (.c (aS b1) (.k 3 (aC b0) (.n 1 .nil))) (.c (fG (qZ e A k 1).neg (qZ e A k 1).num (qZ e A k 1).den h.1 h.2) (.c (ui e b A c d a k 1 g f (jk i f)) .nil))
  ·rw [show Cj e A a k=gW (qZ e A k 1).neg (eU A a k 0) by unfold Cj;rw [b0,b1];rfl]
   exact pK [] 2 3 (.k 3 (dJ b1) (.k 3 (aC b0) (.n 1 .nil))) (.c (N8 e b A c d a k 0 (qZ e A k 1) g h0 (jk hs h0)) (.c (fG (qZ e A k 1).neg (qZ e A k 1).num (qZ e A k 1).den h.1 h.2) (.c (ui e b A c d a k 1 g f (jk i f)) .nil)))
 ·rw [show Cj e A a k=3 by unfold Cj;rw [b0];rfl]
  exact pK [] 2 0 (.k 1 (aB b0) (.n 1 .nil)) (.c (ui e b A c d a k 1 g f (jk i f)) .nil)
theorem aaU (e:List Nd) (b:Bool) (A:List (List Nat)) (c:List Sc) (d:Bool) (a:List Nat) (k:Nat) (f:k<A.length) (hs:∀ j ∈ A.getD k [],j<a.length) (i:∀ j ∈ A.getD k [],j<e.length) (h0:0<(A.getD k []).length) (h:1<(A.getD k []).length) (g:2<(A.getD k []).length):
  au prog ap 66 [.ptr 0 0 0,.int .i64 (k:Int)] (wH e b A c d a) (.ret (.int .i64 ((H9 A a k:Nat):Int))) (wH e b A c d a):=by
 rcases tf ((((eU A a k 0):Nat):Int)==((0:Nat):Int)) with b0|b0
 ·rw [show H9 A a k=d_ (eU A a k 1) (eU A a k 2) by unfold H9;rw [b0];rfl]
  exact pK [] 1 0 (.c (aS b0) .nil) (.c (Iz (eU A a k 1) (eU A a k 2)) (.c (pM e b A c d a k 2 f g (jk hs g)) (.c (pM e b A c d a k 1 f h (jk hs h)) (.c (pM e b A c d a k 0 f h0 (jk hs h0)) .nil))))
 ·rw [show H9 A a k=3 by unfold H9;rw [b0];rfl]
  exact pK [] 1 1 (.c (dJ b0) .nil) (.c (pM e b A c d a k 0 f h0 (jk hs h0)) .nil)
theorem ade (e:List Nd) (b:Bool) (A:List (List Nat)) (c:List Sc) (d:Bool) (a:List Nat) (k:Nat) (f:k<A.length) (hs:∀ j ∈ A.getD k [],j<a.length) (h:∀ j ∈ A.getD k [],j<e.length) (h0:0<(A.getD k []).length) (g:1<(A.getD k []).length):
  au prog ap 63 [.ptr 0 0 0,.int .i64 (k:Int)] (wH e b A c d a) (.ret (.int .i64 ((d_ (eU A a k 0) (jK (eU A a k 1)):Nat):Int))) (wH e b A c d a):=by
 exact pK [] 0 0 .nil (.c (Iz (eU A a k 0) (jK (eU A a k 1))) (.c (PO (eU A a k 1)) (.c (pM e b A c d a k 1 f g (jk hs g)) (.c (pM e b A c d a k 0 f h0 (jk hs h0)) .nil))))
abbrev rH (e:List Nd) (ne:Bool) (A:List (List Nat)) (sc:List Sc) (ns:Bool) (ss:List Nat) (k:Nat):List bi:= [⟨[.ptr 2 0 0],0,false,0,0,false⟩,⟨[.int .i64 (k:Int)],0,false,0,0,true⟩,⟨[.sl (aI e) e.length ne,.sl (bC A) A.length true,.sl (eX sc) sc.length ns,.ref 3 0 0 ss.length],0,false,0,0,false⟩,⟨(ai ss),0,false,0,1,true⟩]
theorem ZM (e:List Nd) (b:Bool) (A:List (List Nat)) (c:List Sc) (d:Bool) (a:List Nat) (k:Nat) (x:Sc) (y:Nd) (h:List AV) (f:k<e.length) (g:(List.drop ((Int.toNat (k:Int))*5) (aI e))=iY y++h):
  au prog ap 101 [.agg (xf x),.ptr 0 0 0,.ptr 1 0 0] (rH e b A c d a k) (.ret (.bool (x.name==y.name))) (rH e b A c d a k):=pK [] 0 0 (.k 1 (aQ k) (.c (bK f) (.n 4 .nil))) (.v 12 (.ppt g) .nil)
def ajA (e:List Nd) (ne:Bool) (A:List (List Nat)) (sc:List Sc) (ns:Bool) (ss:List Nat) (k:Nat) (p:Nat × Unit):St:=⟨[(0,.sl (eX sc) sc.length ns),(1,.fn 101 [] [.ptr 0 0 0,.ptr 1 0 0]),(7,.int .i64 (sc.length:Int)),(8,.int .i64 (p.1:Int))],[(0,⟨[.ptr 2 0 0],0,false,0,0,false⟩),(1,⟨[.int .i64 (k:Int)],0,false,0,0,true⟩),(2,⟨[.sl (aI e) e.length ne,.sl (bC A) A.length true,.sl (eX sc) sc.length ns,.ref 3 0 0 ss.length],0,false,0,0,false⟩),(3,⟨(ai ss),0,false,0,1,true⟩)],.dead,[]⟩
def Z7 (e:List Nd) (ne:Bool) (A:List (List Nat)) (sc:List Sc) (ns:Bool) (ss:List Nat) (k:Nat):Option Nat→St
 |none=> ⟨[(0,.sl (eX sc) sc.length ns)],[(0,⟨[.ptr 2 0 0],0,false,0,0,false⟩),(1,⟨[.int .i64 (k:Int)],0,false,0,0,true⟩),(2,⟨[.sl (aI e) e.length ne,.sl (bC A) A.length true,.sl (eX sc) sc.length ns,.ref 3 0 0 ss.length],0,false,0,0,false⟩),(3,⟨(ai ss),0,false,0,1,true⟩)],.dead,[]⟩
 |some i=> ⟨[(4,.int .i64 (i:Int))],[(0,⟨[.ptr 2 0 0],0,false,0,0,false⟩),(1,⟨[.int .i64 (k:Int)],0,false,0,0,true⟩),(2,⟨[.sl (aI e) e.length ne,.sl (bC A) A.length true,.sl (eX sc) sc.length ns,.ref 3 0 0 ss.length],0,false,0,0,false⟩),(3,⟨(ai ss),0,false,0,1,true⟩)],.dead,[]⟩
def Sv:Option Nat→bM
 |none=> .exit 0
 |some _=> .ret
def Ir (nm:List UInt8):List Sc→Nat→Option Nat
 | [],_=>none
 |x::r,i=>if x.name==nm then some i else Ir nm r (i+1)
theorem XG {nt:Nat} (l:19≤nt) (e:List Nd) (f:Bool) (A:List (List Nat)) (a:List Sc) (g:Bool) (d:List Nat) (k:Nat) (y:Nd) (j:List AV) (m:k<e.length) (n:(List.drop ((Int.toNat (k:Int))*5) (aI e))=iY y++j) (t:a.length<2^40):∀ (r p:List Sc),p++r=a→
  aF prog ap (rH e f A a g d k) nt (ae 0 (af f100)) Sv (ajA e f A a g d k) (Z7 e f A a g d k) (p.length,()) (Ir y.name r p.length):=by
 intro r
 induction r with
 |nil=>
  intro p hp
  rw [List.append_nil] at hp
  subst hp
  generalize s:p.length=i
  have b:(decide ((i:Int)<(p.length:Int)))=false:=decide_eq_false (by omega)
  exact .done (pN 100 [] 1 0 (.c (aB b) .nil) (.nil) l)
 | cons x r ih=>
  intro p hp
  have h:(List.drop ((Int.toNat (p.length:Int))*4) (eX a))=xf x++eX r:=by
   have o:p.length<a.length:=by rw [← hp];simp
   rw [aA,Et o]
   have u:a[p.length]=x:=by subst hp;simp
   have q:a.drop (p.length+1)=r:=by rw [← hp];simp
   rw [u,q]
  have o:p.length<a.length:=by rw [← hp];simp
  have c:=ih (p++ [x]) (by rw [← hp];simp)
  rw [List.length_append,List.length_singleton] at c
  unfold Ir
  generalize s:p.length=i at*
  generalize eX r=rS at h
  have b:(decide ((i:Int)<(a.length:Int)))=true:=decide_eq_true (by omega)
  have v:i<2^62:=by omega
  rcases tf (x.name==y.name) with b1|b1
  ·rw [if_pos b1]
   exact .done (pN 100 [] 2 3 (.c (aC b1) (.k 4 (aQ i) (.c b (.c (aC b) .nil)))) (.c (ZM e f A a g d k x y j m n) (.v 14 (.ppt h) .nil)) l)
  ·rw [if_neg (by rw [b1];decide)]
   exact .next (pN 100 [] 2 1 (.c (aB b1) (.k 4 (aQ i) (.c b (.c (aC b) .nil)))) (.v 18 (.eq (iZ v)) (.c (ZM e f A a g d k x y j m n) (.v 14 (.ppt h) .nil))) l) c
theorem ajC (e:List Nd) (d:Bool) (A:List (List Nat)) (a:List Sc) (b:Bool) (c:List Nat) (k:Nat) (f:aH prog ap (rH e d A a b c k) 19 (.block 0 (.loop (ae 0 (af f100)))) ⟨[(0,.sl (eX a) a.length b),(1,.fn 101 [] [.ptr 0 0 0,.ptr 1 0 0]),(4,.int .i64 0),(5,.dead),(7,.int .i64 (a.length:Int)),(8,.int .i64 0),(9,.dead),(16,.dead)],[(0,⟨[.ptr 2 0 0],0,false,0,0,false⟩),(1,⟨[.int .i64 (k:Int)],0,false,0,0,true⟩),(2,⟨[.sl (aI e) e.length d,.sl (bC A) A.length true,.sl (eX a) a.length b,.ref 3 0 0 c.length],0,false,0,0,false⟩),(3,⟨(ai c),0,false,0,1,true⟩)],.dead,[]⟩ (.normal) ⟨[(0,.sl (eX a) a.length b)],[(0,⟨[.ptr 2 0 0],0,false,0,0,false⟩),(1,⟨[.int .i64 (k:Int)],0,false,0,0,true⟩),(2,⟨[.sl (aI e) e.length d,.sl (bC A) A.length true,.sl (eX a) a.length b,.ref 3 0 0 c.length],0,false,0,0,false⟩),(3,⟨(ai c),0,false,0,1,true⟩)],.dead,[]⟩):
  au prog ap 100 [.sl (eX a) a.length b,(.fn 101 [] [.ptr 0 0 0,.ptr 1 0 0])] (rH e d A a b c k) (.ret (.int .i64 (-1))) (rH e d A a b c k):=pK [0] 0 0 .nil (.l f .nil)
theorem ajD (e:List Nd) (d:Bool) (A:List (List Nat)) (a:List Sc) (c:Bool) (b:List Nat) (k i:Nat) (f:aH prog ap (rH e d A a c b k) 19 (.block 0 (.loop (ae 0 (af f100)))) ⟨[(0,.sl (eX a) a.length c),(1,.fn 101 [] [.ptr 0 0 0,.ptr 1 0 0]),(4,.int .i64 0),(5,.dead),(7,.int .i64 (a.length:Int)),(8,.int .i64 0),(9,.dead),(16,.dead)],[(0,⟨[.ptr 2 0 0],0,false,0,0,false⟩),(1,⟨[.int .i64 (k:Int)],0,false,0,0,true⟩),(2,⟨[.sl (aI e) e.length d,.sl (bC A) A.length true,.sl (eX a) a.length c,.ref 3 0 0 b.length],0,false,0,0,false⟩),(3,⟨(ai b),0,false,0,1,true⟩)],.dead,[]⟩ (.ret) ⟨[(4,.int .i64 (i:Int))],[(0,⟨[.ptr 2 0 0],0,false,0,0,false⟩),(1,⟨[.int .i64 (k:Int)],0,false,0,0,true⟩),(2,⟨[.sl (aI e) e.length d,.sl (bC A) A.length true,.sl (eX a) a.length c,.ref 3 0 0 b.length],0,false,0,0,false⟩),(3,⟨(ai b),0,false,0,1,true⟩)],.dead,[]⟩):
  au prog ap 100 [.sl (eX a) a.length c,(.fn 101 [] [.ptr 0 0 0,.ptr 1 0 0])] (rH e d A a c b k) (.ret (.int .i64 (i:Int))) (rH e d A a c b k):=pK [0] 0 0 .nil (.l f .nil)
def ixI:Option Nat→Int
 |none=> -1
 |some i=>(i:Int)
theorem ajB (e:List Nd) (d:Bool) (A:List (List Nat)) (a:List Sc) (b:Bool) (c:List Nat) (k:Nat) (j:k<e.length) (f:a.length<2^40):
  au prog ap 100 [.sl (eX a) a.length b,(.fn 101 [] [.ptr 0 0 0,.ptr 1 0 0])] (rH e d A a b c k) (.ret (.int .i64 (ixI (Ir (e.getD k jc).name a 0)))) (rH e d A a b c k):=by
 have h:∀ nt,19≤nt→aF prog ap (rH e d A a b c k) nt (ae 0 (af f100)) Sv (ajA e d A a b c k) (Z7 e d A a b c k) (0,()) (Ir (e.getD k jc).name a 0):=fun nt l=>XG l e d A a b c k (e.getD k jc) _ j (ul j) f a [] rfl
 cases g:Ir (e.getD k jc).name a 0 with
 |none=>
  rw [g] at h
  exact ajC e d A a b c k (aF.blk h (by simp [Sv]) rfl (aK.of ⟨rfl,rfl,rfl,rfl,trivial⟩) (aK.of ⟨rfl,trivial⟩))
 |some i=>
  rw [g] at h
  exact ajD e d A a b c k i (aF.blk h (by simp [Sv]) rfl (aK.of ⟨rfl,rfl,rfl,rfl,trivial⟩) (aK.of ⟨rfl,trivial⟩))
def GM (ck:Sc→Int) (up:Sc→Bool) (nm:List UInt8) (sc:List Sc) (s:Nat):Nat:=match sc.find? (fun x=>x.name==nm) with
 |none=>3
 |some x=>cond (ck x==0) (cond (up x) s 3) 3
theorem Gn (a:List UInt8):∀ (r:List Sc) (i:Nat),(Ir a r i=none∧r.find? (fun x=>x.name==a)=none)∨∃ j x,Ir a r i=some (i+j)∧r[j]? =some x∧r.find? (fun x=>x.name==a)=some x
 | [],_=> .inl ⟨rfl,rfl⟩
 | x::r,i=>by
  unfold Ir
  rw [List.find?_cons]
  rcases tf (x.name==a) with h|h
  ·rw [if_pos h,h];exact .inr ⟨0,x,rfl,rfl,rfl⟩
  ·rw [if_neg (by rw [h];decide),h]
   rcases Gn a r (i+1) with ⟨c,b⟩|⟨j,y,c,b,d⟩
   ·exact .inl ⟨c,b⟩
   ·exact .inr ⟨j+1,y,by rw [c];congr 1;omega,b,d⟩
theorem ab7 (e:List Nd) (d:Bool) (A:List (List Nat)) (a:List Sc) (b:Bool) (c:List Nat) (k:Nat) (f:au prog ap 100 [.sl (eX a) a.length b,(.fn 101 [] [.ptr 0 0 0,.ptr 1 0 0])] (rH e d A a b c k) (.ret (.int .i64 (-1))) (rH e d A a b c k)):
  au prog ap 67 [.ptr 0 0 0,.int .i64 (k:Int)] (wH e d A a b c) (.ret (.int .i64 ((3:Nat):Int))) (wH e d A a b c):=pK [] 3 7 (.n 5 .nil) (.c f .nil)
theorem ab8 (e:List Nd) (i:Bool) (A:List (List Nat)) (c:List Sc) (g:Bool) (a:List Nat) (ck:Sc→Int) (f:Sc→Bool) (k p:Nat) (x:Sc) (o:List AV) (hp:p<c.length) (b:x ∈ c) (h:(List.drop ((Int.toNat (p:Int))*4) (eX c))=xf x++o) (q:k<A.length) (hs:∀ j ∈ A.getD k [],j<a.length) (h0:0<(A.getD k []).length) (l:∀ x ∈ c,CO 102 [.agg (xf x)] (.ret (.int .i64 (ck x)))∧(ck x=0→CO 103 [.agg (xf x)] (.ret (.bool (f x))))) (m:au prog ap 100 [.sl (eX c) c.length g,(.fn 101 [] [.ptr 0 0 0,.ptr 1 0 0])] (rH e i A c g a k) (.ret (.int .i64 (p:Int))) (rH e i A c g a k)):
  au prog ap 67 [.ptr 0 0 0,.int .i64 (k:Int)] (wH e i A c g a) (.ret (.int .i64 ((cond (ck x==0) (cond (f x) (eU A a k 0) 3) 3:Nat):Int))) (wH e i A c g a):=by
 have n:(decide ((p:Int)<((0:Nat):Int)))=false:=decide_eq_false (by omega)
 rcases tf ((ck x)==((0:Nat):Int)) with b0|b0
 ·rcases tf (f x) with b1|b1
  ·have d:ck x=0:=by simpa using b0
   rw [show cond (ck x==0) (cond (f x) (eU A a k 0) 3) 3=eU A a k 0 by rw [show (ck x==0)=true from b0];rw [b1];rfl]
   exact pK [] 3 0 (.k 2 (aS b1) (.k 4 (aQ p) (.c (bK hp) (.k 2 (aS b0) (.k 4 (aQ p) (.c (bK hp) (.k 2 (aB n) (.n 2 .nil)))))))) (.c (pM e i A c g a k 0 q h0 (jk hs h0)) (.c ((l x b).2 d) (.v 31 (.ppt h) (.c (l x b).1 (.v 20 (.ppt h) (.c m .nil))))))
  ·have d:ck x=0:=by simpa using b0
   rw [show cond (ck x==0) (cond (f x) (eU A a k 0) 3) 3=3 by rw [show (ck x==0)=true from b0];rw [b1];rfl]
   exact pK [] 3 4 (.c (dJ b1) (.k 4 (aQ p) (.c (bK hp) (.k 2 (aS b0) (.k 4 (aQ p) (.c (bK hp) (.k 2 (aB n) (.n 2 .nil)))))))) (.c ((l x b).2 d) (.v 31 (.ppt h) (.c (l x b).1 (.v 20 (.ppt h) (.c m .nil)))))
 ·rw [show cond (ck x==0) (cond (f x) (eU A a k 0) 3) 3=3 by rw [show (ck x==0)=false from b0];rfl]
  exact pK [] 3 6 (.k 1 (dJ b0) (.k 4 (aQ p) (.c (bK hp) (.k 2 (aB n) (.n 2 .nil))))) (.c (l x b).1 (.v 20 (.ppt h) (.c m .nil)))
theorem YC (e:List Nd) (c:Bool) (A:List (List Nat)) (a:List Sc) (d:Bool) (b:List Nat) (ck:Sc→Int) (g:Sc→Bool) (k:Nat) (q:k<A.length) (m:k<e.length) (i:a.length<2^40) (hs:∀ j ∈ A.getD k [],j<b.length) (h0:0<(A.getD k []).length) (r:∀ x ∈ a,CO 102 [.agg (xf x)] (.ret (.int .i64 (ck x)))∧(ck x=0→CO 103 [.agg (xf x)] (.ret (.bool (g x))))):
  au prog ap 67 [.ptr 0 0 0,.int .i64 (k:Int)] (wH e c A a d b) (.ret (.int .i64 ((GM ck g (e.getD k jc).name a (eU A b k 0):Nat):Int))) (wH e c A a d b):=by
 have h:=ajB e c A a d b k m i
 unfold GM
 rcases Gn (e.getD k jc).name a 0 with ⟨l,f⟩|⟨j,x,l,f,o⟩
 ·rw [f];rw [l] at h
  exact ab7 e c A a d b k h
 ·rw [o];rw [l,Nat.zero_add] at h
  obtain ⟨n,p⟩:=List.getElem?_eq_some_iff.1 f
  exact ab8 e c A a d b ck g k j x _ n (List.mem_of_getElem? f) (by rw [aA,Et n,p]) q hs h0 r h
def iD (e:List Nd) (ne:Bool) (A:List (List Nat)) (sc:List Sc) (ns:Bool) (op:Int) (name:List UInt8) (p:Nat × List Nat):St:=⟨[(0,.sl (aI e) e.length ne),(2,.int .i64 op),(3,.str name),(11,.ptr 0 0 0),(12,.mp [.int .i64 9,.int .i64 13,.int .i64 14,.int .i64 21,.int .i64 22,.int .i64 23,.int .i64 10,.int .i64 11,.int .i64 12,.int .i64 15,.int .i64 24] [.fn 39 [] [],.fn 39 [] [],.fn 39 [] [],.fn 39 [] [],.fn 39 [] [],.fn 39 [] [],.fn 63 [] [],.fn 64 [] [],.fn 65 [] [],.fn 66 [] [],.fn 67 [] []]),(41,.sl (aI e) e.length ne),(42,.int .i64 (e.length:Int)),(43,.int .i64 (p.1:Int))],[(0,⟨[.sl (aI e) e.length ne,.sl (bC A) A.length true,.sl (eX sc) sc.length ns,.ref 1 0 0 p.2.length],0,false,0,0,false⟩),(1,⟨(ai p.2),0,false,0,1,true⟩)],.dead,[]⟩
def VD (e:List Nd) (ne:Bool) (A:List (List Nat)) (sc:List Sc) (ns:Bool) (ss:List Nat):St:=⟨[(0,.sl (aI e) e.length ne),(11,.ptr 0 0 0)],[(0,⟨[.sl (aI e) e.length ne,.sl (bC A) A.length true,.sl (eX sc) sc.length ns,.ref 1 0 0 ss.length],0,false,0,0,false⟩),(1,⟨(ai ss),0,false,0,1,true⟩)],.dead,[]⟩
def fU (ck:Sc→Int) (up:Sc→Bool) (e:List Nd) (A:List (List Nat)) (sc:List Sc) (ss:List Nat) (k:Nat) (x:Nd):Nat:=
 if x.op=9∨x.op=13∨x.op=14∨x.op=21∨x.op=22∨x.op=23 then eF A ss k else if x.op=10 then d_ (eU A ss k 0) (jK (eU A ss k 1)) else if x.op=11 then DI e A ss k else if x.op=12 then Cj e A ss k else if x.op=15 then H9 A ss k else if x.op=24 then GM ck up x.name sc (eU A ss k 0) else 3
def yD (ck:Sc→Int) (up:Sc→Bool) (e:List Nd) (A:List (List Nat)) (sc:List Sc) (op:Int) (name:List UInt8) (ss:List Nat) (k:Nat) (x:Nd):Nat:=
 cond (x.op==op && x.name==name) 1 (cond (((eF A ss k:Nat):Int)==((0:Nat):Int)) 0 (fU ck up e A sc ss k x))
theorem uH (e:List Nd) (c:Bool) (A:List (List Nat)) (b:List Sc) (d:Bool) (a:List Nat):([some ⟨[.sl (aI e) e.length c,.sl (bC A) A.length true,.sl (eX b) b.length d,.ref 2 0 0 a.length],0,false,0,0,false⟩,some (sB a)]:List (Option bi))= [some ⟨[.sl (aI e) e.length c,.sl (bC A) A.length true,.sl (eX b) b.length d,.ref 2 0 0 a.length],0,false,0,0,false⟩,some (sB a)]:=rfl
abbrev Du (o:Int):AV:=Kv true (xQ [.int .i64 9,.int .i64 13,.int .i64 14,.int .i64 21,.int .i64 22,.int .i64 23,.int .i64 10,.int .i64 11,.int .i64 12,.int .i64 15,.int .i64 24] [.fn 39 [] [],.fn 39 [] [],.fn 39 [] [],.fn 39 [] [],.fn 39 [] [],.fn 39 [] [],.fn 63 [] [],.fn 64 [] [],.fn 65 [] [],.fn 66 [] [],.fn 67 [] []] (.int .i64 o)) .nilF
theorem aX {a:List Nat} {k v:Nat} (h:k<a.length):List.take ((0+(Int.toNat (k:Int)))*1) (ai a)++ [AV.int .i64 (v:Int)]++List.drop (((0+(Int.toNat (k:Int)))*1)+1) (ai a)=ai (a.set k v):=by
 rw [aA,Nat.zero_add,Nat.mul_one]
 unfold ai
 rw [← List.map_take,← List.map_drop,List.set_eq_take_append_cons_drop,if_pos h,List.map_append,List.map_cons,List.append_assoc]
 rfl
theorem UA {x:Nd} (h:x.op=9∨x.op=13∨x.op=14∨x.op=21∨x.op=22∨x.op=23):Du x.op= .tup [.fn 39 [] [],.bool true]:=by rcases x with ⟨o,b,n,d,a⟩;dsimp only at h ⊢;rcases h with h|h|h|h|h|h<;>subst h<;>rfl
theorem UF {x:Nd} (h:x.op=10):Du x.op= .tup [.fn 63 [] [],.bool true]:=by rcases x with ⟨o,b,n,d,a⟩;dsimp only at h ⊢;subst h;rfl
theorem UD {x:Nd} (h:x.op=11):Du x.op= .tup [.fn 64 [] [],.bool true]:=by rcases x with ⟨o,b,n,d,a⟩;dsimp only at h ⊢;subst h;rfl
theorem UC {x:Nd} (h:x.op=12):Du x.op= .tup [.fn 65 [] [],.bool true]:=by rcases x with ⟨o,b,n,d,a⟩;dsimp only at h ⊢;subst h;rfl
theorem UB {x:Nd} (h:x.op=15):Du x.op= .tup [.fn 66 [] [],.bool true]:=by rcases x with ⟨o,b,n,d,a⟩;dsimp only at h ⊢;subst h;rfl
theorem O1 {x:Nd} (h:x.op=24):Du x.op= .tup [.fn 67 [] [],.bool true]:=by rcases x with ⟨o,b,n,d,a⟩;dsimp only at h ⊢;subst h;rfl
theorem UE {x:Nd} (h:¬ ((x.op=9∨x.op=13∨x.op=14∨x.op=21∨x.op=22∨x.op=23)∨(x.op=10)∨(x.op=11)∨(x.op=12)∨(x.op=15)∨(x.op=24))):Du x.op= .tup [.nilF,.bool false]:=by
 rcases x with ⟨o,b,n,d,f⟩
 dsimp only at h ⊢
 have a:∀ c:Int,o ≠ c→(o==c)=false:=fun c e=>beq_eq_false_iff_ne.2 e
 simp only [Du,xQ,Xr]
 rw [a 9 (by intro q;exact h (by omega)),a 13 (by intro q;exact h (by omega)),a 14 (by intro q;exact h (by omega)),a 21 (by intro q;exact h (by omega)),a 22 (by intro q;exact h (by omega)),a 23 (by intro q;exact h (by omega)),a 10 (by intro q;exact h (by omega)),a 11 (by intro q;exact h (by omega)),a 12 (by intro q;exact h (by omega)),a 15 (by intro q;exact h (by omega)),a 24 (by intro q;exact h (by omega))]
 rfl
theorem amn {nt:Nat} (m:111≤nt) (e:List Nd) (g:Bool) (A:List (List Nat)) (h:List Sc) (i:Bool) (c:List Nat) (f:Int) (a:List UInt8) (k:Nat) (x:Nd) (o:List AV) (s:e.getD k jc=x) (j:(List.drop ((Int.toNat (k:Int))*5) (aI e))=iY x++o) (u:k<e.length) (r:e.length<2^40) (v:A.length=e.length) (t:c.length=e.length) (d:Du x.op= .tup [.nilF,.bool false]) (l:(x.op==f)=true) (p:(x.name==a)=true):aj prog ap [] nt (ae 0 (af f14)) (iD e g A h i f a (k,c)) .normal (iD e g A h i f a (k+1,c.set k 1)):=by
 have b:k<c.length:=by omega
 have n:k<2^62:=by omega
 have h0:(decide ((k:Int)<(e.length:Int)))=true:=decide_eq_true (by omega)
 have q:Nat.ble (((0+(Int.toNat (k:Int)))*1)+1) (List.length (ai c))=true:=by rw [Nat.ble_eq,aA];simp [ai];omega
 unfold iD
 dsimp only
 rw [List.length_set,← aX b]
 exact pN 14 [] 3 7 (.c q (.c (aQ k) (.c (bK b) (.k 1 (aC p) (.k 1 (aC l) (.k 10 (aQ k) (.c h0 (.c (aC h0) .nil)))))))) (.v 101 (.eq (iZ n)) (.v 52 (.eq d) (.v 46 (.ppt j) .nil))) m
theorem amq {nt:Nat} (n:111≤nt) (e:List Nd) (d:Bool) (A:List (List Nat)) (f:List Sc) (g:Bool) (b:List Nat) (i:Int) (a:List UInt8) (k:Nat) (x:Nd) (p:List AV) (t:e.getD k jc=x) (l:(List.drop ((Int.toNat (k:Int))*5) (aI e))=iY x++p) (v:k<e.length) (s:e.length<2^40) (w:A.length=e.length) (u:b.length=e.length) (h:Du x.op= .tup [.nilF,.bool false]) (m:(x.op==i)=true) (q:(x.name==a)=false) (j:((((eF A b k):Nat):Int)==((0:Nat):Int))=true) (call_:au prog ap 39 [.ptr 0 0 0,.int .i64 (k:Int)] (wH e d A f g b) (.ret (.int .i64 ((eF A b k:Nat):Int))) (wH e d A f g b)):aj prog ap [] nt (ae 0 (af f14)) (iD e d A f g i a (k,b)) .normal (iD e d A f g i a (k+1,b.set k 0)):=by
 have c:k<b.length:=by omega
 have o:k<2^62:=by omega
 have h0:(decide ((k:Int)<(e.length:Int)))=true:=decide_eq_true (by omega)
 have r:Nat.ble (((0+(Int.toNat (k:Int)))*1)+1) (List.length (ai b))=true:=by rw [Nat.ble_eq,aA];simp [ai];omega
 unfold iD
 dsimp only
 rw [List.length_set,← aX c]
 exact pN 14 [] 4 11 (.c r (.c (aQ k) (.c (bK c) (.k 1 (aC j) (.c (aB q) (.k 1 (aC m) (.k 10 (aQ k) (.c h0 (.c (aC h0) .nil))))))))) (.v 101 (.eq (iZ o)) (.c call_ (.v 52 (.eq h) (.v 46 (.ppt l) .nil)))) n
theorem ams {nt:Nat} (n:111≤nt) (e:List Nd) (d:Bool) (A:List (List Nat)) (f:List Sc) (g:Bool) (a:List Nat) (i:Int) (b:List UInt8) (k:Nat) (x:Nd) (p:List AV) (s:e.getD k jc=x) (l:(List.drop ((Int.toNat (k:Int))*5) (aI e))=iY x++p) (u:k<e.length) (r:e.length<2^40) (v:A.length=e.length) (t:a.length=e.length) (h:Du x.op= .tup [.nilF,.bool false]) (m:(x.op==i)=false) (j:((((eF A a k):Nat):Int)==((0:Nat):Int))=true) (call_:au prog ap 39 [.ptr 0 0 0,.int .i64 (k:Int)] (wH e d A f g a) (.ret (.int .i64 ((eF A a k:Nat):Int))) (wH e d A f g a)):aj prog ap [] nt (ae 0 (af f14)) (iD e d A f g i b (k,a)) .normal (iD e d A f g i b (k+1,a.set k 0)):=by
 have c:k<a.length:=by omega
 have o:k<2^62:=by omega
 have h0:(decide ((k:Int)<(e.length:Int)))=true:=decide_eq_true (by omega)
 have q:Nat.ble (((0+(Int.toNat (k:Int)))*1)+1) (List.length (ai a))=true:=by rw [Nat.ble_eq,aA];simp [ai];omega
 unfold iD
 dsimp only
 rw [List.length_set,← aX c]
 exact pN 14 [] 4 9 (.c q (.c (aQ k) (.c (bK c) (.k 1 (aC j) (.k 1 (aB m) (.k 10 (aQ k) (.c h0 (.c (aC h0) .nil)))))))) (.v 101 (.eq (iZ o)) (.c call_ (.v 52 (.eq h) (.v 46 (.ppt l) .nil)))) n
theorem amm {nt:Nat} (n:111≤nt) (e:List Nd) (h:Bool) (A:List (List Nat)) (i:List Sc) (j:Bool) (c:List Nat) (g:Int) (a:List UInt8) (k:Nat) (x:Nd) (p:List AV) (t:e.getD k jc=x) (l:(List.drop ((Int.toNat (k:Int))*5) (aI e))=iY x++p) (v:k<e.length) (s:e.length<2^40) (w:A.length=e.length) (u:c.length=e.length) (f:Nat) (d:Du x.op= .tup [.fn f [] [],.bool true]) (m:(x.op==g)=true) (q:(x.name==a)=true):aj prog ap [] nt (ae 0 (af f14)) (iD e h A i j g a (k,c)) .normal (iD e h A i j g a (k+1,c.set k 1)):=by
 have b:k<c.length:=by omega
 have o:k<2^62:=by omega
 have h0:(decide ((k:Int)<(e.length:Int)))=true:=decide_eq_true (by omega)
 have r:Nat.ble (((0+(Int.toNat (k:Int)))*1)+1) (List.length (ai c))=true:=by rw [Nat.ble_eq,aA];simp [ai];omega
 unfold iD
 dsimp only
 rw [List.length_set,← aX b]
 exact pN 14 [] 3 7 (.c r (.c (aQ k) (.c (bK b) (.k 1 (aC q) (.k 1 (aC m) (.k 10 (aQ k) (.c h0 (.c (aC h0) .nil)))))))) (.v 101 (.eq (iZ o)) (.v 52 (.eq d) (.v 46 (.ppt l) .nil))) n
theorem amo {nt:Nat} (o:111≤nt) (e:List Nd) (d:Bool) (A:List (List Nat)) (g:List Sc) (h:Bool) (b:List Nat) (j:Int) (a:List UInt8) (k:Nat) (x:Nd) (q:List AV) (u:e.getD k jc=x) (m:(List.drop ((Int.toNat (k:Int))*5) (aI e))=iY x++q) (w:k<e.length) (t:e.length<2^40) (y:A.length=e.length) (v:b.length=e.length) (f:Nat) (i:Du x.op= .tup [.fn f [] [],.bool true]) (n:(x.op==j)=true) (r:(x.name==a)=false) (l:((((eF A b k):Nat):Int)==((0:Nat):Int))=true) (call_:au prog ap 39 [.ptr 0 0 0,.int .i64 (k:Int)] (wH e d A g h b) (.ret (.int .i64 ((eF A b k:Nat):Int))) (wH e d A g h b)):aj prog ap [] nt (ae 0 (af f14)) (iD e d A g h j a (k,b)) .normal (iD e d A g h j a (k+1,b.set k 0)):=by
 have c:k<b.length:=by omega
 have p:k<2^62:=by omega
 have h0:(decide ((k:Int)<(e.length:Int)))=true:=decide_eq_true (by omega)
 have s:Nat.ble (((0+(Int.toNat (k:Int)))*1)+1) (List.length (ai b))=true:=by rw [Nat.ble_eq,aA];simp [ai];omega
 unfold iD
 dsimp only
 rw [List.length_set,← aX c]
 exact pN 14 [] 4 11 (.c s (.c (aQ k) (.c (bK c) (.k 1 (aC l) (.c (aB r) (.k 1 (aC n) (.k 10 (aQ k) (.c h0 (.c (aC h0) .nil))))))))) (.v 101 (.eq (iZ p)) (.c call_ (.v 52 (.eq i) (.v 46 (.ppt m) .nil)))) o
theorem amr {nt:Nat} (o:111≤nt) (e:List Nd) (d:Bool) (A:List (List Nat)) (g:List Sc) (h:Bool) (a:List Nat) (j:Int) (b:List UInt8) (k:Nat) (x:Nd) (q:List AV) (t:e.getD k jc=x) (m:(List.drop ((Int.toNat (k:Int))*5) (aI e))=iY x++q) (v:k<e.length) (s:e.length<2^40) (w:A.length=e.length) (u:a.length=e.length) (f:Nat) (i:Du x.op= .tup [.fn f [] [],.bool true]) (n:(x.op==j)=false) (l:((((eF A a k):Nat):Int)==((0:Nat):Int))=true) (call_:au prog ap 39 [.ptr 0 0 0,.int .i64 (k:Int)] (wH e d A g h a) (.ret (.int .i64 ((eF A a k:Nat):Int))) (wH e d A g h a)):aj prog ap [] nt (ae 0 (af f14)) (iD e d A g h j b (k,a)) .normal (iD e d A g h j b (k+1,a.set k 0)):=by
 have c:k<a.length:=by omega
 have p:k<2^62:=by omega
 have h0:(decide ((k:Int)<(e.length:Int)))=true:=decide_eq_true (by omega)
 have r:Nat.ble (((0+(Int.toNat (k:Int)))*1)+1) (List.length (ai a))=true:=by rw [Nat.ble_eq,aA];simp [ai];omega
 unfold iD
 dsimp only
 rw [List.length_set,← aX c]
 exact pN 14 [] 4 9 (.c r (.c (aQ k) (.c (bK c) (.k 1 (aC l) (.k 1 (aB n) (.k 10 (aQ k) (.c h0 (.c (aC h0) .nil)))))))) (.v 101 (.eq (iZ p)) (.c call_ (.v 52 (.eq i) (.v 46 (.ppt m) .nil)))) o
theorem ac0 {nt:Nat} (o:111≤nt) (e:List Nd) (f:Bool) (A:List (List Nat)) (g:List Sc) (j:Bool) (b:List Nat) (i:Int) (a:List UInt8) (k:Nat) (x:Nd) (r:List AV) (u:e.getD k jc=x) (n:(List.drop ((Int.toNat (k:Int))*5) (aI e))=iY x++r) (w:k<e.length) (t:e.length<2^40) (y:A.length=e.length) (v:b.length=e.length) (d:Du x.op= .tup [.nilF,.bool false]) (l:(x.op==i)=false∨(x.name==a)=false) (m:((((eF A b k):Nat):Int)==((0:Nat):Int))=false) (call_:au prog ap 39 [.ptr 0 0 0,.int .i64 (k:Int)] (wH e f A g j b) (.ret (.int .i64 ((eF A b k:Nat):Int))) (wH e f A g j b)):aj prog ap [] nt (ae 0 (af f14)) (iD e f A g j i a (k,b)) .normal (iD e f A g j i a (k+1,b.set k (3))):=by
 have c:k<b.length:=by omega
 have p:k<2^62:=by omega
 have h0:(decide ((k:Int)<(e.length:Int)))=true:=decide_eq_true (by omega)
 have q:Nat.ble (((0+(Int.toNat (k:Int)))*1)+1) (List.length (ai b))=true:=by rw [Nat.ble_eq,aA];simp [ai];omega
 unfold iD
 dsimp only
 rw [List.length_set,← aX c]
 rcases tf (x.op==i) with b1|b1
 ·have s:(x.name==a)=false:=by rcases l with h|h;rw [h] at b1;cases b1;exact h
  exact pN 14 [] 5 3 (.c q (.c (aQ k) (.c (bK c) (.k 2 (aB m) (.c (aB s) (.k 1 (aC b1) (.k 10 (aQ k) (.c h0 (.c (aC h0) .nil))))))))) (.v 101 (.eq (iZ p)) (.c call_ (.v 52 (.eq d) (.v 46 (.ppt n) .nil)))) o
 ·exact pN 14 [] 5 1 (.c q (.c (aQ k) (.c (bK c) (.k 2 (aB m) (.k 1 (aB b1) (.k 10 (aQ k) (.c h0 (.c (aC h0) .nil)))))))) (.v 101 (.eq (iZ p)) (.c call_ (.v 52 (.eq d) (.v 46 (.ppt n) .nil)))) o
theorem acV {nt:Nat} (o:111≤nt) (e:List Nd) (d:Bool) (A:List (List Nat)) (f:List Sc) (g:Bool) (b:List Nat) (j:Int) (a:List UInt8) (k:Nat) (x:Nd) (r:List AV) (u:e.getD k jc=x) (n:(List.drop ((Int.toNat (k:Int))*5) (aI e))=iY x++r) (w:k<e.length) (t:e.length<2^40) (y:A.length=e.length) (v:b.length=e.length) (i:Du x.op= .tup [.fn 39 [] [],.bool true]) (l:(x.op==j)=false∨(x.name==a)=false) (m:((((eF A b k):Nat):Int)==((0:Nat):Int))=false) (call_:au prog ap 39 [.ptr 0 0 0,.int .i64 (k:Int)] (wH e d A f g b) (.ret (.int .i64 ((eF A b k:Nat):Int))) (wH e d A f g b)):aj prog ap [] nt (ae 0 (af f14)) (iD e d A f g j a (k,b)) .normal (iD e d A f g j a (k+1,b.set k (eF A b k))):=by
 have c:k<b.length:=by omega
 have p:k<2^62:=by omega
 have h0:(decide ((k:Int)<(e.length:Int)))=true:=decide_eq_true (by omega)
 have q:Nat.ble (((0+(Int.toNat (k:Int)))*1)+1) (List.length (ai b))=true:=by rw [Nat.ble_eq,aA];simp [ai];omega
 unfold iD
 dsimp only
 rw [List.length_set,← aX c]
 rcases tf (x.op==j) with b1|b1
 ·have s:(x.name==a)=false:=by rcases l with h|h;rw [h] at b1;cases b1;exact h
  exact pN 14 [] 5 19 (.c q (.c (aQ k) (.c (bK c) (.k 2 (aB m) (.c (aB s) (.k 1 (aC b1) (.k 10 (aQ k) (.c h0 (.c (aC h0) .nil))))))))) (.v 101 (.eq (iZ p)) (.u 99 (uH e d A f g b) (.c call_ (.c call_ (.v 52 (.eq i) (.v 46 (.ppt n) .nil)))))) o
 ·exact pN 14 [] 5 17 (.c q (.c (aQ k) (.c (bK c) (.k 2 (aB m) (.k 1 (aB b1) (.k 10 (aQ k) (.c h0 (.c (aC h0) .nil)))))))) (.v 101 (.eq (iZ p)) (.u 99 (uH e d A f g b) (.c call_ (.c call_ (.v 52 (.eq i) (.v 46 (.ppt n) .nil)))))) o
theorem ac1 {nt:Nat} (o:111≤nt) (e:List Nd) (c:Bool) (A:List (List Nat)) (d:List Sc) (f:Bool) (a:List Nat) (j:Int) (b:List UInt8) (k:Nat) (x:Nd) (r:List AV) (u:e.getD k jc=x) (n:(List.drop ((Int.toNat (k:Int))*5) (aI e))=iY x++r) (w:k<e.length) (t:e.length<2^40) (y:A.length=e.length) (v:a.length=e.length) (i:Du x.op= .tup [.fn 63 [] [],.bool true]) (l:(x.op==j)=false∨(x.name==b)=false) (m:((((eF A a k):Nat):Int)==((0:Nat):Int))=false) (call_:au prog ap 39 [.ptr 0 0 0,.int .i64 (k:Int)] (wH e c A d f a) (.ret (.int .i64 ((eF A a k:Nat):Int))) (wH e c A d f a)) (crule:au prog ap 63 [.ptr 0 0 0,.int .i64 (k:Int)] (wH e c A d f a) (.ret (.int .i64 (((d_ (eU A a k 0) (jK (eU A a k 1))):Nat):Int))) (wH e c A d f a)):aj prog ap [] nt (ae 0 (af f14)) (iD e c A d f j b (k,a)) .normal (iD e c A d f j b (k+1,a.set k (d_ (eU A a k 0) (jK (eU A a k 1))))):=by
 have g:k<a.length:=by omega
 have p:k<2^62:=by omega
 have h0:(decide ((k:Int)<(e.length:Int)))=true:=decide_eq_true (by omega)
 have q:Nat.ble (((0+(Int.toNat (k:Int)))*1)+1) (List.length (ai a))=true:=by rw [Nat.ble_eq,aA];simp [ai];omega
 unfold iD
 dsimp only
 rw [List.length_set,← aX g]
 rcases tf (x.op==j) with b1|b1
 ·have s:(x.name==b)=false:=by rcases l with h|h;rw [h] at b1;cases b1;exact h
  exact pN 14 [] 5 19 (.c q (.c (aQ k) (.c (bK g) (.k 2 (aB m) (.c (aB s) (.k 1 (aC b1) (.k 10 (aQ k) (.c h0 (.c (aC h0) .nil))))))))) (.v 101 (.eq (iZ p)) (.u 99 (uH e c A d f a) (.c crule (.c call_ (.v 52 (.eq i) (.v 46 (.ppt n) .nil)))))) o
 ·exact pN 14 [] 5 17 (.c q (.c (aQ k) (.c (bK g) (.k 2 (aB m) (.k 1 (aB b1) (.k 10 (aQ k) (.c h0 (.c (aC h0) .nil)))))))) (.v 101 (.eq (iZ p)) (.u 99 (uH e c A d f a) (.c crule (.c call_ (.v 52 (.eq i) (.v 46 (.ppt n) .nil)))))) o
theorem acZ {nt:Nat} (o:111≤nt) (e:List Nd) (c:Bool) (A:List (List Nat)) (d:List Sc) (f:Bool) (a:List Nat) (j:Int) (b:List UInt8) (k:Nat) (x:Nd) (r:List AV) (u:e.getD k jc=x) (n:(List.drop ((Int.toNat (k:Int))*5) (aI e))=iY x++r) (w:k<e.length) (t:e.length<2^40) (y:A.length=e.length) (v:a.length=e.length) (i:Du x.op= .tup [.fn 64 [] [],.bool true]) (l:(x.op==j)=false∨(x.name==b)=false) (m:((((eF A a k):Nat):Int)==((0:Nat):Int))=false) (call_:au prog ap 39 [.ptr 0 0 0,.int .i64 (k:Int)] (wH e c A d f a) (.ret (.int .i64 ((eF A a k:Nat):Int))) (wH e c A d f a)) (crule:au prog ap 64 [.ptr 0 0 0,.int .i64 (k:Int)] (wH e c A d f a) (.ret (.int .i64 (((DI e A a k):Nat):Int))) (wH e c A d f a)):aj prog ap [] nt (ae 0 (af f14)) (iD e c A d f j b (k,a)) .normal (iD e c A d f j b (k+1,a.set k (DI e A a k))):=by
 have g:k<a.length:=by omega
 have p:k<2^62:=by omega
 have h0:(decide ((k:Int)<(e.length:Int)))=true:=decide_eq_true (by omega)
 have q:Nat.ble (((0+(Int.toNat (k:Int)))*1)+1) (List.length (ai a))=true:=by rw [Nat.ble_eq,aA];simp [ai];omega
 unfold iD
 dsimp only
 rw [List.length_set,← aX g]
 rcases tf (x.op==j) with b1|b1
 ·have s:(x.name==b)=false:=by rcases l with h|h;rw [h] at b1;cases b1;exact h
  exact pN 14 [] 5 19 (.c q (.c (aQ k) (.c (bK g) (.k 2 (aB m) (.c (aB s) (.k 1 (aC b1) (.k 10 (aQ k) (.c h0 (.c (aC h0) .nil))))))))) (.v 101 (.eq (iZ p)) (.u 99 (uH e c A d f a) (.c crule (.c call_ (.v 52 (.eq i) (.v 46 (.ppt n) .nil)))))) o
 ·exact pN 14 [] 5 17 (.c q (.c (aQ k) (.c (bK g) (.k 2 (aB m) (.k 1 (aB b1) (.k 10 (aQ k) (.c h0 (.c (aC h0) .nil)))))))) (.v 101 (.eq (iZ p)) (.u 99 (uH e c A d f a) (.c crule (.c call_ (.v 52 (.eq i) (.v 46 (.ppt n) .nil)))))) o
theorem acX {nt:Nat} (o:111≤nt) (e:List Nd) (c:Bool) (A:List (List Nat)) (d:List Sc) (f:Bool) (a:List Nat) (j:Int) (b:List UInt8) (k:Nat) (x:Nd) (r:List AV) (u:e.getD k jc=x) (n:(List.drop ((Int.toNat (k:Int))*5) (aI e))=iY x++r) (w:k<e.length) (t:e.length<2^40) (y:A.length=e.length) (v:a.length=e.length) (i:Du x.op= .tup [.fn 65 [] [],.bool true]) (l:(x.op==j)=false∨(x.name==b)=false) (m:((((eF A a k):Nat):Int)==((0:Nat):Int))=false) (call_:au prog ap 39 [.ptr 0 0 0,.int .i64 (k:Int)] (wH e c A d f a) (.ret (.int .i64 ((eF A a k:Nat):Int))) (wH e c A d f a)) (crule:au prog ap 65 [.ptr 0 0 0,.int .i64 (k:Int)] (wH e c A d f a) (.ret (.int .i64 (((Cj e A a k):Nat):Int))) (wH e c A d f a)):aj prog ap [] nt (ae 0 (af f14)) (iD e c A d f j b (k,a)) .normal (iD e c A d f j b (k+1,a.set k (Cj e A a k))):=by
 have g:k<a.length:=by omega
 have p:k<2^62:=by omega
 have h0:(decide ((k:Int)<(e.length:Int)))=true:=decide_eq_true (by omega)
 have q:Nat.ble (((0+(Int.toNat (k:Int)))*1)+1) (List.length (ai a))=true:=by rw [Nat.ble_eq,aA];simp [ai];omega
 unfold iD
 dsimp only
 rw [List.length_set,← aX g]
 rcases tf (x.op==j) with b1|b1
 ·have s:(x.name==b)=false:=by rcases l with h|h;rw [h] at b1;cases b1;exact h
  exact pN 14 [] 5 19 (.c q (.c (aQ k) (.c (bK g) (.k 2 (aB m) (.c (aB s) (.k 1 (aC b1) (.k 10 (aQ k) (.c h0 (.c (aC h0) .nil))))))))) (.v 101 (.eq (iZ p)) (.u 99 (uH e c A d f a) (.c crule (.c call_ (.v 52 (.eq i) (.v 46 (.ppt n) .nil)))))) o
 ·exact pN 14 [] 5 17 (.c q (.c (aQ k) (.c (bK g) (.k 2 (aB m) (.k 1 (aB b1) (.k 10 (aQ k) (.c h0 (.c (aC h0) .nil)))))))) (.v 101 (.eq (iZ p)) (.u 99 (uH e c A d f a) (.c crule (.c call_ (.v 52 (.eq i) (.v 46 (.ppt n) .nil)))))) o
theorem acW {nt:Nat} (o:111≤nt) (e:List Nd) (c:Bool) (A:List (List Nat)) (d:List Sc) (f:Bool) (a:List Nat) (j:Int) (b:List UInt8) (k:Nat) (x:Nd) (r:List AV) (u:e.getD k jc=x) (n:(List.drop ((Int.toNat (k:Int))*5) (aI e))=iY x++r) (w:k<e.length) (t:e.length<2^40) (y:A.length=e.length) (v:a.length=e.length) (i:Du x.op= .tup [.fn 66 [] [],.bool true]) (l:(x.op==j)=false∨(x.name==b)=false) (m:((((eF A a k):Nat):Int)==((0:Nat):Int))=false) (call_:au prog ap 39 [.ptr 0 0 0,.int .i64 (k:Int)] (wH e c A d f a) (.ret (.int .i64 ((eF A a k:Nat):Int))) (wH e c A d f a)) (crule:au prog ap 66 [.ptr 0 0 0,.int .i64 (k:Int)] (wH e c A d f a) (.ret (.int .i64 (((H9 A a k):Nat):Int))) (wH e c A d f a)):aj prog ap [] nt (ae 0 (af f14)) (iD e c A d f j b (k,a)) .normal (iD e c A d f j b (k+1,a.set k (H9 A a k))):=by
 have g:k<a.length:=by omega
 have p:k<2^62:=by omega
 have h0:(decide ((k:Int)<(e.length:Int)))=true:=decide_eq_true (by omega)
 have q:Nat.ble (((0+(Int.toNat (k:Int)))*1)+1) (List.length (ai a))=true:=by rw [Nat.ble_eq,aA];simp [ai];omega
 unfold iD
 dsimp only
 rw [List.length_set,← aX g]
 rcases tf (x.op==j) with b1|b1
 ·have s:(x.name==b)=false:=by rcases l with h|h;rw [h] at b1;cases b1;exact h
  exact pN 14 [] 5 19 (.c q (.c (aQ k) (.c (bK g) (.k 2 (aB m) (.c (aB s) (.k 1 (aC b1) (.k 10 (aQ k) (.c h0 (.c (aC h0) .nil))))))))) (.v 101 (.eq (iZ p)) (.u 99 (uH e c A d f a) (.c crule (.c call_ (.v 52 (.eq i) (.v 46 (.ppt n) .nil)))))) o
 ·exact pN 14 [] 5 17 (.c q (.c (aQ k) (.c (bK g) (.k 2 (aB m) (.k 1 (aB b1) (.k 10 (aQ k) (.c h0 (.c (aC h0) .nil)))))))) (.v 101 (.eq (iZ p)) (.u 99 (uH e c A d f a) (.c crule (.c call_ (.v 52 (.eq i) (.v 46 (.ppt n) .nil)))))) o
theorem Y3 {nt:Nat} (p:111≤nt) (e:List Nd) (d:Bool) (A:List (List Nat)) (c:List Sc) (f:Bool) (a:List Nat) (j:Int) (b:List UInt8) (k:Nat) (x:Nd) (s:List AV) (v:e.getD k jc=x) (o:(List.drop ((Int.toNat (k:Int))*5) (aI e))=iY x++s) (y:k<e.length) (u:e.length<2^40) (z:A.length=e.length) (w:a.length=e.length) (ck:Sc→Int) (n:Sc→Bool) (i:Du x.op= .tup [.fn 67 [] [],.bool true]) (l:(x.op==j)=false∨(x.name==b)=false) (m:((((eF A a k):Nat):Int)==((0:Nat):Int))=false) (call_:au prog ap 39 [.ptr 0 0 0,.int .i64 (k:Int)] (wH e d A c f a) (.ret (.int .i64 ((eF A a k:Nat):Int))) (wH e d A c f a)) (crule:au prog ap 67 [.ptr 0 0 0,.int .i64 (k:Int)] (wH e d A c f a) (.ret (.int .i64 (((GM ck n x.name c (eU A a k 0)):Nat):Int))) (wH e d A c f a)):aj prog ap [] nt (ae 0 (af f14)) (iD e d A c f j b (k,a)) .normal (iD e d A c f j b (k+1,a.set k (GM ck n x.name c (eU A a k 0)))):=by
 have g:k<a.length:=by omega
 have q:k<2^62:=by omega
 have h0:(decide ((k:Int)<(e.length:Int)))=true:=decide_eq_true (by omega)
 have r:Nat.ble (((0+(Int.toNat (k:Int)))*1)+1) (List.length (ai a))=true:=by rw [Nat.ble_eq,aA];simp [ai];omega
 unfold iD
 dsimp only
 rw [List.length_set,← aX g]
 rcases tf (x.op==j) with b1|b1
 ·have t:(x.name==b)=false:=by rcases l with h|h;rw [h] at b1;cases b1;exact h
  exact pN 14 [] 5 19 (.c r (.c (aQ k) (.c (bK g) (.k 2 (aB m) (.c (aB t) (.k 1 (aC b1) (.k 10 (aQ k) (.c h0 (.c (aC h0) .nil))))))))) (.v 101 (.eq (iZ q)) (.u 99 (uH e d A c f a) (.c crule (.c call_ (.v 52 (.eq i) (.v 46 (.ppt o) .nil)))))) p
 ·exact pN 14 [] 5 17 (.c r (.c (aQ k) (.c (bK g) (.k 2 (aB m) (.k 1 (aB b1) (.k 10 (aQ k) (.c h0 (.c (aC h0) .nil)))))))) (.v 101 (.eq (iZ q)) (.u 99 (uH e d A c f a) (.c crule (.c call_ (.v 52 (.eq i) (.v 46 (.ppt o) .nil)))))) p
theorem acY {nt:Nat} (h:111≤nt) (e:List Nd) (c:Bool) (A:List (List Nat)) (d:List Sc) (f:Bool) (b:List Nat) (g:Int) (a:List UInt8):aj prog ap [] nt (ae 0 (af f14)) (iD e c A d f g a (e.length,b)) (.exit 0) (VD e c A d f b):=by
 have h0:(decide ((e.length:Int)<(e.length:Int)))=false:=decide_eq_false (by omega)
 exact pN 14 [] 1 0 (.c (aB h0) .nil) (.nil) h
end Go.Proofs.Tryz
open Go AM
namespace Go.Proofs.Tryz
theorem FM:∀ (r:List Nd) (k:Nat) (a:List Nat),(∀ j ∈ a,j<k)→(∃ e,jl r a.length= .inl e)→(vC r k a).length=r.length∧∀ i x,r[i]? =some x→((vC r k a).getD i []).length=dL x.op∧∀ j ∈ (vC r k a).getD i [],j<k+i
 | [],k,a,_,_=> ⟨rfl,fun i x h=>by simp at h⟩
 | x ::r,k,a,hst,⟨e,he⟩=>by
  simp only [jl] at he
  split at he
  ·split at he
   ·cases he
   ·rename_i m n
    have f:(a.take (a.length - dL x.op)++ [k]).length=a.length - dL x.op+1:=by rw [List.length_append,List.length_take,List.length_singleton];omega
    have d:=FM r (k+1) (a.take (a.length - dL x.op)++ [k]) (by
     intro j b
     rcases List.mem_append.1 b with b|b
     ·have:=hst j (List.mem_of_mem_take b);omega
     ·rw [List.mem_singleton.1 b];omega) ⟨e,by rw [f];exact he⟩
    refine ⟨by simp only [vC,List.length_cons,d.1], ?_⟩
    intro i y c
    cases i with
    |zero=>
     simp only [List.getElem?_cons_zero,Option.some.injEq] at c
     subst c
     simp only [vC,List.getD_cons_zero]
     refine ⟨by rw [List.length_drop];omega,fun j b=> ?_⟩
     have:=hst j (List.mem_of_mem_drop b);omega
    |succ i=>
     simp only [List.getElem?_cons_succ] at c
     obtain ⟨g,l⟩:=d.2 i y c
     simp only [vC,List.getD_cons_succ]
     exact ⟨g,fun j b=>by have:=l j b;omega⟩
  ·cases he
theorem OM:∀ (r:List Nd) (d:Nat) (w:Int),jl r d= .inr w→w ≠ 0
 | [],d,w,h=>by simp [jl] at h
 | x::r,d,w,h=>by
  simp only [jl] at h
  split at h
  ·split at h
   ·cases h;decide
   ·exact OM r _ w h
  ·rename_i a
   cases h;exact a
theorem m_ {e:List Nd} (a:dG e=0):(bQ e).length=e.length∧∀ i x,e[i]? =some x→((bQ e).getD i []).length=dL x.op∧∀ j ∈ (bQ e).getD i [],j<i:=by
 have h:∃ d,jl e ([]:List Nat).length= .inl d:=by
  unfold dG at a
  split at a
  ·cases a
  ·split at a
   ·rename_i d c;exact ⟨d,c⟩
   ·rename_i w k
    exact absurd a (OM _ _ _ k)
 obtain ⟨g,b⟩:=FM e 0 [] (by simp) h
 exact ⟨g,fun i x f=>by have:=b i x f;rw [Nat.zero_add] at this;exact this⟩
end Go.Proofs.Tryz
