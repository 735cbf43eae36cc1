/- Contracts of functions that the law reaches, each by its own hypotheses; joined by a program of mine. -/
import Derived.Test.YtcjindbblhcopaaGreatDoorC1
import Derived.Test.YtcjindbblhcopaaGreatDoorM5
set_option linter.unusedSimpArgs false
set_option linter.unusedVariables false
set_option maxRecDepth 100000
open Go AM
open Nat renaming pow_succ→Xq3,eq_zero_or_pos→Xqb,mul_zero→Xjd,mul_pos→Xz0,lt_of_lt_of_le→Xqg,mul_lt_mul_of_pos_right→Xw3,lt_or_ge→Xq9,mul_comm→Xqa,lt_of_not_le→Xkz,div_lt_iff_lt_mul→Xqt,mod_eq_of_lt→φ,mod_lt→Xqw,add_mul→Xxp,mul_assoc→Xqp,mul_one→υ,le_refl→Θ,zero_mul→Xzl,zero_add→χ,pow_le_pow_right→Xqj,le_trans→Xxm,pow_mul→Xja,lt_trichotomy→Xzk,mul_le_mul_right→Xqv,one_mul→Xwj,lt_irrefl→Xvm,ble→Ξ,min_eq_left→Xjc,beq→Xqo,add_zero→Xq5,div_div_eq_div_mul→Xxv,add_comm→Xx9,div_add_mod→Xxc,lt_trans→Xxo,le_of_lt→Xwt,div_eq_of_lt→Xx4,div_le_self→Xzz,gcd→Xxu,gcd_comm→Xvy,gcd_zero_left→Xwm,gcd_le_right→Xww,gcd_pos_of_pos_right→Xzj,div_pos→Xvl,div_self→Yxh,sub_zero→Xjq,succ_pos→Xku,ble_eq→Xqn
open List renaming foldl_append→Xvf,take→μ,map_append→Xxt,append_assoc→Ψ,map_cons→Xqf,map_nil→Xxz,append_nil→Γ,nil_append→Xqc,length_cons→ν,length_nil→Δ,take_length→Xqy,length_append→θ,all_eq_true→Xzp,take_add_one→Xwk,getElem?_eq_getElem→π,getD_eq_getElem?_getD→ξ,take_append_drop→Xjz,cons_append→Xq1,take_of_length_le→Xqd,getD_cons_zero→Xjv,length→ζ,getD→Xql,drop_of_length_le→Xxj,drop→ε,length_singleton→ο,headD→η,range→Xq2,ext_getElem?→Xju,getElem?_set→Xzi,getElem?_eq_none→Xqx,replicate→κ,map_drop→Xjx,drop_eq_getElem_cons→Xxb,headD_cons→Xje,dropWhile_cons→Xx0,singleton_append→Xxg,eq_nil_of_length_eq_zero→Xxk,drop_zero→Xx7,tail→Xjo,length_drop→Xx5,length_take→Xqq,drop_append→Xwy,replicate_succ→Xxe,length_tail→Xk0,tail_cons→Xzf,headD_nil→Xwq,tail_nil→Xvn,getElem_mem→Xjr
open UInt8 renaming ofNat→Xqi,toNat_lt→Xve,toNat→Φ
open Int renaming toNat→δ,fdiv→Xq0
open AV renaming toInt→τ,int→Xxr,toBool→Xv2,nilS→Xkq
open Decidable renaming em→Xxh
open IntKind renaming wrap→γ
open Bool renaming not_false→Xjj,eq_iff_iff→Xx6,not_true→Xwg,not_eq_true'→Xqm
namespace Go.Proofs.Tryz
abbrev zcc2_0 : List AV := [.str [],ω 0,.bool false,.bool false,.bool false]
def ak5 (x y:Nat) (na nb:Bool) (p:Nat × Nat):St:=⟨[(0,.sl (ah (ay x)) (ay x).length na),(1,.sl (ah (ay y)) (ay y).length nb),(5,ω (p.1:Int)),(6,ω (p.2:Int))],[],.dead,[]⟩
def agc (q:Nat):St:=⟨[(5,ω (q:Int))],[],.dead,[]⟩
theorem UI {x d:Nat} (hd:d<16777216):(ay (x*d)).length≤(ay x).length+1:=by
 apply qY;have a:=vI x;have hp:=Wj (ay x).length;rw [Xq3];rcases Xqb d with rfl|h0
 ·rw [Xjd];exact Xz0 hp (by omega)
 ·exact Xqg (Xw3 a h0) (Nat.mul_le_mul_left _ (by omega))
theorem Yl {nt:Nat} (k:26≤nt) (x y:Nat) (g i:Bool) (t:0<y) (q:(ay x).length<2^36) (v:(ay y).length<2^35):∀ (n a b:Nat),b - a<n→a≤x / y→x / y≤b→b<16777216→aF prog ap [] nt (ae 0 (af f110)) (fun _=> .exit 0) (ak5 x y g i) agc (a,b) (x / y):=by
 intro n
 induction n with
 |zero=>intro a b h;omega
 | succ n ih=>
  intro a b h w u s;rcases Xq9 a b with hlt|hge
  ·have f:(a+b+1) / 2<16777216:=by omega
   have o:=GL (y*((a+b+1) / 2)) x;have m:=Me y ((a+b+1) / 2) i f (by omega);have r:=UI (x:=y) f;have j:=Qo (ay (y*((a+b+1) / 2))) (ay x) true g (bz.dig _) (bz.dig _) (by omega) (by omega);have c:=Nat.le_div_iff_mul_le (x:=(a+b+1) / 2) (y:=x) t;rw [Xqa] at c;have z:((0:Nat):Int)=0:=rfl;by_cases hle:y*((a+b+1) / 2)≤x
   ·have e:=c.2 hle;refine .next ?_ (ih ((a+b+1) / 2) b (by omega) e u s)
    have d:=agd k x y (y*((a+b+1) / 2)) a b (Kt (ay (y*((a+b+1) / 2))) (ay x)) g i;simp (disch:=first|omega|(simp [au,az]<;>omega)) only [bF,bu,aY,bW,aX,pO] at d;exact d (o.2.2 hle) hlt m j
   ·have e:x / y<(a+b+1) / 2:=Xkz (fun l=>hle (c.1 l));refine .next ?_ (ih a ((a+b+1) / 2 - 1) (by omega) w (by omega) (by omega))
    have d:=age k x y (y*((a+b+1) / 2)) a b (Kt (ay (y*((a+b+1) / 2))) (ay x)) g i;simp (disch:=first|omega|(simp [au,az]<;>omega)) only [dP,dY,eY,aY,bF,bu,bW,aX,pO,jV] at d;exact d (fun l=>hle (o.2.1 l)) hlt m j
  ·have p:a=x / y:=by omega
   have d:=agf k x y 0 a b 0 g i (by rw [aY];simp [lit];omega);rw [← p];exact .done d
theorem UJ (x y:Nat) (b c:Bool) (f:0<y) (a:x<y*16777216) (e:(ay x).length<2^36) (d:(ay y).length<2^35):CO 110 [.sl (ah (ay x)) (ay x).length b,.sl (ah (ay y)) (ay y).length c] (.ret (ω ((x / y:Nat):Int))):=by
 have g:x / y<16777216:=by rw [Xqt f,Xqa];exact a
 exact acn x y (x / y) b c (aF.blk (fun nt h=>Yl h x y b c f e d 16777216 0 16777215 (by omega) (Nat.zero_le _) (Nat.le_of_lt_succ g) (by omega)) (by simp) rfl (aJ.of ⟨rfl,rfl,rfl,rfl,trivial⟩) (aJ.of ⟨rfl,trivial⟩))
theorem nH (l:List UInt8) (c:UInt8):ag (l++ [c])=ag l*256+c.toNat:=by
 unfold ag;rw [Xvf];rfl
theorem toNat_ofNat {x:Nat} (h:x<256):(Xqi x).toNat=x:=by
 rw [UInt8.toNat_ofNat'];exact φ h
def bS (o:List Nat):List UInt8:=o.map Xqi
theorem afJ (o:List Nat):List.map (fun c=>Xqi (δ (τ c))) (oD o)=bS o:=by
 unfold oD bS;rw [List.map_map];rfl
theorem QC (l:List Nat) (k:Nat):μ k (oD l)=oD (l.take k):=by unfold oD;rw [List.map_take]
def Uo (l:List Nat):Nat→List Nat
 |0=> []
 |k+1=> [l.getD k 0 / 65536,l.getD k 0 / 256 % 256,l.getD k 0 % 256]++Uo l k
theorem Nk (a b:List Nat):bS (a++b)=bS a++bS b:=by unfold bS;rw [Xxt]
theorem Pn {l:List Nat} (a:bz l):∀ (k:Nat) (o:List Nat),k≤l.length→ag (bS (o++Uo l k))=ag (bS o)*16777216^k+dA (l.take k)
 |0,o,_=>by simp [Uo,dA]
 | k+1,o,h=>by
  simp only [Uo];rw [← Ψ,Pn a k _ (by omega),ou (by omega)];have hd:=a.getD k;generalize l.getD k 0=d at*
  have e:ag (bS (o++ [d / 65536,d / 256 % 256,d % 256]))=ag (bS o)*16777216+d:=by
   rw [show o++ [d / 65536,d / 256 % 256,d % 256]=((o++ [d / 65536])++ [d / 256 % 256])++ [d % 256] by simp,Nk,Nk,Nk];simp only [bS,Xqf,Xxz];rw [nH,nH,nH,toNat_ofNat (show d / 65536<256 by omega),toNat_ofNat (Xqw _ (by omega)),toNat_ofNat (Xqw _ (by omega))];omega
  rw [e,Xxp,Xq3,Xqa (16777216^k) 16777216,Xqp,Xqa d];omega
def XQ (l:List Nat):AV:=match l with| []=> .nilS|x::l=> .ref 0 0 0 (x::l).length
def XR (l:List Nat):Hp:=match l with| []=> []|x::l=> [(0,⟨oD (x::l),0,false,0,1,true⟩)]
theorem BL {l:List Nat} (h:l ≠ []):XQ l= .ref 0 0 0 l.length:=by cases l with|nil=>exact absurd rfl h|cons _ _=>rfl
theorem BM {l:List Nat} (h:l ≠ []):XR l= [(0,⟨oD l,0,false,0,1,true⟩)]:=by cases l with|nil=>exact absurd rfl h|cons _ _=>rfl
def ac5 (l:List Nat) (nn:Bool) (p:Nat × List Nat):St:=⟨[(0,.sl (ah l) l.length nn),(3,XQ p.2),(4,ω ((p.1:Int) - 1))],XR p.2,.dead,[]⟩
def VV (o:List Nat):St:=⟨[(3,XQ o)],XR o,.dead,[]⟩
theorem aaM (o:List Nat) (a b c:Nat):oD o++ [Xxr .u8 (a:Int),Xxr .u8 (b:Int),Xxr .u8 (c:Int)]=oD (o++ [a,b,c]):=by simp [oD]
theorem abu:(2:Nat)^16=65536:=by decide
theorem ah0:(2:Nat)^8=256:=by decide
theorem Zn {nt:Nat} (e:35≤nt) (l:List Nat) (c:Bool) (j:l.length<2^36) (f:bz l):∀ (k:Nat) (o:List Nat),k≤l.length→o.length+3*k=3*l.length→aF prog ap [] nt (ae 0 (af f79)) (fun _=> .exit 0) (ac5 l c) VV (k,o) (o++Uo l k):=by
 intro k
 induction k with
 | zero=>
  intro o _ _;simp only [Uo,Γ];refine .done ?_;unfold ac5 VV;rcases Xxh (o= []) with rfl|hne
  ·exact Zq e l [] c
  ·rw [BL hne,BM hne];exact Zo e l o c
 | succ k ih=>
  intro o n m;have hd:=f.getD k;have i:(((k+1:Nat):Int) - 1)=(k:Int):=by omega
  have h:γ .i64 ((k:Int) - ((1:Nat):Int))=(k:Int) - 1:=dL (by omega) (by omega);have hnext:=ih (o++ [l.getD k 0 / 65536,l.getD k 0 / 256 % 256,l.getD k 0 % 256]) (by omega) (by simp;omega);rw [Ψ] at hnext;simp only [Uo];refine .next ?_ hnext
  unfold ac5;rw [i];generalize g:l.getD k 0=d at*
  have a:o++ [d / 65536,d / 256 % 256,d % 256] ≠ []:=by simp
  rcases Xxh (o= []) with rfl|hne
  ·have b:=ac7 e l [] k c;simp (disch:=first|omega|(simp [au,az]<;>omega)) only [aA,υ,fJ,g,eF,dI,bu,aY,bF,h,bf,show min 16 64=16 from rfl,lm,abu,w8u,φ,show min 8 64=8 from rfl,ah0] at b;simp only [Xqc,XQ,XR,oD,Xqf,Xxz,ν,Δ] at b ⊢;apply b<;>first|exact True.intro|omega|assumption|exact rfl
  ·have b:=ac6 e l o k c;rw [BL hne,BM hne,BL a,BM a];simp (disch:=first|omega|(simp [au,az]<;>omega)) only [fH,bu,υ,az,aA,fJ,g,eF,dI,aY,bF,h,QC,Xqy,bf,show min 16 64=16 from rfl,lm,abu,w8u,φ,show min 8 64=8 from rfl,ah0,aaM] at b;simp only [θ,ν,Δ];apply b<;>first|exact True.intro|omega|assumption|exact rfl
theorem uI (l:List Nat) (c:Bool) (g:l.length<2^36) (b:bz l):CO 79 [.sl (ah l) l.length c] (.ret (.str (ai (dA l)))):=by
 have hloop:=fun nt (hn:35≤nt)=>Zn hn l c g b l.length [] (Θ _) (by simp)
 have a:=Pn b l.length [] (Θ _);have j:(Uo l l.length).length=3*l.length:=by
  have:∀ k,(Uo l k).length=3*k:=by
   intro k
   induction k with
   |zero=>rfl
   |succ k ih=>simp only [Uo,θ,ν,Δ,ih];omega
  exact this _
 have f:γ .i64 ((l.length:Int) - ((1:Nat):Int))=(l.length:Int) - 1:=Ed (by omega);simp only [Xqc] at hloop a;rw [Xqy,show ag (bS [])=0 from rfl,Xzl,χ] at a;generalize Uo l l.length=o at*
 rcases Xxh (o= []) with rfl|hne
 ·rw [← a];exact Zr l [] c (aF.blk hloop (by simp) rfl (aJ.of ⟨rfl,rfl,congrArg _ f,trivial⟩) (aJ.of ⟨rfl,trivial⟩)) (gY [] (by simp))
 ·have h:=Zp l o c;have i:=gY (bS o) (by simp [bS];omega);rw [a] at i;have e:μ o.length (oD o)=oD o:=by rw [QC,Xqy]
  simp (disch:=first|omega|(simp [au,az]<;>omega)) only [υ,e,Jg,bu,afJ,a] at h;apply h<;>first|exact True.intro|omega|assumption|exact rfl|skip
  ·exact az o
  ·have:List.all (oD o) (chk (.int .u8))=true:=by
    rw [Xzp];intro x m;obtain ⟨d,_,rfl⟩:=List.mem_map.1 m;rfl
   exact this
  ·exact aF.blk hloop (by simp) rfl (aJ.of ⟨rfl,rfl,congrArg _ f,trivial⟩) (by unfold VV;rw [BL hne,BM hne];exact aJ.of ⟨rfl,trivial⟩)
theorem ku (x:Nat) (c:x<9223372036854775808):CO 49 [ω (x:Int)] (.ret (.str (ai x))):=by
 rcases Xqb x with rfl|h0
 ·exact aeh 0 rfl (gY [] (by simp))
 ·have h:=aeg x;have e:∀ k,δ (γ .u8 (Xq0 (x:Int) (2^k)))=x / 2^k % 256:=by
   intro k;rw [lm,w8u,aA]
  simp only [show min 56 64=56 from rfl,show min 48 64=48 from rfl,show min 40 64=40 from rfl,show min 32 64=32 from rfl,show min 24 64=24 from rfl,show min 16 64=16 from rfl,show min 8 64=8 from rfl,show min 0 64=0 from rfl,e] at h;have a:=gY [Xqi (x / 2^56 % 256),Xqi (x / 2^48 % 256),Xqi (x / 2^40 % 256),Xqi (x / 2^32 % 256),Xqi (x / 2^24 % 256),Xqi (x / 2^16 % 256),Xqi (x / 2^8 % 256),Xqi (x / 2^0 % 256)] (by simp);have b:ag [Xqi (x / 2^56 % 256),Xqi (x / 2^48 % 256),Xqi (x / 2^40 % 256),Xqi (x / 2^32 % 256),Xqi (x / 2^24 % 256),Xqi (x / 2^16 % 256),Xqi (x / 2^8 % 256),Xqi (x / 2^0 % 256)]=x:=by
   have t:∀ y,(Xqi (y % 256)).toNat=y % 256:=fun y=>toNat_ofNat (Xqw _ (by omega))
   simp only [ag,List.foldl_cons,List.foldl_nil,t];omega
  rw [b] at a h;apply h
  ·rw [aY];exact Yq0 h0
  ·exact a
def abl (s:List UInt8) (k:Nat):St:=⟨[(0,.str s),(4,ω ((ag (s.take k):Nat):Int)),(5,ω (k:Int))],[],.dead,[]⟩
def NW (s:List UInt8) (k:Nat):St:=⟨[(4,ω ((ag (s.take k):Nat):Int))],[],.dead,[]⟩
theorem FB {s:List UInt8} {k:Nat} (h:k<s.length):ag (s.take (k+1))=ag (s.take k)*256+(s.getD k 0).toNat:=by
 rw [Xwk,π h,ξ,π h];exact nH _ _
theorem JI (s:List UInt8) (k:Nat):ag (s.take k)≤ag s:=by
 rcases Xq9 k s.length with h|h
 ·have e:s=s.take k++s.drop k:=(Xjz k s).symm;have:∀ (b a:List UInt8),ag a≤ag (a++b):=by
   intro b
   induction b with
   |nil=>intro a;simp
   |cons c r ih=>
    intro a;have d:=ih (a++ [c]);rw [nH,Ψ] at d;simp only [Xq1,Xqc] at d;omega
  calc ag (s.take k)≤ag (s.take k++s.drop k):=this _ _
   _=ag s:=by rw [← e]
 ·rw [Xqd h];exact Θ _
theorem Vk {nt:Nat} (f:35≤nt) (s:List UInt8) (hs:s.length<2^40) (n:ag s<9223372036854775808):∀ (d k:Nat),k+d=s.length→aF prog ap [] nt (ae 0 (af f107)) (fun _=> .exit 0) (abl s) (NW s) k s.length:=by
 intro d
 induction d with
 |zero=>
  intro k j;have b:k=s.length:=by omega
  subst b;exact .done (adT f s _ _ (by rw [aY];simp [lit]))
 | succ d ih=>
  intro k j;have e:k<s.length:=by omega
  refine .next ?_ (ih (k+1) (by omega))
  have a:=adS f s (ag (s.take k)) k;rw [aA] at a;have m:=JI s (k+1);have g:=FB e;have o:(s.getD k 0).toNat<256:=Xve _;unfold abl;rw [g];rw [g] at m;generalize (s.getD k 0).toNat=c at*
  generalize ag (s.take k)=v at*
  have h:γ .i64 ((v:Int)*2^(min 8 64))=((v*256:Nat):Int):=by
   rw [show min 8 64=8 from rfl,dL]<;>omega
  have i:(((v*256:Nat):Int))+(c:Int)=((v*256+c:Nat):Int):=by omega
  have l:γ .i64 (c:Int)=(c:Int):=aX (by omega);rw [l,h,i,aX (by omega)] at a;simp (disch:=first|omega|(simp [au,az]<;>omega)) only [dI,bu,aY,bF,bW,aX] at a;apply a<;>first|exact True.intro|omega|assumption|exact rfl
theorem rJ {x k:Nat}:(ai x).length≤k↔x<2^(8*k):=by
 constructor
 ·intro h;have a:=jS (ai x);rw [aN] at a;exact Xqg a (Xqj (by omega) (by omega))
 ·exact jM
theorem acM (s:List UInt8) (hs:s.length<2^40) (f:ag s<9223372036854775808):CO 107 [.str s] (.ret (.tup [ω ((ag s:Nat):Int),.bool true])):=by
 have k:=gY s hs;have a:=aN (ag s);have j:(ai (ag s)).length≤8:=jM (Xqg f (by decide));have hloop:=fun nt (e:35≤nt)=>Vk e (ai (ag s)) (by omega) (by rw [a];exact f) (ai (ag s)).length 0 (by omega)
 have hless:aJ ⟨[(4,ω ((ag s:Nat):Int))],[],.dead,[]⟩ (NW (ai (ag s)) (ai (ag s)).length):=by
  unfold NW;rw [Xqy,a];exact aJ.refl _
 have g:=Z8 s (ag s);have h:=Z9 s (ag s);have d:(ai (ag s)).length=8→((ai (ag s)).getD 0 0).toNat≤127:=by
  intro b;cases e:ai (ag s) with
  |nil=>rw [e] at b;cases b
  |cons c r=>
   rw [e] at b a;rw [jb] at a;have:r.length=7:=by simpa using b
   rw [this,show 256^7=72057594037927936 from rfl] at a;simp only [Xjv];omega
 generalize ai (ag s)=t at*
 by_cases b:t.length=8
 ·have i:=d b;simp (disch:=first|omega|(simp [au,az]<;>omega)) only [aY,dP,dY,eY,b,bu,jJ,decide_true,bF] at g;apply g<;>first|exact True.intro|omega|assumption|exact rfl|skip
  exact aF.blk hloop (by simp) rfl (aJ.of ⟨rfl,rfl,rfl,trivial⟩) hless
 ·simp (disch:=first|omega|(simp [au,az]<;>omega)) only [jJ,b,decide_false,dP,Xjj,aY,dY,eY] at h;apply h<;>first|exact True.intro|omega|assumption|exact rfl|skip
  exact aF.blk hloop (by simp) rfl (aJ.of ⟨rfl,rfl,rfl,trivial⟩) hless
theorem jP (s:List UInt8) (b:Nat) (hs:s.length<2^40) (e:b≤7) (c:ag s<2^(8*b)):CO 77 [.str s,ω (b:Int)] (.ret (.tup [ω ((ag s:Nat):Int),.bool true])):=by
 have h:=ajV s (ag s) b;have a:ag s<9223372036854775808:=Xqg c (Xxm (Xqj (by omega) (show 8*b≤63 by omega)) (by decide));have d:=rJ.2 c;simp (disch:=first|omega|(simp [au,az]<;>omega)) only [aY,dP,dY,eY] at h;exact h (by omega) (gY s hs) (acM s hs a)
theorem kZ (s:List UInt8) (b:Nat) (hs:s.length<2^40) (c:2^(8*b)≤ag s):CO 77 [.str s,ω (b:Int)] (.ret (.tup [ω 0,.bool false])):=by
 have h:=ajU s 0 b;have a:¬ (ai (ag s)).length≤b:=fun h=>by have:=rJ.1 h;omega
 simp (disch:=first|omega|(simp [au,az]<;>omega)) only [aY,bF,bu] at h;exact h (by omega) (gY s hs)
theorem RH {d:Nat} (h:0<d):fE d=fE (d / 2)+1:=by
 rcases Xq9 d 2 with h1|h1
 ·have:d=1:=by omega
  subst this;rfl
 ·have:=uz (x:=d) (k:=1) (by omega);rw [Nat.pow_one] at this;omega
def akX (p:Nat × Nat):St:=⟨[(3,ω (p.1:Int)),(4,ω (p.2:Int))],[],.dead,[]⟩
def afM (n:Nat):St:=⟨[(3,ω (n:Int))],[],.dead,[]⟩
theorem X6 {nt:Nat} (a:24≤nt):∀ (b n d:Nat),d<b→d<256→n+fE d<2^45→aF prog ap [] nt (ae 0 (af f133)) (fun _=> .exit 0) akX afM (n,d) (n+fE d):=by
 intro b
 induction b with
 |zero=>intro n d h;omega
 | succ b ih=>
  intro n d h hd f;rcases Xqb d with rfl|h0
  ·exact .done (aiN a n 0 rfl)
  ·have c:=RH h0;rw [c,show n+(fE (d / 2)+1)=n+1+fE (d / 2) by omega];refine .next ?_ (ih (n+1) (d / 2) (by omega) (by omega) (by omega))
   have e:=aiM a n d;clear ih c;simp (disch:=first|omega|(simp [au,az]<;>omega)) only [aY,bF,bu,bW,aX,pO] at e;apply e<;>first|exact True.intro|omega|assumption|exact rfl
theorem LC (s:List UInt8) (hs:s.length<2^40):CO 133 [.str s] (.ret (ω ((fE (ag s):Nat):Int))):=by
 have g:=gY s hs;have a:=aN (ag s);have k:=BV (ag s);have b:(ai (ag s)).length≤s.length:=lN (Θ _);have h0:=adz s 0;have f:=adA s (fE (ag s));cases d:ai (ag s) with
 |nil=>
  rw [d] at h0 a g;rw [← a];exact h0 rfl g
 | cons c r=>
  rw [d] at f a g k b;have j:c ≠ 0:=by simpa [nR] using k
  have i:0<c.toNat:=by
   rcases Xqb c.toNat with h|h
   ·exact absurd (by apply UInt8.toNat_inj.1;simpa using h) j
   ·exact h
  have hc256:c.toNat<256:=Xve c;have n:fE (ag s)=8*r.length+fE c.toNat:=by
   have e:=D_ (x:=c.toNat) (y:=ag r) (8*r.length) i (jS r);rw [← e,← a,jb,Xqa,show (256:Nat)=2^8 from rfl,← Xja]
  have l:fE c.toNat≤8:=pg (by omega);simp only [ν] at b;have hloop:=fun nt (d:24≤nt)=>X6 d 256 (8*r.length) c.toNat hc256 hc256 (by omega)
  rw [← n] at hloop;simp only [ν,Xjv] at f;have t:r.length+1 - 1=r.length:=rfl;have m:(((r.length+1:Nat):Int)) - ((1:Nat):Int)=(r.length:Int):=by omega
  have o:γ .i64 (r.length:Int)=(r.length:Int):=aX (by omega);have p:γ .i64 (((8:Nat):Int)*(r.length:Int))=((8*r.length:Nat):Int):=by rw [dL]<;>omega
  have q:γ .i64 (c.toNat:Int)=(c.toNat:Int):=aX (by omega);rw [m,o,p,q] at f;refine f (by rw [aY];exact Yq0 (by omega)) (by rw [jJ];simp [lit]) g ?_;exact aF.blk hloop (by simp) rfl (aJ.of ⟨rfl,rfl,trivial⟩) (aJ.of ⟨rfl,trivial⟩)
theorem xM (s:List UInt8):CO 128 [.str s] (.ret (.bool (nR s))):=by
 cases s with
 |nil=>exact ajx [] rfl
 | cons c r=>
  have h:=ajy (c::r);have e:(!((((c::r).getD 0 0).toNat:Int)==((0:Nat):Int)))=nR (c::r):=by
   simp only [Xjv,nR];by_cases hc:c=0
   ·subst hc;rfl
   ·have:c.toNat ≠ 0:=fun h=>hc (by apply UInt8.toNat_inj.1;simpa using h)
    have a:((c.toNat:Int)==((0:Nat):Int))=false:=by simp;omega
    rw [a];simp [hc]
  rw [e] at h;apply h
  ·simp
  ·simp [lit];omega
theorem Ah:∀ (a b:List UInt8),a.length=b.length→iF a b=decide (ag a<ag b)
 | [],[],_=>rfl
 | [],_::_,h=>by simp at h
 |_::_,[],h=>by simp at h
 | x::a,y::b,h=>by
  have d:a.length=b.length:=by simpa using h
  have j:=Ah a b d;have i:=jS a;have k:=jS b;simp only [iF,j];rw [jb,jb,d,show (256:Nat)=2^8 from rfl,← Xja];rw [d] at i;have c:decide (x<y)=decide (x.toNat<y.toNat):=by simp [UInt8.lt_iff_toNat_lt]
  have f:(x==y)=decide (x.toNat=y.toNat):=by
   by_cases h:x=y
   ·subst h;simp
   ·have:x.toNat ≠ y.toNat:=fun g=>h (UInt8.toNat_inj.1 g)
    simp [h,this]
  rw [c,f];generalize 2^(8*b.length)=M at*
  generalize ag a=u at*
  generalize ag b=v at*
  generalize x.toNat=p at*
  generalize y.toNat=q at*
  rcases Xzk p q with h3|h3|h3
  ·have e:(p+1)*M≤q*M:=Xqv _ h3;rw [Xxp,Xwj] at e;rw [Yq0 h3,Yq0 (show p*M+u<q*M+v by omega)];rfl
  ·subst h3;rw [Yq1 (Xvm _),Yq0 rfl];simp
  ·have e:(q+1)*M≤p*M:=Xqv _ h3;rw [Xxp,Xwj] at e;rw [Yq1 (show ¬ p<q by omega),Yq1 (show ¬ p=q by omega),Yq1 (show ¬ p*M+u<q*M+v by omega)];rfl
theorem AQ {x y:Nat} (h:(ai x).length<(ai y).length):x<y:=by
 rcases Xq9 x y with h1|h1
 ·exact h1
 ·have a:y≤ag (ai x):=by rw [aN];exact h1
  have:=lN a;omega
theorem Jt (s t:List UInt8) (hs:s.length<2^40) (j:t.length<2^40):CO 118 [.str s,.str t] (.ret (ω (lU (ag s) (ag t)))):=by
 have c:=gY s hs;have d:=gY t j;have k:=aN (ag s);have g:=aN (ag t);unfold lU;by_cases hl:(ai (ag s)).length=(ai (ag t)).length
 ·have b:=Ah _ _ hl;rw [k,g] at b;have f:(ai (ag s)==ai (ag t))=decide (ag s=ag t):=by
   by_cases h:ag s=ag t
   ·rw [h];simp
   ·have:ai (ag s) ≠ ai (ag t):=fun i=>h (VP i)
    simp [h,this]
  have a:lit false (!((((ai (ag s)).length:Nat):Int)==(((ai (ag t)).length:Nat):Int)))=true:=by rw [hl];simp [lit]
  by_cases h1:ag s<ag t
  ·rw [if_pos h1];exact ZZ s t (by rw [b,Yq0 h1];rfl) a c d
  ·rw [if_neg h1];by_cases e:ag t<ag s
   ·rw [if_pos e];exact Z4 s t (by rw [b,f,Yq1 h1,Yq1 (show ¬ ag s=ag t by omega)];rfl) (by rw [b,Yq1 h1];rfl) a c d
   ·rw [if_neg e];exact Z5 s t (by rw [b,f,Yq1 h1,Yq0 (show ag s=ag t by omega)];rfl) (by rw [b,Yq1 h1];rfl) a c d
 ·have a:lit true (!((((ai (ag s)).length:Nat):Int)==(((ai (ag t)).length:Nat):Int)))=true:=by rw [jJ,Yq1 hl];rfl
  by_cases h1:(ai (ag s)).length<(ai (ag t)).length
  ·rw [if_pos (AQ h1)];exact ZX s t (by rw [aY,Yq0 h1];rfl) a c d
  ·have e:=AQ (show (ai (ag t)).length<(ai (ag s)).length by omega);rw [if_neg (by omega),if_pos e];exact ZY s t (by rw [aY,Yq1 h1];rfl) a c d
theorem ahS {nt:Nat} (a:35≤nt) (s:List UInt8) (o:List Nat) (e d k:Nat) (h0:(decide (((0:Nat):Int)≤(k:Int)))=true) (b:(decide ((k:Int)<(((ζ s):Nat):Int)))=true) (c:lit true (decide ((k:Int)<(e:Int)))=true):aj prog ap [] nt (ae 2 (af f78)) ⟨[(0,.str s),(3,.nilS),(4,ω (e:Int)),(5,ω (d:Int)),(6,ω (k:Int))],[],.dead,[]⟩ (.normal) ⟨[(0,.str s),(3,.nilS),(4,ω (e:Int)),(5,ω (γ .i64 ((γ .i64 ((d:Int)*((256:Nat):Int)))+(γ .i64 ((Φ (Xql s (δ (k:Int)) 0):Nat):Int))))),(6,ω (γ .i64 ((k:Int)+((1:Nat):Int))))],[],.dead,[]⟩:=pJ 78 [] 1 1 (.c h0 (.c b (.c c .nil))) (.nil) a
theorem ahT {nt:Nat} (a:35≤nt) (s:List UInt8) (o:List Nat) (e d k:Nat) (h0:lit false (decide ((k:Int)<(e:Int)))=true):aj prog ap [] nt (ae 2 (af f78)) ⟨[(0,.str s),(3,.nilS),(4,ω (e:Int)),(5,ω (d:Int)),(6,ω (k:Int))],[],.dead,[]⟩ (.exit 2) ⟨[(0,.str s),(3,.nilS),(4,ω (e:Int)),(5,ω (d:Int))],[],.dead,[]⟩:=pJ 78 [] 1 0 (.c h0 .nil) (.nil) a
theorem ahQ {nt:Nat} (a:35≤nt) (s:List UInt8) (o:List Nat) (e d k:Nat) (h0:(decide (((0:Nat):Int)≤(k:Int)))=true) (b:(decide ((k:Int)<(((ζ s):Nat):Int)))=true) (c:lit true (decide ((k:Int)<(e:Int)))=true):aj prog ap [] nt (ae 2 (af f78)) ⟨[(0,.str s),(3,.ref 0 0 0 o.length),(4,ω (e:Int)),(5,ω (d:Int)),(6,ω (k:Int))],[(0,⟨(ah o),0,false,0,1,true⟩)],.dead,[]⟩ (.normal) ⟨[(0,.str s),(3,.ref 0 0 0 o.length),(4,ω (e:Int)),(5,ω (γ .i64 ((γ .i64 ((d:Int)*((256:Nat):Int)))+(γ .i64 ((Φ (Xql s (δ (k:Int)) 0):Nat):Int))))),(6,ω (γ .i64 ((k:Int)+((1:Nat):Int))))],[(0,⟨(ah o),0,false,0,1,true⟩)],.dead,[]⟩:=pJ 78 [] 1 1 (.c h0 (.c b (.c c .nil))) (.nil) a
theorem ahR {nt:Nat} (a:35≤nt) (s:List UInt8) (o:List Nat) (e d k:Nat) (h0:lit false (decide ((k:Int)<(e:Int)))=true):aj prog ap [] nt (ae 2 (af f78)) ⟨[(0,.str s),(3,.ref 0 0 0 o.length),(4,ω (e:Int)),(5,ω (d:Int)),(6,ω (k:Int))],[(0,⟨(ah o),0,false,0,1,true⟩)],.dead,[]⟩ (.exit 2) ⟨[(0,.str s),(3,.ref 0 0 0 o.length),(4,ω (e:Int)),(5,ω (d:Int))],[(0,⟨(ah o),0,false,0,1,true⟩)],.dead,[]⟩:=pJ 78 [] 1 0 (.c h0 .nil) (.nil) a
theorem ahM {nt:Nat} (a:35≤nt) (s:List UInt8) (o:List Nat) (z:Int) (d:Nat) (h0:lit true (decide (((0:Nat):Int)<z))=true) (b:aI prog ap [] 35 (.block 2 (.loop (ae 2 (af f78)))) ⟨[(0,.str s),(2,.dead),(3,.nilS),(4,ω z),(5,ω 0),(6,ω (if ((0:Nat):Int)>(γ .i64 (z - ((3:Nat):Int))) then ((0:Nat):Int) else (γ .i64 (z - ((3:Nat):Int))))),(12,.bool (decide (((0:Nat):Int)<z))),(20,.dead)],[],.dead,[]⟩ (.normal) ⟨[(0,.str s),(4,ω z),(5,ω (d:Int)),(3,.nilS)],[],.dead,[]⟩):ψ nt f78 ⟨[(0,.str s),(3,.nilS),(4,ω z)],[],.dead,[]⟩ (.normal) ⟨[(0,.str s),(3,.ref 0 0 0 1),(4,ω (γ .i64 (z - ((3:Nat):Int))))],[(0,⟨[ω (d:Int)],0,false,0,1,true⟩)],.dead,[]⟩:=pJ 78 [2] 2 1 (.k 3 h0 .nil) (.l b .nil) a
theorem ahN {nt:Nat} (a:35≤nt) (s:List UInt8) (o:List Nat) (z:Int) (d:Nat) (h0:lit false (decide (((0:Nat):Int)<z))=true):ψ nt f78 ⟨[(0,.str s),(3,.nilS),(4,ω z)],[],.dead,[]⟩ (.exit 0) ⟨[(3,.nilS)],[],.dead,[]⟩:=pJ 78 [2] 1 0 (.c h0 .nil) (.nil) a
theorem ac_ (s:List UInt8) (o:List Nat) (a:CO 76 [.str s] (.ret (.str (ai (ag s))))) (b:aI prog ap [] 35 (.block 0 (.loop (ae 0 (af f78)))) ⟨[(0,.str (ai (ag s))),(2,.nilS),(3,.nilS),(4,ω (((ζ (ai (ag s))):Nat):Int)),(5,.dead),(6,.dead),(12,.dead),(20,.dead)],[],.dead,[]⟩ (.normal) ⟨[(3,.nilS)],[],.dead,[]⟩):CO 78 [.str s] (.ret (.nilS)):=pK [0] 0 0 .nil (.l b (.c a .nil))
theorem ahH {nt:Nat} (a:35≤nt) (s:List UInt8) (o:List Nat) (z:Int) (d:Nat) (h0:(Ξ (o.length+1) 1099511627776)=true) (c:(Ξ (o.length*1) (ζ (ah o)))=true) (e:lit true (decide (((0:Nat):Int)<z))=true) (b:aI prog ap [] 35 (.block 2 (.loop (ae 2 (af f78)))) ⟨[(0,.str s),(2,.dead),(3,.ref 0 0 0 o.length),(4,ω z),(5,ω 0),(6,ω (if ((0:Nat):Int)>(γ .i64 (z - ((3:Nat):Int))) then ((0:Nat):Int) else (γ .i64 (z - ((3:Nat):Int))))),(12,.bool (decide (((0:Nat):Int)<z))),(20,.dead)],[(0,⟨(ah o),0,false,0,1,true⟩)],.dead,[]⟩ (.normal) ⟨[(0,.str s),(4,ω z),(5,ω (d:Int)),(3,.ref 0 0 0 o.length)],[(0,⟨(ah o),0,false,0,1,true⟩)],.dead,[]⟩):ψ nt f78 ⟨[(0,.str s),(3,.ref 0 0 0 o.length),(4,ω z)],[(0,⟨(ah o),0,false,0,1,true⟩)],.dead,[]⟩ (.normal) ⟨[(0,.str s),(3,.ref 0 0 0 (o.length+1)),(4,ω (γ .i64 (z - ((3:Nat):Int))))],[(0,⟨((μ (o.length*1) (ah o))++ [ω (d:Int)]),0,false,0,1,true⟩)],.dead,[]⟩:=pJ 78 [2] 1 1 (.k 1 h0 (.c c (.k 1 e .nil))) (.l b .nil) a
theorem ahI {nt:Nat} (a:35≤nt) (s:List UInt8) (o:List Nat) (z:Int) (d:Nat) (h0:lit false (decide (((0:Nat):Int)<z))=true):ψ nt f78 ⟨[(0,.str s),(3,.ref 0 0 0 o.length),(4,ω z)],[(0,⟨(ah o),0,false,0,1,true⟩)],.dead,[]⟩ (.exit 0) ⟨[(3,.ref 0 0 0 o.length)],[(0,⟨(ah o),0,false,0,1,true⟩)],.dead,[]⟩:=pJ 78 [2] 1 0 (.c h0 .nil) (.nil) a
theorem ac9 (s:List UInt8) (o:List Nat) (a:CO 76 [.str s] (.ret (.str (ai (ag s))))) (b:aI prog ap [] 35 (.block 0 (.loop (ae 0 (af f78)))) ⟨[(0,.str (ai (ag s))),(2,.nilS),(3,.nilS),(4,ω (((ζ (ai (ag s))):Nat):Int)),(5,.dead),(6,.dead),(12,.dead),(20,.dead)],[],.dead,[]⟩ (.normal) ⟨[(3,.ref 0 0 0 o.length)],[(0,⟨(ah o),0,false,0,1,true⟩)],.dead,[]⟩):CO 78 [.str s] (.ret (.own (μ (o.length*1) (ah o)) o.length 1)):=pK [0] 0 0 .nil (.l b (.c a .nil))
def V8 (s:List UInt8) (o:List Nat) (e j k:Nat):St:=⟨[(0,.str s),(3,Na o),(4,ω (e:Int)),(5,ω ((ag ((s.take k).drop j):Nat):Int)),(6,ω (k:Int))],Nb o,.dead,[]⟩
def V7 (s:List UInt8) (o:List Nat) (e d:Nat):St:=⟨[(0,.str s),(3,Na o),(4,ω (e:Int)),(5,ω (d:Int))],Nb o,.dead,[]⟩
theorem Sr {s:List UInt8} {j k:Nat} (h:k<s.length) (a:j≤k):ag ((s.take (k+1)).drop j)=ag ((s.take k).drop j)*256+(s.getD k 0).toNat:=by
 rw [Xwk,π h,List.drop_append_of_le_length (by simp;omega),ξ,π h];exact nH _ _
theorem Qg {s:List UInt8} {j k:Nat} (h:k≤j+3):ag ((s.take k).drop j)<16777216:=by
 have a:=jS ((s.take k).drop j);have b:((s.take k).drop j).length≤3:=by simp;omega
 exact Xqg a (Xxm (Xqj (by omega) (show 8*((s.take k).drop j).length≤24 by omega)) (by decide))
theorem Zv {nt:Nat} (f:35≤nt) (s:List UInt8) (o:List Nat) (e j:Nat) (hs:s.length<2^40) (q:e≤s.length) (t:e≤j+3):∀ (n k:Nat),k+n=e→j≤k→aF prog ap [] nt (ae 2 (af f78)) (fun _=> .exit 2) (V8 s o e j) (V7 s o e) k (ag ((s.take e).drop j)):=by
 intro n
 induction n with
 | zero=>
  intro k p a;have h:k=e:=by omega
  subst h;refine .done ?_;unfold V8 V7;rcases Xxh (o= []) with rfl|hne
  ·exact ahT f s [] k _ k (by rw [aY];simp [lit])
  ·rw [gK hne,gQ hne];exact ahR f s o k _ k (by rw [aY];simp [lit])
 | succ n ih=>
  intro k p a;refine .next ?_ (ih (k+1) (by omega) (by omega))
  have g:k<s.length:=by omega
  have u:=Qg (s:=s) (j:=j) (k:=k) (by omega);have v:(s.getD k 0).toNat<256:=Xve _;have l:=Sr g a;unfold V8;rw [l];generalize m:(s.getD k 0).toNat=c at*
  generalize ag ((s.take k).drop j)=d at*
  clear ih l;have r:γ .i64 ((d:Int)*((256:Nat):Int))=((d*256:Nat):Int):=by rw [dL]<;>omega
  have i:(((d*256:Nat):Int))+(c:Int)=((d*256+c:Nat):Int):=by omega
  rcases Xxh (o= []) with rfl|hne
  ·have b:=ahS f s [] e d k;simp (disch:=first|omega|(simp [au,az]<;>omega)) only [dI,bu,aY,bF,yl,aX,aA,m,i,bW] at b;apply b<;>first|exact True.intro|omega|assumption|exact rfl
  ·have b:=ahQ f s o e d k;rw [gK hne,gQ hne];simp (disch:=first|omega|(simp [au,az]<;>omega)) only [dI,bu,aY,bF,yl,aX,aA,m,i,bW] at b;apply b<;>first|exact True.intro|omega|assumption|exact rfl
def Sm (s:List UInt8) (p:Int × List Nat):St:=⟨[(0,.str s),(3,Na p.2),(4,ω p.1)],Nb p.2,.dead,[]⟩
def Qe (o:List Nat):St:=⟨[(3,Na o)],Nb o,.dead,[]⟩
theorem Zu {nt:Nat} (c:35≤nt) (s:List UInt8) (o:List Nat) (e:Nat) (hs:s.length<2^38) (h:e≤s.length) (h0:0<e) (j:o.length<2^39):
  ψ nt f78 (Sm s ((e:Int),o)) .normal (Sm s ((e:Int) - 3,o++ [ag ((s.take e).drop (e - 3))])):=by
 have hloop:=fun nt (c:35≤nt)=>Zv c s o e (e - 3) (by omega) h (by omega) (e - (e - 3)) (e - 3) (by omega) (Θ _)
 have f:γ .i64 ((e:Int) - ((3:Nat):Int))=(e:Int) - 3:=dL (by omega) (by omega);have g:(if ((0:Nat):Int)>(e:Int) - 3 then ((0:Nat):Int) else (e:Int) - 3)=((e - 3:Nat):Int):=by
  split<;>omega
 have b:ag ((s.take (e - 3)).drop (e - 3))=0:=by
  rw [Xxj (by simp;omega)];rfl
 have i:(ε (e - 3) (μ e s)).length≤3:=by simp;omega
 unfold Sm;generalize ag ((s.take e).drop (e - 3))=d at*
 rcases Xxh (o= []) with rfl|hne
 ·have a:=ahM c s [] (e:Int) d;rw [f,g] at a;simp (disch:=first|omega|(simp [au,az]<;>omega)) only [aY,bF,bu] at a;simp only [Xqc,Na,Nb,ah,Xqf,Xxz,ν,Δ] at a ⊢;apply a
  ·omega
  ·refine aF.blk hloop (by simp) rfl ?_ (aJ.of ⟨rfl,rfl,rfl,rfl,trivial⟩);unfold V8;rw [b];exact aJ.of ⟨rfl,rfl,rfl,rfl,rfl,trivial⟩
 ·have a:=ahH c s o (e:Int) d;rw [f,g] at a;rw [gK hne,gQ hne,gK (iG _ _),gQ (iG _ _)];simp (disch:=first|omega|(simp [au,az]<;>omega)) only [fH,bu,υ,bQ,aY,bF,dC,Xqy,iT] at a;simp only [θ,ο];apply a<;>first|exact True.intro|omega|assumption|exact rfl|skip
  ·refine aF.blk hloop (by simp) rfl ?_ ?_
   ·unfold V8;rw [b,gK hne,gQ hne];exact aJ.of ⟨rfl,rfl,rfl,rfl,rfl,trivial⟩
   ·unfold V7;rw [gK hne,gQ hne];exact aJ.of ⟨rfl,rfl,rfl,rfl,trivial⟩
theorem V3 {nt:Nat} (a:35≤nt) (s:List UInt8) (o:List Nat) (z:Int) (c:z≤0):ψ nt f78 (Sm s (z,o)) (.exit 0) (Qe o):=by
 unfold Sm Qe;have b:lit false (decide (((0:Nat):Int)<z))=true:=by simp [lit];exact c
 rcases Xxh (o= []) with rfl|hne
 ·exact ahN a s [] z 0 b
 ·rw [gK hne,gQ hne];exact ahI a s o z 0 b
theorem afT {s:List UInt8} {e:Nat} (g:e≤s.length):ag (s.take e)=16777216*ag (s.take (e - 3))+ag ((s.take e).drop (e - 3)):=by
 have c:∀ (b a:List UInt8),ag (a++b)=ag a*256^b.length+ag b:=by
  intro b a;unfold ag;rw [Xvf,GZ];rfl
 have hs:s.take e=s.take (e - 3)++(s.take e).drop (e - 3):=by
  have f:=Xjz (e - 3) (s.take e);rw [List.take_take,Xjc (by omega)] at f;exact f.symm
 have d:=c ((s.take e).drop (e - 3)) (s.take (e - 3));rw [← hs] at d;rw [d];rcases Xq9 e 3 with h3|h3
 ·have:e - 3=0:=by omega
  rw [this];simp [ag]
 ·have:((s.take e).drop (e - 3)).length=3:=by simp;omega
  rw [this,Xqa,show 256^3=16777216 from rfl]
theorem V4 {nt:Nat} (a:35≤nt) (s:List UInt8) (hs:s.length<2^38) (f:nR s=true):∀ (n e:Nat) (o:List Nat),e<n→e≤s.length→o.length+e<2^39→aF prog ap [] nt (ae 0 (af f78)) (fun _=> .exit 0) (Sm s) Qe ((e:Int),o) (o++ay (ag (s.take e))):=by
 intro n
 induction n with
 |zero=>intro e o h;omega
 | succ n ih=>
  intro e o h b q;rcases Xqb e with rfl|h0
  ·have:ag (s.take 0)=0:=rfl;rw [this,gm,Γ];exact .done (V3 a s o _ (by omega))
  ·have i:0<ag (s.take e):=by
    cases s with
    |nil=>simp at b;omega
    | cons c r=>
     have p:c ≠ 0:=by simpa [nR] using f
     have d:0<c.toNat:=by
      rcases Xqb c.toNat with h|h
      ·exact absurd (by apply UInt8.toNat_inj.1;simpa using h) p
      ·exact h
     obtain ⟨e',rfl⟩:∃ e',e=e'+1:=⟨e - 1,by omega⟩
     rw [List.take_succ_cons,jb];have:=Xz0 d (show 0<256^(r.take e').length from Nat.pow_pos (by omega));omega
   have l:=afT b;have hd:=Qg (s:=s) (j:=e - 3) (k:=e) (by omega);have hstep:=Zu a s o e hs b h0 (by omega);rw [nN i,show ag (s.take e) % 16777216=ag ((s.take e).drop (e - 3)) by omega,show ag (s.take e) / 16777216=ag (s.take (e - 3)) by omega];rcases Xq9 e 3 with h3|h3
   ·have m:e - 3=0:=by omega
    have g:ag (s.take (e - 3))=0:=by rw [m];rfl
    rw [g,gm];exact .next hstep (.done (V3 a s _ _ (by omega)))
   ·have hnext:=ih (e - 3) (o++ [ag ((s.take e).drop (e - 3))]) (by omega) (by omega) (by simp;omega);rw [Ψ] at hnext;rw [show ((e:Int) - 3)=((e - 3:Nat):Int) by omega] at hstep;exact .next hstep hnext
theorem A7 (s:List UInt8) (hs:s.length<2^37):CO 78 [.str s] (.ret (.sl (ah (ay (ag s))) (ay (ag s)).length false)):=by
 have b:=gY s (by omega);have c:(ai (ag s)).length≤s.length:=lN (Θ _);have a:=aN (ag s);have hloop:=fun nt (hn:35≤nt)=>V4 hn (ai (ag s)) (by omega) (BV _) ((ai (ag s)).length+1) (ai (ag s)).length [] (by omega) (Θ _) (by simp;omega)
 rw [Xqy,a,Xqc] at hloop;generalize hd:ay (ag s)=o at*
 rcases Xxh (o= []) with rfl|hne
 ·have h:=ac_ s [] b (aF.blk hloop (by simp) rfl (aJ.of ⟨rfl,rfl,rfl,trivial⟩) (aJ.of ⟨rfl,trivial⟩));exact h.out (jC.ret rfl rfl (aZ.nilS false rfl))
 ·have h:=(ac9 s o b (aF.blk hloop (by simp) rfl (aJ.of ⟨rfl,rfl,rfl,trivial⟩) (by unfold Qe;rw [gK hne,gQ hne];exact aJ.of ⟨rfl,trivial⟩))).thaw (by simp);simp only [uV,thaw,υ,dC,Xqy] at h;exact h.out (jC.sl1 _ _ _)
theorem apy (s t:List UInt8) (x y q r:Nat) (h0:(!((y:Int)==((0:Nat):Int)))=true) (e:lit false ((((ζ (ai (ag t))):Nat):Int)==((0:Nat):Int))=true) (d:CO 76 [.str t] (.ret (.str (ai (ag t))))) (a:CO 77 [.str s,ω 7] (.ret (.tup [ω (x:Int),.bool true]))) (c:CO 77 [.str (ai (ag t)),ω 7] (.ret (.tup [ω (y:Int),.bool true]))) (b:CO 49 [ω (γ .i64 (Int.tdiv (x:Int) (y:Int)))] (.ret (.str (ai q)))) (f:CO 49 [ω (Int.tmod (x:Int) (y:Int))] (.ret (.str (ai r)))):CO 81 [.str s,.str t] (.ret (.tup [.str (ai q),.str (ai r),.bool true])):=pK [0] 3 6 (.c h0 (.c h0 (.k 2 e .nil))) (.c f (.c b (.c c (.c a (.c d .nil)))))
theorem apw (s t:List UInt8) (x y q r m:Nat) (Q:List Nat) (a:Int) (b:Bool) (h0:(decide (((0:Nat):Int)≤(((ay (ag s)).length:Nat):Int)))=true) (h:(decide ((((ay (ag s)).length:Nat):Int)=(((ay (ag s)).length:Nat):Int)))=true) (g:(decide ((((ay (ag s)).length:Nat):Int)≤((1099511627776:Nat):Int)))=true) (i:lit false ((((ζ (ai (ag t))):Nat):Int)==((0:Nat):Int))=true) (k:CO 76 [.str t] (.ret (.str (ai (ag t))))) (c:CO 77 [.str s,ω 7] (.ret (.tup [ω 0,.bool false]))) (e:CO 77 [.str (ai (ag t)),ω 7] (.ret (.tup [ω a,.bool b]))) (d:CO 78 [.str s] (.ret (.sl (ah (ay (ag s))) (ay (ag s)).length false))) (n:CO 78 [.str (ai (ag t))] (.ret (.sl (ah (ay (ag (ai (ag t))))) (ay (ag (ai (ag t)))).length false))) (j:aI prog ap [] 87 (.block 0 (.loop (ae 0 (af f81)))) ⟨[(0,.str s),(1,.str (ai (ag t))),(4,.str []),(5,.str []),(6,.bool false),(7,ω 0),(8,.bool false),(9,ω a),(10,.bool b),(11,.sl (ah (ay (ag s))) (ay (ag s)).length false),(12,.sl (ah (ay (ag (ai (ag t))))) (ay (ag (ai (ag t)))).length false),(13,.ref 0 0 0 (δ (((ay (ag s)).length:Nat):Int))),(14,.nilS),(15,ω (γ .i64 ((((ay (ag s)).length:Nat):Int) - ((1:Nat):Int)))),(20,.bool ((((ζ (ai (ag t))):Nat):Int)==((0:Nat):Int))),(34,.bool false),(54,.dead),(68,.dead)],[(0,⟨(gp (δ (((ay (ag s)).length:Nat):Int)) [ω 0]),0,false,0,1,true⟩)],.dead,[]⟩ (.normal) ⟨[(13,.ref 0 0 0 m),(14,.sl (ah (ay r)) (ay r).length false)],[(0,⟨(ah Q),0,false,0,1,true⟩)],.dead,[]⟩) (l:CO 79 [.sl (μ (m*1) (ah Q)) m true] (.ret (.str (ai q)))) (f:CO 79 [.sl (ah (ay r)) (ay r).length false] (.ret (.str (ai r)))):CO 81 [.str s,.str t] (.ret (.tup [.str (ai q),.str (ai r),.bool true])):=pK [0] 3 0 (.c h0 (.c h (.c g (.k 2 i .nil)))) (.c f (.c l (.l j (.c n (.c d (.c e (.c c (.c k .nil))))))))
theorem apx (s t:List UInt8) (x y q r m:Nat) (Q:List Nat) (l:Int) (n:Bool) (h0:(decide (((0:Nat):Int)≤(((ay (ag s)).length:Nat):Int)))=true) (f:(decide ((((ay (ag s)).length:Nat):Int)=(((ay (ag s)).length:Nat):Int)))=true) (e:(decide ((((ay (ag s)).length:Nat):Int)≤((1099511627776:Nat):Int)))=true) (g:lit false ((((ζ (ai (ag t))):Nat):Int)==((0:Nat):Int))=true) (i:CO 76 [.str t] (.ret (.str (ai (ag t))))) (a:CO 77 [.str s,ω 7] (.ret (.tup [ω (x:Int),.bool true]))) (c:CO 77 [.str (ai (ag t)),ω 7] (.ret (.tup [ω 0,.bool false]))) (b:CO 78 [.str s] (.ret (.sl (ah (ay (ag s))) (ay (ag s)).length false))) (k:CO 78 [.str (ai (ag t))] (.ret (.sl (ah (ay (ag (ai (ag t))))) (ay (ag (ai (ag t)))).length false))) (h:aI prog ap [] 87 (.block 0 (.loop (ae 0 (af f81)))) ⟨[(0,.str s),(1,.str (ai (ag t))),(4,.str []),(5,.str []),(6,.bool false),(7,ω (x:Int)),(8,.bool true),(9,ω 0),(10,.bool false),(11,.sl (ah (ay (ag s))) (ay (ag s)).length false),(12,.sl (ah (ay (ag (ai (ag t))))) (ay (ag (ai (ag t)))).length false),(13,.ref 0 0 0 (δ (((ay (ag s)).length:Nat):Int))),(14,.nilS),(15,ω (γ .i64 ((((ay (ag s)).length:Nat):Int) - ((1:Nat):Int)))),(20,.bool ((((ζ (ai (ag t))):Nat):Int)==((0:Nat):Int))),(34,.bool false),(54,.dead),(68,.dead)],[(0,⟨(gp (δ (((ay (ag s)).length:Nat):Int)) [ω 0]),0,false,0,1,true⟩)],.dead,[]⟩ (.normal) ⟨[(13,.ref 0 0 0 m),(14,.sl (ah (ay r)) (ay r).length false)],[(0,⟨(ah Q),0,false,0,1,true⟩)],.dead,[]⟩) (j:CO 79 [.sl (μ (m*1) (ah Q)) m true] (.ret (.str (ai q)))) (d:CO 79 [.sl (ah (ay r)) (ay r).length false] (.ret (.str (ai r)))):CO 81 [.str s,.str t] (.ret (.tup [.str (ai q),.str (ai r),.bool true])):=pK [0] 3 2 (.c h0 (.c f (.c e (.k 2 g .nil)))) (.c d (.c j (.l h (.c k (.c b (.c c (.c a (.c i .nil))))))))
theorem apz {nt:Nat} (e:87≤nt) (x y r w q p a m k:Nat) (c:Int) (Q:List Nat) (h0:(chk (.int .i64) (η (ε ((0+(δ (k:Int)))*1) (μ ((0+(δ (k:Int)))*1) (ah Q)++ [ω (q:Int)]++ε (((0+(δ (k:Int)))*1)+1) (ah Q))) .dead))=true) (b:(decide (((0:Nat):Int)≤(k:Int)))=true) (d:(decide ((k:Int)<(m:Int)))=true) (n:(Ξ (((0+(δ (k:Int)))*1)+1) (ζ (ah Q)))=true) (o:lit true (decide (((0:Nat):Int)≤c))=true) (u:(Xqo (ζ (ah (ay r))) ((ay r).length*1))=true) (j:(Ξ (1+(ay r).length) 1099511627776)=true) (t:(chk (.int .i64) (η (ε ((δ (k:Int))*1) (ah (ay x))) .dead))=true) (g:(decide ((k:Int)<(((ay x).length:Nat):Int)))=true) (l:lit true (decide (((0:Nat):Int)≤(k:Int)))=true) (s:CO 108 [.sl (μ ((1+(ay r).length)*1) ([ω (τ (η (ε ((δ (k:Int))*1) (ah (ay x))) .dead))]++(ah (ay r)))) (1+(ay r).length) true] (.ret (.sl (ah (ay w)) (ay w).length false))) (f:CO 109 [.sl (ah (ay w)) (ay w).length false,.sl (ah (ay y)) (ay y).length false] (.ret (ω c))) (i:CO 110 [.sl (ah (ay w)) (ay w).length false,.sl (ah (ay y)) (ay y).length false] (.ret (ω (q:Int)))) (h:CO 112 [.sl (ah (ay y)) (ay y).length false,ω (τ (η (ε ((0+(δ (k:Int)))*1) (μ ((0+(δ (k:Int)))*1) (ah Q)++ [ω (q:Int)]++ε (((0+(δ (k:Int)))*1)+1) (ah Q))) .dead))] (.ret (.sl (ah (ay p)) (ay p).length true))) (v:CO 111 [.sl (ah (ay w)) (ay w).length false,.sl (ah (ay p)) (ay p).length true] (.ret (.sl (ah (ay a)) (ay a).length false))):ψ nt f81 ⟨[(11,.sl (ah (ay x)) (ay x).length false),(12,.sl (ah (ay y)) (ay y).length false),(13,.ref 0 0 0 m),(14,.sl (ah (ay r)) (ay r).length false),(15,ω (k:Int))],[(0,⟨(ah Q),0,false,0,1,true⟩)],.dead,[]⟩ (.normal) ⟨[(11,.sl (ah (ay x)) (ay x).length false),(12,.sl (ah (ay y)) (ay y).length false),(13,.ref 0 0 0 m),(14,.sl (ah (ay a)) (ay a).length false),(15,ω (γ .i64 ((k:Int) - ((1:Nat):Int))))],[(0,⟨(μ ((0+(δ (k:Int)))*1) (ah Q)++ [ω (q:Int)]++ε (((0+(δ (k:Int)))*1)+1) (ah Q)),0,false,0,1,true⟩)],.dead,[]⟩:=pJ 81 [] 2 3 (.c h0 (.c b (.c d (.c n (.c b (.c d (.c o (.c u (.c j (.k 2 t (.c b (.c g (.c l .nil))))))))))))) (.c v (.c h (.c i (.c f (.c s .nil))))) e
theorem apA {nt:Nat} (a:87≤nt) (x y r w q p l m k:Nat) (c:Int) (Q:List Nat) (h0:lit false (decide (((0:Nat):Int)≤c))=true) (f:(Xqo (ζ (ah (ay r))) ((ay r).length*1))=true) (e:(Ξ (1+(ay r).length) 1099511627776)=true) (g:(chk (.int .i64) (η (ε ((δ (k:Int))*1) (ah (ay x))) .dead))=true) (h:(decide (((0:Nat):Int)≤(k:Int)))=true) (j:(decide ((k:Int)<(((ay x).length:Nat):Int)))=true) (d:lit true (decide (((0:Nat):Int)≤(k:Int)))=true) (i:CO 108 [.sl (μ ((1+(ay r).length)*1) ([ω (τ (η (ε ((δ (k:Int))*1) (ah (ay x))) .dead))]++(ah (ay r)))) (1+(ay r).length) true] (.ret (.sl (ah (ay w)) (ay w).length false))) (b:CO 109 [.sl (ah (ay w)) (ay w).length false,.sl (ah (ay y)) (ay y).length false] (.ret (ω c))):ψ nt f81 ⟨[(11,.sl (ah (ay x)) (ay x).length false),(12,.sl (ah (ay y)) (ay y).length false),(13,.ref 0 0 0 m),(14,.sl (ah (ay r)) (ay r).length false),(15,ω (k:Int))],[(0,⟨(ah Q),0,false,0,1,true⟩)],.dead,[]⟩ (.normal) ⟨[(11,.sl (ah (ay x)) (ay x).length false),(12,.sl (ah (ay y)) (ay y).length false),(13,.ref 0 0 0 m),(14,.sl (ah (ay w)) (ay w).length false),(15,ω (γ .i64 ((k:Int) - ((1:Nat):Int))))],[(0,⟨(ah Q),0,false,0,1,true⟩)],.dead,[]⟩:=pJ 81 [] 2 1 (.c h0 (.c f (.c e (.k 2 g (.c h (.c j (.c d .nil))))))) (.c b (.c i .nil)) a
theorem aip {nt:Nat} (a:87≤nt) (x y r w q p b m k:Nat) (c:Int) (Q:List Nat):ψ nt f81 ⟨[(11,.sl (ah (ay x)) (ay x).length false),(12,.sl (ah (ay y)) (ay y).length false),(13,.ref 0 0 0 m),(14,.sl (ah (ay r)) (ay r).length false),(15,ω (-1))],[(0,⟨(ah Q),0,false,0,1,true⟩)],.dead,[]⟩ (.exit 0) ⟨[(13,.ref 0 0 0 m),(14,.sl (ah (ay r)) (ay r).length false)],[(0,⟨(ah Q),0,false,0,1,true⟩)],.dead,[]⟩:=pJ 81 [] 1 0 (.n 1 .nil) (.nil) a
def zU (x y m k:Nat):List Nat:=(Xq2 m).map fun i=>if i<k then 0 else x / 16777216^i / y % 16777216
theorem xI (x y m k:Nat):(zU x y m k).length=m:=by simp [zU]
theorem ZN {x y m k:Nat} (a:k<m):(zU x y m (k+1)).set k (x / 16777216^k / y % 16777216)=zU x y m k:=by
 apply Xju;intro i;rw [Xzi,xI];unfold zU;by_cases hi:k=i
 ·subst hi;simp [a]
 ·rw [if_neg hi];by_cases him:i<m
  ·simp only [List.getElem?_map,List.getElem?_range him,Option.map_some];by_cases h1:i<k
   ·rw [if_pos (by omega),if_pos h1]
   ·rw [if_neg (by omega),if_neg h1]
  ·rw [Xqx (by simp;omega),Xqx (by simp;omega)]
theorem Ht (x y m:Nat):zU x y m m=κ m 0:=by
 unfold zU;apply Xju;intro i;by_cases him:i<m
 ·simp [him]
 ·rw [Xqx (by simp;omega),Xqx (by simp;omega)]
theorem ZM (x y m k:Nat):bz (zU x y m k):=by
 intro d hd;obtain ⟨i,_,rfl⟩:=List.mem_map.1 hd;show (if i<k then 0 else _)<_;split<;>omega
theorem Xw (z:Nat):∀ m,dA ((Xq2 m).map fun i=>z / 16777216^i % 16777216)=z % 16777216^m:=by
 intro m
 induction m with
 |zero=>simp [dA,Nat.mod_one]
 |succ m ih=>
  rw [List.range_succ,Xxt,zh,ih,List.length_map,List.length_range,Xq3,Nat.mod_mul];simp only [Xqf,Xxz,dA,Xjd,Xq5]
theorem ZO {x y m:Nat} (h:x / y<16777216^m):dA (zU x y m 0)=x / y:=by
 have e:zU x y m 0=(Xq2 m).map fun i=>x / y / 16777216^i % 16777216:=by
  unfold zU;apply List.map_congr_left;intro i _;rw [if_neg (by omega),Xxv,Xxv,Xqa]
 rw [e,Xw,φ h]
theorem UH:∀ (k x:Nat),(ay x).getD k 0=x / 16777216^k % 16777216:=by
 intro k
 induction k with
 |zero=>
  intro x;rcases Xqb x with rfl|h
  ·rw [gm];rfl
  ·rw [nN h];simp
 |succ k ih=>
  intro x;rcases Xqb x with rfl|h
  ·rw [gm];simp
  ·rw [nN h,List.getD_cons_succ,ih,Xxv,Xq3,Xqa]
theorem PL {V R' Q' x H:Nat} (a:0<V) (h:H=V*Q'+R'):(x+16777216*H) / V=16777216*Q'+(x+16777216*R') / V∧(x+16777216*H) % V=(x+16777216*R') % V:=by
 subst h;have e:x+16777216*(V*Q'+R')=x+16777216*R'+V*(16777216*Q'):=by
  rw [Nat.mul_add,Nat.mul_left_comm];omega
 rw [e];constructor
 ·rw [Nat.add_mul_div_left _ _ a,Xx9]
 ·rw [Nat.add_mul_mod_self_left]
def Sz (x y m k:Nat):St:=⟨[(11,.sl (ah (ay x)) (ay x).length false),(12,.sl (ah (ay y)) (ay y).length false),(13,.ref 0 0 0 m),(14,.sl (ah (ay (x / 16777216^k % y))) (ay (x / 16777216^k % y)).length false),(15,ω ((k:Int) - 1))],[(0,⟨ah (zU x y m k),0,false,0,1,true⟩)],.dead,[]⟩
theorem apC {nt:Nat} (h:87≤nt) (x y r w q p b m k d:Nat) (c:Int) (Q Q2:List Nat) (A:k<(ay x).length) (hd:(ay x).getD k 0=d) (i:Q.length=m) (o:k<m) (z:m<2^40) (v:(ay r).length<2^39) (a:Q.set k q=Q2) (t:0≤c)
  (c0:CO 108 [.sl (ah (d::ay r)) (1+(ay r).length) true] (.ret (.sl (ah (ay w)) (ay w).length false)))
  (c1:CO 109 [.sl (ah (ay w)) (ay w).length false,.sl (ah (ay y)) (ay y).length false] (.ret (ω c)))
  (c2:CO 110 [.sl (ah (ay w)) (ay w).length false,.sl (ah (ay y)) (ay y).length false] (.ret (ω (q:Int))))
  (c3:CO 112 [.sl (ah (ay y)) (ay y).length false,ω (q:Int)] (.ret (.sl (ah (ay p)) (ay p).length true)))
  (c4:CO 111 [.sl (ah (ay w)) (ay w).length false,.sl (ah (ay p)) (ay p).length true] (.ret (.sl (ah (ay b)) (ay b).length false))):
  ψ nt f81 ⟨[(11,.sl (ah (ay x)) (ay x).length false),(12,.sl (ah (ay y)) (ay y).length false),(13,.ref 0 0 0 m),(14,.sl (ah (ay r)) (ay r).length false),(15,ω (k:Int))],[(0,⟨ah Q,0,false,0,1,true⟩)],.dead,[]⟩ .normal
   ⟨[(11,.sl (ah (ay x)) (ay x).length false),(12,.sl (ah (ay y)) (ay y).length false),(13,.ref 0 0 0 m),(14,.sl (ah (ay b)) (ay b).length false),(15,ω ((k:Int) - 1))],[(0,⟨ah Q2,0,false,0,1,true⟩)],.dead,[]⟩:=by
 have g:=apz h x y r w q p b m k c Q;have n:γ .i64 ((k:Int) - ((1:Nat):Int))=(k:Int) - 1:=dL (by omega) (by omega);have hset':=PV (l:=Q) (j:=k) (by omega) q;rw [a] at hset';have f:Q2.getD k 0=q:=by rw [← a,ξ,List.getElem?_set_self (by omega)];rfl
 have u:Q2.length=m:=by rw [← a];simp [i]
 have e:μ (1+(ay r).length) (ah (d::ay r))=ah (d::ay r):=by rw [dC,Xqd (by simp;omega)]
 have s:(((0:Nat):Int)≤c)=True:=by simp [t]
 simp (disch:=first|omega|(simp [au,az]<;>omega)) only [aA,χ,υ,hset',fJ,f,eF,dI,bu,aY,bQ,fH,s,decide_true,bF,Jg,hd,bf,KH,e,n] at g;apply g<;>first|exact True.intro|omega|assumption|exact rfl
theorem apB {nt:Nat} (e:87≤nt) (x y r w m k d:Nat) (c:Int) (Q:List Nat) (o:k<(ay x).length) (hd:(ay x).getD k 0=d) (n:Q.length=m) (g:k<m) (l:m<2^40) (i:(ay r).length<2^39) (j:c<0)
  (c0:CO 108 [.sl (ah (d::ay r)) (1+(ay r).length) true] (.ret (.sl (ah (ay w)) (ay w).length false)))
  (c1:CO 109 [.sl (ah (ay w)) (ay w).length false,.sl (ah (ay y)) (ay y).length false] (.ret (ω c))):
  ψ nt f81 ⟨[(11,.sl (ah (ay x)) (ay x).length false),(12,.sl (ah (ay y)) (ay y).length false),(13,.ref 0 0 0 m),(14,.sl (ah (ay r)) (ay r).length false),(15,ω (k:Int))],[(0,⟨ah Q,0,false,0,1,true⟩)],.dead,[]⟩ .normal
   ⟨[(11,.sl (ah (ay x)) (ay x).length false),(12,.sl (ah (ay y)) (ay y).length false),(13,.ref 0 0 0 m),(14,.sl (ah (ay w)) (ay w).length false),(15,ω ((k:Int) - 1))],[(0,⟨ah Q,0,false,0,1,true⟩)],.dead,[]⟩:=by
 have b:=apA e x y r w 0 0 0 m k c Q;have f:γ .i64 ((k:Int) - ((1:Nat):Int))=(k:Int) - 1:=dL (by omega) (by omega);have a:μ (1+(ay r).length) (ah (d::ay r))=ah (d::ay r):=by rw [dC,Xqd (by simp;omega)]
 have h:(((0:Nat):Int)≤c)=False:=by simp [j]
 simp (disch:=first|omega|(simp [au,az]<;>omega)) only [h,decide_false,dP,Xjj,bQ,υ,Jg,decide_true,fH,bu,aA,fJ,hd,eF,dI,aY,bF,bf,KH,a,f] at b;apply b<;>first|exact True.intro|omega|assumption|exact rfl
theorem ZI (x y m k:Nat) (c:0<y) (l:k<m):∃ d r w:Nat,(ay x).getD k 0=d∧x / 16777216^(k+1) % y=r∧d+16777216*r=w∧d<16777216∧r<y∧x / 16777216^k % y=w % y∧(zU x y m (k+1)).set k (w / y)=zU x y m k∧(zU x y m (k+1)).getD k 0=0:=by
 have g:=Xqw (x / 16777216^k) (show 0<16777216 by omega);have h:=Xqw (x / 16777216^(k+1)) c;refine ⟨x / 16777216^k % 16777216,x / 16777216^(k+1) % y,_,UH k x,rfl,rfl,g,h, ?_, ?_, ?_⟩
 ·have b:=Xxc (x / 16777216^(k+1)) y;obtain ⟨_,j⟩:=PL (x:=x / 16777216^k % 16777216) c b.symm;have f:x / 16777216^k % 16777216+16777216*(x / 16777216^(k+1))=x / 16777216^k:=by
   rw [Xq3,← Xxv];omega
  rw [f] at j;exact j
 ·have b:=Xxc (x / 16777216^(k+1)) y;obtain ⟨v1,_⟩:=PL (x:=x / 16777216^k % 16777216) c b.symm;have f:x / 16777216^k % 16777216+16777216*(x / 16777216^(k+1))=x / 16777216^k:=by
   rw [Xq3,← Xxv];omega
  rw [f] at v1;have a:=ZN (x:=x) (y:=y) l;rw [v1] at a;have e:x / 16777216^k % 16777216+16777216*(x / 16777216^(k+1) % y)<y*16777216:=by omega
  have i:(x / 16777216^k % 16777216+16777216*(x / 16777216^(k+1) % y)) / y<16777216:=by rw [Xqt c,Xqa 16777216 y];exact e
  rw [Nat.mul_add_mod,φ i] at a;exact a
 ·unfold zU;rw [ξ];simp [l]
theorem Q8 {w y:Nat} (h:w<y*16777216):(ay w).length≤(ay y).length+1:=by
 apply qY;have a:=vI y;rw [Xq3];exact Xxo h (Xw3 a (by omega))
theorem ZJ {nt:Nat} (E:87≤nt) (x y m k:Nat) (C:0<y) (L:(ay x).length=m) (A:k<m) (J:m<2^35) (I:(ay y).length<2^34):ψ nt f81 (Sz x y m (k+1)) .normal (Sz x y m k):=by
 obtain ⟨d,r,w,hd,K,G,v,D,o,a,g⟩:=ZI x y m k C A;have p:=xI x y m (k+1);unfold Sz;rw [show (((k+1:Nat):Int) - 1)=(k:Int) by omega,K,o];have e:w<y*16777216:=by omega
 have F:=qo (Xwt D);have b:=yS (d::ay r) true (by simp;omega);rw [QE (bz.cons v (bz.dig r))] at b;simp only [dA,fF,G,ν] at b;rw [Xx9 (ay r).length 1] at b;have c:=b.out (jC.sl1 _ _ _);have u:w / y<16777216:=by rw [Xqt C,Xqa];exact e
 have H:=Q8 e;have q:=Qo (ay w) (ay y) false false (bz.dig _) (bz.dig _) (by omega) (by omega);have n:=GL w y;generalize zU x y m k=Q2 at*
 generalize zU x y m (k+1)=Q1 at*
 by_cases hc:0≤Kt (ay w) (ay y)
 ·have f:=n.1.1 hc;have l:=UJ w y false false C e (by omega) (by omega);have t:=Me y (w / y) false u (by omega);have s:y*(w / y)≤w:=Nat.mul_div_le w y;have j:=KY w (y*(w / y)) false true s (by omega);have z:w - y*(w / y)=w % y:=by have:=Xxc w y;omega
  rw [z] at j;exact apC E x y r w (w / y) (y*(w / y)) (w % y) m k d _ Q1 Q2 (by omega) hd p A (by omega) (by omega) a hc c q l t j
 ·have f:w<y:=Xkz (fun h=>hc (n.1.2 h));have B:w / y=0:=Xx4 f;rw [φ f];rw [B] at a;have hsame:Q1.set k 0=Q1:=by
   apply Xju;intro i;rw [Xzi];by_cases hi:k=i
   ·subst hi;rw [ξ,π (by omega)] at g;rw [if_pos rfl,if_pos (by omega),π (by omega)];simpa using g.symm
   ·rw [if_neg hi]
  rw [hsame] at a;subst a;exact apB E x y r w m k d _ Q1 (by omega) hd p A (by omega) (by omega) (by omega) c q
def Ql (x y m k:Nat):St:=⟨[(13,.ref 0 0 0 m),(14,.sl (ah (ay (x / 16777216^k % y))) (ay (x / 16777216^k % y)).length false)],[(0,⟨ah (zU x y m k),0,false,0,1,true⟩)],.dead,[]⟩
theorem ZH {nt:Nat} (c:87≤nt) (x y m:Nat) (e:0<y) (d:(ay x).length=m) (b:m<2^35) (a:(ay y).length<2^34):∀ k,k≤m→aF prog ap [] nt (ae 0 (af f81)) (fun _=> .exit 0) (Sz x y m) (Ql x y m) k 0:=by
 intro k
 induction k with
 |zero=>
  intro _;refine .done ?_;unfold Ql;have h:=aip c x y (x / 16777216^0 % y) 0 0 0 0 m 0 0 (zU x y m 0);exact h
 |succ k ih=>exact fun f=> .next (ZJ c x y m k e d (by omega) b a) (ih (by omega))
theorem H_ {s:List UInt8}:(ay (ag s)).length≤s.length:=by
 apply qY;have h:=jS s;refine Xqg h ?_;rw [show (16777216:Nat)=2^24 from rfl,← Xja];exact Xqj (by omega) (by omega)
theorem rY (s t:List UInt8) (hs:s.length<2^33) (K:t.length<2^33) (h0:0<ag t):CO 81 [.str s,.str t] (.ret (.tup [.str (ai (ag s / ag t)),.str (ai (ag s % ag t)),.bool true])):=by
 have J:=gY t (by omega);have b:=aN (ag t);have B:(ai (ag t)).length≤t.length:=lN (Θ _);have f:ai (ag t) ≠ []:=fun h=>by have:=jm.1 h;omega
 have F:0<(ai (ag t)).length:=by
  cases E:ai (ag t) with
  |nil=>exact absurd E f
  |cons _ _=>simp
 have e:((ai (ag t)).length=0)=False:=by simp;exact f
 have M:((7:Nat):Int)=7:=rfl;by_cases hb:ag s<2^(8*7)∧ag t<2^(8*7)
 ·have d:=jP s 7 (by omega) (by omega) hb.1;have a:=jP (ai (ag t)) 7 (by omega) (by omega) (by rw [b];exact hb.2);rw [b] at a;have v:ag s<9223372036854775808:=Xqg hb.1 (by decide);have x:ag t<9223372036854775808:=Xqg hb.2 (by decide);have I:=Xzz (ag s) (ag t);have G:=Nat.mod_le (ag s) (ag t);have L:=ku (ag s / ag t) (by omega);have H:=ku (ag s % ag t) (by omega);have h:=apy s t (ag s) (ag t) (ag s / ag t) (ag s % ag t);have q:(ag t=0)=False:=by simp;omega
  clear hb hs;simp (disch:=first|omega|(simp [au,az]<;>omega)) only [jJ,q,decide_false,Xjj,e,dP,pO,aX,xg] at h;apply h<;>first|exact True.intro|omega|assumption|exact rfl
 ·have y:=A7 s (by omega);have g:=A7 (ai (ag t)) (by omega);rw [b] at g;have D:=H_ (s:=s);have C:=H_ (s:=t);have hloop:=fun nt (hn:87≤nt)=>ZH hn (ag s) (ag t) _ h0 rfl (by omega) (by omega) _ (Θ _)
  have o:=xI (ag s) (ag t) (ay (ag s)).length 0;have p:dA (zU (ag s) (ag t) (ay (ag s)).length 0)=ag s / ag t:=ZO (Nat.lt_of_le_of_lt (Xzz _ _) (vI _));have l:=uI (zU (ag s) (ag t) (ay (ag s)).length 0) true (by omega) (ZM _ _ _ _);rw [p,o] at l;have r:ag s / 16777216^0 % ag t=ag s % ag t:=by rw [Nat.pow_zero,Nat.div_one]
  have A:=qo (Xwt (Xqw (ag s) h0));have u:=uI (ay (ag s % ag t)) false (by omega) (bz.dig _);rw [fF] at u;have k:ag s / 16777216^(ay (ag s)).length % ag t=0:=by rw [Xx4 (vI _),Nat.zero_mod]
  have j:γ .i64 ((((ay (ag s)).length:Nat):Int) - ((1:Nat):Int))=((ay (ag s)).length:Int) - 1:=Ed (by omega);have c:Ql (ag s) (ag t) (ay (ag s)).length 0=⟨[(13,.ref 0 0 0 (ay (ag s)).length),(14,.sl (ah (ay (ag s % ag t))) (ay (ag s % ag t)).length false)],[(0,⟨ah (zU (ag s) (ag t) (ay (ag s)).length 0),0,false,0,1,true⟩)],.dead,[]⟩:=by unfold Ql;rw [r]
  have w:(ay (ag s)).length<2^35:=by omega
  have i:μ (ay (ag s)).length (ah (zU (ag s) (ag t) (ay (ag s)).length 0))=ah (zU (ag s) (ag t) (ay (ag s)).length 0):=by rw [dC,Xqd (by omega)]
  by_cases hx:ag s<2^(8*7)
  ·have z:2^(8*7)≤ag t:=by
    rcases Xq9 (ag t) (2^(8*7)) with h|h
    ·exact absurd ⟨hx,h⟩ hb
    ·exact h
   have d:=jP s 7 (by omega) (by omega) hx;have a:=kZ (ai (ag t)) 7 (by omega) (by rw [b];exact z);clear hb hx z;have h:=apx s t (ag s) 0 (ag s / ag t) (ag s % ag t) (ay (ag s)).length (zU (ag s) (ag t) (ay (ag s)).length 0) 0 true;rw [b] at h;simp (disch:=first|omega|(simp [au,az]<;>omega)) only [dI,bu,decide_true,jJ,e,decide_false,dP,Xjj,aA,j,yO,υ,i] at h;apply h<;>first|exact True.intro|omega|assumption|exact rfl|skip
   ·refine aF.blkF hloop (by simp) rfl ?_ (by rw [c];exact qh.refl _);unfold Sz;rw [Ht,k,gm];exact qh.of ⟨aZ.refl _,aZ.refl _,aZ.refl _,aZ.nilS false rfl,aZ.refl _,trivial⟩
  ·have d:=kZ s 7 (by omega) (Nat.le_of_not_lt hx);have a:∃ m n,CO 77 [.str (ai (ag t)),ω 7] (.ret (.tup [ω m,.bool n])):=by
    rcases Xq9 (ag t) (2^(8*7)) with h|h
    ·exact ⟨_,_,jP (ai (ag t)) 7 (by omega) (by omega) (by rw [b];exact h)⟩
    ·exact ⟨_,_,kZ (ai (ag t)) 7 (by omega) (by rw [b];exact h)⟩
   obtain ⟨m,n,a⟩:=a;clear hb hx;have h:=apw s t 0 0 (ag s / ag t) (ag s % ag t) (ay (ag s)).length (zU (ag s) (ag t) (ay (ag s)).length 0) m n;rw [b] at h;simp (disch:=first|omega|(simp [au,az]<;>omega)) only [dI,bu,decide_true,jJ,e,decide_false,dP,Xjj,aA,j,yO,υ,i] at h;apply h<;>first|exact True.intro|omega|assumption|exact rfl|skip
   ·refine aF.blkF hloop (by simp) rfl ?_ (by rw [c];exact qh.refl _);unfold Sz;rw [Ht,k,gm];exact qh.of ⟨aZ.refl _,aZ.refl _,aZ.refl _,aZ.nilS false rfl,aZ.refl _,trivial⟩
theorem ai2 {nt:Nat} (a:25≤nt) (s t q r:List UInt8) (h0:lit true (decide (((0:Nat):Int)<(((ζ t):Nat):Int)))=true) (b:CO 81 [.str s,.str t] (.ret (.tup [.str q,.str r,.bool true]))):ψ nt f80 ⟨[(0,.str s),(1,.str t)],[],.dead,[]⟩ (.normal) ⟨[(0,.str t),(1,.str r)],[],.dead,[]⟩:=pJ 80 [] 1 1 (.c h0 .nil) (.c b .nil) a
theorem ai3 {nt:Nat} (a:25≤nt) (s t q r:List UInt8) (h0:lit false (decide (((0:Nat):Int)<(((ζ t):Nat):Int)))=true):ψ nt f80 ⟨[(0,.str s),(1,.str t)],[],.dead,[]⟩ (.exit 0) ⟨[(0,.str s)],[],.dead,[]⟩:=pJ 80 [] 1 0 (.c h0 .nil) (.nil) a
theorem ai0 (s t g:List UInt8) (c:CO 76 [.str s] (.ret (.str (ai (ag s))))) (b:CO 76 [.str t] (.ret (.str (ai (ag t))))) (a:aI prog ap [] 25 (.block 0 (.loop (ae 0 (af f80)))) ⟨[(0,.str (ai (ag s))),(1,.str (ai (ag t))),(4,.str []),(6,.dead),(14,.dead)],[],.dead,[]⟩ (.normal) ⟨[(0,.str g)],[],.dead,[]⟩):CO 80 [.str s,.str t] (.ret (.str g)):=pK [0] 0 0 .nil (.l a (.c b (.c c .nil)))
def ai1 (p:Nat × Nat):St:=⟨[(0,.str (ai p.1)),(1,.str (ai p.2))],[],.dead,[]⟩
def abx (x:Nat):St:=⟨[(0,.str (ai x))],[],.dead,[]⟩
theorem SK {nt:Nat} (d:25≤nt):∀ (n y x:Nat),y<n→(ai x).length<2^33→(ai y).length<2^33→aF prog ap [] nt (ae 0 (af f80)) (fun _=> .exit 0) ai1 abx (x,y) (Xxu x y):=by
 intro n
 induction n with
 |zero=>intro y x h;omega
 | succ n ih=>
  intro y x h g e;rcases Xqb y with rfl|h0
  ·rw [Nat.gcd_zero_right];refine .done ?_;unfold ai1 abx;rw [fK];exact ai3 d (ai x) [] [] [] rfl
  ·have i:=Xqw x h0;have f:(ai (x % y)).length<2^33:=by
    have:x % y≤ag (ai y):=by rw [aN];omega
    have:=lN this;omega
   have hnext:=ih (x % y) y (by omega) e f;rw [show Xxu y (x % y)=Xxu x y by rw [Xvy y,← Nat.gcd_rec,Xvy]] at hnext;refine .next ?_ hnext
   have b:=rY (ai x) (ai y) g e (by rw [aN];exact h0);rw [aN,aN] at b;have c:ai y ≠ []:=fun h=>by have:=jm.1 h;omega
   have a:0<(ai y).length:=by
    cases b:ai y with
    |nil=>exact absurd b c
    |cons _ _=>simp
   exact ai2 d (ai x) (ai y) _ _ (by rw [aY,bF];exact Yq0 a) b
theorem Qs (s t:List UInt8) (hs:s.length<2^33) (b:t.length<2^33):CO 80 [.str s,.str t] (.ret (.str (ai (Xxu (ag s) (ag t))))):=by
 have d:(ai (ag s)).length≤s.length:=lN (Θ _);have c:(ai (ag t)).length≤t.length:=lN (Θ _);exact ai0 s t _ (gY s (by omega)) (gY t (by omega)) (aF.blk (fun nt a=>SK a (ag t+1) (ag t) (ag s) (by omega) (by omega) (by omega)) (by simp) rfl (aJ.of ⟨rfl,rfl,trivial⟩) (aJ.of ⟨rfl,trivial⟩))
theorem aib (a:Bool) (n d:List UInt8) (g:Nat) (h0:lit true (!(nR n))=true) (c:CO 128 [.str n] (.ret (.bool (nR n)))) (b:CO 128 [.str d] (.ret (.bool (nR d)))):CO 104 [Ω a n d] (.ret (.bool false)):=pK [] 3 7 (.k 2 h0 (.n 2 .nil)) (.c b (.c c .nil))
theorem aic (a:Bool) (n d:List UInt8) (g:Nat) (h0:lit true (!(nR d))=true) (c:lit false (!(nR n))=true) (e:CO 128 [.str n] (.ret (.bool (nR n)))) (b:CO 128 [.str d] (.ret (.bool (nR d)))):CO 104 [Ω a n d] (.ret (.bool false)):=pK [] 3 6 (.k 1 h0 (.c c (.n 2 .nil))) (.c b (.c e .nil))
theorem aid (a:Bool) (n d:List UInt8) (g:Nat) (h0:lit true (d== [])=true) (c:lit false (!(nR d))=true) (f:lit false (!(nR n))=true) (e:CO 128 [.str n] (.ret (.bool (nR n)))) (b:CO 128 [.str d] (.ret (.bool (nR d)))):CO 104 [Ω a n d] (.ret (.bool false)):=pK [] 3 4 (.c h0 (.k 1 c (.c f (.n 2 .nil)))) (.c b (.c e .nil))
theorem aie (a:Bool) (n d:List UInt8) (g:Nat) (h0:lit true (!a)=true) (e:lit true (n== [])=true) (j:lit false (d== [])=true) (k:lit false (!(nR d))=true) (b:lit false (!(nR n))=true) (i:CO 128 [.str n] (.ret (.bool (nR n)))) (c:CO 128 [.str d] (.ret (.bool (nR d)))) (h:CO 49 [ω 1] (.ret (.str (ai 1)))) (f:CO 118 [.str d,.str (ai 1)] (.ret (ω (lU (ag d) (ag (ai 1)))))):CO 104 [Ω a n d] (.ret (.bool ((lU (ag d) (ag (ai 1)))==((0:Nat):Int)))):=pK [] 5 24 (.k 1 h0 (.k 1 e (.k 1 j (.k 1 k (.c b (.n 2 .nil)))))) (.c f (.c h (.c c (.c i .nil))))
theorem aif (a:Bool) (n d:List UInt8) (g:Nat) (h0:lit false (!a)=true) (e:lit true (n== [])=true) (h:lit false (d== [])=true) (i:lit false (!(nR d))=true) (b:lit false (!(nR n))=true) (f:CO 128 [.str n] (.ret (.bool (nR n)))) (c:CO 128 [.str d] (.ret (.bool (nR d)))):CO 104 [Ω a n d] (.ret (.bool false)):=pK [] 5 8 (.c h0 (.k 1 e (.k 1 h (.k 1 i (.c b (.n 2 .nil)))))) (.c c (.c f .nil))
theorem aig (a:Bool) (n d:List UInt8) (g:Nat) (h0:lit false (n== [])=true) (c:lit false (d== [])=true) (i:lit false (!(nR d))=true) (j:lit false (!(nR n))=true) (h:CO 128 [.str n] (.ret (.bool (nR n)))) (b:CO 128 [.str d] (.ret (.bool (nR d)))) (f:CO 80 [.str n,.str d] (.ret (.str (ai g)))) (e:CO 49 [ω 1] (.ret (.str (ai 1)))) (k:CO 118 [.str (ai g),.str (ai 1)] (.ret (ω (lU (ag (ai g)) (ag (ai 1)))))):CO 104 [Ω a n d] (.ret (.bool ((lU (ag (ai g)) (ag (ai 1)))==((0:Nat):Int)))):=pK [] 4 0 (.k 2 h0 (.k 1 c (.k 1 i (.c j (.n 2 .nil))))) (.c k (.c e (.c f (.c b (.c h .nil)))))
theorem ah8 (a:Bool) (n d:List UInt8) (g:Nat) (h0:lit true (n== [])=true) (b:CO 49 [ω 1] (.ret (.str (ai 1)))):CO 51 [.bool a,.str n,.str d] (.ret (Ω false [] (ai 1))):=pK [] 1 1 (.k 4 h0 .nil) (.c b .nil)
theorem ah9 (a:Bool) (n d:List UInt8) (g:Nat) (h0:lit false (n== [])=true) (e:CO 80 [.str n,.str d] (.ret (.str (ai g)))) (b:CO 81 [.str n,.str (ai g)] (.ret (.tup [.str (ai (ag n / g)),.str (ai (ag n % g)),.bool true]))) (c:CO 81 [.str d,.str (ai g)] (.ret (.tup [.str (ai (ag d / g)),.str (ai (ag d % g)),.bool true]))):CO 51 [.bool a,.str n,.str d] (.ret (Ω a (ai (ag n / g)) (ai (ag d / g)))):=pK [] 1 0 (.k 4 h0 .nil) (.c c (.c b (.c e .nil)))
theorem ah5 (a:Bool) (n d:List UInt8) (h0:lit true (decide ((((fE (ag n)):Nat):Int)≤((400:Nat):Int)))=true) (c:lit true (iR a n d)=true) (f:CO 104 [Ω a n d] (.ret (.bool (iR a n d)))) (b:CO 133 [.str n] (.ret (ω (((fE (ag n)):Nat):Int)))) (e:CO 133 [.str d] (.ret (ω (((fE (ag d)):Nat):Int)))):CO 105 [Ω a n d] (.ret (.bool (decide ((((fE (ag d)):Nat):Int)≤((400:Nat):Int))))):=pK [] 2 3 (.k 1 h0 (.k 1 c (.n 3 .nil))) (.c e (.c b (.c f .nil)))
theorem ah6 (a:Bool) (n d:List UInt8) (h0:lit false (decide ((((fE (ag n)):Nat):Int)≤((400:Nat):Int)))=true) (c:lit true (iR a n d)=true) (e:CO 104 [Ω a n d] (.ret (.bool (iR a n d)))) (b:CO 133 [.str n] (.ret (ω (((fE (ag n)):Nat):Int)))):CO 105 [Ω a n d] (.ret (.bool false)):=pK [] 2 1 (.c h0 (.k 1 c (.n 3 .nil))) (.c b (.c e .nil))
theorem ah7 (a:Bool) (n d:List UInt8) (h0:lit false (iR a n d)=true) (b:CO 104 [Ω a n d] (.ret (.bool (iR a n d)))):CO 105 [Ω a n d] (.ret (.bool false)):=pK [] 2 0 (.k 1 h0 (.n 3 .nil)) (.c b .nil)
theorem aik (a:Bool) (n d:List UInt8) (h0:lit true (!(iR a n d))=true) (c:CO 104 [Ω a n d] (.ret (.bool (iR a n d)))) (b:CO 49 [ω 1] (.ret (.str (ai 1)))):CO 70 [Ω a n d] (.ret (Ω false [] (ai 1))):=pK [] 1 1 (.k 4 h0 (.n 3 .nil)) (.c b (.c c .nil))
theorem ail (a:Bool) (n d:List UInt8) (h0:lit false (!(iR a n d))=true) (b:CO 104 [Ω a n d] (.ret (.bool (iR a n d)))):CO 70 [Ω a n d] (.ret (Ω a n d)):=pK [] 1 0 (.k 7 h0 (.n 3 .nil)) (.c b .nil)
theorem ah_ (v:Int) (x z:Nat) (h0:lit true (decide (((0:Nat):Int)≤v))=true) (b:CO 49 [ω v] (.ret (.str (ai z)))) (a:CO 49 [ω 1] (.ret (.str (ai 1)))):CO 36 [ω v] (.ret (Ω false (ai z) (ai 1))):=pK [] 1 1 (.k 4 h0 .nil) (.c a (.c b .nil))
theorem aih (a e:Bool) (n d b f:List UInt8) (h0:lit true (b== [])=true) (c:CO 70 [Ω a n d] (.ret (Ω e b f))):CO 45 [Ω a n d] (.ret (ω 0)):=pK [] 1 1 (.c h0 (.n 5 .nil)) (.c c .nil)
theorem aii (a c:Bool) (n d b g:List UInt8) (h0:lit true c=true) (e:lit false (b== [])=true) (f:CO 70 [Ω a n d] (.ret (Ω c b g))):CO 45 [Ω a n d] (.ret (ω (-1))):=pK [] 2 2 (.c h0 (.k 1 e (.n 5 .nil))) (.c f .nil)
theorem aij (a c:Bool) (n d b g:List UInt8) (h0:lit false c=true) (e:lit false (b== [])=true) (f:CO 70 [Ω a n d] (.ret (Ω c b g))):CO 45 [Ω a n d] (.ret (ω 1)):=pK [] 2 0 (.c h0 (.k 1 e (.n 5 .nil))) (.c f .nil)
theorem aew (s t:List UInt8) (x y z:Nat) (c:CO 77 [.str s,ω 3] (.ret (.tup [ω (x:Int),.bool true]))) (a:CO 77 [.str t,ω 4] (.ret (.tup [ω (y:Int),.bool true]))) (b:CO 49 [ω (γ .i64 ((x:Int)*(y:Int)))] (.ret (.str (ai z)))):CO 50 [.str s,.str t] (.ret (.str (ai z))):=pK [] 2 3 (.n 2 .nil) (.c b (.c a (.c c .nil)))
theorem Qy {x:Nat}:((lU x (ag (ai 1)))==((0:Nat):Int))=decide (x=1):=by
 rw [aN];unfold lU;rcases Xzk x 1 with h|h|h
 ·rw [if_pos h,Yq1 (by omega)];rfl
 ·rw [if_neg (by omega),if_neg (by omega),Yq0 h];rfl
 ·rw [if_neg (by omega),if_pos h,Yq1 (by omega)];rfl
theorem rQ (a:Bool) (n d:List UInt8) (t:n.length<2^33) (hd:d.length<2^33):CO 104 [Ω a n d] (.ret (.bool (iR a n d))):=by
 have i:=xM n;have j:=xM d;have s:=ku 1 (by omega);have x:(ai 1).length≤1:=jM (by omega);have v:=Jt d (ai 1) (by omega) (by omega);have u:=Qs n d t hd;have l:=@Qy (ag d);cases b:nR n with
 |false=>
  have e:iR a n d=false:=by unfold iR;rw [b];rfl
  rw [e];exact aib a n d 0 (by rw [b];rfl) i j
 | true=>
  cases c:nR d with
  |false=>
   have e:iR a n d=false:=by unfold iR;rw [c];simp
   rw [e];exact aic a n d 0 (by rw [c];rfl) (by rw [b];rfl) i j
  | true=>
   have q:=(rG n).1 b;have r:=(rG d).1 c;by_cases hd0:d= []
   ·have e:iR a n d=false:=by
     subst hd0;unfold iR;simp [show ag []=0 from rfl]
    rw [e];exact aid a n d 0 (by rw [hd0];rfl) (by rw [c];rfl) (by rw [b];rfl) i j
   ·have k:0<ag d:=by
     rcases Xqb (ag d) with h|h
     ·rw [h,fK] at r;exact absurd r.symm hd0
     ·exact h
    have g:(d== [])=false:=by simpa using hd0
    by_cases hn0:n= []
    ·have f:(n== [])=true:=by simpa using hn0
     have o:ag n=0:=by rw [hn0];rfl
     cases a with
     | false=>
      have h:=aie false n d 0 rfl (by rw [f];rfl) (by rw [g];rfl) (by rw [c];rfl) (by rw [b];rfl) i j s v;rw [l] at h;have e:iR false n d=decide (ag d=1):=by
       rw [Xx6,lJ,o,Xwm];simp [b,c];omega
      rw [e];exact h
     | true=>
      have h:=aif true n d 0 rfl (by rw [f];rfl) (by rw [g];rfl) (by rw [c];rfl) (by rw [b];rfl) i j;have e:iR true n d=false:=by
       rw [Bool.eq_false_iff];intro h;have:=(lJ.1 h).2.2.2.2 rfl;omega
      rw [e];exact h
    ·have f:(n== [])=false:=by simpa using hn0
     have m:0<ag n:=by
      rcases Xqb (ag n) with h|h
      ·rw [h,fK] at q;exact absurd q.symm hn0
      ·exact h
     have w:(ai (Xxu (ag n) (ag d))).length≤d.length:=lN (Xww _ k);have p:=Jt (ai (Xxu (ag n) (ag d))) (ai 1) (by omega) (by omega);have h:=aig a n d (Xxu (ag n) (ag d)) (by rw [f];rfl) (by rw [g];rfl) (by rw [c];rfl) (by rw [b];rfl) i j u s p;rw [Qy,aN] at h;have e:iR a n d=decide (Xxu (ag n) (ag d)=1):=by
      rw [Xx6,lJ];simp [b,c,k,m]
     rw [e];exact h
theorem iK (a:Bool) (n d:List UInt8) (f:n.length<2^33) (hd:d.length<2^33):CO 105 [Ω a n d] (.ret (.bool (jf a n d))):=by
 have b:=rQ a n d f hd;have e:=LC n (by omega);have g:=LC d (by omega);unfold jf;cases c:iR a n d with
 |false=>exact ah7 a n d (by rw [c];rfl) b
 | true=>
  by_cases h3:fE (ag n)≤400
  ·have h:=ah5 a n d (by rw [dI,Yq0 h3];rfl) (by rw [c];rfl) b e g;rw [dI] at h;rw [Yq0 h3];exact h
  ·have h:=ah6 a n d (by rw [dI,Yq1 h3];rfl) (by rw [c];rfl) b e;rw [Yq1 h3];exact h
structure RQ where
 neg:Bool
 n:Nat
 d:Nat
def RQ.ok (q:RQ):Prop:=0<q.d∧Xxu q.n q.d=1∧(q.neg=true→0<q.n)
def qA (q:RQ):AV:= .agg [.bool q.neg,.str (ai q.n),.str (ai q.d)]
def q0:RQ:=⟨false,0,1⟩
def Eo (neg:Bool) (n d:Nat):RQ:=⟨neg && decide (0<n),n / Xxu n d,d / Xxu n d⟩
def vQ (neg:Bool) (n d:List UInt8):RQ:=if iR neg n d=true then ⟨neg,ag n,ag d⟩ else q0
theorem ah4:q0.ok:=⟨by decide,by decide,by simp [q0]⟩
theorem acN (q:RQ) (h:q.ok):iR q.neg (ai q.n) (ai q.d)=true:=by
 rw [lJ,aN,aN];exact ⟨BV _,BV _,h⟩
theorem PX {a:Bool} {n d:List UInt8} (h:iR a n d=true):Ω a n d=qA ⟨a,ag n,ag d⟩:=by
 obtain ⟨c,b,_⟩:=lJ.1 h;unfold qA;rw [(rG n).1 c,(rG d).1 b]
theorem uZ (a:Bool) (n d:List UInt8):(vQ a n d).ok:=by
 unfold vQ;split
 ·rename_i h;obtain ⟨_,_,e,b,c⟩:=lJ.1 h;exact ⟨e,b,c⟩
 ·exact ah4
theorem Jd {b:Bool} {n d:Nat} (h:0<d):(Eo b n d).ok:=by
 have a:0<Xxu n d:=Xzj _ h;refine ⟨Xvl (Xww _ h) a, ?_, ?_⟩
 ·show Xxu (n / Xxu n d) (d / Xxu n d)=1;rw [Nat.gcd_div (Nat.gcd_dvd_left _ _) (Nat.gcd_dvd_right _ _),Yxh a]
 ·intro c;have:0<n:=by simp [Eo] at c;exact c.2
  exact Xvl (Nat.gcd_le_left _ this) a
theorem iY (a:Bool) (n d:List UInt8) (e:n.length<2^33) (hd:d.length<2^33):CO 70 [Ω a n d] (.ret (qA (vQ a n d))):=by
 have c:=rQ a n d e hd;unfold vQ;cases b:iR a n d with
 |false=>
  have h:=aik a n d (by rw [b];rfl) c (ku 1 (by omega));rw [if_neg (by simp)];unfold qA q0;rw [fK];exact h
 |true=>
  have h:=ail a n d (by rw [b];rfl) c;rw [if_pos rfl,← PX b];exact h
theorem iW (a:Bool) (n d:Nat) (e:(ai n).length<2^33) (hd:(ai d).length<2^33) (h0:0<d):CO 51 [.bool a,.str (ai n),.str (ai d)] (.ret (qA (Eo a n d))):=by
 have f:=Qs (ai n) (ai d) e hd;rw [aN,aN] at f;have b:0<Xxu n d:=Xzj _ h0;have j:(ai (Xxu n d)).length≤(ai d).length:=lN (by rw [aN];exact Xww _ h0);have i:=rY (ai n) (ai (Xxu n d)) e (by omega) (by rw [aN];exact b);have g:=rY (ai d) (ai (Xxu n d)) hd (by omega) (by rw [aN];exact b);simp only [aN] at i g;rcases Xqb n with rfl|hp
 ·have h:=ah8 a (ai 0) (ai d) 0 (by rw [fK];rfl) (ku 1 (by omega));unfold qA Eo;simp only [Xvm,decide_false,Bool.and_false,Xwm,Nat.zero_div,Yxh h0,fK];rw [fK] at h;exact h
 ·have c:ai n ≠ []:=fun h=>by have:=jm.1 h;omega
  have h:=ah9 a (ai n) (ai d) (Xxu n d) (by simp [lit,c]);simp only [aN] at h;unfold qA Eo;simp only [hp,decide_true,Bool.and_true];exact h f i g
def Gm (q:RQ):Int:=if q.n=0 then 0 else if q.neg then -1 else 1
theorem OE (a:Bool) (n d:List UInt8):gz a n d=Gm (vQ a n d):=by
 unfold gz Gm vQ;cases c:iR a n d with
 |false=>simp [q0]
 | true=>
  simp only [true_and,if_true];by_cases h:0<ag n
  ·have b:¬ ag n=0:=by omega
   simp [h,b]
  ·have b:ag n=0:=by omega
   simp [b]
theorem qM (a:Bool) (n d:List UInt8) (g:n.length<2^33) (hd:d.length<2^33):CO 45 [Ω a n d] (.ret (ω (gz a n d))):=by
 have c:=iY a n d g hd;rw [OE];generalize vQ a n d=q at*
 obtain ⟨f,N,D⟩:=q;unfold qA at c;unfold Gm;simp only at c ⊢;rcases Xqb N with rfl|hp
 ·rw [if_pos rfl];exact aih a f n d (ai 0) (ai D) (by rw [fK];rfl) c
 ·have e:ai N ≠ []:=fun h=>by have:=jm.1 h;omega
  have b:(ai N== [])=false:=by simpa using e
  rw [if_neg (by omega)];cases f with
  |true=>exact aii a true n d (ai N) (ai D) rfl (by rw [b];rfl) c
  |false=>exact aij a false n d (ai N) (ai D) rfl (by rw [b];rfl) c
def uj (neg:Bool) (n d:List UInt8) (a:Nat):Bool:=((neg==false) && ((n==(ai a)) && ((d==(ai 1)) && true)))
theorem Sv (a:Nat) (b:a<9223372036854775808):CO 36 [ω (a:Int)] (.ret (Ov false a 1)):=
 ah_ (a:Int) 0 a (by simp [lit]) (ku a b) (ku 1 (by omega))
theorem abv:CO 36 [ω 0] (.ret (Ov false 0 1)):=Sv 0 (by omega)
theorem aia:CO 36 [ω 1] (.ret (Ov false 1 1)):=Sv 1 (by omega)
def QU:List UInt8:= [97,98,99,100,101,102,103,104,105,106,107,108,109,110,111,112,113,114,115,116,117,118,119,120,121,122,48,49,50,51,52,53,54,55,56,57,95]
def Ip:List AV:= [.bool false,.bool false,.bool false,.bool false,.bool false,.bool false,.bool false,.bool false,.bool false,.bool false,.bool false,.bool false,.bool false,.bool false,.bool false,.bool false,.bool false,.bool false,.bool false,.bool false,.bool false,.bool false,.bool false,.bool false,.bool false,.bool false,.bool false,.bool false,.bool false,.bool false,.bool false,.bool false,.bool false,.bool false,.bool false,.bool false,.bool false,.bool false,.bool false,.bool false,.bool false,.bool false,.bool false,.bool false,.bool false,.bool false,.bool false,.bool false,.bool true,.bool true,.bool true,.bool true,.bool true,.bool true,.bool true,.bool true,.bool true,.bool true,.bool false,.bool false,.bool false,.bool false,.bool false,.bool false,.bool false,.bool false,.bool false,.bool false,.bool false,.bool false,.bool false,.bool false,.bool false,.bool false,.bool false,.bool false,.bool false,.bool false,.bool false,.bool false,.bool false,.bool false,.bool false,.bool false,.bool false,.bool false,.bool false,.bool false,.bool false,.bool false,.bool false,.bool false,.bool false,.bool false,.bool false,.bool true,.bool false,.bool true,.bool true,.bool true,.bool true,.bool true,.bool true,.bool true,.bool true,.bool true,.bool true,.bool true,.bool true,.bool true,.bool true,.bool true,.bool true,.bool true,.bool true,.bool true,.bool true,.bool true,.bool true,.bool true,.bool true,.bool true,.bool true,.bool false,.bool false,.bool false,.bool false,.bool false,.bool false,.bool false,.bool false,.bool false,.bool false,.bool false,.bool false,.bool false,.bool false,.bool false,.bool false,.bool false,.bool false,.bool false,.bool false,.bool false,.bool false,.bool false,.bool false,.bool false,.bool false,.bool false,.bool false,.bool false,.bool false,.bool false,.bool false,.bool false,.bool false,.bool false,.bool false,.bool false,.bool false,.bool false,.bool false,.bool false,.bool false,.bool false,.bool false,.bool false,.bool false,.bool false,.bool false,.bool false,.bool false,.bool false,.bool false,.bool false,.bool false,.bool false,.bool false,.bool false,.bool false,.bool false,.bool false,.bool false,.bool false,.bool false,.bool false,.bool false,.bool false,.bool false,.bool false,.bool false,.bool false,.bool false,.bool false,.bool false,.bool false,.bool false,.bool false,.bool false,.bool false,.bool false,.bool false,.bool false,.bool false,.bool false,.bool false,.bool false,.bool false,.bool false,.bool false,.bool false,.bool false,.bool false,.bool false,.bool false,.bool false,.bool false,.bool false,.bool false,.bool false,.bool false,.bool false,.bool false,.bool false,.bool false,.bool false,.bool false,.bool false,.bool false,.bool false,.bool false,.bool false,.bool false,.bool false,.bool false,.bool false,.bool false,.bool false,.bool false,.bool false,.bool false,.bool false,.bool false,.bool false,.bool false,.bool false,.bool false,.bool false,.bool false,.bool false,.bool false,.bool false,.bool false,.bool false,.bool false]
theorem ab6:CO 143 [.str QU] (.ret (.tup [.agg Ip,.bool true])):=GK IU (lf:=3000) (n:=4) (ans:= []) .nil (by kernel_rfl)
theorem af2 (a:List AV) (c:Nat) (h0:(chk .bool (η (ε (0+((δ (c:Int))*1)) a) .dead))=true) (d:(decide (((0:Nat):Int)≤(c:Int)))=true) (b:(decide ((c:Int)<((256:Nat):Int)))=true):CO 166 [.pp a 0,.int .u8 (c:Int)] (.ret (.bool (Xv2 (η (ε (0+((δ (c:Int))*1)) a) .dead)))):=pK [] 0 0 (.c h0 (.c d (.c b .nil))) (.nil)
theorem apW {nt:Nat} (c:16≤nt) (s:List UInt8) (a:List AV) (b:Bool) (h0:lit true (!b)=true) (f:(decide (((0:Nat):Int)<(((ζ s):Nat):Int)))=true) (e:lit true (decide (((0:Nat):Int)<(((ζ s):Nat):Int)))=true) (d:CO 166 [.pp a 0,.int .u8 ((Φ (Xql s 0 0):Nat):Int)] (.ret (.bool b))):ψ nt f144 ⟨[(0,.str s),(1,.pp a 0)],[],.dead,[]⟩ (.exit 0) ⟨[(0,.str s)],[],.dead,[]⟩:=pJ 144 [] 2 3 (.c h0 (.k 1 f (.c e .nil))) (.c d .nil) c
theorem apX {nt:Nat} (c:16≤nt) (s:List UInt8) (a:List AV) (b:Bool) (h0:(decide (((1:Nat):Int)≤(((ζ s):Nat):Int)))=true) (g:(decide ((((ζ s):Nat):Int)≤(((ζ s):Nat):Int)))=true) (f:lit false (!b)=true) (h:(decide (((0:Nat):Int)<(((ζ s):Nat):Int)))=true) (d:lit true (decide (((0:Nat):Int)<(((ζ s):Nat):Int)))=true) (e:CO 166 [.pp a 0,.int .u8 ((Φ (Xql s 0 0):Nat):Int)] (.ret (.bool b))):ψ nt f144 ⟨[(0,.str s),(1,.pp a 0)],[],.dead,[]⟩ (.normal) ⟨[(0,.str (ε 1 (μ (δ (((ζ s):Nat):Int)) s))),(1,.pp a 0)],[],.dead,[]⟩:=pJ 144 [] 2 1 (.k 1 h0 (.c g (.c f (.k 1 h (.c d .nil))))) (.c e .nil) c
theorem apY {nt:Nat} (a:16≤nt) (s:List UInt8) (c:List AV) (b:Bool) (h0:lit false (decide (((0:Nat):Int)<(((ζ s):Nat):Int)))=true):ψ nt f144 ⟨[(0,.str s),(1,.pp c 0)],[],.dead,[]⟩ (.exit 0) ⟨[(0,.str s)],[],.dead,[]⟩:=pJ 144 [] 1 0 (.c h0 .nil) (.nil) a
theorem akf (s r:List UInt8) (a:List AV) (b:aI prog ap [] 16 (.block 0 (.loop (ae 0 (af f144)))) ⟨[(0,.str s),(1,.pp a 0),(4,.str []),(7,.dead),(12,.dead)],[],.dead,[]⟩ (.normal) ⟨[(0,.str r)],[],.dead,[]⟩):CO 144 [.str s,.pp a 0] (.ret (.str r)):=pK [0] 0 0 .nil (.l b .nil)
theorem apZ {nt:Nat} (c:22≤nt) (s:List UInt8) (a:List AV) (b:Bool) (h0:lit true (!b)=true) (f:(decide (((0:Nat):Int)≤(γ .i64 ((((ζ s):Nat):Int) - ((1:Nat):Int)))))=true) (e:(decide ((γ .i64 ((((ζ s):Nat):Int) - ((1:Nat):Int)))<(((ζ s):Nat):Int)))=true) (g:lit true (decide (((0:Nat):Int)<(((ζ s):Nat):Int)))=true) (d:CO 166 [.pp a 0,.int .u8 ((Φ (Xql s (δ (γ .i64 ((((ζ s):Nat):Int) - ((1:Nat):Int)))) 0):Nat):Int)] (.ret (.bool b))):ψ nt f145 ⟨[(0,.str s),(1,.pp a 0)],[],.dead,[]⟩ (.exit 0) ⟨[(0,.str s)],[],.dead,[]⟩:=pJ 145 [] 2 3 (.c h0 (.c f (.c e (.c g .nil)))) (.c d .nil) c
theorem ap0 {nt:Nat} (c:22≤nt) (s:List UInt8) (a:List AV) (b:Bool) (h0:(decide (((0:Nat):Int)≤(γ .i64 ((((ζ s):Nat):Int) - ((1:Nat):Int)))))=true) (g:(decide ((γ .i64 ((((ζ s):Nat):Int) - ((1:Nat):Int)))≤(((ζ s):Nat):Int)))=true) (f:lit false (!b)=true) (h:(decide ((γ .i64 ((((ζ s):Nat):Int) - ((1:Nat):Int)))<(((ζ s):Nat):Int)))=true) (d:lit true (decide (((0:Nat):Int)<(((ζ s):Nat):Int)))=true) (e:CO 166 [.pp a 0,.int .u8 ((Φ (Xql s (δ (γ .i64 ((((ζ s):Nat):Int) - ((1:Nat):Int)))) 0):Nat):Int)] (.ret (.bool b))):ψ nt f145 ⟨[(0,.str s),(1,.pp a 0)],[],.dead,[]⟩ (.normal) ⟨[(0,.str (ε 0 (μ (δ (γ .i64 ((((ζ s):Nat):Int) - ((1:Nat):Int)))) s))),(1,.pp a 0)],[],.dead,[]⟩:=pJ 145 [] 2 1 (.k 1 h0 (.c g (.c f (.c h0 (.c h (.c d .nil)))))) (.c e .nil) c
theorem ap1 {nt:Nat} (a:22≤nt) (s:List UInt8) (c:List AV) (b:Bool) (h0:lit false (decide (((0:Nat):Int)<(((ζ s):Nat):Int)))=true):ψ nt f145 ⟨[(0,.str s),(1,.pp c 0)],[],.dead,[]⟩ (.exit 0) ⟨[(0,.str s)],[],.dead,[]⟩:=pJ 145 [] 1 0 (.c h0 .nil) (.nil) a
theorem aki (s r:List UInt8) (a:List AV) (b:aI prog ap [] 22 (.block 0 (.loop (ae 0 (af f145)))) ⟨[(0,.str s),(1,.pp a 0),(4,.str []),(7,.dead),(15,.dead)],[],.dead,[]⟩ (.normal) ⟨[(0,.str r)],[],.dead,[]⟩):CO 145 [.str s,.pp a 0] (.ret (.str r)):=pK [0] 0 0 .nil (.l b .nil)
def ab4:List Bool:= [false,false,false,false,false,false,false,false,false,false,false,false,false,false,false,false,false,false,false,false,false,false,false,false,false,false,false,false,false,false,false,false,false,false,false,false,false,false,false,false,false,false,false,false,false,false,false,false,true,true,true,true,true,true,true,true,true,true,false,false,false,false,false,false,false,false,false,false,false,false,false,false,false,false,false,false,false,false,false,false,false,false,false,false,false,false,false,false,false,false,false,false,false,false,false,true,false,true,true,true,true,true,true,true,true,true,true,true,true,true,true,true,true,true,true,true,true,true,true,true,true,true,true,false,false,false,false,false,false,false,false,false,false,false,false,false,false,false,false,false,false,false,false,false,false,false,false,false,false,false,false,false,false,false,false,false,false,false,false,false,false,false,false,false,false,false,false,false,false,false,false,false,false,false,false,false,false,false,false,false,false,false,false,false,false,false,false,false,false,false,false,false,false,false,false,false,false,false,false,false,false,false,false,false,false,false,false,false,false,false,false,false,false,false,false,false,false,false,false,false,false,false,false,false,false,false,false,false,false,false,false,false,false,false,false,false,false,false,false,false,false,false,false,false,false,false,false,false,false,false,false,false,false,false,false,false]
theorem ab5:Ip=ab4.map AV.bool:=rfl
def inN (c:Nat):Bool:=(decide (97≤c) && decide (c≤122))||(decide (48≤c) && decide (c≤57))||decide (c=95)
def iD (c:UInt8):Bool:=inN c.toNat
theorem X4:∀ i:Fin 256,ab4.getD i.val false=inN i.val:=by decide
theorem UC (c:UInt8):CO 166 [.pp Ip 0,.int .u8 (c.toNat:Int)] (.ret (.bool (iD c))):=by
 have b:c.toNat<256:=Xve c;have e:ab4.length=256:=by decide
 have d:η (ε c.toNat Ip) .dead= .bool (iD c):=by
  have a:=X4 ⟨c.toNat,b⟩;simp only at a;rw [ab5,← Xjx,Xxb (by omega),Xqf,Xje];rw [ξ,π (by omega)] at a;unfold iD;rw [← a];rfl
 have h:=af2 Ip c.toNat;rw [aA,χ,υ,d] at h;exact h rfl (by rw [dI];exact Yq0 (by omega)) (by rw [aY];exact Yq0 b)
def ajQ (s:List UInt8):St:=⟨[(0,.str s),(1,.pp Ip 0)],[],.dead,[]⟩
def abA (s:List UInt8):St:=⟨[(0,.str s)],[],.dead,[]⟩
theorem aaC {nt:Nat} (a:16≤nt):∀ (s:List UInt8),s.length<2^40→aF prog ap [] nt (ae 0 (af f144)) (fun _=> .exit 0) ajQ abA s (s.dropWhile iD):=by
 intro s
 induction s with
 |nil=>exact fun _=> .done (apY a [] Ip true rfl)
 | cons c s ih=>
  intro e;simp only [ν] at e;rw [Xx0];have b:=UC c;cases d:iD c with
  |true=>
   rw [d] at b;refine .next ?_ (by simpa using ih (by omega))
   have h:=apX a (c::s) Ip true;have f:ε 1 (μ (s.length+1) (c::s))=s:=by simp
   simp only [ν,Xjv] at h;simp (disch:=first|omega|(simp [au,az]<;>omega)) only [dI,bu,Xwg,dP,Xjj,aY,bF,aA,f] at h;apply h<;>first|exact True.intro|omega|assumption|exact rfl
  |false=>
   rw [d] at b;refine .done ?_;have h:=apW a (c::s) Ip false;simp only [ν,Xjv] at h;simp (disch:=first|omega|(simp [au,az]<;>omega)) only [Xjj,bF,aY,bu] at h;apply h<;>first|exact True.intro|omega|assumption|exact rfl
def Xl (s:List UInt8):List UInt8:=(s.reverse.dropWhile iD).reverse
theorem Xm (s:List UInt8) (c:UInt8):Xl (s++ [c])=if iD c=true then Xl s else s++ [c]:=by
 unfold Xl;rw [List.reverse_append];simp only [List.reverse_cons,List.reverse_nil,Xqc,Xxg,Xx0];by_cases h:iD c=true
 ·simp [h]
 ·simp [h]
theorem aaI {nt:Nat} (a:22≤nt):∀ (k:Nat) (s:List UInt8),s.length=k→k<2^40→aF prog ap [] nt (ae 0 (af f145)) (fun _=> .exit 0) ajQ abA s (Xl s):=by
 intro k
 induction k with
 |zero=>
  intro s hs _;have:s= []:=Xxk hs;subst this;exact .done (ap1 a [] Ip true rfl)
 | succ k ih=>
  intro s hs j;rcases List.eq_nil_or_concat s with rfl|⟨s',c,rfl⟩
  ·simp at hs
  ·rw [List.concat_eq_append] at hs ⊢;have d:s'.length=k:=by simpa using hs
   rw [Xm];have f:=UC c;have e:(s'++ [c]).getD s'.length 0=c:=by simp
   have i:s'.length+1 - 1=s'.length:=rfl;have b:μ s'.length (s'++ [c])=s':=by simp
   cases g:iD c with
   |true=>
    rw [g] at f;rw [if_pos rfl];refine .next ?_ (ih s' d (by omega))
    have h:=ap0 a (s'++ [c]) Ip true;simp (disch:=first|omega|(simp [au,az]<;>omega)) only [θ,ν,Δ,χ,jV,i,dI,bu,Xwg,dP,Xjj,aY,bF,aA,e,b,Xx7] at h;apply h<;>first|exact True.intro|omega|assumption|exact rfl
   |false=>
    rw [g] at f;rw [if_neg (by simp)];refine .done ?_;have h:=apZ a (s'++ [c]) Ip false;simp (disch:=first|omega|(simp [au,az]<;>omega)) only [Xjj,bF,θ,ν,Δ,χ,jV,i,dI,bu,aY,aA,e] at h;apply h<;>first|exact True.intro|omega|assumption|exact rfl
theorem aaJ (s u v:List UInt8) (h0:lit true (s== [])=true):CO 117 [.str s,.str QU] (.ret (.str s)):=pK [] 2 3 (.k 1 h0 .nil) (.nil)
theorem aaK (s u v:List UInt8) (h0:lit false (s== [])=true) (c:CO 143 [.str QU] (.ret (.tup [.agg Ip,.bool true]))) (a:CO 145 [.str s,.pp Ip 0] (.ret (.str u))) (b:CO 144 [.str u,.pp Ip 0] (.ret (.str v))):CO 117 [.str s,.str QU] (.ret (.str v)):=pK [] 5 16 (.k 5 h0 .nil) (.c b (.c a (.c c .nil)))
theorem Zd (s v:List UInt8) (h0:lit true (s== [])=true):CO 86 [.str s] (.ret (.bool false)):=pK [] 4 15 (.k 3 h0 .nil) (.nil)
theorem Ze (s v:List UInt8) (h0:lit true (decide (((20:Nat):Int)<(((ζ s):Nat):Int)))=true) (a:lit false (s== [])=true):CO 86 [.str s] (.ret (.bool false)):=pK [] 4 14 (.k 2 h0 (.c a .nil)) (.nil)
theorem Zf (s v:List UInt8) (h0:lit true (decide (((Φ (Xql s 0 0):Nat):Int)<((97:Nat):Int)))=true) (b:(decide (((0:Nat):Int)<(((ζ s):Nat):Int)))=true) (a:lit false (decide (((20:Nat):Int)<(((ζ s):Nat):Int)))=true) (c:lit false (s== [])=true):CO 86 [.str s] (.ret (.bool false)):=pK [] 4 12 (.k 1 h0 (.k 1 b (.c a (.c c .nil)))) (.nil)
theorem Zg (s v:List UInt8) (h0:lit true (decide (((122:Nat):Int)<((Φ (Xql s 0 0):Nat):Int)))=true) (a:(decide (((0:Nat):Int)<(((ζ s):Nat):Int)))=true) (c:lit false (decide (((Φ (Xql s 0 0):Nat):Int)<((97:Nat):Int)))=true) (d:lit false (decide (((20:Nat):Int)<(((ζ s):Nat):Int)))=true) (b:lit false (s== [])=true):CO 86 [.str s] (.ret (.bool false)):=pK [] 4 8 (.c h0 (.k 1 a (.c c (.k 1 a (.c d (.c b .nil)))))) (.nil)
theorem Zh (s v:List UInt8) (h0:lit false (decide (((122:Nat):Int)<((Φ (Xql s 0 0):Nat):Int)))=true) (a:(decide (((0:Nat):Int)<(((ζ s):Nat):Int)))=true) (d:lit false (decide (((Φ (Xql s 0 0):Nat):Int)<((97:Nat):Int)))=true) (e:lit false (decide (((20:Nat):Int)<(((ζ s):Nat):Int)))=true) (b:lit false (s== [])=true) (c:CO 117 [.str s,.str QU] (.ret (.str v))):CO 86 [.str s] (.ret (.bool (v== []))):=pK [] 4 0 (.c h0 (.k 1 a (.c d (.k 1 a (.c e (.c b .nil)))))) (.c c .nil)
theorem ai8 {nt:Nat} (a:50≤nt) (s:List UInt8) (k:Nat) (h0:lit true (!(((Φ (Xql s (δ (k:Int)) 0):Nat):Int)==((95:Nat):Int)))=true) (e:lit true (decide (((Φ (Xql s (δ (k:Int)) 0):Nat):Int)<((48:Nat):Int)))=true) (d:lit true (decide (((Φ (Xql s (δ (k:Int)) 0):Nat):Int)<((97:Nat):Int)))=true) (f:(decide (((0:Nat):Int)≤(k:Int)))=true) (b:(decide ((k:Int)<(((ζ s):Nat):Int)))=true) (c:lit true (decide ((k:Int)<(((ζ s):Nat):Int)))=true):ψ nt f75 ⟨[(0,.str s),(3,ω (k:Int))],[],.dead,[]⟩ (.ret) ⟨[(2,.bool false)],[],.dead,[]⟩:=pJ 75 [] 6 63 (.c h0 (.k 1 e (.k 1 d (.c f (.c b (.c c .nil)))))) (.nil) a
theorem ai9 {nt:Nat} (a:50≤nt) (s:List UInt8) (k:Nat) (h0:lit false (!(((Φ (Xql s (δ (k:Int)) 0):Nat):Int)==((95:Nat):Int)))=true) (e:lit true (decide (((Φ (Xql s (δ (k:Int)) 0):Nat):Int)<((48:Nat):Int)))=true) (d:lit true (decide (((Φ (Xql s (δ (k:Int)) 0):Nat):Int)<((97:Nat):Int)))=true) (f:(decide (((0:Nat):Int)≤(k:Int)))=true) (b:(decide ((k:Int)<(((ζ s):Nat):Int)))=true) (c:lit true (decide ((k:Int)<(((ζ s):Nat):Int)))=true):ψ nt f75 ⟨[(0,.str s),(3,ω (k:Int))],[],.dead,[]⟩ (.normal) ⟨[(0,.str s),(3,ω (γ .i64 ((k:Int)+((1:Nat):Int))))],[],.dead,[]⟩:=pJ 75 [] 6 31 (.c h0 (.k 1 e (.k 1 d (.c f (.c b (.c c .nil)))))) (.nil) a
theorem ai_ {nt:Nat} (a:50≤nt) (s:List UInt8) (k:Nat) (h0:lit true (!(((Φ (Xql s (δ (k:Int)) 0):Nat):Int)==((95:Nat):Int)))=true) (e:lit true (decide (((57:Nat):Int)<((Φ (Xql s (δ (k:Int)) 0):Nat):Int)))=true) (d:lit false (decide (((Φ (Xql s (δ (k:Int)) 0):Nat):Int)<((48:Nat):Int)))=true) (g:lit true (decide (((Φ (Xql s (δ (k:Int)) 0):Nat):Int)<((97:Nat):Int)))=true) (b:(decide (((0:Nat):Int)≤(k:Int)))=true) (c:(decide ((k:Int)<(((ζ s):Nat):Int)))=true) (f:lit true (decide ((k:Int)<(((ζ s):Nat):Int)))=true):ψ nt f75 ⟨[(0,.str s),(3,ω (k:Int))],[],.dead,[]⟩ (.ret) ⟨[(2,.bool false)],[],.dead,[]⟩:=pJ 75 [] 6 55 (.c h0 (.c e (.c d (.k 1 g (.c b (.c c (.c f .nil))))))) (.nil) a
theorem aja {nt:Nat} (a:50≤nt) (s:List UInt8) (k:Nat) (h0:lit false (!(((Φ (Xql s (δ (k:Int)) 0):Nat):Int)==((95:Nat):Int)))=true) (e:lit true (decide (((57:Nat):Int)<((Φ (Xql s (δ (k:Int)) 0):Nat):Int)))=true) (d:lit false (decide (((Φ (Xql s (δ (k:Int)) 0):Nat):Int)<((48:Nat):Int)))=true) (g:lit true (decide (((Φ (Xql s (δ (k:Int)) 0):Nat):Int)<((97:Nat):Int)))=true) (b:(decide (((0:Nat):Int)≤(k:Int)))=true) (c:(decide ((k:Int)<(((ζ s):Nat):Int)))=true) (f:lit true (decide ((k:Int)<(((ζ s):Nat):Int)))=true):ψ nt f75 ⟨[(0,.str s),(3,ω (k:Int))],[],.dead,[]⟩ (.normal) ⟨[(0,.str s),(3,ω (γ .i64 ((k:Int)+((1:Nat):Int))))],[],.dead,[]⟩:=pJ 75 [] 6 23 (.c h0 (.c e (.c d (.k 1 g (.c b (.c c (.c f .nil))))))) (.nil) a
theorem ajb {nt:Nat} (a:50≤nt) (s:List UInt8) (k:Nat) (h0:lit false (decide (((57:Nat):Int)<((Φ (Xql s (δ (k:Int)) 0):Nat):Int)))=true) (e:lit false (decide (((Φ (Xql s (δ (k:Int)) 0):Nat):Int)<((48:Nat):Int)))=true) (d:lit true (decide (((Φ (Xql s (δ (k:Int)) 0):Nat):Int)<((97:Nat):Int)))=true) (f:(decide (((0:Nat):Int)≤(k:Int)))=true) (b:(decide ((k:Int)<(((ζ s):Nat):Int)))=true) (c:lit true (decide ((k:Int)<(((ζ s):Nat):Int)))=true):ψ nt f75 ⟨[(0,.str s),(3,ω (k:Int))],[],.dead,[]⟩ (.normal) ⟨[(0,.str s),(3,ω (γ .i64 ((k:Int)+((1:Nat):Int))))],[],.dead,[]⟩:=pJ 75 [] 6 7 (.k 1 h0 (.c e (.k 1 d (.c f (.c b (.c c .nil)))))) (.nil) a
theorem ajc {nt:Nat} (a:50≤nt) (s:List UInt8) (k:Nat) (h0:lit true (!(((Φ (Xql s (δ (k:Int)) 0):Nat):Int)==((95:Nat):Int)))=true) (e:lit true (decide (((Φ (Xql s (δ (k:Int)) 0):Nat):Int)<((48:Nat):Int)))=true) (d:lit true (decide (((122:Nat):Int)<((Φ (Xql s (δ (k:Int)) 0):Nat):Int)))=true) (g:lit false (decide (((Φ (Xql s (δ (k:Int)) 0):Nat):Int)<((97:Nat):Int)))=true) (b:(decide (((0:Nat):Int)≤(k:Int)))=true) (c:(decide ((k:Int)<(((ζ s):Nat):Int)))=true) (f:lit true (decide ((k:Int)<(((ζ s):Nat):Int)))=true):ψ nt f75 ⟨[(0,.str s),(3,ω (k:Int))],[],.dead,[]⟩ (.ret) ⟨[(2,.bool false)],[],.dead,[]⟩:=pJ 75 [] 6 61 (.c h0 (.k 1 e (.c d (.c g (.c b (.c c (.c f .nil))))))) (.nil) a
theorem ajd {nt:Nat} (a:50≤nt) (s:List UInt8) (k:Nat) (h0:lit false (!(((Φ (Xql s (δ (k:Int)) 0):Nat):Int)==((95:Nat):Int)))=true) (e:lit true (decide (((Φ (Xql s (δ (k:Int)) 0):Nat):Int)<((48:Nat):Int)))=true) (d:lit true (decide (((122:Nat):Int)<((Φ (Xql s (δ (k:Int)) 0):Nat):Int)))=true) (g:lit false (decide (((Φ (Xql s (δ (k:Int)) 0):Nat):Int)<((97:Nat):Int)))=true) (b:(decide (((0:Nat):Int)≤(k:Int)))=true) (c:(decide ((k:Int)<(((ζ s):Nat):Int)))=true) (f:lit true (decide ((k:Int)<(((ζ s):Nat):Int)))=true):ψ nt f75 ⟨[(0,.str s),(3,ω (k:Int))],[],.dead,[]⟩ (.normal) ⟨[(0,.str s),(3,ω (γ .i64 ((k:Int)+((1:Nat):Int))))],[],.dead,[]⟩:=pJ 75 [] 6 29 (.c h0 (.k 1 e (.c d (.c g (.c b (.c c (.c f .nil))))))) (.nil) a
theorem aje {nt:Nat} (b:50≤nt) (s:List UInt8) (k:Nat) (h0:lit true (!(((Φ (Xql s (δ (k:Int)) 0):Nat):Int)==((95:Nat):Int)))=true) (f:lit true (decide (((57:Nat):Int)<((Φ (Xql s (δ (k:Int)) 0):Nat):Int)))=true) (e:lit false (decide (((Φ (Xql s (δ (k:Int)) 0):Nat):Int)<((48:Nat):Int)))=true) (h:lit true (decide (((122:Nat):Int)<((Φ (Xql s (δ (k:Int)) 0):Nat):Int)))=true) (c:lit false (decide (((Φ (Xql s (δ (k:Int)) 0):Nat):Int)<((97:Nat):Int)))=true) (d:(decide (((0:Nat):Int)≤(k:Int)))=true) (g:(decide ((k:Int)<(((ζ s):Nat):Int)))=true) (a:lit true (decide ((k:Int)<(((ζ s):Nat):Int)))=true):ψ nt f75 ⟨[(0,.str s),(3,ω (k:Int))],[],.dead,[]⟩ (.ret) ⟨[(2,.bool false)],[],.dead,[]⟩:=pJ 75 [] 6 53 (.c h0 (.c f (.c e (.c h (.c c (.c d (.c g (.c a .nil)))))))) (.nil) b
theorem ajf {nt:Nat} (b:50≤nt) (s:List UInt8) (k:Nat) (h0:lit false (!(((Φ (Xql s (δ (k:Int)) 0):Nat):Int)==((95:Nat):Int)))=true) (f:lit true (decide (((57:Nat):Int)<((Φ (Xql s (δ (k:Int)) 0):Nat):Int)))=true) (e:lit false (decide (((Φ (Xql s (δ (k:Int)) 0):Nat):Int)<((48:Nat):Int)))=true) (h:lit true (decide (((122:Nat):Int)<((Φ (Xql s (δ (k:Int)) 0):Nat):Int)))=true) (c:lit false (decide (((Φ (Xql s (δ (k:Int)) 0):Nat):Int)<((97:Nat):Int)))=true) (d:(decide (((0:Nat):Int)≤(k:Int)))=true) (g:(decide ((k:Int)<(((ζ s):Nat):Int)))=true) (a:lit true (decide ((k:Int)<(((ζ s):Nat):Int)))=true):ψ nt f75 ⟨[(0,.str s),(3,ω (k:Int))],[],.dead,[]⟩ (.normal) ⟨[(0,.str s),(3,ω (γ .i64 ((k:Int)+((1:Nat):Int))))],[],.dead,[]⟩:=pJ 75 [] 6 21 (.c h0 (.c f (.c e (.c h (.c c (.c d (.c g (.c a .nil)))))))) (.nil) b
theorem ajg {nt:Nat} (a:50≤nt) (s:List UInt8) (k:Nat) (h0:lit false (decide (((57:Nat):Int)<((Φ (Xql s (δ (k:Int)) 0):Nat):Int)))=true) (e:lit false (decide (((Φ (Xql s (δ (k:Int)) 0):Nat):Int)<((48:Nat):Int)))=true) (d:lit true (decide (((122:Nat):Int)<((Φ (Xql s (δ (k:Int)) 0):Nat):Int)))=true) (g:lit false (decide (((Φ (Xql s (δ (k:Int)) 0):Nat):Int)<((97:Nat):Int)))=true) (b:(decide (((0:Nat):Int)≤(k:Int)))=true) (c:(decide ((k:Int)<(((ζ s):Nat):Int)))=true) (f:lit true (decide ((k:Int)<(((ζ s):Nat):Int)))=true):ψ nt f75 ⟨[(0,.str s),(3,ω (k:Int))],[],.dead,[]⟩ (.normal) ⟨[(0,.str s),(3,ω (γ .i64 ((k:Int)+((1:Nat):Int))))],[],.dead,[]⟩:=pJ 75 [] 6 5 (.k 1 h0 (.c e (.c d (.c g (.c b (.c c (.c f .nil))))))) (.nil) a
theorem aea {nt:Nat} (a:50≤nt) (s:List UInt8) (k:Nat) (h0:lit false (decide (((122:Nat):Int)<((Φ (Xql s (δ (k:Int)) 0):Nat):Int)))=true) (d:lit false (decide (((Φ (Xql s (δ (k:Int)) 0):Nat):Int)<((97:Nat):Int)))=true) (c:(decide (((0:Nat):Int)≤(k:Int)))=true) (e:(decide ((k:Int)<(((ζ s):Nat):Int)))=true) (b:lit true (decide ((k:Int)<(((ζ s):Nat):Int)))=true):ψ nt f75 ⟨[(0,.str s),(3,ω (k:Int))],[],.dead,[]⟩ (.normal) ⟨[(0,.str s),(3,ω (γ .i64 ((k:Int)+((1:Nat):Int))))],[],.dead,[]⟩:=pJ 75 [] 5 1 (.k 2 h0 (.c d (.c c (.c e (.c b .nil))))) (.nil) a
theorem aeb {nt:Nat} (a:50≤nt) (s:List UInt8) (k:Nat) (h0:lit false (decide ((k:Int)<(((ζ s):Nat):Int)))=true):ψ nt f75 ⟨[(0,.str s),(3,ω (k:Int))],[],.dead,[]⟩ (.exit 0) ⟨[],[],.dead,[]⟩:=pJ 75 [] 1 0 (.c h0 .nil) (.nil) a
theorem ad5 (s:List UInt8) (h0:lit true (decide ((((ζ s):Nat):Int)<((1:Nat):Int)))=true):CO 75 [.str s] (.ret (.bool false)):=pK [0] 4 15 (.k 3 h0 .nil) (.nil)
theorem ad6 (s:List UInt8) (h0:lit true (decide (((20:Nat):Int)<(((ζ s):Nat):Int)))=true) (a:lit false (decide ((((ζ s):Nat):Int)<((1:Nat):Int)))=true):CO 75 [.str s] (.ret (.bool false)):=pK [0] 4 14 (.k 2 h0 (.c a .nil)) (.nil)
theorem ad7 (s:List UInt8) (h0:lit true (decide (((Φ (Xql s 0 0):Nat):Int)<((97:Nat):Int)))=true) (b:(decide (((0:Nat):Int)<(((ζ s):Nat):Int)))=true) (a:lit false (decide (((20:Nat):Int)<(((ζ s):Nat):Int)))=true) (c:lit false (decide ((((ζ s):Nat):Int)<((1:Nat):Int)))=true):CO 75 [.str s] (.ret (.bool false)):=pK [0] 4 12 (.k 1 h0 (.k 1 b (.c a (.c c .nil)))) (.nil)
theorem ad8 (s:List UInt8) (h0:lit true (decide (((122:Nat):Int)<((Φ (Xql s 0 0):Nat):Int)))=true) (a:(decide (((0:Nat):Int)<(((ζ s):Nat):Int)))=true) (c:lit false (decide (((Φ (Xql s 0 0):Nat):Int)<((97:Nat):Int)))=true) (d:lit false (decide (((20:Nat):Int)<(((ζ s):Nat):Int)))=true) (b:lit false (decide ((((ζ s):Nat):Int)<((1:Nat):Int)))=true):CO 75 [.str s] (.ret (.bool false)):=pK [0] 4 8 (.c h0 (.k 1 a (.c c (.k 1 a (.c d (.c b .nil)))))) (.nil)
theorem ad9 (s:List UInt8) (h0:lit false (decide (((122:Nat):Int)<((Φ (Xql s 0 0):Nat):Int)))=true) (a:(decide (((0:Nat):Int)<(((ζ s):Nat):Int)))=true) (d:lit false (decide (((Φ (Xql s 0 0):Nat):Int)<((97:Nat):Int)))=true) (e:lit false (decide (((20:Nat):Int)<(((ζ s):Nat):Int)))=true) (b:lit false (decide ((((ζ s):Nat):Int)<((1:Nat):Int)))=true) (c:aI prog ap [] 50 (.block 0 (.loop (ae 0 (af f75)))) ⟨[(0,.str s),(2,.bool false),(3,ω 0),(4,.dead),(22,.bool (decide (((122:Nat):Int)<((Φ (Xql s 0 0):Nat):Int)))),(26,.dead),(49,.dead)],[],.dead,[]⟩ (.normal) ⟨[],[],.dead,[]⟩):CO 75 [.str s] (.ret (.bool true)):=pK [0] 4 0 (.c h0 (.k 1 a (.c d (.k 1 a (.c e (.c b .nil)))))) (.l c .nil)
theorem ad_ (s:List UInt8) (h0:lit false (decide (((122:Nat):Int)<((Φ (Xql s 0 0):Nat):Int)))=true) (a:(decide (((0:Nat):Int)<(((ζ s):Nat):Int)))=true) (d:lit false (decide (((Φ (Xql s 0 0):Nat):Int)<((97:Nat):Int)))=true) (e:lit false (decide (((20:Nat):Int)<(((ζ s):Nat):Int)))=true) (b:lit false (decide ((((ζ s):Nat):Int)<((1:Nat):Int)))=true) (c:aI prog ap [] 50 (.block 0 (.loop (ae 0 (af f75)))) ⟨[(0,.str s),(2,.bool false),(3,ω 0),(4,.dead),(22,.bool (decide (((122:Nat):Int)<((Φ (Xql s 0 0):Nat):Int)))),(26,.dead),(49,.dead)],[],.dead,[]⟩ (.ret) ⟨[(2,.bool false)],[],.dead,[]⟩):CO 75 [.str s] (.ret (.bool false)):=pK [0] 4 0 (.c h0 (.k 1 a (.c d (.k 1 a (.c e (.c b .nil)))))) (.l c .nil)
def uF (s:List UInt8):Bool:= !(s== []) && decide (s.length≤20) && decide (97≤(s.getD 0 0).toNat) && decide ((s.getD 0 0).toNat≤122) && s.all iD
theorem IJ {p:UInt8→Bool}:∀ {l:List UInt8},l.dropWhile p= []↔∀ x ∈ l,p x=true
 | []=>by simp
 |c::l=>by
  rw [Xx0];cases h:p c with
  |true=>simp [h,IJ (l:=l)]
  |false=>simp [h]
theorem Xq {s:List UInt8}:(Xl s).dropWhile iD= []↔s.all iD=true:=by
 unfold Xl;rw [Xzp];constructor
 ·intro h;have f:∀ x ∈ (s.reverse.dropWhile iD),iD x=true:=by
   intro x a;exact IJ.1 h x (by simpa using a)
  have e:s.reverse.dropWhile iD= []:=by
   cases hd:s.reverse.dropWhile iD with
   |nil=>rfl
   | cons y r=>
    exfalso;have b:=f y (by rw [hd];simp);have d:∀ (l:List UInt8),l.dropWhile iD=y::r→iD y=false:=by
     intro l
     induction l with
     |nil=>intro h;simp at h
     | cons z l ih=>
      intro h;rw [Xx0] at h;split at h
      ·exact ih h
      ·rename_i c;cases h;simpa using c
    rw [d _ hd] at b;cases b
  intro x a;exact IJ.1 e x (by simpa using a)
 ·intro h;have:s.reverse.dropWhile iD= []:=IJ.2 fun x a=>h x (by simpa using a)
  rw [this];rfl
theorem aeV (s:List UInt8) (hs:s.length<2^40):CO 144 [.str s,.pp Ip 0] (.ret (.str (s.dropWhile iD))):=
 akf s _ Ip (aF.blk (fun nt a=>aaC a s hs) (by simp) rfl (aJ.of ⟨rfl,rfl,trivial⟩) (aJ.of ⟨rfl,trivial⟩))
theorem aeW (s:List UInt8) (hs:s.length<2^40):CO 145 [.str s,.pp Ip 0] (.ret (.str (Xl s))):=
 aki s _ Ip (aF.blk (fun nt a=>aaI a _ s rfl hs) (by simp) rfl (aJ.of ⟨rfl,rfl,trivial⟩) (aJ.of ⟨rfl,trivial⟩))
theorem aaH (s:List UInt8):(Xl s).length≤s.length:=by
 unfold Xl;rw [List.length_reverse];have:=(List.dropWhile_sublist iD (l:=s.reverse)).length_le;simpa using this
theorem aaL (s:List UInt8) (hs:s.length<2^40):CO 117 [.str s,.str QU] (.ret (.str ((Xl s).dropWhile iD))):=by
 by_cases h:s= []
 ·subst h;exact aaJ [] [] [] rfl
 ·have a:=aaH s;exact aaK s _ _ (by simp [lit,h]) ab6 (aeW s hs) (aeV _ (by omega))
theorem lM (s:List UInt8):CO 86 [.str s] (.ret (.bool (uF s))):=by
 unfold uF;by_cases h0:s= []
 ·subst h0;exact Zd [] [] rfl
 ·have a:(s== [])=false:=by simpa using h0
  have c:0<s.length:=by cases s with|nil=>exact absurd rfl h0|cons _ _=>simp
  rw [a];by_cases h1:s.length≤20
  ·have b:lit false (decide (((20:Nat):Int)<(s.length:Int)))=true:=by rw [aY];simp [lit,h1]
   have cl:decide (((0:Nat):Int)<(s.length:Int))=true:=by rw [aY];exact Yq0 c
   rw [Yq0 h1];by_cases h2:97≤(s.getD 0 0).toNat
   ·rw [Yq0 h2];have d:lit false (decide (((s.getD 0 0).toNat:Int)<((97:Nat):Int)))=true:=by rw [aY];simp only [lit,Xqm];exact Yq1 (by omega)
    by_cases h3:(s.getD 0 0).toNat≤122
    ·rw [Yq0 h3];have f:lit false (decide (((122:Nat):Int)<((s.getD 0 0).toNat:Int)))=true:=by rw [aY];simp only [lit,Xqm];exact Yq1 (by omega)
     have h:=Zh s _ f cl d b (by rw [a];rfl) (aaL s (by omega));have e:((Xl s).dropWhile iD== [])=s.all iD:=by
      rw [Xx6,← Xq];simp
     rw [e] at h;exact h
    ·rw [Yq1 h3];exact Zg s [] (by rw [aY];exact Yq0 (by omega)) cl d b (by rw [a];rfl)
   ·rw [Yq1 h2];exact Zf s [] (by rw [aY];exact Yq0 (by omega)) cl b (by rw [a];rfl)
  ·rw [Yq1 h1];exact Ze s [] (by rw [aY];exact Yq0 (by omega)) (by rw [a];rfl)
def WH (s:List UInt8) (k:Nat):St:=⟨[(0,.str s),(3,ω (k:Int))],[],.dead,[]⟩
def WG:Bool→St
 |true=> ⟨[],[],.dead,[]⟩
 |false=> ⟨[(2,.bool false)],[],.dead,[]⟩
def rnE:Bool→bK
 |true=> .exit 0
 |false=> .ret
theorem WI {nt:Nat} (a:50≤nt) (s:List UInt8) (k c:Nat) (v:k<s.length) (hs:s.length<2^40) (d:(s.getD k 0).toNat=c):
  (inN c=true→ψ nt f75 (WH s k) .normal (WH s (k+1)))∧(inN c=false→ψ nt f75 (WH s k) .ret (WG false)):=by
 have e:inN c=true↔((97≤c∧c≤122)∨(48≤c∧c≤57))∨c=95:=by unfold inN;simp
 unfold WH WG;have m:=ai8 a s k;simp (disch:=first|omega|(simp [au,az]<;>omega)) only [aA,d,jJ,bF,dY,eY,aY,bu,dI] at m;have l:=ai9 a s k;simp (disch:=first|omega|(simp [au,az]<;>omega)) only [aA,d,jJ,dP,dY,AU,bu,aY,bF,dI,bW,aX] at l;have o:=ai_ a s k;simp (disch:=first|omega|(simp [au,az]<;>omega)) only [aA,d,jJ,bF,dY,eY,aY,bu,dP,dI] at o;have i:=aja a s k;simp (disch:=first|omega|(simp [au,az]<;>omega)) only [aA,d,jJ,dP,dY,AU,bu,aY,bF,eY,dI,bW,aX] at i;have r:=ajb a s k;simp (disch:=first|omega|(simp [au,az]<;>omega)) only [aA,d,aY,dP,dY,eY,bF,bu,dI,bW,aX] at r;have n:=ajc a s k;simp (disch:=first|omega|(simp [au,az]<;>omega)) only [aA,d,jJ,bF,dY,eY,aY,bu,dP,dI] at n;have p:=ajd a s k;simp (disch:=first|omega|(simp [au,az]<;>omega)) only [aA,d,jJ,dP,dY,AU,bu,aY,bF,eY,dI,bW,aX] at p;have q:=aje a s k;simp (disch:=first|omega|(simp [au,az]<;>omega)) only [aA,d,jJ,bF,dY,eY,aY,bu,dP,dI] at q;have j:=ajf a s k;simp (disch:=first|omega|(simp [au,az]<;>omega)) only [aA,d,jJ,dP,dY,AU,bu,aY,bF,eY,dI,bW,aX] at j;have t:=ajg a s k;simp (disch:=first|omega|(simp [au,az]<;>omega)) only [aA,d,aY,dP,dY,eY,bF,bu,dI,bW,aX] at t;have f:=aea a s k;simp (disch:=first|omega|(simp [au,az]<;>omega)) only [aA,d,aY,dP,dY,eY,dI,bu,bF,bW,aX] at f;constructor
 ·intro g;have b:=e.1 g;by_cases h1:c<97<;>by_cases h2:122<c<;>by_cases h3:c<48<;>by_cases h4:57<c<;>by_cases h5:c=95<;>first
   |(exfalso;omega)
   |(apply l<;>omega)
   |(apply i<;>omega)
   |(apply r<;>omega)
   |(apply p<;>omega)
   |(apply j<;>omega)
   |(apply t<;>omega)
   |(apply f<;>omega)
 ·intro g;have b:¬ (((97≤c∧c≤122)∨(48≤c∧c≤57))∨c=95):=by rw [← e,g];simp
  have x:c ≠ 95:=fun h=>b (.inr h)
  have u:c<97∨122<c:=by
   rcases Xq9 c 97 with h|h
   ·exact .inl h
   ·rcases Xq9 122 c with h'|h'
    ·exact .inr h'
    ·exact absurd (.inl (.inl ⟨h,h'⟩)) b
  have w:c<48∨57<c:=by
   rcases Xq9 c 48 with h|h
   ·exact .inl h
   ·rcases Xq9 57 c with h'|h'
    ·exact .inr h'
    ·exact absurd (.inl (.inr ⟨h,h'⟩)) b
  clear b;by_cases h1:c<97<;>by_cases h2:122<c<;>by_cases h3:c<48<;>by_cases h4:57<c<;>by_cases h5:c=95<;>first
   |(exfalso;omega)
   |(apply m<;>omega)
   |(apply o<;>omega)
   |(apply n<;>omega)
   |(apply q<;>omega)
theorem aae {nt:Nat} (a:50≤nt) (s:List UInt8) (hs:s.length<2^40):∀ (r p:List UInt8),p++r=s→aF prog ap [] nt (ae 0 (af f75)) rnE (WH s) WG p.length (r.all iD):=by
 intro r
 induction r with
 |nil=>
  intro p h;have hp:p.length=s.length:=by rw [← h];simp
  rw [hp];exact .done (aeb a s _ (by rw [aY];simp [lit]))
 | cons c r ih=>
  intro p h;have i:p.length+(r.length+1)=s.length:=by rw [← h];simp
  have d:s.getD p.length 0=c:=by rw [← h];exact QA rfl
  obtain ⟨f,g⟩:=WI a s p.length c.toNat (by omega) hs (by rw [d]);rw [List.all_cons];have e:iD c=inN c.toNat:=rfl;cases b:iD c with
  |true=>
   have hnext:=ih (p++ [c]) (by simp [h]);rw [θ,ο] at hnext;rw [Bool.true_and];exact .next (f (e ▸ b)) hnext
  |false=>exact .done (g (e ▸ b))
theorem WJ (s:List UInt8):CO 75 [.str s] (.ret (.bool (uF s))):=by
 unfold uF;by_cases h0:s= []
 ·subst h0;exact ad5 [] rfl
 ·have e:(s== [])=false:=by simpa using h0
  have c:0<s.length:=by cases s with|nil=>exact absurd rfl h0|cons _ _=>simp
  have a:lit false (decide ((s.length:Int)<((1:Nat):Int)))=true:=by rw [aY];simp only [lit,Xqm];exact Yq1 (by omega)
  rw [e];by_cases h1:s.length≤20
  ·have b:lit false (decide (((20:Nat):Int)<(s.length:Int)))=true:=by rw [aY];simp [lit,h1]
   have cl:decide (((0:Nat):Int)<(s.length:Int))=true:=by rw [aY];exact Yq0 c
   rw [Yq0 h1];by_cases h2:97≤(s.getD 0 0).toNat
   ·rw [Yq0 h2];have d:lit false (decide (((s.getD 0 0).toNat:Int)<((97:Nat):Int)))=true:=by rw [aY];simp only [lit,Xqm];exact Yq1 (by omega)
    by_cases h3:(s.getD 0 0).toNat≤122
    ·rw [Yq0 h3];have f:lit false (decide (((122:Nat):Int)<((s.getD 0 0).toNat:Int)))=true:=by rw [aY];simp only [lit,Xqm];exact Yq1 (by omega)
     have hloop:=fun nt (hn:50≤nt)=>aae hn s (by omega) s [] rfl
     cases g:s.all iD with
     |true=>
      rw [g] at hloop;have h:=ad9 s f cl d b a;exact h (aF.blk hloop (by simp [rnE]) rfl (aJ.of ⟨rfl,rfl,trivial⟩) (aJ.of trivial))
     |false=>
      rw [g] at hloop;have h:=ad_ s f cl d b a;exact h (aF.blk hloop (by simp [rnE]) rfl (aJ.of ⟨rfl,rfl,trivial⟩) (aJ.of ⟨rfl,trivial⟩))
    ·rw [Yq1 h3];exact ad8 s (by rw [aY];exact Yq0 (by omega)) cl d b a
   ·rw [Yq1 h2];exact ad7 s (by rw [aY];exact Yq0 (by omega)) cl b a
  ·rw [Yq1 h1];exact ad6 s (by rw [aY];exact Yq0 (by omega)) a
def jQ:List AV:= [.str [],ω 0,.bool false,.bool false,.bool false,.str [36],ω 0,.bool true,.bool false,.bool false,.str [],ω 0,.bool true,.bool false,.bool false,.str [],ω 0,.bool true,.bool false,.bool false,.str [],ω 0,.bool true,.bool false,.bool false,.str [102,97,99,116,46],ω 0,.bool false,.bool true,.bool false,.str [111,119,110,46],ω 0,.bool false,.bool true,.bool false,.str [112,114,105,111,114,46],ω 0,.bool false,.bool true,.bool false,.str [115,112,111,117,115,101,46],ω 0,.bool false,.bool true,.bool false,.str [97,100,100],ω 2,.bool false,.bool false,.bool false,.str [115,117,98],ω 2,.bool false,.bool false,.bool false,.str [109,117,108],ω 2,.bool false,.bool false,.bool false,.str [100,105,118],ω 2,.bool false,.bool false,.bool false,.str [109,105,110],ω 2,.bool false,.bool false,.bool false,.str [109,97,120],ω 2,.bool false,.bool false,.bool false,.str [105,102],ω 3,.bool false,.bool false,.bool false,.str [108,101,115,115],ω 2,.bool false,.bool false,.bool false,.str [101,113,117,97,108],ω 2,.bool false,.bool false,.bool false,.str [97,110,100],ω 2,.bool false,.bool false,.bool false,.str [111,114],ω 2,.bool false,.bool false,.bool false,.str [110,111,116],ω 1,.bool false,.bool false,.bool false,.str [100,111,119,110],ω 1,.bool false,.bool false,.bool true,.str [117,112],ω 1,.bool false,.bool false,.bool true,.str [110,101,97,114],ω 1,.bool false,.bool false,.bool true,.str [114,97,116,101,46],ω 1,.bool false,.bool true,.bool false]
theorem ahJ (a:Int) (h0:lit true (decide (a<((1:Nat):Int)))=true):CO 82 [ω a] (.ret (.tup [.agg zcc2_0,.bool false])):=pK [] 2 3 (.k 7 h0 .nil) (.nil)
theorem ahK (a:Int) (h0:lit true (decide (((24:Nat):Int)<a))=true) (b:lit false (decide (a<((1:Nat):Int)))=true):CO 82 [ω a] (.ret (.tup [.agg zcc2_0,.bool false])):=pK [] 2 2 (.k 6 h0 (.c b .nil)) (.nil)
theorem ahL (a:Int) (h0:(chk .str (η (ε (0+((δ a)*5)) jQ) .dead))=true) (g:(chk (.int .i64) (η (Xjo (ε (0+((δ a)*5)) jQ)) .dead))=true) (f:(chk .bool (η (Xjo (Xjo (ε (0+((δ a)*5)) jQ))) .dead))=true) (h:(chk .bool (η (Xjo (Xjo (Xjo (ε (0+((δ a)*5)) jQ)))) .dead))=true) (c:(chk .bool (η (Xjo (Xjo (Xjo (Xjo (ε (0+((δ a)*5)) jQ))))) .dead))=true) (d:(decide (((0:Nat):Int)≤a))=true) (i:(decide (a<((25:Nat):Int)))=true) (b:lit false (decide (((24:Nat):Int)<a))=true) (e:lit false (decide (a<((1:Nat):Int)))=true):CO 82 [ω a] (.ret (.tup [.agg [.str (AV.toStr (η (ε (0+((δ a)*5)) jQ) .dead)),ω (τ (η (Xjo (ε (0+((δ a)*5)) jQ)) .dead)),.bool (Xv2 (η (Xjo (Xjo (ε (0+((δ a)*5)) jQ))) .dead)),.bool (Xv2 (η (Xjo (Xjo (Xjo (ε (0+((δ a)*5)) jQ)))) .dead)),.bool (Xv2 (η (Xjo (Xjo (Xjo (Xjo (ε (0+((δ a)*5)) jQ))))) .dead))],.bool true])):=pK [] 2 0 (.k 6 h0 (.c g (.c f (.c h (.c c (.c d (.c i (.c b (.c e .nil))))))))) (.nil)
theorem abT (a:Int) (h0:lit true (a==((15:Nat):Int))=true):CO 30 [ω a] (.ret (ω 3)):=pK [] 1 1 (.c h0 .nil) (.nil)
theorem abU (a:Int) (h0:lit true (decide (a≤((14:Nat):Int)))=true) (b:lit true (decide (((9:Nat):Int)≤a))=true) (c:lit false (a==((15:Nat):Int))=true):CO 30 [ω a] (.ret (ω 2)):=pK [] 4 14 (.k 1 h0 (.c b (.c c .nil))) (.nil)
theorem abV (a:Int) (h0:lit true (decide (a≤((19:Nat):Int)))=true) (d:lit true (decide (((16:Nat):Int)≤a))=true) (c:lit false (decide (a≤((14:Nat):Int)))=true) (e:lit true (decide (((9:Nat):Int)≤a))=true) (b:lit false (a==((15:Nat):Int))=true):CO 30 [ω a] (.ret (ω 2)):=pK [] 5 26 (.c h0 (.c d (.c c (.c e (.c b .nil))))) (.nil)
theorem abW (a:Int) (h0:lit true (decide (a≤((24:Nat):Int)))=true) (e:lit true (decide (((20:Nat):Int)≤a))=true) (d:lit false (decide (a≤((19:Nat):Int)))=true) (f:lit true (decide (((16:Nat):Int)≤a))=true) (b:lit false (decide (a≤((14:Nat):Int)))=true) (c:lit true (decide (((9:Nat):Int)≤a))=true) (g:lit false (a==((15:Nat):Int))=true):CO 30 [ω a] (.ret (ω 1)):=pK [] 7 106 (.c h0 (.c e (.c d (.c f (.c b (.c c (.c g .nil))))))) (.nil)
theorem abX (a:Int) (h0:lit false (decide (a≤((24:Nat):Int)))=true) (e:lit true (decide (((20:Nat):Int)≤a))=true) (d:lit false (decide (a≤((19:Nat):Int)))=true) (f:lit true (decide (((16:Nat):Int)≤a))=true) (b:lit false (decide (a≤((14:Nat):Int)))=true) (c:lit true (decide (((9:Nat):Int)≤a))=true) (g:lit false (a==((15:Nat):Int))=true):CO 30 [ω a] (.ret (ω 0)):=pK [] 7 42 (.c h0 (.c e (.c d (.c f (.c b (.c c (.c g .nil))))))) (.nil)
theorem abY (a:Int) (h0:lit false (decide (((20:Nat):Int)≤a))=true) (e:lit false (decide (a≤((19:Nat):Int)))=true) (d:lit true (decide (((16:Nat):Int)≤a))=true) (f:lit false (decide (a≤((14:Nat):Int)))=true) (b:lit true (decide (((9:Nat):Int)≤a))=true) (c:lit false (a==((15:Nat):Int))=true):CO 30 [ω a] (.ret (ω 0)):=pK [] 7 10 (.k 1 h0 (.c e (.c d (.c f (.c b (.c c .nil)))))) (.nil)
theorem abZ (a:Int) (h0:lit true (decide (a≤((24:Nat):Int)))=true) (e:lit true (decide (((20:Nat):Int)≤a))=true) (d:lit false (decide (((16:Nat):Int)≤a))=true) (f:lit false (decide (a≤((14:Nat):Int)))=true) (b:lit true (decide (((9:Nat):Int)≤a))=true) (c:lit false (a==((15:Nat):Int))=true):CO 30 [ω a] (.ret (ω 1)):=pK [] 7 98 (.c h0 (.c e (.k 1 d (.c f (.c b (.c c .nil)))))) (.nil)
theorem ab1 (a:Int) (h0:lit false (decide (a≤((24:Nat):Int)))=true) (e:lit true (decide (((20:Nat):Int)≤a))=true) (d:lit false (decide (((16:Nat):Int)≤a))=true) (f:lit false (decide (a≤((14:Nat):Int)))=true) (b:lit true (decide (((9:Nat):Int)≤a))=true) (c:lit false (a==((15:Nat):Int))=true):CO 30 [ω a] (.ret (ω 0)):=pK [] 7 34 (.c h0 (.c e (.k 1 d (.c f (.c b (.c c .nil)))))) (.nil)
theorem ab2 (a:Int) (h0:lit false (decide (((20:Nat):Int)≤a))=true) (d:lit false (decide (((16:Nat):Int)≤a))=true) (c:lit false (decide (a≤((14:Nat):Int)))=true) (e:lit true (decide (((9:Nat):Int)≤a))=true) (b:lit false (a==((15:Nat):Int))=true):CO 30 [ω a] (.ret (ω 0)):=pK [] 7 2 (.k 1 h0 (.k 1 d (.c c (.c e (.c b .nil))))) (.nil)
theorem ab3 (a:Int) (h0:lit true (decide (a≤((19:Nat):Int)))=true) (c:lit true (decide (((16:Nat):Int)≤a))=true) (b:lit false (decide (((9:Nat):Int)≤a))=true) (d:lit false (a==((15:Nat):Int))=true):CO 30 [ω a] (.ret (ω 2)):=pK [] 5 24 (.c h0 (.c c (.k 1 b (.c d .nil)))) (.nil)
theorem XW (a:Int) (h0:lit true (decide (a≤((24:Nat):Int)))=true) (e:lit true (decide (((20:Nat):Int)≤a))=true) (d:lit false (decide (a≤((19:Nat):Int)))=true) (f:lit true (decide (((16:Nat):Int)≤a))=true) (b:lit false (decide (((9:Nat):Int)≤a))=true) (c:lit false (a==((15:Nat):Int))=true):CO 30 [ω a] (.ret (ω 1)):=pK [] 7 104 (.c h0 (.c e (.c d (.c f (.k 1 b (.c c .nil)))))) (.nil)
theorem XX (a:Int) (h0:lit false (decide (a≤((24:Nat):Int)))=true) (e:lit true (decide (((20:Nat):Int)≤a))=true) (d:lit false (decide (a≤((19:Nat):Int)))=true) (f:lit true (decide (((16:Nat):Int)≤a))=true) (b:lit false (decide (((9:Nat):Int)≤a))=true) (c:lit false (a==((15:Nat):Int))=true):CO 30 [ω a] (.ret (ω 0)):=pK [] 7 40 (.c h0 (.c e (.c d (.c f (.k 1 b (.c c .nil)))))) (.nil)
theorem XY (a:Int) (h0:lit false (decide (((20:Nat):Int)≤a))=true) (d:lit false (decide (a≤((19:Nat):Int)))=true) (c:lit true (decide (((16:Nat):Int)≤a))=true) (e:lit false (decide (((9:Nat):Int)≤a))=true) (b:lit false (a==((15:Nat):Int))=true):CO 30 [ω a] (.ret (ω 0)):=pK [] 7 8 (.k 1 h0 (.c d (.c c (.k 1 e (.c b .nil))))) (.nil)
theorem XZ (a:Int) (h0:lit true (decide (a≤((24:Nat):Int)))=true) (d:lit true (decide (((20:Nat):Int)≤a))=true) (c:lit false (decide (((16:Nat):Int)≤a))=true) (e:lit false (decide (((9:Nat):Int)≤a))=true) (b:lit false (a==((15:Nat):Int))=true):CO 30 [ω a] (.ret (ω 1)):=pK [] 7 96 (.c h0 (.c d (.k 1 c (.k 1 e (.c b .nil))))) (.nil)
theorem X0 (a:Int) (h0:lit false (decide (a≤((24:Nat):Int)))=true) (d:lit true (decide (((20:Nat):Int)≤a))=true) (c:lit false (decide (((16:Nat):Int)≤a))=true) (e:lit false (decide (((9:Nat):Int)≤a))=true) (b:lit false (a==((15:Nat):Int))=true):CO 30 [ω a] (.ret (ω 0)):=pK [] 7 32 (.c h0 (.c d (.k 1 c (.k 1 e (.c b .nil))))) (.nil)
theorem X3 (a:Int) (h0:lit false (decide (((20:Nat):Int)≤a))=true) (c:lit false (decide (((16:Nat):Int)≤a))=true) (b:lit false (decide (((9:Nat):Int)≤a))=true) (d:lit false (a==((15:Nat):Int))=true):CO 30 [ω a] (.ret (ω 0)):=pK [] 7 0 (.k 1 h0 (.k 1 c (.k 1 b (.c d .nil)))) (.nil)
theorem ac2 (a:Int) (h0:lit true (decide (a≤((8:Nat):Int)))=true) (b:lit true (decide (((5:Nat):Int)≤a))=true):CO 32 [ω a] (.ret (.bool true)):=pK [] 2 3 (.c h0 (.c b .nil)) (.nil)
theorem ac3 (a:Int) (h0:lit false (decide (a≤((8:Nat):Int)))=true) (b:lit true (decide (((5:Nat):Int)≤a))=true):CO 32 [ω a] (.ret (.bool (a==((24:Nat):Int)))):=pK [] 2 1 (.c h0 (.c b .nil)) (.nil)
theorem ac4 (a:Int) (h0:lit false (decide (((5:Nat):Int)≤a))=true):CO 32 [ω a] (.ret (.bool (a==((24:Nat):Int)))):=pK [] 2 0 (.k 1 h0 .nil) (.nil)
theorem acV (a:Int) (h0:lit true (decide (((1:Nat):Int)≤a))=true):CO 94 [ω a] (.ret (.bool (decide (a≤((4:Nat):Int))))):=pK [] 1 1 (.c h0 .nil) (.nil)
theorem acW (a:Int) (h0:lit false (decide (((1:Nat):Int)≤a))=true):CO 94 [ω a] (.ret (.bool false)):=pK [] 1 0 (.c h0 .nil) (.nil)
theorem aeI (a:Int) (h0:lit true (decide (((21:Nat):Int)≤a))=true):CO 34 [ω a] (.ret (.bool (decide (a≤((23:Nat):Int))))):=pK [] 1 1 (.c h0 .nil) (.nil)
theorem aeJ (a:Int) (h0:lit false (decide (((21:Nat):Int)≤a))=true):CO 34 [ω a] (.ret (.bool false)):=pK [] 1 0 (.c h0 .nil) (.nil)
def eU (op:Int):Nat:=if op=15 then 3 else if (9≤op∧op≤14)∨(16≤op∧op≤19) then 2 else if 20≤op∧op≤24 then 1 else 0
def jg (op:Int):Bool:=decide ((5≤op∧op≤8)∨op=24)
def BB (op:Int):Bool:=decide (1≤op∧op≤4)
def BF (op:Int):Bool:=decide (21≤op∧op≤23)
def Xx (op:Int):List UInt8:=AV.toStr (η (ε (0+((δ op)*5)) jQ) .dead)
theorem O_ (a:Int):CO 30 [ω a] (.ret (ω ((eU a:Nat):Int))):=by
 cases d:(a==((15:Nat):Int)) with
 | true=>
  have h:=abT a (by rw [d];rfl);have e:eU a=3:=by
   clear h;simp only [decide_eq_true_eq,decide_eq_false_iff_not,beq_iff_eq,Yq2] at*
   unfold eU;(repeat' split)<;>omega
  rw [e];exact h
 | false =>
  cases g:(decide (((9:Nat):Int)≤a)) with
  | true =>
   cases b:(decide (a≤((14:Nat):Int))) with
   | true=>
    have h:=abU a (by rw [b];rfl) (by rw [g];rfl) (by rw [d];rfl);have e:eU a=2:=by
     clear h;simp only [decide_eq_true_eq,decide_eq_false_iff_not,beq_iff_eq,Yq2] at*
     unfold eU;(repeat' split)<;>omega
    rw [e];exact h
   | false=>
    cases c:(decide (((16:Nat):Int)≤a)) with
    | true=>
     cases f:(decide (a≤((19:Nat):Int))) with
     | true=>
      have h:=abV a (by rw [f];rfl) (by rw [c];rfl) (by rw [b];rfl) (by rw [g];rfl) (by rw [d];rfl);have e:eU a=2:=by
       clear h;simp only [decide_eq_true_eq,decide_eq_false_iff_not,beq_iff_eq,Yq2] at*
       unfold eU;(repeat' split)<;>omega
      rw [e];exact h
     | false=>
      cases i:(decide (((20:Nat):Int)≤a)) with
      | true=>
       cases j:(decide (a≤((24:Nat):Int))) with
       | true=>
        have h:=abW a (by rw [j];rfl) (by rw [i];rfl) (by rw [f];rfl) (by rw [c];rfl) (by rw [b];rfl) (by rw [g];rfl) (by rw [d];rfl);have e:eU a=1:=by
         clear h;simp only [decide_eq_true_eq,decide_eq_false_iff_not,beq_iff_eq,Yq2] at*
         unfold eU;(repeat' split)<;>omega
        rw [e];exact h
       | false=>
        have h:=abX a (by rw [j];rfl) (by rw [i];rfl) (by rw [f];rfl) (by rw [c];rfl) (by rw [b];rfl) (by rw [g];rfl) (by rw [d];rfl);have e:eU a=0:=by
         clear h;simp only [decide_eq_true_eq,decide_eq_false_iff_not,beq_iff_eq,Yq2] at*
         unfold eU;(repeat' split)<;>omega
        rw [e];exact h
      | false=>
       have h:=abY a (by rw [i];rfl) (by rw [f];rfl) (by rw [c];rfl) (by rw [b];rfl) (by rw [g];rfl) (by rw [d];rfl);have e:eU a=0:=by
        clear h;simp only [decide_eq_true_eq,decide_eq_false_iff_not,beq_iff_eq,Yq2] at*
        unfold eU;(repeat' split)<;>omega
       rw [e];exact h
    | false=>
     cases f:(decide (((20:Nat):Int)≤a)) with
     | true=>
      cases i:(decide (a≤((24:Nat):Int))) with
      | true=>
       have h:=abZ a (by rw [i];rfl) (by rw [f];rfl) (by rw [c];rfl) (by rw [b];rfl) (by rw [g];rfl) (by rw [d];rfl);have e:eU a=1:=by
        clear h;simp only [decide_eq_true_eq,decide_eq_false_iff_not,beq_iff_eq,Yq2] at*
        unfold eU;(repeat' split)<;>omega
       rw [e];exact h
      | false=>
       have h:=ab1 a (by rw [i];rfl) (by rw [f];rfl) (by rw [c];rfl) (by rw [b];rfl) (by rw [g];rfl) (by rw [d];rfl);have e:eU a=0:=by
        clear h;simp only [decide_eq_true_eq,decide_eq_false_iff_not,beq_iff_eq,Yq2] at*
        unfold eU;(repeat' split)<;>omega
       rw [e];exact h
     | false=>
      have h:=ab2 a (by rw [f];rfl) (by rw [c];rfl) (by rw [b];rfl) (by rw [g];rfl) (by rw [d];rfl);have e:eU a=0:=by
       clear h;simp only [decide_eq_true_eq,decide_eq_false_iff_not,beq_iff_eq,Yq2] at*
       unfold eU;(repeat' split)<;>omega
      rw [e];exact h
  | false=>
   cases b:(decide (((16:Nat):Int)≤a)) with
   | true=>
    cases c:(decide (a≤((19:Nat):Int))) with
    | true=>
     have h:=ab3 a (by rw [c];rfl) (by rw [b];rfl) (by rw [g];rfl) (by rw [d];rfl);have e:eU a=2:=by
      clear h;simp only [decide_eq_true_eq,decide_eq_false_iff_not,beq_iff_eq,Yq2] at*
      unfold eU;(repeat' split)<;>omega
     rw [e];exact h
    | false=>
     cases f:(decide (((20:Nat):Int)≤a)) with
     | true=>
      cases i:(decide (a≤((24:Nat):Int))) with
      | true=>
       have h:=XW a (by rw [i];rfl) (by rw [f];rfl) (by rw [c];rfl) (by rw [b];rfl) (by rw [g];rfl) (by rw [d];rfl);have e:eU a=1:=by
        clear h;simp only [decide_eq_true_eq,decide_eq_false_iff_not,beq_iff_eq,Yq2] at*
        unfold eU;(repeat' split)<;>omega
       rw [e];exact h
      | false=>
       have h:=XX a (by rw [i];rfl) (by rw [f];rfl) (by rw [c];rfl) (by rw [b];rfl) (by rw [g];rfl) (by rw [d];rfl);have e:eU a=0:=by
        clear h;simp only [decide_eq_true_eq,decide_eq_false_iff_not,beq_iff_eq,Yq2] at*
        unfold eU;(repeat' split)<;>omega
       rw [e];exact h
     | false=>
      have h:=XY a (by rw [f];rfl) (by rw [c];rfl) (by rw [b];rfl) (by rw [g];rfl) (by rw [d];rfl);have e:eU a=0:=by
       clear h;simp only [decide_eq_true_eq,decide_eq_false_iff_not,beq_iff_eq,Yq2] at*
       unfold eU;(repeat' split)<;>omega
      rw [e];exact h
   | false=>
    cases c:(decide (((20:Nat):Int)≤a)) with
    | true=>
     cases f:(decide (a≤((24:Nat):Int))) with
     | true=>
      have h:=XZ a (by rw [f];rfl) (by rw [c];rfl) (by rw [b];rfl) (by rw [g];rfl) (by rw [d];rfl);have e:eU a=1:=by
       clear h;simp only [decide_eq_true_eq,decide_eq_false_iff_not,beq_iff_eq,Yq2] at*
       unfold eU;(repeat' split)<;>omega
      rw [e];exact h
     | false=>
      have h:=X0 a (by rw [f];rfl) (by rw [c];rfl) (by rw [b];rfl) (by rw [g];rfl) (by rw [d];rfl);have e:eU a=0:=by
       clear h;simp only [decide_eq_true_eq,decide_eq_false_iff_not,beq_iff_eq,Yq2] at*
       unfold eU;(repeat' split)<;>omega
      rw [e];exact h
    | false=>
     have h:=X3 a (by rw [c];rfl) (by rw [b];rfl) (by rw [g];rfl) (by rw [d];rfl);have e:eU a=0:=by
      clear h;simp only [decide_eq_true_eq,decide_eq_false_iff_not,beq_iff_eq,Yq2] at*
      unfold eU;(repeat' split)<;>omega
     rw [e];exact h
theorem Zc (a:Int):CO 32 [ω a] (.ret (.bool (jg a))):=by
 cases b:(decide (((5:Nat):Int)≤a)) with
 | true=>
  cases c:(decide (a≤((8:Nat):Int))) with
  | true=>
   have h:=ac2 a (by rw [c];rfl) (by rw [b];rfl);have e:jg a=true:=by
    clear h;simp only [decide_eq_true_eq,decide_eq_false_iff_not,beq_iff_eq,Yq2] at*
    unfold jg;first|(rw [decide_eq_true_eq];omega)|(rw [Xx6];simp only [decide_eq_true_eq,beq_iff_eq];omega)
   rw [e];exact h
  | false=>
   have h:=ac3 a (by rw [c];rfl) (by rw [b];rfl);have e:jg a=(a==((24:Nat):Int)):=by
    clear h;simp only [decide_eq_true_eq,decide_eq_false_iff_not,beq_iff_eq,Yq2] at*
    unfold jg;first|(rw [decide_eq_true_eq];omega)|(rw [Xx6];simp only [decide_eq_true_eq,beq_iff_eq];omega)
   rw [e];exact h
 | false=>
  have h:=ac4 a (by rw [b];rfl);have e:jg a=(a==((24:Nat):Int)):=by
   clear h;simp only [decide_eq_true_eq,decide_eq_false_iff_not,beq_iff_eq,Yq2] at*
   unfold jg;first|(rw [decide_eq_true_eq];omega)|(rw [Xx6];simp only [decide_eq_true_eq,beq_iff_eq];omega)
  rw [e];exact h
theorem BR (a:Int):CO 94 [ω a] (.ret (.bool (BB a))):=by
 cases b:(decide (((1:Nat):Int)≤a)) with
 | true=>
  have h:=acV a (by rw [b];rfl);have e:BB a=(decide (a≤((4:Nat):Int))):=by
   clear h;simp only [decide_eq_true_eq,decide_eq_false_iff_not,beq_iff_eq,Yq2] at*
   unfold BB;first|(rw [decide_eq_false_iff_not];omega)|(rw [Xx6];simp only [decide_eq_true_eq,beq_iff_eq];omega)
  rw [e];exact h
 | false=>
  have h:=acW a (by rw [b];rfl);have e:BB a=false:=by
   clear h;simp only [decide_eq_true_eq,decide_eq_false_iff_not,beq_iff_eq,Yq2] at*
   unfold BB;first|(rw [decide_eq_false_iff_not];omega)|(rw [Xx6];simp only [decide_eq_true_eq,beq_iff_eq];omega)
  rw [e];exact h
theorem JD (a:Int):CO 34 [ω a] (.ret (.bool (BF a))):=by
 cases b:(decide (((21:Nat):Int)≤a)) with
 | true=>
  have h:=aeI a (by rw [b];rfl);have e:BF a=(decide (a≤((23:Nat):Int))):=by
   clear h;simp only [decide_eq_true_eq,decide_eq_false_iff_not,beq_iff_eq,Yq2] at*
   unfold BF;first|(rw [decide_eq_false_iff_not];omega)|(rw [Xx6];simp only [decide_eq_true_eq,beq_iff_eq];omega)
  rw [e];exact h
 | false=>
  have h:=aeJ a (by rw [b];rfl);have e:BF a=false:=by
   clear h;simp only [decide_eq_true_eq,decide_eq_false_iff_not,beq_iff_eq,Yq2] at*
   unfold BF;first|(rw [decide_eq_false_iff_not];omega)|(rw [Xx6];simp only [decide_eq_true_eq,beq_iff_eq];omega)
  rw [e];exact h
theorem Lh {a:Int} (h:1≤a) (b:a≤24):a=1∨a=2∨a=3∨a=4∨a=5∨a=6∨a=7∨a=8∨a=9∨a=10∨a=11∨a=12∨a=13∨a=14∨a=15∨a=16∨a=17∨a=18∨a=19∨a=20∨a=21∨a=22∨a=23∨a=24:=by omega
abbrev shA (op:Int):AV:= .agg [.str (Xx op),ω ((eU op:Nat):Int),.bool (BB op),.bool (jg op),.bool (BF op)]
theorem ahP {a:Int} (h:1≤a) (b:a≤24):CO 82 [ω a] (.ret (.tup [shA a,.bool true])):=by
 rcases Lh h b with rfl|rfl|rfl|rfl|rfl|rfl|rfl|rfl|rfl|rfl|rfl|rfl|rfl|rfl|rfl|rfl|rfl|rfl|rfl|rfl|rfl|rfl|rfl|rfl
 all_goals exact ahL _ rfl rfl rfl rfl rfl rfl rfl rfl rfl
theorem ada {a:Int} (h:a<1∨24<a):CO 82 [ω a] (.ret (.tup [.agg zcc2_0,.bool false])):=by
 by_cases h1:a<1
 ·exact ahJ a (by simp [lit];omega)
 ·exact ahK a (by simp [lit];omega) (by simp [lit];omega)
theorem OU {a:Int} (h:1≤a) (b:a≤24):η (ε (a.toNat*5+1) jQ) .dead= ω ((eU a:Nat):Int):=by
 rcases Lh h b with rfl|rfl|rfl|rfl|rfl|rfl|rfl|rfl|rfl|rfl|rfl|rfl|rfl|rfl|rfl|rfl|rfl|rfl|rfl|rfl|rfl|rfl|rfl|rfl
 all_goals rfl
def Rz (op:Int):Bool:=decide (1≤op∧op≤24)
theorem dn (a:Int):CO 82 [ω a] (.ret (.tup [shA a,.bool (Rz a)])):=by
 by_cases h:1≤a∧a≤24
 ·have e:Rz a=true:=Yq0 h;rw [e];exact ahP h.1 h.2
 ·have e:Rz a=false:=Yq1 h;have f:eU a=0:=by unfold eU;(repeat' split)<;>omega
  have b:BB a=false:=by unfold BB;rw [decide_eq_false_iff_not];omega
  have c:jg a=false:=by unfold jg;rw [decide_eq_false_iff_not];omega
  have d:BF a=false:=by unfold BF;rw [decide_eq_false_iff_not];omega
  have g:Xx a= []:=by
   unfold Xx;by_cases h1:a<1
   ·have:a.toNat=0:=by omega
    rw [this];rfl
   ·have i:jQ.length=125:=by decide
    rw [Xxj (by omega)];rfl
  unfold shA;rw [e,f,b,c,d,g];exact ada (by omega)
structure Nd where
 op:Int
 neg:Bool
 num:List UInt8
 den:List UInt8
 name:List UInt8
def iE (x:Nd):List AV:= [ω x.op,.bool x.neg,.str x.num,.str x.den,.str x.name]
def Nd.sm (x:Nd):Prop:=x.num.length<2^33∧x.den.length<2^33
def gV (x:Nd):Bool:=cond (x.op==((4:Nat):Int)) (uj x.neg x.num x.den 0||uj x.neg x.num x.den 1) (cond (BB x.op) (jf x.neg x.num x.den) (cond (BF x.op) (jf x.neg x.num x.den && decide (((0:Nat):Int)<gz x.neg x.num x.den)) ((x.neg==false) && ((x.num== []) && ((x.den== []) && true)))))
def aP (x:Nd):Int:=cond (!Rz x.op||(!jg x.op && !(x.name== []))) 11 (cond (!gV x) 11 (cond (jg x.op && !uF x.name) 12 0))
theorem Xy (x:Nd) (c:x.sm):CO 52 [.agg (iE x)] (.ret (ω (aP x))):=by
 have a:x.num.length<2^36:=Xxo c.1 (by decide);have b:x.den.length<2^36:=Xxo c.2 (by decide);rcases tf (Rz x.op) with b0|b0
 ·rcases tf (jg x.op) with b1|b1
  ·rcases tf (x.op==((4:Nat):Int)) with b2|b2
   ·rcases tf ((x.neg==false) && ((x.num==(ai 0)) && ((x.den==(ai 1)) && true))) with b3|b3
    ·rcases tf (uF x.name) with b4|b4
     ·rw [show aP x=0 by simp only [aP,gV,uj,b0,b1,b2,b3,b4]<;>rfl];exact pK [] 8 88 (.c (aS b4) (.k 1 (aC b1) (.k 2 (aC b3) (.k 3 (aC b2) (.k 2 (aS b1) (.k 1 (aS b0) (.n 2 .nil))))))) (.c (lM x.name) (.c (mF) (.c (dn x.op) .nil)))
     ·rw [show aP x=12 by simp only [aP,gV,uj,b0,b1,b2,b3,b4]<;>rfl];exact pK [] 8 216 (.c (dK b4) (.k 1 (aC b1) (.k 2 (aC b3) (.k 3 (aC b2) (.k 2 (aS b1) (.k 1 (aS b0) (.n 2 .nil))))))) (.c (lM x.name) (.c (mF) (.c (dn x.op) .nil)))
    ·rcases tf ((x.neg==false) && ((x.num==(ai 1)) && ((x.den==(ai 1)) && true))) with b4|b4
     ·rcases tf (uF x.name) with b5|b5
      ·rw [show aP x=0 by simp only [aP,gV,uj,b0,b1,b2,b3,b4,b5]<;>rfl];exact pK [] 8 72 (.c (aS b5) (.k 1 (aC b1) (.k 1 (aS b4) (.k 3 (aB b3) (.k 3 (aC b2) (.k 2 (aS b1) (.k 1 (aS b0) (.n 2 .nil)))))))) (.c (lM x.name) (.c (EQ) (.c (mF) (.c (dn x.op) .nil))))
      ·rw [show aP x=12 by simp only [aP,gV,uj,b0,b1,b2,b3,b4,b5]<;>rfl];exact pK [] 8 200 (.c (dK b5) (.k 1 (aC b1) (.k 1 (aS b4) (.k 3 (aB b3) (.k 3 (aC b2) (.k 2 (aS b1) (.k 1 (aS b0) (.n 2 .nil)))))))) (.c (lM x.name) (.c (EQ) (.c (mF) (.c (dn x.op) .nil))))
     ·rw [show aP x=11 by simp only [aP,gV,uj,b0,b1,b2,b3,b4]<;>rfl];exact pK [] 6 40 (.c (dK b4) (.k 3 (aB b3) (.k 3 (aC b2) (.k 2 (aS b1) (.k 1 (aS b0) (.n 2 .nil)))))) (.c (EQ) (.c (mF) (.c (dn x.op) .nil)))
   ·rcases tf (BB x.op) with b3|b3
    ·rcases tf (jf x.neg x.num x.den) with b4|b4
     ·rcases tf (uF x.name) with b5|b5
      ·rw [show aP x=0 by simp only [aP,gV,uj,b0,b1,b2,b3,b4,b5]<;>rfl];exact pK [] 8 80 (.c (aS b5) (.k 1 (aC b1) (.k 1 (aS b4) (.k 3 (aC b3) (.k 1 (aB b2) (.k 2 (aS b1) (.k 1 (aS b0) (.n 2 .nil)))))))) (.c (lM x.name) (.c (iP x.neg x.num x.den a b) (.c (dn x.op) .nil)))
      ·rw [show aP x=12 by simp only [aP,gV,uj,b0,b1,b2,b3,b4,b5]<;>rfl];exact pK [] 8 208 (.c (dK b5) (.k 1 (aC b1) (.k 1 (aS b4) (.k 3 (aC b3) (.k 1 (aB b2) (.k 2 (aS b1) (.k 1 (aS b0) (.n 2 .nil)))))))) (.c (lM x.name) (.c (iP x.neg x.num x.den a b) (.c (dn x.op) .nil)))
     ·rw [show aP x=11 by simp only [aP,gV,uj,b0,b1,b2,b3,b4]<;>rfl];exact pK [] 6 48 (.c (dK b4) (.k 3 (aC b3) (.k 1 (aB b2) (.k 2 (aS b1) (.k 1 (aS b0) (.n 2 .nil)))))) (.c (iP x.neg x.num x.den a b) (.c (dn x.op) .nil))
    ·rcases tf (BF x.op) with b4|b4
     ·rcases tf (jf x.neg x.num x.den) with b5|b5
      ·rcases tf (decide (((0:Nat):Int)<(gz x.neg x.num x.den))) with b6|b6
       ·rcases tf (uF x.name) with b7|b7
        ·rw [show aP x=0 by simp only [aP,gV,uj,b0,b1,b2,b3,b4,b5,b6,b7]<;>rfl];exact pK [] 10 352 (.c (aS b7) (.k 1 (aC b1) (.k 1 (aS b6) (.k 3 (aC b5) (.k 3 (aC b4) (.k 1 (aB b3) (.k 1 (aB b2) (.k 2 (aS b1) (.k 1 (aS b0) (.n 2 .nil)))))))))) (.c (lM x.name) (.c (jO x.neg x.num x.den a b) (.c (iP x.neg x.num x.den a b) (.c (dn x.op) .nil))))
        ·rw [show aP x=12 by simp only [aP,gV,uj,b0,b1,b2,b3,b4,b5,b6,b7]<;>rfl];exact pK [] 10 864 (.c (dK b7) (.k 1 (aC b1) (.k 1 (aS b6) (.k 3 (aC b5) (.k 3 (aC b4) (.k 1 (aB b3) (.k 1 (aB b2) (.k 2 (aS b1) (.k 1 (aS b0) (.n 2 .nil)))))))))) (.c (lM x.name) (.c (jO x.neg x.num x.den a b) (.c (iP x.neg x.num x.den a b) (.c (dn x.op) .nil))))
       ·rw [show aP x=11 by simp only [aP,gV,uj,b0,b1,b2,b3,b4,b5,b6]<;>rfl];exact pK [] 8 224 (.c (dK b6) (.k 3 (aC b5) (.k 3 (aC b4) (.k 1 (aB b3) (.k 1 (aB b2) (.k 2 (aS b1) (.k 1 (aS b0) (.n 2 .nil)))))))) (.c (jO x.neg x.num x.den a b) (.c (iP x.neg x.num x.den a b) (.c (dn x.op) .nil)))
      ·rw [show aP x=11 by simp only [aP,gV,uj,b0,b1,b2,b3,b4,b5]<;>rfl];exact pK [] 8 160 (.k 1 (aB b5) (.k 3 (aC b4) (.k 1 (aB b3) (.k 1 (aB b2) (.k 2 (aS b1) (.k 1 (aS b0) (.n 2 .nil))))))) (.c (iP x.neg x.num x.den a b) (.c (dn x.op) .nil))
     ·rcases tf ((x.neg==false) && ((x.num== []) && ((x.den== []) && true))) with b5|b5
      ·rcases tf (uF x.name) with b6|b6
       ·rw [show aP x=0 by simp only [aP,gV,uj,b0,b1,b2,b3,b4,b5,b6]<;>rfl];exact pK [] 9 128 (.c (aS b6) (.k 1 (aC b1) (.k 1 (aS b5) (.k 3 (aB b4) (.k 1 (aB b3) (.k 1 (aB b2) (.k 2 (aS b1) (.k 1 (aS b0) (.n 2 .nil))))))))) (.c (lM x.name) (.c (dn x.op) .nil))
       ·rw [show aP x=12 by simp only [aP,gV,uj,b0,b1,b2,b3,b4,b5,b6]<;>rfl];exact pK [] 9 384 (.c (dK b6) (.k 1 (aC b1) (.k 1 (aS b5) (.k 3 (aB b4) (.k 1 (aB b3) (.k 1 (aB b2) (.k 2 (aS b1) (.k 1 (aS b0) (.n 2 .nil))))))))) (.c (lM x.name) (.c (dn x.op) .nil))
      ·rw [show aP x=11 by simp only [aP,gV,uj,b0,b1,b2,b3,b4,b5]<;>rfl];exact pK [] 7 64 (.c (dK b5) (.k 3 (aB b4) (.k 1 (aB b3) (.k 1 (aB b2) (.k 2 (aS b1) (.k 1 (aS b0) (.n 2 .nil))))))) (.c (dn x.op) .nil)
  ·rcases tf (x.name== []) with b2|b2
   ·rcases tf (x.op==((4:Nat):Int)) with b3|b3
    ·rcases tf ((x.neg==false) && ((x.num==(ai 0)) && ((x.den==(ai 1)) && true))) with b4|b4
     ·rw [show aP x=0 by simp only [aP,gV,uj,b0,b1,b2,b3,b4]<;>rfl];exact pK [] 8 26 (.k 1 (aB b1) (.k 2 (aC b4) (.k 3 (aC b3) (.k 1 (aS b2) (.k 1 (dK b1) (.k 1 (aS b0) (.n 2 .nil))))))) (.c (mF) (.c (dn x.op) .nil))
     ·rcases tf ((x.neg==false) && ((x.num==(ai 1)) && ((x.den==(ai 1)) && true))) with b5|b5
      ·rw [show aP x=0 by simp only [aP,gV,uj,b0,b1,b2,b3,b4,b5]<;>rfl];exact pK [] 8 10 (.k 1 (aB b1) (.k 1 (aS b5) (.k 3 (aB b4) (.k 3 (aC b3) (.k 1 (aS b2) (.k 1 (dK b1) (.k 1 (aS b0) (.n 2 .nil)))))))) (.c (EQ) (.c (mF) (.c (dn x.op) .nil)))
      ·rw [show aP x=11 by simp only [aP,gV,uj,b0,b1,b2,b3,b4,b5]<;>rfl];exact pK [] 6 42 (.c (dK b5) (.k 3 (aB b4) (.k 3 (aC b3) (.k 1 (aS b2) (.k 1 (dK b1) (.k 1 (aS b0) (.n 2 .nil))))))) (.c (EQ) (.c (mF) (.c (dn x.op) .nil)))
    ·rcases tf (BB x.op) with b4|b4
     ·rcases tf (jf x.neg x.num x.den) with b5|b5
      ·rw [show aP x=0 by simp only [aP,gV,uj,b0,b1,b2,b3,b4,b5]<;>rfl];exact pK [] 8 18 (.k 1 (aB b1) (.k 1 (aS b5) (.k 3 (aC b4) (.k 1 (aB b3) (.k 1 (aS b2) (.k 1 (dK b1) (.k 1 (aS b0) (.n 2 .nil)))))))) (.c (iP x.neg x.num x.den a b) (.c (dn x.op) .nil))
      ·rw [show aP x=11 by simp only [aP,gV,uj,b0,b1,b2,b3,b4,b5]<;>rfl];exact pK [] 6 50 (.c (dK b5) (.k 3 (aC b4) (.k 1 (aB b3) (.k 1 (aS b2) (.k 1 (dK b1) (.k 1 (aS b0) (.n 2 .nil))))))) (.c (iP x.neg x.num x.den a b) (.c (dn x.op) .nil))
     ·rcases tf (BF x.op) with b5|b5
      ·rcases tf (jf x.neg x.num x.den) with b6|b6
       ·rcases tf (decide (((0:Nat):Int)<(gz x.neg x.num x.den))) with b7|b7
        ·rw [show aP x=0 by simp only [aP,gV,uj,b0,b1,b2,b3,b4,b5,b6,b7]<;>rfl];exact pK [] 10 98 (.k 1 (aB b1) (.k 1 (aS b7) (.k 3 (aC b6) (.k 3 (aC b5) (.k 1 (aB b4) (.k 1 (aB b3) (.k 1 (aS b2) (.k 1 (dK b1) (.k 1 (aS b0) (.n 2 .nil)))))))))) (.c (jO x.neg x.num x.den a b) (.c (iP x.neg x.num x.den a b) (.c (dn x.op) .nil)))
        ·rw [show aP x=11 by simp only [aP,gV,uj,b0,b1,b2,b3,b4,b5,b6,b7]<;>rfl];exact pK [] 8 226 (.c (dK b7) (.k 3 (aC b6) (.k 3 (aC b5) (.k 1 (aB b4) (.k 1 (aB b3) (.k 1 (aS b2) (.k 1 (dK b1) (.k 1 (aS b0) (.n 2 .nil))))))))) (.c (jO x.neg x.num x.den a b) (.c (iP x.neg x.num x.den a b) (.c (dn x.op) .nil)))
       ·rw [show aP x=11 by simp only [aP,gV,uj,b0,b1,b2,b3,b4,b5,b6]<;>rfl];exact pK [] 8 162 (.k 1 (aB b6) (.k 3 (aC b5) (.k 1 (aB b4) (.k 1 (aB b3) (.k 1 (aS b2) (.k 1 (dK b1) (.k 1 (aS b0) (.n 2 .nil)))))))) (.c (iP x.neg x.num x.den a b) (.c (dn x.op) .nil))
      ·rcases tf ((x.neg==false) && ((x.num== []) && ((x.den== []) && true))) with b6|b6
       ·rw [show aP x=0 by simp only [aP,gV,uj,b0,b1,b2,b3,b4,b5,b6]<;>rfl];exact pK [] 9 2 (.k 1 (aB b1) (.k 1 (aS b6) (.k 3 (aB b5) (.k 1 (aB b4) (.k 1 (aB b3) (.k 1 (aS b2) (.k 1 (dK b1) (.k 1 (aS b0) (.n 2 .nil))))))))) (.c (dn x.op) .nil)
       ·rw [show aP x=11 by simp only [aP,gV,uj,b0,b1,b2,b3,b4,b5,b6]<;>rfl];exact pK [] 7 66 (.c (dK b6) (.k 3 (aB b5) (.k 1 (aB b4) (.k 1 (aB b3) (.k 1 (aS b2) (.k 1 (dK b1) (.k 1 (aS b0) (.n 2 .nil)))))))) (.c (dn x.op) .nil)
   ·rw [show aP x=11 by simp only [aP,gV,uj,b0,b1,b2]<;>rfl];exact pK [] 3 6 (.c (dK b2) (.k 1 (dK b1) (.k 1 (aS b0) (.n 2 .nil)))) (.c (dn x.op) .nil)
 ·rw [show aP x=11 by simp only [aP,gV,uj,b0]<;>rfl];exact pK [] 2 3 (.k 1 (dK b0) (.n 2 .nil)) (.c (dn x.op) .nil)
theorem Le (x:Nd) (a:x.sm):CO 74 [.agg (iE x)] (.ret (.bool (gV x))):=by
 rcases tf (x.op==((4:Nat):Int)) with b0|b0
 ·rcases tf ((x.neg==false) && ((x.num==(ai 0)) && ((x.den==(ai 1)) && true))) with b1|b1
  ·rw [show gV x=true by simp only [gV,uj,b0,b1]<;>rfl];exact pK [] 2 3 (.c (aC b1) (.k 3 (aC b0) (.n 1 .nil))) (.c (abv) .nil)
  ·rw [show gV x=((x.neg==false) && ((x.num==(ai 1)) && ((x.den==(ai 1)) && true))) by simp only [gV,uj,b0,b1]<;>rfl];exact pK [] 2 1 (.k 3 (aB b1) (.k 3 (aC b0) (.n 1 .nil))) (.c (aia) (.c (abv) .nil))
 ·rcases tf (BB x.op) with b1|b1
  ·rw [show gV x=(jf x.neg x.num x.den) by simp only [gV,uj,b0,b1]<;>rfl];exact pK [] 2 2 (.k 3 (aC b1) (.k 1 (aB b0) (.n 1 .nil))) (.c (iK x.neg x.num x.den a.1 a.2) (.c (BR x.op) .nil))
  ·rcases tf (BF x.op) with b2|b2
   ·rcases tf (jf x.neg x.num x.den) with b3|b3
    ·rw [show gV x=(decide (((0:Nat):Int)<(gz x.neg x.num x.den))) by simp only [gV,uj,b0,b1,b2,b3]<;>rfl];exact pK [] 4 12 (.k 3 (aC b3) (.k 3 (aC b2) (.k 1 (aB b1) (.k 1 (aB b0) (.n 1 .nil))))) (.c (qM x.neg x.num x.den a.1 a.2) (.c (iK x.neg x.num x.den a.1 a.2) (.c (JD x.op) (.c (BR x.op) .nil))))
    ·rw [show gV x=false by simp only [gV,uj,b0,b1,b2,b3]<;>rfl];exact pK [] 4 4 (.c (aB b3) (.k 3 (aC b2) (.k 1 (aB b1) (.k 1 (aB b0) (.n 1 .nil))))) (.c (iK x.neg x.num x.den a.1 a.2) (.c (JD x.op) (.c (BR x.op) .nil)))
   ·rw [show gV x=((x.neg==false) && ((x.num== []) && ((x.den== []) && true))) by simp only [gV,uj,b0,b1,b2]<;>rfl];exact pK [] 3 0 (.k 3 (aB b2) (.k 1 (aB b1) (.k 1 (aB b0) (.n 1 .nil)))) (.c (JD x.op) (.c (BR x.op) .nil))
def aH (l:List Nd):List AV:=l.flatMap iE
theorem akY {nt:Nat} (c:35≤nt) (l:List Nd) (b:Bool) (k d:Nat) (w:Int) (x:Nd) (r:List Nd) (a:(ε ((δ (k:Int))*5) (aH l))=iE x++aH r) (h0:lit true (!(w==((0:Nat):Int)))=true) (e:(decide (((0:Nat):Int)≤(k:Int)))=true) (g:(decide ((k:Int)<(l.length:Int)))=true) (i:lit true (decide ((k:Int)<(l.length:Int)))=true) (f:CO 52 [.agg [ω x.op,.bool x.neg,.str x.num,.str x.den,.str x.name]] (.ret (ω w))):ψ nt f21 ⟨[(10,.sl (aH l) l.length b),(11,ω (l.length:Int)),(12,ω (k:Int)),(3,ω (d:Int))],[],.dead,[]⟩ (.ret) ⟨[(2,ω w)],[],.dead,[]⟩:=
 have h:ψ nt f21 ⟨[(10,.sl (aH l) l.length b),(11,ω (l.length:Int)),(12,ω (k:Int)),(3,ω (d:Int))],[],.dead,[]⟩ (.ret) ⟨[(2,ω w)],[(0,⟨[ω x.op,.bool x.neg,.str x.num,.str x.den,.str x.name],0,false,0,0,true⟩)],.dead,[]⟩:=pJ 21 [] 2 3 (.c h0 (.k 11 e (.c g (.c i .nil)))) (.c f (.v 14 (.ppt a) .nil)) c
 h.forgetD 0 ⟨[ω x.op,.bool x.neg,.str x.num,.str x.den,.str x.name],0,false,0,0,true⟩ (by intro v h;cases h) (by decide) rfl ⟨Fz.same rfl,trivial⟩ rfl rfl
theorem akZ {nt:Nat} (c:35≤nt) (l:List Nd) (b:Bool) (k d:Nat) (w:Int) (x:Nd) (r:List Nd) (a:(ε ((δ (k:Int))*5) (aH l))=iE x++aH r) (h0:lit true (decide ((γ .i64 ((d:Int) - (τ (η (ε ((0+((δ x.op)*5))+1) jQ) .dead))))<((0:Nat):Int)))=true) (g:(chk (.int .i64) (η (ε ((0+((δ x.op)*5))+1) jQ) .dead))=true) (f:(decide (((0:Nat):Int)≤x.op))=true) (i:(decide (x.op<((25:Nat):Int)))=true) (j:lit false (!(w==((0:Nat):Int)))=true) (o:(decide (((0:Nat):Int)≤(k:Int)))=true) (e:(decide ((k:Int)<(l.length:Int)))=true) (n:lit true (decide ((k:Int)<(l.length:Int)))=true) (m:CO 52 [.agg [ω x.op,.bool x.neg,.str x.num,.str x.den,.str x.name]] (.ret (ω w))):ψ nt f21 ⟨[(10,.sl (aH l) l.length b),(11,ω (l.length:Int)),(12,ω (k:Int)),(3,ω (d:Int))],[],.dead,[]⟩ (.ret) ⟨[(2,ω 11)],[],.dead,[]⟩:=
 have h:ψ nt f21 ⟨[(10,.sl (aH l) l.length b),(11,ω (l.length:Int)),(12,ω (k:Int)),(3,ω (d:Int))],[],.dead,[]⟩ (.ret) ⟨[(2,ω 11)],[(0,⟨[ω x.op,.bool x.neg,.str x.num,.str x.den,.str x.name],0,false,0,0,true⟩)],.dead,[]⟩:=pJ 21 [] 3 5 (.c h0 (.c g (.c f (.c i (.k 1 j (.k 11 o (.c e (.c n .nil)))))))) (.c m (.v 14 (.ppt a) .nil)) c
 h.forgetD 0 ⟨[ω x.op,.bool x.neg,.str x.num,.str x.den,.str x.name],0,false,0,0,true⟩ (by intro v h;cases h) (by decide) rfl ⟨Fz.same rfl,trivial⟩ rfl rfl
theorem ak0 {nt:Nat} (c:35≤nt) (l:List Nd) (a:Bool) (k d:Nat) (w:Int) (x:Nd) (r:List Nd) (b:(ε ((δ (k:Int))*5) (aH l))=iE x++aH r) (h0:lit false (decide ((γ .i64 ((d:Int) - (τ (η (ε ((0+((δ x.op)*5))+1) jQ) .dead))))<((0:Nat):Int)))=true) (g:(chk (.int .i64) (η (ε ((0+((δ x.op)*5))+1) jQ) .dead))=true) (f:(decide (((0:Nat):Int)≤x.op))=true) (i:(decide (x.op<((25:Nat):Int)))=true) (j:lit false (!(w==((0:Nat):Int)))=true) (o:(decide (((0:Nat):Int)≤(k:Int)))=true) (e:(decide ((k:Int)<(l.length:Int)))=true) (n:lit true (decide ((k:Int)<(l.length:Int)))=true) (m:CO 52 [.agg [ω x.op,.bool x.neg,.str x.num,.str x.den,.str x.name]] (.ret (ω w))):ψ nt f21 ⟨[(10,.sl (aH l) l.length a),(11,ω (l.length:Int)),(12,ω (k:Int)),(3,ω (d:Int))],[],.dead,[]⟩ (.normal) ⟨[(10,.sl (aH l) l.length a),(11,ω (l.length:Int)),(12,ω (γ .i64 ((k:Int)+((1:Nat):Int)))),(3,ω (γ .i64 ((γ .i64 ((d:Int) - (τ (η (ε ((0+((δ x.op)*5))+1) jQ) .dead))))+((1:Nat):Int))))],[],.dead,[]⟩:=
 have h:ψ nt f21 ⟨[(10,.sl (aH l) l.length a),(11,ω (l.length:Int)),(12,ω (k:Int)),(3,ω (d:Int))],[],.dead,[]⟩ (.normal) ⟨[(10,.sl (aH l) l.length a),(11,ω (l.length:Int)),(12,ω (γ .i64 ((k:Int)+((1:Nat):Int)))),(3,ω (γ .i64 ((γ .i64 ((d:Int) - (τ (η (ε ((0+((δ x.op)*5))+1) jQ) .dead))))+((1:Nat):Int))))],[(0,⟨[ω x.op,.bool x.neg,.str x.num,.str x.den,.str x.name],0,false,0,0,true⟩)],.dead,[]⟩:=pJ 21 [] 3 1 (.c h0 (.c g (.c f (.c i (.k 1 j (.k 11 o (.c e (.c n .nil)))))))) (.c m (.v 14 (.ppt b) .nil)) c
 h.forgetD 0 ⟨[ω x.op,.bool x.neg,.str x.num,.str x.den,.str x.name],0,false,0,0,true⟩ (by intro v h;cases h) (by decide) rfl ⟨Fz.same rfl,Fz.same rfl,Fz.same rfl,Fz.same rfl,trivial⟩ rfl rfl
theorem Uw {nt:Nat} (a:35≤nt) (l:List Nd) (b:Bool) (k d:Nat) (w:Int) (h0:lit false (decide ((k:Int)<(l.length:Int)))=true):ψ nt f21 ⟨[(10,.sl (aH l) l.length b),(11,ω (l.length:Int)),(12,ω (k:Int)),(3,ω (d:Int))],[],.dead,[]⟩ (.exit 0) ⟨[(3,ω (d:Int))],[],.dead,[]⟩:=pJ 21 [] 1 0 (.c h0 .nil) (.nil) a
theorem afU (l:List Nd) (a:Bool) (d:Nat) (h0:lit true (decide (((60:Nat):Int)<(l.length:Int)))=true):CO 21 [.sl (aH l) l.length a] (.ret (ω 2)):=pK [0] 1 1 (.c h0 .nil) (.nil)
theorem afV (l:List Nd) (a:Bool) (d:Nat) (h0:lit true (!((d:Int)==((1:Nat):Int)))=true) (c:lit false (decide (((60:Nat):Int)<(l.length:Int)))=true) (b:aI prog ap [] 35 (.block 0 (.loop (ae 0 (af f21)))) ⟨[(0,.sl (aH l) l.length a),(2,ω 0),(3,ω 0),(5,.dead),(6,.dead),(9,.bool (decide (((60:Nat):Int)<(l.length:Int)))),(10,.sl (aH l) l.length a),(11,ω (l.length:Int)),(12,ω 0),(13,.dead),(19,.dead),(29,.dead),(34,.dead)],[],.dead,[]⟩ (.normal) ⟨[(3,ω (d:Int))],[],.dead,[]⟩):CO 21 [.sl (aH l) l.length a] (.ret (ω 11)):=pK [0] 2 2 (.c h0 (.c c .nil)) (.l b .nil)
theorem afW (l:List Nd) (a:Bool) (d:Nat) (h0:lit false (!((d:Int)==((1:Nat):Int)))=true) (c:lit false (decide (((60:Nat):Int)<(l.length:Int)))=true) (b:aI prog ap [] 35 (.block 0 (.loop (ae 0 (af f21)))) ⟨[(0,.sl (aH l) l.length a),(2,ω 0),(3,ω 0),(5,.dead),(6,.dead),(9,.bool (decide (((60:Nat):Int)<(l.length:Int)))),(10,.sl (aH l) l.length a),(11,ω (l.length:Int)),(12,ω 0),(13,.dead),(19,.dead),(29,.dead),(34,.dead)],[],.dead,[]⟩ (.normal) ⟨[(3,ω (d:Int))],[],.dead,[]⟩):CO 21 [.sl (aH l) l.length a] (.ret (ω 0)):=pK [0] 2 0 (.c h0 (.c c .nil)) (.l b .nil)
theorem afX (l:List Nd) (a:Bool) (w:Int) (h0:lit false (decide (((60:Nat):Int)<(l.length:Int)))=true) (b:aI prog ap [] 35 (.block 0 (.loop (ae 0 (af f21)))) ⟨[(0,.sl (aH l) l.length a),(2,ω 0),(3,ω 0),(5,.dead),(6,.dead),(9,.bool (decide (((60:Nat):Int)<(l.length:Int)))),(10,.sl (aH l) l.length a),(11,ω (l.length:Int)),(12,ω 0),(13,.dead),(19,.dead),(29,.dead),(34,.dead)],[],.dead,[]⟩ (.ret) ⟨[(2,ω w)],[],.dead,[]⟩):CO 21 [.sl (aH l) l.length a] (.ret (ω w)):=pK [0] 1 0 (.c h0 .nil) (.l b .nil)
theorem aiO {nt:Nat} (c:69≤nt) (l:List Nd) (b:Bool) (k d:Nat) (e n:Bool) (x:Nd) (r:List Nd) (a:(ε ((δ (k:Int))*5) (aH l))=iE x++aH r) (h0:lit true (decide (x.op<((1:Nat):Int)))=true) (j:(decide (((0:Nat):Int)≤(k:Int)))=true) (i:(decide ((k:Int)<(l.length:Int)))=true) (m:lit true (decide ((k:Int)<(l.length:Int)))=true) (g:CO 32 [ω x.op] (.ret (.bool (jg x.op)))) (f:CO 74 [.agg [ω x.op,.bool x.neg,.str x.num,.str x.den,.str x.name]] (.ret (.bool e))):ψ nt f48 ⟨[(0,.sl (aH l) l.length b),(4,ω (k:Int)),(3,ω (d:Int))],[],.dead,[]⟩ (.ret) ⟨[(2,ω 11)],[],.dead,[]⟩:=
 have h:ψ nt f48 ⟨[(0,.sl (aH l) l.length b),(4,ω (k:Int)),(3,ω (d:Int))],[],.dead,[]⟩ (.ret) ⟨[(2,ω 11)],[(0,⟨[ω x.op,.bool x.neg,.str x.num,.str x.den,.str x.name],0,false,0,0,true⟩)],.dead,[]⟩:=pJ 48 [] 5 31 (.k 3 h0 (.k 13 j (.c i (.c m .nil)))) (.c f (.c g (.v 21 (.ppt a) .nil))) c
 h.forgetD 0 ⟨[ω x.op,.bool x.neg,.str x.num,.str x.den,.str x.name],0,false,0,0,true⟩ (by intro v h;cases h) (by decide) rfl ⟨Fz.same rfl,trivial⟩ rfl rfl
theorem aiP {nt:Nat} (c:69≤nt) (l:List Nd) (b:Bool) (k d:Nat) (e o:Bool) (x:Nd) (r:List Nd) (a:(ε ((δ (k:Int))*5) (aH l))=iE x++aH r) (h0:lit true (decide (((24:Nat):Int)<x.op))=true) (m:lit false (decide (x.op<((1:Nat):Int)))=true) (j:(decide (((0:Nat):Int)≤(k:Int)))=true) (n:(decide ((k:Int)<(l.length:Int)))=true) (f:lit true (decide ((k:Int)<(l.length:Int)))=true) (i:CO 32 [ω x.op] (.ret (.bool (jg x.op)))) (g:CO 74 [.agg [ω x.op,.bool x.neg,.str x.num,.str x.den,.str x.name]] (.ret (.bool e))):ψ nt f48 ⟨[(0,.sl (aH l) l.length b),(4,ω (k:Int)),(3,ω (d:Int))],[],.dead,[]⟩ (.ret) ⟨[(2,ω 11)],[],.dead,[]⟩:=
 have h:ψ nt f48 ⟨[(0,.sl (aH l) l.length b),(4,ω (k:Int)),(3,ω (d:Int))],[],.dead,[]⟩ (.ret) ⟨[(2,ω 11)],[(0,⟨[ω x.op,.bool x.neg,.str x.num,.str x.den,.str x.name],0,false,0,0,true⟩)],.dead,[]⟩:=pJ 48 [] 5 29 (.k 2 h0 (.k 1 m (.k 13 j (.c n (.c f .nil))))) (.c g (.c i (.v 21 (.ppt a) .nil))) c
 h.forgetD 0 ⟨[ω x.op,.bool x.neg,.str x.num,.str x.den,.str x.name],0,false,0,0,true⟩ (by intro v h;cases h) (by decide) rfl ⟨Fz.same rfl,trivial⟩ rfl rfl
theorem aiQ {nt:Nat} (e:69≤nt) (l:List Nd) (c:Bool) (k d:Nat) (b p:Bool) (x:Nd) (r:List Nd) (a:(ε ((δ (k:Int))*5) (aH l))=iE x++aH r) (h0:lit true (!b)=true) (i:lit false (decide (((24:Nat):Int)<x.op))=true) (g:lit false (decide (x.op<((1:Nat):Int)))=true) (j:(decide (((0:Nat):Int)≤(k:Int)))=true) (m:(decide ((k:Int)<(l.length:Int)))=true) (o:lit true (decide ((k:Int)<(l.length:Int)))=true) (n:CO 32 [ω x.op] (.ret (.bool (jg x.op)))) (f:CO 74 [.agg [ω x.op,.bool x.neg,.str x.num,.str x.den,.str x.name]] (.ret (.bool b))):ψ nt f48 ⟨[(0,.sl (aH l) l.length c),(4,ω (k:Int)),(3,ω (d:Int))],[],.dead,[]⟩ (.ret) ⟨[(2,ω 11)],[],.dead,[]⟩:=
 have h:ψ nt f48 ⟨[(0,.sl (aH l) l.length c),(4,ω (k:Int)),(3,ω (d:Int))],[],.dead,[]⟩ (.ret) ⟨[(2,ω 11)],[(0,⟨[ω x.op,.bool x.neg,.str x.num,.str x.den,.str x.name],0,false,0,0,true⟩)],.dead,[]⟩:=pJ 48 [] 5 25 (.k 1 h0 (.c i (.k 1 g (.k 13 j (.c m (.c o .nil)))))) (.c f (.c n (.v 21 (.ppt a) .nil))) e
 h.forgetD 0 ⟨[ω x.op,.bool x.neg,.str x.num,.str x.den,.str x.name],0,false,0,0,true⟩ (by intro v h;cases h) (by decide) rfl ⟨Fz.same rfl,trivial⟩ rfl rfl
theorem aiR {nt:Nat} (e:69≤nt) (l:List Nd) (c:Bool) (k d:Nat) (b s:Bool) (x:Nd) (r:List Nd) (a:(ε ((δ (k:Int))*5) (aH l))=iE x++aH r) (h0:lit true (!(x.name== []))=true) (j:lit true (!(jg x.op))=true) (i:lit false (!b)=true) (m:lit false (decide (((24:Nat):Int)<x.op))=true) (n:lit false (decide (x.op<((1:Nat):Int)))=true) (q:(decide (((0:Nat):Int)≤(k:Int)))=true) (g:(decide ((k:Int)<(l.length:Int)))=true) (p:lit true (decide ((k:Int)<(l.length:Int)))=true) (o:CO 32 [ω x.op] (.ret (.bool (jg x.op)))) (f:CO 74 [.agg [ω x.op,.bool x.neg,.str x.num,.str x.den,.str x.name]] (.ret (.bool b))):ψ nt f48 ⟨[(0,.sl (aH l) l.length c),(4,ω (k:Int)),(3,ω (d:Int))],[],.dead,[]⟩ (.ret) ⟨[(2,ω 11)],[],.dead,[]⟩:=
 have h:ψ nt f48 ⟨[(0,.sl (aH l) l.length c),(4,ω (k:Int)),(3,ω (d:Int))],[],.dead,[]⟩ (.ret) ⟨[(2,ω 11)],[(0,⟨[ω x.op,.bool x.neg,.str x.num,.str x.den,.str x.name],0,false,0,0,true⟩)],.dead,[]⟩:=pJ 48 [] 6 49 (.c h0 (.k 1 j (.c i (.c m (.k 1 n (.k 13 q (.c g (.c p .nil)))))))) (.c f (.c o (.v 21 (.ppt a) .nil))) e
 h.forgetD 0 ⟨[ω x.op,.bool x.neg,.str x.num,.str x.den,.str x.name],0,false,0,0,true⟩ (by intro v h;cases h) (by decide) rfl ⟨Fz.same rfl,trivial⟩ rfl rfl
theorem aiS {nt:Nat} (e:69≤nt) (l:List Nd) (c:Bool) (k d:Nat) (b u:Bool) (x:Nd) (r:List Nd) (a:(ε ((δ (k:Int))*5) (aH l))=iE x++aH r) (h0:lit true (decide ((d:Int)<(((eU x.op):Nat):Int)))=true) (p:lit false (jg x.op)=true) (o:lit false (!(x.name== []))=true) (q:lit true (!(jg x.op))=true) (s:lit false (!b)=true) (y:lit false (decide (((24:Nat):Int)<x.op))=true) (m:lit false (decide (x.op<((1:Nat):Int)))=true) (w:(decide (((0:Nat):Int)≤(k:Int)))=true) (g:(decide ((k:Int)<(l.length:Int)))=true) (n:lit true (decide ((k:Int)<(l.length:Int)))=true) (t:CO 32 [ω x.op] (.ret (.bool (jg x.op)))) (f:CO 74 [.agg [ω x.op,.bool x.neg,.str x.num,.str x.den,.str x.name]] (.ret (.bool b))) (j:CO 75 [.str x.name] (.ret (.bool u))) (i:CO 30 [ω x.op] (.ret (ω (((eU x.op):Nat):Int)))):ψ nt f48 ⟨[(0,.sl (aH l) l.length c),(4,ω (k:Int)),(3,ω (d:Int))],[],.dead,[]⟩ (.ret) ⟨[(2,ω 11)],[],.dead,[]⟩:=
 have h:ψ nt f48 ⟨[(0,.sl (aH l) l.length c),(4,ω (k:Int)),(3,ω (d:Int))],[],.dead,[]⟩ (.ret) ⟨[(2,ω 11)],[(0,⟨[ω x.op,.bool x.neg,.str x.num,.str x.den,.str x.name],0,false,0,0,true⟩)],.dead,[]⟩:=pJ 48 [] 9 273 (.c h0 (.k 2 p (.k 1 o (.k 1 q (.c s (.c y (.k 1 m (.k 13 w (.c g (.c n .nil)))))))))) (.c i (.c j (.c f (.c t (.v 21 (.ppt a) .nil))))) e
 h.forgetD 0 ⟨[ω x.op,.bool x.neg,.str x.num,.str x.den,.str x.name],0,false,0,0,true⟩ (by intro v h;cases h) (by decide) rfl ⟨Fz.same rfl,trivial⟩ rfl rfl
theorem aiT {nt:Nat} (e:69≤nt) (l:List Nd) (a:Bool) (k d:Nat) (c u:Bool) (x:Nd) (r:List Nd) (b:(ε ((δ (k:Int))*5) (aH l))=iE x++aH r) (h0:lit false (decide ((d:Int)<(((eU x.op):Nat):Int)))=true) (p:lit false (jg x.op)=true) (o:lit false (!(x.name== []))=true) (q:lit true (!(jg x.op))=true) (s:lit false (!c)=true) (y:lit false (decide (((24:Nat):Int)<x.op))=true) (m:lit false (decide (x.op<((1:Nat):Int)))=true) (w:(decide (((0:Nat):Int)≤(k:Int)))=true) (g:(decide ((k:Int)<(l.length:Int)))=true) (n:lit true (decide ((k:Int)<(l.length:Int)))=true) (t:CO 32 [ω x.op] (.ret (.bool (jg x.op)))) (f:CO 74 [.agg [ω x.op,.bool x.neg,.str x.num,.str x.den,.str x.name]] (.ret (.bool c))) (j:CO 75 [.str x.name] (.ret (.bool u))) (i:CO 30 [ω x.op] (.ret (ω (((eU x.op):Nat):Int)))):ψ nt f48 ⟨[(0,.sl (aH l) l.length a),(4,ω (k:Int)),(3,ω (d:Int))],[],.dead,[]⟩ (.normal) ⟨[(0,.sl (aH l) l.length a),(4,ω (γ .i64 ((k:Int)+((1:Nat):Int)))),(3,ω (γ .i64 ((γ .i64 ((d:Int) - (((eU x.op):Nat):Int)))+((1:Nat):Int))))],[],.dead,[]⟩:=
 have h:ψ nt f48 ⟨[(0,.sl (aH l) l.length a),(4,ω (k:Int)),(3,ω (d:Int))],[],.dead,[]⟩ (.normal) ⟨[(0,.sl (aH l) l.length a),(4,ω (γ .i64 ((k:Int)+((1:Nat):Int)))),(3,ω (γ .i64 ((γ .i64 ((d:Int) - (((eU x.op):Nat):Int)))+((1:Nat):Int))))],[(0,⟨[ω x.op,.bool x.neg,.str x.num,.str x.den,.str x.name],0,false,0,0,true⟩)],.dead,[]⟩:=pJ 48 [] 9 17 (.c h0 (.k 2 p (.k 1 o (.k 1 q (.c s (.c y (.k 1 m (.k 13 w (.c g (.c n .nil)))))))))) (.c i (.c j (.c f (.c t (.v 21 (.ppt b) .nil))))) e
 h.forgetD 0 ⟨[ω x.op,.bool x.neg,.str x.num,.str x.den,.str x.name],0,false,0,0,true⟩ (by intro v h;cases h) (by decide) rfl ⟨Fz.same rfl,Fz.same rfl,Fz.same rfl,trivial⟩ rfl rfl
theorem aiU {nt:Nat} (f:69≤nt) (l:List Nd) (e:Bool) (k d:Nat) (b c:Bool) (x:Nd) (r:List Nd) (a:(ε ((δ (k:Int))*5) (aH l))=iE x++aH r) (h0:lit true (!c)=true) (o:lit true (jg x.op)=true) (n:lit false (!(jg x.op))=true) (p:lit false (!b)=true) (q:lit false (decide (((24:Nat):Int)<x.op))=true) (u:lit false (decide (x.op<((1:Nat):Int)))=true) (m:(decide (((0:Nat):Int)≤(k:Int)))=true) (t:(decide ((k:Int)<(l.length:Int)))=true) (i:lit true (decide ((k:Int)<(l.length:Int)))=true) (s:CO 32 [ω x.op] (.ret (.bool (jg x.op)))) (g:CO 74 [.agg [ω x.op,.bool x.neg,.str x.num,.str x.den,.str x.name]] (.ret (.bool b))) (j:CO 75 [.str x.name] (.ret (.bool c))):ψ nt f48 ⟨[(0,.sl (aH l) l.length e),(4,ω (k:Int)),(3,ω (d:Int))],[],.dead,[]⟩ (.ret) ⟨[(2,ω 12)],[],.dead,[]⟩:=
 have h:ψ nt f48 ⟨[(0,.sl (aH l) l.length e),(4,ω (k:Int)),(3,ω (d:Int))],[],.dead,[]⟩ (.ret) ⟨[(2,ω 12)],[(0,⟨[ω x.op,.bool x.neg,.str x.num,.str x.den,.str x.name],0,false,0,0,true⟩)],.dead,[]⟩:=pJ 48 [] 8 193 (.c h0 (.c o (.k 2 n (.c p (.c q (.k 1 u (.k 13 m (.c t (.c i .nil))))))))) (.c j (.c g (.c s (.v 21 (.ppt a) .nil)))) f
 h.forgetD 0 ⟨[ω x.op,.bool x.neg,.str x.num,.str x.den,.str x.name],0,false,0,0,true⟩ (by intro v h;cases h) (by decide) rfl ⟨Fz.same rfl,trivial⟩ rfl rfl
theorem aiV {nt:Nat} (f:69≤nt) (l:List Nd) (e:Bool) (k d:Nat) (b c:Bool) (x:Nd) (r:List Nd) (a:(ε ((δ (k:Int))*5) (aH l))=iE x++aH r) (h0:lit true (decide ((d:Int)<(((eU x.op):Nat):Int)))=true) (q:lit false (!c)=true) (p:lit true (jg x.op)=true) (s:lit false (!(jg x.op))=true) (t:lit false (!b)=true) (y:lit false (decide (((24:Nat):Int)<x.op))=true) (n:lit false (decide (x.op<((1:Nat):Int)))=true) (w:(decide (((0:Nat):Int)≤(k:Int)))=true) (i:(decide ((k:Int)<(l.length:Int)))=true) (o:lit true (decide ((k:Int)<(l.length:Int)))=true) (u:CO 32 [ω x.op] (.ret (.bool (jg x.op)))) (g:CO 74 [.agg [ω x.op,.bool x.neg,.str x.num,.str x.den,.str x.name]] (.ret (.bool b))) (m:CO 75 [.str x.name] (.ret (.bool c))) (j:CO 30 [ω x.op] (.ret (ω (((eU x.op):Nat):Int)))):ψ nt f48 ⟨[(0,.sl (aH l) l.length e),(4,ω (k:Int)),(3,ω (d:Int))],[],.dead,[]⟩ (.ret) ⟨[(2,ω 11)],[],.dead,[]⟩:=
 have h:ψ nt f48 ⟨[(0,.sl (aH l) l.length e),(4,ω (k:Int)),(3,ω (d:Int))],[],.dead,[]⟩ (.ret) ⟨[(2,ω 11)],[(0,⟨[ω x.op,.bool x.neg,.str x.num,.str x.den,.str x.name],0,false,0,0,true⟩)],.dead,[]⟩:=pJ 48 [] 9 321 (.c h0 (.k 1 q (.c p (.k 2 s (.c t (.c y (.k 1 n (.k 13 w (.c i (.c o .nil)))))))))) (.c j (.c m (.c g (.c u (.v 21 (.ppt a) .nil))))) f
 h.forgetD 0 ⟨[ω x.op,.bool x.neg,.str x.num,.str x.den,.str x.name],0,false,0,0,true⟩ (by intro v h;cases h) (by decide) rfl ⟨Fz.same rfl,trivial⟩ rfl rfl
theorem aiW {nt:Nat} (f:69≤nt) (l:List Nd) (a:Bool) (k d:Nat) (c e:Bool) (x:Nd) (r:List Nd) (b:(ε ((δ (k:Int))*5) (aH l))=iE x++aH r) (h0:lit false (decide ((d:Int)<(((eU x.op):Nat):Int)))=true) (q:lit false (!e)=true) (p:lit true (jg x.op)=true) (s:lit false (!(jg x.op))=true) (t:lit false (!c)=true) (y:lit false (decide (((24:Nat):Int)<x.op))=true) (n:lit false (decide (x.op<((1:Nat):Int)))=true) (w:(decide (((0:Nat):Int)≤(k:Int)))=true) (i:(decide ((k:Int)<(l.length:Int)))=true) (o:lit true (decide ((k:Int)<(l.length:Int)))=true) (u:CO 32 [ω x.op] (.ret (.bool (jg x.op)))) (g:CO 74 [.agg [ω x.op,.bool x.neg,.str x.num,.str x.den,.str x.name]] (.ret (.bool c))) (m:CO 75 [.str x.name] (.ret (.bool e))) (j:CO 30 [ω x.op] (.ret (ω (((eU x.op):Nat):Int)))):ψ nt f48 ⟨[(0,.sl (aH l) l.length a),(4,ω (k:Int)),(3,ω (d:Int))],[],.dead,[]⟩ (.normal) ⟨[(0,.sl (aH l) l.length a),(4,ω (γ .i64 ((k:Int)+((1:Nat):Int)))),(3,ω (γ .i64 ((γ .i64 ((d:Int) - (((eU x.op):Nat):Int)))+((1:Nat):Int))))],[],.dead,[]⟩:=
 have h:ψ nt f48 ⟨[(0,.sl (aH l) l.length a),(4,ω (k:Int)),(3,ω (d:Int))],[],.dead,[]⟩ (.normal) ⟨[(0,.sl (aH l) l.length a),(4,ω (γ .i64 ((k:Int)+((1:Nat):Int)))),(3,ω (γ .i64 ((γ .i64 ((d:Int) - (((eU x.op):Nat):Int)))+((1:Nat):Int))))],[(0,⟨[ω x.op,.bool x.neg,.str x.num,.str x.den,.str x.name],0,false,0,0,true⟩)],.dead,[]⟩:=pJ 48 [] 9 65 (.c h0 (.k 1 q (.c p (.k 2 s (.c t (.c y (.k 1 n (.k 13 w (.c i (.c o .nil)))))))))) (.c j (.c m (.c g (.c u (.v 21 (.ppt b) .nil))))) f
 h.forgetD 0 ⟨[ω x.op,.bool x.neg,.str x.num,.str x.den,.str x.name],0,false,0,0,true⟩ (by intro v h;cases h) (by decide) rfl ⟨Fz.same rfl,Fz.same rfl,Fz.same rfl,trivial⟩ rfl rfl
theorem SE {nt:Nat} (a:69≤nt) (l:List Nd) (b:Bool) (k d:Nat) (c e:Bool) (h0:lit false (decide ((k:Int)<(l.length:Int)))=true):ψ nt f48 ⟨[(0,.sl (aH l) l.length b),(4,ω (k:Int)),(3,ω (d:Int))],[],.dead,[]⟩ (.exit 0) ⟨[(3,ω (d:Int))],[],.dead,[]⟩:=pJ 48 [] 1 0 (.c h0 .nil) (.nil) a
theorem adH (l:List Nd) (a:Bool) (d:Nat) (h0:lit true (decide (((60:Nat):Int)<(l.length:Int)))=true):CO 48 [.sl (aH l) l.length a] (.ret (ω 2)):=pK [0] 1 1 (.c h0 .nil) (.nil)
theorem adI (l:List Nd) (a:Bool) (d:Nat) (h0:lit true (!((d:Int)==((1:Nat):Int)))=true) (c:lit false (decide (((60:Nat):Int)<(l.length:Int)))=true) (b:aI prog ap [] 69 (.block 0 (.loop (ae 0 (af f48)))) ⟨[(0,.sl (aH l) l.length a),(2,ω 0),(3,ω 0),(4,ω 0),(5,.dead),(6,.dead),(7,.dead),(8,.dead),(9,.dead),(12,.bool (decide (((60:Nat):Int)<(l.length:Int)))),(16,.dead),(48,.dead),(56,.dead),(62,.dead),(68,.dead)],[],.dead,[]⟩ (.normal) ⟨[(3,ω (d:Int))],[],.dead,[]⟩):CO 48 [.sl (aH l) l.length a] (.ret (ω 11)):=pK [0] 2 2 (.c h0 (.c c .nil)) (.l b .nil)
theorem adJ (l:List Nd) (a:Bool) (d:Nat) (h0:lit false (!((d:Int)==((1:Nat):Int)))=true) (c:lit false (decide (((60:Nat):Int)<(l.length:Int)))=true) (b:aI prog ap [] 69 (.block 0 (.loop (ae 0 (af f48)))) ⟨[(0,.sl (aH l) l.length a),(2,ω 0),(3,ω 0),(4,ω 0),(5,.dead),(6,.dead),(7,.dead),(8,.dead),(9,.dead),(12,.bool (decide (((60:Nat):Int)<(l.length:Int)))),(16,.dead),(48,.dead),(56,.dead),(62,.dead),(68,.dead)],[],.dead,[]⟩ (.normal) ⟨[(3,ω (d:Int))],[],.dead,[]⟩):CO 48 [.sl (aH l) l.length a] (.ret (ω 0)):=pK [0] 2 0 (.c h0 (.c c .nil)) (.l b .nil)
theorem adK (l:List Nd) (a:Bool) (w:Int) (h0:lit false (decide (((60:Nat):Int)<(l.length:Int)))=true) (b:aI prog ap [] 69 (.block 0 (.loop (ae 0 (af f48)))) ⟨[(0,.sl (aH l) l.length a),(2,ω 0),(3,ω 0),(4,ω 0),(5,.dead),(6,.dead),(7,.dead),(8,.dead),(9,.dead),(12,.bool (decide (((60:Nat):Int)<(l.length:Int)))),(16,.dead),(48,.dead),(56,.dead),(62,.dead),(68,.dead)],[],.dead,[]⟩ (.ret) ⟨[(2,ω w)],[],.dead,[]⟩):CO 48 [.sl (aH l) l.length a] (.ret (ω w)):=pK [0] 1 0 (.c h0 .nil) (.l b .nil)
theorem La (x:Nd) (r:List Nd):aH (x::r)=iE x++aH r:=rfl
theorem Qa (a b:List Nd):aH (a++b)=aH a++aH b:=by unfold aH;rw [List.flatMap_append]
theorem BX (l:List Nd):(aH l).length=l.length*5:=by
 induction l with
 |nil=>rfl
 |cons x r ih=>rw [La,θ,ih,ν];simp [iE];omega
theorem vO {p r:List Nd} {x:Nd} {k:Nat} (h:k=p.length):ε (δ (k:Int)*5) (aH (p++x::r))=iE x++aH r:=by
 subst h;rw [aA,Qa,La,← BX,List.drop_left]
def mZ:List Nd→Nat→Nat ⊕ Int
 | [],d=> .inl d
 |x::r,d=>if aP x=0 then (if d<eU x.op then .inr 11 else mZ r (d - eU x.op+1)) else .inr (aP x)
def eG (l:List Nd):Int:=if 60<l.length then 2 else match mZ l 0 with| .inl d=>if d=1 then 0 else 11| .inr w=>w
def Ko:Nat ⊕ Int→bK
 | .inl _=> .exit 0
 | .inr _=> .ret
def QX (l:List Nd) (nn:Bool) (p:Nat × Nat):St:=⟨[(10,.sl (aH l) l.length nn),(11,ω (l.length:Int)),(12,ω (p.1:Int)),(3,ω (p.2:Int))],[],.dead,[]⟩
def Am:Nat ⊕ Int→St
 | .inl d=> ⟨[(3,.int .i64 (d:Int))],[],.dead,[]⟩
 | .inr w=> ⟨[(2,.int .i64 w)],[],.dead,[]⟩
theorem Nh (a:Int):eU a≤3:=by unfold eU;(repeat' split)<;>omega
theorem FH {x:Nd} (h:aP x=0):1≤x.op∧x.op≤24:=by
 cases a:Rz x.op with
 |true=>simpa [Rz] using a
 |false=>unfold aP at h;rw [a] at h;simp at h
theorem Ux {nt:Nat} (f:35≤nt) (l p r:List Nd) (e:Bool) (x:Nd) (d:Nat) (u:x.sm) (n:l=p++x::r) (s:l.length<2^40) (hd:d<2^41):
  (¬ aP x=0→ψ nt f21 (QX l e (p.length,d)) .ret (Am (.inr (aP x))))∧
  (aP x=0→d<eU x.op→ψ nt f21 (QX l e (p.length,d)) .ret (Am (.inr 11)))∧
  (aP x=0→¬ d<eU x.op→ψ nt f21 (QX l e (p.length,d)) .normal (QX l e (p.length+1,d - eU x.op+1))):=by
 have b:ε (δ (p.length:Int)*5) (aH l)=iE x++aH r:=by rw [n];exact vO rfl
 have o:p.length+(r.length+1)=l.length:=by rw [n];simp
 have m:=Xy x u;have q:=Nh x.op;unfold QX Am;refine ⟨fun c=> ?_,fun c t=> ?_,fun c t=> ?_⟩
 ·have a:=akY f l e p.length d (aP x) x r b;have h:(!(aP x==((0:Nat):Int)))=true:=by simpa using c
  simp (disch:=first|omega|(simp [au,az]<;>omega)) only [h,bF,dI,bu,aY] at a;apply a<;>first|exact True.intro|omega|assumption|exact rfl
 ·obtain ⟨k,g⟩:=FH c;have j:=OU k g;rw [c] at m;have a:=akZ f l e p.length d 0 x r b;have i:γ .i64 ((d:Int) - ((eU x.op:Nat):Int))=(d:Int) - (eU x.op:Int):=dL (by omega) (by omega);simp (disch:=first|omega|(simp [au,az]<;>omega)) only [χ,j,bf,i,bF,bu,eF,dP,dY,AU,dI,aY] at a;apply a<;>first|exact True.intro|omega|assumption|exact rfl
 ·obtain ⟨k,g⟩:=FH c;have j:=OU k g;rw [c] at m;have a:=ak0 f l e p.length d 0 x r b;have i:γ .i64 ((d:Int) - ((eU x.op:Nat):Int))=((d - eU x.op:Nat):Int):=by rw [dL]<;>omega
  simp (disch:=first|omega|(simp [au,az]<;>omega)) only [χ,j,bf,i,aY,dP,dY,eY,eF,bu,AU,dI,bF,bW,aX] at a;apply a<;>first|exact True.intro|omega|assumption|exact rfl
theorem Ya {nt:Nat} (e:35≤nt) (l:List Nd) (c:Bool) (b:l.length<2^40) (a:∀ x ∈ l,x.sm):∀ (r p:List Nd) (d:Nat),p++r=l→d≤p.length→aF prog ap [] nt (ae 0 (af f21)) Ko (QX l c) Am (p.length,d) (mZ r d):=by
 intro r
 induction r with
 |nil=>
  intro p d h _;have hp:p.length=l.length:=by rw [← h];simp
  rw [hp];exact .done (Uw e l c l.length d 0 (by rw [aY];simp [lit]))
 | cons x r ih=>
  intro p d h hd;have j:p.length+(r.length+1)=l.length:=by rw [← h];simp
  obtain ⟨f,i,g⟩:=Ux e l p r c x d (a x (by rw [← h];simp)) h.symm b (by omega);simp only [mZ];by_cases h1:aP x=0
  ·rw [if_pos h1];by_cases h2:d<eU x.op
   ·rw [if_pos h2];exact .done (i h1 h2)
   ·rw [if_neg h2];have hnext:=ih (p++ [x]) (d - eU x.op+1) (by simp [h]) (by simp;omega);rw [θ,ο] at hnext;exact .next (g h1 h2) hnext
  ·rw [if_neg h1];exact .done (f h1)
theorem Di (l:List Nd) (a:Bool) (b:∀ x ∈ l,x.sm):CO 21 [.sl (aH l) l.length a] (.ret (ω (eG l))):=by
 unfold eG;by_cases h60:60<l.length
 ·rw [if_pos h60];exact afU l a 0 (by rw [aY];exact Yq0 h60)
 ·rw [if_neg h60];have c:lit false (decide (((60:Nat):Int)<(l.length:Int)))=true:=by rw [aY];simp only [lit,Xqm];exact Yq1 h60
  have hloop:=fun nt (hn:35≤nt)=>Ya hn l a (by omega) b l [] 0 rfl (by simp)
  cases e:mZ l 0 with
  | inl d=>
   rw [e] at hloop;by_cases hd:d=1
   ·have h:=afW l a d (by rw [jJ,Yq0 hd];rfl) c;simp only [if_pos hd];exact h (aF.blk hloop (by simp [Ko]) rfl (aJ.of ⟨rfl,rfl,rfl,rfl,trivial⟩) (aJ.of ⟨rfl,trivial⟩))
   ·have h:=afV l a d (by rw [jJ,Yq1 hd];rfl) c;simp only [if_neg hd];exact h (aF.blk hloop (by simp [Ko]) rfl (aJ.of ⟨rfl,rfl,rfl,rfl,trivial⟩) (aJ.of ⟨rfl,trivial⟩))
  |inr w=>
   rw [e] at hloop;exact afX l a w c (aF.blk hloop (by simp [Ko]) rfl (aJ.of ⟨rfl,rfl,rfl,rfl,trivial⟩) (aJ.of ⟨rfl,trivial⟩))
def Hz (l:List Nd) (nn:Bool) (p:Nat × Nat):St:=⟨[(0,.sl (aH l) l.length nn),(4,ω (p.1:Int)),(3,ω (p.2:Int))],[],.dead,[]⟩
theorem FD {x:Nd} (h:Rz x.op=false∨gV x=false∨(jg x.op=false∧(x.name== [])=false)):aP x=11:=by
 unfold aP;rcases h with h|h|⟨h,a⟩
 ·rw [h];rfl
 ·rw [h];cases (!Rz x.op||(!jg x.op && !(x.name== [])))<;>rfl
 ·rw [h,a];cases Rz x.op<;>rfl
theorem SG {nt:Nat} (j:69≤nt) (l p r:List Nd) (e:Bool) (x:Nd) (d:Nat) (D:x.sm) (z:l=p++x::r) (C:l.length<2^40) (hd:d<2^41):
  (¬ aP x=0→ψ nt f48 (Hz l e (p.length,d)) .ret (Am (.inr (aP x))))∧
  (aP x=0→d<eU x.op→ψ nt f48 (Hz l e (p.length,d)) .ret (Am (.inr 11)))∧
  (aP x=0→¬ d<eU x.op→ψ nt f48 (Hz l e (p.length,d)) .normal (Hz l e (p.length+1,d - eU x.op+1))):=by
 have b:ε (δ (p.length:Int)*5) (aH l)=iE x++aH r:=by rw [z];exact vO rfl
 have A:p.length+(r.length+1)=l.length:=by rw [z];simp
 have k0:=Zc x.op;have k1:=Le x D;have k2:=WJ x.name;have k3:=O_ x.op;have B:=Nh x.op;have m:decide (((0:Nat):Int)≤(p.length:Int))=true:=by simp
 have i:decide ((p.length:Int)<(l.length:Int))=true:=by rw [aY];exact Yq0 (by omega)
 have k:lit true (decide ((p.length:Int)<(l.length:Int)))=true:=i;have y:¬ d<eU x.op→γ .i64 ((d:Int) - ((eU x.op:Nat):Int))=((d - eU x.op:Nat):Int):=fun h=>by rw [dL]<;>omega
 unfold Hz Am;cases u:Rz x.op with
 | false=>
  have f:aP x=11:=FD (.inl u);rw [f];refine ⟨fun _=> ?_,fun c=>(by simp at c),fun c=>(by simp at c)⟩;have w:x.op<1∨24<x.op:=by
   have:¬ (1≤x.op∧x.op≤24):=by simpa [Rz] using u
   omega
  by_cases c:x.op<1
  ·exact aiO j l e p.length d (gV x) true x r b (by simp [lit];omega) m i k k0 k1
  ·exact aiP j l e p.length d (gV x) true x r b (by simp [lit];omega) (by simp [lit];omega) m i k k0 k1
 | true=>
  have w:1≤x.op∧x.op≤24:=by simpa [Rz] using u
  have s:lit false (decide (((24:Nat):Int)<x.op))=true:=by simp [lit];omega
  have q:lit false (decide (x.op<((1:Nat):Int)))=true:=by simp [lit];omega
  cases t:gV x with
  |false=>
   have f:aP x=11:=FD (.inr (.inl t));rw [f];rw [t] at k1;refine ⟨fun _=> ?_,fun c=>(by simp at c),fun c=>(by simp at c)⟩;exact aiQ j l e p.length d false true x r b rfl s q m i k k0 k1
  | true=>
   rw [t] at k1;cases a:jg x.op with
   | false=>
    rw [a] at k0;cases g:(x.name== []) with
    |false=>
     have f:aP x=11:=FD (.inr (.inr ⟨a,g⟩));rw [f];refine ⟨fun _=> ?_,fun c=>(by simp at c),fun c=>(by simp at c)⟩;exact aiR j l e p.length d true true x r b (by rw [g];rfl) (by rw [a];rfl) rfl s q m i k (by rw [a];exact k0) k1
    | true=>
     have f:aP x=0:=by unfold aP;rw [u,a,g,t];rfl
     refine ⟨fun h=>absurd f h,fun _ o=> ?_,fun _ o=> ?_⟩
     ·exact aiS j l e p.length d true _ x r b (by rw [aY,Yq0 o];rfl) (by rw [a];rfl) (by rw [g];rfl) (by rw [a];rfl) rfl s q m i k (by rw [a];exact k0) k1 k2 k3
     ·have v:=aiT j l e p.length d true _ x r b (by rw [aY,Yq1 o];rfl) (by rw [a];rfl) (by rw [g];rfl) (by rw [a];rfl) rfl s q m i k (by rw [a];exact k0) k1 k2 k3;rw [y o,Ci (by omega),Ci (by omega)] at v;exact v
   | true=>
    rw [a] at k0;cases n:uF x.name with
    |false=>
     have f:aP x=12:=by unfold aP;rw [u,a,t,n];rfl
     rw [f];rw [n] at k2;refine ⟨fun _=> ?_,fun c=>(by simp at c),fun c=>(by simp at c)⟩;exact aiU j l e p.length d true false x r b rfl (by rw [a];rfl) (by rw [a];rfl) rfl s q m i k (by rw [a];exact k0) k1 k2
    | true=>
     have f:aP x=0:=by unfold aP;rw [u,a,t,n];rfl
     rw [n] at k2;refine ⟨fun h=>absurd f h,fun _ o=> ?_,fun _ o=> ?_⟩
     ·exact aiV j l e p.length d true true x r b (by rw [aY,Yq0 o];rfl) rfl (by rw [a];rfl) (by rw [a];rfl) rfl s q m i k (by rw [a];exact k0) k1 k2 k3
     ·have v:=aiW j l e p.length d true true x r b (by rw [aY,Yq1 o];rfl) rfl (by rw [a];rfl) (by rw [a];rfl) rfl s q m i k (by rw [a];exact k0) k1 k2 k3;rw [y o,Ci (by omega),Ci (by omega)] at v;exact v
theorem Wu {nt:Nat} (e:69≤nt) (l:List Nd) (c:Bool) (b:l.length<2^40) (a:∀ x ∈ l,x.sm):∀ (r p:List Nd) (d:Nat),p++r=l→d≤p.length→aF prog ap [] nt (ae 0 (af f48)) Ko (Hz l c) Am (p.length,d) (mZ r d):=by
 intro r
 induction r with
 |nil=>
  intro p d h _;have hp:p.length=l.length:=by rw [← h];simp
  rw [hp];exact .done (SE e l c l.length d true true (by rw [aY];simp [lit]))
 | cons x r ih=>
  intro p d h hd;have j:p.length+(r.length+1)=l.length:=by rw [← h];simp
  obtain ⟨f,i,g⟩:=SG e l p r c x d (a x (by rw [← h];simp)) h.symm b (by omega);simp only [mZ];by_cases h1:aP x=0
  ·rw [if_pos h1];by_cases h2:d<eU x.op
   ·rw [if_pos h2];exact .done (i h1 h2)
   ·rw [if_neg h2];have hnext:=ih (p++ [x]) (d - eU x.op+1) (by simp [h]) (by simp;omega);rw [θ,ο] at hnext;exact .next (g h1 h2) hnext
  ·rw [if_neg h1];exact .done (f h1)
theorem Hy (l:List Nd) (a:Bool) (b:∀ x ∈ l,x.sm):CO 48 [.sl (aH l) l.length a] (.ret (ω (eG l))):=by
 unfold eG;by_cases h60:60<l.length
 ·rw [if_pos h60];exact adH l a 0 (by rw [aY];exact Yq0 h60)
 ·rw [if_neg h60];have c:lit false (decide (((60:Nat):Int)<(l.length:Int)))=true:=by rw [aY];simp only [lit,Xqm];exact Yq1 h60
  have hloop:=fun nt (hn:69≤nt)=>Wu hn l a (by omega) b l [] 0 rfl (by simp)
  cases e:mZ l 0 with
  | inl d=>
   rw [e] at hloop;by_cases hd:d=1
   ·have h:=adJ l a d (by rw [jJ,Yq0 hd];rfl) c;simp only [if_pos hd];exact h (aF.blk hloop (by simp [Ko]) rfl (aJ.of ⟨rfl,rfl,rfl,trivial⟩) (aJ.of ⟨rfl,trivial⟩))
   ·have h:=adI l a d (by rw [jJ,Yq1 hd];rfl) c;simp only [if_neg hd];exact h (aF.blk hloop (by simp [Ko]) rfl (aJ.of ⟨rfl,rfl,rfl,trivial⟩) (aJ.of ⟨rfl,trivial⟩))
  |inr w=>
   rw [e] at hloop;exact adK l a w c (aF.blk hloop (by simp [Ko]) rfl (aJ.of ⟨rfl,rfl,rfl,trivial⟩) (aJ.of ⟨rfl,trivial⟩))
theorem afC {nt:Nat} (e:45≤nt) (l:List Nd) (a:Bool) (k:Nat) (C:List AV) (o own:List Nat) (x:Nd) (r:List Nd) (b:(ε ((δ (k:Int))*5) (aH l))=iE x++aH r) (h0:(decide ((γ .i64 (((0:Nat):Int) - (τ (η (ε ((0+((δ x.op)*5))+1) jQ) .dead))))=0))=true) (g:(Ξ (((0+(δ (k:Int)))*1)+1) (ζ C))=true) (c:(decide (((0:Nat):Int)≤(k:Int)))=true) (d:(decide ((k:Int)<(l.length:Int)))=true) (i:(chk (.int .i64) (η (ε ((0+((δ x.op)*5))+1) jQ) .dead))=true) (n:(decide (((0:Nat):Int)≤x.op))=true) (f:(decide (x.op<((25:Nat):Int)))=true) (m:lit true (decide ((k:Int)<(l.length:Int)))=true) (j:CO 62 [.nilS] (.ret (.sl (ah own) own.length false))):ψ nt f37 ⟨[(15,.sl (aH l) l.length a),(16,ω (l.length:Int)),(17,ω (k:Int)),(4,.ref 0 0 0 l.length),(5,.nilS)],[(0,⟨C,0,false,0,1,true⟩)],.dead,[]⟩ (.normal) ⟨[(15,.sl (aH l) l.length a),(16,ω (l.length:Int)),(17,ω (γ .i64 ((k:Int)+((1:Nat):Int)))),(4,.ref 0 0 0 l.length),(5,.ref 1 0 0 1)],[(0,⟨(μ ((0+(δ (k:Int)))*1) C++ [.sl (ah own) own.length false]++ε (((0+(δ (k:Int)))*1)+1) C),0,false,0,1,true⟩),(1,⟨[ω (k:Int)],0,false,0,1,true⟩)],.dead,[]⟩:=
 have h:ψ nt f37 ⟨[(15,.sl (aH l) l.length a),(16,ω (l.length:Int)),(17,ω (k:Int)),(4,.ref 0 0 0 l.length),(5,.nilS)],[(0,⟨C,0,false,0,1,true⟩)],.dead,[]⟩ (.normal) ⟨[(15,.sl (aH l) l.length a),(16,ω (l.length:Int)),(17,ω (γ .i64 ((k:Int)+((1:Nat):Int)))),(4,.ref 0 0 0 l.length),(5,.ref 1 0 0 1)],[(0,⟨(μ ((0+(δ (k:Int)))*1) C++ [.sl (ah own) own.length false]++ε (((0+(δ (k:Int)))*1)+1) C),0,false,0,1,true⟩),(1,⟨[ω (k:Int)],0,false,0,1,true⟩),(2,⟨[ω x.op,.bool x.neg,.str x.num,.str x.den,.str x.name],0,false,0,0,true⟩)],.dead,[]⟩:=pJ 37 [] 2 1 (.k 4 h0 (.c g (.c c (.c d (.c h0 (.k 1 i (.c n (.c f (.k 7 c (.c d (.c m .nil))))))))))) (.c j (.v 20 (.ppt b) .nil)) e
 h.forgetD 2 ⟨[ω x.op,.bool x.neg,.str x.num,.str x.den,.str x.name],0,false,0,0,true⟩ (by intro v h;cases h) (by decide) rfl ⟨Fz.same rfl,Fz.same rfl,Fz.same rfl,Fz.same rfl,Fz.same rfl,trivial⟩ ⟨rfl,Ig.same rfl,by decide,rfl,Ig.same rfl,by decide,rfl⟩ rfl
theorem QS {nt:Nat} (a:45≤nt) (l:List Nd) (b:Bool) (k:Nat) (C:List AV) (c own:List Nat) (h0:lit false (decide ((k:Int)<(l.length:Int)))=true):ψ nt f37 ⟨[(15,.sl (aH l) l.length b),(16,ω (l.length:Int)),(17,ω (k:Int)),(4,.ref 0 0 0 l.length),(5,.nilS)],[(0,⟨C,0,false,0,1,true⟩)],.dead,[]⟩ (.exit 0) ⟨[(4,.ref 0 0 0 l.length)],[(0,⟨C,0,false,0,1,true⟩)],.dead,[]⟩:=pJ 37 [] 1 0 (.c h0 .nil) (.nil) a
theorem afz {nt:Nat} (m:45≤nt) (l:List Nd) (b:Bool) (k:Nat) (C:List AV) (a own:List Nat) (x:Nd) (r:List Nd) (d:(ε ((δ (k:Int))*5) (aH l))=iE x++aH r) (h0:(Ξ (((δ (γ .i64 ((a.length:Int) - (τ (η (ε ((0+((δ x.op)*5))+1) jQ) .dead))))) - 0)+1) 1099511627776)=true) (p:(Ξ (((δ (γ .i64 ((a.length:Int) - (τ (η (ε ((0+((δ x.op)*5))+1) jQ) .dead))))) - 0)*1) (ζ (ah a)))=true) (g:(decide (((0:Nat):Int)≤(γ .i64 ((a.length:Int) - (τ (η (ε ((0+((δ x.op)*5))+1) jQ) .dead))))))=true) (i:(decide ((γ .i64 ((a.length:Int) - (τ (η (ε ((0+((δ x.op)*5))+1) jQ) .dead))))≤(a.length:Int)))=true) (q:(Ξ (((0+(δ (k:Int)))*1)+1) (ζ C))=true) (j:(decide (((0:Nat):Int)≤(k:Int)))=true) (f:(decide ((k:Int)<(l.length:Int)))=true) (t:(decide ((a.length:Int)≤(a.length:Int)))=true) (n:(chk (.int .i64) (η (ε ((0+((δ x.op)*5))+1) jQ) .dead))=true) (o:(decide (((0:Nat):Int)≤x.op))=true) (e:(decide (x.op<((25:Nat):Int)))=true) (c:lit true (decide ((k:Int)<(l.length:Int)))=true) (s:ax prog ap 62 [.ref 0 0 (0+(δ (γ .i64 ((a.length:Int) - (τ (η (ε ((0+((δ x.op)*5))+1) jQ) .dead)))))) ((δ (a.length:Int)) - (δ (γ .i64 ((a.length:Int) - (τ (η (ε ((0+((δ x.op)*5))+1) jQ) .dead))))))] [⟨(ah a),0,false,0,1,true⟩] (.ret (.sl (ah own) own.length false)) [⟨(ah a),0,false,0,1,true⟩]):ψ nt f37 ⟨[(15,.sl (aH l) l.length b),(16,ω (l.length:Int)),(17,ω (k:Int)),(4,.ref 0 0 0 l.length),(5,.ref 1 0 0 a.length)],[(0,⟨C,0,false,0,1,true⟩),(1,⟨(ah a),0,false,0,1,true⟩)],.dead,[]⟩ (.normal) ⟨[(15,.sl (aH l) l.length b),(16,ω (l.length:Int)),(17,ω (γ .i64 ((k:Int)+((1:Nat):Int)))),(4,.ref 0 0 0 l.length),(5,.ref 1 0 0 (((δ (γ .i64 ((a.length:Int) - (τ (η (ε ((0+((δ x.op)*5))+1) jQ) .dead))))) - 0)+1))],[(0,⟨(μ ((0+(δ (k:Int)))*1) C++ [.sl (ah own) own.length false]++ε (((0+(δ (k:Int)))*1)+1) C),0,false,0,1,true⟩),(1,⟨((μ (((δ (γ .i64 ((a.length:Int) - (τ (η (ε ((0+((δ x.op)*5))+1) jQ) .dead))))) - 0)*1) (ah a))++ [ω (k:Int)]),0,false,0,1,true⟩)],.dead,[]⟩:=
 have h:ψ nt f37 ⟨[(15,.sl (aH l) l.length b),(16,ω (l.length:Int)),(17,ω (k:Int)),(4,.ref 0 0 0 l.length),(5,.ref 1 0 0 a.length)],[(0,⟨C,0,false,0,1,true⟩),(1,⟨(ah a),0,false,0,1,true⟩)],.dead,[]⟩ (.normal) ⟨[(15,.sl (aH l) l.length b),(16,ω (l.length:Int)),(17,ω (γ .i64 ((k:Int)+((1:Nat):Int)))),(4,.ref 0 0 0 l.length),(5,.ref 1 0 0 (((δ (γ .i64 ((a.length:Int) - (τ (η (ε ((0+((δ x.op)*5))+1) jQ) .dead))))) - 0)+1))],[(0,⟨(μ ((0+(δ (k:Int)))*1) C++ [.sl (ah own) own.length false]++ε (((0+(δ (k:Int)))*1)+1) C),0,false,0,1,true⟩),(1,⟨((μ (((δ (γ .i64 ((a.length:Int) - (τ (η (ε ((0+((δ x.op)*5))+1) jQ) .dead))))) - 0)*1) (ah a))++ [ω (k:Int)]),0,false,0,1,true⟩),(2,⟨[ω x.op,.bool x.neg,.str x.num,.str x.den,.str x.name],0,false,0,0,true⟩)],.dead,[]⟩:=pJ 37 [] 1 1 (.k 1 h0 (.c p (.k 2 g (.c i (.c q (.c j (.c f (.c g (.c i (.c t (.c n (.c o (.c e (.k 7 j (.c f (.c c .nil)))))))))))))))) (.c s (.v 20 (.ppt d) .nil)) m
 h.forgetD 2 ⟨[ω x.op,.bool x.neg,.str x.num,.str x.den,.str x.name],0,false,0,0,true⟩ (by intro v h;cases h) (by decide) rfl ⟨Fz.same rfl,Fz.same rfl,Fz.same rfl,Fz.same rfl,Fz.same rfl,trivial⟩ ⟨rfl,Ig.same rfl,by decide,rfl,Ig.same rfl,by decide,rfl⟩ rfl
theorem QR {nt:Nat} (b:45≤nt) (l:List Nd) (c:Bool) (k:Nat) (C:List AV) (a own:List Nat) (h0:lit false (decide ((k:Int)<(l.length:Int)))=true):ψ nt f37 ⟨[(15,.sl (aH l) l.length c),(16,ω (l.length:Int)),(17,ω (k:Int)),(4,.ref 0 0 0 l.length),(5,.ref 1 0 0 a.length)],[(0,⟨C,0,false,0,1,true⟩),(1,⟨(ah a),0,false,0,1,true⟩)],.dead,[]⟩ (.exit 0) ⟨[(4,.ref 0 0 0 l.length)],[(0,⟨C,0,false,0,1,true⟩),(1,⟨(ah a),0,false,0,1,true⟩)],.dead,[]⟩:=pJ 37 [] 1 0 (.c h0 .nil) (.nil) b
theorem afA (l:List Nd) (a:Bool) (w:Int) (C:List AV) (h0:lit true (!(w==((0:Nat):Int)))=true) (b:CO 21 [.sl (aH l) l.length a] (.ret (ω w))):CO 37 [.sl (aH l) l.length a] (.ret (.tup [.nilS,.bool false])):=pK [0] 1 1 (.c h0 .nil) (.c b .nil)
theorem afB (l:List Nd) (a:Bool) (w:Int) (C:List AV) (h0:(decide (((0:Nat):Int)≤(l.length:Int)))=true) (e:(decide ((l.length:Int)=(l.length:Int)))=true) (d:(decide ((l.length:Int)≤((1099511627776:Nat):Int)))=true) (f:lit false (!(w==((0:Nat):Int)))=true) (c:CO 21 [.sl (aH l) l.length a] (.ret (ω w))) (b:aI prog ap [] 45 (.block 0 (.loop (ae 0 (af f37)))) ⟨[(0,.sl (aH l) l.length a),(2,.nilS),(3,.bool false),(4,.ref 0 0 0 (δ (l.length:Int))),(5,.nilS),(6,.dead),(7,.dead),(8,.dead),(11,.bool (!(w==((0:Nat):Int)))),(15,.sl (aH l) l.length a),(16,ω (l.length:Int)),(17,ω 0),(18,.dead)],[(0,⟨(gp (δ (l.length:Int)) [.nilS]),0,false,0,1,true⟩)],.dead,[]⟩ (.normal) ⟨[(4,.ref 0 0 0 l.length)],[(0,⟨C,0,false,0,1,true⟩)],.dead,[]⟩):CO 37 [.sl (aH l) l.length a] (.ret (.tup [.own (μ (l.length*1) C) l.length 1,.bool true])):=pK [0] 1 0 (.c h0 (.c e (.c d (.c f .nil)))) (.l b (.c c .nil))
theorem afZ:CO 62 [.nilS] (.ret (.nilS)):=pK [] 1 1 (.n 1 .nil) (.nil)
theorem afY (a:List Nat) (i n:Nat) (h0:(Xqo (ζ (μ (n*1) (ε (i*1) (ah a)))) (n*1))=true) (b:(Ξ (0+n) 1099511627776)=true):ax prog ap 62 [.ref 0 0 i n] [⟨(ah a),0,false,0,1,true⟩] (.ret (.own (μ ((0+n)*1) ([]++(μ (n*1) (ε (i*1) (ah a))))) (0+n) 1)) [⟨(ah a),0,false,0,1,true⟩]:=pK [] 1 0 (.c h0 (.c b (.n 3 .nil))) (.nil)
def wz:List Nd→Nat→List Nat→List (List Nat)
 | [],_,_=> []
 |x::r,k,st=>st.drop (st.length - eU x.op)::wz r (k+1) (st.take (st.length - eU x.op)++ [k])
def bU (l:List Nd):List (List Nat):=wz l 0 []
def zt (a:List Nat):AV:= .sl (ah a) a.length false
def bC (ll:List (List Nat)):List AV:=ll.map zt
def Ue:List Nd→Nat→List Nat→List Nat
 | [],_,st=>st
 |x::r,k,st=>Ue r (k+1) (st.take (st.length - eU x.op)++ [k])
theorem CX (r:List Nd):∀ k a,(wz r k a).length=r.length:=by
 induction r with
 |nil=>intros;rfl
 |cons x r ih=>intro k a;simp only [wz,ν,ih]
def agE (st:List Nat):AV:=match st with| []=> .nilS|x::l=> .ref 1 0 0 (x::l).length
def agH (st:List Nat):Hp:=match st with| []=> []|x::l=> [(1,⟨ah (x::l),0,false,0,1,true⟩)]
theorem M_ {l:List Nat} (h:l ≠ []):agE l= .ref 1 0 0 l.length:=by cases l with|nil=>exact absurd rfl h|cons _ _=>rfl
theorem Il {l:List Nat} (h:l ≠ []):agH l= [(1,⟨ah l,0,false,0,1,true⟩)]:=by cases l with|nil=>exact absurd rfl h|cons _ _=>rfl
def Io (l:List Nd) (nn:Bool) (p:Nat × List Nat × List AV):St:=⟨[(15,.sl (aH l) l.length nn),(16,ω (l.length:Int)),(17,ω (p.1:Int)),(4,.ref 0 0 0 l.length),(5,agE p.2.1)],(0,⟨p.2.2,0,false,0,1,true⟩)::agH p.2.1,.dead,[]⟩
def Gv (l:List Nd) (p:List Nat × List AV):St:=⟨[(4,.ref 0 0 0 l.length)],(0,⟨p.2,0,false,0,1,true⟩)::agH p.1,.dead,[]⟩
theorem Q3:ax prog ap 62 [.nilS] [] (.ret (.sl (ah []) ([]:List Nat).length false)) []:=afZ.out (jC.ret rfl rfl (aZ.nilS false rfl))
theorem UA (a:List Nat) (i n:Nat) (h:i+n=a.length) (g:a.length<2^40):ax prog ap 62 [.ref 0 0 i n] [⟨ah a,0,false,0,1,true⟩] (.ret (.sl (ah (a.drop i)) n false)) [⟨ah a,0,false,0,1,true⟩]:=by
 have e:=afY a i n;have f:n≤a.length:=by omega
 have c:μ n (ε i (ah a))=ah (a.drop i):=by
  rw [KA,dC,Xqd (by simp;omega)]
 have b:(ah (a.drop i)).length=n:=by rw [bQ,Xx5];omega
 simp (disch:=first|omega|(simp [au,az]<;>omega)) only [υ,c,b,Jg,decide_true,χ,fH,bu,Xqc] at e;have d:=(e True.intro (by omega)).thaw (by simp);simp only [uV,thaw,υ] at d;rw [Xqd (by rw [Xqq,b];omega),Xqd (by omega)] at d;exact d.out (jC.sl1 _ _ _)
theorem XO {nt:Nat} (i:45≤nt) (l p r:List Nd) (e:Bool) (x:Nd) (a:List Nat) (C C2:List AV) (k:l=p++x::r) (q:l.length<2^39) (g:1≤x.op∧x.op≤24) (f:eU x.op≤a.length) (z:a.length≤p.length) (n:C.length=l.length)
  (hset:μ p.length C++ [zt (a.drop (a.length - eU x.op))]++ε (p.length+1) C=C2):
  ψ nt f37 (Io l e (p.length,a,C)) .normal (Io l e (p.length+1,a.take (a.length - eU x.op)++ [p.length],C2)):=by
 have c:ε (δ (p.length:Int)*5) (aH l)=iE x++aH r:=by rw [k];exact vO rfl
 have o:p.length+(r.length+1)=l.length:=by rw [k];simp
 obtain ⟨u,s⟩:=g;have j:=OU u s;unfold Io;simp only;rw [M_ (iG _ _),Il (iG _ _)];rcases Xxh (a= []) with rfl|hne
 ·have h0:eU x.op=0:=by simpa using f
  have b:=afC i l e p.length C [] [] x r c;simp only [Δ,Nat.zero_sub,List.drop_nil,List.take_nil,Xqc] at hset ⊢;unfold zt at hset;have h:=Q3;simp (disch:=first|omega|(simp [au,az]<;>omega)) only [χ,j,h0,bf,jV,Xjq,bu,aA,υ,n,fH,dI,aY,eF,bF,Δ,bW,aX] at b;simp only [agE,agH,ah,Xqf,Xxz,ν,Δ,χ] at b hset h ⊢;rw [hset] at b;apply b<;>first|exact True.intro|omega|assumption|exact rfl|skip
 ·have v:=UA a (a.length - eU x.op) (eU x.op) (by omega) (by omega);have b:=afz i l e p.length C a (a.drop (a.length - eU x.op)) x r c;rw [M_ hne,Il hne];unfold zt at hset;generalize A:a.length - eU x.op=m at*
  have d:(a.drop m).length=eU x.op:=by rw [Xx5];omega
  have t:γ .i64 ((a.length:Int) - ((eU x.op:Nat):Int))=(m:Int):=by rw [dL]<;>omega
  have w:a.length - m=eU x.op:=by omega
  rw [d] at b hset;have y:(a.take m).length=m:=by rw [Xqq];omega
  simp (disch:=first|omega|(simp [au,az]<;>omega)) only [χ,j,bf,t,aA,Xjq,fH,bu,υ,bQ,dI,n,aY,eF,bF,w,bW,aX,hset,dC,iT] at b;simp only [θ,ο,y];apply b<;>first|exact True.intro|omega|assumption|exact rfl|skip
theorem Pq {r:List Nd} {d e:Nat} {x:Nd} (h:mZ (x::r) d= .inl e):(1≤x.op∧x.op≤24)∧eU x.op≤d∧mZ r (d - eU x.op+1)= .inl e:=by
 simp only [mZ] at h;by_cases h1:aP x=0
 ·rw [if_pos h1] at h;by_cases h2:d<eU x.op
  ·rw [if_pos h2] at h;cases h
  ·rw [if_neg h2] at h;exact ⟨FH h1,by omega,h⟩
 ·rw [if_neg h1] at h;cases h
theorem vz (a:List (List Nat)):(bC a).length=a.length:=by simp [bC]
theorem QT (done:List (List Nat)) (a:List Nat) (m:Nat):μ done.length (bC done++κ (m+1) Xkq)++ [zt a]++ε (done.length+1) (bC done++κ (m+1) Xkq)=bC (done++ [a])++κ m Xkq:=by
 have b:=vz done;rw [List.take_append_of_le_length (by omega),Xqd (by omega),Xwy,Xxj (by omega),Xqc,show done.length+1 - (bC done).length=1 by omega,Xxe,List.drop_succ_cons,Xx7];unfold bC;rw [Xxt];rfl
theorem XN {nt:Nat} (g:45≤nt) (l:List Nd) (d:Bool) (j:l.length<2^39) (e:Nat):∀ (r p:List Nd) (a:List Nat) (done:List (List Nat)),p++r=l→mZ r a.length= .inl e→a.length≤p.length→done.length=p.length→aF prog ap [] nt (ae 0 (af f37)) (fun _=> .exit 0) (Io l d) (Gv l) (p.length,a,bC done++κ r.length .nilS) (Ue r p.length a,bC (done++wz r p.length a)):=by
 intro r
 induction r with
 | nil=>
  intro p a done h n f hd;have hp:p.length=l.length:=by rw [← h];simp
  rw [hp];simp only [wz,Ue,Γ,Δ,List.replicate_zero];refine .done ?_;unfold Io Gv;have o:ψ nt f37 (Io l d (l.length,a,bC done)) (.exit 0) (Gv l (a,bC done)):=by
   unfold Io Gv;rcases Xxh (a= []) with rfl|hne
   ·exact QS g l d l.length (bC done) [] [] (by rw [aY];simp [lit])
   ·simp only;rw [M_ hne,Il hne];exact QR g l d l.length (bC done) a [] (by rw [aY];simp [lit])
  exact o
 | cons x r ih=>
  intro p a done h n f hd;obtain ⟨k,i,m⟩:=Pq n;have q:p.length+(r.length+1)=l.length:=by rw [← h];simp
  have b:(a.take (a.length - eU x.op)++ [p.length]).length=a.length - eU x.op+1:=by
   rw [θ,Xqq,ο,Xjc (by omega)]
  have hnext:=ih (p++ [x]) (a.take (a.length - eU x.op)++ [p.length]) (done++ [a.drop (a.length - eU x.op)]) (by simp [h]) (by rw [b];exact m) (by rw [b];simp;omega) (by simp [hd]);rw [θ,ο,Ψ] at hnext;simp only [wz,Ue,ν];have c:=QT done (a.drop (a.length - eU x.op)) r.length;rw [hd] at c;have hstep:=XO g l p r d x a (bC done++κ (r.length+1) .nilS) _ h.symm j k i f (by rw [θ,vz,List.length_replicate];omega) c;exact .next hstep hnext
theorem Wy (n:Nat):gp n [Xkq]=κ n Xkq:=by
 unfold gp
 induction n with
 |zero=>rfl
 |succ n ih=>rw [Xxe,List.flatten_cons,ih,Xxe];rfl
theorem Dh {l:List Nd} (h:eG l=0):l.length≤60∧mZ l 0= .inl 1:=by
 unfold eG at h;by_cases h60:60<l.length
 ·rw [if_pos h60] at h;cases h
 ·rw [if_neg h60] at h;refine ⟨by omega, ?_⟩;have a:∀ (r:List Nd) (d:Nat) (w:Int),mZ r d= .inr w→w ≠ 0:=by
   intro r
   induction r with
   |nil=>intro d w h;cases h
   | cons x r ih=>
    intro d w h;simp only [mZ] at h;by_cases h1:aP x=0
    ·rw [if_pos h1] at h;by_cases h2:d<eU x.op
     ·rw [if_pos h2] at h;cases h;decide
     ·rw [if_neg h2] at h;exact ih _ _ h
    ·rw [if_neg h1] at h;cases h;exact h1
  cases b:mZ l 0 with
  |inl d=>
   rw [b] at h;by_cases hd:d=1
   ·rw [hd]
   ·simp only [if_neg hd] at h;cases h
  |inr w=>rw [b] at h;exact absurd h (a l 0 w b)
theorem XV (l:List Nd) (b:Bool) (d:∀ x ∈ l,x.sm) (m:eG l=0):CO 37 [.sl (aH l) l.length b] (.ret (.tup [.sl (bC (bU l)) l.length true,.bool true])):=by
 have c:μ l.length (bC (bU l))=bC (bU l):=Xqd (by rw [vz];unfold bU;rw [CX];omega)
 suffices hown:CO 37 [.sl (aH l) l.length b] (.ret (.tup [.own (bC (bU l)) l.length 1,.bool true])) by
  have h:=hown.thaw (by simp);simp only [uV,Xqf,Xxz,thaw,υ,c] at h;exact h
 have i:=Di l b d;obtain ⟨o,e⟩:=Dh m;rw [m] at i;have hloop:=fun nt (hn:45≤nt)=>XN hn l b (by omega) 1 l [] [] [] rfl e (by simp) rfl
 have g:(bU l).length=l.length:=CX l 0 [];have h:=afB l b 0 (bC (bU l));simp (disch:=first|omega|(simp [au,az]<;>omega)) only [dI,bu,decide_true,dP,dY,AU,aA,Wy,υ,c] at h;have k:(bC (bU l)).length=l.length:=by rw [vz,g]
 have p:l.length<1099511627776:=by omega
 apply h<;>first|exact True.intro|omega|assumption|exact rfl|skip
 intro nt f;have j:=aF.blk (s:=Io l b (0,[],κ l.length Xkq)) (s':=Gv l (Ue l 0 [],bC (bU l))) (id:=0) hloop (by simp) rfl (aJ.refl _) (aJ.refl _) nt f;unfold Io Gv at j;simp only [agE,agH] at j;have a:=j.weak (s':=⟨[(0,.sl (aH l) l.length b),(2,.nilS),(3,.bool false),(4,.ref 0 0 0 l.length),(5,.nilS),(6,.dead),(7,.dead),(8,.dead),(11,.bool false),(15,.sl (aH l) l.length b),(16,ω (l.length:Int)),(17,ω 0),(18,.dead)],[(0,⟨κ l.length Xkq,0,false,0,1,true⟩)],.dead,[]⟩) (aJ.of ⟨rfl,rfl,rfl,rfl,rfl,trivial⟩) (aJ.refl _);rcases Xxh (Ue l 0 []= []) with he|he
 ·rw [he] at a;exact a
 ·have n:=Il he;unfold agH at n;rw [n] at a;exact a.forget 1 _ (by intro v h;cases h) (by decide) rfl ⟨Fz.same rfl,trivial⟩ ⟨rfl,Ig.same rfl,by decide,rfl⟩
theorem aiw {nt:Nat} (b:59≤nt) (l:List Nd) (a:Bool) (h0:(chk (.int .i64) (η (aH l) .dead))=true) (e:(decide (((0:Nat):Int)<(l.length:Int)))=true) (d:lit true (decide (((0:Nat):Int)<(l.length:Int)))=true) (c:CO 30 [ω (τ (η (aH l) .dead))] (.ret (ω 0))):ψ nt f40 ⟨[(0,.sl (aH l) l.length a),(5,.nilS),(6,.nilS),(7,ω 0)],[],.dead,[]⟩ (.normal) ⟨[(0,.sl (aH l) l.length a),(5,.ref 0 0 0 1),(6,.ref 1 0 0 1),(7,ω 1)],[(0,⟨[.nilS],0,false,0,1,true⟩),(1,⟨[ω 0],0,false,0,1,true⟩)],.dead,[]⟩:=pJ 40 [] 4 1 (.k 9 h0 (.k 1 e (.c d .nil))) (.c c .nil) b
theorem adp {nt:Nat} (d:59≤nt) (l:List Nd) (c:Bool) (C:List AV) (b own:List Nat) (i k a:Nat) (h0:(chk (.int .i64) (η (ε ((0+(δ (i:Int)))*1) (ah b)) .dead))=true) (f:(decide (((0:Nat):Int)≤(i:Int)))=true) (e:(decide ((i:Int)<(b.length:Int)))=true) (g:lit true (decide ((i:Int)<(b.length:Int)))=true):aj prog ap [] nt (ae 2 (af f40)) ⟨[(0,.sl (aH l) l.length c),(7,ω (k:Int)),(8,ω (a:Int)),(5,.ref 0 0 0 k),(6,.ref 1 0 0 b.length),(9,.nilS),(10,ω (i:Int))],[(0,⟨C,0,false,0,1,true⟩),(1,⟨(ah b),0,false,0,1,true⟩)],.dead,[]⟩ (.normal) ⟨[(0,.sl (aH l) l.length c),(7,ω (k:Int)),(8,ω (a:Int)),(5,.ref 0 0 0 k),(6,.ref 1 0 0 b.length),(9,.ref 2 0 0 1),(10,ω (γ .i64 ((i:Int)+((1:Nat):Int))))],[(0,⟨C,0,false,0,1,true⟩),(1,⟨(ah b),0,false,0,1,true⟩),(2,⟨[ω (τ (η (ε ((0+(δ (i:Int)))*1) (ah b)) .dead))],0,false,0,1,true⟩)],.dead,[]⟩:=pJ 40 [] 2 1 (.k 3 h0 (.c f (.c e (.c g .nil)))) (.nil) d
theorem adq {nt:Nat} (d:59≤nt) (l:List Nd) (c:Bool) (C:List AV) (b own:List Nat) (i k a:Nat) (h0:lit false (decide ((i:Int)<(b.length:Int)))=true):aj prog ap [] nt (ae 2 (af f40)) ⟨[(0,.sl (aH l) l.length c),(7,ω (k:Int)),(8,ω (a:Int)),(5,.ref 0 0 0 k),(6,.ref 1 0 0 b.length),(9,.nilS),(10,ω (i:Int))],[(0,⟨C,0,false,0,1,true⟩),(1,⟨(ah b),0,false,0,1,true⟩)],.dead,[]⟩ (.exit 2) ⟨[(0,.sl (aH l) l.length c),(7,ω (k:Int)),(8,ω (a:Int)),(5,.ref 0 0 0 k),(6,.ref 1 0 0 b.length),(9,.nilS)],[(0,⟨C,0,false,0,1,true⟩),(1,⟨(ah b),0,false,0,1,true⟩)],.dead,[]⟩:=pJ 40 [] 1 0 (.c h0 .nil) (.nil) d
theorem adn {nt:Nat} (d:59≤nt) (l:List Nd) (c:Bool) (C:List AV) (b own:List Nat) (i k a:Nat) (h0:(Ξ (own.length+1) 1099511627776)=true) (h:(Ξ (own.length*1) (ζ (ah own)))=true) (g:(chk (.int .i64) (η (ε ((0+(δ (i:Int)))*1) (ah b)) .dead))=true) (j:(decide (((0:Nat):Int)≤(i:Int)))=true) (e:(decide ((i:Int)<(b.length:Int)))=true) (f:lit true (decide ((i:Int)<(b.length:Int)))=true):aj prog ap [] nt (ae 2 (af f40)) ⟨[(0,.sl (aH l) l.length c),(7,ω (k:Int)),(8,ω (a:Int)),(5,.ref 0 0 0 k),(6,.ref 1 0 0 b.length),(9,.ref 2 0 0 own.length),(10,ω (i:Int))],[(0,⟨C,0,false,0,1,true⟩),(1,⟨(ah b),0,false,0,1,true⟩),(2,⟨(ah own),0,false,0,1,true⟩)],.dead,[]⟩ (.normal) ⟨[(0,.sl (aH l) l.length c),(7,ω (k:Int)),(8,ω (a:Int)),(5,.ref 0 0 0 k),(6,.ref 1 0 0 b.length),(9,.ref 2 0 0 (own.length+1)),(10,ω (γ .i64 ((i:Int)+((1:Nat):Int))))],[(0,⟨C,0,false,0,1,true⟩),(1,⟨(ah b),0,false,0,1,true⟩),(2,⟨((μ (own.length*1) (ah own))++ [ω (τ (η (ε ((0+(δ (i:Int)))*1) (ah b)) .dead))]),0,false,0,1,true⟩)],.dead,[]⟩:=pJ 40 [] 1 1 (.k 1 h0 (.c h (.k 1 g (.c j (.c e (.c f .nil)))))) (.nil) d
theorem ado {nt:Nat} (d:59≤nt) (l:List Nd) (c:Bool) (C:List AV) (b own:List Nat) (i k a:Nat) (h0:lit false (decide ((i:Int)<(b.length:Int)))=true):aj prog ap [] nt (ae 2 (af f40)) ⟨[(0,.sl (aH l) l.length c),(7,ω (k:Int)),(8,ω (a:Int)),(5,.ref 0 0 0 k),(6,.ref 1 0 0 b.length),(9,.ref 2 0 0 own.length),(10,ω (i:Int))],[(0,⟨C,0,false,0,1,true⟩),(1,⟨(ah b),0,false,0,1,true⟩),(2,⟨(ah own),0,false,0,1,true⟩)],.dead,[]⟩ (.exit 2) ⟨[(0,.sl (aH l) l.length c),(7,ω (k:Int)),(8,ω (a:Int)),(5,.ref 0 0 0 k),(6,.ref 1 0 0 b.length),(9,.ref 2 0 0 own.length)],[(0,⟨C,0,false,0,1,true⟩),(1,⟨(ah b),0,false,0,1,true⟩),(2,⟨(ah own),0,false,0,1,true⟩)],.dead,[]⟩:=pJ 40 [] 1 0 (.c h0 .nil) (.nil) d
theorem aix {nt:Nat} (e:59≤nt) (l:List Nd) (c:Bool) (k a:Nat) (C:List AV) (b own:List Nat) (x:Nd) (r:List Nd) (d:(ε (((δ (k:Int))*5)+0) (aH l))=iE x++aH r) (h0:(Ξ (k+1) 1099511627776)=true) (i:(Ξ (k*1) (ζ C))=true) (h:(Ξ (((δ (γ .i64 ((b.length:Int) - (a:Int)))) - 0)+1) 1099511627776)=true) (j:(Ξ (((δ (γ .i64 ((b.length:Int) - (a:Int)))) - 0)*1) (ζ (ah b)))=true) (m:(decide (((0:Nat):Int)≤(γ .i64 ((b.length:Int) - (a:Int)))))=true) (q:(decide ((γ .i64 ((b.length:Int) - (a:Int)))≤(b.length:Int)))=true) (g:(decide (((0:Nat):Int)≤(k:Int)))=true) (p:(decide ((k:Int)<(l.length:Int)))=true) (f:lit true (decide ((k:Int)<(l.length:Int)))=true) (o:CO 30 [ω x.op] (.ret (ω (a:Int)))) (n:aI prog ap [] 59 (.block 2 (.loop (ae 2 (af f40)))) ⟨[(0,.sl (aH l) l.length c),(2,.dead),(3,.dead),(4,.dead),(5,.ref 0 0 0 k),(6,.ref 1 0 0 b.length),(7,ω (k:Int)),(8,ω (a:Int)),(9,.nilS),(10,ω (γ .i64 ((b.length:Int) - (a:Int)))),(14,.dead),(18,.bool (decide ((k:Int)<(l.length:Int)))),(34,.dead)],[(0,⟨C,0,false,0,1,true⟩),(1,⟨(ah b),0,false,0,1,true⟩)],.dead,[]⟩ (.normal) ⟨[(0,.sl (aH l) l.length c),(5,.ref 0 0 0 k),(6,.ref 1 0 0 b.length),(7,ω (k:Int)),(8,ω (a:Int)),(9,.nilS)],[(0,⟨C,0,false,0,1,true⟩),(1,⟨(ah b),0,false,0,1,true⟩)],.dead,[]⟩):ψ nt f40 ⟨[(0,.sl (aH l) l.length c),(5,.ref 0 0 0 k),(6,.ref 1 0 0 b.length),(7,ω (k:Int))],[(0,⟨C,0,false,0,1,true⟩),(1,⟨(ah b),0,false,0,1,true⟩)],.dead,[]⟩ (.normal) ⟨[(0,.sl (aH l) l.length c),(5,.ref 0 0 0 (k+1)),(6,.ref 1 0 0 (((δ (γ .i64 ((b.length:Int) - (a:Int)))) - 0)+1)),(7,ω (γ .i64 ((k:Int)+((1:Nat):Int))))],[(0,⟨((μ (k*1) C)++ [.nilS]),0,false,0,1,true⟩),(1,⟨((μ (((δ (γ .i64 ((b.length:Int) - (a:Int)))) - 0)*1) (ah b))++ [ω (k:Int)]),0,false,0,1,true⟩)],.dead,[]⟩:=pJ 40 [2] 1 1 (.k 1 h0 (.c i (.k 2 h (.c j (.k 2 m (.c q (.k 1 g (.c p (.c f .nil))))))))) (.l n (.c o (.v 24 (.ppt d) .nil))) e
theorem SA {nt:Nat} (c:59≤nt) (l:List Nd) (d:Bool) (k a:Nat) (C:List AV) (b own:List Nat) (h0:lit false (decide ((k:Int)<(l.length:Int)))=true):ψ nt f40 ⟨[(0,.sl (aH l) l.length d),(5,.ref 0 0 0 k),(6,.ref 1 0 0 b.length),(7,ω (k:Int))],[(0,⟨C,0,false,0,1,true⟩),(1,⟨(ah b),0,false,0,1,true⟩)],.dead,[]⟩ (.exit 0) ⟨[(5,.ref 0 0 0 k)],[(0,⟨C,0,false,0,1,true⟩),(1,⟨(ah b),0,false,0,1,true⟩)],.dead,[]⟩:=pJ 40 [2] 1 0 (.c h0 .nil) (.nil) c
theorem aiv {nt:Nat} (e:59≤nt) (l:List Nd) (c:Bool) (k a:Nat) (C:List AV) (b own:List Nat) (x:Nd) (r:List Nd) (d:(ε (((δ (k:Int))*5)+0) (aH l))=iE x++aH r) (h0:(Ξ (k+1) 1099511627776)=true) (i:(Ξ (k*1) (ζ C))=true) (h:(Ξ (((δ (γ .i64 ((b.length:Int) - (a:Int)))) - 0)+1) 1099511627776)=true) (j:(Ξ (((δ (γ .i64 ((b.length:Int) - (a:Int)))) - 0)*1) (ζ (ah b)))=true) (m:(decide (((0:Nat):Int)≤(γ .i64 ((b.length:Int) - (a:Int)))))=true) (q:(decide ((γ .i64 ((b.length:Int) - (a:Int)))≤(b.length:Int)))=true) (g:(decide (((0:Nat):Int)≤(k:Int)))=true) (p:(decide ((k:Int)<(l.length:Int)))=true) (f:lit true (decide ((k:Int)<(l.length:Int)))=true) (o:CO 30 [ω x.op] (.ret (ω (a:Int)))) (n:aI prog ap [] 59 (.block 2 (.loop (ae 2 (af f40)))) ⟨[(0,.sl (aH l) l.length c),(2,.dead),(3,.dead),(4,.dead),(5,.ref 0 0 0 k),(6,.ref 1 0 0 b.length),(7,ω (k:Int)),(8,ω (a:Int)),(9,.nilS),(10,ω (γ .i64 ((b.length:Int) - (a:Int)))),(14,.dead),(18,.bool (decide ((k:Int)<(l.length:Int)))),(34,.dead)],[(0,⟨C,0,false,0,1,true⟩),(1,⟨(ah b),0,false,0,1,true⟩)],.dead,[]⟩ (.normal) ⟨[(0,.sl (aH l) l.length c),(5,.ref 0 0 0 k),(6,.ref 1 0 0 b.length),(7,ω (k:Int)),(8,ω (a:Int)),(9,.sl (ah own) own.length true)],[(0,⟨C,0,false,0,1,true⟩),(1,⟨(ah b),0,false,0,1,true⟩)],.dead,[]⟩):ψ nt f40 ⟨[(0,.sl (aH l) l.length c),(5,.ref 0 0 0 k),(6,.ref 1 0 0 b.length),(7,ω (k:Int))],[(0,⟨C,0,false,0,1,true⟩),(1,⟨(ah b),0,false,0,1,true⟩)],.dead,[]⟩ (.normal) ⟨[(0,.sl (aH l) l.length c),(5,.ref 0 0 0 (k+1)),(6,.ref 1 0 0 (((δ (γ .i64 ((b.length:Int) - (a:Int)))) - 0)+1)),(7,ω (γ .i64 ((k:Int)+((1:Nat):Int))))],[(0,⟨((μ (k*1) C)++ [.sl (ah own) own.length true]),0,false,0,1,true⟩),(1,⟨((μ (((δ (γ .i64 ((b.length:Int) - (a:Int)))) - 0)*1) (ah b))++ [ω (k:Int)]),0,false,0,1,true⟩)],.dead,[]⟩:=pJ 40 [2] 1 1 (.k 1 h0 (.c i (.k 2 h (.c j (.k 2 m (.c q (.k 1 g (.c p (.c f .nil))))))))) (.l n (.c o (.v 24 (.ppt d) .nil))) e
theorem adk (l:List Nd) (a:Bool) (w:Int) (C:List AV) (n:Nat) (h0:lit true (!(w==((0:Nat):Int)))=true) (b:CO 48 [.sl (aH l) l.length a] (.ret (ω w))):CO 40 [.sl (aH l) l.length a] (.ret (.tup [.nilS,.bool false])):=pK [0] 1 1 (.c h0 .nil) (.c b .nil)
theorem adl (l:List Nd) (a:Bool) (w:Int) (C:List AV) (n:Nat) (h0:lit false (!(w==((0:Nat):Int)))=true) (c:CO 48 [.sl (aH l) l.length a] (.ret (ω w))) (b:aI prog ap [] 59 (.block 0 (.loop (ae 0 (af f40)))) ⟨[(0,.sl (aH l) l.length a),(2,.nilS),(3,.bool false),(4,ω w),(5,.nilS),(6,.nilS),(7,ω 0),(8,.dead),(9,.dead),(10,.dead),(14,.bool (!(w==((0:Nat):Int)))),(18,.dead),(34,.dead)],[],.dead,[]⟩ (.normal) ⟨[(5,.ref 0 0 0 n)],[(0,⟨C,0,false,0,1,true⟩)],.dead,[]⟩):CO 40 [.sl (aH l) l.length a] (.ret (.tup [.own (μ (n*1) C) n 1,.bool true])):=pK [0] 1 0 (.c h0 .nil) (.l b (.c c .nil))
def J4 (a:List Nat):AV:=match a with| []=> .nilS|x::l=> .sl (ah (x::l)) (x::l).length true
def iI (ll:List (List Nat)):List AV:=ll.map J4
theorem XU {a:List Nat} (h:a ≠ []):J4 a= .sl (ah a) a.length true:=by cases a with|nil=>exact absurd rfl h|cons _ _=>rfl
theorem Gx (a:List (List Nat)):(iI a).length=a.length:=by simp [iI]
theorem Nj (b:List (List Nat)) (a:List Nat):iI b++ [J4 a]=iI (b++ [a]):=by simp [iI]
theorem VS {p r:List Nd} {x:Nd} {k:Nat} (h:k=p.length):ε (δ (k:Int)*5+0) (aH (p++x::r))=iE x++aH r:=by rw [Xq5];exact vO h
def riE (own:List Nat):AV:=match own with| []=> .nilS|x::l=> .ref 2 0 0 (x::l).length
def riH (own:List Nat):Hp:=match own with| []=> []|x::l=> [(2,⟨ah (x::l),0,false,0,1,true⟩)]
theorem Jw {l:List Nat} (h:l ≠ []):riE l= .ref 2 0 0 l.length:=by cases l with|nil=>exact absurd rfl h|cons _ _=>rfl
theorem Jy {l:List Nat} (h:l ≠ []):riH l= [(2,⟨ah l,0,false,0,1,true⟩)]:=by cases l with|nil=>exact absurd rfl h|cons _ _=>rfl
def JO (C:List AV) (st:List Nat):Hp:= [(0,⟨C,0,false,0,1,true⟩),(1,⟨ah st,0,false,0,1,true⟩)]
def SL (l:List Nd) (nn:Bool) (C:List AV) (st:List Nat) (k a:Nat) (p:Nat × List Nat):St:=⟨[(0,.sl (aH l) l.length nn),(7,ω (k:Int)),(8,ω (a:Int)),(5,.ref 0 0 0 k),(6,.ref 1 0 0 st.length),(9,riE p.2),(10,ω (p.1:Int))],JO C st++riH p.2,.dead,[]⟩
def LM (l:List Nd) (nn:Bool) (C:List AV) (st:List Nat) (k a:Nat) (own:List Nat):St:=⟨[(0,.sl (aH l) l.length nn),(7,ω (k:Int)),(8,ω (a:Int)),(5,.ref 0 0 0 k),(6,.ref 1 0 0 st.length),(9,riE own)],JO C st++riH own,.dead,[]⟩
theorem Z7 {nt:Nat} (h:59≤nt) (l:List Nd) (c:Bool) (C:List AV) (b:List Nat) (k a:Nat) (o:b.length<2^39):∀ (d i:Nat) (own:List Nat),i+d=b.length→own.length≤i→aF prog ap [] nt (ae 2 (af f40)) (fun _=> .exit 2) (SL l c C b k a) (LM l c C b k a) (i,own) (own++b.drop i):=by
 intro d
 induction d with
 | zero=>
  intro i own n m;rw [Xxj (by omega),Γ];have j:i=b.length:=by omega
  subst j;refine .done ?_;unfold SL LM JO;rcases Xxh (own= []) with rfl|hne
  ·exact adq h l c C b [] b.length k a (by rw [aY];simp [lit])
  ·simp only;rw [Jw hne,Jy hne];exact ado h l c C b own b.length k a (by rw [aY];simp [lit])
 | succ d ih=>
  intro i own n m;have g:i<b.length:=by omega
  have hnext:=ih (i+1) (own++ [b.getD i 0]) (by omega) (by simp;omega);have e:b.drop i=b.getD i 0::b.drop (i+1):=by
   rw [Xxb g,ξ,π g];rfl
  rw [Ψ,Xxg,← e] at hnext;refine .next ?_ hnext
  unfold SL JO;simp only;rw [Jw (iG _ _),Jy (iG _ _)];rcases Xxh (own= []) with rfl|hne
  ·have f:=adp h l c C b [] i k a;simp (disch:=first|omega|(simp [au,az]<;>omega)) only [aA,χ,υ,fJ,eF,dI,bu,aY,bF,bW,aX,bf] at f;simp only [riE,riH,ah,Xqf,Xxz,ν,Δ,Xqc,χ] at f ⊢;apply f<;>first|exact True.intro|omega|assumption|exact rfl
  ·have f:=adn h l c C b own i k a;simp (disch:=first|omega|(simp [au,az]<;>omega)) only [fH,bu,υ,bQ,aA,χ,fJ,eF,dI,aY,bF,bW,aX,dC,Xqy,bf,iT] at f;rw [Jw hne,Jy hne];simp only [θ,ο];apply f<;>first|exact True.intro|omega|assumption|exact rfl
def Lr (l:List Nd) (nn:Bool) (p:Nat × List Nat × List AV):St:=⟨[(0,.sl (aH l) l.length nn),(5,match p.1 with|0=> .nilS|_=> .ref 0 0 0 p.1),(6,match p.1 with|0=> .nilS|_=> .ref 1 0 0 p.2.1.length),(7,.int .i64 (p.1:Int))],match p.1 with|0=> []|_=>JO p.2.2 p.2.1,.dead,[]⟩
def EP (p:Nat × List Nat × List AV):St:=⟨[(5,match p.1 with|0=> .nilS|_=> .ref 0 0 0 p.1)],match p.1 with|0=> []|_=>JO p.2.2 p.2.1,.dead,[]⟩
theorem ZQ {nt:Nat} (e:59≤nt) (l p r:List Nd) (c:Bool) (x:Nd) (a:List Nat) (C:List AV) (w:l=p++x::r) (H:l.length<2^38) (t:eU x.op≤a.length) (K:a.length≤p.length) (q:p= []→a= []∧C= []) (D:C.length=p.length):
  ψ nt f40 (Lr l c (p.length,a,C)) .normal (Lr l c (p.length+1,a.take (a.length - eU x.op)++ [p.length],C++ [J4 (a.drop (a.length - eU x.op))])):=by
 have E:p.length+(r.length+1)=l.length:=by rw [w];simp
 have k3:=O_ x.op;have A:=Nh x.op;rcases Xxh (p= []) with hp|hp
 ·obtain ⟨rfl,rfl⟩:=q hp;subst hp;have h0:eU x.op=0:=by simpa using t
  rw [h0] at k3;rw [h0];have u:l=x::r:=by rw [w];rfl
  subst u;exact aiw e (x::r) c rfl (by rw [aY];exact Yq0 (Xku r.length)) (by rw [aY];exact Yq0 (Xku r.length)) k3
 ·obtain ⟨k,I⟩:∃ k,p.length=k+1:=⟨p.length - 1,by cases p with|nil=>exact absurd rfl hp|cons _ _=>simp⟩
  have f:ε (δ (p.length:Int)*5+0) (aH l)=iE x++aH r:=by rw [w];exact VS rfl
  have hloop:=fun nt (e:59≤nt)=>Z7 e l c C a p.length (eU x.op) (by omega) (eU x.op) (a.length - eU x.op) [] (by omega) (by simp)
  rw [Xqc] at hloop;have g:Lr l c (p.length,a,C)=⟨[(0,.sl (aH l) l.length c),(5,.ref 0 0 0 p.length),(6,.ref 1 0 0 a.length),(7,ω (p.length:Int))],JO C a,.dead,[]⟩:=by rw [I];rfl
  rw [g];generalize L:a.length - eU x.op=m at*
  have z:γ .i64 ((a.length:Int) - ((eU x.op:Nat):Int))=(m:Int):=by rw [dL]<;>omega
  have j:(a.take m).length=m:=by rw [Xqq];omega
  have J:C.length<2^38:=by omega
  have i:μ p.length C=C:=Xqd (by omega);rcases Xxh (a.drop m= []) with ho|ho
  ·have o:=aix e l c p.length (eU x.op) C a [] x r f;rw [ho] at hloop ⊢;simp (disch:=first|omega|(simp [au,az]<;>omega)) only [fH,bu,υ,D,z,aA,Xjq,bQ,dI,aY,bF,bW,aX,i,dC,iT] at o;show aj prog ap [] nt _ _ .normal ⟨[(0,.sl (aH l) l.length c),(5,.ref 0 0 0 (p.length+1)),(6,.ref 1 0 0 (a.take m++ [p.length]).length),(7,ω ((p.length+1:Nat):Int))],JO (C++ [J4 []]) (a.take m++ [p.length]),.dead,[]⟩;simp only [θ,ο,j];unfold JO;apply o<;>first|exact True.intro|omega|assumption|exact rfl|skip
   ·refine aF.blk hloop (by simp) rfl ?_ ?_
    ·unfold SL JO;exact aJ.of ⟨rfl,rfl,rfl,rfl,rfl,rfl,rfl,trivial⟩
    ·unfold LM JO;exact aJ.of ⟨rfl,rfl,rfl,rfl,rfl,rfl,trivial⟩
  ·have o:=aiv e l c p.length (eU x.op) C a (a.drop m) x r f;simp (disch:=first|omega|(simp [au,az]<;>omega)) only [fH,bu,υ,D,z,aA,Xjq,bQ,dI,aY,bF,bW,aX,i,dC,iT] at o;show aj prog ap [] nt _ _ .normal ⟨[(0,.sl (aH l) l.length c),(5,.ref 0 0 0 (p.length+1)),(6,.ref 1 0 0 (a.take m++ [p.length]).length),(7,ω ((p.length+1:Nat):Int))],JO (C++ [J4 (a.drop m)]) (a.take m++ [p.length]),.dead,[]⟩;rw [XU ho];simp only [θ,ο,j];unfold JO;apply o<;>first|exact True.intro|omega|assumption|exact rfl|skip
   ·intro nt y;have d:=(aF.blk (s:=SL l c C a p.length (eU x.op) (m,[])) (s':=LM l c C a p.length (eU x.op) (a.drop m)) (id:=2) hloop (by simp) rfl (aJ.refl _) (aJ.refl _) nt y)
    unfold SL LM JO at d;simp only [riE,riH,Γ] at d;have G:=Jy ho;have F:=Jw ho;unfold riE at F;unfold riH at G;rw [G,F] at d;have n:=d.forget (b:=2) (B:=⟨ah (a.drop m),0,false,0,1,true⟩) (hp':= [(0,⟨C,0,false,0,1,true⟩),(1,⟨ah a,0,false,0,1,true⟩)]) (en':= [(0,.sl (aH l) l.length c),(5,.ref 0 0 0 p.length),(6,.ref 1 0 0 a.length),(7,ω (p.length:Int)),(8,ω ((eU x.op:Nat):Int)),(9,.sl (μ ((a.drop m).length*1) (ε (0*1) (ah (a.drop m)))) (a.drop m).length true)]) (by intro v h;cases h) (by decide) rfl ⟨Fz.same rfl,Fz.same rfl,Fz.same rfl,Fz.same rfl,Fz.same rfl,Fz.ref,trivial⟩ ⟨rfl,Ig.same rfl,by decide,rfl,Ig.same rfl,by decide,rfl⟩;rw [υ,Xzl,Xx7,dC,Xqy] at n;exact n.weak (aJ.of ⟨rfl,rfl,rfl,rfl,rfl,rfl,rfl,trivial⟩) (aJ.refl _)
theorem adm {nt:Nat} (d:59≤nt) (l:List Nd) (b:Bool) (a:List Nat) (C:List AV) (h0:0<l.length):ψ nt f40 (Lr l b (l.length,a,C)) (.exit 0) (EP (l.length,a,C)):=by
 obtain ⟨k,c⟩:∃ k,l.length=k+1:=⟨l.length - 1,by omega⟩
 have f:Lr l b (l.length,a,C)=⟨[(0,.sl (aH l) l.length b),(5,.ref 0 0 0 l.length),(6,.ref 1 0 0 a.length),(7,ω (l.length:Int))],JO C a,.dead,[]⟩:=by
  unfold Lr;simp only [c]
 have e:EP (l.length,a,C)=⟨[(5,.ref 0 0 0 l.length)],JO C a,.dead,[]⟩:=by
  unfold EP;simp only [c]
 rw [f,e];exact SA d l b l.length 0 C a [] (by rw [aY];simp [lit])
theorem ZP {nt:Nat} (k:59≤nt) (l:List Nd) (j:Bool) (g:l.length<2^38) (h0:0<l.length) (e:Nat):∀ (r p:List Nd) (a:List Nat) (done:List (List Nat)),p++r=l→mZ r a.length= .inl e→a.length≤p.length→done.length=p.length→(p= []→a= [])→aF prog ap [] nt (ae 0 (af f40)) (fun _=> .exit 0) (Lr l j) EP (p.length,a,iI done) (l.length,Ue r p.length a,iI (done++wz r p.length a)):=by
 intro r
 induction r with
 |nil=>
  intro p a done h m d hd c;have hp:p.length=l.length:=by rw [← h];simp
  rw [hp];simp only [wz,Ue,Γ];exact .done (adm k l j a _ h0)
 | cons x r ih=>
  intro p a done h m d hd c;obtain ⟨n,f,i⟩:=Pq m;have b:(a.take (a.length - eU x.op)++ [p.length]).length=a.length - eU x.op+1:=by
   rw [θ,Xqq,ο,Xjc (by omega)]
  have hnext:=ih (p++ [x]) (a.take (a.length - eU x.op)++ [p.length]) (done++ [a.drop (a.length - eU x.op)]) (by simp [h]) (by rw [b];exact i) (by rw [b];simp;omega) (by simp [hd]) (fun h=>by simp at h);rw [θ,ο,Ψ,← Nj] at hnext;simp only [wz,Ue];refine .next (ZQ k l p r j x a (iI done) h.symm g f d (fun hp=> ⟨c hp, ?_⟩) (by rw [Gx];exact hd)) hnext
  have:done= []:=Xxk (by rw [hd,hp];rfl);rw [this];rfl
theorem Wq (l:List Nd) (a:Bool) (d:∀ x ∈ l,x.sm) (m:eG l=0):CO 40 [.sl (aH l) l.length a] (.ret (.tup [.sl (iI (bU l)) l.length true,.bool true])):=by
 have j:(iI (bU l)).length=l.length:=by rw [Gx];unfold bU;rw [CX]
 have b:μ l.length (iI (bU l))=iI (bU l):=Xqd (by omega)
 suffices hown:CO 40 [.sl (aH l) l.length a] (.ret (.tup [.own (iI (bU l)) l.length 1,.bool true])) by
  have h:=hown.thaw (by simp);simp only [uV,Xqf,Xxz,thaw,υ,b] at h;exact h
 have g:=Hy l a d;obtain ⟨n,c⟩:=Dh m;rw [m] at g;have h0:0<l.length:=by
  cases l with
  |nil=>simp [mZ] at c
  |cons _ _=>simp
 have hloop:=fun nt (hn:59≤nt)=>ZP hn l a (by omega) h0 1 l [] [] [] rfl c (by simp) rfl (fun _=>rfl)
 have h:=adl l a 0 (iI (bU l)) l.length;have q:l.length<1099511627776:=by omega
 simp (disch:=first|omega|(simp [au,az]<;>omega)) only [dP,dY,AU,υ,b] at h;apply h<;>first|exact True.intro|omega|assumption|exact rfl|skip
 intro nt e;have i:=aF.blk (s:=Lr l a (0,[],iI [])) (s':=EP (l.length,Ue l 0 [],iI (bU l))) (id:=0) hloop (by simp) rfl (aJ.refl _) (aJ.refl _) nt e;obtain ⟨k,p⟩:∃ k,l.length=k+1:=⟨l.length - 1,by omega⟩
 have o:EP (l.length,Ue l 0 [],iI (bU l))=⟨[(5,.ref 0 0 0 l.length)],JO (iI (bU l)) (Ue l 0 []),.dead,[]⟩:=by
  unfold EP;simp only [p]
 rw [o] at i;unfold JO at i;have f:=i.forget 1 _ (en':= [(5,.ref 0 0 0 l.length)]) (hp':= [(0,⟨iI (bU l),0,false,0,1,true⟩)]) (by intro v h;cases h) (by decide) rfl ⟨Fz.same rfl,trivial⟩ ⟨rfl,Ig.same rfl,by decide,rfl⟩;exact f.weak (aJ.of ⟨rfl,rfl,rfl,rfl,trivial⟩) (aJ.refl _)
structure Sc where
 name:List UInt8
 u1:Int
 u2:Int
 bx:List AV
 bn:Nat
def xO (x:Sc):List AV:= [.str x.name,ω x.u1,ω x.u2,.sl x.bx x.bn false]
def bT (l:List Sc):List AV:=l.flatMap xO
theorem yT {l:List Sc} {k:Nat} (h:k<l.length):ε (k*4) (bT l)=xO l[k]++bT (l.drop (k+1)):=by
 induction l generalizing k with
 |nil=>simp at h
 | cons x r ih=>
  cases k with
  |zero=>simp [bT]
  |succ k=>
   have a:k<r.length:=by simpa using h
   show ε ((k+1)*4) (xO x++bT r)=_;rw [show (k+1)*4=(xO x).length+k*4 by simp [xO];omega,Xwy,Nat.add_sub_cancel_left,ih a,Xxj (by omega)];rfl
def dX (a b:Nat):Nat:=if a=0 then b else if b=0∨a=b then a else 3
def jD (a:Nat):Nat:=if a=1∨a=2 then 3 - a else a
def eH (A:List (List Nat)) (ss:List Nat) (k i:Nat):Nat:=ss.getD ((A.getD k []).getD i 0) 0
def dZ (A:List (List Nat)) (ss:List Nat) (k:Nat):Nat:=(A.getD k []).foldl (fun s i=>dX s (ss.getD i 0)) 0
abbrev wB (e:List Nd) (ne:Bool) (A:List (List Nat)) (sc:List Sc) (ns:Bool) (ss:List Nat):bi:=⟨[.sl (aH e) e.length ne,.sl (bC A) A.length true,.sl (bT sc) sc.length ns,.ref 1 0 0 ss.length],0,false,0,0,false⟩
abbrev sB (ss:List Nat):bi:=⟨ah ss,0,false,0,1,true⟩
abbrev wH (e:List Nd) (ne:Bool) (A:List (List Nat)) (sc:List Sc) (ns:Bool) (ss:List Nat):List bi:= [wB e ne A sc ns ss,sB ss]
theorem lD {A:List (List Nat)} {k:Nat} (h:k<A.length):ε (δ (k:Int)*1) (bC A)= [zt (A.getD k [])]++bC (A.drop (k+1)):=by
 unfold bC;rw [aA,υ,← Xjx,Xxb h,ξ,π h];rfl
theorem kH {a:List Nat} {k:Nat} (h:k<a.length):ε (δ (k:Int)*1) (ah a)= [ω ((a.getD k 0:Nat):Int)]++ah (a.drop (k+1)):=by
 unfold ah;rw [aA,υ,← Xjx,Xxb h,ξ,π h];rfl
theorem aQ (k:Nat):decide (((0:Nat):Int)≤(k:Int))=true:=Yq0 (by omega)
theorem bJ {k n:Nat} (h:k<n):decide ((k:Int)<(n:Int))=true:=Yq0 (by omega)
theorem ahV (e:List Nd) (c:Bool) (A:List (List Nat)) (d:List Sc) (f:Bool) (b:List Nat) (k i:Nat) (a:List Nat) (rA:List AV) (j:Nat) (n:List AV) (s:Nat) (l:List AV) (o:k<A.length) (g:(ε ((δ (k:Int))*1) (bC A))= [zt a]++rA) (p:i<a.length) (m:(ε ((δ (i:Int))*1) (ah a))= [ω (j:Int)]++n) (h:j<b.length) (hs:(ε ((0+(δ (j:Int)))*1) (ah b))= [ω (s:Int)]++l):
  ax prog ap 69 [.ptr 0 0 0,ω (k:Int),ω (i:Int)] (wH e c A d f b) (.ret (ω (s:Int))) (wH e c A d f b):=pK [] 0 0 (.a (gU [.int .i64] hs rfl) (.c (aQ j) (.c (bJ h) (.k 1 (aQ i) (.c (bJ p) (.k 1 (aQ k) (.c (bJ o) (.n 2 .nil)))))))) (.v 22 (.rd1 (.int .i64) hs rfl) (.v 19 (.ppt m) (.v 16 (.ppt g) .nil)))
theorem qc (e:List Nd) (c:Bool) (A:List (List Nat)) (d:List Sc) (b:Bool) (a:List Nat) (k i:Nat) (f:k<A.length) (h:i<(A.getD k []).length) (g:(A.getD k []).getD i 0<a.length):
  ax prog ap 69 [.ptr 0 0 0,ω (k:Int),ω (i:Int)] (wH e c A d b a) (.ret (ω ((eH A a k i:Nat):Int))) (wH e c A d b a):=
 ahV e c A d b a k i _ _ _ _ _ _ f (lD f) h (kH h) g (by rw [χ];exact kH g)
theorem gX (a b:Nat):((a:Int)==(b:Int))=decide (a=b):=by by_cases h:a=b<;>simp [h]<;>omega
theorem I9 (a b:Nat):CO 68 [ω (a:Int),ω (b:Int)] (.ret (ω ((dX a b:Nat):Int))):=by
 rcases tf ((a:Int)==((0:Nat):Int)) with b0|b0
 ·rw [show dX a b=b by unfold dX;simp only [gX,decide_eq_true_eq,decide_eq_false_iff_not] at b0;simp [*]];exact pK [] 1 1 (.c (aC b0) .nil) (.nil)
 ·rcases tf ((b:Int)==((0:Nat):Int)) with b1|b1
  ·rw [show dX a b=a by unfold dX;simp only [gX,decide_eq_true_eq,decide_eq_false_iff_not] at b0 b1;simp [*]];exact pK [] 3 6 (.k 1 (aC b1) (.c (aB b0) .nil)) (.nil)
  ·rcases tf ((a:Int)==(b:Int)) with b2|b2
   ·rw [show dX a b=a by unfold dX;simp only [gX,decide_eq_true_eq,decide_eq_false_iff_not] at b0 b1 b2;simp [*]];exact pK [] 3 4 (.c (aC b2) (.c (aB b1) (.c (aB b0) .nil))) (.nil)
   ·rw [show dX a b=3 by unfold dX;simp only [gX,decide_eq_true_eq,decide_eq_false_iff_not] at b0 b1 b2;simp [*]];exact pK [] 3 0 (.c (aB b2) (.c (aB b1) (.c (aB b0) .nil))) (.nil)
theorem QF (a:Nat):CO 97 [ω (a:Int)] (.ret (ω ((jD a:Nat):Int))):=by
 rcases tf ((a:Int)==((1:Nat):Int)) with b0|b0
 ·have e:((jD a:Nat):Int)=γ .i64 (((3:Nat):Int) - (a:Int)):=by
   simp only [gX,decide_eq_true_eq,decide_eq_false_iff_not] at b0;subst b0;decide
  rw [e];exact pK [] 2 3 (.k 1 (aC b0) .nil) (.nil)
 ·rcases tf ((a:Int)==((2:Nat):Int)) with b1|b1
  ·have e:((jD a:Nat):Int)=γ .i64 (((3:Nat):Int) - (a:Int)):=by
    simp only [gX,decide_eq_true_eq,decide_eq_false_iff_not] at b0 b1;subst b1;decide
   rw [e];exact pK [] 2 2 (.c (aC b1) (.c (aB b0) .nil)) (.nil)
  ·rw [show jD a=a by unfold jD;simp only [gX,decide_eq_true_eq,decide_eq_false_iff_not] at b0 b1;simp [*]];exact pK [] 2 0 (.c (aB b1) (.c (aB b0) .nil)) (.nil)
theorem iL {i:Nat} (h:i<2^62):ω (γ .i64 ((i:Int)+((1:Nat):Int)))= ω ((i+1:Nat):Int):=by rw [dL]<;>first|rfl|omega
def cy (fd fc:Nat→Nat→Nat→Nat):List Nat→List Nat→Nat→List Nat × Nat
 | [],_,c=>([],c)
 |x::l,m,c=>(fd x (m.headD 0) c::(cy fd fc l m.tail (fc x (m.headD 0) c)).1,(cy fd fc l m.tail (fc x (m.headD 0) c)).2)
def B_ (x y c:Nat):Nat:=(x+y+c) % 4294967296
def z_ (x y c:Nat):Nat:=(x+y+c) / 4294967296
def AB (x y c:Nat):Nat:=(x+4294967296 - y - c) % 4294967296
def xC (x y c:Nat):Nat:=if x<y+c then 1 else 0
def smA (x c:Nat):Nat:=x+c
def smB (x y c:Nat):Nat:=x+y+c
def lsA (x c:Nat):Nat:=(x+18446744073709551616 - c) % 18446744073709551616
def lsB (x y c:Nat):Nat:=(x+18446744073709551616 - y - c) % 18446744073709551616
theorem NC (fd fc:Nat→Nat→Nat→Nat):∀ (l m:List Nat) (c:Nat),(cy fd fc l m c).1.length=l.length
 | [],_,_=>rfl
 |_::l,m,_=>by simp only [cy,ν,NC fd fc l m.tail _]
theorem ND {fd fc:Nat→Nat→Nat→Nat} (h:∀ x y c,fd x y c<4294967296):∀ (l m:List Nat) (c:Nat),bZ (cy fd fc l m c).1
 | [],_,_=>bZ.nil
 |_::l,m,_=>bZ.cons (h _ _ _) (ND h l m.tail _)
theorem abh (m:List Nat):aK m=m.headD 0+4294967296*aK m.tail:=by cases m with|nil=>rfl|cons x l=>rfl
theorem bZ.hd {m:List Nat} (h:bZ m):m.headD 0<4294967296:=by cases m with|nil=>show 0<_;omega|cons x l=>exact h.head
theorem bZ.tl {m:List Nat} (h:bZ m):bZ m.tail:=by cases m with|nil=>exact h|cons x l=>exact h.tail
theorem Xc:∀ (l m:List Nat) (c:Nat),m.length≤l.length→aK (cy B_ z_ l m c).1+4294967296^l.length*(cy B_ z_ l m c).2=aK l+aK m+c
 | [],m,c,h=>by
  have:m= []:=List.length_eq_zero_iff.1 (by simpa using h);subst this;simp [cy,aK]
 |x::l,m,c,h=>by
  have f:=Xc l m.tail (z_ x (m.headD 0) c) (by rw [Xk0];simp only [ν] at h;omega);have a:=abh m;have hd:=Xxc (x+m.headD 0+c) 4294967296;simp only [cy,aK,ν,Xq3];have e:4294967296^l.length*4294967296*(cy B_ z_ l m.tail (z_ x (m.headD 0) c)).2=4294967296*(4294967296^l.length*(cy B_ z_ l m.tail (z_ x (m.headD 0) c)).2):=by rw [Xqa (4294967296^l.length),Xqp]
  rw [e,a];generalize 4294967296^l.length*(cy B_ z_ l m.tail (z_ x (m.headD 0) c)).2=P at*
  generalize aK (cy B_ z_ l m.tail (z_ x (m.headD 0) c)).1=V at*
  have d:B_ x (m.headD 0) c=(x+m.headD 0+c) % 4294967296:=rfl;have b:z_ x (m.headD 0) c=(x+m.headD 0+c) / 4294967296:=rfl;rw [b] at f;rw [d];omega
theorem VH:∀ (l m:List Nat) (c:Nat),bZ l→bZ m→c≤1→m.length≤l.length→aK (cy AB xC l m c).1+aK m+c=aK l+4294967296^l.length*(cy AB xC l m c).2
 | [],m,c,_,_,_,h=>by
  have:m= []:=List.length_eq_zero_iff.1 (by simpa using h);subst this;simp [cy,aK]
 |x::l,m,c,hl,hm1,hc,h=>by
  have b:xC x (m.headD 0) c≤1:=by unfold xC;split<;>omega
  have f:=VH l m.tail (xC x (m.headD 0) c) hl.tail hm1.tl b (by rw [Xk0];simp only [ν] at h;omega);have a:=abh m;have g:=hl.head;have d:=hm1.hd;simp only [cy,aK,ν,Xq3];have e:4294967296^l.length*4294967296*(cy AB xC l m.tail (xC x (m.headD 0) c)).2=4294967296*(4294967296^l.length*(cy AB xC l m.tail (xC x (m.headD 0) c)).2):=by rw [Xqa (4294967296^l.length),Xqp]
  rw [e,a];generalize 4294967296^l.length*(cy AB xC l m.tail (xC x (m.headD 0) c)).2=P at*
  generalize aK (cy AB xC l m.tail (xC x (m.headD 0) c)).1=V at*
  generalize m.headD 0=y at*
  have hd:AB x y c+y+c=x+4294967296*xC x y c:=by unfold AB xC;split<;>omega
  omega
theorem ajR {x c:Nat} (b:x<4294967296) (a:c≤1):Xxr .u64 (γ .u64 ((γ .u64 (x:Int))+(c:Int)))= .int .u64 ((smA x c:Nat):Int):=by
 rw [oK,bW,oK];unfold smA;congr 2;omega
theorem apR {x y c:Nat} (d:x<4294967296) (a:y<4294967296) (b:c≤1):Xxr .u64 (γ .u64 (((smA x c:Nat):Int)+(γ .u64 (y:Int))))= .int .u64 ((smB x y c:Nat):Int):=by
 unfold smA smB;rw [oK,bW,oK];congr 2;omega
theorem apT (x y c:Nat):Xxr .u32 (γ .u32 ((smB x y c:Nat):Int))= .int .u32 ((B_ x y c:Nat):Int):=by
 unfold smB B_;rw [qP]
theorem apS (x y c:Nat):Xxr .u64 (Xq0 ((smB x y c:Nat):Int) (2^(min 32 64)))= .int .u64 ((z_ x y c:Nat):Int):=by
 unfold smB z_;rw [show min 32 64=32 from rfl,lm]
theorem ajT (x c:Nat):Xxr .u32 (γ .u32 ((smA x c:Nat):Int))= .int .u32 ((B_ x 0 c:Nat):Int):=by
 unfold smA B_;rw [qP];rfl
theorem ajS (x c:Nat):Xxr .u64 (Xq0 ((smA x c:Nat):Int) (2^(min 32 64)))= .int .u64 ((z_ x 0 c:Nat):Int):=by
 unfold smA z_;rw [show min 32 64=32 from rfl,lm];rfl
theorem ahv {x c:Nat} (b:x<4294967296) (a:c≤1):Xxr .u64 (γ .u64 ((γ .u64 (x:Int)) - (c:Int)))= .int .u64 ((lsA x c:Nat):Int):=by
 rw [oK,lh];unfold lsA;congr 2;omega
theorem apc {x y c:Nat} (d:x<4294967296) (a:y<4294967296) (b:c≤1):Xxr .u64 (γ .u64 (((lsA x c:Nat):Int) - (γ .u64 (y:Int))))= .int .u64 ((lsB x y c:Nat):Int):=by
 unfold lsA lsB;rw [oK,lh];congr 2;omega
theorem ape {x y c:Nat} (d:x<4294967296) (a:y<4294967296) (b:c≤1):Xxr .u32 (γ .u32 ((lsB x y c:Nat):Int))= .int .u32 ((AB x y c:Nat):Int):=by
 unfold lsB AB;rw [qP];congr 2;omega
theorem p63:(2:Nat)^63=9223372036854775808:=by decide
theorem apd {x y c:Nat} (d:x<4294967296) (a:y<4294967296) (b:c≤1):Xxr .u64 (Xq0 ((lsB x y c:Nat):Int) (2^(min 63 64)))= .int .u64 ((xC x y c:Nat):Int):=by
 unfold lsB xC;rw [show min 63 64=63 from rfl,lm,p63];congr 2;split<;>omega
theorem ahx {x c:Nat} (b:x<4294967296) (a:c≤1):Xxr .u32 (γ .u32 ((lsA x c:Nat):Int))= .int .u32 ((AB x 0 c:Nat):Int):=by
 unfold lsA AB;rw [qP];congr 2;omega
theorem ahw {x c:Nat} (b:x<4294967296) (a:c≤1):Xxr .u64 (Xq0 ((lsA x c:Nat):Int) (2^(min 63 64)))= .int .u64 ((xC x 0 c:Nat):Int):=by
 unfold lsA xC;rw [show min 63 64=63 from rfl,lm,p63];congr 2;split<;>omega
theorem OJ {x y c:Nat} (d:x<4294967296) (a:y<4294967296) (b:c≤1):z_ x y c≤1:=by unfold z_;omega
theorem VF {x y c:Nat}:xC x y c≤1:=by unfold xC;split<;>omega
theorem y_ {d l:List Nat} {x:Nat}:ε ((δ (d.length:Int))*1) (ak (d++x::l))= [Xxr .u32 (x:Int)]++ak l:=by
 rw [aA,υ];unfold ak;rw [Xxt,List.drop_left' (by simp)];rfl
theorem zg {p s:List Nat} {x y:Nat}:μ ((0+(δ (p.length:Int)))*1) (ak (p++x::s))++ [Xxr .u32 (y:Int)]++ε (((0+(δ (p.length:Int)))*1)+1) (ak (p++x::s))=ak (p++y::s):=by
 rw [aA,χ,υ];exact lS rfl
def OL (a b:List Nat) (na nb:Bool) (p:Nat × List Nat × Nat):St:=⟨[(0,.sl (ak a) a.length na),(1,.sl (ak b) b.length nb),(5,.ref 0 0 0 p.2.1.length),(6,.int .u64 (p.2.2:Int)),(21,ω (a.length:Int)),(22,ω (p.1:Int))],[(0,⟨(ak p.2.1),0,false,0,1,true⟩)],.dead,[]⟩
def LZ (a b:List Nat) (na nb:Bool) (p:List Nat × Nat):St:=⟨[(0,.sl (ak a) a.length na),(1,.sl (ak b) b.length nb),(5,.ref 0 0 0 p.1.length),(6,.int .u64 (p.2:Int))],[(0,⟨(ak p.1),0,false,0,1,true⟩)],.dead,[]⟩
theorem aat {nt:Nat} (C:59≤nt) (a b:List Nat) (J O:Bool) (F:bZ a) (E:bZ b) (Q:a.length<2^40) (t:List Nat):∀ (l d o e m:List Nat) (c:Nat),c≤1→d++l=a→o.length=d.length→e++m=b→(e.length=d.length∨(m= []∧e.length≤d.length))→
  aF prog ap [] nt (ae 0 (af f135)) (fun _=> .exit 0) (OL a b J O) (LZ a b J O) (d.length,o++(κ l.length 0++t),c) (o++((cy B_ z_ l m c).1++t),(cy B_ z_ l m c).2):=by
 intro l
 induction l with
 |nil=>
  intro d o e m c K hd B q j;rw [Γ] at hd;subst hd;have P:decide ((d.length:Int)<(d.length:Int))=false:=Yq1 (by omega);exact .done (pN 135 [] 1 0 (.c (aB P) .nil) .nil C)
 | cons x l ih=>
  intro d o e m c K hd B q j;have g:x<4294967296:=F x (by rw [← hd];simp);have i:=K;have I:d.length+(l.length+1)=a.length:=by rw [← hd];simp
  have H:(ε ((δ (d.length:Int))*1) (ak a))= [Xxr .u32 (x:Int)]++ak l:=by rw [← hd];exact y_
  generalize ak l=ra at H;obtain ⟨w,r⟩:∃ w,w=o++(κ (x::l).length 0++t):=⟨_,rfl⟩
  have p:∀ v:Nat,μ ((0+(δ (d.length:Int)))*1) (ak w)++ [Xxr .u32 (v:Int)]++ε (((0+(δ (d.length:Int)))*1)+1) (ak w)=ak ((o++ [v])++(κ l.length 0++t)):=by
   intro v;rw [r,← B,ν,Xxe,Xq1,zg,Ψ];rfl
  have G:w.length=o.length+(l.length+1)+t.length:=by rw [r];simp;omega
  have n:∀ v:Nat,((o++ [v])++(κ l.length 0++t)).length=w.length:=by intro v;rw [G];simp;omega
  have h0:decide (((0:Nat):Int)≤(d.length:Int))=true:=Yq0 (by omega);have A:decide ((d.length:Int)<(a.length:Int))=true:=Yq0 (by omega);have L:decide ((d.length:Int)<(w.length:Int))=true:=Yq0 (by omega);have M:(Ξ (((0+(δ (d.length:Int)))*1)+1) (ζ (ak w)))=true:=by rw [Xqn,aA,au];omega
  rw [← r];cases m with
  |cons y m=>
   have u:e.length=d.length:=by rcases j with h|h;exact h;cases h.1
   have s:y<4294967296:=E y (by rw [← q];simp);have N:(ε ((δ (d.length:Int))*1) (ak b))= [Xxr .u32 (y:Int)]++ak m:=by rw [← q,← u];exact y_
   generalize ak m=rb at N;have z:decide ((d.length:Int)<(b.length:Int))=true:=Yq0 (by rw [← q];simp;omega);have f:=ih (d++ [x]) (o++ [B_ x y c]) (e++ [y]) m (z_ x y c) (OJ g s i) (by rw [← hd];simp) (by simp [B]) (by rw [← q];simp) (.inl (by simp [u]));rw [θ,ο] at f;simp only [Ψ,Xxg] at f;simp only [cy,Xje,Xzf,Xwq,Xvn,Xq1];refine .next ?_ f
   unfold OL;rw [show o++(B_ x y c::(κ l.length 0++t))=(o++ [B_ x y c])++(κ l.length 0++t) by simp,n,← p];have D:d.length<2^62:=by omega
   generalize d.length=k at*
   exact pN 135 [] 2 3 (.c M (.c h0 (.c L (.k 2 h0 (.c z (.c (aC z) (.k 1 h0 (.c A (.c (aC A) .nil))))))))) (.v 50 (.eq (iL D)) (.v 48 (.eq (apS x y c)) (.v 46 (.eq (apT x y c)) (.v 42 (.eq (apR g s i)) (.v 39 (.ppt N) (.v 31 (.eq (ajR g i)) (.v 27 (.ppt H) .nil))))))) C
  |nil=>
   have z:decide ((d.length:Int)<(b.length:Int))=false:=Yq1 (by rw [← q,Γ];rcases j with h|h<;>omega);have f:=ih (d++ [x]) (o++ [B_ x 0 c]) e [] (z_ x 0 c) (OJ g (by omega) i) (by rw [← hd];simp) (by simp [B]) q (.inr ⟨rfl,by rw [θ];rcases j with h|h<;>omega⟩);rw [θ,ο] at f;simp only [Ψ,Xxg] at f;simp only [cy,Xje,Xzf,Xwq,Xvn,Xq1];refine .next ?_ f
   unfold OL;rw [show o++(B_ x 0 c::(κ l.length 0++t))=(o++ [B_ x 0 c])++(κ l.length 0++t) by simp,n,← p];have D:d.length<2^62:=by omega
   generalize d.length=k at*
   exact pN 135 [] 2 1 (.c M (.c h0 (.c L (.k 1 (aB z) (.k 1 h0 (.c A (.c (aC A) .nil))))))) (.v 50 (.eq (iL D)) (.v 48 (.eq (ajS x c)) (.v 46 (.eq (ajT x c)) (.v 31 (.eq (ajR g i)) (.v 27 (.ppt H) .nil))))) C
def RJ (a b:List Nat) (na nb:Bool) (p:Nat × List Nat × Nat):St:=⟨[(0,.sl (ak a) a.length na),(1,.sl (ak b) b.length nb),(5,.ref 0 0 0 p.2.1.length),(6,.int .u64 (p.2.2:Int)),(13,ω (a.length:Int)),(14,ω (p.1:Int))],[(0,⟨(ak p.2.1),0,false,0,1,true⟩)],.dead,[]⟩
def VG (a b:List Nat) (na nb:Bool) (p:List Nat × Nat):St:=⟨[(0,.sl (ak a) a.length na),(1,.sl (ak b) b.length nb),(5,.ref 0 0 0 p.1.length),(6,.int .u64 (p.2:Int))],[(0,⟨(ak p.1),0,false,0,1,true⟩)],.dead,[]⟩
theorem Y5 {nt:Nat} (C:45≤nt) (a b:List Nat) (J O:Bool) (F:bZ a) (E:bZ b) (Q:a.length<2^40) (t:List Nat):∀ (l d o e m:List Nat) (c:Nat),c≤1→d++l=a→o.length=d.length→e++m=b→(e.length=d.length∨(m= []∧e.length≤d.length))→
  aF prog ap [] nt (ae 0 (af f204)) (fun _=> .exit 0) (RJ a b J O) (VG a b J O) (d.length,o++(κ l.length 0++t),c) (o++((cy AB xC l m c).1++t),(cy AB xC l m c).2):=by
 intro l
 induction l with
 |nil=>
  intro d o e m c K hd B r j;rw [Γ] at hd;subst hd;have P:decide ((d.length:Int)<(d.length:Int))=false:=Yq1 (by omega);exact .done (pN 204 [] 1 0 (.c (aB P) .nil) .nil C)
 | cons x l ih=>
  intro d o e m c K hd B r j;have f:x<4294967296:=F x (by rw [← hd];simp);have g:=K;have I:d.length+(l.length+1)=a.length:=by rw [← hd];simp
  have H:(ε ((δ (d.length:Int))*1) (ak a))= [Xxr .u32 (x:Int)]++ak l:=by rw [← hd];exact y_
  generalize ak l=ra at H;obtain ⟨w,s⟩:∃ w,w=o++(κ (x::l).length 0++t):=⟨_,rfl⟩
  have p:∀ v:Nat,μ ((0+(δ (d.length:Int)))*1) (ak w)++ [Xxr .u32 (v:Int)]++ε (((0+(δ (d.length:Int)))*1)+1) (ak w)=ak ((o++ [v])++(κ l.length 0++t)):=by
   intro v;rw [s,← B,ν,Xxe,Xq1,zg,Ψ];rfl
  have G:w.length=o.length+(l.length+1)+t.length:=by rw [s];simp;omega
  have n:∀ v:Nat,((o++ [v])++(κ l.length 0++t)).length=w.length:=by intro v;rw [G];simp;omega
  have h0:decide (((0:Nat):Int)≤(d.length:Int))=true:=Yq0 (by omega);have A:decide ((d.length:Int)<(a.length:Int))=true:=Yq0 (by omega);have L:decide ((d.length:Int)<(w.length:Int))=true:=Yq0 (by omega);have M:(Ξ (((0+(δ (d.length:Int)))*1)+1) (ζ (ak w)))=true:=by rw [Xqn,aA,au];omega
  rw [← s];cases m with
  |cons y m=>
   have u:e.length=d.length:=by rcases j with h|h;exact h;cases h.1
   have q:y<4294967296:=E y (by rw [← r];simp);have N:(ε ((δ (d.length:Int))*1) (ak b))= [Xxr .u32 (y:Int)]++ak m:=by rw [← r,← u];exact y_
   generalize ak m=rb at N;have z:decide ((d.length:Int)<(b.length:Int))=true:=Yq0 (by rw [← r];simp;omega);have i:=ih (d++ [x]) (o++ [AB x y c]) (e++ [y]) m (xC x y c) VF (by rw [← hd];simp) (by simp [B]) (by rw [← r];simp) (.inl (by simp [u]));rw [θ,ο] at i;simp only [Ψ,Xxg] at i;simp only [cy,Xje,Xzf,Xwq,Xvn,Xq1];refine .next ?_ i
   unfold RJ;rw [show o++(AB x y c::(κ l.length 0++t))=(o++ [AB x y c])++(κ l.length 0++t) by simp,n,← p];have D:d.length<2^62:=by omega
   generalize d.length=k at*
   exact pN 204 [] 2 3 (.c M (.c h0 (.c L (.k 2 h0 (.c z (.c (aC z) (.k 1 h0 (.c A (.c (aC A) .nil))))))))) (.v 42 (.eq (iL D)) (.v 40 (.eq (apd f q g)) (.v 38 (.eq (ape f q g)) (.v 34 (.eq (apc f q g)) (.v 31 (.ppt N) (.v 23 (.eq (ahv f g)) (.v 19 (.ppt H) .nil))))))) C
  |nil=>
   have z:decide ((d.length:Int)<(b.length:Int))=false:=Yq1 (by rw [← r,Γ];rcases j with h|h<;>omega);have i:=ih (d++ [x]) (o++ [AB x 0 c]) e [] (xC x 0 c) VF (by rw [← hd];simp) (by simp [B]) r (.inr ⟨rfl,by rw [θ];rcases j with h|h<;>omega⟩);rw [θ,ο] at i;simp only [Ψ,Xxg] at i;simp only [cy,Xje,Xzf,Xwq,Xvn,Xq1];refine .next ?_ i
   unfold RJ;rw [show o++(AB x 0 c::(κ l.length 0++t))=(o++ [AB x 0 c])++(κ l.length 0++t) by simp,n,← p];have D:d.length<2^62:=by omega
   generalize d.length=k at*
   exact pN 204 [] 2 1 (.c M (.c h0 (.c L (.k 1 (aB z) (.k 1 h0 (.c A (.c (aC A) .nil))))))) (.v 42 (.eq (iL D)) (.v 40 (.eq (ahw f g)) (.v 38 (.eq (ahx f g)) (.v 23 (.eq (ahv f g)) (.v 19 (.ppt H) .nil))))) C
theorem ry {l:List Nat} {i:Nat} (h:i<l.length):l.getD i 0=l[i]:=by rw [ξ,π h];rfl
def afD (e:List Nd) (ne:Bool) (A:List (List Nat)) (sc:List Sc) (ns:Bool) (ss:List Nat) (k n:Nat) (p:Nat × Nat):St:=⟨[(0,.ptr 0 0 0),(1,ω (k:Int)),(5,ω (p.2:Int)),(14,ω (n:Int)),(15,ω (p.1:Int))],[(0,⟨[.sl (aH e) e.length ne,.sl (bC A) A.length true,.sl (bT sc) sc.length ns,.ref 1 0 0 ss.length],0,false,0,0,false⟩),(1,⟨(ah ss),0,false,0,1,true⟩)],.dead,[]⟩
def aa4 (e:List Nd) (ne:Bool) (A:List (List Nat)) (sc:List Sc) (ns:Bool) (ss:List Nat) (k:Nat) (acc:Nat):St:=⟨[(0,.ptr 0 0 0),(1,ω (k:Int)),(5,ω (acc:Int))],[(0,⟨[.sl (aH e) e.length ne,.sl (bC A) A.length true,.sl (bT sc) sc.length ns,.ref 1 0 0 ss.length],0,false,0,0,false⟩),(1,⟨(ah ss),0,false,0,1,true⟩)],.dead,[]⟩
theorem Ul {nt:Nat} (p:26≤nt) (e:List Nd) (f:Bool) (A:List (List Nat)) (g:List Sc) (h:Bool) (c:List Nat) (k n:Nat) (r:k<A.length) (x:n<2^40) (t:n=(A.getD k []).length) (u:∀ j ∈ A.getD k [],j<c.length):∀ (d i a:Nat),i+d=n→
  aF prog ap (wH e f A g h c) nt (ae 0 (af f39)) (fun _=> .exit 0) (afD e f A g h c k n) (aa4 e f A g h c k) (i,a) (((A.getD k []).drop i).foldl (fun s j=>dX s (c.getD j 0)) a):=by
 intro d
 induction d with
 |zero=>
  intro i a w;have m:(decide ((i:Int)<(n:Int)))=false:=Yq1 (by omega);rw [Xxj (by omega)];exact .done (pN 39 [] 1 0 (.c (aB m) .nil) (.nil) p)
 | succ d ih=>
  intro i a w;have m:(decide ((i:Int)<(n:Int)))=true:=Yq0 (by omega);have b:i<(A.getD k []).length:=by omega
  have l:=b;have o:(A.getD k []).getD i 0<c.length:=by
   rw [ry b];exact u _ (Xjr b)
  have q:i<2^62:=by omega
  rw [Xxb b];have v:(A.getD k [])[i]=(A.getD k []).getD i 0:=(ry b).symm;rw [v];exact .next (pN 39 [] 1 1 (.c (aC m) .nil) (.v 24 (.eq (iL q)) (.c (I9 a (eH A c k i)) (.c (qc e f A g h c k i r l o) .nil))) p) (ih (i+1) (dX a (eH A c k i)) (by omega))
theorem afE (e:List Nd) (f:Bool) (A:List (List Nat)) (c:List Sc) (d:Bool) (b:List Nat) (k:Nat) (a:List Nat) (rA:List AV) (z:Nat) (h:k<A.length) (g:(ε ((δ (k:Int))*1) (bC A))= [zt a]++rA)
  (l0:aI prog ap (wH e f A c d b) 26 (.block 0 (.loop (ae 0 (af f39)))) ⟨[(0,.ptr 0 0 0),(1,ω (k:Int)),(4,ω 0),(5,ω 0),(6,.dead),(14,ω (a.length:Int)),(15,ω 0),(16,.dead)],[(0,⟨[.sl (aH e) e.length f,.sl (bC A) A.length true,.sl (bT c) c.length d,.ref 1 0 0 b.length],0,false,0,0,false⟩),(1,⟨(ah b),0,false,0,1,true⟩)],.dead,[]⟩ (.normal) ⟨[(0,.ptr 0 0 0),(1,ω (k:Int)),(5,ω (z:Int))],[(0,⟨[.sl (aH e) e.length f,.sl (bC A) A.length true,.sl (bT c) c.length d,.ref 1 0 0 b.length],0,false,0,0,false⟩),(1,⟨(ah b),0,false,0,1,true⟩)],.dead,[]⟩):
  ax prog ap 39 [.ptr 0 0 0,ω (k:Int)] (wH e f A c d b) (.ret (ω (z:Int))) (wH e f A c d b):=pK [0] 0 0 (.k 1 (aQ k) (.c (bJ h) (.n 1 .nil))) (.l l0 (.v 12 (.ppt g) .nil))
theorem abR (e:List Nd) (c:Bool) (A:List (List Nat)) (d:List Sc) (b:Bool) (a:List Nat) (k:Nat) (f:k<A.length) (g:(A.getD k []).length<2^40) (l:∀ j ∈ A.getD k [],j<a.length):
  ax prog ap 39 [.ptr 0 0 0,ω (k:Int)] (wH e c A d b a) (.ret (ω ((dZ A a k:Nat):Int))) (wH e c A d b a):=
 have h:∀ nt,26≤nt→aF prog ap (wH e c A d b a) nt (ae 0 (af f39)) (fun _=> .exit 0) (afD e c A d b a k (A.getD k []).length) (aa4 e c A d b a k) (0,0) (dZ A a k):=fun nt i=>Ul i e c A d b a k _ f g rfl l _ 0 0 (χ _)
 afE e c A d b a k _ _ (dZ A a k) f (lD f) (aF.blk h (by simp) rfl (aJ.of ⟨rfl,rfl,rfl,rfl,rfl,trivial⟩) (aJ.of ⟨rfl,rfl,rfl,trivial⟩))
def iQ:Nd:=⟨0,false,[],[],[]⟩
def fB (op:Int):Bool:=(op==1)||((op==2)||(op==3))
def rM (e:List Nd) (A:List (List Nat)) (k i:Nat):Nd:=e.getD ((A.getD k []).getD i 0) iQ
theorem uG {e:List Nd} {j:Nat} (h:j<e.length):ε (δ (j:Int)*5) (aH e)=iE (e.getD j iQ)++aH (e.drop (j+1)):=by
 have b:e=e.take j++e[j]::e.drop (j+1):=by simp
 have a:e.getD j iQ=e[j]:=by rw [ξ,π h];rfl
 rw [a]
 conv=>lhs;rw [b]
 exact vO (by rw [Xqq];omega)
theorem jd {A:List (List Nat)} {k i m:Nat} (a:∀ j ∈ A.getD k [],j<m) (h:i<(A.getD k []).length):(A.getD k []).getD i 0<m:=by rw [ry h];exact a _ (Xjr h)
theorem aho (e:List Nd) (l:Bool) (A:List (List Nat)) (n:List Sc) (o:Bool) (m:List Nat) (k i:Nat) (a:List Nat) (rA:List AV) (j:Nat) (q:List AV) (x:Nd) (p:List AV) (f:k<A.length) (b:(ε ((δ (k:Int))*1) (bC A))= [zt a]++rA) (g:i<a.length) (d:(ε ((δ (i:Int))*1) (ah a))= [ω (j:Int)]++q) (c:j<e.length) (h:(ε ((δ (j:Int))*5) (aH e))=iE x++p):
  ax prog ap 98 [.ptr 0 0 0,ω (k:Int),ω (i:Int)] (wH e l A n o m) (.ret (.tup [.agg [.bool x.neg,.str x.num,.str x.den],.bool (fB x.op)])) (wH e l A n o m):=by
 rcases tf (x.op==((1:Nat):Int)) with b0|b0
 ·rw [show fB x.op=true from by unfold fB;rw [show (x.op==1)=true from b0];rfl];exact pK [] 2 3 (.k 5 (aC b0) (.k 10 (aQ j) (.c (bJ c) (.k 1 (aQ i) (.c (bJ g) (.k 1 (aQ k) (.c (bJ f) (.n 2 .nil)))))))) (.v 23 (.ppt h) (.v 21 (.ppt d) (.v 18 (.ppt b) .nil)))
 ·rcases tf (x.op==((2:Nat):Int)) with b1|b1
  ·rw [show fB x.op=true from by unfold fB;rw [show (x.op==1)=false from b0,show (x.op==2)=true from b1];rfl];exact pK [] 2 2 (.k 4 (aC b1) (.k 1 (aB b0) (.k 10 (aQ j) (.c (bJ c) (.k 1 (aQ i) (.c (bJ g) (.k 1 (aQ k) (.c (bJ f) (.n 2 .nil))))))))) (.v 23 (.ppt h) (.v 21 (.ppt d) (.v 18 (.ppt b) .nil)))
  ·rw [show fB x.op=(x.op==((3:Nat):Int)) from by unfold fB;rw [show (x.op==1)=false from b0,show (x.op==2)=false from b1];rfl];exact pK [] 2 0 (.k 5 (aB b1) (.k 1 (aB b0) (.k 10 (aQ j) (.c (bJ c) (.k 1 (aQ i) (.c (bJ g) (.k 1 (aQ k) (.c (bJ f) (.n 2 .nil))))))))) (.v 23 (.ppt h) (.v 21 (.ppt d) (.v 18 (.ppt b) .nil)))
theorem uB (e:List Nd) (c:Bool) (A:List (List Nat)) (d:List Sc) (b:Bool) (a:List Nat) (k i:Nat) (f:k<A.length) (h:i<(A.getD k []).length) (g:(A.getD k []).getD i 0<e.length):
  ax prog ap 98 [.ptr 0 0 0,ω (k:Int),ω (i:Int)] (wH e c A d b a) (.ret (.tup [.agg [.bool (rM e A k i).neg,.str (rM e A k i).num,.str (rM e A k i).den],.bool (fB (rM e A k i).op)])) (wH e c A d b a):=
 aho e c A d b a k i _ _ _ _ _ _ f (lD f) h (kH h) g (uG g)
def gJ (neg:Bool) (s:Nat):Nat:=cond neg (jD s) s
theorem OC (e:List Nd) (c:Bool) (A:List (List Nat)) (d:List Sc) (b:Bool) (a:List Nat) (k i:Nat) (x:Nd) (f:k<A.length) (h:i<(A.getD k []).length) (g:(A.getD k []).getD i 0<a.length):
  ax prog ap 99 [.ptr 0 0 0,ω (k:Int),ω (i:Int),.agg [.bool x.neg,.str x.num,.str x.den]] (wH e c A d b a) (.ret (ω ((gJ x.neg (eH A a k i):Nat):Int))) (wH e c A d b a):=by
 rcases tf x.neg with b0|b0
 ·rw [show gJ x.neg (eH A a k i)=jD (eH A a k i) by unfold gJ;rw [b0];rfl];exact pK [] 1 1 (.c (aC b0) (.n 1 .nil)) (.c (QF (eH A a k i)) (.c (qc e c A d b a k i f h g) .nil))
 ·rw [show gJ x.neg (eH A a k i)=eH A a k i by unfold gJ;rw [b0];rfl];exact pK [] 1 0 (.c (aB b0) (.n 1 .nil)) (.c (qc e c A d b a k i f h g) .nil)
def Ey (e:List Nd) (A:List (List Nat)) (ss:List Nat) (k:Nat):Nat:=cond (fB (rM e A k 0).op) (gJ (rM e A k 0).neg (eH A ss k 1)) (cond (fB (rM e A k 1).op) (gJ (rM e A k 1).neg (eH A ss k 0)) 3)
def Dv (e:List Nd) (A:List (List Nat)) (ss:List Nat) (k:Nat):Nat:=cond (fB (rM e A k 1).op) (cond (gz (rM e A k 1).neg (rM e A k 1).num (rM e A k 1).den==((0:Nat):Int)) 3 (gJ (rM e A k 1).neg (eH A ss k 0))) 3
def IB (A:List (List Nat)) (ss:List Nat) (k:Nat):Nat:=cond (((eH A ss k 0:Nat):Int)==((0:Nat):Int)) (dX (eH A ss k 1) (eH A ss k 2)) 3
theorem ac1 (e:List Nd) (c:Bool) (A:List (List Nat)) (d:List Sc) (b:Bool) (a:List Nat) (k:Nat) (f:k<A.length) (hs:∀ j ∈ A.getD k [],j<a.length) (h:∀ j ∈ A.getD k [],j<e.length) (h0:0<(A.getD k []).length) (g:1<(A.getD k []).length):
  ax prog ap 64 [.ptr 0 0 0,ω (k:Int)] (wH e c A d b a) (.ret (ω ((Ey e A a k:Nat):Int))) (wH e c A d b a):=by
 rcases tf (fB (rM e A k 0).op) with b0|b0
 ·rw [show Ey e A a k=gJ (rM e A k 0).neg (eH A a k 1) by unfold Ey;rw [b0];rfl];exact pK [] 1 1 (.k 3 (aC b0) (.n 1 .nil)) (.c (OC e c A d b a k 1 (rM e A k 0) f g (jd hs g)) (.c (uB e c A d b a k 0 f h0 (jd h h0)) .nil))
 ·rcases tf (fB (rM e A k 1).op) with b1|b1
  ·rw [show Ey e A a k=gJ (rM e A k 1).neg (eH A a k 0) by unfold Ey;rw [b0,b1];rfl];exact pK [] 2 2 (.k 3 (aC b1) (.k 1 (aB b0) (.n 1 .nil))) (.c (OC e c A d b a k 0 (rM e A k 1) f h0 (jd hs h0)) (.c (uB e c A d b a k 1 f g (jd h g)) (.c (uB e c A d b a k 0 f h0 (jd h h0)) .nil)))
  ·rw [show Ey e A a k=3 by unfold Ey;rw [b0,b1];rfl];exact pK [] 2 0 (.c (aB b1) (.k 1 (aB b0) (.n 1 .nil))) (.c (uB e c A d b a k 1 f g (jd h g)) (.c (uB e c A d b a k 0 f h0 (jd h h0)) .nil))
theorem aco (e:List Nd) (d:Bool) (A:List (List Nat)) (f:List Sc) (c:Bool) (a:List Nat) (k:Nat) (h:k<A.length) (hs:∀ j ∈ A.getD k [],j<a.length) (i:∀ j ∈ A.getD k [],j<e.length) (h0:0<(A.getD k []).length) (b:1<(A.getD k []).length) (g:(rM e A k 1).num.length<2^36∧(rM e A k 1).den.length<2^36):
  ax prog ap 65 [.ptr 0 0 0,ω (k:Int)] (wH e d A f c a) (.ret (ω ((Dv e A a k:Nat):Int))) (wH e d A f c a):=by
 rcases tf (fB (rM e A k 1).op) with b0|b0
 ·rcases tf ((gz (rM e A k 1).neg (rM e A k 1).num (rM e A k 1).den)==((0:Nat):Int)) with b1|b1
  ·rw [show Dv e A a k=3 by unfold Dv;rw [b0,b1];rfl];exact pK [] 2 1 (.c (aS b1) (.k 3 (aC b0) (.n 1 .nil))) (.c (jO (rM e A k 1).neg (rM e A k 1).num (rM e A k 1).den g.1 g.2) (.c (uB e d A f c a k 1 h b (jd i b)) .nil))
  ·rw [show Dv e A a k=gJ (rM e A k 1).neg (eH A a k 0) by unfold Dv;rw [b0,b1];rfl];exact pK [] 2 3 (.k 3 (dK b1) (.k 3 (aC b0) (.n 1 .nil))) (.c (OC e d A f c a k 0 (rM e A k 1) h h0 (jd hs h0)) (.c (jO (rM e A k 1).neg (rM e A k 1).num (rM e A k 1).den g.1 g.2) (.c (uB e d A f c a k 1 h b (jd i b)) .nil)))
 ·rw [show Dv e A a k=3 by unfold Dv;rw [b0];rfl];exact pK [] 2 0 (.k 1 (aB b0) (.n 1 .nil)) (.c (uB e d A f c a k 1 h b (jd i b)) .nil)
theorem acf (e:List Nd) (c:Bool) (A:List (List Nat)) (d:List Sc) (b:Bool) (a:List Nat) (k:Nat) (f:k<A.length) (hs:∀ j ∈ A.getD k [],j<a.length) (i:∀ j ∈ A.getD k [],j<e.length) (h0:0<(A.getD k []).length) (g:1<(A.getD k []).length) (h:2<(A.getD k []).length):
  ax prog ap 66 [.ptr 0 0 0,ω (k:Int)] (wH e c A d b a) (.ret (ω ((IB A a k:Nat):Int))) (wH e c A d b a):=by
 rcases tf ((((eH A a k 0):Nat):Int)==((0:Nat):Int)) with b0|b0
 ·rw [show IB A a k=dX (eH A a k 1) (eH A a k 2) by unfold IB;rw [b0];rfl];exact pK [] 1 0 (.c (aS b0) .nil) (.c (I9 (eH A a k 1) (eH A a k 2)) (.c (qc e c A d b a k 2 f h (jd hs h)) (.c (qc e c A d b a k 1 f g (jd hs g)) (.c (qc e c A d b a k 0 f h0 (jd hs h0)) .nil))))
 ·rw [show IB A a k=3 by unfold IB;rw [b0];rfl];exact pK [] 1 1 (.c (dK b0) .nil) (.c (qc e c A d b a k 0 f h0 (jd hs h0)) .nil)
theorem aeM (e:List Nd) (c:Bool) (A:List (List Nat)) (d:List Sc) (b:Bool) (a:List Nat) (k:Nat) (g:k<A.length) (hs:∀ j ∈ A.getD k [],j<a.length) (h:∀ j ∈ A.getD k [],j<e.length) (h0:0<(A.getD k []).length) (f:1<(A.getD k []).length):
  ax prog ap 63 [.ptr 0 0 0,ω (k:Int)] (wH e c A d b a) (.ret (ω ((dX (eH A a k 0) (jD (eH A a k 1)):Nat):Int))) (wH e c A d b a):=by
 exact pK [] 0 0 .nil (.c (I9 (eH A a k 0) (jD (eH A a k 1))) (.c (QF (eH A a k 1)) (.c (qc e c A d b a k 1 g f (jd hs f)) (.c (qc e c A d b a k 0 g h0 (jd hs h0)) .nil))))
abbrev rH (e:List Nd) (ne:Bool) (A:List (List Nat)) (sc:List Sc) (ns:Bool) (ss:List Nat) (k:Nat):List bi:= [⟨[.ptr 2 0 0],0,false,0,0,false⟩,⟨[ω (k:Int)],0,false,0,0,true⟩,⟨[.sl (aH e) e.length ne,.sl (bC A) A.length true,.sl (bT sc) sc.length ns,.ref 3 0 0 ss.length],0,false,0,0,false⟩,⟨(ah ss),0,false,0,1,true⟩]
theorem aa_ (e:List Nd) (c:Bool) (A:List (List Nat)) (d:List Sc) (b:Bool) (a:List Nat) (k:Nat) (x:Sc) (y:Nd) (f:List AV) (h:k<e.length) (g:(ε ((δ (k:Int))*5) (aH e))=iE y++f):
  ax prog ap 101 [.agg (xO x),.ptr 0 0 0,.ptr 1 0 0] (rH e c A d b a k) (.ret (.bool (x.name==y.name))) (rH e c A d b a k):=pK [] 0 0 (.k 1 (aQ k) (.c (bJ h) (.n 4 .nil))) (.v 12 (.ppt g) .nil)
def agK (e:List Nd) (ne:Bool) (A:List (List Nat)) (sc:List Sc) (ns:Bool) (ss:List Nat) (k:Nat) (p:Nat × Unit):St:=⟨[(0,.sl (bT sc) sc.length ns),(1,.fn 101 [] [.ptr 0 0 0,.ptr 1 0 0]),(7,ω (sc.length:Int)),(8,ω (p.1:Int))],[(0,⟨[.ptr 2 0 0],0,false,0,0,false⟩),(1,⟨[ω (k:Int)],0,false,0,0,true⟩),(2,⟨[.sl (aH e) e.length ne,.sl (bC A) A.length true,.sl (bT sc) sc.length ns,.ref 3 0 0 ss.length],0,false,0,0,false⟩),(3,⟨(ah ss),0,false,0,1,true⟩)],.dead,[]⟩
def abm (e:List Nd) (ne:Bool) (A:List (List Nat)) (sc:List Sc) (ns:Bool) (ss:List Nat) (k:Nat):Option Nat→St
 |none=> ⟨[(0,.sl (bT sc) sc.length ns)],[(0,⟨[.ptr 2 0 0],0,false,0,0,false⟩),(1,⟨[.int .i64 (k:Int)],0,false,0,0,true⟩),(2,⟨[.sl (aH e) e.length ne,.sl (bC A) A.length true,.sl (bT sc) sc.length ns,.ref 3 0 0 ss.length],0,false,0,0,false⟩),(3,⟨(ah ss),0,false,0,1,true⟩)],.dead,[]⟩
 |some i=> ⟨[(4,.int .i64 (i:Int))],[(0,⟨[.ptr 2 0 0],0,false,0,0,false⟩),(1,⟨[.int .i64 (k:Int)],0,false,0,0,true⟩),(2,⟨[.sl (aH e) e.length ne,.sl (bC A) A.length true,.sl (bT sc) sc.length ns,.ref 3 0 0 ss.length],0,false,0,0,false⟩),(3,⟨(ah ss),0,false,0,1,true⟩)],.dead,[]⟩
def Ua:Option Nat→bK
 |none=> .exit 0
 |some _=> .ret
def I4 (nm:List UInt8):List Sc→Nat→Option Nat
 | [],_=>none
 |x::r,i=>if x.name==nm then some i else I4 nm r (i+1)
theorem YL {nt:Nat} (h:19≤nt) (e:List Nd) (d:Bool) (A:List (List Nat)) (a:List Sc) (g:Bool) (f:List Nat) (k:Nat) (y:Nd) (j:List AV) (m:k<e.length) (o:(ε ((δ (k:Int))*5) (aH e))=iE y++j) (u:a.length<2^40):∀ (r p:List Sc),p++r=a→
  aF prog ap (rH e d A a g f k) nt (ae 0 (af f100)) Ua (agK e d A a g f k) (abm e d A a g f k) (p.length,()) (I4 y.name r p.length):=by
 intro r
 induction r with
 |nil=>
  intro p hp;rw [Γ] at hp;subst hp;generalize v:p.length=i;have b:(decide ((i:Int)<(p.length:Int)))=false:=Yq1 (by omega);exact .done (pN 100 [] 1 0 (.c (aB b) .nil) (.nil) h)
 | cons x r ih=>
  intro p hp;have l:(ε ((δ (p.length:Int))*4) (bT a))=xO x++bT r:=by
   have n:p.length<a.length:=by rw [← hp];simp
   rw [aA,yT n];have s:a[p.length]=x:=by subst hp;simp
   have t:a.drop (p.length+1)=r:=by rw [← hp];simp
   rw [s,t]
  have n:p.length<a.length:=by rw [← hp];simp
  have c:=ih (p++ [x]) (by rw [← hp];simp);rw [θ,ο] at c;unfold I4;generalize v:p.length=i at*
  generalize bT r=rS at l;have b:(decide ((i:Int)<(a.length:Int)))=true:=Yq0 (by omega);have q:i<2^62:=by omega
  rcases tf (x.name==y.name) with b1|b1
  ·rw [if_pos b1];exact .done (pN 100 [] 2 3 (.c (aC b1) (.k 4 (aQ i) (.c b (.c (aC b) .nil)))) (.c (aa_ e d A a g f k x y j m o) (.v 14 (.ppt l) .nil)) h)
  ·rw [if_neg (by rw [b1];decide)];exact .next (pN 100 [] 2 1 (.c (aB b1) (.k 4 (aQ i) (.c b (.c (aC b) .nil)))) (.v 18 (.eq (iL q)) (.c (aa_ e d A a g f k x y j m o) (.v 14 (.ppt l) .nil))) h) c
theorem agM (e:List Nd) (d:Bool) (A:List (List Nat)) (a:List Sc) (b:Bool) (c:List Nat) (k:Nat) (f:aI prog ap (rH e d A a b c k) 19 (.block 0 (.loop (ae 0 (af f100)))) ⟨[(0,.sl (bT a) a.length b),(1,.fn 101 [] [.ptr 0 0 0,.ptr 1 0 0]),(4,ω 0),(5,.dead),(7,ω (a.length:Int)),(8,ω 0),(9,.dead),(16,.dead)],[(0,⟨[.ptr 2 0 0],0,false,0,0,false⟩),(1,⟨[ω (k:Int)],0,false,0,0,true⟩),(2,⟨[.sl (aH e) e.length d,.sl (bC A) A.length true,.sl (bT a) a.length b,.ref 3 0 0 c.length],0,false,0,0,false⟩),(3,⟨(ah c),0,false,0,1,true⟩)],.dead,[]⟩ (.normal) ⟨[(0,.sl (bT a) a.length b)],[(0,⟨[.ptr 2 0 0],0,false,0,0,false⟩),(1,⟨[ω (k:Int)],0,false,0,0,true⟩),(2,⟨[.sl (aH e) e.length d,.sl (bC A) A.length true,.sl (bT a) a.length b,.ref 3 0 0 c.length],0,false,0,0,false⟩),(3,⟨(ah c),0,false,0,1,true⟩)],.dead,[]⟩):
  ax prog ap 100 [.sl (bT a) a.length b,(.fn 101 [] [.ptr 0 0 0,.ptr 1 0 0])] (rH e d A a b c k) (.ret (ω (-1))) (rH e d A a b c k):=pK [0] 0 0 .nil (.l f .nil)
theorem agN (e:List Nd) (d:Bool) (A:List (List Nat)) (a:List Sc) (c:Bool) (b:List Nat) (k i:Nat) (f:aI prog ap (rH e d A a c b k) 19 (.block 0 (.loop (ae 0 (af f100)))) ⟨[(0,.sl (bT a) a.length c),(1,.fn 101 [] [.ptr 0 0 0,.ptr 1 0 0]),(4,ω 0),(5,.dead),(7,ω (a.length:Int)),(8,ω 0),(9,.dead),(16,.dead)],[(0,⟨[.ptr 2 0 0],0,false,0,0,false⟩),(1,⟨[ω (k:Int)],0,false,0,0,true⟩),(2,⟨[.sl (aH e) e.length d,.sl (bC A) A.length true,.sl (bT a) a.length c,.ref 3 0 0 b.length],0,false,0,0,false⟩),(3,⟨(ah b),0,false,0,1,true⟩)],.dead,[]⟩ (.ret) ⟨[(4,ω (i:Int))],[(0,⟨[.ptr 2 0 0],0,false,0,0,false⟩),(1,⟨[ω (k:Int)],0,false,0,0,true⟩),(2,⟨[.sl (aH e) e.length d,.sl (bC A) A.length true,.sl (bT a) a.length c,.ref 3 0 0 b.length],0,false,0,0,false⟩),(3,⟨(ah b),0,false,0,1,true⟩)],.dead,[]⟩):
  ax prog ap 100 [.sl (bT a) a.length c,(.fn 101 [] [.ptr 0 0 0,.ptr 1 0 0])] (rH e d A a c b k) (.ret (ω (i:Int))) (rH e d A a c b k):=pK [0] 0 0 .nil (.l f .nil)
def ixI:Option Nat→Int
 |none=> -1
 |some i=>(i:Int)
theorem agL (e:List Nd) (d:Bool) (A:List (List Nat)) (a:List Sc) (b:Bool) (c:List Nat) (k:Nat) (j:k<e.length) (f:a.length<2^40):
  ax prog ap 100 [.sl (bT a) a.length b,(.fn 101 [] [.ptr 0 0 0,.ptr 1 0 0])] (rH e d A a b c k) (.ret (ω (ixI (I4 (e.getD k iQ).name a 0)))) (rH e d A a b c k):=by
 have h:∀ nt,19≤nt→aF prog ap (rH e d A a b c k) nt (ae 0 (af f100)) Ua (agK e d A a b c k) (abm e d A a b c k) (0,()) (I4 (e.getD k iQ).name a 0):=fun nt l=>YL l e d A a b c k (e.getD k iQ) _ j (uG j) f a [] rfl
 cases g:I4 (e.getD k iQ).name a 0 with
 |none=>
  rw [g] at h;exact agM e d A a b c k (aF.blk h (by simp [Ua]) rfl (aJ.of ⟨rfl,rfl,rfl,rfl,trivial⟩) (aJ.of ⟨rfl,trivial⟩))
 |some i=>
  rw [g] at h;exact agN e d A a b c k i (aF.blk h (by simp [Ua]) rfl (aJ.of ⟨rfl,rfl,rfl,rfl,trivial⟩) (aJ.of ⟨rfl,trivial⟩))
def Hw (ck:Sc→Int) (up:Sc→Bool) (nm:List UInt8) (sc:List Sc) (s:Nat):Nat:=match sc.find? (fun x=>x.name==nm) with
 |none=>3
 |some x=>cond (ck x==0) (cond (up x) s 3) 3
theorem G6 (a:List UInt8):∀ (r:List Sc) (i:Nat),(I4 a r i=none∧r.find? (fun x=>x.name==a)=none)∨∃ j x,I4 a r i=some (i+j)∧r[j]? =some x∧r.find? (fun x=>x.name==a)=some x
 | [],_=> .inl ⟨rfl,rfl⟩
 | x::r,i=>by
  unfold I4;rw [List.find?_cons];rcases tf (x.name==a) with h|h
  ·rw [if_pos h,h];exact .inr ⟨0,x,rfl,rfl,rfl⟩
  ·rw [if_neg (by rw [h];decide),h];rcases G6 a r (i+1) with ⟨c,b⟩|⟨j,y,c,b,d⟩
   ·exact .inl ⟨c,b⟩
   ·exact .inr ⟨j+1,y,by rw [c];congr 1;omega,b,d⟩
theorem adr (e:List Nd) (d:Bool) (A:List (List Nat)) (a:List Sc) (b:Bool) (c:List Nat) (k:Nat) (f:ax prog ap 100 [.sl (bT a) a.length b,(.fn 101 [] [.ptr 0 0 0,.ptr 1 0 0])] (rH e d A a b c k) (.ret (ω (-1))) (rH e d A a b c k)):
  ax prog ap 67 [.ptr 0 0 0,ω (k:Int)] (wH e d A a b c) (.ret (ω ((3:Nat):Int))) (wH e d A a b c):=pK [] 3 7 (.n 5 .nil) (.c f .nil)
theorem ads (e:List Nd) (h:Bool) (A:List (List Nat)) (c:List Sc) (g:Bool) (b:List Nat) (ck:Sc→Int) (f:Sc→Bool) (k p:Nat) (x:Sc) (q:List AV) (hp:p<c.length) (a:x ∈ c) (l:(ε ((δ (p:Int))*4) (bT c))=xO x++q) (o:k<A.length) (hs:∀ j ∈ A.getD k [],j<b.length) (h0:0<(A.getD k []).length) (i:∀ x ∈ c,CO 102 [.agg (xO x)] (.ret (ω (ck x)))∧(ck x=0→CO 103 [.agg (xO x)] (.ret (.bool (f x))))) (m:ax prog ap 100 [.sl (bT c) c.length g,(.fn 101 [] [.ptr 0 0 0,.ptr 1 0 0])] (rH e h A c g b k) (.ret (ω (p:Int))) (rH e h A c g b k)):
  ax prog ap 67 [.ptr 0 0 0,ω (k:Int)] (wH e h A c g b) (.ret (ω ((cond (ck x==0) (cond (f x) (eH A b k 0) 3) 3:Nat):Int))) (wH e h A c g b):=by
 have n:(decide ((p:Int)<((0:Nat):Int)))=false:=Yq1 (by omega);rcases tf ((ck x)==((0:Nat):Int)) with b0|b0
 ·rcases tf (f x) with b1|b1
  ·have d:ck x=0:=by simpa using b0
   rw [show cond (ck x==0) (cond (f x) (eH A b k 0) 3) 3=eH A b k 0 by rw [show (ck x==0)=true from b0];rw [b1];rfl];exact pK [] 3 0 (.k 2 (aS b1) (.k 4 (aQ p) (.c (bJ hp) (.k 2 (aS b0) (.k 4 (aQ p) (.c (bJ hp) (.k 2 (aB n) (.n 2 .nil)))))))) (.c (qc e h A c g b k 0 o h0 (jd hs h0)) (.c ((i x a).2 d) (.v 31 (.ppt l) (.c (i x a).1 (.v 20 (.ppt l) (.c m .nil))))))
  ·have d:ck x=0:=by simpa using b0
   rw [show cond (ck x==0) (cond (f x) (eH A b k 0) 3) 3=3 by rw [show (ck x==0)=true from b0];rw [b1];rfl];exact pK [] 3 4 (.c (dK b1) (.k 4 (aQ p) (.c (bJ hp) (.k 2 (aS b0) (.k 4 (aQ p) (.c (bJ hp) (.k 2 (aB n) (.n 2 .nil)))))))) (.c ((i x a).2 d) (.v 31 (.ppt l) (.c (i x a).1 (.v 20 (.ppt l) (.c m .nil)))))
 ·rw [show cond (ck x==0) (cond (f x) (eH A b k 0) 3) 3=3 by rw [show (ck x==0)=false from b0];rfl];exact pK [] 3 6 (.k 1 (dK b0) (.k 4 (aQ p) (.c (bJ hp) (.k 2 (aB n) (.n 2 .nil))))) (.c (i x a).1 (.v 20 (.ppt l) (.c m .nil)))
theorem ZV (e:List Nd) (c:Bool) (A:List (List Nat)) (a:List Sc) (d:Bool) (b:List Nat) (ck:Sc→Int) (g:Sc→Bool) (k:Nat) (o:k<A.length) (m:k<e.length) (l:a.length<2^40) (hs:∀ j ∈ A.getD k [],j<b.length) (h0:0<(A.getD k []).length) (q:∀ x ∈ a,CO 102 [.agg (xO x)] (.ret (ω (ck x)))∧(ck x=0→CO 103 [.agg (xO x)] (.ret (.bool (g x))))):
  ax prog ap 67 [.ptr 0 0 0,ω (k:Int)] (wH e c A a d b) (.ret (ω ((Hw ck g (e.getD k iQ).name a (eH A b k 0):Nat):Int))) (wH e c A a d b):=by
 have h:=agL e c A a d b k m l;unfold Hw;rcases G6 (e.getD k iQ).name a 0 with ⟨i,f⟩|⟨j,x,i,f,r⟩
 ·rw [f];rw [i] at h;exact adr e c A a d b k h
 ·rw [r];rw [i,χ] at h;obtain ⟨n,p⟩:=List.getElem?_eq_some_iff.1 f;exact ads e c A a d b ck g k j x _ n (List.mem_of_getElem? f) (by rw [aA,yT n,p]) o hs h0 q h
end Go.Proofs.Tryz
