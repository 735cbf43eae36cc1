/- Contracts of functions that the law reaches, each by its own hypotheses; joined by a program of mine. -/
import Derived.Test.YtdmfgmmooalfnaaGreatDoorC1
import Derived.Test.YtdmfgmmooalfnaaGreatDoorM5
set_option linter.unusedSimpArgs false
set_option linter.unusedVariables false
set_option maxRecDepth 100000
open Go AM
open List renaming headD→ζ,drop→ε,length_cons→ξ,nil_append→Xqi,map_cons→Xqb,map_nil→Xxt,length_nil→Xqa,take_length→Xq1,length_append→η,length_singleton→φ,append_nil→Γ,append_assoc→τ,take→ν,take_of_length_le→υ,eq_nil_of_length_eq_zero→Xxo,getD_eq_getElem?_getD→κ,getElem?_eq_none→Xq7,drop_zero→Xjr,take_add_one→Xws,getElem?_eq_getElem→π,length_take→Xxa,length→θ,all→Xzx,map→Xw6,getD→Xjf,foldl_append→Xwv,map_append→Xxx,all_eq_true→Xjz,take_append_drop→Xj5,getD_cons_zero→Xzg,drop_of_length_le→Xx8,range→Xq9,ext_getElem?→Xj1,getElem?_set→Xzp,replicate→μ,map_drop→Xju,headD_cons→Xjl,dropWhile_cons→Xja,singleton_append→Xqu,tail→Xjy,length_drop→Xxk,replicate_succ→Xxh,replicate_zero→Xwh,length_replicate→Xx9,tail_cons→Xzn,replicate_append_replicate→Xwx,drop_drop→Xjs
open Nat renaming mul_le_mul→Xwz,mod_lt→Xq3,pow_succ→Xq5,mul_comm→Xqe,mul_assoc→Xqs,add_mul→Xxw,mul_one→Ξ,add_zero→Xq8,not_lt→Xk0,eq_zero_or_pos→Xqg,pow_le_pow_right→Ψ,mul_zero→Xjk,min_eq_left→Xjd,lt_or_ge→Xxc,mul_le_mul_left→Xq0,mul_add→Xxe,le_refl→Δ,ble→Xqc,beq→Xqn,mul_pos→Xjx,lt_of_lt_of_le→Φ,mul_lt_mul_of_pos_right→Xvc,lt_of_not_le→Yqd,div_lt_iff_lt_mul→Xqx,mod_eq_of_lt→Θ,zero_add→Xqd,le_trans→Xxr,pow_mul→Xji,lt_trichotomy→Xzf,mul_le_mul_right→Xqy,one_mul→Xzt,lt_irrefl→Xvx,div_div_eq_div_mul→Xx7,mul_left_comm→Xwt,add_comm→Xx3,div_add_mod→Xxg,lt_trans→Xqz,le_of_lt→Xw0,div_eq_of_lt→Xjc,div_le_self→Xjw,lt_of_le_of_lt→Xqk,gcd→Xx2,gcd_comm→Xka,gcd_zero_left→Xwu,gcd_le_right→Xw3,gcd_pos_of_pos_right→Xj6,div_pos→Xva,gcd_dvd_left→Yqe,gcd_dvd_right→Xvq,div_self→Yxr,sub_zero→Xzd,ble_eq→Xzq,pow_le_pow_left→Xkr,sub_le→Xwi,pow_add→Xxp,mul_div_cancel_left→Xwn,exists_eq_add_of_le→Xvy,add_sub_cancel_left→Xjo
open Decidable renaming em→Xxl
open IntKind renaming wrap→γ
open Bool renaming not_true→Xqq,not_false→Xqf,eq_iff_iff→Xx5,and_true→Xw7,not_eq_true'→Xqw,and_eq_true→ο
open Int renaming tdiv→Xxm,toNat→δ,fdiv→Xq4,tmod→Xxj
open AV renaming toInt→χ,int→Xx0,toBool→Xkd,nilS→Xk2
open UInt8 renaming ofNat→Xqo,toNat→Xxs,toNat_lt→Xkl
namespace Go.Proofs.Tryz
abbrev zcc2_0 : List AV := [.str [],ω 0,.bool false,.bool false,.bool false]
def Ot (l:List Nat):AV:=match l with| []=> .nilS|x::l=> .ref 0 0 0 (x::l).length
def Ou (l:List Nat):Hp:=match l with| []=> []|x::l=> [(0,⟨aj (x::l),0,false,0,1,true⟩)]
theorem gW {l:List Nat} (h:l ≠ []):Ot l= .ref 0 0 0 l.length:=by cases l with|nil=>exact absurd rfl h|cons _ _=>rfl
theorem gX {l:List Nat} (h:l ≠ []):Ou l= [(0,⟨aj l,0,false,0,1,true⟩)]:=by cases l with|nil=>exact absurd rfl h|cons _ _=>rfl
theorem jc (l:List Nat) (y:Nat):l++ [y] ≠ []:=by simp
theorem Q9 {p s:List Nat} {x k:Nat} (h:k=p.length):ζ (ε k (aj (p++x::s))) .dead= ω (x:Int):=by
 rw [gI (by subst h;simp)];subst h;simp
def VH (d:Nat):List Nat→Nat→List Nat × Nat
 | [],c=>([],c)
 |x::l,c=>((x*d+c) % 16777216::(VH d l ((x*d+c) / 16777216)).1,(VH d l ((x*d+c) / 16777216)).2)
theorem NU {d x c:Nat} (hd:d<16777216) (a:x<16777216) (b:c<16777216):x*d+c<281474976710656∧(x*d+c) / 16777216<16777216∧x*d<281474976710656:=by
 have e:x*d≤16777215*16777215:=Xwz (by omega) (by omega);omega
theorem adq {d:Nat} (hd:d<16777216) (l:List Nat):∀ c,c<16777216→bz l→(VH d l c).2<16777216∧bz (VH d l c).1∧(VH d l c).1.length=l.length∧dA (VH d l c).1+16777216^l.length*(VH d l c).2=dA l*d+c:=by
 induction l with
 |nil=>intro c a _;exact ⟨a,bz.nil,rfl,by simp [VH,dA]⟩
 |cons x l ih=>
  intro c a b;obtain ⟨_,h,_⟩:=NU hd b.head a;obtain ⟨e,f,g,i⟩:=ih _ h b.tail;simp only [VH];refine ⟨e,bz.cons (Xq3 _ (by omega)) f,by simp [g], ?_⟩;simp only [dA,ξ,Xq5];rw [Xqe (16777216^l.length),Xqs,Xxw,Xqs 16777216 (dA l)];omega
def VI (a:List Nat) (na:Bool) (d:Nat) (p:Nat × Nat × List Nat):St:=⟨[(0,.sl (aj a) a.length na),(1,ω (d:Int)),(6,ω (p.2.1:Int)),(7,ω (p.1:Int)),(5,Ot p.2.2)],Ou p.2.2,.dead,[]⟩
def TG (p:Nat × List Nat):St:=⟨[(5,Ot p.2),(6,ω (p.1:Int))],Ou p.2,.dead,[]⟩
theorem adt {nt:Nat} (h:35≤nt) (a o:List Nat) (f:Bool) (d c k x:Nat) (q:a.length<2^40) (p:k<a.length) (n:o.length=k) (g:a.getD k 0=x) (l:x*d+c<281474976710656) (i:x*d<281474976710656):
  ψ nt f188 (VI a f d (k,c,o)) .normal (VI a f d (k+1,(x*d+c) / 16777216,o++ [(x*d+c) % 16777216])):=by
 unfold VI;have m:(x*d+c) / 16777216<9223372036854775808:=by omega
 have j:(x*d+c) % 16777216<9223372036854775808:=by omega
 have e:(((x*d:Nat):Int))+(c:Int)=((x*d+c:Nat):Int):=by omega
 rcases Xxl (o= []) with rfl|hne
 ·have b:=ag3 h a [] f d c k;simp (disch:=first|omega|(simp [ay,az]<;>omega)) only [aK,Ξ,gI,g,eP,eU,bJ,bK,bU,bi,yQ,bC,e,tC,dI,uV] at b;simp only [Xqi,Ot,Ou,aj,Xqb,Xxt,ξ,Xqa] at b ⊢;apply b<;>first|exact True.intro|omega|assumption|exact rfl
 ·have b:=ag1 h a o f d c k;rw [gW hne,gX hne,gW (jc _ _),gX (jc _ _)];simp (disch:=first|omega|(simp [ay,az]<;>omega)) only [gy,bJ,Ξ,dm,aK,gI,g,eP,eU,bK,bU,bi,yQ,bC,e,tC,dI,dQ,Xq1,uV,kV] at b;simp only [η,φ];apply b<;>first|exact True.intro|omega|assumption|exact rfl
theorem adr {nt:Nat} (f:35≤nt) (a o:List Nat) (e:Bool) (d c:Nat):ψ nt f188 (VI a e d (a.length,c,o)) (.exit 0) (TG (c,o)):=by
 unfold VI TG;rcases Xxl (o= []) with rfl|hne
 ·have b:=ag4 f a [] e d c a.length (by rw [bK];simp [lit]);exact b
 ·have b:=ag2 f a o e d c a.length (by rw [bK];simp [lit]);rw [gW hne,gX hne];exact b
theorem ads {nt:Nat} (i:35≤nt) (a:List Nat) (b:Bool) (d:Nat) (hd:d<16777216) (r:a.length<2^40) (f:bz a):∀ (l p o:List Nat) (c:Nat),p++l=a→o.length=p.length→c<16777216→
  aC prog ap [] nt (af 0 (ai f188)) (fun _=> .exit 0) (VI a b d) TG (p.length,c,o) ((VH d l c).2,o++(VH d l c).1):=by
 intro l
 induction l with
 |nil=>
  intro p o c h e g;have hp:p=a:=by simpa using h
  rw [hp];simp only [VH,Γ];exact .done (adr i a o b d c)
 |cons x l ih=>
  intro p o c h e g;have s:p.length+(l.length+1)=a.length:=by rw [← h];simp
  have n:x<16777216:=f x (by rw [← h];simp);have k:a.getD p.length 0=x:=by rw [← h];simp
  obtain ⟨m,j,q⟩:=NU hd n g;have hnext:=ih (p++ [x]) (o++ [(x*d+c) % 16777216]) ((x*d+c) / 16777216) (by simp [h]) (by simp [e]) j;rw [η,φ,τ] at hnext;exact .next (adt i a o b d c p.length x r (by omega) e k m q) hnext
theorem NS (x d:Nat) (a:Bool) (hd:d<16777216) (m:(ax x).length<2^36):CO 188 [.sl (aj (ax x)) (ax x).length a,ω (d:Int)] (.ret (.sl (aj (ax (x*d))) (ax (x*d)).length true)):=by
 obtain ⟨g,f,i,j⟩:=adq hd (ax x) 0 (by omega) (bz.dig x);have hloop:=fun nt (hn:35≤nt)=>ads hn (ax x) a d hd (by omega) (bz.dig x) (ax x) [] [] 0 rfl rfl (by omega)
 generalize n:VH d (ax x) 0=r at*
 obtain ⟨o,c⟩:=r;simp only [Xqi,Xqa] at hloop g f i j;rw [fB,Xq8] at j;have l:dA (o++ [c])=x*d:=by rw [Am,i];simp only [dA];omega
 have e:=zZ (o++ [c]) true (by simp;omega);rw [TL (bz.app f (bz.cons g bz.nil)),l] at e;rcases Xxl (o= []) with rfl|hne
 ·have h:=ac0 (ax x) [] (ax (x*d)) a d c;apply h
  ·exact aC.blk hloop (by simp) rfl (aP.of ⟨rfl,rfl,rfl,rfl,rfl,trivial⟩) (aP.of ⟨rfl,rfl,trivial⟩)
  ·exact e
 ·have h:=acZ (ax x) o (ax (x*d)) a d c;have k:o.length<2^37:=by omega
  have b:ν (o.length+1) (aj (o++ [c]))=aj (o++ [c]):=by
   rw [dQ,υ (by simp)]
  simp (disch:=first|omega|(simp [ay,az]<;>omega)) only [gy,bJ,Ξ,dm,dQ,Xq1,kV] at h;rw [η,φ] at e;rw [← dQ] at h;rw [b] at h;apply h<;>first|exact True.intro|omega|assumption|exact rfl|skip
  ·exact aC.blk hloop (by simp) rfl (aP.of ⟨rfl,rfl,rfl,rfl,rfl,trivial⟩) (by unfold TG;rw [gW hne,gX hne];exact aP.of ⟨rfl,rfl,trivial⟩)
def Px:List Nat→List Nat→Nat→List Nat × Nat
 | [],_,c=>([],c)
 |x::u,v,c=>((if x<v.headD 0+c then x+16777216 - (v.headD 0+c) else x - (v.headD 0+c))::(Px u v.tail (if x<v.headD 0+c then 1 else 0)).1,(Px u v.tail (if x<v.headD 0+c then 1 else 0)).2)
theorem aka {v:List Nat} (h:bz v):v.headD 0<16777216:=by cases v with|nil=>show 0<16777216;omega|cons d l=>exact h.head
theorem amK {v:List Nat} (h:bz v):bz v.tail:=by cases v with|nil=>exact h|cons d l=>exact h.tail
theorem VX (v:List Nat):dA v=v.headD 0+16777216*dA v.tail:=by cases v with|nil=>rfl|cons d l=>rfl
theorem abS (u:List Nat):∀ (v:List Nat) (c:Nat),c≤1→bz u→bz v→v.length≤u.length→(Px u v c).2≤1∧bz (Px u v c).1∧(Px u v c).1.length=u.length∧dA (Px u v c).1+dA v+c=dA u+16777216^u.length*(Px u v c).2:=by
 induction u with
 |nil=>
  intro v c d _ _ a;have:v= []:=Xxo (by simpa using a);subst this;exact ⟨d,bz.nil,rfl,by simp [Px,dA]⟩
 |cons x u ih=>
  intro v c d g e a;have l:=g.head;have m:=aka e;have b:v.tail.length≤u.length:=by simp at a ⊢;omega
  obtain ⟨h,i,j,k⟩:=ih v.tail (if x<v.headD 0+c then 1 else 0) (by split<;>omega) g.tail (amK e) b;simp only [Px];refine ⟨h,bz.cons (by split<;>omega) i,by rw [ξ,j,ξ], ?_⟩;rw [VX v];simp only [dA,ξ,Xq5];rw [Xqe (16777216^u.length),Xqs];generalize Px u v.tail (if x<v.headD 0+c then 1 else 0)=r at*
  split at k<;>rename_i f
  ·rw [if_pos f];omega
  ·rw [if_neg f];omega
def UY (a b:List Nat) (na nb:Bool) (p:Nat × Nat × List Nat):St:=⟨[(0,.sl (aj a) a.length na),(1,.sl (aj b) b.length nb),(6,ω (p.2.1:Int)),(7,ω (p.1:Int)),(5,Ot p.2.2)],Ou p.2.2,.dead,[]⟩
def Rx (p:Nat × List Nat):St:=⟨[(5,Ot p.2)],Ou p.2,.dead,[]⟩
theorem abV {nt:Nat} (h:41≤nt) (a b o:List Nat) (f g:Bool) (c k x y:Nat) (s:a.length<2^40) (p:b.length<2^40) (r:k<a.length) (t:o.length=k) (i:a.getD k 0=x) (j:b.getD k 0=y) (m:x<16777216) (n:y<16777216) (q:c≤1):
  ψ nt f151 (UY a b f g (k,c,o)) .normal (UY a b f g (k+1,if x<y+c then 1 else 0,o++ [if x<y+c then x+16777216 - (y+c) else x - (y+c)])):=by
 unfold UY;by_cases hkb:k<b.length<;>by_cases hlt:x<y+c<;>simp only [hlt,if_true,if_false]
 ·have e:((x:Int) - (c:Int) - (y:Int)+((16777216:Nat):Int))=((x+16777216 - (y+c):Nat):Int):=by omega
  rcases Xxl (o= []) with rfl|hne
  ·have d:=agQ h a b [] f g c k;simp (disch:=first|omega|(simp [ay,az]<;>omega)) only [aK,Ξ,gI,i,bi,bH,j,bU,bJ,eP,eU,bK,dI] at d;rw [e] at d;simp only [Xqi,Ot,Ou,aj,Xqb,Xxt,ξ,Xqa] at d ⊢;apply d<;>first|exact True.intro|omega|assumption|exact rfl
  ·have d:=agL h a b o f g c k;rw [gW hne,gX hne,gW (jc _ _),gX (jc _ _)];simp (disch:=first|omega|(simp [ay,az]<;>omega)) only [gy,bJ,Ξ,aK,gI,i,bi,bH,j,bU,eP,eU,bK,dI] at d;rw [e] at d;simp (disch:=first|omega|(simp [ay,az]<;>omega)) only [dm,dQ,Xq1,kV] at d;simp only [η,φ];apply d<;>first|exact True.intro|omega|assumption|exact rfl
 ·have e:((x:Int) - (c:Int) - (y:Int))=((x - (y+c):Nat):Int):=by omega
  rcases Xxl (o= []) with rfl|hne
  ·have d:=agR h a b [] f g c k;simp (disch:=first|omega|(simp [ay,az]<;>omega)) only [aK,Ξ,gI,i,bi,bH,j,fK,gV,iD,eP,eU,bJ,bK,bU,dI] at d;rw [e] at d;simp only [Xqi,Ot,Ou,aj,Xqb,Xxt,ξ,Xqa] at d ⊢;apply d<;>first|exact True.intro|omega|assumption|exact rfl
  ·have d:=agM h a b o f g c k;rw [gW hne,gX hne,gW (jc _ _),gX (jc _ _)];simp (disch:=first|omega|(simp [ay,az]<;>omega)) only [gy,bJ,Ξ,aK,gI,i,bi,bH,j,fK,gV,iD,eP,eU,bK,bU,dI] at d;rw [e] at d;simp (disch:=first|omega|(simp [ay,az]<;>omega)) only [dm,dQ,Xq1,kV] at d;simp only [η,φ];apply d<;>first|exact True.intro|omega|assumption|exact rfl
 ·have l:y=0:=by rw [← j,κ,Xq7 (by omega)];rfl
  have e:((x:Int) - (c:Int)+((16777216:Nat):Int))=((x+16777216 - (y+c):Nat):Int):=by omega
  rcases Xxl (o= []) with rfl|hne
  ·have d:=agS h a b [] f g c k;simp (disch:=first|omega|(simp [ay,az]<;>omega)) only [aK,Ξ,gI,i,bi,bH,bU,bJ,bK,fK,gV,iD,Xk0,eP,eU,dI] at d;rw [e] at d;simp only [Xqi,Ot,Ou,aj,Xqb,Xxt,ξ,Xqa] at d ⊢;apply d<;>first|exact True.intro|omega|assumption|exact rfl
  ·have d:=agN h a b o f g c k;rw [gW hne,gX hne,gW (jc _ _),gX (jc _ _)];simp (disch:=first|omega|(simp [ay,az]<;>omega)) only [gy,bJ,Ξ,aK,gI,i,bi,bH,bU,bK,fK,gV,iD,Xk0,eP,eU,dI] at d;rw [e] at d;simp (disch:=first|omega|(simp [ay,az]<;>omega)) only [dm,dQ,Xq1,kV] at d;simp only [η,φ];apply d<;>first|exact True.intro|omega|assumption|exact rfl
 ·have l:y=0:=by rw [← j,κ,Xq7 (by omega)];rfl
  have e:((x:Int) - (c:Int))=((x - (y+c):Nat):Int):=by omega
  rcases Xxl (o= []) with rfl|hne
  ·have d:=agT h a b [] f g c k;simp (disch:=first|omega|(simp [ay,az]<;>omega)) only [aK,Ξ,gI,i,bi,bH,fK,gV,iD,bK,Xk0,eP,eU,bJ,bU,dI] at d;rw [e] at d;simp only [Xqi,Ot,Ou,aj,Xqb,Xxt,ξ,Xqa] at d ⊢;apply d<;>first|exact True.intro|omega|assumption|exact rfl
  ·have d:=agO h a b o f g c k;rw [gW hne,gX hne,gW (jc _ _),gX (jc _ _)];simp (disch:=first|omega|(simp [ay,az]<;>omega)) only [gy,bJ,Ξ,aK,gI,i,bi,bH,fK,gV,iD,bK,Xk0,eP,eU,bU,dI] at d;rw [e] at d;simp (disch:=first|omega|(simp [ay,az]<;>omega)) only [dm,dQ,Xq1,kV] at d;simp only [η,φ];apply d<;>first|exact True.intro|omega|assumption|exact rfl
theorem abT {nt:Nat} (f:41≤nt) (a b o:List Nat) (e d:Bool) (c:Nat):ψ nt f151 (UY a b e d (a.length,c,o)) (.exit 0) (Rx (c,o)):=by
 unfold UY Rx;rcases Xxl (o= []) with rfl|hne
 ·exact agU f a b [] e d c a.length (by rw [bK];simp [lit])
 ·have g:=agP f a b o e d c a.length (by rw [bK];simp [lit]);rw [gW hne,gX hne];exact g
theorem abU {nt:Nat} (n:41≤nt) (a b:List Nat) (d f:Bool) (t:a.length<2^40) (k:b.length<2^40) (g:bz a) (j:bz b):∀ (l p o:List Nat) (c:Nat),p++l=a→o.length=p.length→c≤1→
  aC prog ap [] nt (af 0 (ai f151)) (fun _=> .exit 0) (UY a b d f) Rx (p.length,c,o) ((Px l (b.drop p.length) c).2,o++(Px l (b.drop p.length) c).1):=by
 intro l
 induction l with
 |nil=>
  intro p o c h e m;have hp:p=a:=by simpa using h
  rw [hp];simp only [Px,Γ];exact .done (abT n a b o d f c)
 | cons x l ih=>
  intro p o c h e m;have u:p.length+(l.length+1)=a.length:=by rw [← h];simp
  have r:x<16777216:=g x (by rw [← h];simp);have q:a.getD p.length 0=x:=by rw [← h];simp
  have s:(b.drop p.length).headD 0=b.getD p.length 0:=by
   rw [List.headD_eq_head?_getD,List.head?_drop,κ]
  have i:(b.drop p.length).tail=b.drop (p.length+1):=by rw [List.tail_drop]
  have hnext:=ih (p++ [x]) (o++ [if x<b.getD p.length 0+c then x+16777216 - (b.getD p.length 0+c) else x - (b.getD p.length 0+c)]) (if x<b.getD p.length 0+c then 1 else 0) (by simp [h]) (by simp [e]) (by split<;>omega);rw [η,φ,τ] at hnext;simp only [Px];rw [s,i];exact .next (abV n a b o d f c p.length x _ t k (by omega) e q rfl r (j.getD _) m) hnext
theorem ML (x y:Nat) (b d:Bool) (h:y≤x) (s:(ax x).length<2^36):CO 151 [.sl (aj (ax x)) (ax x).length b,.sl (aj (ax y)) (ax y).length d] (.ret (.sl (aj (ax (x - y))) (ax (x - y)).length false)):=by
 have k:=rG h;obtain ⟨n,f,l,e⟩:=abS (ax x) (ax y) 0 (by omega) (bz.dig x) (bz.dig y) k;have hloop:=fun nt (hn:41≤nt)=>abU hn (ax x) (ax y) b d (by omega) (by omega) (bz.dig x) (bz.dig y) (ax x) [] [] 0 rfl rfl (by omega)
 rw [Xqa,Xjr] at hloop;generalize q:Px (ax x) (ax y) 0=r at*
 obtain ⟨o,c⟩:=r;simp only [Xqi] at hloop n f l e;rw [fB,fB,Xq8] at e;have g:=Ap f;have m:c=0:=by
  rcases Xqg c with h0|h0
  ·exact h0
  ·have p:c=1:=by omega
   have u:=wG y;have t:=Ψ (show 0<16777216 by omega) k;rw [p,Ξ] at e;rw [l] at g;omega
 subst m;have i:dA o=x - y:=by rw [Xjk] at e;omega
 have j:=zZ o true (by omega);rw [TL f,i] at j;rcases Xxl (o= []) with rfl|hne
 ·have h:=acR (ax x) (ax y) [] (ax (x - y)) b d;have a:=zZ [] false (by simp);rw [TL bz.nil,i] at a;apply h
  ·exact aC.blk hloop (by simp) rfl (aP.of ⟨rfl,rfl,rfl,rfl,rfl,trivial⟩) (aP.of ⟨rfl,trivial⟩)
  ·exact a.args (bD.cons (aQ.nilS false rfl) bD.nil)
 ·have h:=acQ (ax x) (ax y) o (ax (x - y)) b d;rw [Ξ,dQ,Xq1] at h;apply h
  ·exact aC.blk hloop (by simp) rfl (aP.of ⟨rfl,rfl,rfl,rfl,rfl,trivial⟩) (by unfold Rx;rw [gW hne,gX hne];exact aP.of ⟨rfl,trivial⟩)
  ·exact j.out (jG.sl1 _ _ _)
def cqO (a b:List Nat):Nat→Option Int
 |0=>none
 |k+1=>if a.getD k 0=b.getD k 0 then cqO a b k else some ((a.getD k 0:Int) - (b.getD k 0:Int))
def Ll (a b:List Nat):Int:=if a.length=b.length then (cqO a b a.length).getD 0 else (a.length:Int) - (b.length:Int)
theorem pU {l:List Nat} {k:Nat} (h:k<l.length):dA (l.take (k+1))=dA (l.take k)+16777216^k*l.getD k 0:=by
 rw [Xws,Am,π h,Xxa,Xjd (by omega),κ,π h];simp [dA]
theorem Lp {a b:List Nat} (g:a.length=b.length) (e:bz a) (d:bz b):∀ k,k≤a.length→(0≤(cqO a b k).getD 0↔dA (b.take k)≤dA (a.take k))∧((cqO a b k).getD 0≤0↔dA (a.take k)≤dA (b.take k))
 |0,_=>by simp [cqO]
 | k+1,h=>by
  obtain ⟨j,f⟩:=Lp g e d k (by omega);rw [pU (l:=a) (by omega),pU (l:=b) (by omega)];have i:=Ap (e.take k);have tb:=Ap (d.take k);rw [Xxa,Xjd (by omega)] at i tb;simp only [cqO];by_cases he:a.getD k 0=b.getD k 0
  ·rw [if_pos he,he];exact ⟨j.trans (by omega),f.trans (by omega)⟩
  ·rw [if_neg he];simp only [Option.getD_some];generalize a.getD k 0=x at*
   generalize b.getD k 0=y at*
   generalize dA (ν k a)=u at*
   generalize dA (ν k b)=v at*
   generalize 16777216^k=M at*
   rcases Xxc x y with hlt|hge
   ·have c:M*(x+1)≤M*y:=Xq0 _ hlt;rw [Xxe,Ξ] at c;constructor<;>constructor<;>intro<;>omega
   ·have c:M*(y+1)≤M*x:=Xq0 _ (by omega);rw [Xxe,Ξ] at c;constructor<;>constructor<;>intro<;>omega
theorem Ik (x y:Nat):(0≤Ll (ax x) (ax y)↔y≤x)∧(Ll (ax x) (ax y)≤0↔x≤y):=by
 unfold Ll;by_cases h:(ax x).length=(ax y).length
 ·rw [if_pos h];have:=Lp h (bz.dig x) (bz.dig y) _ (Δ _);rw [Xq1,h,Xq1,fB,fB] at this;rw [h];exact this
 ·rw [if_neg h];rcases Xxc (ax x).length (ax y).length with h1|h1
  ·have b:¬ y≤x:=fun a=>by have:=rG a;omega
   constructor<;>constructor<;>intro<;>omega
  ·have b:¬ x≤y:=fun a=>by have:=rG a;omega
   constructor<;>constructor<;>intro<;>omega
def aeU (a b:List Nat) (na nb:Bool) (k:Nat):St:=⟨[(0,.sl (aj a) a.length na),(1,.sl (aj b) b.length nb),(5,ω ((k:Int) - 1))],[],.dead,[]⟩
def aiS:Option Int→St
 |none=> ⟨[],[],.dead,[]⟩
 |some c=> ⟨[(4,.int .i64 c)],[],.dead,[]⟩
def cqE:Option Int→bM
 |none=> .exit 0
 |some _=> .ret
theorem aaA {nt:Nat} (h:41≤nt) (a b:List Nat) (d e:Bool) (o:a.length=b.length) (f:bz a) (g:bz b) (q:a.length<2^40):∀ k,k≤a.length→aC prog ap [] nt (af 0 (ai f186)) cqE (aeU a b d e) aiS k (cqO a b k):=by
  intro k
  induction k with
  |zero=>exact fun _=> .done (agC h a b d e)
  | succ k ih=>
    intro p;have m:=f.getD k;have l:=g.getD k;have i:(((k+1:Nat):Int) - 1)=(k:Int):=by omega
    have j:γ .i64 ((k:Int) - ((1:Nat):Int))=(k:Int) - 1:=bH (by omega) (by omega);have n:γ .i64 (((a.getD k 0:Nat):Int) - ((b.getD k 0:Nat):Int))=((a.getD k 0:Nat):Int) - ((b.getD k 0:Nat):Int):=bH (by omega) (by omega);simp only [cqO];by_cases he:a.getD k 0=b.getD k 0
    · rw [if_pos he];refine .next ?_ (ih (by omega))
      unfold aeU;rw [i]
      first
        | (have c:=alE h a b d e k
           simp (disch:=first|omega|(simp [ay,az]<;>omega)) only [aK,Ξ,gI,he,bi,qK,decide_true,Xqq,fK,Xqf,eP,eU,bJ,bK,bU,j] at c;apply c<;>first|exact True.intro|omega|assumption|exact rfl)
    · rw [if_neg he];refine .done ?_;unfold aeU;rw [i];have c:=alD h a b d e k;simp (disch:=first|omega|(simp [ay,az]<;>omega)) only [aK,Ξ,gI,eP,eU,bJ,bK,bi,qK,he,decide_false,Xqf,bU,n] at c;apply c<;>first|exact True.intro|omega|assumption|exact rfl
theorem Sl (a b:List Nat) (e d:Bool) (f:bz a) (g:bz b) (k:a.length<2^40) (m:b.length<2^40):CO 186 [.sl (aj a) a.length e,.sl (aj b) b.length d] (.ret (ω (Ll a b))):=by
 unfold Ll;by_cases hl:a.length=b.length
 ·rw [if_pos hl];have hloop:=fun nt (hn:41≤nt)=>aaA hn a b e d hl f g k a.length (Δ _)
  have j:γ .i64 ((a.length:Int) - ((1:Nat):Int))=(a.length:Int) - 1:=Fa k;cases i:cqO a b a.length with
  |none=>
   rw [i] at hloop;exact agF a b e d (by rw [hl];simp [lit]) (aC.blk hloop (by simp [cqE]) rfl (aP.of ⟨rfl,rfl,congrArg _ j,trivial⟩) (aP.of trivial))
  |some c=>
   rw [i] at hloop;exact agG a b e d c (by rw [hl];simp [lit]) (aC.blk hloop (by simp [cqE]) rfl (aP.of ⟨rfl,rfl,congrArg _ j,trivial⟩) (aP.of ⟨rfl,trivial⟩))
 ·rw [if_neg hl];have h:=agD a b e d;have l:γ .i64 ((a.length:Int) - (b.length:Int))=(a.length:Int) - (b.length:Int):=bH (by omega) (by omega);simp (disch:=first|omega|(simp [ay,az]<;>omega)) only [qK,bU,gV,iD,l] at h;apply h<;>first|exact True.intro|omega|assumption|exact rfl
theorem ai6 {nt:Nat} (j:26≤nt) (x y w b a:Nat) (c:Int) (e d:Bool) (f:lit true (decide (c≤((0:Nat):Int)))=true) (i:lit true (decide ((b:Int)<(a:Int)))=true) (g:CO 188 [.sl (aj (ax y)) (ax y).length d,ω (γ .i64 (Xxm (γ .i64 ((γ .i64 ((b:Int)+(a:Int)))+((1:Nat):Int))) ((2:Nat):Int)))] (.ret (.sl (aj (ax w)) (ax w).length true))) (h:CO 186 [.sl (aj (ax w)) (ax w).length true,.sl (aj (ax x)) (ax x).length e] (.ret (ω c))):ψ nt f187 ⟨[(0,.sl (aj (ax x)) (ax x).length e),(1,.sl (aj (ax y)) (ax y).length d),(5,ω (b:Int)),(6,ω (a:Int))],[],.dead,[]⟩ (.normal) ⟨[(0,.sl (aj (ax x)) (ax x).length e),(1,.sl (aj (ax y)) (ax y).length d),(5,ω (γ .i64 (Xxm (γ .i64 ((γ .i64 ((b:Int)+(a:Int)))+((1:Nat):Int))) ((2:Nat):Int)))),(6,ω (a:Int))],[],.dead,[]⟩:=pJ 187 [] 2 3 (.c f (.k 1 i .nil)) (.c h (.c g .nil)) j
theorem ai7 {nt:Nat} (j:26≤nt) (x y w a b:Nat) (c:Int) (e d:Bool) (f:lit false (decide (c≤((0:Nat):Int)))=true) (i:lit true (decide ((a:Int)<(b:Int)))=true) (g:CO 188 [.sl (aj (ax y)) (ax y).length d,ω (γ .i64 (Xxm (γ .i64 ((γ .i64 ((a:Int)+(b:Int)))+((1:Nat):Int))) ((2:Nat):Int)))] (.ret (.sl (aj (ax w)) (ax w).length true))) (h:CO 186 [.sl (aj (ax w)) (ax w).length true,.sl (aj (ax x)) (ax x).length e] (.ret (ω c))):ψ nt f187 ⟨[(0,.sl (aj (ax x)) (ax x).length e),(1,.sl (aj (ax y)) (ax y).length d),(5,ω (a:Int)),(6,ω (b:Int))],[],.dead,[]⟩ (.normal) ⟨[(0,.sl (aj (ax x)) (ax x).length e),(1,.sl (aj (ax y)) (ax y).length d),(5,ω (a:Int)),(6,ω (γ .i64 ((γ .i64 (Xxm (γ .i64 ((γ .i64 ((a:Int)+(b:Int)))+((1:Nat):Int))) ((2:Nat):Int))) - ((1:Nat):Int))))],[],.dead,[]⟩:=pJ 187 [] 2 1 (.c f (.k 1 i .nil)) (.c h (.c g .nil)) j
theorem ai8 {nt:Nat} (g:26≤nt) (x y w a b:Nat) (c:Int) (f d:Bool) (e:lit false (decide ((a:Int)<(b:Int)))=true):ψ nt f187 ⟨[(0,.sl (aj (ax x)) (ax x).length f),(1,.sl (aj (ax y)) (ax y).length d),(5,ω (a:Int)),(6,ω (b:Int))],[],.dead,[]⟩ (.exit 0) ⟨[(5,ω (a:Int))],[],.dead,[]⟩:=pJ 187 [] 1 0 (.c e .nil) (.nil) g
theorem aeZ (x y q:Nat) (b a:Bool) (c:aN prog ap [] 26 (.block 0 (.loop (af 0 (ai f187)))) ⟨[(0,.sl (aj (ax x)) (ax x).length b),(1,.sl (aj (ax y)) (ax y).length a),(4,ω 0),(5,ω 0),(6,ω 16777215),(7,.dead),(10,.dead),(21,.dead)],[],.dead,[]⟩ (.normal) ⟨[(5,ω (q:Int))],[],.dead,[]⟩):CO 187 [.sl (aj (ax x)) (ax x).length b,.sl (aj (ax y)) (ax y).length a] (.ret (ω (q:Int))):=pK [0] 0 0 .nil (.l c .nil)
theorem agl {nt:Nat} (e:35≤nt) (l o:List Nat) (k:Nat) (nn:Bool) (a:(chk (.int .i64) (ζ (ε ((δ (k:Int))*1) (aj l)) .dead))=true) (c:(decide (((0:Nat):Int)≤(k:Int)))=true) (b:(decide ((k:Int)<(l.length:Int)))=true) (d:lit true (decide (((0:Nat):Int)≤(k:Int)))=true):ψ nt f136 ⟨[(0,.sl (aj l) l.length nn),(3,.nilS),(4,ω (k:Int))],[],.dead,[]⟩ (.normal) ⟨[(0,.sl (aj l) l.length nn),(3,.ref 0 0 0 3),(4,ω (γ .i64 ((k:Int) - ((1:Nat):Int))))],[(0,⟨[.int .u8 (γ .u8 (Xq4 (χ (ζ (ε ((δ (k:Int))*1) (aj l)) .dead)) (2^(min 16 64)))),.int .u8 (γ .u8 (Xq4 (χ (ζ (ε ((δ (k:Int))*1) (aj l)) .dead)) (2^(min 8 64)))),.int .u8 (γ .u8 (χ (ζ (ε ((δ (k:Int))*1) (aj l)) .dead)))],0,false,0,1,true⟩)],.dead,[]⟩:=pJ 136 [] 2 1 (.k 3 a (.c c (.c b (.k 1 a (.c c (.c b (.k 1 a (.c c (.c b (.c d .nil)))))))))) (.nil) e
theorem acd {nt:Nat} (a:35≤nt) (l o:List Nat) (nn:Bool):ψ nt f136 ⟨[(0,.sl (aj l) l.length nn),(3,.nilS),(4,ω (-1))],[],.dead,[]⟩ (.exit 0) ⟨[(3,.nilS)],[],.dead,[]⟩:=pJ 136 [] 1 0 (.n 1 .nil) (.nil) a
theorem ace (l o:List Nat) (nn:Bool) (b:aN prog ap [] 35 (.block 0 (.loop (af 0 (ai f136)))) ⟨[(0,.sl (aj l) l.length nn),(2,.str []),(3,.nilS),(4,ω (γ .i64 ((l.length:Int) - ((1:Nat):Int)))),(9,.dead)],[],.dead,[]⟩ (.normal) ⟨[(3,.nilS)],[],.dead,[]⟩) (a:CO 133 [.str []] (.ret (.str (ae (ah []))))):CO 136 [.sl (aj l) l.length nn] (.ret (.str (ae (ah [])))):=pK [0] 0 0 (.n 2 .nil) (.c a (.l b .nil))
theorem agk {nt:Nat} (g:35≤nt) (l o:List Nat) (k:Nat) (nn:Bool) (d:(Xqc (o.length+3) 1099511627776)=true) (f:(Xqc (o.length*1) (θ (pX o)))=true) (b:(chk (.int .i64) (ζ (ε ((δ (k:Int))*1) (aj l)) .dead))=true) (a:(decide (((0:Nat):Int)≤(k:Int)))=true) (c:(decide ((k:Int)<(l.length:Int)))=true) (e:lit true (decide (((0:Nat):Int)≤(k:Int)))=true):ψ nt f136 ⟨[(0,.sl (aj l) l.length nn),(3,.ref 0 0 0 o.length),(4,ω (k:Int))],[(0,⟨(pX o),0,false,0,1,true⟩)],.dead,[]⟩ (.normal) ⟨[(0,.sl (aj l) l.length nn),(3,.ref 0 0 0 (o.length+3)),(4,ω (γ .i64 ((k:Int) - ((1:Nat):Int))))],[(0,⟨((ν (o.length*1) (pX o))++ [.int .u8 (γ .u8 (Xq4 (χ (ζ (ε ((δ (k:Int))*1) (aj l)) .dead)) (2^(min 16 64)))),.int .u8 (γ .u8 (Xq4 (χ (ζ (ε ((δ (k:Int))*1) (aj l)) .dead)) (2^(min 8 64)))),.int .u8 (γ .u8 (χ (ζ (ε ((δ (k:Int))*1) (aj l)) .dead)))]),0,false,0,1,true⟩)],.dead,[]⟩:=pJ 136 [] 1 1 (.k 1 d (.c f (.k 1 b (.c a (.c c (.k 1 b (.c a (.c c (.k 1 b (.c a (.c c (.c e .nil)))))))))))) (.nil) g
theorem aca {nt:Nat} (a:35≤nt) (l o:List Nat) (nn:Bool):ψ nt f136 ⟨[(0,.sl (aj l) l.length nn),(3,.ref 0 0 0 o.length),(4,ω (-1))],[(0,⟨(pX o),0,false,0,1,true⟩)],.dead,[]⟩ (.exit 0) ⟨[(3,.ref 0 0 0 o.length)],[(0,⟨(pX o),0,false,0,1,true⟩)],.dead,[]⟩:=pJ 136 [] 1 0 (.n 1 .nil) (.nil) a
theorem acb (l o:List Nat) (nn:Bool) (a:(Xqn (θ (ν (o.length*1) (pX o))) o.length)=true) (e:(Xzx (ν (o.length*1) (pX o)) (chk (.int .u8)))=true) (d:aN prog ap [] 35 (.block 0 (.loop (af 0 (ai f136)))) ⟨[(0,.sl (aj l) l.length nn),(2,.str []),(3,.nilS),(4,ω (γ .i64 ((l.length:Int) - ((1:Nat):Int)))),(9,.dead)],[],.dead,[]⟩ (.normal) ⟨[(3,.ref 0 0 0 o.length)],[(0,⟨(pX o),0,false,0,1,true⟩)],.dead,[]⟩) (b:CO 133 [.str (Xw6 (fun c=>Xqo (δ (χ c))) (ν (o.length*1) (pX o)))] (.ret (.str (ae (ah (Xw6 (fun c=>Xqo (δ (χ c))) (ν (o.length*1) (pX o)))))))):CO 136 [.sl (aj l) l.length nn] (.ret (.str (ae (ah (Xw6 (fun c=>Xqo (δ (χ c))) (ν (o.length*1) (pX o))))))):=pK [0] 0 0 (.c a (.c e .nil)) (.c b (.l d .nil))
theorem agV (x:Nat) (a:lit true (decide (((0:Nat):Int)<(x:Int)))=true) (b:CO 133 [.str [Xqo (δ (γ .u8 (Xq4 (x:Int) (2^(min 56 64))))),Xqo (δ (γ .u8 (Xq4 (x:Int) (2^(min 48 64))))),Xqo (δ (γ .u8 (Xq4 (x:Int) (2^(min 40 64))))),Xqo (δ (γ .u8 (Xq4 (x:Int) (2^(min 32 64))))),Xqo (δ (γ .u8 (Xq4 (x:Int) (2^(min 24 64))))),Xqo (δ (γ .u8 (Xq4 (x:Int) (2^(min 16 64))))),Xqo (δ (γ .u8 (Xq4 (x:Int) (2^(min 8 64))))),Xqo (δ (γ .u8 (Xq4 (x:Int) (2^(min 0 64)))))]] (.ret (.str (ae (ah [Xqo (δ (γ .u8 (Xq4 (x:Int) (2^(min 56 64))))),Xqo (δ (γ .u8 (Xq4 (x:Int) (2^(min 48 64))))),Xqo (δ (γ .u8 (Xq4 (x:Int) (2^(min 40 64))))),Xqo (δ (γ .u8 (Xq4 (x:Int) (2^(min 32 64))))),Xqo (δ (γ .u8 (Xq4 (x:Int) (2^(min 24 64))))),Xqo (δ (γ .u8 (Xq4 (x:Int) (2^(min 16 64))))),Xqo (δ (γ .u8 (Xq4 (x:Int) (2^(min 8 64))))),Xqo (δ (γ .u8 (Xq4 (x:Int) (2^(min 0 64)))))]))))):CO 79 [ω (x:Int)] (.ret (.str (ae (ah [Xqo (δ (γ .u8 (Xq4 (x:Int) (2^(min 56 64))))),Xqo (δ (γ .u8 (Xq4 (x:Int) (2^(min 48 64))))),Xqo (δ (γ .u8 (Xq4 (x:Int) (2^(min 40 64))))),Xqo (δ (γ .u8 (Xq4 (x:Int) (2^(min 32 64))))),Xqo (δ (γ .u8 (Xq4 (x:Int) (2^(min 24 64))))),Xqo (δ (γ .u8 (Xq4 (x:Int) (2^(min 16 64))))),Xqo (δ (γ .u8 (Xq4 (x:Int) (2^(min 8 64))))),Xqo (δ (γ .u8 (Xq4 (x:Int) (2^(min 0 64)))))])))):=pK [] 19 131067 (.k 9 a (.k 6 a (.k 6 a (.k 6 a (.k 6 a (.k 6 a (.k 6 a (.k 5 a (.n 1 .nil))))))))) (.c b .nil)
theorem agW (x:Nat) (b:lit false (decide (((0:Nat):Int)<(x:Int)))=true) (a:CO 133 [.str []] (.ret (.str (ae (ah []))))):CO 79 [ω (x:Int)] (.ret (.str (ae (ah [])))):=pK [] 2 1 (.k 2 b (.n 1 .nil)) (.c a .nil)
theorem agJ {nt:Nat} (d:35≤nt) (s:List UInt8) (n k:Nat) (a:(decide (((0:Nat):Int)≤(k:Int)))=true) (c:(decide ((k:Int)<(((θ s):Nat):Int)))=true) (b:lit true (decide ((k:Int)<(((θ s):Nat):Int)))=true):ψ nt f178 ⟨[(0,.str s),(4,ω (n:Int)),(5,ω (k:Int))],[],.dead,[]⟩ (.normal) ⟨[(0,.str s),(4,ω (γ .i64 ((γ .i64 ((n:Int)*2^(min 8 64)))+(γ .i64 ((Xxs (Xjf s (δ (k:Int)) 0):Nat):Int))))),(5,ω (γ .i64 ((k:Int)+((1:Nat):Int))))],[],.dead,[]⟩:=pJ 178 [] 1 1 (.c a (.c c (.k 1 b .nil))) (.nil) d
theorem agK {nt:Nat} (b:35≤nt) (s:List UInt8) (n k:Nat) (a:lit false (decide ((k:Int)<(((θ s):Nat):Int)))=true):ψ nt f178 ⟨[(0,.str s),(4,ω (n:Int)),(5,ω (k:Int))],[],.dead,[]⟩ (.exit 0) ⟨[(4,ω (n:Int))],[],.dead,[]⟩:=pJ 178 [] 1 0 (.c a .nil) (.nil) b
theorem acO (s:List UInt8) (n:Nat) (b:lit false (decide (((127:Nat):Int)<((Xxs (Xjf (ae (ah s)) 0 0):Nat):Int)))=true) (f:(decide (((0:Nat):Int)<(((θ (ae (ah s))):Nat):Int)))=true) (c:lit true ((((θ (ae (ah s))):Nat):Int)==((8:Nat):Int))=true) (a:lit false (decide (((8:Nat):Int)<(((θ (ae (ah s))):Nat):Int)))=true) (d:CO 133 [.str s] (.ret (.str (ae (ah s))))) (e:aN prog ap [] 35 (.block 0 (.loop (af 0 (ai f178)))) ⟨[(0,.str (ae (ah s))),(2,ω 0),(3,.bool false),(4,ω 0),(5,ω 0),(20,.bool (decide (((127:Nat):Int)<((Xxs (Xjf (ae (ah s)) 0 0):Nat):Int)))),(24,.dead)],[],.dead,[]⟩ (.normal) ⟨[(4,ω (n:Int))],[],.dead,[]⟩):CO 178 [.str s] (.ret (.tup [ω (n:Int),.bool true])):=pK [0] 3 2 (.c b (.k 1 f (.c c (.c a .nil)))) (.l e (.c d .nil))
theorem acP (s:List UInt8) (n:Nat) (a:lit false ((((θ (ae (ah s))):Nat):Int)==((8:Nat):Int))=true) (d:lit false (decide (((8:Nat):Int)<(((θ (ae (ah s))):Nat):Int)))=true) (b:CO 133 [.str s] (.ret (.str (ae (ah s))))) (c:aN prog ap [] 35 (.block 0 (.loop (af 0 (ai f178)))) ⟨[(0,.str (ae (ah s))),(2,ω 0),(3,.bool false),(4,ω 0),(5,ω 0),(20,.bool false),(24,.dead)],[],.dead,[]⟩ (.normal) ⟨[(4,ω (n:Int))],[],.dead,[]⟩):CO 178 [.str s] (.ret (.tup [ω (n:Int),.bool true])):=pK [0] 3 0 (.k 1 a (.c d .nil)) (.l c (.c b .nil))
theorem amq (s:List UInt8) (n b:Nat) (a:lit true (decide ((b:Int)<(((θ (ae (ah s))):Nat):Int)))=true) (c:CO 133 [.str s] (.ret (.str (ae (ah s))))):CO 134 [.str s,ω (b:Int)] (.ret (.tup [ω 0,.bool false])):=pK [] 1 1 (.c a .nil) (.c c .nil)
theorem amr (s:List UInt8) (n b:Nat) (a:lit false (decide ((b:Int)<(((θ (ae (ah s))):Nat):Int)))=true) (c:CO 133 [.str s] (.ret (.str (ae (ah s))))) (d:CO 178 [.str s] (.ret (.tup [ω (n:Int),.bool true]))):CO 134 [.str s,ω (b:Int)] (.ret (.tup [ω (n:Int),.bool true])):=pK [] 1 0 (.c a .nil) (.c d (.c c .nil))
theorem alP (s:List UInt8) (a:lit true ((((θ s):Nat):Int)==((0:Nat):Int))=true):CO 179 [.str s] (.ret (.bool true)):=pK [] 1 1 (.c a .nil) (.nil)
theorem alQ (s:List UInt8) (b:(decide (((0:Nat):Int)<(((θ s):Nat):Int)))=true) (a:lit false ((((θ s):Nat):Int)==((0:Nat):Int))=true):CO 179 [.str s] (.ret (.bool (!(((Xxs (Xjf s 0 0):Nat):Int)==((0:Nat):Int))))):=pK [] 1 0 (.k 1 b (.c a .nil)) (.nil)
theorem acJ (s t:List UInt8) (a:lit true (decide ((((θ (ae (ah s))):Nat):Int)<(((θ (ae (ah t))):Nat):Int)))=true) (d:lit true (!((((θ (ae (ah s))):Nat):Int)==(((θ (ae (ah t))):Nat):Int)))=true) (b:CO 133 [.str s] (.ret (.str (ae (ah s))))) (c:CO 133 [.str t] (.ret (.str (ae (ah t))))):CO 101 [.str s,.str t] (.ret (ω (-1))):=pK [] 2 3 (.c a (.c d .nil)) (.c c (.c b .nil))
theorem acK (s t:List UInt8) (a:lit false (decide ((((θ (ae (ah s))):Nat):Int)<(((θ (ae (ah t))):Nat):Int)))=true) (d:lit true (!((((θ (ae (ah s))):Nat):Int)==(((θ (ae (ah t))):Nat):Int)))=true) (b:CO 133 [.str s] (.ret (.str (ae (ah s))))) (c:CO 133 [.str t] (.ret (.str (ae (ah t))))):CO 101 [.str s,.str t] (.ret (ω 1)):=pK [] 2 1 (.c a (.c d .nil)) (.c c (.c b .nil))
theorem acL (s t:List UInt8) (a:lit true (iF (ae (ah s)) (ae (ah t)))=true) (d:lit false (!((((θ (ae (ah s))):Nat):Int)==(((θ (ae (ah t))):Nat):Int)))=true) (b:CO 133 [.str s] (.ret (.str (ae (ah s))))) (c:CO 133 [.str t] (.ret (.str (ae (ah t))))):CO 101 [.str s,.str t] (.ret (ω (-1))):=pK [] 2 2 (.c a (.c d .nil)) (.c c (.c b .nil))
theorem acM (s t:List UInt8) (a:lit true (!(iF (ae (ah s)) (ae (ah t))||(ae (ah s))==(ae (ah t))))=true) (e:lit false (iF (ae (ah s)) (ae (ah t)))=true) (b:lit false (!((((θ (ae (ah s))):Nat):Int)==(((θ (ae (ah t))):Nat):Int)))=true) (c:CO 133 [.str s] (.ret (.str (ae (ah s))))) (d:CO 133 [.str t] (.ret (.str (ae (ah t))))):CO 101 [.str s,.str t] (.ret (ω 1)):=pK [] 3 4 (.c a (.c e (.c b .nil))) (.c d (.c c .nil))
theorem acN (s t:List UInt8) (a:lit false (!(iF (ae (ah s)) (ae (ah t))||(ae (ah s))==(ae (ah t))))=true) (e:lit false (iF (ae (ah s)) (ae (ah t)))=true) (b:lit false (!((((θ (ae (ah s))):Nat):Int)==(((θ (ae (ah t))):Nat):Int)))=true) (c:CO 133 [.str s] (.ret (.str (ae (ah s))))) (d:CO 133 [.str t] (.ret (.str (ae (ah t))))):CO 101 [.str s,.str t] (.ret (ω 0)):=pK [] 3 0 (.c a (.c e (.c b .nil))) (.c d (.c c .nil))
def anD (x y:Nat) (na nb:Bool) (p:Nat × Nat):St:=⟨[(0,.sl (aj (ax x)) (ax x).length na),(1,.sl (aj (ax y)) (ax y).length nb),(5,ω (p.1:Int)),(6,ω (p.2:Int))],[],.dead,[]⟩
def ai5 (q:Nat):St:=⟨[(5,ω (q:Int))],[],.dead,[]⟩
theorem WS {x d:Nat} (hd:d<16777216):(ax (x*d)).length≤(ax x).length+1:=by
 apply tK;have a:=wG x;have hp:=YK (ax x).length;rw [Xq5];rcases Xqg d with rfl|h0
 ·rw [Xjk];exact Xjx hp (by omega)
 ·exact Φ (Xvc a h0) (Xq0 _ (by omega))
theorem aaD {nt:Nat} (l:26≤nt) (x y:Nat) (e f:Bool) (u:0<y) (r:(ax x).length<2^36) (p:(ax y).length<2^35):∀ (n a b:Nat),b - a<n→a≤x / y→x / y≤b→b<16777216→aC prog ap [] nt (af 0 (ai f187)) (fun _=> .exit 0) (anD x y e f) ai5 (a,b) (x / y):=by
 intro n
 induction n with
 |zero=>intro a b h;omega
 | succ n ih=>
  intro a b h v t s;rcases Xxc a b with hlt|hge
  ·have j:(a+b+1) / 2<16777216:=by omega
   have m:=Ik (y*((a+b+1) / 2)) x;have o:=NS y ((a+b+1) / 2) f j (by omega);have w:=WS (x:=y) j;have g:=Sl (ax (y*((a+b+1) / 2))) (ax x) true e (bz.dig _) (bz.dig _) (by omega) (by omega);have c:=Nat.le_div_iff_mul_le (x:=(a+b+1) / 2) (y:=x) u;rw [Xqe] at c;have z:((0:Nat):Int)=0:=rfl;by_cases hle:y*((a+b+1) / 2)≤x
   ·have i:=c.2 hle;refine .next ?_ (ih ((a+b+1) / 2) b (by omega) i t s)
    have d:=ai6 l x y (y*((a+b+1) / 2)) a b (Ll (ax (y*((a+b+1) / 2))) (ax x)) e f;simp (disch:=first|omega|(simp [ay,az]<;>omega)) only [bU,bJ,bK,dI,bC,tC] at d;exact d (m.2.2 hle) hlt o g
   ·have i:x / y<(a+b+1) / 2:=Yqd (fun k=>hle (c.1 k));refine .next ?_ (ih a ((a+b+1) / 2 - 1) (by omega) v (by omega) (by omega))
    have d:=ai7 l x y (y*((a+b+1) / 2)) a b (Ll (ax (y*((a+b+1) / 2))) (ax x)) e f;simp (disch:=first|omega|(simp [ay,az]<;>omega)) only [fK,gV,iD,bK,bU,bJ,dI,bC,tC,jU] at d;exact d (fun k=>hle (m.2.1 k)) hlt o g
  ·have q:a=x / y:=by omega
   have d:=ai8 l x y 0 a b 0 e f (by rw [bK];simp [lit];omega);rw [← q];exact .done d
theorem WT (x y:Nat) (d a:Bool) (f:0<y) (c:x<y*16777216) (e:(ax x).length<2^36) (b:(ax y).length<2^35):CO 187 [.sl (aj (ax x)) (ax x).length d,.sl (aj (ax y)) (ax y).length a] (.ret (ω ((x / y:Nat):Int))):=by
 have h:x / y<16777216:=by rw [Xqx f,Xqe];exact c
 exact aeZ x y (x / y) d a (aC.blk (fun nt g=>aaD g x y d a f e b 16777216 0 16777215 (by omega) (Nat.zero_le _) (Nat.le_of_lt_succ h) (by omega)) (by simp) rfl (aP.of ⟨rfl,rfl,rfl,rfl,trivial⟩) (aP.of ⟨rfl,trivial⟩))
theorem oJ (l:List UInt8) (c:UInt8):ah (l++ [c])=ah l*256+c.toNat:=by
 unfold ah;rw [Xwv];rfl
theorem toNat_ofNat {x:Nat} (h:x<256):(Xqo x).toNat=x:=by
 rw [UInt8.toNat_ofNat'];exact Θ h
def bS (o:List Nat):List UInt8:=o.map Xqo
theorem ah8 (o:List Nat):Xw6 (fun c=>Xqo (δ (χ c))) (pX o)=bS o:=by
 unfold pX bS;rw [List.map_map];rfl
theorem TF (l:List Nat) (k:Nat):ν k (pX l)=pX (l.take k):=by unfold pX;rw [List.map_take]
def Wv (l:List Nat):Nat→List Nat
 |0=> []
 |k+1=> [l.getD k 0 / 65536,l.getD k 0 / 256 % 256,l.getD k 0 % 256]++Wv l k
theorem Oz (a b:List Nat):bS (a++b)=bS a++bS b:=by unfold bS;rw [Xxx]
theorem QC {l:List Nat} (a:bz l):∀ (k:Nat) (o:List Nat),k≤l.length→ah (bS (o++Wv l k))=ah (bS o)*16777216^k+dA (l.take k)
 |0,o,_=>by simp [Wv,dA]
 | k+1,o,h=>by
  simp only [Wv];rw [← τ,QC a k _ (by omega),pU (by omega)];have hd:=a.getD k;generalize l.getD k 0=d at*
  have e:ah (bS (o++ [d / 65536,d / 256 % 256,d % 256]))=ah (bS o)*16777216+d:=by
   rw [show o++ [d / 65536,d / 256 % 256,d % 256]=((o++ [d / 65536])++ [d / 256 % 256])++ [d % 256] by simp,Oz,Oz,Oz];simp only [bS,Xqb,Xxt];rw [oJ,oJ,oJ,toNat_ofNat (show d / 65536<256 by omega),toNat_ofNat (Xq3 _ (by omega)),toNat_ofNat (Xq3 _ (by omega))];omega
  rw [e,Xxw,Xq5,Xqe (16777216^k) 16777216,Xqs,Xqe d];omega
def aac (l:List Nat):AV:=match l with| []=> .nilS|x::l=> .ref 0 0 0 (x::l).length
def aad (l:List Nat):Hp:=match l with| []=> []|x::l=> [(0,⟨pX (x::l),0,false,0,1,true⟩)]
theorem DC {l:List Nat} (h:l ≠ []):aac l= .ref 0 0 0 l.length:=by cases l with|nil=>exact absurd rfl h|cons _ _=>rfl
theorem DD {l:List Nat} (h:l ≠ []):aad l= [(0,⟨pX l,0,false,0,1,true⟩)]:=by cases l with|nil=>exact absurd rfl h|cons _ _=>rfl
def agj (l:List Nat) (nn:Bool) (p:Nat × List Nat):St:=⟨[(0,.sl (aj l) l.length nn),(3,aac p.2),(4,ω ((p.1:Int) - 1))],aad p.2,.dead,[]⟩
def Yo (o:List Nat):St:=⟨[(3,aac o)],aad o,.dead,[]⟩
theorem adA (o:List Nat) (a b c:Nat):pX o++ [Xx0 .u8 (a:Int),Xx0 .u8 (b:Int),Xx0 .u8 (c:Int)]=pX (o++ [a,b,c]):=by simp [pX]
theorem ad8:(2:Nat)^16=65536:=by decide
theorem ak2:(2:Nat)^8=256:=by decide
theorem ab_ {nt:Nat} (c:35≤nt) (l:List Nat) (nn:Bool) (i:l.length<2^36) (e:bz l):∀ (k:Nat) (o:List Nat),k≤l.length→o.length+3*k=3*l.length→aC prog ap [] nt (af 0 (ai f136)) (fun _=> .exit 0) (agj l nn) Yo (k,o) (o++Wv l k):=by
 intro k
 induction k with
 | zero=>
  intro o _ _;simp only [Wv,Γ];refine .done ?_;unfold agj Yo;rcases Xxl (o= []) with rfl|hne
  ·exact acd c l [] nn
  ·rw [DC hne,DD hne];exact aca c l o nn
 | succ k ih=>
  intro o j m;have hd:=e.getD k;have h:(((k+1:Nat):Int) - 1)=(k:Int):=by omega
  have g:γ .i64 ((k:Int) - ((1:Nat):Int))=(k:Int) - 1:=bH (by omega) (by omega);have hnext:=ih (o++ [l.getD k 0 / 65536,l.getD k 0 / 256 % 256,l.getD k 0 % 256]) (by omega) (by simp;omega);rw [τ] at hnext;simp only [Wv];refine .next ?_ hnext
  unfold agj;rw [h];generalize f:l.getD k 0=d at*
  have a:o++ [d / 65536,d / 256 % 256,d % 256] ≠ []:=by simp
  rcases Xxl (o= []) with rfl|hne
  ·have b:=agl c l [] k nn;simp (disch:=first|omega|(simp [ay,az]<;>omega)) only [aK,Ξ,gI,f,eP,eU,bJ,bK,bU,g,bi,show min 16 64=16 from rfl,lI,ad8,w8u,Θ,show min 8 64=8 from rfl,ak2] at b;simp only [Xqi,aac,aad,pX,Xqb,Xxt,ξ,Xqa] at b ⊢;apply b<;>first|exact True.intro|omega|assumption|exact rfl
  ·have b:=agk c l o k nn;rw [DC hne,DD hne,DC a,DD a];simp (disch:=first|omega|(simp [ay,az]<;>omega)) only [gy,bJ,Ξ,az,aK,gI,f,eP,eU,bK,bU,g,TF,Xq1,bi,show min 16 64=16 from rfl,lI,ad8,w8u,Θ,show min 8 64=8 from rfl,ak2,adA] at b;simp only [η,ξ,Xqa];apply b<;>first|exact True.intro|omega|assumption|exact rfl
theorem vO (l:List Nat) (nn:Bool) (i:l.length<2^36) (a:bz l):CO 136 [.sl (aj l) l.length nn] (.ret (.str (ae (dA l)))):=by
 have hloop:=fun nt (hn:35≤nt)=>ab_ hn l nn i a l.length [] (Δ _) (by simp)
 have b:=QC a l.length [] (Δ _);have j:(Wv l l.length).length=3*l.length:=by
  have:∀ k,(Wv l k).length=3*k:=by
   intro k
   induction k with
   |zero=>rfl
   |succ k ih=>simp only [Wv,η,ξ,Xqa,ih];omega
  exact this _
 have e:γ .i64 ((l.length:Int) - ((1:Nat):Int))=(l.length:Int) - 1:=Fa (by omega);simp only [Xqi] at hloop b;rw [Xq1,show ah (bS [])=0 from rfl,Nat.zero_mul,Xqd] at b;generalize Wv l l.length=o at*
 rcases Xxl (o= []) with rfl|hne
 ·rw [← b];exact ace l [] nn (aC.blk hloop (by simp) rfl (aP.of ⟨rfl,rfl,congrArg _ e,trivial⟩) (aP.of ⟨rfl,trivial⟩)) (iH [] (by simp))
 ·have h:=acb l o nn;have g:=iH (bS o) (by simp [bS];omega);rw [b] at g;have c:ν o.length (pX o)=pX o:=by rw [TF,Xq1]
  simp (disch:=first|omega|(simp [ay,az]<;>omega)) only [Ξ,c,JP,bJ,ah8,b] at h;apply h<;>first|exact True.intro|omega|assumption|exact rfl|skip
  ·exact az o
  ·have:Xzx (pX o) (chk (.int .u8))=true:=by
    rw [Xjz];intro x f;obtain ⟨d,_,rfl⟩:=List.mem_map.1 f;rfl
   exact this
  ·exact aC.blk hloop (by simp) rfl (aP.of ⟨rfl,rfl,congrArg _ e,trivial⟩) (by unfold Yo;rw [DC hne,DD hne];exact aP.of ⟨rfl,trivial⟩)
theorem lX (x:Nat) (c:x<9223372036854775808):CO 79 [ω (x:Int)] (.ret (.str (ae x))):=by
 rcases Xqg x with rfl|h0
 ·exact agW 0 rfl (iH [] (by simp))
 ·have h:=agV x;have e:∀ k,δ (γ .u8 (Xq4 (x:Int) (2^k)))=x / 2^k % 256:=by
   intro k;rw [lI,w8u,aK]
  simp only [show min 56 64=56 from rfl,show min 48 64=48 from rfl,show min 40 64=40 from rfl,show min 32 64=32 from rfl,show min 24 64=24 from rfl,show min 16 64=16 from rfl,show min 8 64=8 from rfl,show min 0 64=0 from rfl,e] at h;have a:=iH [Xqo (x / 2^56 % 256),Xqo (x / 2^48 % 256),Xqo (x / 2^40 % 256),Xqo (x / 2^32 % 256),Xqo (x / 2^24 % 256),Xqo (x / 2^16 % 256),Xqo (x / 2^8 % 256),Xqo (x / 2^0 % 256)] (by simp);have b:ah [Xqo (x / 2^56 % 256),Xqo (x / 2^48 % 256),Xqo (x / 2^40 % 256),Xqo (x / 2^32 % 256),Xqo (x / 2^24 % 256),Xqo (x / 2^16 % 256),Xqo (x / 2^8 % 256),Xqo (x / 2^0 % 256)]=x:=by
   have t:∀ y,(Xqo (y % 256)).toNat=y % 256:=fun y=>toNat_ofNat (Xq3 _ (by omega))
   simp only [ah,List.foldl_cons,List.foldl_nil,t];omega
  rw [b] at a h;apply h
  ·rw [bK];exact Yq0 h0
  ·exact a
def ad2 (s:List UInt8) (k:Nat):St:=⟨[(0,.str s),(4,ω ((ah (s.take k):Nat):Int)),(5,ω (k:Int))],[],.dead,[]⟩
def O_ (s:List UInt8) (k:Nat):St:=⟨[(4,ω ((ah (s.take k):Nat):Int))],[],.dead,[]⟩
theorem GH {s:List UInt8} {k:Nat} (h:k<s.length):ah (s.take (k+1))=ah (s.take k)*256+(s.getD k 0).toNat:=by
 rw [Xws,π h,κ,π h];exact oJ _ _
theorem KC (s:List UInt8) (k:Nat):ah (s.take k)≤ah s:=by
 rcases Xxc k s.length with h|h
 ·have e:s=s.take k++s.drop k:=(Xj5 k s).symm;have:∀ (b a:List UInt8),ah a≤ah (a++b):=by
   intro b
   induction b with
   |nil=>intro a;simp
   |cons c r ih=>
    intro a;have d:=ih (a++ [c]);rw [oJ,τ] at d;simp only [List.cons_append,Xqi] at d;omega
  calc ah (s.take k)≤ah (s.take k++s.drop k):=this _ _
   _=ah s:=by rw [← e]
 ·rw [υ h];exact Δ _
theorem XW {nt:Nat} (g:35≤nt) (s:List UInt8) (hs:s.length<2^40) (n:ah s<9223372036854775808):∀ (d k:Nat),k+d=s.length→aC prog ap [] nt (af 0 (ai f178)) (fun _=> .exit 0) (ad2 s) (O_ s) k s.length:=by
 intro d
 induction d with
 |zero=>
  intro k i;have e:k=s.length:=by omega
  subst e;exact .done (agK g s _ _ (by rw [bK];simp [lit]))
 | succ d ih=>
  intro k i;have b:k<s.length:=by omega
  refine .next ?_ (ih (k+1) (by omega))
  have a:=agJ g s (ah (s.take k)) k;rw [aK] at a;have m:=KC s (k+1);have f:=GH b;have o:(s.getD k 0).toNat<256:=Xkl _;unfold ad2;rw [f];rw [f] at m;generalize (s.getD k 0).toNat=c at*
  generalize ah (s.take k)=v at*
  have l:γ .i64 ((v:Int)*2^(min 8 64))=((v*256:Nat):Int):=by
   rw [show min 8 64=8 from rfl,bH]<;>omega
  have j:(((v*256:Nat):Int))+(c:Int)=((v*256+c:Nat):Int):=by omega
  have h:γ .i64 (c:Int)=(c:Int):=bC (by omega);rw [h,l,j,bC (by omega)] at a;simp (disch:=first|omega|(simp [ay,az]<;>omega)) only [eU,bJ,bK,bU,dI,bC] at a;apply a<;>first|exact True.intro|omega|assumption|exact rfl
theorem uh {x k:Nat}:(ae x).length≤k↔x<2^(8*k):=by
 constructor
 ·intro h;have a:=lD (ae x);rw [aH] at a;exact Φ a (Ψ (by omega) (by omega))
 ·exact eu
theorem afZ (s:List UInt8) (hs:s.length<2^40) (h:ah s<9223372036854775808):CO 178 [.str s] (.ret (.tup [ω ((ah s:Nat):Int),.bool true])):=by
 have j:=iH s hs;have a:=aH (ah s);have k:(ae (ah s)).length≤8:=eu (Φ h (by decide));have hloop:=fun nt (e:35≤nt)=>XW e (ae (ah s)) (by omega) (by rw [a];exact h) (ae (ah s)).length 0 (by omega)
 have hless:aP ⟨[(4,ω ((ah s:Nat):Int))],[],.dead,[]⟩ (O_ (ae (ah s)) (ae (ah s)).length):=by
  unfold O_;rw [Xq1,a];exact aP.refl _
 have g:=acO s (ah s);have f:=acP s (ah s);have d:(ae (ah s)).length=8→((ae (ah s)).getD 0 0).toNat≤127:=by
  intro b;cases e:ae (ah s) with
  |nil=>rw [e] at b;cases b
  |cons c r=>
   rw [e] at b a;rw [jE] at a;have:r.length=7:=by simpa using b
   rw [this,show 256^7=72057594037927936 from rfl] at a;simp only [Xzg];omega
 generalize ae (ah s)=t at*
 by_cases b:t.length=8
 ·have i:=d b;simp (disch:=first|omega|(simp [ay,az]<;>omega)) only [bK,fK,gV,iD,b,bJ,qK,decide_true,bU] at g;apply g<;>first|exact True.intro|omega|assumption|exact rfl|skip
  exact aC.blk hloop (by simp) rfl (aP.of ⟨rfl,rfl,rfl,trivial⟩) hless
 ·simp (disch:=first|omega|(simp [ay,az]<;>omega)) only [qK,b,decide_false,fK,Xqf,bK,gV,iD] at f;apply f<;>first|exact True.intro|omega|assumption|exact rfl|skip
  exact aC.blk hloop (by simp) rfl (aP.of ⟨rfl,rfl,rfl,trivial⟩) hless
theorem iq (s:List UInt8) (b:Nat) (hs:s.length<2^40) (d:b≤7) (c:ah s<2^(8*b)):CO 134 [.str s,ω (b:Int)] (.ret (.tup [ω ((ah s:Nat):Int),.bool true])):=by
 have h:=amr s (ah s) b;have a:ah s<9223372036854775808:=Φ c (Xxr (Ψ (by omega) (show 8*b≤63 by omega)) (by decide));have e:=uh.2 c;simp (disch:=first|omega|(simp [ay,az]<;>omega)) only [bK,fK,gV,iD] at h;exact h (by omega) (iH s hs) (afZ s hs a)
theorem lm (s:List UInt8) (b:Nat) (hs:s.length<2^40) (c:2^(8*b)≤ah s):CO 134 [.str s,ω (b:Int)] (.ret (.tup [ω 0,.bool false])):=by
 have h:=amq s 0 b;have a:¬ (ae (ah s)).length≤b:=fun h=>by have:=uh.1 h;omega
 simp (disch:=first|omega|(simp [ay,az]<;>omega)) only [bK,bU,bJ] at h;exact h (by omega) (iH s hs)
theorem YS (s:List UInt8):CO 179 [.str s] (.ret (.bool (nR s))):=by
 cases s with
 |nil=>exact alP [] rfl
 | cons c r=>
  have h:=alQ (c::r);have e:(!((((c::r).getD 0 0).toNat:Int)==((0:Nat):Int)))=nR (c::r):=by
   simp only [Xzg,nR];by_cases hc:c=0
   ·subst hc;rfl
   ·have:c.toNat ≠ 0:=fun h=>hc (by apply UInt8.toNat_inj.1;simpa using h)
    have a:((c.toNat:Int)==((0:Nat):Int))=false:=by simp;omega
    rw [a];simp [hc]
  rw [e] at h;apply h
  ·simp
  ·simp [lit];omega
theorem BU:∀ (a b:List UInt8),a.length=b.length→iF a b=decide (ah a<ah b)
 | [],[],_=>rfl
 | [],_::_,h=>by simp at h
 |_::_,[],h=>by simp at h
 | x::a,y::b,h=>by
  have d:a.length=b.length:=by simpa using h
  have i:=BU a b d;have j:=lD a;have k:=lD b;simp only [iF,i];rw [jE,jE,d,show (256:Nat)=2^8 from rfl,← Xji];rw [d] at j;have c:decide (x<y)=decide (x.toNat<y.toNat):=by simp [UInt8.lt_iff_toNat_lt]
  have e:(x==y)=decide (x.toNat=y.toNat):=by
   by_cases h:x=y
   ·subst h;simp
   ·have:x.toNat ≠ y.toNat:=fun g=>h (UInt8.toNat_inj.1 g)
    simp [h,this]
  rw [c,e];generalize 2^(8*b.length)=M at*
  generalize ah a=u at*
  generalize ah b=v at*
  generalize x.toNat=p at*
  generalize y.toNat=q at*
  rcases Xzf p q with h3|h3|h3
  ·have f:(p+1)*M≤q*M:=Xqy _ h3;rw [Xxw,Xzt] at f;rw [Yq0 h3,Yq0 (show p*M+u<q*M+v by omega)];rfl
  ·subst h3;rw [Yq1 (Xvx _),Yq0 rfl];simp
  ·have f:(q+1)*M≤p*M:=Xqy _ h3;rw [Xxw,Xzt] at f;rw [Yq1 (show ¬ p<q by omega),Yq1 (show ¬ p=q by omega),Yq1 (show ¬ p*M+u<q*M+v by omega)];rfl
theorem CQ {x y:Nat} (h:(ae x).length<(ae y).length):x<y:=by
 rcases Xxc x y with h1|h1
 ·exact h1
 ·have a:y≤ah (ae x):=by rw [aH];exact h1
  have:=nY a;omega
theorem J8 (s t:List UInt8) (hs:s.length<2^40) (k:t.length<2^40):CO 101 [.str s,.str t] (.ret (ω (mG (ah s) (ah t)))):=by
 have d:=iH s hs;have c:=iH t k;have g:=aH (ah s);have j:=aH (ah t);unfold mG;by_cases hl:(ae (ah s)).length=(ae (ah t)).length
 ·have a:=BU _ _ hl;rw [g,j] at a;have f:(ae (ah s)==ae (ah t))=decide (ah s=ah t):=by
   by_cases h:ah s=ah t
   ·rw [h];simp
   ·have:ae (ah s) ≠ ae (ah t):=fun i=>h (FK i)
    simp [h,this]
  have b:lit false (!((((ae (ah s)).length:Nat):Int)==(((ae (ah t)).length:Nat):Int)))=true:=by rw [hl];simp [lit]
  by_cases h1:ah s<ah t
  ·rw [if_pos h1];exact acL s t (by rw [a,Yq0 h1];rfl) b d c
  ·rw [if_neg h1];by_cases e:ah t<ah s
   ·rw [if_pos e];exact acM s t (by rw [a,f,Yq1 h1,Yq1 (show ¬ ah s=ah t by omega)];rfl) (by rw [a,Yq1 h1];rfl) b d c
   ·rw [if_neg e];exact acN s t (by rw [a,f,Yq1 h1,Yq0 (show ah s=ah t by omega)];rfl) (by rw [a,Yq1 h1];rfl) b d c
 ·have b:lit true (!((((ae (ah s)).length:Nat):Int)==(((ae (ah t)).length:Nat):Int)))=true:=by rw [qK,Yq1 hl];rfl
  by_cases h1:(ae (ah s)).length<(ae (ah t)).length
  ·rw [if_pos (CQ h1)];exact acJ s t (by rw [bK,Yq0 h1];rfl) b d c
  ·have e:=CQ (show (ae (ah t)).length<(ae (ah s)).length by omega);rw [if_neg (by omega),if_pos e];exact acK s t (by rw [bK,Yq1 h1];rfl) b d c
theorem akV {nt:Nat} (f:35≤nt) (s:List UInt8) (o:List Nat) (e d k:Nat) (a:(decide (((0:Nat):Int)≤(k:Int)))=true) (c:(decide ((k:Int)<(((θ s):Nat):Int)))=true) (b:lit true (decide ((k:Int)<(e:Int)))=true):au prog ap [] nt (af 2 (ai f135)) ⟨[(0,.str s),(3,.nilS),(4,ω (e:Int)),(5,ω (d:Int)),(6,ω (k:Int))],[],.dead,[]⟩ (.normal) ⟨[(0,.str s),(3,.nilS),(4,ω (e:Int)),(5,ω (γ .i64 ((γ .i64 ((d:Int)*((256:Nat):Int)))+(γ .i64 ((Xxs (Xjf s (δ (k:Int)) 0):Nat):Int))))),(6,ω (γ .i64 ((k:Int)+((1:Nat):Int))))],[],.dead,[]⟩:=pJ 135 [] 1 1 (.c a (.c c (.c b .nil))) (.nil) f
theorem akW {nt:Nat} (b:35≤nt) (s:List UInt8) (o:List Nat) (e d k:Nat) (a:lit false (decide ((k:Int)<(e:Int)))=true):au prog ap [] nt (af 2 (ai f135)) ⟨[(0,.str s),(3,.nilS),(4,ω (e:Int)),(5,ω (d:Int)),(6,ω (k:Int))],[],.dead,[]⟩ (.exit 2) ⟨[(0,.str s),(3,.nilS),(4,ω (e:Int)),(5,ω (d:Int))],[],.dead,[]⟩:=pJ 135 [] 1 0 (.c a .nil) (.nil) b
theorem akT {nt:Nat} (f:35≤nt) (s:List UInt8) (o:List Nat) (e d k:Nat) (a:(decide (((0:Nat):Int)≤(k:Int)))=true) (c:(decide ((k:Int)<(((θ s):Nat):Int)))=true) (b:lit true (decide ((k:Int)<(e:Int)))=true):au prog ap [] nt (af 2 (ai f135)) ⟨[(0,.str s),(3,.ref 0 0 0 o.length),(4,ω (e:Int)),(5,ω (d:Int)),(6,ω (k:Int))],[(0,⟨(aj o),0,false,0,1,true⟩)],.dead,[]⟩ (.normal) ⟨[(0,.str s),(3,.ref 0 0 0 o.length),(4,ω (e:Int)),(5,ω (γ .i64 ((γ .i64 ((d:Int)*((256:Nat):Int)))+(γ .i64 ((Xxs (Xjf s (δ (k:Int)) 0):Nat):Int))))),(6,ω (γ .i64 ((k:Int)+((1:Nat):Int))))],[(0,⟨(aj o),0,false,0,1,true⟩)],.dead,[]⟩:=pJ 135 [] 1 1 (.c a (.c c (.c b .nil))) (.nil) f
theorem akU {nt:Nat} (b:35≤nt) (s:List UInt8) (o:List Nat) (e d k:Nat) (a:lit false (decide ((k:Int)<(e:Int)))=true):au prog ap [] nt (af 2 (ai f135)) ⟨[(0,.str s),(3,.ref 0 0 0 o.length),(4,ω (e:Int)),(5,ω (d:Int)),(6,ω (k:Int))],[(0,⟨(aj o),0,false,0,1,true⟩)],.dead,[]⟩ (.exit 2) ⟨[(0,.str s),(3,.ref 0 0 0 o.length),(4,ω (e:Int)),(5,ω (d:Int))],[(0,⟨(aj o),0,false,0,1,true⟩)],.dead,[]⟩:=pJ 135 [] 1 0 (.c a .nil) (.nil) b
theorem akN {nt:Nat} (c:35≤nt) (s:List UInt8) (o:List Nat) (z:Int) (d:Nat) (a:lit true (decide (((0:Nat):Int)<z))=true) (b:aN prog ap [] 35 (.block 2 (.loop (af 2 (ai f135)))) ⟨[(0,.str s),(2,.dead),(3,.nilS),(4,ω z),(5,ω 0),(6,ω (if ((0:Nat):Int)>(γ .i64 (z - ((3:Nat):Int))) then ((0:Nat):Int) else (γ .i64 (z - ((3:Nat):Int))))),(12,.bool (decide (((0:Nat):Int)<z))),(20,.dead)],[],.dead,[]⟩ (.normal) ⟨[(0,.str s),(4,ω z),(5,ω (d:Int)),(3,.nilS)],[],.dead,[]⟩):ψ nt f135 ⟨[(0,.str s),(3,.nilS),(4,ω z)],[],.dead,[]⟩ (.normal) ⟨[(0,.str s),(3,.ref 0 0 0 1),(4,ω (γ .i64 (z - ((3:Nat):Int))))],[(0,⟨[ω (d:Int)],0,false,0,1,true⟩)],.dead,[]⟩:=pJ 135 [2] 2 1 (.k 3 a .nil) (.l b .nil) c
theorem akO {nt:Nat} (b:35≤nt) (s:List UInt8) (o:List Nat) (z:Int) (d:Nat) (a:lit false (decide (((0:Nat):Int)<z))=true):ψ nt f135 ⟨[(0,.str s),(3,.nilS),(4,ω z)],[],.dead,[]⟩ (.exit 0) ⟨[(3,.nilS)],[],.dead,[]⟩:=pJ 135 [2] 1 0 (.c a .nil) (.nil) b
theorem agp (s:List UInt8) (o:List Nat) (a:CO 133 [.str s] (.ret (.str (ae (ah s))))) (b:aN prog ap [] 35 (.block 0 (.loop (af 0 (ai f135)))) ⟨[(0,.str (ae (ah s))),(2,.nilS),(3,.nilS),(4,ω (((θ (ae (ah s))):Nat):Int)),(5,.dead),(6,.dead),(12,.dead),(20,.dead)],[],.dead,[]⟩ (.normal) ⟨[(3,.nilS)],[],.dead,[]⟩):CO 135 [.str s] (.ret (.nilS)):=pK [0] 0 0 .nil (.l b (.c a .nil))
theorem akI {nt:Nat} (f:35≤nt) (s:List UInt8) (o:List Nat) (z:Int) (d:Nat) (a:(Xqc (o.length+1) 1099511627776)=true) (e:(Xqc (o.length*1) (θ (aj o)))=true) (b:lit true (decide (((0:Nat):Int)<z))=true) (c:aN prog ap [] 35 (.block 2 (.loop (af 2 (ai f135)))) ⟨[(0,.str s),(2,.dead),(3,.ref 0 0 0 o.length),(4,ω z),(5,ω 0),(6,ω (if ((0:Nat):Int)>(γ .i64 (z - ((3:Nat):Int))) then ((0:Nat):Int) else (γ .i64 (z - ((3:Nat):Int))))),(12,.bool (decide (((0:Nat):Int)<z))),(20,.dead)],[(0,⟨(aj o),0,false,0,1,true⟩)],.dead,[]⟩ (.normal) ⟨[(0,.str s),(4,ω z),(5,ω (d:Int)),(3,.ref 0 0 0 o.length)],[(0,⟨(aj o),0,false,0,1,true⟩)],.dead,[]⟩):ψ nt f135 ⟨[(0,.str s),(3,.ref 0 0 0 o.length),(4,ω z)],[(0,⟨(aj o),0,false,0,1,true⟩)],.dead,[]⟩ (.normal) ⟨[(0,.str s),(3,.ref 0 0 0 (o.length+1)),(4,ω (γ .i64 (z - ((3:Nat):Int))))],[(0,⟨((ν (o.length*1) (aj o))++ [ω (d:Int)]),0,false,0,1,true⟩)],.dead,[]⟩:=pJ 135 [2] 1 1 (.k 1 a (.c e (.k 1 b .nil))) (.l c .nil) f
theorem akJ {nt:Nat} (b:35≤nt) (s:List UInt8) (o:List Nat) (z:Int) (d:Nat) (a:lit false (decide (((0:Nat):Int)<z))=true):ψ nt f135 ⟨[(0,.str s),(3,.ref 0 0 0 o.length),(4,ω z)],[(0,⟨(aj o),0,false,0,1,true⟩)],.dead,[]⟩ (.exit 0) ⟨[(3,.ref 0 0 0 o.length)],[(0,⟨(aj o),0,false,0,1,true⟩)],.dead,[]⟩:=pJ 135 [2] 1 0 (.c a .nil) (.nil) b
theorem agn (s:List UInt8) (o:List Nat) (a:CO 133 [.str s] (.ret (.str (ae (ah s))))) (b:aN prog ap [] 35 (.block 0 (.loop (af 0 (ai f135)))) ⟨[(0,.str (ae (ah s))),(2,.nilS),(3,.nilS),(4,ω (((θ (ae (ah s))):Nat):Int)),(5,.dead),(6,.dead),(12,.dead),(20,.dead)],[],.dead,[]⟩ (.normal) ⟨[(3,.ref 0 0 0 o.length)],[(0,⟨(aj o),0,false,0,1,true⟩)],.dead,[]⟩):CO 135 [.str s] (.ret (.own (ν (o.length*1) (aj o)) o.length 1)):=pK [0] 0 0 .nil (.l b (.c a .nil))
def Yz (s:List UInt8) (o:List Nat) (e j k:Nat):St:=⟨[(0,.str s),(3,Ot o),(4,ω (e:Int)),(5,ω ((ah ((s.take k).drop j):Nat):Int)),(6,ω (k:Int))],Ou o,.dead,[]⟩
def Yy (s:List UInt8) (o:List Nat) (e d:Nat):St:=⟨[(0,.str s),(3,Ot o),(4,ω (e:Int)),(5,ω (d:Int))],Ou o,.dead,[]⟩
theorem Vf {s:List UInt8} {j k:Nat} (h:k<s.length) (a:j≤k):ah ((s.take (k+1)).drop j)=ah ((s.take k).drop j)*256+(s.getD k 0).toNat:=by
 rw [Xws,π h,List.drop_append_of_le_length (by simp;omega),κ,π h];exact oJ _ _
theorem RP {s:List UInt8} {j k:Nat} (h:k≤j+3):ah ((s.take k).drop j)<16777216:=by
 have a:=lD ((s.take k).drop j);have b:((s.take k).drop j).length≤3:=by simp;omega
 exact Φ a (Xxr (Ψ (by omega) (show 8*((s.take k).drop j).length≤24 by omega)) (by decide))
theorem aci {nt:Nat} (f:35≤nt) (s:List UInt8) (o:List Nat) (e j:Nat) (hs:s.length<2^40) (r:e≤s.length) (q:e≤j+3):∀ (n k:Nat),k+n=e→j≤k→aC prog ap [] nt (af 2 (ai f135)) (fun _=> .exit 2) (Yz s o e j) (Yy s o e) k (ah ((s.take e).drop j)):=by
 intro n
 induction n with
 | zero=>
  intro k p b;have h:k=e:=by omega
  subst h;refine .done ?_;unfold Yz Yy;rcases Xxl (o= []) with rfl|hne
  ·exact akW f s [] k _ k (by rw [bK];simp [lit])
  ·rw [gW hne,gX hne];exact akU f s o k _ k (by rw [bK];simp [lit])
 | succ n ih=>
  intro k p b;refine .next ?_ (ih (k+1) (by omega) (by omega))
  have g:k<s.length:=by omega
  have v:=RP (s:=s) (j:=j) (k:=k) (by omega);have t:(s.getD k 0).toNat<256:=Xkl _;have m:=Vf g b;unfold Yz;rw [m];generalize l:(s.getD k 0).toNat=c at*
  generalize ah ((s.take k).drop j)=d at*
  clear ih m;have u:γ .i64 ((d:Int)*((256:Nat):Int))=((d*256:Nat):Int):=by rw [bH]<;>omega
  have i:(((d*256:Nat):Int))+(c:Int)=((d*256+c:Nat):Int):=by omega
  rcases Xxl (o= []) with rfl|hne
  ·have a:=akV f s [] e d k;simp (disch:=first|omega|(simp [ay,az]<;>omega)) only [eU,bJ,bK,bU,yQ,bC,aK,l,i,dI] at a;apply a<;>first|exact True.intro|omega|assumption|exact rfl
  ·have a:=akT f s o e d k;rw [gW hne,gX hne];simp (disch:=first|omega|(simp [ay,az]<;>omega)) only [eU,bJ,bK,bU,yQ,bC,aK,l,i,dI] at a;apply a<;>first|exact True.intro|omega|assumption|exact rfl
def Ve (s:List UInt8) (p:Int × List Nat):St:=⟨[(0,.str s),(3,Ot p.2),(4,ω p.1)],Ou p.2,.dead,[]⟩
def RN (o:List Nat):St:=⟨[(3,Ot o)],Ou o,.dead,[]⟩
theorem ach {nt:Nat} (c:35≤nt) (s:List UInt8) (o:List Nat) (e:Nat) (hs:s.length<2^38) (i:e≤s.length) (j:0<e) (k:o.length<2^39):
  ψ nt f135 (Ve s ((e:Int),o)) .normal (Ve s ((e:Int) - 3,o++ [ah ((s.take e).drop (e - 3))])):=by
 have hloop:=fun nt (c:35≤nt)=>aci c s o e (e - 3) (by omega) i (by omega) (e - (e - 3)) (e - 3) (by omega) (Δ _)
 have g:γ .i64 ((e:Int) - ((3:Nat):Int))=(e:Int) - 3:=bH (by omega) (by omega);have f:(if ((0:Nat):Int)>(e:Int) - 3 then ((0:Nat):Int) else (e:Int) - 3)=((e - 3:Nat):Int):=by
  split<;>omega
 have b:ah ((s.take (e - 3)).drop (e - 3))=0:=by
  rw [Xx8 (by simp;omega)];rfl
 have h:(ε (e - 3) (ν e s)).length≤3:=by simp;omega
 unfold Ve;generalize ah ((s.take e).drop (e - 3))=d at*
 rcases Xxl (o= []) with rfl|hne
 ·have a:=akN c s [] (e:Int) d;rw [g,f] at a;simp (disch:=first|omega|(simp [ay,az]<;>omega)) only [bK,bU,bJ] at a;simp only [Xqi,Ot,Ou,aj,Xqb,Xxt,ξ,Xqa] at a ⊢;apply a
  ·omega
  ·refine aC.blk hloop (by simp) rfl ?_ (aP.of ⟨rfl,rfl,rfl,rfl,trivial⟩);unfold Yz;rw [b];exact aP.of ⟨rfl,rfl,rfl,rfl,rfl,trivial⟩
 ·have a:=akI c s o (e:Int) d;rw [g,f] at a;rw [gW hne,gX hne,gW (jc _ _),gX (jc _ _)];simp (disch:=first|omega|(simp [ay,az]<;>omega)) only [gy,bJ,Ξ,dm,bK,bU,dQ,Xq1,kV] at a;simp only [η,φ];apply a<;>first|exact True.intro|omega|assumption|exact rfl|skip
  ·refine aC.blk hloop (by simp) rfl ?_ ?_
   ·unfold Yz;rw [b,gW hne,gX hne];exact aP.of ⟨rfl,rfl,rfl,rfl,rfl,trivial⟩
   ·unfold Yy;rw [gW hne,gX hne];exact aP.of ⟨rfl,rfl,rfl,rfl,trivial⟩
theorem Yu {nt:Nat} (b:35≤nt) (s:List UInt8) (o:List Nat) (z:Int) (c:z≤0):ψ nt f135 (Ve s (z,o)) (.exit 0) (RN o):=by
 unfold Ve RN;have a:lit false (decide (((0:Nat):Int)<z))=true:=by simp [lit];exact c
 rcases Xxl (o= []) with rfl|hne
 ·exact akO b s [] z 0 a
 ·rw [gW hne,gX hne];exact akJ b s o z 0 a
theorem aii {s:List UInt8} {e:Nat} (g:e≤s.length):ah (s.take e)=16777216*ah (s.take (e - 3))+ah ((s.take e).drop (e - 3)):=by
 have c:∀ (b a:List UInt8),ah (a++b)=ah a*256^b.length+ah b:=by
  intro b a;unfold ah;rw [Xwv,Iy];rfl
 have hs:s.take e=s.take (e - 3)++(s.take e).drop (e - 3):=by
  have f:=Xj5 (e - 3) (s.take e);rw [List.take_take,Xjd (by omega)] at f;exact f.symm
 have d:=c ((s.take e).drop (e - 3)) (s.take (e - 3));rw [← hs] at d;rw [d];rcases Xxc e 3 with h3|h3
 ·have:e - 3=0:=by omega
  rw [this];simp [ah]
 ·have:((s.take e).drop (e - 3)).length=3:=by simp;omega
  rw [this,Xqe,show 256^3=16777216 from rfl]
theorem Yv {nt:Nat} (b:35≤nt) (s:List UInt8) (hs:s.length<2^38) (l:nR s=true):∀ (n e:Nat) (o:List Nat),e<n→e≤s.length→o.length+e<2^39→aC prog ap [] nt (af 0 (ai f135)) (fun _=> .exit 0) (Ve s) RN ((e:Int),o) (o++ax (ah (s.take e))):=by
 intro n
 induction n with
 |zero=>intro e o h;omega
 | succ n ih=>
  intro e o h a q;rcases Xqg e with rfl|h0
  ·have:ah (s.take 0)=0:=rfl;rw [this,f_,Γ];exact .done (Yu b s o _ (by omega))
  ·have g:0<ah (s.take e):=by
    cases s with
    |nil=>simp at a;omega
    | cons c r=>
     have f:c ≠ 0:=by simpa [nR] using l
     have d:0<c.toNat:=by
      rcases Xqg c.toNat with h|h
      ·exact absurd (by apply UInt8.toNat_inj.1;simpa using h) f
      ·exact h
     obtain ⟨e',rfl⟩:∃ e',e=e'+1:=⟨e - 1,by omega⟩
     rw [List.take_succ_cons,jE];have:=Xjx d (show 0<256^(r.take e').length from Nat.pow_pos (by omega));omega
   have p:=aii a;have hd:=RP (s:=s) (j:=e - 3) (k:=e) (by omega);have hstep:=ach b s o e hs a h0 (by omega);rw [oN g,show ah (s.take e) % 16777216=ah ((s.take e).drop (e - 3)) by omega,show ah (s.take e) / 16777216=ah (s.take (e - 3)) by omega];rcases Xxc e 3 with h3|h3
   ·have i:e - 3=0:=by omega
    have m:ah (s.take (e - 3))=0:=by rw [i];rfl
    rw [m,f_];exact .next hstep (.done (Yu b s _ _ (by omega)))
   ·have hnext:=ih (e - 3) (o++ [ah ((s.take e).drop (e - 3))]) (by omega) (by omega) (by simp;omega);rw [τ] at hnext;rw [show ((e:Int) - 3)=((e - 3:Nat):Int) by omega] at hstep;exact .next hstep hnext
theorem CW (s:List UInt8) (hs:s.length<2^37):CO 135 [.str s] (.ret (.sl (aj (ax (ah s))) (ax (ah s)).length false)):=by
 have c:=iH s (by omega);have b:(ae (ah s)).length≤s.length:=nY (Δ _);have a:=aH (ah s);have hloop:=fun nt (hn:35≤nt)=>Yv hn (ae (ah s)) (by omega) (zK _) ((ae (ah s)).length+1) (ae (ah s)).length [] (by omega) (Δ _) (by simp;omega)
 rw [Xq1,a,Xqi] at hloop;generalize hd:ax (ah s)=o at*
 rcases Xxl (o= []) with rfl|hne
 ·have h:=agp s [] c (aC.blk hloop (by simp) rfl (aP.of ⟨rfl,rfl,rfl,trivial⟩) (aP.of ⟨rfl,trivial⟩));exact h.out (jG.ret rfl rfl (aQ.nilS false rfl))
 ·have h:=(agn s o c (aC.blk hloop (by simp) rfl (aP.of ⟨rfl,rfl,rfl,trivial⟩) (by unfold RN;rw [gW hne,gX hne];exact aP.of ⟨rfl,trivial⟩))).thaw (by simp);simp only [xE,thaw,Ξ,dQ,Xq1] at h;exact h.out (jG.sl1 _ _ _)
theorem aoy (s t:List UInt8) (x y q r:Nat) (a:(!((y:Int)==((0:Nat):Int)))=true) (f:lit false ((((θ (ae (ah t))):Nat):Int)==((0:Nat):Int))=true) (b:CO 133 [.str t] (.ret (.str (ae (ah t))))) (d:CO 134 [.str s,ω 7] (.ret (.tup [ω (x:Int),.bool true]))) (e:CO 134 [.str (ae (ah t)),ω 7] (.ret (.tup [ω (y:Int),.bool true]))) (g:CO 79 [ω (γ .i64 (Xxm (x:Int) (y:Int)))] (.ret (.str (ae q)))) (c:CO 79 [ω (Xxj (x:Int) (y:Int))] (.ret (.str (ae r)))):CO 150 [.str s,.str t] (.ret (.tup [.str (ae q),.str (ae r),.bool true])):=pK [0] 3 6 (.c a (.c a (.k 2 f .nil))) (.c c (.c g (.c e (.c d (.c b .nil)))))
theorem aow (s t:List UInt8) (x y q r m:Nat) (Q:List Nat) (b:Int) (a:Bool) (f:(decide (((0:Nat):Int)≤(((ax (ah s)).length:Nat):Int)))=true) (j:(decide ((((ax (ah s)).length:Nat):Int)=(((ax (ah s)).length:Nat):Int)))=true) (g:(decide ((((ax (ah s)).length:Nat):Int)≤((1099511627776:Nat):Int)))=true) (e:lit false ((((θ (ae (ah t))):Nat):Int)==((0:Nat):Int))=true) (c:CO 133 [.str t] (.ret (.str (ae (ah t))))) (i:CO 134 [.str s,ω 7] (.ret (.tup [ω 0,.bool false]))) (d:CO 134 [.str (ae (ah t)),ω 7] (.ret (.tup [ω b,.bool a]))) (k:CO 135 [.str s] (.ret (.sl (aj (ax (ah s))) (ax (ah s)).length false))) (o:CO 135 [.str (ae (ah t))] (.ret (.sl (aj (ax (ah (ae (ah t))))) (ax (ah (ae (ah t)))).length false))) (n:aN prog ap [] 87 (.block 0 (.loop (af 0 (ai f150)))) ⟨[(0,.str s),(1,.str (ae (ah t))),(4,.str []),(5,.str []),(6,.bool false),(7,ω 0),(8,.bool false),(9,ω b),(10,.bool a),(11,.sl (aj (ax (ah s))) (ax (ah s)).length false),(12,.sl (aj (ax (ah (ae (ah t))))) (ax (ah (ae (ah t)))).length false),(13,.ref 0 0 0 (δ (((ax (ah s)).length:Nat):Int))),(14,.nilS),(15,ω (γ .i64 ((((ax (ah s)).length:Nat):Int) - ((1:Nat):Int)))),(20,.bool ((((θ (ae (ah t))):Nat):Int)==((0:Nat):Int))),(34,.bool false),(54,.dead),(68,.dead)],[(0,⟨(gQ (δ (((ax (ah s)).length:Nat):Int)) [ω 0]),0,false,0,1,true⟩)],.dead,[]⟩ (.normal) ⟨[(13,.ref 0 0 0 m),(14,.sl (aj (ax r)) (ax r).length false)],[(0,⟨(aj Q),0,false,0,1,true⟩)],.dead,[]⟩) (h:CO 136 [.sl (ν (m*1) (aj Q)) m true] (.ret (.str (ae q)))) (l:CO 136 [.sl (aj (ax r)) (ax r).length false] (.ret (.str (ae r)))):CO 150 [.str s,.str t] (.ret (.tup [.str (ae q),.str (ae r),.bool true])):=pK [0] 3 0 (.c f (.c j (.c g (.k 2 e .nil)))) (.c l (.c h (.l n (.c o (.c k (.c d (.c i (.c c .nil))))))))
theorem aox (s t:List UInt8) (x y q r m:Nat) (Q:List Nat) (o:Int) (n:Bool) (d:(decide (((0:Nat):Int)≤(((ax (ah s)).length:Nat):Int)))=true) (h:(decide ((((ax (ah s)).length:Nat):Int)=(((ax (ah s)).length:Nat):Int)))=true) (e:(decide ((((ax (ah s)).length:Nat):Int)≤((1099511627776:Nat):Int)))=true) (c:lit false ((((θ (ae (ah t))):Nat):Int)==((0:Nat):Int))=true) (a:CO 133 [.str t] (.ret (.str (ae (ah t))))) (g:CO 134 [.str s,ω 7] (.ret (.tup [ω (x:Int),.bool true]))) (b:CO 134 [.str (ae (ah t)),ω 7] (.ret (.tup [ω 0,.bool false]))) (i:CO 135 [.str s] (.ret (.sl (aj (ax (ah s))) (ax (ah s)).length false))) (l:CO 135 [.str (ae (ah t))] (.ret (.sl (aj (ax (ah (ae (ah t))))) (ax (ah (ae (ah t)))).length false))) (k:aN prog ap [] 87 (.block 0 (.loop (af 0 (ai f150)))) ⟨[(0,.str s),(1,.str (ae (ah t))),(4,.str []),(5,.str []),(6,.bool false),(7,ω (x:Int)),(8,.bool true),(9,ω 0),(10,.bool false),(11,.sl (aj (ax (ah s))) (ax (ah s)).length false),(12,.sl (aj (ax (ah (ae (ah t))))) (ax (ah (ae (ah t)))).length false),(13,.ref 0 0 0 (δ (((ax (ah s)).length:Nat):Int))),(14,.nilS),(15,ω (γ .i64 ((((ax (ah s)).length:Nat):Int) - ((1:Nat):Int)))),(20,.bool ((((θ (ae (ah t))):Nat):Int)==((0:Nat):Int))),(34,.bool false),(54,.dead),(68,.dead)],[(0,⟨(gQ (δ (((ax (ah s)).length:Nat):Int)) [ω 0]),0,false,0,1,true⟩)],.dead,[]⟩ (.normal) ⟨[(13,.ref 0 0 0 m),(14,.sl (aj (ax r)) (ax r).length false)],[(0,⟨(aj Q),0,false,0,1,true⟩)],.dead,[]⟩) (f:CO 136 [.sl (ν (m*1) (aj Q)) m true] (.ret (.str (ae q)))) (j:CO 136 [.sl (aj (ax r)) (ax r).length false] (.ret (.str (ae r)))):CO 150 [.str s,.str t] (.ret (.tup [.str (ae q),.str (ae r),.bool true])):=pK [0] 3 2 (.c d (.c h (.c e (.k 2 c .nil)))) (.c j (.c f (.l k (.c l (.c i (.c b (.c g (.c a .nil))))))))
theorem aoz {nt:Nat} (n:87≤nt) (x y r w q p a m k:Nat) (c:Int) (Q:List Nat) (l:(chk (.int .i64) (ζ (ε ((0+(δ (k:Int)))*1) (ν ((0+(δ (k:Int)))*1) (aj Q)++ [ω (q:Int)]++ε (((0+(δ (k:Int)))*1)+1) (aj Q))) .dead))=true) (b:(decide (((0:Nat):Int)≤(k:Int)))=true) (d:(decide ((k:Int)<(m:Int)))=true) (j:(Xqc (((0+(δ (k:Int)))*1)+1) (θ (aj Q)))=true) (v:lit true (decide (((0:Nat):Int)≤c))=true) (h:(Xqn (θ (aj (ax r))) ((ax r).length*1))=true) (i:(Xqc (1+(ax r).length) 1099511627776)=true) (t:(chk (.int .i64) (ζ (ε ((δ (k:Int))*1) (aj (ax x))) .dead))=true) (u:(decide ((k:Int)<(((ax x).length:Nat):Int)))=true) (e:lit true (decide (((0:Nat):Int)≤(k:Int)))=true) (f:CO 185 [.sl (ν ((1+(ax r).length)*1) ([ω (χ (ζ (ε ((δ (k:Int))*1) (aj (ax x))) .dead))]++(aj (ax r)))) (1+(ax r).length) true] (.ret (.sl (aj (ax w)) (ax w).length false))) (o:CO 186 [.sl (aj (ax w)) (ax w).length false,.sl (aj (ax y)) (ax y).length false] (.ret (ω c))) (g:CO 187 [.sl (aj (ax w)) (ax w).length false,.sl (aj (ax y)) (ax y).length false] (.ret (ω (q:Int)))) (s:CO 188 [.sl (aj (ax y)) (ax y).length false,ω (χ (ζ (ε ((0+(δ (k:Int)))*1) (ν ((0+(δ (k:Int)))*1) (aj Q)++ [ω (q:Int)]++ε (((0+(δ (k:Int)))*1)+1) (aj Q))) .dead))] (.ret (.sl (aj (ax p)) (ax p).length true))) (z:CO 151 [.sl (aj (ax w)) (ax w).length false,.sl (aj (ax p)) (ax p).length true] (.ret (.sl (aj (ax a)) (ax a).length false))):ψ nt f150 ⟨[(11,.sl (aj (ax x)) (ax x).length false),(12,.sl (aj (ax y)) (ax y).length false),(13,.ref 0 0 0 m),(14,.sl (aj (ax r)) (ax r).length false),(15,ω (k:Int))],[(0,⟨(aj Q),0,false,0,1,true⟩)],.dead,[]⟩ (.normal) ⟨[(11,.sl (aj (ax x)) (ax x).length false),(12,.sl (aj (ax y)) (ax y).length false),(13,.ref 0 0 0 m),(14,.sl (aj (ax a)) (ax a).length false),(15,ω (γ .i64 ((k:Int) - ((1:Nat):Int))))],[(0,⟨(ν ((0+(δ (k:Int)))*1) (aj Q)++ [ω (q:Int)]++ε (((0+(δ (k:Int)))*1)+1) (aj Q)),0,false,0,1,true⟩)],.dead,[]⟩:=pJ 150 [] 2 3 (.c l (.c b (.c d (.c j (.c b (.c d (.c v (.c h (.c i (.k 2 t (.c b (.c u (.c e .nil))))))))))))) (.c z (.c s (.c g (.c o (.c f .nil))))) n
theorem aoA {nt:Nat} (i:87≤nt) (x y r w q p n m k:Nat) (c:Int) (Q:List Nat) (f:lit false (decide (((0:Nat):Int)≤c))=true) (h:(Xqn (θ (aj (ax r))) ((ax r).length*1))=true) (g:(Xqc (1+(ax r).length) 1099511627776)=true) (e:(chk (.int .i64) (ζ (ε ((δ (k:Int))*1) (aj (ax x))) .dead))=true) (l:(decide (((0:Nat):Int)≤(k:Int)))=true) (b:(decide ((k:Int)<(((ax x).length:Nat):Int)))=true) (d:lit true (decide (((0:Nat):Int)≤(k:Int)))=true) (a:CO 185 [.sl (ν ((1+(ax r).length)*1) ([ω (χ (ζ (ε ((δ (k:Int))*1) (aj (ax x))) .dead))]++(aj (ax r)))) (1+(ax r).length) true] (.ret (.sl (aj (ax w)) (ax w).length false))) (j:CO 186 [.sl (aj (ax w)) (ax w).length false,.sl (aj (ax y)) (ax y).length false] (.ret (ω c))):ψ nt f150 ⟨[(11,.sl (aj (ax x)) (ax x).length false),(12,.sl (aj (ax y)) (ax y).length false),(13,.ref 0 0 0 m),(14,.sl (aj (ax r)) (ax r).length false),(15,ω (k:Int))],[(0,⟨(aj Q),0,false,0,1,true⟩)],.dead,[]⟩ (.normal) ⟨[(11,.sl (aj (ax x)) (ax x).length false),(12,.sl (aj (ax y)) (ax y).length false),(13,.ref 0 0 0 m),(14,.sl (aj (ax w)) (ax w).length false),(15,ω (γ .i64 ((k:Int) - ((1:Nat):Int))))],[(0,⟨(aj Q),0,false,0,1,true⟩)],.dead,[]⟩:=pJ 150 [] 2 1 (.c f (.c h (.c g (.k 2 e (.c l (.c b (.c d .nil))))))) (.c j (.c a .nil)) i
theorem alj {nt:Nat} (a:87≤nt) (x y r w q p b m k:Nat) (c:Int) (Q:List Nat):ψ nt f150 ⟨[(11,.sl (aj (ax x)) (ax x).length false),(12,.sl (aj (ax y)) (ax y).length false),(13,.ref 0 0 0 m),(14,.sl (aj (ax r)) (ax r).length false),(15,ω (-1))],[(0,⟨(aj Q),0,false,0,1,true⟩)],.dead,[]⟩ (.exit 0) ⟨[(13,.ref 0 0 0 m),(14,.sl (aj (ax r)) (ax r).length false)],[(0,⟨(aj Q),0,false,0,1,true⟩)],.dead,[]⟩:=pJ 150 [] 1 0 (.n 1 .nil) (.nil) a
def BB (x y m k:Nat):List Nat:=(Xq9 m).map fun i=>if i<k then 0 else x / 16777216^i / y % 16777216
theorem yh (x y m k:Nat):(BB x y m k).length=m:=by simp [BB]
theorem acz {x y m k:Nat} (a:k<m):(BB x y m (k+1)).set k (x / 16777216^k / y % 16777216)=BB x y m k:=by
 apply Xj1;intro i;rw [Xzp,yh];unfold BB;by_cases hi:k=i
 ·subst hi;simp [a]
 ·rw [if_neg hi];by_cases him:i<m
  ·simp only [List.getElem?_map,List.getElem?_range him,Option.map_some];by_cases h1:i<k
   ·rw [if_pos (by omega),if_pos h1]
   ·rw [if_neg (by omega),if_neg h1]
  ·rw [Xq7 (by simp;omega),Xq7 (by simp;omega)]
theorem IU (x y m:Nat):BB x y m m=μ m 0:=by
 unfold BB;apply Xj1;intro i;by_cases him:i<m
 ·simp [him]
 ·rw [Xq7 (by simp;omega),Xq7 (by simp;omega)]
theorem acy (x y m k:Nat):bz (BB x y m k):=by
 intro d hd;obtain ⟨i,_,rfl⟩:=List.mem_map.1 hd;show (if i<k then 0 else _)<_;split<;>omega
theorem ZL (z:Nat):∀ m,dA ((Xq9 m).map fun i=>z / 16777216^i % 16777216)=z % 16777216^m:=by
 intro m
 induction m with
 |zero=>simp [dA,Nat.mod_one]
 |succ m ih=>
  rw [List.range_succ,Xxx,Am,ih,List.length_map,List.length_range,Xq5,Nat.mod_mul];simp only [Xqb,Xxt,dA,Xjk,Xq8]
theorem acA {x y m:Nat} (h:x / y<16777216^m):dA (BB x y m 0)=x / y:=by
 have e:BB x y m 0=(Xq9 m).map fun i=>x / y / 16777216^i % 16777216:=by
  unfold BB;apply List.map_congr_left;intro i _;rw [if_neg (by omega),Xx7,Xx7,Xqe]
 rw [e,ZL,Θ h]
theorem WR:∀ (k x:Nat),(ax x).getD k 0=x / 16777216^k % 16777216:=by
 intro k
 induction k with
 |zero=>
  intro x;rcases Xqg x with rfl|h
  ·rw [f_];rfl
  ·rw [oN h];simp
 |succ k ih=>
  intro x;rcases Xqg x with rfl|h
  ·rw [f_];simp
  ·rw [oN h,List.getD_cons_succ,ih,Xx7,Xq5,Xqe]
theorem QT {V R' Q' x H:Nat} (a:0<V) (h:H=V*Q'+R'):(x+16777216*H) / V=16777216*Q'+(x+16777216*R') / V∧(x+16777216*H) % V=(x+16777216*R') % V:=by
 subst h;have e:x+16777216*(V*Q'+R')=x+16777216*R'+V*(16777216*Q'):=by
  rw [Xxe,Xwt];omega
 rw [e];constructor
 ·rw [Nat.add_mul_div_left _ _ a,Xx3]
 ·rw [Nat.add_mul_mod_self_left]
def Vh (x y m k:Nat):St:=⟨[(11,.sl (aj (ax x)) (ax x).length false),(12,.sl (aj (ax y)) (ax y).length false),(13,.ref 0 0 0 m),(14,.sl (aj (ax (x / 16777216^k % y))) (ax (x / 16777216^k % y)).length false),(15,ω ((k:Int) - 1))],[(0,⟨aj (BB x y m k),0,false,0,1,true⟩)],.dead,[]⟩
theorem aoC {nt:Nat} (u:87≤nt) (x y r w q p b m k d:Nat) (c:Int) (Q Q2:List Nat) (A:k<(ax x).length) (hd:(ax x).getD k 0=d) (v:Q.length=m) (o:k<m) (z:m<2^40) (s:(ax r).length<2^39) (a:Q.set k q=Q2) (h:0≤c)
  (c0:CO 185 [.sl (aj (d::ax r)) (1+(ax r).length) true] (.ret (.sl (aj (ax w)) (ax w).length false)))
  (c1:CO 186 [.sl (aj (ax w)) (ax w).length false,.sl (aj (ax y)) (ax y).length false] (.ret (ω c)))
  (c2:CO 187 [.sl (aj (ax w)) (ax w).length false,.sl (aj (ax y)) (ax y).length false] (.ret (ω (q:Int))))
  (c3:CO 188 [.sl (aj (ax y)) (ax y).length false,ω (q:Int)] (.ret (.sl (aj (ax p)) (ax p).length true)))
  (c4:CO 151 [.sl (aj (ax w)) (ax w).length false,.sl (aj (ax p)) (ax p).length true] (.ret (.sl (aj (ax b)) (ax b).length false))):
  ψ nt f150 ⟨[(11,.sl (aj (ax x)) (ax x).length false),(12,.sl (aj (ax y)) (ax y).length false),(13,.ref 0 0 0 m),(14,.sl (aj (ax r)) (ax r).length false),(15,ω (k:Int))],[(0,⟨aj Q,0,false,0,1,true⟩)],.dead,[]⟩ .normal
   ⟨[(11,.sl (aj (ax x)) (ax x).length false),(12,.sl (aj (ax y)) (ax y).length false),(13,.ref 0 0 0 m),(14,.sl (aj (ax b)) (ax b).length false),(15,ω ((k:Int) - 1))],[(0,⟨aj Q2,0,false,0,1,true⟩)],.dead,[]⟩:=by
 have g:=aoz u x y r w q p b m k c Q;have i:γ .i64 ((k:Int) - ((1:Nat):Int))=(k:Int) - 1:=bH (by omega) (by omega);have hset':=Q_ (l:=Q) (j:=k) (by omega) q;rw [a] at hset';have f:Q2.getD k 0=q:=by rw [← a,κ,List.getElem?_set_self (by omega)];rfl
 have t:Q2.length=m:=by rw [← a];simp [v]
 have e:ν (1+(ax r).length) (aj (d::ax r))=aj (d::ax r):=by rw [dQ,υ (by simp;omega)]
 have n:(((0:Nat):Int)≤c)=True:=by simp [h]
 simp (disch:=first|omega|(simp [ay,az]<;>omega)) only [aK,Xqd,Ξ,hset',gI,f,eP,eU,bJ,bK,dm,gy,n,decide_true,bU,JP,hd,bi,L8,e,i] at g;apply g<;>first|exact True.intro|omega|assumption|exact rfl
theorem aoB {nt:Nat} (j:87≤nt) (x y r w m k d:Nat) (c:Int) (Q:List Nat) (o:k<(ax x).length) (hd:(ax x).getD k 0=d) (n:Q.length=m) (h:k<m) (l:m<2^40) (i:(ax r).length<2^39) (e:c<0)
  (c0:CO 185 [.sl (aj (d::ax r)) (1+(ax r).length) true] (.ret (.sl (aj (ax w)) (ax w).length false)))
  (c1:CO 186 [.sl (aj (ax w)) (ax w).length false,.sl (aj (ax y)) (ax y).length false] (.ret (ω c))):
  ψ nt f150 ⟨[(11,.sl (aj (ax x)) (ax x).length false),(12,.sl (aj (ax y)) (ax y).length false),(13,.ref 0 0 0 m),(14,.sl (aj (ax r)) (ax r).length false),(15,ω (k:Int))],[(0,⟨aj Q,0,false,0,1,true⟩)],.dead,[]⟩ .normal
   ⟨[(11,.sl (aj (ax x)) (ax x).length false),(12,.sl (aj (ax y)) (ax y).length false),(13,.ref 0 0 0 m),(14,.sl (aj (ax w)) (ax w).length false),(15,ω ((k:Int) - 1))],[(0,⟨aj Q,0,false,0,1,true⟩)],.dead,[]⟩:=by
 have b:=aoA j x y r w 0 0 0 m k c Q;have f:γ .i64 ((k:Int) - ((1:Nat):Int))=(k:Int) - 1:=bH (by omega) (by omega);have a:ν (1+(ax r).length) (aj (d::ax r))=aj (d::ax r):=by rw [dQ,υ (by simp;omega)]
 have g:(((0:Nat):Int)≤c)=False:=by simp [e]
 simp (disch:=first|omega|(simp [ay,az]<;>omega)) only [g,decide_false,fK,Xqf,dm,Ξ,JP,decide_true,gy,bJ,aK,gI,hd,eP,eU,bK,bU,bi,L8,a,f] at b;apply b<;>first|exact True.intro|omega|assumption|exact rfl
theorem acw (x y m k:Nat) (c:0<y) (l:k<m):∃ d r w:Nat,(ax x).getD k 0=d∧x / 16777216^(k+1) % y=r∧d+16777216*r=w∧d<16777216∧r<y∧x / 16777216^k % y=w % y∧(BB x y m (k+1)).set k (w / y)=BB x y m k∧(BB x y m (k+1)).getD k 0=0:=by
 have g:=Xq3 (x / 16777216^k) (show 0<16777216 by omega);have e:=Xq3 (x / 16777216^(k+1)) c;refine ⟨x / 16777216^k % 16777216,x / 16777216^(k+1) % y,_,WR k x,rfl,rfl,g,e, ?_, ?_, ?_⟩
 ·have b:=Xxg (x / 16777216^(k+1)) y;obtain ⟨_,j⟩:=QT (x:=x / 16777216^k % 16777216) c b.symm;have i:x / 16777216^k % 16777216+16777216*(x / 16777216^(k+1))=x / 16777216^k:=by
   rw [Xq5,← Xx7];omega
  rw [i] at j;exact j
 ·have b:=Xxg (x / 16777216^(k+1)) y;obtain ⟨v1,_⟩:=QT (x:=x / 16777216^k % 16777216) c b.symm;have i:x / 16777216^k % 16777216+16777216*(x / 16777216^(k+1))=x / 16777216^k:=by
   rw [Xq5,← Xx7];omega
  rw [i] at v1;have a:=acz (x:=x) (y:=y) l;rw [v1] at a;have h:x / 16777216^k % 16777216+16777216*(x / 16777216^(k+1) % y)<y*16777216:=by omega
  have f:(x / 16777216^k % 16777216+16777216*(x / 16777216^(k+1) % y)) / y<16777216:=by rw [Xqx c,Xqe 16777216 y];exact h
  rw [Nat.mul_add_mod,Θ f] at a;exact a
 ·unfold BB;rw [κ];simp [l]
theorem Uo {w y:Nat} (h:w<y*16777216):(ax w).length≤(ax y).length+1:=by
 apply tK;have a:=wG y;rw [Xq5];exact Xqz h (Xvc a (by omega))
theorem acx {nt:Nat} (E:87≤nt) (x y m k:Nat) (D:0<y) (L:(ax x).length=m) (z:k<m) (F:m<2^35) (G:(ax y).length<2^34):ψ nt f150 (Vh x y m (k+1)) .normal (Vh x y m k):=by
 obtain ⟨d,r,w,hd,I,K,u,t,o,a,q⟩:=acw x y m k D z;have p:=yh x y m (k+1);unfold Vh;rw [show (((k+1:Nat):Int) - 1)=(k:Int) by omega,I,o];have f:w<y*16777216:=by omega
 have H:=rG (Xw0 t);have b:=zZ (d::ax r) true (by simp;omega);rw [TL (bz.cons u (bz.dig r))] at b;simp only [dA,fB,K,ξ] at b;rw [Xx3 (ax r).length 1] at b;have c:=b.out (jG.sl1 _ _ _);have C:w / y<16777216:=by rw [Xqx D,Xqe];exact f
 have J:=Uo f;have n:=Sl (ax w) (ax y) false false (bz.dig _) (bz.dig _) (by omega) (by omega);have j:=Ik w y;generalize BB x y m k=Q2 at*
 generalize BB x y m (k+1)=Q1 at*
 by_cases hc:0≤Ll (ax w) (ax y)
 ·have e:=j.1.1 hc;have g:=WT w y false false D f (by omega) (by omega);have B:=NS y (w / y) false C (by omega);have s:y*(w / y)≤w:=Nat.mul_div_le w y;have l:=ML w (y*(w / y)) false true s (by omega);have A:w - y*(w / y)=w % y:=by have:=Xxg w y;omega
  rw [A] at l;exact aoC E x y r w (w / y) (y*(w / y)) (w % y) m k d _ Q1 Q2 (by omega) hd p z (by omega) (by omega) a hc c n g B l
 ·have e:w<y:=Yqd (fun h=>hc (j.1.2 h));have v:w / y=0:=Xjc e;rw [Θ e];rw [v] at a;have hsame:Q1.set k 0=Q1:=by
   apply Xj1;intro i;rw [Xzp];by_cases hi:k=i
   ·subst hi;rw [κ,π (by omega)] at q;rw [if_pos rfl,if_pos (by omega),π (by omega)];simpa using q.symm
   ·rw [if_neg hi]
  rw [hsame] at a;subst a;exact aoB E x y r w m k d _ Q1 (by omega) hd p z (by omega) (by omega) (by omega) c n
def R_ (x y m k:Nat):St:=⟨[(13,.ref 0 0 0 m),(14,.sl (aj (ax (x / 16777216^k % y))) (ax (x / 16777216^k % y)).length false)],[(0,⟨aj (BB x y m k),0,false,0,1,true⟩)],.dead,[]⟩
theorem acv {nt:Nat} (c:87≤nt) (x y m:Nat) (e:0<y) (d:(ax x).length=m) (b:m<2^35) (a:(ax y).length<2^34):∀ k,k≤m→aC prog ap [] nt (af 0 (ai f150)) (fun _=> .exit 0) (Vh x y m) (R_ x y m) k 0:=by
 intro k
 induction k with
 |zero=>
  intro _;refine .done ?_;unfold R_;have h:=alj c x y (x / 16777216^0 % y) 0 0 0 0 m 0 0 (BB x y m 0);exact h
 |succ k ih=>exact fun f=> .next (acx c x y m k e d (by omega) b a) (ih (by omega))
theorem I8 {s:List UInt8}:(ax (ah s)).length≤s.length:=by
 apply tK;have h:=lD s;refine Φ h ?_;rw [show (16777216:Nat)=2^24 from rfl,← Xji];exact Ψ (by omega) (by omega)
theorem Kq (s t:List UInt8) (hs:s.length<2^33) (K:t.length<2^33) (v:0<ah t):CO 150 [.str s,.str t] (.ret (.tup [.str (ae (ah s / ah t)),.str (ae (ah s % ah t)),.bool true])):=by
 have H:=iH t (by omega);have b:=aH (ah t);have C:(ae (ah t)).length≤t.length:=nY (Δ _);have i:ae (ah t) ≠ []:=fun h=>by have:=ji.1 h;omega
 have D:0<(ae (ah t)).length:=by
  cases G:ae (ah t) with
  |nil=>exact absurd G i
  |cons _ _=>simp
 have e:((ae (ah t)).length=0)=False:=by simp;exact i
 have I:((7:Nat):Int)=7:=rfl;by_cases hb:ah s<2^(8*7)∧ah t<2^(8*7)
 ·have c:=iq s 7 (by omega) (by omega) hb.1;have a:=iq (ae (ah t)) 7 (by omega) (by omega) (by rw [b];exact hb.2);rw [b] at a;have w:ah s<9223372036854775808:=Φ hb.1 (by decide);have y:ah t<9223372036854775808:=Φ hb.2 (by decide);have L:=Xjw (ah s) (ah t);have N:=Nat.mod_le (ah s) (ah t);have M:=lX (ah s / ah t) (by omega);have J:=lX (ah s % ah t) (by omega);have h:=aoy s t (ah s) (ah t) (ah s / ah t) (ah s % ah t);have p:(ah t=0)=False:=by simp;omega
  clear hb hs;simp (disch:=first|omega|(simp [ay,az]<;>omega)) only [qK,p,decide_false,Xqf,e,fK,tC,bC,uV] at h;apply h<;>first|exact True.intro|omega|assumption|exact rfl
 ·have A:=CW s (by omega);have j:=CW (ae (ah t)) (by omega);rw [b] at j;have B:=I8 (s:=s);have E:=I8 (s:=t);have hloop:=fun nt (hn:87≤nt)=>acv hn (ah s) (ah t) _ v rfl (by omega) (by omega) _ (Δ _)
  have q:=yh (ah s) (ah t) (ax (ah s)).length 0;have u:dA (BB (ah s) (ah t) (ax (ah s)).length 0)=ah s / ah t:=acA (Xqk (Xjw _ _) (wG _));have m:=vO (BB (ah s) (ah t) (ax (ah s)).length 0) true (by omega) (acy _ _ _ _);rw [u,q] at m;have r:ah s / 16777216^0 % ah t=ah s % ah t:=by rw [Nat.pow_zero,Nat.div_one]
  have F:=rG (Xw0 (Xq3 (ah s) v));have l:=vO (ax (ah s % ah t)) false (by omega) (bz.dig _);rw [fB] at l;have k:ah s / 16777216^(ax (ah s)).length % ah t=0:=by rw [Xjc (wG _),Nat.zero_mod]
  have g:γ .i64 ((((ax (ah s)).length:Nat):Int) - ((1:Nat):Int))=((ax (ah s)).length:Int) - 1:=Fa (by omega);have d:R_ (ah s) (ah t) (ax (ah s)).length 0=⟨[(13,.ref 0 0 0 (ax (ah s)).length),(14,.sl (aj (ax (ah s % ah t))) (ax (ah s % ah t)).length false)],[(0,⟨aj (BB (ah s) (ah t) (ax (ah s)).length 0),0,false,0,1,true⟩)],.dead,[]⟩:=by unfold R_;rw [r]
  have x:(ax (ah s)).length<2^35:=by omega
  have f:ν (ax (ah s)).length (aj (BB (ah s) (ah t) (ax (ah s)).length 0))=aj (BB (ah s) (ah t) (ax (ah s)).length 0):=by rw [dQ,υ (by omega)]
  by_cases hx:ah s<2^(8*7)
  ·have z:2^(8*7)≤ah t:=by
    rcases Xxc (ah t) (2^(8*7)) with h|h
    ·exact absurd ⟨hx,h⟩ hb
    ·exact h
   have c:=iq s 7 (by omega) (by omega) hx;have a:=lm (ae (ah t)) 7 (by omega) (by rw [b];exact z);clear hb hx z;have h:=aox s t (ah s) 0 (ah s / ah t) (ah s % ah t) (ax (ah s)).length (BB (ah s) (ah t) (ax (ah s)).length 0) 0 true;rw [b] at h;simp (disch:=first|omega|(simp [ay,az]<;>omega)) only [eU,bJ,decide_true,qK,e,decide_false,fK,Xqf,aK,g,Ko,Ξ,f] at h;apply h<;>first|exact True.intro|omega|assumption|exact rfl|skip
   ·refine aC.blkF hloop (by simp) rfl ?_ (by rw [d];exact rf.refl _);unfold Vh;rw [IU,k,f_];exact rf.of ⟨aQ.refl _,aQ.refl _,aQ.refl _,aQ.nilS false rfl,aQ.refl _,trivial⟩
  ·have c:=lm s 7 (by omega) (Nat.le_of_not_lt hx);have a:∃ o n,CO 134 [.str (ae (ah t)),ω 7] (.ret (.tup [ω o,.bool n])):=by
    rcases Xxc (ah t) (2^(8*7)) with h|h
    ·exact ⟨_,_,iq (ae (ah t)) 7 (by omega) (by omega) (by rw [b];exact h)⟩
    ·exact ⟨_,_,lm (ae (ah t)) 7 (by omega) (by rw [b];exact h)⟩
   obtain ⟨o,n,a⟩:=a;clear hb hx;have h:=aow s t 0 0 (ah s / ah t) (ah s % ah t) (ax (ah s)).length (BB (ah s) (ah t) (ax (ah s)).length 0) o n;rw [b] at h;simp (disch:=first|omega|(simp [ay,az]<;>omega)) only [eU,bJ,decide_true,qK,e,decide_false,fK,Xqf,aK,g,Ko,Ξ,f] at h;apply h<;>first|exact True.intro|omega|assumption|exact rfl|skip
   ·refine aC.blkF hloop (by simp) rfl ?_ (by rw [d];exact rf.refl _);unfold Vh;rw [IU,k,f_];exact rf.of ⟨aQ.refl _,aQ.refl _,aQ.refl _,aQ.nilS false rfl,aQ.refl _,trivial⟩
theorem alI {nt:Nat} (c:25≤nt) (s t q r:List UInt8) (a:lit true (decide (((0:Nat):Int)<(((θ t):Nat):Int)))=true) (b:CO 150 [.str s,.str t] (.ret (.tup [.str q,.str r,.bool true]))):ψ nt f149 ⟨[(0,.str s),(1,.str t)],[],.dead,[]⟩ (.normal) ⟨[(0,.str t),(1,.str r)],[],.dead,[]⟩:=pJ 149 [] 1 1 (.c a .nil) (.c b .nil) c
theorem alJ {nt:Nat} (b:25≤nt) (s t q r:List UInt8) (a:lit false (decide (((0:Nat):Int)<(((θ t):Nat):Int)))=true):ψ nt f149 ⟨[(0,.str s),(1,.str t)],[],.dead,[]⟩ (.exit 0) ⟨[(0,.str s)],[],.dead,[]⟩:=pJ 149 [] 1 0 (.c a .nil) (.nil) b
theorem alG (s t g:List UInt8) (a:CO 133 [.str s] (.ret (.str (ae (ah s))))) (c:CO 133 [.str t] (.ret (.str (ae (ah t))))) (b:aN prog ap [] 25 (.block 0 (.loop (af 0 (ai f149)))) ⟨[(0,.str (ae (ah s))),(1,.str (ae (ah t))),(4,.str []),(6,.dead),(14,.dead)],[],.dead,[]⟩ (.normal) ⟨[(0,.str g)],[],.dead,[]⟩):CO 149 [.str s,.str t] (.ret (.str g)):=pK [0] 0 0 .nil (.l b (.c c (.c a .nil)))
def alH (p:Nat × Nat):St:=⟨[(0,.str (ae p.1)),(1,.str (ae p.2))],[],.dead,[]⟩
def aeb (x:Nat):St:=⟨[(0,.str (ae x))],[],.dead,[]⟩
theorem Vp {nt:Nat} (e:25≤nt):∀ (n y x:Nat),y<n→(ae x).length<2^33→(ae y).length<2^33→aC prog ap [] nt (af 0 (ai f149)) (fun _=> .exit 0) alH aeb (x,y) (Xx2 x y):=by
 intro n
 induction n with
 |zero=>intro y x h;omega
 | succ n ih=>
  intro y x h f d;rcases Xqg y with rfl|h0
  ·rw [Nat.gcd_zero_right];refine .done ?_;unfold alH aeb;rw [eF];exact alJ e (ae x) [] [] [] rfl
  ·have i:=Xq3 x h0;have g:(ae (x % y)).length<2^33:=by
    have:x % y≤ah (ae y):=by rw [aH];omega
    have:=nY this;omega
   have hnext:=ih (x % y) y (by omega) d g;rw [show Xx2 y (x % y)=Xx2 x y by rw [Xka y,← Nat.gcd_rec,Xka]] at hnext;refine .next ?_ hnext
   have b:=Kq (ae x) (ae y) f d (by rw [aH];exact h0);rw [aH,aH] at b;have c:ae y ≠ []:=fun h=>by have:=ji.1 h;omega
   have a:0<(ae y).length:=by
    cases b:ae y with
    |nil=>exact absurd b c
    |cons _ _=>simp
   exact alI e (ae x) (ae y) _ _ (by rw [bK,bU];exact Yq0 a) b
theorem Sv (s t:List UInt8) (hs:s.length<2^33) (c:t.length<2^33):CO 149 [.str s,.str t] (.ret (.str (ae (Xx2 (ah s) (ah t))))):=by
 have d:(ae (ah s)).length≤s.length:=nY (Δ _);have b:(ae (ah t)).length≤t.length:=nY (Δ _);exact alG s t _ (iH s (by omega)) (iH t (by omega)) (aC.blk (fun nt a=>Vp a (ah t+1) (ah t) (ah s) (by omega) (by omega) (by omega)) (by simp) rfl (aP.of ⟨rfl,rfl,trivial⟩) (aP.of ⟨rfl,trivial⟩))
theorem ak_ (a:Bool) (n d:List UInt8) (g:Nat) (b:lit true (!(nR n))=true) (c:CO 179 [.str n] (.ret (.bool (nR n)))) (e:CO 179 [.str d] (.ret (.bool (nR d)))):CO 137 [Ω a n d] (.ret (.bool false)):=pK [] 3 7 (.k 2 b (.n 2 .nil)) (.c e (.c c .nil))
theorem ala (a:Bool) (n d:List UInt8) (g:Nat) (b:lit true (!(nR d))=true) (f:lit false (!(nR n))=true) (c:CO 179 [.str n] (.ret (.bool (nR n)))) (e:CO 179 [.str d] (.ret (.bool (nR d)))):CO 137 [Ω a n d] (.ret (.bool false)):=pK [] 3 6 (.k 1 b (.c f (.n 2 .nil))) (.c e (.c c .nil))
theorem alb (a:Bool) (n d:List UInt8) (g:Nat) (b:lit true (d== [])=true) (h:lit false (!(nR d))=true) (c:lit false (!(nR n))=true) (e:CO 179 [.str n] (.ret (.bool (nR n)))) (f:CO 179 [.str d] (.ret (.bool (nR d)))):CO 137 [Ω a n d] (.ret (.bool false)):=pK [] 3 4 (.c b (.k 1 h (.c c (.n 2 .nil)))) (.c f (.c e .nil))
theorem alc (a:Bool) (n d:List UInt8) (g:Nat) (c:lit true (!a)=true) (k:lit true (n== [])=true) (e:lit false (d== [])=true) (b:lit false (!(nR d))=true) (i:lit false (!(nR n))=true) (f:CO 179 [.str n] (.ret (.bool (nR n)))) (h:CO 179 [.str d] (.ret (.bool (nR d)))) (j:CO 79 [ω 1] (.ret (.str (ae 1)))) (l:CO 101 [.str d,.str (ae 1)] (.ret (ω (mG (ah d) (ah (ae 1)))))):CO 137 [Ω a n d] (.ret (.bool ((mG (ah d) (ah (ae 1)))==((0:Nat):Int)))):=pK [] 5 24 (.k 1 c (.k 1 k (.k 1 e (.k 1 b (.c i (.n 2 .nil)))))) (.c l (.c j (.c h (.c f .nil))))
theorem ald (a:Bool) (n d:List UInt8) (g:Nat) (c:lit false (!a)=true) (j:lit true (n== [])=true) (e:lit false (d== [])=true) (b:lit false (!(nR d))=true) (i:lit false (!(nR n))=true) (f:CO 179 [.str n] (.ret (.bool (nR n)))) (h:CO 179 [.str d] (.ret (.bool (nR d)))):CO 137 [Ω a n d] (.ret (.bool false)):=pK [] 5 8 (.c c (.k 1 j (.k 1 e (.k 1 b (.c i (.n 2 .nil)))))) (.c h (.c f .nil))
theorem ale (a:Bool) (n d:List UInt8) (g:Nat) (c:lit false (n== [])=true) (k:lit false (d== [])=true) (e:lit false (!(nR d))=true) (b:lit false (!(nR n))=true) (f:CO 179 [.str n] (.ret (.bool (nR n)))) (h:CO 179 [.str d] (.ret (.bool (nR d)))) (j:CO 149 [.str n,.str d] (.ret (.str (ae g)))) (l:CO 79 [ω 1] (.ret (.str (ae 1)))) (i:CO 101 [.str (ae g),.str (ae 1)] (.ret (ω (mG (ah (ae g)) (ah (ae 1)))))):CO 137 [Ω a n d] (.ret (.bool ((mG (ah (ae g)) (ah (ae 1)))==((0:Nat):Int)))):=pK [] 4 0 (.k 2 c (.k 1 k (.k 1 e (.c b (.n 2 .nil))))) (.c i (.c l (.c j (.c h (.c f .nil)))))
theorem ak6 (a:Bool) (n d:List UInt8) (g:Nat) (b:lit true (n== [])=true) (c:CO 79 [ω 1] (.ret (.str (ae 1)))):CO 99 [.bool a,.str n,.str d] (.ret (Ω false [] (ae 1))):=pK [] 1 1 (.k 4 b .nil) (.c c .nil)
theorem ak7 (a:Bool) (n d:List UInt8) (g:Nat) (b:lit false (n== [])=true) (c:CO 149 [.str n,.str d] (.ret (.str (ae g)))) (f:CO 150 [.str n,.str (ae g)] (.ret (.tup [.str (ae (ah n / g)),.str (ae (ah n % g)),.bool true]))) (e:CO 150 [.str d,.str (ae g)] (.ret (.tup [.str (ae (ah d / g)),.str (ae (ah d % g)),.bool true]))):CO 99 [.bool a,.str n,.str d] (.ret (Ω a (ae (ah n / g)) (ae (ah d / g)))):=pK [] 1 0 (.k 4 b .nil) (.c e (.c f (.c c .nil)))
theorem alf (a:Bool) (n d:List UInt8) (b:lit true (!(je a n d))=true) (c:CO 137 [Ω a n d] (.ret (.bool (je a n d)))) (e:CO 79 [ω 1] (.ret (.str (ae 1)))):CO 98 [Ω a n d] (.ret (Ω false [] (ae 1))):=pK [] 1 1 (.k 4 b (.n 3 .nil)) (.c e (.c c .nil))
theorem alg (a:Bool) (n d:List UInt8) (b:lit false (!(je a n d))=true) (c:CO 137 [Ω a n d] (.ret (.bool (je a n d)))):CO 98 [Ω a n d] (.ret (Ω a n d)):=pK [] 1 0 (.k 7 b (.n 3 .nil)) (.c c .nil)
theorem ak8 (v:Int) (x z:Nat) (a:lit true (decide (((0:Nat):Int)≤v))=true) (b:CO 79 [ω v] (.ret (.str (ae z)))) (c:CO 79 [ω 1] (.ret (.str (ae 1)))):CO 48 [ω v] (.ret (Ω false (ae z) (ae 1))):=pK [] 1 1 (.k 4 a .nil) (.c c (.c b .nil))
theorem ak9 (v:Int) (x z:Nat) (a:lit false (decide (((0:Nat):Int)≤v))=true) (b:CO 79 [ω (γ .i64 (0 - (γ .i64 (v+((1:Nat):Int)))))] (.ret (.str (ae z)))) (d:CO 79 [ω 1] (.ret (.str (ae 1)))) (c:CO 80 [.str (ae z),.str (ae 1)] (.ret (.str (ae x)))) (e:CO 79 [ω 1] (.ret (.str (ae 1)))):CO 48 [ω v] (.ret (Ω true (ae x) (ae 1))):=pK [] 1 0 (.k 4 a .nil) (.c e (.c c (.c d (.c b .nil))))
theorem aha (s t:List UInt8) (x y z:Nat) (a:CO 134 [.str s,ω 7] (.ret (.tup [ω (x:Int),.bool true]))) (c:CO 134 [.str t,ω 7] (.ret (.tup [ω (y:Int),.bool true]))) (b:CO 79 [ω (γ .i64 ((x:Int)+(y:Int)))] (.ret (.str (ae z)))):CO 80 [.str s,.str t] (.ret (.str (ae z))):=pK [] 2 3 (.n 2 .nil) (.c b (.c c (.c a .nil)))
theorem ahb (s t:List UInt8) (x y z:Nat) (a:CO 134 [.str s,ω 3] (.ret (.tup [ω (x:Int),.bool true]))) (c:CO 134 [.str t,ω 4] (.ret (.tup [ω (y:Int),.bool true]))) (b:CO 79 [ω (γ .i64 ((x:Int)*(y:Int)))] (.ret (.str (ae z)))):CO 100 [.str s,.str t] (.ret (.str (ae z))):=pK [] 2 3 (.n 2 .nil) (.c b (.c c (.c a .nil)))
theorem Tu {x:Nat}:((mG x (ah (ae 1)))==((0:Nat):Int))=decide (x=1):=by
 rw [aH];unfold mG;rcases Xzf x 1 with h|h|h
 ·rw [if_pos h,Yq1 (by omega)];rfl
 ·rw [if_neg (by omega),if_neg (by omega),Yq0 h];rfl
 ·rw [if_neg (by omega),if_pos h,Yq1 (by omega)];rfl
theorem PQ (a:Bool) (n d:List UInt8) (x:n.length<2^33) (hd:d.length<2^33):CO 137 [Ω a n d] (.ret (.bool (je a n d))):=by
 have j:=YS n;have i:=YS d;have r:=lX 1 (by omega);have v:(ae 1).length≤1:=eu (by omega);have t:=J8 d (ae 1) (by omega) (by omega);have u:=Sv n d x hd;have m:=@Tu (ah d);cases b:nR n with
 |false=>
  have e:je a n d=false:=by unfold je;rw [b];rfl
  rw [e];exact ak_ a n d 0 (by rw [b];rfl) j i
 | true=>
  cases c:nR d with
  |false=>
   have e:je a n d=false:=by unfold je;rw [c];simp
   rw [e];exact ala a n d 0 (by rw [c];rfl) (by rw [b];rfl) j i
  | true=>
   have s:=(pq n).1 b;have q:=(pq d).1 c;by_cases hd0:d= []
   ·have e:je a n d=false:=by
     subst hd0;unfold je;simp [show ah []=0 from rfl]
    rw [e];exact alb a n d 0 (by rw [hd0];rfl) (by rw [c];rfl) (by rw [b];rfl) j i
   ·have k:0<ah d:=by
     rcases Xqg (ah d) with h|h
     ·rw [h,eF] at q;exact absurd q.symm hd0
     ·exact h
    have g:(d== [])=false:=by simpa using hd0
    by_cases hn0:n= []
    ·have f:(n== [])=true:=by simpa using hn0
     have p:ah n=0:=by rw [hn0];rfl
     cases a with
     | false=>
      have h:=alc false n d 0 rfl (by rw [f];rfl) (by rw [g];rfl) (by rw [c];rfl) (by rw [b];rfl) j i r t;rw [m] at h;have e:je false n d=decide (ah d=1):=by
       rw [Xx5,kW,p,Xwu];simp [b,c];omega
      rw [e];exact h
     | true=>
      have h:=ald true n d 0 rfl (by rw [f];rfl) (by rw [g];rfl) (by rw [c];rfl) (by rw [b];rfl) j i;have e:je true n d=false:=by
       rw [Bool.eq_false_iff];intro h;have:=(kW.1 h).2.2.2.2 rfl;omega
      rw [e];exact h
    ·have f:(n== [])=false:=by simpa using hn0
     have o:0<ah n:=by
      rcases Xqg (ah n) with h|h
      ·rw [h,eF] at s;exact absurd s.symm hn0
      ·exact h
     have w:(ae (Xx2 (ah n) (ah d))).length≤d.length:=nY (Xw3 _ k);have l:=J8 (ae (Xx2 (ah n) (ah d))) (ae 1) (by omega) (by omega);have h:=ale a n d (Xx2 (ah n) (ah d)) (by rw [f];rfl) (by rw [g];rfl) (by rw [c];rfl) (by rw [b];rfl) j i u r l;rw [Tu,aH] at h;have e:je a n d=decide (Xx2 (ah n) (ah d)=1):=by
      rw [Xx5,kW];simp [b,c,k,o]
     rw [e];exact h
structure RQ where
 neg:Bool
 n:Nat
 d:Nat
def RQ.ok (q:RQ):Prop:=0<q.d∧Xx2 q.n q.d=1∧(q.neg=true→0<q.n)
def qA (q:RQ):AV:= .agg [.bool q.neg,.str (ae q.n),.str (ae q.d)]
def q0:RQ:=⟨false,0,1⟩
def iK (neg:Bool) (n d:Nat):RQ:=⟨neg && decide (0<n),n / Xx2 n d,d / Xx2 n d⟩
def vQ (neg:Bool) (n d:List UInt8):RQ:=if je neg n d=true then ⟨neg,ah n,ah d⟩ else q0
theorem RZ:q0.ok:=⟨by decide,by decide,by simp [q0]⟩
theorem qP (q:RQ) (h:q.ok):je q.neg (ae q.n) (ae q.d)=true:=by
 rw [kW,aH,aH];exact ⟨zK _,zK _,h⟩
theorem Ri {a:Bool} {n d:List UInt8} (h:je a n d=true):Ω a n d=qA ⟨a,ah n,ah d⟩:=by
 obtain ⟨b,c,_⟩:=kW.1 h;unfold qA;rw [(pq n).1 b,(pq d).1 c]
theorem ny (a:Bool) (n d:List UInt8):(vQ a n d).ok:=by
 unfold vQ;split
 ·rename_i h;obtain ⟨_,_,b,c,e⟩:=kW.1 h;exact ⟨b,c,e⟩
 ·exact RZ
theorem nV {a:Bool} {n d:Nat} (h:0<d):(iK a n d).ok:=by
 have b:0<Xx2 n d:=Xj6 _ h;refine ⟨Xva (Xw3 _ h) b, ?_, ?_⟩
 ·show Xx2 (n / Xx2 n d) (d / Xx2 n d)=1;rw [Nat.gcd_div (Yqe _ _) (Xvq _ _),Yxr b]
 ·intro c;have:0<n:=by simp [iK] at c;exact c.2
  exact Xva (Nat.gcd_le_left _ this) b
theorem zW (a:Bool) (n d:List UInt8) (e:n.length<2^33) (hd:d.length<2^33):CO 98 [Ω a n d] (.ret (qA (vQ a n d))):=by
 have c:=PQ a n d e hd;unfold vQ;cases b:je a n d with
 |false=>
  have h:=alf a n d (by rw [b];rfl) c (lX 1 (by omega));rw [if_neg (by simp)];unfold qA q0;rw [eF];exact h
 |true=>
  have h:=alg a n d (by rw [b];rfl) c;rw [if_pos rfl,← Ri b];exact h
theorem zV (a:Bool) (n d:Nat) (i:(ae n).length<2^33) (hd:(ae d).length<2^33) (e:0<d):CO 99 [.bool a,.str (ae n),.str (ae d)] (.ret (qA (iK a n d))):=by
 have g:=Sv (ae n) (ae d) i hd;rw [aH,aH] at g;have b:0<Xx2 n d:=Xj6 _ e;have k:(ae (Xx2 n d)).length≤(ae d).length:=nY (by rw [aH];exact Xw3 _ e);have f:=Kq (ae n) (ae (Xx2 n d)) i (by omega) (by rw [aH];exact b);have j:=Kq (ae d) (ae (Xx2 n d)) hd (by omega) (by rw [aH];exact b);simp only [aH] at f j;rcases Xqg n with rfl|hp
 ·have h:=ak6 a (ae 0) (ae d) 0 (by rw [eF];rfl) (lX 1 (by omega));unfold qA iK;simp only [Xvx,decide_false,Bool.and_false,Xwu,Nat.zero_div,Yxr e,eF];rw [eF] at h;exact h
 ·have c:ae n ≠ []:=fun h=>by have:=ji.1 h;omega
  have h:=ak7 a (ae n) (ae d) (Xx2 n d) (by simp [lit,c]);simp only [aH] at h;unfold qA iK;simp only [hp,decide_true,Xw7];exact h g f j
def xh (q:RQ):Int:=if q.n=0 then 0 else if q.neg then -1 else 1
theorem Ze (a:Bool) (n d:List UInt8):sN a n d=xh (vQ a n d):=by
 unfold sN xh vQ;cases c:je a n d with
 |false=>simp [q0]
 | true=>
  simp only [true_and,if_true];by_cases h:0<ah n
  ·have b:¬ ah n=0:=by omega
   simp [h,b]
  ·have b:ah n=0:=by omega
   simp [b]
def qY (neg:Bool) (n d:List UInt8) (a:Nat):Bool:=((neg==false) && ((n==(ae a)) && ((d==(ae 1)) && true)))
theorem Nb (a:Nat) (b:a<9223372036854775808):CO 48 [ω (a:Int)] (.ret (Vk false a 1)):=
 ak8 (a:Int) 0 a (by simp [lit]) (lX a b) (lX 1 (by omega))
def Ue:List UInt8:= [97,98,99,100,101,102,103,104,105,106,107,108,109,110,111,112,113,114,115,116,117,118,119,120,121,122,48,49,50,51,52,53,54,55,56,57,95]
def Jf:List AV:= [.bool false,.bool false,.bool false,.bool false,.bool false,.bool false,.bool false,.bool false,.bool false,.bool false,.bool false,.bool false,.bool false,.bool false,.bool false,.bool false,.bool false,.bool false,.bool false,.bool false,.bool false,.bool false,.bool false,.bool false,.bool false,.bool false,.bool false,.bool false,.bool false,.bool false,.bool false,.bool false,.bool false,.bool false,.bool false,.bool false,.bool false,.bool false,.bool false,.bool false,.bool false,.bool false,.bool false,.bool false,.bool false,.bool false,.bool false,.bool false,.bool true,.bool true,.bool true,.bool true,.bool true,.bool true,.bool true,.bool true,.bool true,.bool true,.bool false,.bool false,.bool false,.bool false,.bool false,.bool false,.bool false,.bool false,.bool false,.bool false,.bool false,.bool false,.bool false,.bool false,.bool false,.bool false,.bool false,.bool false,.bool false,.bool false,.bool false,.bool false,.bool false,.bool false,.bool false,.bool false,.bool false,.bool false,.bool false,.bool false,.bool false,.bool false,.bool false,.bool false,.bool false,.bool false,.bool false,.bool true,.bool false,.bool true,.bool true,.bool true,.bool true,.bool true,.bool true,.bool true,.bool true,.bool true,.bool true,.bool true,.bool true,.bool true,.bool true,.bool true,.bool true,.bool true,.bool true,.bool true,.bool true,.bool true,.bool true,.bool true,.bool true,.bool true,.bool true,.bool false,.bool false,.bool false,.bool false,.bool false,.bool false,.bool false,.bool false,.bool false,.bool false,.bool false,.bool false,.bool false,.bool false,.bool false,.bool false,.bool false,.bool false,.bool false,.bool false,.bool false,.bool false,.bool false,.bool false,.bool false,.bool false,.bool false,.bool false,.bool false,.bool false,.bool false,.bool false,.bool false,.bool false,.bool false,.bool false,.bool false,.bool false,.bool false,.bool false,.bool false,.bool false,.bool false,.bool false,.bool false,.bool false,.bool false,.bool false,.bool false,.bool false,.bool false,.bool false,.bool false,.bool false,.bool false,.bool false,.bool false,.bool false,.bool false,.bool false,.bool false,.bool false,.bool false,.bool false,.bool false,.bool false,.bool false,.bool false,.bool false,.bool false,.bool false,.bool false,.bool false,.bool false,.bool false,.bool false,.bool false,.bool false,.bool false,.bool false,.bool false,.bool false,.bool false,.bool false,.bool false,.bool false,.bool false,.bool false,.bool false,.bool false,.bool false,.bool false,.bool false,.bool false,.bool false,.bool false,.bool false,.bool false,.bool false,.bool false,.bool false,.bool false,.bool false,.bool false,.bool false,.bool false,.bool false,.bool false,.bool false,.bool false,.bool false,.bool false,.bool false,.bool false,.bool false,.bool false,.bool false,.bool false,.bool false,.bool false,.bool false,.bool false,.bool false,.bool false,.bool false,.bool false,.bool false,.bool false,.bool false,.bool false,.bool false,.bool false,.bool false]
theorem aeF:CO 193 [.str Ue] (.ret (.tup [.agg Jf,.bool true])):=lQ vH (lf:=3000) (n:=4) (ans:= []) .nil (by kernel_rfl)
theorem aiR (xs:List AV) (c:Nat) (a:(chk .bool (ζ (ε (0+((δ (c:Int))*1)) xs) .dead))=true) (d:(decide (((0:Nat):Int)≤(c:Int)))=true) (b:(decide ((c:Int)<((256:Nat):Int)))=true):CO 212 [.pp xs 0,.int .u8 (c:Int)] (.ret (.bool (Xkd (ζ (ε (0+((δ (c:Int))*1)) xs) .dead)))):=pK [] 0 0 (.c a (.c d (.c b .nil))) (.nil)
theorem ao7 {nt:Nat} (f:16≤nt) (s:List UInt8) (xs:List AV) (b:Bool) (a:lit true (!b)=true) (e:(decide (((0:Nat):Int)<(((θ s):Nat):Int)))=true) (c:lit true (decide (((0:Nat):Int)<(((θ s):Nat):Int)))=true) (d:CO 212 [.pp xs 0,.int .u8 ((Xxs (Xjf s 0 0):Nat):Int)] (.ret (.bool b))):ψ nt f194 ⟨[(0,.str s),(1,.pp xs 0)],[],.dead,[]⟩ (.exit 0) ⟨[(0,.str s)],[],.dead,[]⟩:=pJ 194 [] 2 3 (.c a (.k 1 e (.c c .nil))) (.c d .nil) f
theorem ao8 {nt:Nat} (h:16≤nt) (s:List UInt8) (xs:List AV) (b:Bool) (c:(decide (((1:Nat):Int)≤(((θ s):Nat):Int)))=true) (g:(decide ((((θ s):Nat):Int)≤(((θ s):Nat):Int)))=true) (d:lit false (!b)=true) (a:(decide (((0:Nat):Int)<(((θ s):Nat):Int)))=true) (f:lit true (decide (((0:Nat):Int)<(((θ s):Nat):Int)))=true) (e:CO 212 [.pp xs 0,.int .u8 ((Xxs (Xjf s 0 0):Nat):Int)] (.ret (.bool b))):ψ nt f194 ⟨[(0,.str s),(1,.pp xs 0)],[],.dead,[]⟩ (.normal) ⟨[(0,.str (ε 1 (ν (δ (((θ s):Nat):Int)) s))),(1,.pp xs 0)],[],.dead,[]⟩:=pJ 194 [] 2 1 (.k 1 c (.c g (.c d (.k 1 a (.c f .nil))))) (.c e .nil) h
theorem ao9 {nt:Nat} (c:16≤nt) (s:List UInt8) (xs:List AV) (b:Bool) (a:lit false (decide (((0:Nat):Int)<(((θ s):Nat):Int)))=true):ψ nt f194 ⟨[(0,.str s),(1,.pp xs 0)],[],.dead,[]⟩ (.exit 0) ⟨[(0,.str s)],[],.dead,[]⟩:=pJ 194 [] 1 0 (.c a .nil) (.nil) c
theorem amM (s r:List UInt8) (xs:List AV) (a:aN prog ap [] 16 (.block 0 (.loop (af 0 (ai f194)))) ⟨[(0,.str s),(1,.pp xs 0),(4,.str []),(7,.dead),(12,.dead)],[],.dead,[]⟩ (.normal) ⟨[(0,.str r)],[],.dead,[]⟩):CO 194 [.str s,.pp xs 0] (.ret (.str r)):=pK [0] 0 0 .nil (.l a .nil)
theorem ao_ {nt:Nat} (g:22≤nt) (s:List UInt8) (xs:List AV) (b:Bool) (c:lit true (!b)=true) (f:(decide (((0:Nat):Int)≤(γ .i64 ((((θ s):Nat):Int) - ((1:Nat):Int)))))=true) (d:(decide ((γ .i64 ((((θ s):Nat):Int) - ((1:Nat):Int)))<(((θ s):Nat):Int)))=true) (a:lit true (decide (((0:Nat):Int)<(((θ s):Nat):Int)))=true) (e:CO 212 [.pp xs 0,.int .u8 ((Xxs (Xjf s (δ (γ .i64 ((((θ s):Nat):Int) - ((1:Nat):Int)))) 0):Nat):Int)] (.ret (.bool b))):ψ nt f197 ⟨[(0,.str s),(1,.pp xs 0)],[],.dead,[]⟩ (.exit 0) ⟨[(0,.str s)],[],.dead,[]⟩:=pJ 197 [] 2 3 (.c c (.c f (.c d (.c a .nil)))) (.c e .nil) g
theorem apa {nt:Nat} (h:22≤nt) (s:List UInt8) (xs:List AV) (b:Bool) (a:(decide (((0:Nat):Int)≤(γ .i64 ((((θ s):Nat):Int) - ((1:Nat):Int)))))=true) (g:(decide ((γ .i64 ((((θ s):Nat):Int) - ((1:Nat):Int)))≤(((θ s):Nat):Int)))=true) (d:lit false (!b)=true) (c:(decide ((γ .i64 ((((θ s):Nat):Int) - ((1:Nat):Int)))<(((θ s):Nat):Int)))=true) (f:lit true (decide (((0:Nat):Int)<(((θ s):Nat):Int)))=true) (e:CO 212 [.pp xs 0,.int .u8 ((Xxs (Xjf s (δ (γ .i64 ((((θ s):Nat):Int) - ((1:Nat):Int)))) 0):Nat):Int)] (.ret (.bool b))):ψ nt f197 ⟨[(0,.str s),(1,.pp xs 0)],[],.dead,[]⟩ (.normal) ⟨[(0,.str (ε 0 (ν (δ (γ .i64 ((((θ s):Nat):Int) - ((1:Nat):Int)))) s))),(1,.pp xs 0)],[],.dead,[]⟩:=pJ 197 [] 2 1 (.k 1 a (.c g (.c d (.c a (.c c (.c f .nil)))))) (.c e .nil) h
theorem apb {nt:Nat} (c:22≤nt) (s:List UInt8) (xs:List AV) (b:Bool) (a:lit false (decide (((0:Nat):Int)<(((θ s):Nat):Int)))=true):ψ nt f197 ⟨[(0,.str s),(1,.pp xs 0)],[],.dead,[]⟩ (.exit 0) ⟨[(0,.str s)],[],.dead,[]⟩:=pJ 197 [] 1 0 (.c a .nil) (.nil) c
theorem amQ (s r:List UInt8) (xs:List AV) (a:aN prog ap [] 22 (.block 0 (.loop (af 0 (ai f197)))) ⟨[(0,.str s),(1,.pp xs 0),(4,.str []),(7,.dead),(15,.dead)],[],.dead,[]⟩ (.normal) ⟨[(0,.str r)],[],.dead,[]⟩):CO 197 [.str s,.pp xs 0] (.ret (.str r)):=pK [0] 0 0 .nil (.l a .nil)
def aeD:List Bool:= [false,false,false,false,false,false,false,false,false,false,false,false,false,false,false,false,false,false,false,false,false,false,false,false,false,false,false,false,false,false,false,false,false,false,false,false,false,false,false,false,false,false,false,false,false,false,false,false,true,true,true,true,true,true,true,true,true,true,false,false,false,false,false,false,false,false,false,false,false,false,false,false,false,false,false,false,false,false,false,false,false,false,false,false,false,false,false,false,false,false,false,false,false,false,false,true,false,true,true,true,true,true,true,true,true,true,true,true,true,true,true,true,true,true,true,true,true,true,true,true,true,true,true,false,false,false,false,false,false,false,false,false,false,false,false,false,false,false,false,false,false,false,false,false,false,false,false,false,false,false,false,false,false,false,false,false,false,false,false,false,false,false,false,false,false,false,false,false,false,false,false,false,false,false,false,false,false,false,false,false,false,false,false,false,false,false,false,false,false,false,false,false,false,false,false,false,false,false,false,false,false,false,false,false,false,false,false,false,false,false,false,false,false,false,false,false,false,false,false,false,false,false,false,false,false,false,false,false,false,false,false,false,false,false,false,false,false,false,false,false,false,false,false,false,false,false,false,false,false,false,false,false,false,false,false,false]
theorem aeE:Jf=aeD.map AV.bool:=rfl
def inN (c:Nat):Bool:=(decide (97≤c) && decide (c≤122))||(decide (48≤c) && decide (c≤57))||decide (c=95)
def jb (c:UInt8):Bool:=inN c.toNat
theorem aag:∀ i:Fin 256,aeD.getD i.val false=inN i.val:=by decide
theorem WO (c:UInt8):CO 212 [.pp Jf 0,.int .u8 (c.toNat:Int)] (.ret (.bool (jb c))):=by
 have b:c.toNat<256:=Xkl c;have e:aeD.length=256:=by decide
 have d:ζ (ε c.toNat Jf) .dead= .bool (jb c):=by
  have a:=aag ⟨c.toNat,b⟩;simp only at a;rw [aeE,← Xju,List.drop_eq_getElem_cons (by omega),Xqb,Xjl];rw [κ,π (by omega)] at a;unfold jb;rw [← a];rfl
 have h:=aiR Jf c.toNat;rw [aK,Xqd,Ξ,d] at h;exact h rfl (by rw [eU];exact Yq0 (by omega)) (by rw [bK];exact Yq0 b)
def amk (s:List UInt8):St:=⟨[(0,.str s),(1,.pp Jf 0)],[],.dead,[]⟩
def aed (s:List UInt8):St:=⟨[(0,.str s)],[],.dead,[]⟩
theorem adp {nt:Nat} (a:16≤nt):∀ (s:List UInt8),s.length<2^40→aC prog ap [] nt (af 0 (ai f194)) (fun _=> .exit 0) amk aed s (s.dropWhile jb):=by
 intro s
 induction s with
 |nil=>exact fun _=> .done (ao9 a [] Jf true rfl)
 | cons c s ih=>
  intro e;simp only [ξ] at e;rw [Xja];have b:=WO c;cases d:jb c with
  |true=>
   rw [d] at b;refine .next ?_ (by simpa using ih (by omega))
   have h:=ao8 a (c::s) Jf true;have f:ε 1 (ν (s.length+1) (c::s))=s:=by simp
   simp only [ξ,Xzg] at h;simp (disch:=first|omega|(simp [ay,az]<;>omega)) only [eU,bJ,Xqq,fK,Xqf,bK,bU,aK,f] at h;apply h<;>first|exact True.intro|omega|assumption|exact rfl
  |false=>
   rw [d] at b;refine .done ?_;have h:=ao7 a (c::s) Jf false;simp only [ξ,Xzg] at h;simp (disch:=first|omega|(simp [ay,az]<;>omega)) only [Xqf,bU,bK,bJ] at h;apply h<;>first|exact True.intro|omega|assumption|exact rfl
def Zz (s:List UInt8):List UInt8:=(s.reverse.dropWhile jb).reverse
theorem ZA (s:List UInt8) (c:UInt8):Zz (s++ [c])=if jb c=true then Zz s else s++ [c]:=by
 unfold Zz;rw [List.reverse_append];simp only [List.reverse_cons,List.reverse_nil,Xqi,Xqu,Xja];by_cases h:jb c=true
 ·simp [h]
 ·simp [h]
theorem adw {nt:Nat} (d:22≤nt):∀ (k:Nat) (s:List UInt8),s.length=k→k<2^40→aC prog ap [] nt (af 0 (ai f197)) (fun _=> .exit 0) amk aed s (Zz s):=by
 intro k
 induction k with
 |zero=>
  intro s hs _;have:s= []:=Xxo hs;subst this;exact .done (apb d [] Jf true rfl)
 | succ k ih=>
  intro s hs j;rcases List.eq_nil_or_concat s with rfl|⟨s',c,rfl⟩
  ·simp at hs
  ·rw [List.concat_eq_append] at hs ⊢;have a:s'.length=k:=by simpa using hs
   rw [ZA];have e:=WO c;have f:(s'++ [c]).getD s'.length 0=c:=by simp
   have i:s'.length+1 - 1=s'.length:=rfl;have b:ν s'.length (s'++ [c])=s':=by simp
   cases g:jb c with
   |true=>
    rw [g] at e;rw [if_pos rfl];refine .next ?_ (ih s' a (by omega))
    have h:=apa d (s'++ [c]) Jf true;simp (disch:=first|omega|(simp [ay,az]<;>omega)) only [η,ξ,Xqa,Xqd,jU,i,eU,bJ,Xqq,fK,Xqf,bK,bU,aK,f,b,Xjr] at h;apply h<;>first|exact True.intro|omega|assumption|exact rfl
   |false=>
    rw [g] at e;rw [if_neg (by simp)];refine .done ?_;have h:=ao_ d (s'++ [c]) Jf false;simp (disch:=first|omega|(simp [ay,az]<;>omega)) only [Xqf,bU,η,ξ,Xqa,Xqd,jU,i,eU,bJ,bK,aK,f] at h;apply h<;>first|exact True.intro|omega|assumption|exact rfl
theorem adx (s u v:List UInt8) (a:lit true (s== [])=true):CO 164 [.str s,.str Ue] (.ret (.str s)):=pK [] 2 3 (.k 1 a .nil) (.nil)
theorem ady (s u v:List UInt8) (a:lit false (s== [])=true) (b:CO 193 [.str Ue] (.ret (.tup [.agg Jf,.bool true]))) (d:CO 197 [.str s,.pp Jf 0] (.ret (.str u))) (c:CO 194 [.str u,.pp Jf 0] (.ret (.str v))):CO 164 [.str s,.str Ue] (.ret (.str v)):=pK [] 5 16 (.k 5 a .nil) (.c c (.c d (.c b .nil)))
theorem abY (s v:List UInt8) (a:lit true (s== [])=true):CO 122 [.str s] (.ret (.bool false)):=pK [] 4 15 (.k 3 a .nil) (.nil)
theorem abZ (s v:List UInt8) (b:lit true (decide (((20:Nat):Int)<(((θ s):Nat):Int)))=true) (a:lit false (s== [])=true):CO 122 [.str s] (.ret (.bool false)):=pK [] 4 14 (.k 2 b (.c a .nil)) (.nil)
theorem ab1 (s v:List UInt8) (b:lit true (decide (((Xxs (Xjf s 0 0):Nat):Int)<((97:Nat):Int)))=true) (d:(decide (((0:Nat):Int)<(((θ s):Nat):Int)))=true) (c:lit false (decide (((20:Nat):Int)<(((θ s):Nat):Int)))=true) (a:lit false (s== [])=true):CO 122 [.str s] (.ret (.bool false)):=pK [] 4 12 (.k 1 b (.k 1 d (.c c (.c a .nil)))) (.nil)
theorem ab2 (s v:List UInt8) (c:lit true (decide (((122:Nat):Int)<((Xxs (Xjf s 0 0):Nat):Int)))=true) (a:(decide (((0:Nat):Int)<(((θ s):Nat):Int)))=true) (d:lit false (decide (((Xxs (Xjf s 0 0):Nat):Int)<((97:Nat):Int)))=true) (b:lit false (decide (((20:Nat):Int)<(((θ s):Nat):Int)))=true) (e:lit false (s== [])=true):CO 122 [.str s] (.ret (.bool false)):=pK [] 4 8 (.c c (.k 1 a (.c d (.k 1 a (.c b (.c e .nil)))))) (.nil)
theorem ab3 (s v:List UInt8) (c:lit false (decide (((122:Nat):Int)<((Xxs (Xjf s 0 0):Nat):Int)))=true) (a:(decide (((0:Nat):Int)<(((θ s):Nat):Int)))=true) (d:lit false (decide (((Xxs (Xjf s 0 0):Nat):Int)<((97:Nat):Int)))=true) (b:lit false (decide (((20:Nat):Int)<(((θ s):Nat):Int)))=true) (f:lit false (s== [])=true) (e:CO 164 [.str s,.str Ue] (.ret (.str v))):CO 122 [.str s] (.ret (.bool (v== []))):=pK [] 4 0 (.c c (.k 1 a (.c d (.k 1 a (.c b (.c f .nil)))))) (.c e .nil)
def CP (s:List UInt8):Bool:= !(s== []) && decide (s.length≤20) && decide (97≤(s.getD 0 0).toNat) && decide ((s.getD 0 0).toNat≤122) && s.all jb
theorem Jp {p:UInt8→Bool}:∀ {l:List UInt8},l.dropWhile p= []↔∀ x ∈ l,p x=true
 | []=>by simp
 |c::l=>by
  rw [Xja];cases h:p c with
  |true=>simp [h,Jp (l:=l)]
  |false=>simp [h]
theorem ZE {s:List UInt8}:(Zz s).dropWhile jb= []↔s.all jb=true:=by
 unfold Zz;rw [Xjz];constructor
 ·intro h;have f:∀ x ∈ (s.reverse.dropWhile jb),jb x=true:=by
   intro x a;exact Jp.1 h x (by simpa using a)
  have c:s.reverse.dropWhile jb= []:=by
   cases hd:s.reverse.dropWhile jb with
   |nil=>rfl
   | cons y r=>
    exfalso;have b:=f y (by rw [hd];simp);have d:∀ (l:List UInt8),l.dropWhile jb=y::r→jb y=false:=by
     intro l
     induction l with
     |nil=>intro h;simp at h
     | cons z l ih=>
      intro h;rw [Xja] at h;split at h
      ·exact ih h
      ·rename_i e;cases h;simpa using e
    rw [d _ hd] at b;cases b
  intro x a;exact Jp.1 c x (by simpa using a)
 ·intro h;have:s.reverse.dropWhile jb= []:=Jp.2 fun x a=>h x (by simpa using a)
  rw [this];rfl
theorem ahx (s:List UInt8) (hs:s.length<2^40):CO 194 [.str s,.pp Jf 0] (.ret (.str (s.dropWhile jb))):=
 amM s _ Jf (aC.blk (fun nt a=>adp a s hs) (by simp) rfl (aP.of ⟨rfl,rfl,trivial⟩) (aP.of ⟨rfl,trivial⟩))
theorem ahy (s:List UInt8) (hs:s.length<2^40):CO 197 [.str s,.pp Jf 0] (.ret (.str (Zz s))):=
 amQ s _ Jf (aC.blk (fun nt a=>adw a _ s rfl hs) (by simp) rfl (aP.of ⟨rfl,rfl,trivial⟩) (aP.of ⟨rfl,trivial⟩))
theorem adv (s:List UInt8):(Zz s).length≤s.length:=by
 unfold Zz;rw [List.length_reverse];have:=(List.dropWhile_sublist jb (l:=s.reverse)).length_le;simpa using this
theorem adz (s:List UInt8) (hs:s.length<2^40):CO 164 [.str s,.str Ue] (.ret (.str ((Zz s).dropWhile jb))):=by
 by_cases h:s= []
 ·subst h;exact adx [] [] [] rfl
 ·have a:=adv s;exact ady s _ _ (by simp [lit,h]) aeF (ahy s hs) (ahx _ (by omega))
theorem mi (s:List UInt8):CO 122 [.str s] (.ret (.bool (CP s))):=by
 unfold CP;by_cases h0:s= []
 ·subst h0;exact abY [] [] rfl
 ·have a:(s== [])=false:=by simpa using h0
  have b:0<s.length:=by cases s with|nil=>exact absurd rfl h0|cons _ _=>simp
  rw [a];by_cases h1:s.length≤20
  ·have c:lit false (decide (((20:Nat):Int)<(s.length:Int)))=true:=by rw [bK];simp [lit,h1]
   have cl:decide (((0:Nat):Int)<(s.length:Int))=true:=by rw [bK];exact Yq0 b
   rw [Yq0 h1];by_cases h2:97≤(s.getD 0 0).toNat
   ·rw [Yq0 h2];have d:lit false (decide (((s.getD 0 0).toNat:Int)<((97:Nat):Int)))=true:=by rw [bK];simp only [lit,Xqw];exact Yq1 (by omega)
    by_cases h3:(s.getD 0 0).toNat≤122
    ·rw [Yq0 h3];have f:lit false (decide (((122:Nat):Int)<((s.getD 0 0).toNat:Int)))=true:=by rw [bK];simp only [lit,Xqw];exact Yq1 (by omega)
     have h:=ab3 s _ f cl d c (by rw [a];rfl) (adz s (by omega));have e:((Zz s).dropWhile jb== [])=s.all jb:=by
      rw [Xx5,← ZE];simp
     rw [e] at h;exact h
    ·rw [Yq1 h3];exact ab2 s [] (by rw [bK];exact Yq0 (by omega)) cl d c (by rw [a];rfl)
   ·rw [Yq1 h2];exact ab1 s [] (by rw [bK];exact Yq0 (by omega)) cl c (by rw [a];rfl)
  ·rw [Yq1 h1];exact abZ s [] (by rw [bK];exact Yq0 (by omega)) (by rw [a];rfl)
def jO:List AV:= [.str [],ω 0,.bool false,.bool false,.bool false,.str [36],ω 0,.bool true,.bool false,.bool false,.str [],ω 0,.bool true,.bool false,.bool false,.str [],ω 0,.bool true,.bool false,.bool false,.str [],ω 0,.bool true,.bool false,.bool false,.str [102,97,99,116,46],ω 0,.bool false,.bool true,.bool false,.str [111,119,110,46],ω 0,.bool false,.bool true,.bool false,.str [112,114,105,111,114,46],ω 0,.bool false,.bool true,.bool false,.str [115,112,111,117,115,101,46],ω 0,.bool false,.bool true,.bool false,.str [97,100,100],ω 2,.bool false,.bool false,.bool false,.str [115,117,98],ω 2,.bool false,.bool false,.bool false,.str [109,117,108],ω 2,.bool false,.bool false,.bool false,.str [100,105,118],ω 2,.bool false,.bool false,.bool false,.str [109,105,110],ω 2,.bool false,.bool false,.bool false,.str [109,97,120],ω 2,.bool false,.bool false,.bool false,.str [105,102],ω 3,.bool false,.bool false,.bool false,.str [108,101,115,115],ω 2,.bool false,.bool false,.bool false,.str [101,113,117,97,108],ω 2,.bool false,.bool false,.bool false,.str [97,110,100],ω 2,.bool false,.bool false,.bool false,.str [111,114],ω 2,.bool false,.bool false,.bool false,.str [110,111,116],ω 1,.bool false,.bool false,.bool false,.str [100,111,119,110],ω 1,.bool false,.bool false,.bool true,.str [117,112],ω 1,.bool false,.bool false,.bool true,.str [110,101,97,114],ω 1,.bool false,.bool false,.bool true,.str [114,97,116,101,46],ω 1,.bool false,.bool true,.bool false]
theorem akK (op:Int) (a:lit true (decide (op<((1:Nat):Int)))=true):CO 120 [ω op] (.ret (.tup [.agg zcc2_0,.bool false])):=pK [] 2 3 (.k 7 a .nil) (.nil)
theorem akL (op:Int) (b:lit true (decide (((24:Nat):Int)<op))=true) (a:lit false (decide (op<((1:Nat):Int)))=true):CO 120 [ω op] (.ret (.tup [.agg zcc2_0,.bool false])):=pK [] 2 2 (.k 6 b (.c a .nil)) (.nil)
theorem akM (op:Int) (d:(chk .str (ζ (ε (0+((δ op)*5)) jO) .dead))=true) (i:(chk (.int .i64) (ζ (Xjy (ε (0+((δ op)*5)) jO)) .dead))=true) (e:(chk .bool (ζ (Xjy (Xjy (ε (0+((δ op)*5)) jO))) .dead))=true) (b:(chk .bool (ζ (Xjy (Xjy (Xjy (ε (0+((δ op)*5)) jO)))) .dead))=true) (g:(chk .bool (ζ (Xjy (Xjy (Xjy (Xjy (ε (0+((δ op)*5)) jO))))) .dead))=true) (h:(decide (((0:Nat):Int)≤op))=true) (a:(decide (op<((25:Nat):Int)))=true) (c:lit false (decide (((24:Nat):Int)<op))=true) (f:lit false (decide (op<((1:Nat):Int)))=true):CO 120 [ω op] (.ret (.tup [.agg [.str (AV.toStr (ζ (ε (0+((δ op)*5)) jO) .dead)),ω (χ (ζ (Xjy (ε (0+((δ op)*5)) jO)) .dead)),.bool (Xkd (ζ (Xjy (Xjy (ε (0+((δ op)*5)) jO))) .dead)),.bool (Xkd (ζ (Xjy (Xjy (Xjy (ε (0+((δ op)*5)) jO)))) .dead)),.bool (Xkd (ζ (Xjy (Xjy (Xjy (Xjy (ε (0+((δ op)*5)) jO))))) .dead))],.bool true])):=pK [] 2 0 (.k 6 d (.c i (.c e (.c b (.c g (.c h (.c a (.c c (.c f .nil))))))))) (.nil)
def dM (op:Int):Nat:=if op=15 then 3 else if (9≤op∧op≤14)∨(16≤op∧op≤19) then 2 else if 20≤op∧op≤24 then 1 else 0
def dX (op:Int):Bool:=decide ((5≤op∧op≤8)∨op=24)
def Pm (op:Int):Bool:=decide (1≤op∧op≤4)
def Qb (op:Int):Bool:=decide (21≤op∧op≤23)
def ZN (op:Int):List UInt8:=AV.toStr (ζ (ε (0+((δ op)*5)) jO) .dead)
theorem zS {op:Int} (h:1≤op) (a:op≤24):op=1∨op=2∨op=3∨op=4∨op=5∨op=6∨op=7∨op=8∨op=9∨op=10∨op=11∨op=12∨op=13∨op=14∨op=15∨op=16∨op=17∨op=18∨op=19∨op=20∨op=21∨op=22∨op=23∨op=24:=by omega
abbrev shA (op:Int):AV:= .agg [.str (ZN op),ω ((dM op:Nat):Int),.bool (Pm op),.bool (dX op),.bool (Qb op)]
theorem akS {op:Int} (h:1≤op) (a:op≤24):CO 120 [ω op] (.ret (.tup [shA op,.bool true])):=by
 rcases zS h a with rfl|rfl|rfl|rfl|rfl|rfl|rfl|rfl|rfl|rfl|rfl|rfl|rfl|rfl|rfl|rfl|rfl|rfl|rfl|rfl|rfl|rfl|rfl|rfl
 all_goals exact akM _ rfl rfl rfl rfl rfl rfl rfl rfl rfl
theorem agq {op:Int} (h:op<1∨24<op):CO 120 [ω op] (.ret (.tup [.agg zcc2_0,.bool false])):=by
 by_cases h1:op<1
 ·exact akK op (by simp [lit];omega)
 ·exact akL op (by simp [lit];omega) (by simp [lit];omega)
theorem Qh {op:Int} (h:1≤op) (a:op≤24):ζ (ε (op.toNat*5+1) jO) .dead= ω ((dM op:Nat):Int):=by
 rcases zS h a with rfl|rfl|rfl|rfl|rfl|rfl|rfl|rfl|rfl|rfl|rfl|rfl|rfl|rfl|rfl|rfl|rfl|rfl|rfl|rfl|rfl|rfl|rfl|rfl
 all_goals rfl
def inI (op:Int):Bool:=decide (1≤op∧op≤24)
theorem cZ (op:Int):CO 120 [ω op] (.ret (.tup [shA op,.bool (inI op)])):=by
 by_cases h:1≤op∧op≤24
 ·have e:inI op=true:=Yq0 h;rw [e];exact akS h.1 h.2
 ·have e:inI op=false:=Yq1 h;have f:dM op=0:=by unfold dM;(repeat' split)<;>omega
  have c:Pm op=false:=by unfold Pm;rw [decide_eq_false_iff_not];omega
  have d:dX op=false:=by unfold dX;rw [decide_eq_false_iff_not];omega
  have a:Qb op=false:=by unfold Qb;rw [decide_eq_false_iff_not];omega
  have b:ZN op= []:=by
   unfold ZN;by_cases h1:op<1
   ·have:op.toNat=0:=by omega
    rw [this];rfl
   ·have g:jO.length=125:=by decide
    rw [Xx8 (by omega)];rfl
  unfold shA;rw [e,f,c,d,a,b];exact agq (by omega)
structure Nd where
 op:Int
 neg:Bool
 num:List UInt8
 den:List UInt8
 name:List UInt8
def qB (x:Nd):List AV:= [ω x.op,.bool x.neg,.str x.num,.str x.den,.str x.name]
def Nd.sm (x:Nd):Prop:=x.num.length<2^33∧x.den.length<2^33
def jo (x:Nd):Bool:=cond (x.op==((4:Nat):Int)) (qY x.neg x.num x.den 0||qY x.neg x.num x.den 1) (cond (Pm x.op) (fF x.neg x.num x.den) (cond (Qb x.op) (fF x.neg x.num x.den && decide (((0:Nat):Int)<sN x.neg x.num x.den)) ((x.neg==false) && ((x.num== []) && ((x.den== []) && true)))))
def aO (x:Nd):Int:=cond (!inI x.op||(!dX x.op && !(x.name== []))) 11 (cond (!jo x) 11 (cond (dX x.op && !CP x.name) 12 0))
theorem ZO (x:Nd) (c:x.sm):CO 73 [.agg (qB x)] (.ret (ω (aO x))):=by
 have b:x.num.length<2^36:=Xqz c.1 (by decide);have a:x.den.length<2^36:=Xqz c.2 (by decide);rcases tf (inI x.op) with b0|b0
 ·rcases tf (dX x.op) with b1|b1
  ·rcases tf (x.op==((4:Nat):Int)) with b2|b2
   ·rcases tf ((x.neg==false) && ((x.num==(ae 0)) && ((x.den==(ae 1)) && true))) with b3|b3
    ·rcases tf (CP x.name) with b4|b4
     ·rw [show aO x=0 by simp only [aO,jo,qY,b0,b1,b2,b3,b4]<;>rfl];exact pK [] 8 88 (.c (aV b4) (.k 1 (aA b1) (.k 2 (aA b3) (.k 3 (aA b2) (.k 2 (aV b1) (.k 1 (aV b0) (.n 2 .nil))))))) (.c (mi x.name) (.c (iY) (.c (cZ x.op) .nil)))
     ·rw [show aO x=12 by simp only [aO,jo,qY,b0,b1,b2,b3,b4]<;>rfl];exact pK [] 8 216 (.c (di b4) (.k 1 (aA b1) (.k 2 (aA b3) (.k 3 (aA b2) (.k 2 (aV b1) (.k 1 (aV b0) (.n 2 .nil))))))) (.c (mi x.name) (.c (iY) (.c (cZ x.op) .nil)))
    ·rcases tf ((x.neg==false) && ((x.num==(ae 1)) && ((x.den==(ae 1)) && true))) with b4|b4
     ·rcases tf (CP x.name) with b5|b5
      ·rw [show aO x=0 by simp only [aO,jo,qY,b0,b1,b2,b3,b4,b5]<;>rfl];exact pK [] 8 72 (.c (aV b5) (.k 1 (aA b1) (.k 1 (aV b4) (.k 3 (aF b3) (.k 3 (aA b2) (.k 2 (aV b1) (.k 1 (aV b0) (.n 2 .nil)))))))) (.c (mi x.name) (.c (uo) (.c (iY) (.c (cZ x.op) .nil))))
      ·rw [show aO x=12 by simp only [aO,jo,qY,b0,b1,b2,b3,b4,b5]<;>rfl];exact pK [] 8 200 (.c (di b5) (.k 1 (aA b1) (.k 1 (aV b4) (.k 3 (aF b3) (.k 3 (aA b2) (.k 2 (aV b1) (.k 1 (aV b0) (.n 2 .nil)))))))) (.c (mi x.name) (.c (uo) (.c (iY) (.c (cZ x.op) .nil))))
     ·rw [show aO x=11 by simp only [aO,jo,qY,b0,b1,b2,b3,b4]<;>rfl];exact pK [] 6 40 (.c (di b4) (.k 3 (aF b3) (.k 3 (aA b2) (.k 2 (aV b1) (.k 1 (aV b0) (.n 2 .nil)))))) (.c (uo) (.c (iY) (.c (cZ x.op) .nil)))
   ·rcases tf (Pm x.op) with b3|b3
    ·rcases tf (fF x.neg x.num x.den) with b4|b4
     ·rcases tf (CP x.name) with b5|b5
      ·rw [show aO x=0 by simp only [aO,jo,qY,b0,b1,b2,b3,b4,b5]<;>rfl];exact pK [] 8 80 (.c (aV b5) (.k 1 (aA b1) (.k 1 (aV b4) (.k 3 (aA b3) (.k 1 (aF b2) (.k 2 (aV b1) (.k 1 (aV b0) (.n 2 .nil)))))))) (.c (mi x.name) (.c (eQ x.neg x.num x.den b a) (.c (cZ x.op) .nil)))
      ·rw [show aO x=12 by simp only [aO,jo,qY,b0,b1,b2,b3,b4,b5]<;>rfl];exact pK [] 8 208 (.c (di b5) (.k 1 (aA b1) (.k 1 (aV b4) (.k 3 (aA b3) (.k 1 (aF b2) (.k 2 (aV b1) (.k 1 (aV b0) (.n 2 .nil)))))))) (.c (mi x.name) (.c (eQ x.neg x.num x.den b a) (.c (cZ x.op) .nil)))
     ·rw [show aO x=11 by simp only [aO,jo,qY,b0,b1,b2,b3,b4]<;>rfl];exact pK [] 6 48 (.c (di b4) (.k 3 (aA b3) (.k 1 (aF b2) (.k 2 (aV b1) (.k 1 (aV b0) (.n 2 .nil)))))) (.c (eQ x.neg x.num x.den b a) (.c (cZ x.op) .nil))
    ·rcases tf (Qb x.op) with b4|b4
     ·rcases tf (fF x.neg x.num x.den) with b5|b5
      ·rcases tf (decide (((0:Nat):Int)<(sN x.neg x.num x.den))) with b6|b6
       ·rcases tf (CP x.name) with b7|b7
        ·rw [show aO x=0 by simp only [aO,jo,qY,b0,b1,b2,b3,b4,b5,b6,b7]<;>rfl];exact pK [] 10 352 (.c (aV b7) (.k 1 (aA b1) (.k 1 (aV b6) (.k 3 (aA b5) (.k 3 (aA b4) (.k 1 (aF b3) (.k 1 (aF b2) (.k 2 (aV b1) (.k 1 (aV b0) (.n 2 .nil)))))))))) (.c (mi x.name) (.c (pM x.neg x.num x.den b a) (.c (eQ x.neg x.num x.den b a) (.c (cZ x.op) .nil))))
        ·rw [show aO x=12 by simp only [aO,jo,qY,b0,b1,b2,b3,b4,b5,b6,b7]<;>rfl];exact pK [] 10 864 (.c (di b7) (.k 1 (aA b1) (.k 1 (aV b6) (.k 3 (aA b5) (.k 3 (aA b4) (.k 1 (aF b3) (.k 1 (aF b2) (.k 2 (aV b1) (.k 1 (aV b0) (.n 2 .nil)))))))))) (.c (mi x.name) (.c (pM x.neg x.num x.den b a) (.c (eQ x.neg x.num x.den b a) (.c (cZ x.op) .nil))))
       ·rw [show aO x=11 by simp only [aO,jo,qY,b0,b1,b2,b3,b4,b5,b6]<;>rfl];exact pK [] 8 224 (.c (di b6) (.k 3 (aA b5) (.k 3 (aA b4) (.k 1 (aF b3) (.k 1 (aF b2) (.k 2 (aV b1) (.k 1 (aV b0) (.n 2 .nil)))))))) (.c (pM x.neg x.num x.den b a) (.c (eQ x.neg x.num x.den b a) (.c (cZ x.op) .nil)))
      ·rw [show aO x=11 by simp only [aO,jo,qY,b0,b1,b2,b3,b4,b5]<;>rfl];exact pK [] 8 160 (.k 1 (aF b5) (.k 3 (aA b4) (.k 1 (aF b3) (.k 1 (aF b2) (.k 2 (aV b1) (.k 1 (aV b0) (.n 2 .nil))))))) (.c (eQ x.neg x.num x.den b a) (.c (cZ x.op) .nil))
     ·rcases tf ((x.neg==false) && ((x.num== []) && ((x.den== []) && true))) with b5|b5
      ·rcases tf (CP x.name) with b6|b6
       ·rw [show aO x=0 by simp only [aO,jo,qY,b0,b1,b2,b3,b4,b5,b6]<;>rfl];exact pK [] 9 128 (.c (aV b6) (.k 1 (aA b1) (.k 1 (aV b5) (.k 3 (aF b4) (.k 1 (aF b3) (.k 1 (aF b2) (.k 2 (aV b1) (.k 1 (aV b0) (.n 2 .nil))))))))) (.c (mi x.name) (.c (cZ x.op) .nil))
       ·rw [show aO x=12 by simp only [aO,jo,qY,b0,b1,b2,b3,b4,b5,b6]<;>rfl];exact pK [] 9 384 (.c (di b6) (.k 1 (aA b1) (.k 1 (aV b5) (.k 3 (aF b4) (.k 1 (aF b3) (.k 1 (aF b2) (.k 2 (aV b1) (.k 1 (aV b0) (.n 2 .nil))))))))) (.c (mi x.name) (.c (cZ x.op) .nil))
      ·rw [show aO x=11 by simp only [aO,jo,qY,b0,b1,b2,b3,b4,b5]<;>rfl];exact pK [] 7 64 (.c (di b5) (.k 3 (aF b4) (.k 1 (aF b3) (.k 1 (aF b2) (.k 2 (aV b1) (.k 1 (aV b0) (.n 2 .nil))))))) (.c (cZ x.op) .nil)
  ·rcases tf (x.name== []) with b2|b2
   ·rcases tf (x.op==((4:Nat):Int)) with b3|b3
    ·rcases tf ((x.neg==false) && ((x.num==(ae 0)) && ((x.den==(ae 1)) && true))) with b4|b4
     ·rw [show aO x=0 by simp only [aO,jo,qY,b0,b1,b2,b3,b4]<;>rfl];exact pK [] 8 26 (.k 1 (aF b1) (.k 2 (aA b4) (.k 3 (aA b3) (.k 1 (aV b2) (.k 1 (di b1) (.k 1 (aV b0) (.n 2 .nil))))))) (.c (iY) (.c (cZ x.op) .nil))
     ·rcases tf ((x.neg==false) && ((x.num==(ae 1)) && ((x.den==(ae 1)) && true))) with b5|b5
      ·rw [show aO x=0 by simp only [aO,jo,qY,b0,b1,b2,b3,b4,b5]<;>rfl];exact pK [] 8 10 (.k 1 (aF b1) (.k 1 (aV b5) (.k 3 (aF b4) (.k 3 (aA b3) (.k 1 (aV b2) (.k 1 (di b1) (.k 1 (aV b0) (.n 2 .nil)))))))) (.c (uo) (.c (iY) (.c (cZ x.op) .nil)))
      ·rw [show aO x=11 by simp only [aO,jo,qY,b0,b1,b2,b3,b4,b5]<;>rfl];exact pK [] 6 42 (.c (di b5) (.k 3 (aF b4) (.k 3 (aA b3) (.k 1 (aV b2) (.k 1 (di b1) (.k 1 (aV b0) (.n 2 .nil))))))) (.c (uo) (.c (iY) (.c (cZ x.op) .nil)))
    ·rcases tf (Pm x.op) with b4|b4
     ·rcases tf (fF x.neg x.num x.den) with b5|b5
      ·rw [show aO x=0 by simp only [aO,jo,qY,b0,b1,b2,b3,b4,b5]<;>rfl];exact pK [] 8 18 (.k 1 (aF b1) (.k 1 (aV b5) (.k 3 (aA b4) (.k 1 (aF b3) (.k 1 (aV b2) (.k 1 (di b1) (.k 1 (aV b0) (.n 2 .nil)))))))) (.c (eQ x.neg x.num x.den b a) (.c (cZ x.op) .nil))
      ·rw [show aO x=11 by simp only [aO,jo,qY,b0,b1,b2,b3,b4,b5]<;>rfl];exact pK [] 6 50 (.c (di b5) (.k 3 (aA b4) (.k 1 (aF b3) (.k 1 (aV b2) (.k 1 (di b1) (.k 1 (aV b0) (.n 2 .nil))))))) (.c (eQ x.neg x.num x.den b a) (.c (cZ x.op) .nil))
     ·rcases tf (Qb x.op) with b5|b5
      ·rcases tf (fF x.neg x.num x.den) with b6|b6
       ·rcases tf (decide (((0:Nat):Int)<(sN x.neg x.num x.den))) with b7|b7
        ·rw [show aO x=0 by simp only [aO,jo,qY,b0,b1,b2,b3,b4,b5,b6,b7]<;>rfl];exact pK [] 10 98 (.k 1 (aF b1) (.k 1 (aV b7) (.k 3 (aA b6) (.k 3 (aA b5) (.k 1 (aF b4) (.k 1 (aF b3) (.k 1 (aV b2) (.k 1 (di b1) (.k 1 (aV b0) (.n 2 .nil)))))))))) (.c (pM x.neg x.num x.den b a) (.c (eQ x.neg x.num x.den b a) (.c (cZ x.op) .nil)))
        ·rw [show aO x=11 by simp only [aO,jo,qY,b0,b1,b2,b3,b4,b5,b6,b7]<;>rfl];exact pK [] 8 226 (.c (di b7) (.k 3 (aA b6) (.k 3 (aA b5) (.k 1 (aF b4) (.k 1 (aF b3) (.k 1 (aV b2) (.k 1 (di b1) (.k 1 (aV b0) (.n 2 .nil))))))))) (.c (pM x.neg x.num x.den b a) (.c (eQ x.neg x.num x.den b a) (.c (cZ x.op) .nil)))
       ·rw [show aO x=11 by simp only [aO,jo,qY,b0,b1,b2,b3,b4,b5,b6]<;>rfl];exact pK [] 8 162 (.k 1 (aF b6) (.k 3 (aA b5) (.k 1 (aF b4) (.k 1 (aF b3) (.k 1 (aV b2) (.k 1 (di b1) (.k 1 (aV b0) (.n 2 .nil)))))))) (.c (eQ x.neg x.num x.den b a) (.c (cZ x.op) .nil))
      ·rcases tf ((x.neg==false) && ((x.num== []) && ((x.den== []) && true))) with b6|b6
       ·rw [show aO x=0 by simp only [aO,jo,qY,b0,b1,b2,b3,b4,b5,b6]<;>rfl];exact pK [] 9 2 (.k 1 (aF b1) (.k 1 (aV b6) (.k 3 (aF b5) (.k 1 (aF b4) (.k 1 (aF b3) (.k 1 (aV b2) (.k 1 (di b1) (.k 1 (aV b0) (.n 2 .nil))))))))) (.c (cZ x.op) .nil)
       ·rw [show aO x=11 by simp only [aO,jo,qY,b0,b1,b2,b3,b4,b5,b6]<;>rfl];exact pK [] 7 66 (.c (di b6) (.k 3 (aF b5) (.k 1 (aF b4) (.k 1 (aF b3) (.k 1 (aV b2) (.k 1 (di b1) (.k 1 (aV b0) (.n 2 .nil)))))))) (.c (cZ x.op) .nil)
   ·rw [show aO x=11 by simp only [aO,jo,qY,b0,b1,b2]<;>rfl];exact pK [] 3 6 (.c (di b2) (.k 1 (di b1) (.k 1 (aV b0) (.n 2 .nil)))) (.c (cZ x.op) .nil)
 ·rw [show aO x=11 by simp only [aO,jo,qY,b0]<;>rfl];exact pK [] 2 3 (.k 1 (di b0) (.n 2 .nil)) (.c (cZ x.op) .nil)
def a_ (l:List Nd):List AV:=l.flatMap qB
theorem ant {nt:Nat} (i:35≤nt) (l:List Nd) (nn:Bool) (k d:Nat) (w:Int) (x:Nd) (r:List Nd) (a:(ε ((δ (k:Int))*5) (a_ l))=qB x++a_ r) (c:lit true (!(w==((0:Nat):Int)))=true) (g:(decide (((0:Nat):Int)≤(k:Int)))=true) (e:(decide ((k:Int)<(l.length:Int)))=true) (b:lit true (decide ((k:Int)<(l.length:Int)))=true) (f:CO 73 [.agg [ω x.op,.bool x.neg,.str x.num,.str x.den,.str x.name]] (.ret (ω w))):ψ nt f44 ⟨[(10,.sl (a_ l) l.length nn),(11,ω (l.length:Int)),(12,ω (k:Int)),(3,ω (d:Int))],[],.dead,[]⟩ (.ret) ⟨[(2,ω w)],[],.dead,[]⟩:=
 have h:ψ nt f44 ⟨[(10,.sl (a_ l) l.length nn),(11,ω (l.length:Int)),(12,ω (k:Int)),(3,ω (d:Int))],[],.dead,[]⟩ (.ret) ⟨[(2,ω w)],[(0,⟨[ω x.op,.bool x.neg,.str x.num,.str x.den,.str x.name],0,false,0,0,true⟩)],.dead,[]⟩:=pJ 44 [] 2 3 (.c c (.k 11 g (.c e (.c b .nil)))) (.c f (.v 14 (.ppt a) .nil)) i
 h.forgetD 0 ⟨[ω x.op,.bool x.neg,.str x.num,.str x.den,.str x.name],0,false,0,0,true⟩ (by intro v h;cases h) (by decide) rfl ⟨Fz.same rfl,trivial⟩ rfl rfl
theorem anu {nt:Nat} (m:35≤nt) (l:List Nd) (nn:Bool) (k d:Nat) (w:Int) (x:Nd) (r:List Nd) (a:(ε ((δ (k:Int))*5) (a_ l))=qB x++a_ r) (g:lit true (decide ((γ .i64 ((d:Int) - (χ (ζ (ε ((0+((δ x.op)*5))+1) jO) .dead))))<((0:Nat):Int)))=true) (j:(chk (.int .i64) (ζ (ε ((0+((δ x.op)*5))+1) jO) .dead))=true) (i:(decide (((0:Nat):Int)≤x.op))=true) (f:(decide (x.op<((25:Nat):Int)))=true) (o:lit false (!(w==((0:Nat):Int)))=true) (c:(decide (((0:Nat):Int)≤(k:Int)))=true) (e:(decide ((k:Int)<(l.length:Int)))=true) (n:lit true (decide ((k:Int)<(l.length:Int)))=true) (b:CO 73 [.agg [ω x.op,.bool x.neg,.str x.num,.str x.den,.str x.name]] (.ret (ω w))):ψ nt f44 ⟨[(10,.sl (a_ l) l.length nn),(11,ω (l.length:Int)),(12,ω (k:Int)),(3,ω (d:Int))],[],.dead,[]⟩ (.ret) ⟨[(2,ω 11)],[],.dead,[]⟩:=
 have h:ψ nt f44 ⟨[(10,.sl (a_ l) l.length nn),(11,ω (l.length:Int)),(12,ω (k:Int)),(3,ω (d:Int))],[],.dead,[]⟩ (.ret) ⟨[(2,ω 11)],[(0,⟨[ω x.op,.bool x.neg,.str x.num,.str x.den,.str x.name],0,false,0,0,true⟩)],.dead,[]⟩:=pJ 44 [] 3 5 (.c g (.c j (.c i (.c f (.k 1 o (.k 11 c (.c e (.c n .nil)))))))) (.c b (.v 14 (.ppt a) .nil)) m
 h.forgetD 0 ⟨[ω x.op,.bool x.neg,.str x.num,.str x.den,.str x.name],0,false,0,0,true⟩ (by intro v h;cases h) (by decide) rfl ⟨Fz.same rfl,trivial⟩ rfl rfl
theorem anv {nt:Nat} (m:35≤nt) (l:List Nd) (nn:Bool) (k d:Nat) (w:Int) (x:Nd) (r:List Nd) (a:(ε ((δ (k:Int))*5) (a_ l))=qB x++a_ r) (g:lit false (decide ((γ .i64 ((d:Int) - (χ (ζ (ε ((0+((δ x.op)*5))+1) jO) .dead))))<((0:Nat):Int)))=true) (j:(chk (.int .i64) (ζ (ε ((0+((δ x.op)*5))+1) jO) .dead))=true) (i:(decide (((0:Nat):Int)≤x.op))=true) (f:(decide (x.op<((25:Nat):Int)))=true) (o:lit false (!(w==((0:Nat):Int)))=true) (c:(decide (((0:Nat):Int)≤(k:Int)))=true) (e:(decide ((k:Int)<(l.length:Int)))=true) (n:lit true (decide ((k:Int)<(l.length:Int)))=true) (b:CO 73 [.agg [ω x.op,.bool x.neg,.str x.num,.str x.den,.str x.name]] (.ret (ω w))):ψ nt f44 ⟨[(10,.sl (a_ l) l.length nn),(11,ω (l.length:Int)),(12,ω (k:Int)),(3,ω (d:Int))],[],.dead,[]⟩ (.normal) ⟨[(10,.sl (a_ l) l.length nn),(11,ω (l.length:Int)),(12,ω (γ .i64 ((k:Int)+((1:Nat):Int)))),(3,ω (γ .i64 ((γ .i64 ((d:Int) - (χ (ζ (ε ((0+((δ x.op)*5))+1) jO) .dead))))+((1:Nat):Int))))],[],.dead,[]⟩:=
 have h:ψ nt f44 ⟨[(10,.sl (a_ l) l.length nn),(11,ω (l.length:Int)),(12,ω (k:Int)),(3,ω (d:Int))],[],.dead,[]⟩ (.normal) ⟨[(10,.sl (a_ l) l.length nn),(11,ω (l.length:Int)),(12,ω (γ .i64 ((k:Int)+((1:Nat):Int)))),(3,ω (γ .i64 ((γ .i64 ((d:Int) - (χ (ζ (ε ((0+((δ x.op)*5))+1) jO) .dead))))+((1:Nat):Int))))],[(0,⟨[ω x.op,.bool x.neg,.str x.num,.str x.den,.str x.name],0,false,0,0,true⟩)],.dead,[]⟩:=pJ 44 [] 3 1 (.c g (.c j (.c i (.c f (.k 1 o (.k 11 c (.c e (.c n .nil)))))))) (.c b (.v 14 (.ppt a) .nil)) m
 h.forgetD 0 ⟨[ω x.op,.bool x.neg,.str x.num,.str x.den,.str x.name],0,false,0,0,true⟩ (by intro v h;cases h) (by decide) rfl ⟨Fz.same rfl,Fz.same rfl,Fz.same rfl,Fz.same rfl,trivial⟩ rfl rfl
theorem WH {nt:Nat} (b:35≤nt) (l:List Nd) (nn:Bool) (k d:Nat) (w:Int) (a:lit false (decide ((k:Int)<(l.length:Int)))=true):ψ nt f44 ⟨[(10,.sl (a_ l) l.length nn),(11,ω (l.length:Int)),(12,ω (k:Int)),(3,ω (d:Int))],[],.dead,[]⟩ (.exit 0) ⟨[(3,ω (d:Int))],[],.dead,[]⟩:=pJ 44 [] 1 0 (.c a .nil) (.nil) b
theorem ain (l:List Nd) (nn:Bool) (d:Nat) (a:lit true (decide (((60:Nat):Int)<(l.length:Int)))=true):CO 44 [.sl (a_ l) l.length nn] (.ret (ω 2)):=pK [0] 1 1 (.c a .nil) (.nil)
theorem aio (l:List Nd) (nn:Bool) (d:Nat) (a:lit true (!((d:Int)==((1:Nat):Int)))=true) (c:lit false (decide (((60:Nat):Int)<(l.length:Int)))=true) (b:aN prog ap [] 35 (.block 0 (.loop (af 0 (ai f44)))) ⟨[(0,.sl (a_ l) l.length nn),(2,ω 0),(3,ω 0),(5,.dead),(6,.dead),(9,.bool (decide (((60:Nat):Int)<(l.length:Int)))),(10,.sl (a_ l) l.length nn),(11,ω (l.length:Int)),(12,ω 0),(13,.dead),(19,.dead),(29,.dead),(34,.dead)],[],.dead,[]⟩ (.normal) ⟨[(3,ω (d:Int))],[],.dead,[]⟩):CO 44 [.sl (a_ l) l.length nn] (.ret (ω 11)):=pK [0] 2 2 (.c a (.c c .nil)) (.l b .nil)
theorem aip (l:List Nd) (nn:Bool) (d:Nat) (a:lit false (!((d:Int)==((1:Nat):Int)))=true) (c:lit false (decide (((60:Nat):Int)<(l.length:Int)))=true) (b:aN prog ap [] 35 (.block 0 (.loop (af 0 (ai f44)))) ⟨[(0,.sl (a_ l) l.length nn),(2,ω 0),(3,ω 0),(5,.dead),(6,.dead),(9,.bool (decide (((60:Nat):Int)<(l.length:Int)))),(10,.sl (a_ l) l.length nn),(11,ω (l.length:Int)),(12,ω 0),(13,.dead),(19,.dead),(29,.dead),(34,.dead)],[],.dead,[]⟩ (.normal) ⟨[(3,ω (d:Int))],[],.dead,[]⟩):CO 44 [.sl (a_ l) l.length nn] (.ret (ω 0)):=pK [0] 2 0 (.c a (.c c .nil)) (.l b .nil)
theorem aiq (l:List Nd) (nn:Bool) (w:Int) (a:lit false (decide (((60:Nat):Int)<(l.length:Int)))=true) (b:aN prog ap [] 35 (.block 0 (.loop (af 0 (ai f44)))) ⟨[(0,.sl (a_ l) l.length nn),(2,ω 0),(3,ω 0),(5,.dead),(6,.dead),(9,.bool (decide (((60:Nat):Int)<(l.length:Int)))),(10,.sl (a_ l) l.length nn),(11,ω (l.length:Int)),(12,ω 0),(13,.dead),(19,.dead),(29,.dead),(34,.dead)],[],.dead,[]⟩ (.ret) ⟨[(2,ω w)],[],.dead,[]⟩):CO 44 [.sl (a_ l) l.length nn] (.ret (ω w)):=pK [0] 1 0 (.c a .nil) (.l b .nil)
theorem MO (x:Nd) (r:List Nd):a_ (x::r)=qB x++a_ r:=rfl
theorem JQ (a b:List Nd):a_ (a++b)=a_ a++a_ b:=by unfold a_;rw [List.flatMap_append]
theorem aW (l:List Nd):(a_ l).length=l.length*5:=by
 induction l with
 |nil=>rfl
 |cons x r ih=>rw [MO,η,ih,ξ];simp [qB];omega
theorem DW {p r:List Nd} {x:Nd} {k:Nat} (h:k=p.length):ε (δ (k:Int)*5) (a_ (p++x::r))=qB x++a_ r:=by
 subst h;rw [aK,JQ,MO,← aW,List.drop_left]
def iE:List Nd→Nat→Nat ⊕ Int
 | [],d=> .inl d
 |x::r,d=>if aO x=0 then (if d<dM x.op then .inr 11 else iE r (d - dM x.op+1)) else .inr (aO x)
def cO (l:List Nd):Int:=if 60<l.length then 2 else match iE l 0 with| .inl d=>if d=1 then 0 else 11| .inr w=>w
def aao:Nat ⊕ Int→bM
 | .inl _=> .exit 0
 | .inr _=> .ret
def Uj (l:List Nd) (nn:Bool) (p:Nat × Nat):St:=⟨[(10,.sl (a_ l) l.length nn),(11,ω (l.length:Int)),(12,ω (p.1:Int)),(3,ω (p.2:Int))],[],.dead,[]⟩
def QG:Nat ⊕ Int→St
 | .inl d=> ⟨[(3,.int .i64 (d:Int))],[],.dead,[]⟩
 | .inr w=> ⟨[(2,.int .i64 w)],[],.dead,[]⟩
theorem Ox (op:Int):dM op≤3:=by unfold dM;(repeat' split)<;>omega
theorem sU {x:Nd} (h:aO x=0):1≤x.op∧x.op≤24:=by
 cases a:inI x.op with
 |true=>simpa [inI] using a
 |false=>unfold aO at h;rw [a] at h;simp at h
theorem WI {nt:Nat} (j:35≤nt) (l p r:List Nd) (nn:Bool) (x:Nd) (d:Nat) (s:x.sm) (n:l=p++x::r) (q:l.length<2^40) (hd:d<2^41):
  (¬ aO x=0→ψ nt f44 (Uj l nn (p.length,d)) .ret (QG (.inr (aO x))))∧
  (aO x=0→d<dM x.op→ψ nt f44 (Uj l nn (p.length,d)) .ret (QG (.inr 11)))∧
  (aO x=0→¬ d<dM x.op→ψ nt f44 (Uj l nn (p.length,d)) .normal (Uj l nn (p.length+1,d - dM x.op+1))):=by
 have b:ε (δ (p.length:Int)*5) (a_ l)=qB x++a_ r:=by rw [n];exact DW rfl
 have k:p.length+(r.length+1)=l.length:=by rw [n];simp
 have m:=ZO x s;have o:=Ox x.op;unfold Uj QG;refine ⟨fun c=> ?_,fun c t=> ?_,fun c t=> ?_⟩
 ·have a:=ant j l nn p.length d (aO x) x r b;have f:(!(aO x==((0:Nat):Int)))=true:=by simpa using c
  simp (disch:=first|omega|(simp [ay,az]<;>omega)) only [f,bU,eU,bJ,bK] at a;apply a<;>first|exact True.intro|omega|assumption|exact rfl
 ·obtain ⟨g,h⟩:=sU c;have e:=Qh g h;rw [c] at m;have a:=anu j l nn p.length d 0 x r b;have i:γ .i64 ((d:Int) - ((dM x.op:Nat):Int))=(d:Int) - (dM x.op:Int):=bH (by omega) (by omega);simp (disch:=first|omega|(simp [ay,az]<;>omega)) only [Xqd,e,bi,i,bU,bJ,eP,fK,gV,Yn,eU,bK] at a;apply a<;>first|exact True.intro|omega|assumption|exact rfl
 ·obtain ⟨g,h⟩:=sU c;have e:=Qh g h;rw [c] at m;have a:=anv j l nn p.length d 0 x r b;have i:γ .i64 ((d:Int) - ((dM x.op:Nat):Int))=((d - dM x.op:Nat):Int):=by rw [bH]<;>omega
  simp (disch:=first|omega|(simp [ay,az]<;>omega)) only [Xqd,e,bi,i,bK,fK,gV,iD,eP,bJ,Yn,eU,bU,dI,bC] at a;apply a<;>first|exact True.intro|omega|assumption|exact rfl
theorem aat {nt:Nat} (c:35≤nt) (l:List Nd) (nn:Bool) (a:l.length<2^40) (b:∀ x ∈ l,x.sm):∀ (r p:List Nd) (d:Nat),p++r=l→d≤p.length→aC prog ap [] nt (af 0 (ai f44)) aao (Uj l nn) QG (p.length,d) (iE r d):=by
 intro r
 induction r with
 |nil=>
  intro p d h _;have hp:p.length=l.length:=by rw [← h];simp
  rw [hp];exact .done (WH c l nn l.length d 0 (by rw [bK];simp [lit]))
 | cons x r ih=>
  intro p d h hd;have i:p.length+(r.length+1)=l.length:=by rw [← h];simp
  obtain ⟨f,e,g⟩:=WI c l p r nn x d (b x (by rw [← h];simp)) h.symm a (by omega);simp only [iE];by_cases h1:aO x=0
  ·rw [if_pos h1];by_cases h2:d<dM x.op
   ·rw [if_pos h2];exact .done (e h1 h2)
   ·rw [if_neg h2];have hnext:=ih (p++ [x]) (d - dM x.op+1) (by simp [h]) (by simp;omega);rw [η,φ] at hnext;exact .next (g h1 h2) hnext
  ·rw [if_neg h1];exact .done (f h1)
theorem yS (l:List Nd) (nn:Bool) (b:∀ x ∈ l,x.sm):CO 44 [.sl (a_ l) l.length nn] (.ret (ω (cO l))):=by
 unfold cO;by_cases h60:60<l.length
 ·rw [if_pos h60];exact ain l nn 0 (by rw [bK];exact Yq0 h60)
 ·rw [if_neg h60];have a:lit false (decide (((60:Nat):Int)<(l.length:Int)))=true:=by rw [bK];simp only [lit,Xqw];exact Yq1 h60
  have hloop:=fun nt (hn:35≤nt)=>aat hn l nn (by omega) b l [] 0 rfl (by simp)
  cases c:iE l 0 with
  | inl d=>
   rw [c] at hloop;by_cases hd:d=1
   ·have h:=aip l nn d (by rw [qK,Yq0 hd];rfl) a;simp only [if_pos hd];exact h (aC.blk hloop (by simp [aao]) rfl (aP.of ⟨rfl,rfl,rfl,rfl,trivial⟩) (aP.of ⟨rfl,trivial⟩))
   ·have h:=aio l nn d (by rw [qK,Yq1 hd];rfl) a;simp only [if_neg hd];exact h (aC.blk hloop (by simp [aao]) rfl (aP.of ⟨rfl,rfl,rfl,rfl,trivial⟩) (aP.of ⟨rfl,trivial⟩))
  |inr w=>
   rw [c] at hloop;exact aiq l nn w a (aC.blk hloop (by simp [aao]) rfl (aP.of ⟨rfl,rfl,rfl,rfl,trivial⟩) (aP.of ⟨rfl,trivial⟩))
theorem ah0 {nt:Nat} (j:45≤nt) (l:List Nd) (nn:Bool) (k:Nat) (C:List AV) (st own:List Nat) (x:Nd) (r:List Nd) (a:(ε ((δ (k:Int))*5) (a_ l))=qB x++a_ r) (c:(decide ((γ .i64 (((0:Nat):Int) - (χ (ζ (ε ((0+((δ x.op)*5))+1) jO) .dead))))=0))=true) (i:(Xqc (((0+(δ (k:Int)))*1)+1) (θ C))=true) (d:(decide (((0:Nat):Int)≤(k:Int)))=true) (b:(decide ((k:Int)<(l.length:Int)))=true) (n:(chk (.int .i64) (ζ (ε ((0+((δ x.op)*5))+1) jO) .dead))=true) (f:(decide (((0:Nat):Int)≤x.op))=true) (g:(decide (x.op<((25:Nat):Int)))=true) (m:lit true (decide ((k:Int)<(l.length:Int)))=true) (e:CO 59 [.nilS] (.ret (.sl (aj own) own.length false))):ψ nt f24 ⟨[(15,.sl (a_ l) l.length nn),(16,ω (l.length:Int)),(17,ω (k:Int)),(4,.ref 0 0 0 l.length),(5,.nilS)],[(0,⟨C,0,false,0,1,true⟩)],.dead,[]⟩ (.normal) ⟨[(15,.sl (a_ l) l.length nn),(16,ω (l.length:Int)),(17,ω (γ .i64 ((k:Int)+((1:Nat):Int)))),(4,.ref 0 0 0 l.length),(5,.ref 1 0 0 1)],[(0,⟨(ν ((0+(δ (k:Int)))*1) C++ [.sl (aj own) own.length false]++ε (((0+(δ (k:Int)))*1)+1) C),0,false,0,1,true⟩),(1,⟨[ω (k:Int)],0,false,0,1,true⟩)],.dead,[]⟩:=
 have h:ψ nt f24 ⟨[(15,.sl (a_ l) l.length nn),(16,ω (l.length:Int)),(17,ω (k:Int)),(4,.ref 0 0 0 l.length),(5,.nilS)],[(0,⟨C,0,false,0,1,true⟩)],.dead,[]⟩ (.normal) ⟨[(15,.sl (a_ l) l.length nn),(16,ω (l.length:Int)),(17,ω (γ .i64 ((k:Int)+((1:Nat):Int)))),(4,.ref 0 0 0 l.length),(5,.ref 1 0 0 1)],[(0,⟨(ν ((0+(δ (k:Int)))*1) C++ [.sl (aj own) own.length false]++ε (((0+(δ (k:Int)))*1)+1) C),0,false,0,1,true⟩),(1,⟨[ω (k:Int)],0,false,0,1,true⟩),(2,⟨[ω x.op,.bool x.neg,.str x.num,.str x.den,.str x.name],0,false,0,0,true⟩)],.dead,[]⟩:=pJ 24 [] 2 1 (.k 4 c (.c i (.c d (.c b (.c c (.k 1 n (.c f (.c g (.k 7 d (.c b (.c m .nil))))))))))) (.c e (.v 20 (.ppt a) .nil)) j
 h.forgetD 2 ⟨[ω x.op,.bool x.neg,.str x.num,.str x.den,.str x.name],0,false,0,0,true⟩ (by intro v h;cases h) (by decide) rfl ⟨Fz.same rfl,Fz.same rfl,Fz.same rfl,Fz.same rfl,Fz.same rfl,trivial⟩ ⟨rfl,Oh.same rfl,by decide,rfl,Oh.same rfl,by decide,rfl⟩ rfl
theorem Ub {nt:Nat} (b:45≤nt) (l:List Nd) (nn:Bool) (k:Nat) (C:List AV) (st own:List Nat) (a:lit false (decide ((k:Int)<(l.length:Int)))=true):ψ nt f24 ⟨[(15,.sl (a_ l) l.length nn),(16,ω (l.length:Int)),(17,ω (k:Int)),(4,.ref 0 0 0 l.length),(5,.nilS)],[(0,⟨C,0,false,0,1,true⟩)],.dead,[]⟩ (.exit 0) ⟨[(4,.ref 0 0 0 l.length)],[(0,⟨C,0,false,0,1,true⟩)],.dead,[]⟩:=pJ 24 [] 1 0 (.c a .nil) (.nil) b
theorem ahX {nt:Nat} (o:45≤nt) (l:List Nd) (nn:Bool) (k:Nat) (C:List AV) (st own:List Nat) (x:Nd) (r:List Nd) (b:(ε ((δ (k:Int))*5) (a_ l))=qB x++a_ r) (m:(Xqc (((δ (γ .i64 ((st.length:Int) - (χ (ζ (ε ((0+((δ x.op)*5))+1) jO) .dead))))) - 0)+1) 1099511627776)=true) (n:(Xqc (((δ (γ .i64 ((st.length:Int) - (χ (ζ (ε ((0+((δ x.op)*5))+1) jO) .dead))))) - 0)*1) (θ (aj st)))=true) (g:(decide (((0:Nat):Int)≤(γ .i64 ((st.length:Int) - (χ (ζ (ε ((0+((δ x.op)*5))+1) jO) .dead))))))=true) (f:(decide ((γ .i64 ((st.length:Int) - (χ (ζ (ε ((0+((δ x.op)*5))+1) jO) .dead))))≤(st.length:Int)))=true) (s:(Xqc (((0+(δ (k:Int)))*1)+1) (θ C))=true) (d:(decide (((0:Nat):Int)≤(k:Int)))=true) (e:(decide ((k:Int)<(l.length:Int)))=true) (p:(decide ((st.length:Int)≤(st.length:Int)))=true) (q:(chk (.int .i64) (ζ (ε ((0+((δ x.op)*5))+1) jO) .dead))=true) (i:(decide (((0:Nat):Int)≤x.op))=true) (c:(decide (x.op<((25:Nat):Int)))=true) (a:lit true (decide ((k:Int)<(l.length:Int)))=true) (j:aG prog ap 59 [.ref 0 0 (0+(δ (γ .i64 ((st.length:Int) - (χ (ζ (ε ((0+((δ x.op)*5))+1) jO) .dead)))))) ((δ (st.length:Int)) - (δ (γ .i64 ((st.length:Int) - (χ (ζ (ε ((0+((δ x.op)*5))+1) jO) .dead))))))] [⟨(aj st),0,false,0,1,true⟩] (.ret (.sl (aj own) own.length false)) [⟨(aj st),0,false,0,1,true⟩]):ψ nt f24 ⟨[(15,.sl (a_ l) l.length nn),(16,ω (l.length:Int)),(17,ω (k:Int)),(4,.ref 0 0 0 l.length),(5,.ref 1 0 0 st.length)],[(0,⟨C,0,false,0,1,true⟩),(1,⟨(aj st),0,false,0,1,true⟩)],.dead,[]⟩ (.normal) ⟨[(15,.sl (a_ l) l.length nn),(16,ω (l.length:Int)),(17,ω (γ .i64 ((k:Int)+((1:Nat):Int)))),(4,.ref 0 0 0 l.length),(5,.ref 1 0 0 (((δ (γ .i64 ((st.length:Int) - (χ (ζ (ε ((0+((δ x.op)*5))+1) jO) .dead))))) - 0)+1))],[(0,⟨(ν ((0+(δ (k:Int)))*1) C++ [.sl (aj own) own.length false]++ε (((0+(δ (k:Int)))*1)+1) C),0,false,0,1,true⟩),(1,⟨((ν (((δ (γ .i64 ((st.length:Int) - (χ (ζ (ε ((0+((δ x.op)*5))+1) jO) .dead))))) - 0)*1) (aj st))++ [ω (k:Int)]),0,false,0,1,true⟩)],.dead,[]⟩:=
 have h:ψ nt f24 ⟨[(15,.sl (a_ l) l.length nn),(16,ω (l.length:Int)),(17,ω (k:Int)),(4,.ref 0 0 0 l.length),(5,.ref 1 0 0 st.length)],[(0,⟨C,0,false,0,1,true⟩),(1,⟨(aj st),0,false,0,1,true⟩)],.dead,[]⟩ (.normal) ⟨[(15,.sl (a_ l) l.length nn),(16,ω (l.length:Int)),(17,ω (γ .i64 ((k:Int)+((1:Nat):Int)))),(4,.ref 0 0 0 l.length),(5,.ref 1 0 0 (((δ (γ .i64 ((st.length:Int) - (χ (ζ (ε ((0+((δ x.op)*5))+1) jO) .dead))))) - 0)+1))],[(0,⟨(ν ((0+(δ (k:Int)))*1) C++ [.sl (aj own) own.length false]++ε (((0+(δ (k:Int)))*1)+1) C),0,false,0,1,true⟩),(1,⟨((ν (((δ (γ .i64 ((st.length:Int) - (χ (ζ (ε ((0+((δ x.op)*5))+1) jO) .dead))))) - 0)*1) (aj st))++ [ω (k:Int)]),0,false,0,1,true⟩),(2,⟨[ω x.op,.bool x.neg,.str x.num,.str x.den,.str x.name],0,false,0,0,true⟩)],.dead,[]⟩:=pJ 24 [] 1 1 (.k 1 m (.c n (.k 2 g (.c f (.c s (.c d (.c e (.c g (.c f (.c p (.c q (.c i (.c c (.k 7 d (.c e (.c a .nil)))))))))))))))) (.c j (.v 20 (.ppt b) .nil)) o
 h.forgetD 2 ⟨[ω x.op,.bool x.neg,.str x.num,.str x.den,.str x.name],0,false,0,0,true⟩ (by intro v h;cases h) (by decide) rfl ⟨Fz.same rfl,Fz.same rfl,Fz.same rfl,Fz.same rfl,Fz.same rfl,trivial⟩ ⟨rfl,Oh.same rfl,by decide,rfl,Oh.same rfl,by decide,rfl⟩ rfl
theorem Ua {nt:Nat} (b:45≤nt) (l:List Nd) (nn:Bool) (k:Nat) (C:List AV) (st own:List Nat) (a:lit false (decide ((k:Int)<(l.length:Int)))=true):ψ nt f24 ⟨[(15,.sl (a_ l) l.length nn),(16,ω (l.length:Int)),(17,ω (k:Int)),(4,.ref 0 0 0 l.length),(5,.ref 1 0 0 st.length)],[(0,⟨C,0,false,0,1,true⟩),(1,⟨(aj st),0,false,0,1,true⟩)],.dead,[]⟩ (.exit 0) ⟨[(4,.ref 0 0 0 l.length)],[(0,⟨C,0,false,0,1,true⟩),(1,⟨(aj st),0,false,0,1,true⟩)],.dead,[]⟩:=pJ 24 [] 1 0 (.c a .nil) (.nil) b
theorem ahY (l:List Nd) (nn:Bool) (w:Int) (C:List AV) (a:lit true (!(w==((0:Nat):Int)))=true) (b:CO 44 [.sl (a_ l) l.length nn] (.ret (ω w))):CO 24 [.sl (a_ l) l.length nn] (.ret (.tup [.nilS,.bool false])):=pK [0] 1 1 (.c a .nil) (.c b .nil)
theorem ahZ (l:List Nd) (nn:Bool) (w:Int) (C:List AV) (b:(decide (((0:Nat):Int)≤(l.length:Int)))=true) (f:(decide ((l.length:Int)=(l.length:Int)))=true) (c:(decide ((l.length:Int)≤((1099511627776:Nat):Int)))=true) (a:lit false (!(w==((0:Nat):Int)))=true) (d:CO 44 [.sl (a_ l) l.length nn] (.ret (ω w))) (e:aN prog ap [] 45 (.block 0 (.loop (af 0 (ai f24)))) ⟨[(0,.sl (a_ l) l.length nn),(2,.nilS),(3,.bool false),(4,.ref 0 0 0 (δ (l.length:Int))),(5,.nilS),(6,.dead),(7,.dead),(8,.dead),(11,.bool (!(w==((0:Nat):Int)))),(15,.sl (a_ l) l.length nn),(16,ω (l.length:Int)),(17,ω 0),(18,.dead)],[(0,⟨(gQ (δ (l.length:Int)) [.nilS]),0,false,0,1,true⟩)],.dead,[]⟩ (.normal) ⟨[(4,.ref 0 0 0 l.length)],[(0,⟨C,0,false,0,1,true⟩)],.dead,[]⟩):CO 24 [.sl (a_ l) l.length nn] (.ret (.tup [.own (ν (l.length*1) C) l.length 1,.bool true])):=pK [0] 1 0 (.c b (.c f (.c c (.c a .nil)))) (.l e (.c d .nil))
theorem aiP:CO 59 [.nilS] (.ret (.nilS)):=pK [] 1 1 (.n 1 .nil) (.nil)
theorem air (st:List Nat) (i n:Nat) (a:(Xqn (θ (ν (n*1) (ε (i*1) (aj st)))) (n*1))=true) (b:(Xqc (0+n) 1099511627776)=true):aG prog ap 59 [.ref 0 0 i n] [⟨(aj st),0,false,0,1,true⟩] (.ret (.own (ν ((0+n)*1) ([]++(ν (n*1) (ε (i*1) (aj st))))) (0+n) 1)) [⟨(aj st),0,false,0,1,true⟩]:=pK [] 1 0 (.c a (.c b (.n 3 .nil))) (.nil)
def p_:List Nd→Nat→List Nat→List (List Nat)
 | [],_,_=> []
 |x::r,k,st=>st.drop (st.length - dM x.op)::p_ r (k+1) (st.take (st.length - dM x.op)++ [k])
def dh (l:List Nd):List (List Nat):=p_ l 0 []
def Uc (a:List Nat):AV:= .sl (aj a) a.length false
def dH (ll:List (List Nat)):List AV:=ll.map Uc
def stR:List Nd→Nat→List Nat→List Nat
 | [],_,st=>st
 |x::r,k,st=>stR r (k+1) (st.take (st.length - dM x.op)++ [k])
theorem Eo (r:List Nd):∀ k st,(p_ r k st).length=r.length:=by
 induction r with
 |nil=>intros;rfl
 |cons x r ih=>intro k st;simp only [p_,ξ,ih]
def agE (st:List Nat):AV:=match st with| []=> .nilS|x::l=> .ref 1 0 0 (x::l).length
def agH (st:List Nat):Hp:=match st with| []=> []|x::l=> [(1,⟨aj (x::l),0,false,0,1,true⟩)]
theorem Oo {l:List Nat} (h:l ≠ []):agE l= .ref 1 0 0 l.length:=by cases l with|nil=>exact absurd rfl h|cons _ _=>rfl
theorem Jc {l:List Nat} (h:l ≠ []):agH l= [(1,⟨aj l,0,false,0,1,true⟩)]:=by cases l with|nil=>exact absurd rfl h|cons _ _=>rfl
def Jd (l:List Nd) (nn:Bool) (p:Nat × List Nat × List AV):St:=⟨[(15,.sl (a_ l) l.length nn),(16,ω (l.length:Int)),(17,ω (p.1:Int)),(4,.ref 0 0 0 l.length),(5,agE p.2.1)],(0,⟨p.2.2,0,false,0,1,true⟩)::agH p.2.1,.dead,[]⟩
def Ib (l:List Nd) (p:List Nat × List AV):St:=⟨[(4,.ref 0 0 0 l.length)],(0,⟨p.2,0,false,0,1,true⟩)::agH p.1,.dead,[]⟩
theorem Um:aG prog ap 59 [.nilS] [] (.ret (.sl (aj []) ([]:List Nat).length false)) []:=aiP.out (jG.ret rfl rfl (aQ.nilS false rfl))
theorem WM (st:List Nat) (i n:Nat) (h:i+n=st.length) (f:st.length<2^40):aG prog ap 59 [.ref 0 0 i n] [⟨aj st,0,false,0,1,true⟩] (.ret (.sl (aj (st.drop i)) n false)) [⟨aj st,0,false,0,1,true⟩]:=by
 have d:=air st i n;have e:n≤st.length:=by omega
 have c:ν n (ε i (aj st))=aj (st.drop i):=by
  rw [Lt,dQ,υ (by simp;omega)]
 have a:(aj (st.drop i)).length=n:=by rw [dm,Xxk];omega
 simp (disch:=first|omega|(simp [ay,az]<;>omega)) only [Ξ,c,a,JP,decide_true,Xqd,gy,bJ,Xqi] at d;have b:=(d True.intro (by omega)).thaw (by simp);simp only [xE,thaw,Ξ] at b;rw [υ (by rw [Xxa,a];omega),υ (by omega)] at b;exact b.out (jG.sl1 _ _ _)
theorem Z_ {nt:Nat} (k:45≤nt) (l p r:List Nd) (nn:Bool) (x:Nd) (st:List Nat) (C C2:List AV) (j:l=p++x::r) (t:l.length<2^39) (f:1≤x.op∧x.op≤24) (e:dM x.op≤st.length) (q:st.length≤p.length) (h:C.length=l.length)
  (hset:ν p.length C++ [Uc (st.drop (st.length - dM x.op))]++ε (p.length+1) C=C2):
  ψ nt f24 (Jd l nn (p.length,st,C)) .normal (Jd l nn (p.length+1,st.take (st.length - dM x.op)++ [p.length],C2)):=by
 have c:ε (δ (p.length:Int)*5) (a_ l)=qB x++a_ r:=by rw [j];exact DW rfl
 have g:p.length+(r.length+1)=l.length:=by rw [j];simp
 obtain ⟨u,v⟩:=f;have i:=Qh u v;unfold Jd;simp only;rw [Oo (jc _ _),Jc (jc _ _)];rcases Xxl (st= []) with rfl|hne
 ·have w:dM x.op=0:=by simpa using e
  have a:=ah0 k l nn p.length C [] [] x r c;simp only [Xqa,Nat.zero_sub,List.drop_nil,List.take_nil,Xqi] at hset ⊢;unfold Uc at hset;have d:=Um;simp (disch:=first|omega|(simp [ay,az]<;>omega)) only [Xqd,i,w,bi,jU,Xzd,bJ,aK,Ξ,h,gy,eU,bK,eP,bU,Xqa,dI,bC] at a;simp only [agE,agH,aj,Xqb,Xxt,ξ,Xqa,Xqd] at a hset d ⊢;rw [hset] at a;apply a<;>first|exact True.intro|omega|assumption|exact rfl|skip
 ·have s:=WM st (st.length - dM x.op) (dM x.op) (by omega) (by omega);have a:=ahX k l nn p.length C st (st.drop (st.length - dM x.op)) x r c;rw [Oo hne,Jc hne];unfold Uc at hset;generalize z:st.length - dM x.op=m at*
  have b:(st.drop m).length=dM x.op:=by rw [Xxk];omega
  have y:γ .i64 ((st.length:Int) - ((dM x.op:Nat):Int))=(m:Int):=by rw [bH]<;>omega
  have o:st.length - m=dM x.op:=by omega
  rw [b] at a hset;have n:(st.take m).length=m:=by rw [Xxa];omega
  simp (disch:=first|omega|(simp [ay,az]<;>omega)) only [Xqd,i,bi,y,aK,Xzd,gy,bJ,Ξ,dm,eU,h,bK,eP,bU,o,dI,bC,hset,dQ,kV] at a;simp only [η,φ,n];apply a<;>first|exact True.intro|omega|assumption|exact rfl|skip
theorem QE {r:List Nd} {d e:Nat} {x:Nd} (h:iE (x::r) d= .inl e):(1≤x.op∧x.op≤24)∧dM x.op≤d∧iE r (d - dM x.op+1)= .inl e:=by
 simp only [iE] at h;by_cases h1:aO x=0
 ·rw [if_pos h1] at h;by_cases h2:d<dM x.op
  ·rw [if_pos h2] at h;cases h
  ·rw [if_neg h2] at h;exact ⟨sU h1,by omega,h⟩
 ·rw [if_neg h1] at h;cases h
theorem wC (ll:List (List Nat)):(dH ll).length=ll.length:=by simp [dH]
theorem Ud (done:List (List Nat)) (a:List Nat) (m:Nat):ν done.length (dH done++μ (m+1) Xk2)++ [Uc a]++ε (done.length+1) (dH done++μ (m+1) Xk2)=dH (done++ [a])++μ m Xk2:=by
 have b:=wC done;rw [List.take_append_of_le_length (by omega),υ (by omega),List.drop_append,Xx8 (by omega),Xqi,show done.length+1 - (dH done).length=1 by omega,Xxh,List.drop_succ_cons,Xjr];unfold dH;rw [Xxx];rfl
theorem Z9 {nt:Nat} (j:45≤nt) (l:List Nd) (nn:Bool) (i:l.length<2^39) (e:Nat):∀ (r p:List Nd) (st:List Nat) (done:List (List Nat)),p++r=l→iE r st.length= .inl e→st.length≤p.length→done.length=p.length→aC prog ap [] nt (af 0 (ai f24)) (fun _=> .exit 0) (Jd l nn) (Ib l) (p.length,st,dH done++μ r.length .nilS) (stR r p.length st,dH (done++p_ r p.length st)):=by
 intro r
 induction r with
 | nil=>
  intro p st done h k c hd;have hp:p.length=l.length:=by rw [← h];simp
  rw [hp];simp only [p_,stR,Γ,Xqa,Xwh];refine .done ?_;unfold Jd Ib;have m:ψ nt f24 (Jd l nn (l.length,st,dH done)) (.exit 0) (Ib l (st,dH done)):=by
   unfold Jd Ib;rcases Xxl (st= []) with rfl|hne
   ·exact Ub j l nn l.length (dH done) [] [] (by rw [bK];simp [lit])
   ·simp only;rw [Oo hne,Jc hne];exact Ua j l nn l.length (dH done) st [] (by rw [bK];simp [lit])
  exact m
 | cons x r ih=>
  intro p st done h k c hd;obtain ⟨g,f,d⟩:=QE k;have n:p.length+(r.length+1)=l.length:=by rw [← h];simp
  have b:(st.take (st.length - dM x.op)++ [p.length]).length=st.length - dM x.op+1:=by
   rw [η,Xxa,φ,Xjd (by omega)]
  have hnext:=ih (p++ [x]) (st.take (st.length - dM x.op)++ [p.length]) (done++ [st.drop (st.length - dM x.op)]) (by simp [h]) (by rw [b];exact d) (by rw [b];simp;omega) (by simp [hd]);rw [η,φ,τ] at hnext;simp only [p_,stR,ξ];have a:=Ud done (st.drop (st.length - dM x.op)) r.length;rw [hd] at a;have hstep:=Z_ j l p r nn x st (dH done++μ (r.length+1) .nilS) _ h.symm i g f c (by rw [η,wC,Xx9];omega) a;exact .next hstep hnext
theorem YR (n:Nat):gQ n [Xk2]=μ n Xk2:=by
 unfold gQ
 induction n with
 |zero=>rfl
 |succ n ih=>rw [Xxh,List.flatten_cons,ih,Xxh];rfl
theorem Ey {l:List Nd} (h:cO l=0):l.length≤60∧iE l 0= .inl 1:=by
 unfold cO at h;by_cases h60:60<l.length
 ·rw [if_pos h60] at h;cases h
 ·rw [if_neg h60] at h;refine ⟨by omega, ?_⟩;have a:∀ (r:List Nd) (d:Nat) (w:Int),iE r d= .inr w→w ≠ 0:=by
   intro r
   induction r with
   |nil=>intro d w h;cases h
   | cons x r ih=>
    intro d w h;simp only [iE] at h;by_cases h1:aO x=0
    ·rw [if_pos h1] at h;by_cases h2:d<dM x.op
     ·rw [if_pos h2] at h;cases h;decide
     ·rw [if_neg h2] at h;exact ih _ _ h
    ·rw [if_neg h1] at h;cases h;exact h1
  cases b:iE l 0 with
  |inl d=>
   rw [b] at h;by_cases hd:d=1
   ·rw [hd]
   ·simp only [if_neg hd] at h;cases h
  |inr w=>rw [b] at h;exact absurd h (a l 0 w b)
theorem Qw (l:List Nd) (nn:Bool) (d:∀ x ∈ l,x.sm) (k:cO l=0):CO 24 [.sl (a_ l) l.length nn] (.ret (.tup [.sl (dH (dh l)) l.length true,.bool true])):=by
 have b:ν l.length (dH (dh l))=dH (dh l):=υ (by rw [wC];unfold dh;rw [Eo];omega)
 suffices hown:CO 24 [.sl (a_ l) l.length nn] (.ret (.tup [.own (dH (dh l)) l.length 1,.bool true])) by
  have h:=hown.thaw (by simp);simp only [xE,Xqb,Xxt,thaw,Ξ,b] at h;exact h
 have f:=yS l nn d;obtain ⟨n,c⟩:=Ey k;rw [k] at f;have hloop:=fun nt (hn:45≤nt)=>Z9 hn l nn (by omega) 1 l [] [] [] rfl c (by simp) rfl
 have e:(dh l).length=l.length:=Eo l 0 [];have h:=ahZ l nn 0 (dH (dh l));simp (disch:=first|omega|(simp [ay,az]<;>omega)) only [eU,bJ,decide_true,fK,gV,Yn,aK,YR,Ξ,b] at h;have j:(dH (dh l)).length=l.length:=by rw [wC,e]
 have o:l.length<1099511627776:=by omega
 apply h<;>first|exact True.intro|omega|assumption|exact rfl|skip
 intro nt g;have i:=aC.blk (s:=Jd l nn (0,[],μ l.length Xk2)) (s':=Ib l (stR l 0 [],dH (dh l))) (id:=0) hloop (by simp) rfl (aP.refl _) (aP.refl _) nt g;unfold Jd Ib at i;simp only [agE,agH] at i;have a:=i.weak (s':=⟨[(0,.sl (a_ l) l.length nn),(2,.nilS),(3,.bool false),(4,.ref 0 0 0 l.length),(5,.nilS),(6,.dead),(7,.dead),(8,.dead),(11,.bool false),(15,.sl (a_ l) l.length nn),(16,ω (l.length:Int)),(17,ω 0),(18,.dead)],[(0,⟨μ l.length Xk2,0,false,0,1,true⟩)],.dead,[]⟩) (aP.of ⟨rfl,rfl,rfl,rfl,rfl,trivial⟩) (aP.refl _);rcases Xxl (stR l 0 []= []) with he|he
 ·rw [he] at a;exact a
 ·have m:=Jc he;unfold agH at m;rw [m] at a;exact a.forget 1 _ (by intro v h;cases h) (by decide) rfl ⟨Fz.same rfl,trivial⟩ ⟨rfl,Oh.same rfl,by decide,rfl⟩
theorem mV (k:Nat):decide (((0:Nat):Int)≤(k:Int))=true:=Yq0 (by omega)
theorem lH {k n:Nat} (h:k<n):decide ((k:Int)<(n:Int))=true:=Yq0 (by omega)
theorem Dn {k n:Nat} (h:n≤k):decide ((k:Int)<(n:Int))=false:=Yq1 (by omega)
def ixE:Option Nat→bM
 |none=> .exit 0
 |some _=> .ret
def ixI:Option Nat→Int
 |none=> -1
 |some i=>(i:Int)
theorem lu {p q:Prop} (h:p) (e:p=q):q:=e ▸ h
theorem an6 {nt:Nat} (z:92≤nt) (u v o:List Nat) (i j c a x y:Nat) (l:ω (χ (ζ (ε ((0+(δ (((i+j):Nat):Int)))*1) (aj o)) .dead))= ω (x:Int)) (h:ω (χ (ζ (ε ((δ (i:Int))*1) (aj u)) .dead))= ω (a:Int)) (g:ω (χ (ζ (ε ((δ (j:Int))*1) (aj v)) .dead))= ω (y:Int)) (m:ω (γ .i64 ((a:Int)*(y:Int)))= ω (((a*y):Nat):Int)) (p:ω (γ .i64 ((x:Int)+(((a*y):Nat):Int)))= ω (((x+a*y):Nat):Int)) (n:ω (γ .i64 ((((x+a*y):Nat):Int)+(c:Int)))= ω (((x+a*y+c):Nat):Int)) (d:ω (γ .i64 ((i:Int)+(j:Int)))= ω (((i+j):Nat):Int)) (f:ω (Xxj (((x+a*y+c):Nat):Int) ((16777216:Nat):Int))= ω ((((x+a*y+c) % 16777216):Nat):Int)) (k:ω (γ .i64 (Xxm (((x+a*y+c):Nat):Int) ((16777216:Nat):Int)))= ω ((((x+a*y+c) / 16777216):Nat):Int)) (e:ω (γ .i64 ((j:Int)+((1:Nat):Int)))= ω (((j+1):Nat):Int)) (B:(Xqc (((0+(δ (((i+j):Nat):Int)))*1)+1) (θ (aj o)))=true) (r:(decide (((0:Nat):Int)≤(((i+j):Nat):Int)))=true) (q:(decide ((((i+j):Nat):Int)<(o.length:Int)))=true) (w:(chk (.int .i64) (ζ (ε ((δ (j:Int))*1) (aj v)) .dead))=true) (C:(decide (((0:Nat):Int)≤(j:Int)))=true) (s:(chk (.int .i64) (ζ (ε ((δ (i:Int))*1) (aj u)) .dead))=true) (A:(decide (((0:Nat):Int)≤(i:Int)))=true) (D:(decide ((i:Int)<(u.length:Int)))=true) (t:(chk (.int .i64) (ζ (ε ((0+(δ (((i+j):Nat):Int)))*1) (aj o)) .dead))=true) (b:(decide ((j:Int)<(v.length:Int)))=true):au prog ap [] nt (af 2 (ai f100)) ⟨[(9,.sl (aj u) u.length false),(10,.sl (aj v) v.length false),(11,.ref 0 0 0 o.length),(12,ω (i:Int)),(13,ω (c:Int)),(14,ω (j:Int))],[(0,⟨(aj o),0,false,0,1,true⟩)],.dead,[]⟩ (.normal) ⟨[(9,.sl (aj u) u.length false),(10,.sl (aj v) v.length false),(11,.ref 0 0 0 o.length),(12,ω (i:Int)),(13,ω ((((x+a*y+c) / 16777216):Nat):Int)),(14,ω (((j+1):Nat):Int))],[(0,⟨(ν ((0+(δ (((i+j):Nat):Int)))*1) (aj o)++ [ω ((((x+a*y+c) % 16777216):Nat):Int)]++ε (((0+(δ (((i+j):Nat):Int)))*1)+1) (aj o)),0,false,0,1,true⟩)],.dead,[]⟩:=pN 100 [] 1 1 (.k 1 B (.c r (.c q (.k 1 w (.c C (.c b (.c s (.c A (.c D (.c t (.c r (.c q (.c (aA b) .nil))))))))))))) (.v 55 (.eq e) (.v 82 (.eq k) (.v 79 (.eq f) (.v 77 (.eq d) (.v 73 (.eq n) (.v 71 (.eq p) (.v 70 (.eq m) (.v 69 (.eq g) (.v 65 (.eq h) (.v 61 (.eq l) (.v 59 (.eq d) .nil))))))))))) z
theorem an7 {nt:Nat} (d:92≤nt) (u v o:List Nat) (i j c a x y:Nat) (b:(decide ((j:Int)<(v.length:Int)))=false):au prog ap [] nt (af 2 (ai f100)) ⟨[(9,.sl (aj u) u.length false),(10,.sl (aj v) v.length false),(11,.ref 0 0 0 o.length),(12,ω (i:Int)),(13,ω (c:Int)),(14,ω (j:Int))],[(0,⟨(aj o),0,false,0,1,true⟩)],.dead,[]⟩ (.exit 2) ⟨[(9,.sl (aj u) u.length false),(10,.sl (aj v) v.length false),(11,.ref 0 0 0 o.length),(12,ω (i:Int)),(13,ω (c:Int))],[(0,⟨(aj o),0,false,0,1,true⟩)],.dead,[]⟩:=pN 100 [] 1 0 (.c (aF b) .nil) (.nil) d
theorem an8 {nt:Nat} (k:92≤nt) (u v o a:List Nat) (i d:Nat) (c:ω (γ .i64 ((i:Int)+(v.length:Int)))= ω (((i+v.length):Nat):Int)) (b:ω (γ .i64 ((i:Int)+((1:Nat):Int)))= ω (((i+1):Nat):Int)) (e:(Xqc (((0+(δ (((i+v.length):Nat):Int)))*1)+1) (θ (aj a)))=true) (g:(decide (((0:Nat):Int)≤(((i+v.length):Nat):Int)))=true) (f:(decide ((((i+v.length):Nat):Int)<(a.length:Int)))=true) (h:(decide ((i:Int)<(u.length:Int)))=true) (j:aN prog ap [] 92 (.block 2 (.loop (af 2 (ai f100)))) ⟨[(0,.dead),(1,.dead),(4,.dead),(5,.dead),(6,.dead),(7,.dead),(8,.dead),(9,.sl (aj u) u.length false),(10,.sl (aj v) v.length false),(11,.ref 0 0 0 o.length),(12,ω (i:Int)),(13,ω 0),(14,ω 0),(15,.dead),(29,.dead),(47,.bool (decide ((i:Int)<(u.length:Int)))),(53,.dead)],[(0,⟨(aj o),0,false,0,1,true⟩)],.dead,[]⟩ (.normal) ⟨[(9,.sl (aj u) u.length false),(10,.sl (aj v) v.length false),(11,.ref 0 0 0 a.length),(12,ω (i:Int)),(13,ω (d:Int))],[(0,⟨(aj a),0,false,0,1,true⟩)],.dead,[]⟩):ψ nt f100 ⟨[(9,.sl (aj u) u.length false),(10,.sl (aj v) v.length false),(11,.ref 0 0 0 o.length),(12,ω (i:Int))],[(0,⟨(aj o),0,false,0,1,true⟩)],.dead,[]⟩ (.normal) ⟨[(9,.sl (aj u) u.length false),(10,.sl (aj v) v.length false),(11,.ref 0 0 0 a.length),(12,ω (((i+1):Nat):Int))],[(0,⟨(ν ((0+(δ (((i+v.length):Nat):Int)))*1) (aj a)++ [ω (d:Int)]++ε (((0+(δ (((i+v.length):Nat):Int)))*1)+1) (aj a)),0,false,0,1,true⟩)],.dead,[]⟩:=pN 100 [2] 1 1 (.c e (.c g (.c f (.c (aA h) .nil)))) (.v 49 (.eq b) (.v 87 (.eq c) (.l j .nil))) k
theorem an9 {nt:Nat} (b:92≤nt) (u v o c:List Nat) (i d:Nat) (a:(decide ((i:Int)<(u.length:Int)))=false):ψ nt f100 ⟨[(9,.sl (aj u) u.length false),(10,.sl (aj v) v.length false),(11,.ref 0 0 0 o.length),(12,ω (i:Int))],[(0,⟨(aj o),0,false,0,1,true⟩)],.dead,[]⟩ (.exit 0) ⟨[(11,.ref 0 0 0 o.length)],[(0,⟨(aj o),0,false,0,1,true⟩)],.dead,[]⟩:=pN 100 [] 1 0 (.c (aF a) .nil) (.nil) b
theorem an3 (s t:List UInt8) (x y z:Nat) (a:List Nat) (b:(decide (((0:Nat):Int)≤(γ .i64 ((((ax (ah s)).length:Nat):Int)+(((ax (ah t)).length:Nat):Int)))))=true) (j:(decide ((γ .i64 ((((ax (ah s)).length:Nat):Int)+(((ax (ah t)).length:Nat):Int)))=(γ .i64 ((((ax (ah s)).length:Nat):Int)+(((ax (ah t)).length:Nat):Int)))))=true) (c:(decide ((γ .i64 ((((ax (ah s)).length:Nat):Int)+(((ax (ah t)).length:Nat):Int)))≤((1099511627776:Nat):Int)))=true) (e:CO 134 [.str s,ω 3] (.ret (.tup [ω (x:Int),.bool true]))) (d:CO 134 [.str t,ω 4] (.ret (.tup [ω (y:Int),.bool false]))) (f:CO 135 [.str s] (.ret (.sl (aj (ax (ah s))) (ax (ah s)).length false))) (g:CO 135 [.str t] (.ret (.sl (aj (ax (ah t))) (ax (ah t)).length false))) (h:CO 136 [.sl (ν (a.length*1) (aj a)) a.length true] (.ret (.str (ae z)))) (i:aN prog ap [] 92 (.block 0 (.loop (af 0 (ai f100)))) ⟨[(0,.str s),(1,.str t),(4,.str []),(5,ω (x:Int)),(6,.bool true),(7,ω (y:Int)),(8,.bool false),(9,.sl (aj (ax (ah s))) (ax (ah s)).length false),(10,.sl (aj (ax (ah t))) (ax (ah t)).length false),(11,.ref 0 0 0 (δ (γ .i64 ((((ax (ah s)).length:Nat):Int)+(((ax (ah t)).length:Nat):Int))))),(12,ω 0),(13,.dead),(14,.dead),(15,.dead),(29,.bool false),(47,.dead),(53,.dead)],[(0,⟨(gQ (δ (γ .i64 ((((ax (ah s)).length:Nat):Int)+(((ax (ah t)).length:Nat):Int)))) [ω 0]),0,false,0,1,true⟩)],.dead,[]⟩ (.normal) ⟨[(11,.ref 0 0 0 a.length)],[(0,⟨(aj a),0,false,0,1,true⟩)],.dead,[]⟩):CO 100 [.str s,.str t] (.ret (.str (ae z))):=pK [0] 2 1 (.c b (.c j (.c c (.n 2 .nil)))) (.c h (.l i (.c g (.c f (.c d (.c e .nil))))))
theorem an4 (s t:List UInt8) (x y z:Nat) (a:List Nat) (b:(decide (((0:Nat):Int)≤(γ .i64 ((((ax (ah s)).length:Nat):Int)+(((ax (ah t)).length:Nat):Int)))))=true) (j:(decide ((γ .i64 ((((ax (ah s)).length:Nat):Int)+(((ax (ah t)).length:Nat):Int)))=(γ .i64 ((((ax (ah s)).length:Nat):Int)+(((ax (ah t)).length:Nat):Int)))))=true) (c:(decide ((γ .i64 ((((ax (ah s)).length:Nat):Int)+(((ax (ah t)).length:Nat):Int)))≤((1099511627776:Nat):Int)))=true) (e:CO 134 [.str s,ω 3] (.ret (.tup [ω (x:Int),.bool false]))) (d:CO 134 [.str t,ω 4] (.ret (.tup [ω (y:Int),.bool true]))) (f:CO 135 [.str s] (.ret (.sl (aj (ax (ah s))) (ax (ah s)).length false))) (g:CO 135 [.str t] (.ret (.sl (aj (ax (ah t))) (ax (ah t)).length false))) (h:CO 136 [.sl (ν (a.length*1) (aj a)) a.length true] (.ret (.str (ae z)))) (i:aN prog ap [] 92 (.block 0 (.loop (af 0 (ai f100)))) ⟨[(0,.str s),(1,.str t),(4,.str []),(5,ω (x:Int)),(6,.bool false),(7,ω (y:Int)),(8,.bool true),(9,.sl (aj (ax (ah s))) (ax (ah s)).length false),(10,.sl (aj (ax (ah t))) (ax (ah t)).length false),(11,.ref 0 0 0 (δ (γ .i64 ((((ax (ah s)).length:Nat):Int)+(((ax (ah t)).length:Nat):Int))))),(12,ω 0),(13,.dead),(14,.dead),(15,.dead),(29,.bool false),(47,.dead),(53,.dead)],[(0,⟨(gQ (δ (γ .i64 ((((ax (ah s)).length:Nat):Int)+(((ax (ah t)).length:Nat):Int)))) [ω 0]),0,false,0,1,true⟩)],.dead,[]⟩ (.normal) ⟨[(11,.ref 0 0 0 a.length)],[(0,⟨(aj a),0,false,0,1,true⟩)],.dead,[]⟩):CO 100 [.str s,.str t] (.ret (.str (ae z))):=pK [0] 2 0 (.c b (.c j (.c c (.n 2 .nil)))) (.c h (.l i (.c g (.c f (.c d (.c e .nil))))))
theorem an5 (s t:List UInt8) (x y z:Nat) (a:List Nat) (b:(decide (((0:Nat):Int)≤(γ .i64 ((((ax (ah s)).length:Nat):Int)+(((ax (ah t)).length:Nat):Int)))))=true) (j:(decide ((γ .i64 ((((ax (ah s)).length:Nat):Int)+(((ax (ah t)).length:Nat):Int)))=(γ .i64 ((((ax (ah s)).length:Nat):Int)+(((ax (ah t)).length:Nat):Int)))))=true) (c:(decide ((γ .i64 ((((ax (ah s)).length:Nat):Int)+(((ax (ah t)).length:Nat):Int)))≤((1099511627776:Nat):Int)))=true) (e:CO 134 [.str s,ω 3] (.ret (.tup [ω (x:Int),.bool false]))) (d:CO 134 [.str t,ω 4] (.ret (.tup [ω (y:Int),.bool false]))) (f:CO 135 [.str s] (.ret (.sl (aj (ax (ah s))) (ax (ah s)).length false))) (g:CO 135 [.str t] (.ret (.sl (aj (ax (ah t))) (ax (ah t)).length false))) (h:CO 136 [.sl (ν (a.length*1) (aj a)) a.length true] (.ret (.str (ae z)))) (i:aN prog ap [] 92 (.block 0 (.loop (af 0 (ai f100)))) ⟨[(0,.str s),(1,.str t),(4,.str []),(5,ω (x:Int)),(6,.bool false),(7,ω (y:Int)),(8,.bool false),(9,.sl (aj (ax (ah s))) (ax (ah s)).length false),(10,.sl (aj (ax (ah t))) (ax (ah t)).length false),(11,.ref 0 0 0 (δ (γ .i64 ((((ax (ah s)).length:Nat):Int)+(((ax (ah t)).length:Nat):Int))))),(12,ω 0),(13,.dead),(14,.dead),(15,.dead),(29,.bool false),(47,.dead),(53,.dead)],[(0,⟨(gQ (δ (γ .i64 ((((ax (ah s)).length:Nat):Int)+(((ax (ah t)).length:Nat):Int)))) [ω 0]),0,false,0,1,true⟩)],.dead,[]⟩ (.normal) ⟨[(11,.ref 0 0 0 a.length)],[(0,⟨(aj a),0,false,0,1,true⟩)],.dead,[]⟩):CO 100 [.str s,.str t] (.ret (.str (ae z))):=pK [0] 2 0 (.c b (.c j (.c c (.n 2 .nil)))) (.c h (.l i (.c g (.c f (.c d (.c e .nil))))))
def G8 (a:Nat):List Nat→List Nat→Nat→List Nat × Nat
 |x::m,y::v,c=>((x+a*y+c) % 16777216::(G8 a m v ((x+a*y+c) / 16777216)).1,(G8 a m v ((x+a*y+c) / 16777216)).2)
 |_,_,c=>([],c)
theorem MN {a x y c:Nat} (f:a<16777216) (b:x<16777216) (e:y<16777216) (d:c<16777216):a*y<281474976710656∧x+a*y+c<281474976710656∧(x+a*y+c) / 16777216<16777216:=by
 have g:a*y≤16777215*16777215:=Xwz (by omega) (by omega);omega
theorem JO {a:Nat} (b:a<16777216):∀ (m v:List Nat) (c:Nat),m.length=v.length→c<16777216→bz m→bz v→(G8 a m v c).2<16777216∧bz (G8 a m v c).1∧(G8 a m v c).1.length=v.length∧dA (G8 a m v c).1+16777216^v.length*(G8 a m v c).2=dA m+a*dA v+c
 | [],[],c,_,hc,_,_=> ⟨hc,bz.nil,rfl,by simp [G8,dA]⟩
 |x::m,y::v,c,hl,hc,hm,hv=>by
  obtain ⟨_,_,g⟩:=MN b hm.head hv.head hc;obtain ⟨d,e,f,i⟩:=JO b m v _ (by simpa using hl) g hm.tail hv.tail;simp only [G8];refine ⟨d,bz.cons (Xq3 _ (by omega)) e,by simp [f], ?_⟩;simp only [dA,ξ,Xq5];rw [Xqe (16777216^v.length),Xqs,Xxe,Xwt a];omega
 | [],_::_,_,h,_,_,_=>by simp at h
 |_::_,[],_,h,_,_,_=>by simp at h
def V3 (v:List Nat):List Nat→List Nat→List Nat
 | [],m=>m
 |a::u,m=>((G8 a m v 0).1++ [(G8 a m v 0).2]).headD 0::V3 v u ((G8 a m v 0).1++ [(G8 a m v 0).2]).tail
theorem Jz (l:List Nat) (y:Nat):∃ z m,l++ [y]=z::m∧m.length=l.length:=by
 cases l with
 |nil=>exact ⟨y,[],rfl,rfl⟩
 |cons b l=>exact ⟨b,l++ [y],rfl,by simp⟩
theorem RF {v:List Nat} (e:bz v):∀ (u m:List Nat),bz u→bz m→m.length=v.length→bz (V3 v u m)∧(V3 v u m).length=u.length+v.length∧dA (V3 v u m)=dA m+dA u*dA v
 | [],m,_,hm,hl=> ⟨hm,by simp [V3,hl],by simp [V3,dA]⟩
 | a::u,m,hu,hm,hl=>by
  obtain ⟨l,k,h,o⟩:=JO hu.head m v 0 hl (by omega) hm e;obtain ⟨z,b,c,n⟩:=Jz (G8 a m v 0).1 (G8 a m v 0).2;have d:bz (z::b):=by rw [← c];exact bz.app k (bz.cons l bz.nil)
  have g:dA (z::b)=dA m+a*dA v:=by
   rw [← c,Am,h];simp only [dA];omega
  simp only [V3,c,Xjl,Xzn];obtain ⟨f,i,j⟩:=RF e u b hu.tail d.tail (by omega);refine ⟨bz.cons d.head f,by simp [i];omega, ?_⟩;simp only [dA] at g ⊢;rw [j,Xxw,Xxe,Xqs];omega
def akA (u v:List Nat) (i:Nat) (p:Nat × List Nat × Nat):St:=⟨[(9,.sl (aj u) u.length false),(10,.sl (aj v) v.length false),(11,.ref 0 0 0 p.2.1.length),(12,ω (i:Int)),(13,ω (p.2.2:Int)),(14,ω (p.1:Int))],[(0,⟨aj p.2.1,0,false,0,1,true⟩)],.dead,[]⟩
def aoj (u v:List Nat) (i:Nat) (p:List Nat × Nat):St:=⟨[(9,.sl (aj u) u.length false),(10,.sl (aj v) v.length false),(11,.ref 0 0 0 p.1.length),(12,ω (i:Int)),(13,ω (p.2:Int))],[(0,⟨aj p.1,0,false,0,1,true⟩)],.dead,[]⟩
theorem Zb {p s:List Nat} {x y k:Nat} (h:k=p.length):ν ((0+(δ (k:Int)))*1) (aj (p++x::s))++ [ω (y:Int)]++ε (((0+(δ (k:Int)))*1)+1) (aj (p++x::s))=aj (p++y::s):=by
 rw [Xqd,Ξ,aK,Q_ (by rw [h];simp)];subst h;simp
theorem afS {p s:List Nat} {x k:Nat} (h:k=p.length):(ζ (ε ((0+(δ (k:Int)))*1) (aj (p++x::s))) .dead)= ω (x:Int):=by
 rw [Xqd,Ξ,aK];exact Q9 h
theorem Q5 {p s:List Nat} {x k:Nat} (h:k=p.length):(ζ (ε ((δ (k:Int))*1) (aj (p++x::s))) .dead)= ω (x:Int):=by
 rw [Ξ,aK];exact Q9 h
theorem TU {a b:Nat} (h:a+b<9223372036854775808):ω (γ .i64 ((a:Int)+(b:Int)))= ω ((a+b:Nat):Int):=by
 rw [dI,bC h]
theorem abu {nt:Nat} (r:92≤nt) (u u1 u2 v:List Nat) (a:Nat) (B:u=u1++a::u2) (I:a<16777216) (L:bz v) (E:u.length<2^36) (S:v.length<2^36):∀ (w m b d pp z:List Nat) (c:Nat),b++w=v→m.length=w.length→d.length=b.length→pp.length=u1.length→bz m→c<16777216→
  aC prog ap [] nt (af 2 (ai f100)) (fun _=> .exit 2) (akA u v u1.length) (aoj u v u1.length) (b.length,pp++d++m++z,c) (pp++d++(G8 a m w c).1++z,(G8 a m w c).2):=by
 intro w
 induction w with
 |nil=>
  intro m b d pp z c f g o A i n;have D:m= []:=List.length_eq_zero_iff.1 (by simpa using g);subst D;have h:b=v:=by simpa using f
  simp only [G8];exact .done (an7 r u v _ _ _ _ 0 0 0 (by rw [h];exact Yq1 (by omega)))
 | cons y w ih=>
  intro m b d pp z c f g o A i n;cases m with
  |nil=>simp at g
  | cons x m=>
   have T:b.length+(w.length+1)=v.length:=by rw [← f];simp
   have U:u1.length+(u2.length+1)=u.length:=by rw [B];simp
   have R:y<16777216:=L y (by rw [← f];simp);obtain ⟨X,W,G⟩:=MN I i.head R n;have e:=ih m (b++ [y]) (d++ [(x+a*y+c) % 16777216]) pp z ((x+a*y+c) / 16777216) (by simp [f]) (by simpa using g) (by simp [o]) A i.tail G;simp only [G8];rw [η,φ] at e;have V:pp++d++x::m++z=(pp++d)++x::(m++z):=by simp
   have H:pp++(d++ [(x+a*y+c) % 16777216])++m++z=(pp++d)++(x+a*y+c) % 16777216::(m++z):=by simp
   have O:pp++(d++ [(x+a*y+c) % 16777216])++(G8 a m w ((x+a*y+c) / 16777216)).1++z=pp++d++(x+a*y+c) % 16777216::(G8 a m w ((x+a*y+c) / 16777216)).1++z:=by simp
   rw [O] at e;refine .next ?_ e
   have q:u1.length+b.length=(pp++d).length:=by rw [η];omega
   have t:((pp++d)++x::(m++z)).length=(pp++d).length+(m++z).length+1:=by simp;omega
   have hlen2:((pp++d)++(x+a*y+c) % 16777216::(m++z)).length=((pp++d)++x::(m++z)).length:=by simp
   have J:=afS (p:=pp++d) (s:=m++z) (x:=x) q;have C:(ζ (ε ((δ (u1.length:Int))*1) (aj u)) .dead)= ω (a:Int):=by rw [B];exact Q5 rfl
   have K:(ζ (ε ((δ (b.length:Int))*1) (aj v)) .dead)= ω (y:Int):=by rw [← f];exact Q5 rfl
   have F:=Zb (p:=pp++d) (s:=m++z) (x:=x) (y:=(x+a*y+c) % 16777216) q;unfold akA;simp only [V,H,hlen2];have hs:=an6 r u v ((pp++d)++x::(m++z)) u1.length b.length c a x y;rw [F,J,C,K] at hs;have k:u1.length<u.length:=by omega
   have l:b.length<v.length:=by omega
   have j:u1.length+b.length<((pp++d)++x::(m++z)).length:=by omega
   have Q:ω (Xxj (((x+a*y+c):Nat):Int) ((16777216:Nat):Int))= ω ((((x+a*y+c) % 16777216):Nat):Int):=by rw [uV]
   have N:ω (γ .i64 (Xxm (((x+a*y+c):Nat):Int) ((16777216:Nat):Int)))= ω ((((x+a*y+c) / 16777216):Nat):Int):=by rw [tC,bC (by omega)]
   have P:ω (γ .i64 ((a:Int)*(y:Int)))= ω ((a*y:Nat):Int):=by rw [TT (by omega)]
   have M:Xqc (((0+(δ (((u1.length+b.length):Nat):Int)))*1)+1) (θ (aj ((pp++d)++x::(m++z))))=true:=by
    rw [Xzq,aK,dm];omega
   apply hs<;>first|exact rfl|exact TU (by omega)|exact Q|exact N|exact P|exact M|exact mV _|exact lH k|exact lH l|exact lH j
def Yi (u v:List Nat) (p:Nat × List Nat):St:=⟨[(9,.sl (aj u) u.length false),(10,.sl (aj v) v.length false),(11,.ref 0 0 0 p.2.length),(12,ω (p.1:Int))],[(0,⟨aj p.2,0,false,0,1,true⟩)],.dead,[]⟩
def agh (o:List Nat):St:=⟨[(11,.ref 0 0 0 o.length)],[(0,⟨aj o,0,false,0,1,true⟩)],.dead,[]⟩
theorem YF {nt:Nat} (g:92≤nt) (u v:List Nat) (e:bz u) (B:bz v) (i:u.length<2^36) (t:v.length<2^36):∀ (u2 u1 m pp:List Nat),u1++u2=u→m.length=v.length→pp.length=u1.length→bz m→
  aC prog ap [] nt (af 0 (ai f100)) (fun _=> .exit 0) (Yi u v) agh (u1.length,pp++m++μ u2.length 0) (pp++V3 v u2 m):=by
 intro u2
 induction u2 with
 |nil=>
  intro u1 m pp c k j w;have o:u1=u:=by simpa using c
  simp only [V3,Xqa,Xwh,Γ];exact .done (an9 g u v _ [] _ 0 (by rw [o];exact Yq1 (by omega)))
 | cons a u2 ih=>
  intro u1 m pp c k j w;have L:u1.length+(u2.length+1)=u.length:=by rw [← c];simp
  have A:a<16777216:=e a (by rw [← c];simp);obtain ⟨H,G,N,O⟩:=JO A m v 0 k (by omega) w B;have l:=fun nt (g:92≤nt)=>abu g u u1 u2 v a c.symm A B i t v m [] [] pp (μ (u2.length+1) 0) 0 rfl k rfl j w (by omega)
  simp only [V3];generalize G8 a m v 0=r at*
  obtain ⟨z,f,h,M⟩:=Jz r.1 r.2;have C:bz (z::f):=by rw [← h];exact bz.app G (bz.cons H bz.nil)
  have b:=ih (u1++ [a]) f (pp++ [z]) (by simp [c]) (by omega) (by simp [j]) C.tail;simp only [h,Xjl,Xzn];rw [η,φ] at b;have J:pp++ [z]++V3 v u2 f=pp++z::V3 v u2 f:=by simp
  rw [J] at b;refine .next ?_ b
  rw [Γ] at l;have E:u1.length+v.length=(pp++r.1).length:=by rw [η];omega
  have K:pp++r.1++μ (u2.length+1) 0=(pp++r.1)++0::μ u2.length 0:=by rw [Xxh]
  have F:pp++ [z]++f++μ u2.length 0=(pp++r.1)++r.2::μ u2.length 0:=by
   rw [τ pp,Xqu,← h];simp
  have D:=Zb (p:=pp++r.1) (s:=μ u2.length 0) (x:=0) (y:=r.2) E;rw [K] at l;have d:((pp++r.1)++0::μ u2.length 0).length=((pp++r.1)++r.2::μ u2.length 0).length:=by simp
  have hlen2:((pp++r.1)++0::μ u2.length 0).length=(pp++r.1).length+u2.length+1:=by simp;omega
  have hs:=an8 g u v (pp++m++μ (u2.length+1) 0) ((pp++r.1)++0::μ u2.length 0) u1.length r.2;rw [D] at hs;have q:u1.length<u.length:=by omega
  have n:u1.length+v.length<((pp++r.1)++0::μ u2.length 0).length:=by omega
  have I:Xqc (((0+(δ (((u1.length+v.length):Nat):Int)))*1)+1) (θ (aj ((pp++r.1)++0::μ u2.length 0)))=true:=by
   rw [Xzq,aK,dm];omega
  unfold Yi;simp only [F,ξ];rw [← d];apply hs<;>first|exact TU (by omega)|exact I|exact mV _|exact lH q|exact lH n|skip
  exact aC.blk l (by simp) rfl (aP.of ⟨rfl,rfl,rfl,rfl,rfl,rfl,trivial⟩) (aP.refl _)
theorem xN {s:List UInt8} (h:s.length<2^35):(ax (ah s)).length<2^35:=by
 have a:(ax (ah s)).length≤s.length:=tK (Φ (lD s) (by rw [Xji];exact Xkr (by decide) _));omega
theorem U3 (s t:List UInt8) (hs:s.length<2^35) (e:t.length<2^35):∃ o3:List Nat,o3.length<2^36∧bz o3∧dA o3=ah s*ah t∧∀ nt,92≤nt→aC prog ap [] nt (af 0 (ai f100)) (fun _=> .exit 0) (Yi (ax (ah s)) (ax (ah t))) agh (0,μ ((ax (ah s)).length+(ax (ah t)).length) 0) o3:=by
 have g:=xN hs;have f:=xN e;obtain ⟨a,d,b⟩:=RF (bz.dig (ah t)) (ax (ah s)) (μ (ax (ah t)).length 0) (bz.dig _) (bz.zeros _) (by simp);refine ⟨_,by rw [d];omega,a, ?_,fun nt c=> ?_⟩
 ·rw [b,Qq,fB,fB,Xqd]
 ·have:=YF c (ax (ah s)) (ax (ah t)) (bz.dig _) (bz.dig _) (by omega) (by omega) (ax (ah s)) [] (μ (ax (ah t)).length 0) [] rfl (by simp) rfl (bz.zeros _);rw [Xqi,Xqi,Xwx,Xx3] at this;exact this
theorem Yh (s t:List UInt8) (hs:s.length<2^35) (o:t.length<2^35):CO 100 [.str s,.str t] (.ret (.str (ae (ah s*ah t)))):=by
 obtain ⟨a,v,y,x,A⟩:=U3 s t hs o;have C:=xN hs;have B:=xN o;have j:=CW s (by omega);have h:=CW t (by omega);have e:=vO a true v y;rw [x] at e;have i:ν (a.length*1) (aj a)=aj a:=by rw [Ξ,dQ,Xq1]
 rw [← i] at e;have z:γ .i64 ((((ax (ah s)).length:Nat):Int)+(((ax (ah t)).length:Nat):Int))=(((ax (ah s)).length+(ax (ah t)).length:Nat):Int):=by
  rw [dI,bC (by omega)]
 have r:=an3 s t (ah s) 0 (ah s*ah t) a;have q:=an4 s t 0 (ah t) (ah s*ah t) a;have n:=an5 s t 0 0 (ah s*ah t) a;rw [z,aK,Ko] at r q n;have k:=Yq0 (p:=((0:Nat):Int)≤(((ax (ah s)).length+(ax (ah t)).length:Nat):Int)) (by omega);have l:=Yq0 (p:=(((ax (ah s)).length+(ax (ah t)).length:Nat):Int)=(((ax (ah s)).length+(ax (ah t)).length:Nat):Int)) rfl;have g:=Yq0 (p:=(((ax (ah s)).length+(ax (ah t)).length:Nat):Int)≤((1099511627776:Nat):Int)) (by omega);have c:=aC.blk (s:=Yi (ax (ah s)) (ax (ah t)) (0,μ ((ax (ah s)).length+(ax (ah t)).length) 0)) (s':=agh a) (id:=0) A (by simp) rfl (aP.refl _) (aP.refl _);have w:((ax (ah s)).length+(ax (ah t)).length)=(μ ((ax (ah s)).length+(ax (ah t)).length) 0).length:=by rw [Xx9]
 unfold Yi at c;simp only [← w] at c;rcases Xxc (ah s) (2^(8*3)) with c1|c1
 ·have d:=iq s 3 (by omega) (by omega) c1;rcases Xxc (ah t) (2^(8*4)) with c2|c2
  ·have b:=iq t 4 (by omega) (by omega) c2;have u:ah s*ah t<9223372036854775808:=Xqk (Xwz (show ah s≤16777215 by omega) (show ah t≤4294967295 by omega)) (by omega);have m:=lX (ah s*ah t) u;rw [← TT u] at m;exact ahb s t _ _ _ d b m
  ·have b:=lm t 4 (by omega) c2;exact r k l g d b j h e fun nt f=>(c nt f).weak (aP.of ⟨rfl,rfl,rfl,rfl,trivial⟩) (aP.refl _)
 ·have d:=lm s 3 (by omega) c1;rcases Xxc (ah t) (2^(8*4)) with c2|c2
  ·have b:=iq t 4 (by omega) (by omega) c2;exact q k l g d b j h e fun nt f=>(c nt f).weak (aP.of ⟨rfl,rfl,rfl,rfl,trivial⟩) (aP.refl _)
  ·have b:=lm t 4 (by omega) c2;exact n k l g d b j h e fun nt f=>(c nt f).weak (aP.of ⟨rfl,rfl,rfl,rfl,trivial⟩) (aP.refl _)
theorem aoq {nt:Nat} (B:68≤nt) (u v o:List Nat) (w d:Bool) (i j c a x y:Nat) (r:Xx0 .u32 (χ (ζ (ε ((δ (j:Int))*1) (ak v)) .dead))= .int .u32 (y:Int)) (m:Xx0 .u64 (γ .u64 (a:Int))= .int .u64 (a:Int)) (p:Xx0 .u64 (γ .u64 (y:Int))= .int .u64 (y:Int)) (g:Xx0 .u64 (γ .u64 ((a:Int)*(y:Int)))= .int .u64 (((a*y):Nat):Int)) (q:Xx0 .u32 (χ (ζ (ε ((0+(δ (((i+j):Nat):Int)))*1) (ak o)) .dead))= .int .u32 (x:Int)) (h:Xx0 .u64 (γ .u64 (x:Int))= .int .u64 (x:Int)) (l:Xx0 .u64 (γ .u64 ((((a*y):Nat):Int)+(x:Int)))= .int .u64 (((a*y+x):Nat):Int)) (e:Xx0 .u64 (γ .u64 ((((a*y+x):Nat):Int)+(c:Int)))= .int .u64 (((a*y+x+c):Nat):Int)) (b:ω (γ .i64 ((i:Int)+(j:Int)))= ω (((i+j):Nat):Int)) (f:Xx0 .u32 (γ .u32 (((a*y+x+c):Nat):Int))= .int .u32 ((((a*y+x+c) % 4294967296):Nat):Int)) (n:Xx0 .u64 (Xq4 (((a*y+x+c):Nat):Int) (2^(min 32 64)))= .int .u64 ((((a*y+x+c) / 4294967296):Nat):Int)) (k:ω (γ .i64 ((j:Int)+((1:Nat):Int)))= ω (((j+1):Nat):Int)) (D:(Xqc (((0+(δ (((i+j):Nat):Int)))*1)+1) (θ (ak o)))=true) (z:(decide (((0:Nat):Int)≤(((i+j):Nat):Int)))=true) (t:(decide ((((i+j):Nat):Int)<(o.length:Int)))=true) (A:(chk (.int .u32) (ζ (ε ((0+(δ (((i+j):Nat):Int)))*1) (ak o)) .dead))=true) (E:(chk (.int .u32) (ζ (ε ((δ (j:Int))*1) (ak v)) .dead))=true) (C:(decide (((0:Nat):Int)≤(j:Int)))=true) (s:(decide ((j:Int)<(v.length:Int)))=true):au prog ap [] nt (af 2 (ai f201)) ⟨[(1,.sl (ak v) v.length d),(5,.ref 0 0 0 o.length),(6,ω (i:Int)),(7,.int .u32 (a:Int)),(8,.int .u64 (c:Int)),(18,.sl (ak u) u.length w),(19,ω (u.length:Int)),(20,ω (i:Int)),(25,.sl (ak v) v.length d),(26,ω (v.length:Int)),(27,ω (j:Int))],[(0,⟨(ak o),0,false,0,1,true⟩)],.dead,[]⟩ (.normal) ⟨[(1,.sl (ak v) v.length d),(5,.ref 0 0 0 o.length),(6,ω (i:Int)),(7,.int .u32 (a:Int)),(8,.int .u64 ((((a*y+x+c) / 4294967296):Nat):Int)),(18,.sl (ak u) u.length w),(19,ω (u.length:Int)),(20,ω (i:Int)),(25,.sl (ak v) v.length d),(26,ω (v.length:Int)),(27,ω (((j+1):Nat):Int))],[(0,⟨(ν ((0+(δ (((i+j):Nat):Int)))*1) (ak o)++ [.int .u32 ((((a*y+x+c) % 4294967296):Nat):Int)]++ε (((0+(δ (((i+j):Nat):Int)))*1)+1) (ak o)),0,false,0,1,true⟩)],.dead,[]⟩:=pN 201 [] 1 1 (.c D (.c z (.c t (.k 1 A (.c z (.c t (.c E (.c C (.c s (.c (aA s) .nil)))))))))) (.v 56 (.eq k) (.v 54 (.eq n) (.v 52 (.eq f) (.v 50 (.eq b) (.v 46 (.eq e) (.v 44 (.eq l) (.v 43 (.eq h) (.v 42 (.eq q) (.v 40 (.eq b) (.v 36 (.eq g) (.v 35 (.eq p) (.v 33 (.eq m) (.v 31 (.eq r) .nil))))))))))))) B
theorem aor {nt:Nat} (f:68≤nt) (u v o:List Nat) (d b:Bool) (i j c a x y:Nat) (e:(decide ((j:Int)<(v.length:Int)))=false):au prog ap [] nt (af 2 (ai f201)) ⟨[(1,.sl (ak v) v.length b),(5,.ref 0 0 0 o.length),(6,ω (i:Int)),(7,.int .u32 (a:Int)),(8,.int .u64 (c:Int)),(18,.sl (ak u) u.length d),(19,ω (u.length:Int)),(20,ω (i:Int)),(25,.sl (ak v) v.length b),(26,ω (v.length:Int)),(27,ω (j:Int))],[(0,⟨(ak o),0,false,0,1,true⟩)],.dead,[]⟩ (.exit 2) ⟨[(1,.sl (ak v) v.length b),(5,.ref 0 0 0 o.length),(6,ω (i:Int)),(8,.int .u64 (c:Int)),(18,.sl (ak u) u.length d),(19,ω (u.length:Int)),(20,ω (i:Int))],[(0,⟨(ak o),0,false,0,1,true⟩)],.dead,[]⟩:=pN 201 [] 1 0 (.c (aF e) .nil) (.nil) f
theorem aos {nt:Nat} (n:68≤nt) (u v o b:List Nat) (e c:Bool) (i a d:Nat) (h:Xx0 .u32 (χ (ζ (ε ((δ (i:Int))*1) (ak u)) .dead))= .int .u32 (a:Int)) (f:ω (γ .i64 ((i:Int)+(v.length:Int)))= ω (((i+v.length):Nat):Int)) (g:Xx0 .u32 (γ .u32 (d:Int))= .int .u32 (d:Int)) (j:ω (γ .i64 ((i:Int)+((1:Nat):Int)))= ω (((i+1):Nat):Int)) (p:(Xqc (((0+(δ (((i+v.length):Nat):Int)))*1)+1) (θ (ak b)))=true) (s:(decide (((0:Nat):Int)≤(((i+v.length):Nat):Int)))=true) (q:(decide ((((i+v.length):Nat):Int)<(b.length:Int)))=true) (m:(chk (.int .u32) (ζ (ε ((δ (i:Int))*1) (ak u)) .dead))=true) (r:(decide (((0:Nat):Int)≤(i:Int)))=true) (k:(decide ((i:Int)<(u.length:Int)))=true) (l:aN prog ap [] 68 (.block 2 (.loop (af 2 (ai f201)))) ⟨[(0,.dead),(1,.sl (ak v) v.length c),(4,.dead),(5,.ref 0 0 0 o.length),(6,ω (i:Int)),(7,.int .u32 (a:Int)),(8,.int .u64 0),(9,.dead),(10,.dead),(11,.dead),(18,.sl (ak u) u.length e),(19,ω (u.length:Int)),(20,ω (i:Int)),(21,.bool (decide ((i:Int)<(u.length:Int)))),(25,.sl (ak v) v.length c),(26,ω (v.length:Int)),(27,ω 0),(28,.dead)],[(0,⟨(ak o),0,false,0,1,true⟩)],.dead,[]⟩ (.normal) ⟨[(1,.sl (ak v) v.length c),(5,.ref 0 0 0 b.length),(6,ω (i:Int)),(8,.int .u64 (d:Int)),(18,.sl (ak u) u.length e),(19,ω (u.length:Int)),(20,ω (i:Int))],[(0,⟨(ak b),0,false,0,1,true⟩)],.dead,[]⟩):ψ nt f201 ⟨[(1,.sl (ak v) v.length c),(5,.ref 0 0 0 o.length),(18,.sl (ak u) u.length e),(19,ω (u.length:Int)),(20,ω (i:Int))],[(0,⟨(ak o),0,false,0,1,true⟩)],.dead,[]⟩ (.normal) ⟨[(1,.sl (ak v) v.length c),(5,.ref 0 0 0 b.length),(18,.sl (ak u) u.length e),(19,ω (u.length:Int)),(20,ω (((i+1):Nat):Int))],[(0,⟨(ν ((0+(δ (((i+v.length):Nat):Int)))*1) (ak b)++ [.int .u32 (d:Int)]++ε (((0+(δ (((i+v.length):Nat):Int)))*1)+1) (ak b)),0,false,0,1,true⟩)],.dead,[]⟩:=pN 201 [2] 1 1 (.c p (.c s (.c q (.c m (.c r (.c k (.c (aA k) .nil))))))) (.v 65 (.eq j) (.v 63 (.eq g) (.v 61 (.eq f) (.l l (.v 24 (.eq h) .nil))))) n
theorem aot {nt:Nat} (e:68≤nt) (u v o f:List Nat) (d b:Bool) (i a g:Nat) (c:(decide ((i:Int)<(u.length:Int)))=false):ψ nt f201 ⟨[(1,.sl (ak v) v.length b),(5,.ref 0 0 0 o.length),(18,.sl (ak u) u.length d),(19,ω (u.length:Int)),(20,ω (i:Int))],[(0,⟨(ak o),0,false,0,1,true⟩)],.dead,[]⟩ (.exit 0) ⟨[(5,.ref 0 0 0 o.length)],[(0,⟨(ak o),0,false,0,1,true⟩)],.dead,[]⟩:=pN 201 [] 1 0 (.c (aF c) .nil) (.nil) e
theorem acn (a b w:List Nat) (c d:Bool) (z:Nat) (e:(decide (((0:Nat):Int)≤(γ .i64 ((a.length:Int)+(b.length:Int)))))=true) (i:(decide ((γ .i64 ((a.length:Int)+(b.length:Int)))=(γ .i64 ((a.length:Int)+(b.length:Int)))))=true) (f:(decide ((γ .i64 ((a.length:Int)+(b.length:Int)))≤((1099511627776:Nat):Int)))=true) (g:CO 162 [.sl (ν (w.length*1) (ak w)) w.length true] (.ret (.sl (ak (digs z)) (digs z).length true))) (h:aN prog ap [] 68 (.block 0 (.loop (af 0 (ai f201)))) ⟨[(0,.sl (ak a) a.length c),(1,.sl (ak b) b.length d),(4,.nilS),(5,.ref 0 0 0 (δ (γ .i64 ((a.length:Int)+(b.length:Int))))),(6,.dead),(7,.dead),(8,.dead),(9,.dead),(10,.dead),(11,.dead),(18,.sl (ak a) a.length c),(19,ω (a.length:Int)),(20,ω 0),(21,.dead),(25,.dead),(26,.dead),(27,.dead),(28,.dead)],[(0,⟨(gQ (δ (γ .i64 ((a.length:Int)+(b.length:Int)))) [.int .u32 0]),0,false,0,1,true⟩)],.dead,[]⟩ (.normal) ⟨[(5,.ref 0 0 0 w.length)],[(0,⟨(ak w),0,false,0,1,true⟩)],.dead,[]⟩):CO 201 [.sl (ak a) a.length c,.sl (ak b) b.length d] (.ret (.sl (ak (digs z)) (digs z).length true)):=pK [0] 0 0 (.c e (.c i (.c f .nil))) (.c g (.l h .nil))
def prI (u v:List Nat) (na nb:Bool) (i a:Nat) (p:Nat × List Nat × Nat):St:=⟨[(1,.sl (ak v) v.length nb),(5,.ref 0 0 0 p.2.1.length),(6,ω (i:Int)),(7,.int .u32 (a:Int)),(8,.int .u64 (p.2.2:Int)),(18,.sl (ak u) u.length na),(19,ω (u.length:Int)),(20,ω (i:Int)),(25,.sl (ak v) v.length nb),(26,ω (v.length:Int)),(27,ω (p.1:Int))],[(0,⟨(ak p.2.1),0,false,0,1,true⟩)],.dead,[]⟩
def prJ (u v:List Nat) (na nb:Bool) (i:Nat) (p:List Nat × Nat):St:=⟨[(1,.sl (ak v) v.length nb),(5,.ref 0 0 0 p.1.length),(6,ω (i:Int)),(8,.int .u64 (p.2:Int)),(18,.sl (ak u) u.length na),(19,ω (u.length:Int)),(20,ω (i:Int))],[(0,⟨(ak p.1),0,false,0,1,true⟩)],.dead,[]⟩
def prO (u v:List Nat) (na nb:Bool) (p:Nat × List Nat):St:=⟨[(1,.sl (ak v) v.length nb),(5,.ref 0 0 0 p.2.length),(18,.sl (ak u) u.length na),(19,ω (u.length:Int)),(20,ω (p.1:Int))],[(0,⟨(ak p.2),0,false,0,1,true⟩)],.dead,[]⟩
def prR (o:List Nat):St:=⟨[(5,.ref 0 0 0 o.length)],[(0,⟨(ak o),0,false,0,1,true⟩)],.dead,[]⟩
def G9 (a:Nat):List Nat→List Nat→Nat→List Nat × Nat
 |x::m,y::v,c=>((a*y+x+c) % 4294967296::(G9 a m v ((a*y+x+c) / 4294967296)).1,(G9 a m v ((a*y+x+c) / 4294967296)).2)
 |_,_,c=>([],c)
theorem M_ {a x y c:Nat} (f:a<4294967296) (b:x<4294967296) (e:y<4294967296) (d:c<4294967296):a*y<18446744073709551616∧a*y+x+c<18446744073709551616∧(a*y+x+c) / 4294967296<4294967296:=by
 have g:a*y≤4294967295*4294967295:=Xwz (by omega) (by omega);omega
theorem J5 {a:Nat} (b:a<4294967296):∀ (m v:List Nat) (c:Nat),m.length=v.length→c<4294967296→bQ m→bQ v→(G9 a m v c).2<4294967296∧bQ (G9 a m v c).1∧(G9 a m v c).1.length=v.length∧aI (G9 a m v c).1+4294967296^v.length*(G9 a m v c).2=aI m+a*aI v+c
 | [],[],c,_,hc,_,_=> ⟨hc,bQ.nil,rfl,by simp [G9,aI]⟩
 |x::m,y::v,c,hl,hc,hm,hv=>by
  obtain ⟨_,_,g⟩:=M_ b hm.head hv.head hc;obtain ⟨d,e,f,i⟩:=J5 b m v _ (by simpa using hl) g hm.tail hv.tail;simp only [G9];refine ⟨d,bQ.cons (Xq3 _ (by omega)) e,by simp [f], ?_⟩;simp only [aI,ξ,Xq5];rw [Xqe (4294967296^v.length),Xqs,Xxe,Xwt a];omega
 | [],_::_,_,h,_,_,_=>by simp at h
 |_::_,[],_,h,_,_,_=>by simp at h
def RX (v:List Nat):List Nat→List Nat→List Nat
 | [],m=>m
 |a::u,m=>((G9 a m v 0).1++ [(G9 a m v 0).2]).headD 0::RX v u ((G9 a m v 0).1++ [(G9 a m v 0).2]).tail
theorem RY {v:List Nat} (e:bQ v):∀ (u m:List Nat),bQ u→bQ m→m.length=v.length→bQ (RX v u m)∧(RX v u m).length=u.length+v.length∧aI (RX v u m)=aI m+aI u*aI v
 | [],m,_,hm,hl=> ⟨hm,by simp [RX,hl],by simp [RX,aI]⟩
 | a::u,m,hu,hm,hl=>by
  obtain ⟨l,k,h,o⟩:=J5 hu.head m v 0 hl (by omega) hm e;obtain ⟨z,b,c,n⟩:=Jz (G9 a m v 0).1 (G9 a m v 0).2;have d:bQ (z::b):=by rw [← c];exact bQ.app k (bQ.cons l bQ.nil)
  have g:aI (z::b)=aI m+a*aI v:=by
   rw [← c,nC,h];simp only [aI];omega
  simp only [RX,c,Xjl,Xzn];obtain ⟨f,i,j⟩:=RY e u b hu.tail d.tail (by omega);refine ⟨bQ.cons d.head f,by simp [i];omega, ?_⟩;simp only [aI] at g ⊢;rw [j,Xxw,Xxe,Xqs];omega
theorem Zc {p s:List Nat} {x y k:Nat} (h:k=p.length):ν ((0+(δ (k:Int)))*1) (ak (p++x::s))++ [Xx0 .u32 (y:Int)]++ε (((0+(δ (k:Int)))*1)+1) (ak (p++x::s))=ak (p++y::s):=by
 subst h;exact Ak
theorem Jw {p s:List Nat} {x k:Nat} (h:k=p.length):(ζ (ε ((δ (k:Int))*1) (ak (p++x::s))) .dead)= .int .u32 (x:Int):=by
 subst h;rw [Ai];rfl
theorem afT {p s:List Nat} {x k:Nat} (h:k=p.length):(ζ (ε ((0+(δ (k:Int)))*1) (ak (p++x::s))) .dead)= .int .u32 (x:Int):=by
 rw [Xqd];exact Jw h
theorem wdp {a b:Nat} (h:a+b<9223372036854775808):ω (γ .i64 ((a:Int)+(b:Int)))= ω ((a+b:Nat):Int):=by
 rw [dI,bC h]
theorem apg {a b:Nat} (h:a+b<18446744073709551616):Xx0 .u64 (γ .u64 ((a:Int)+(b:Int)))= .int .u64 ((a+b:Nat):Int):=by
 rw [dI,pV,Θ h]
theorem apf {a:Nat} (h:a<18446744073709551616):Xx0 .u64 (γ .u64 (a:Int))= .int .u64 (a:Int):=by
 rw [pV,Θ h]
theorem ape {a:Nat} (h:a<4294967296):Xx0 .u32 (γ .u32 (a:Int))= .int .u32 (a:Int):=by
 rw [sS,Θ h]
theorem abv {nt:Nat} (A:68≤nt) (u u1 u2 v:List Nat) (i j:Bool) (a:Nat) (X:u=u1++a::u2) (I:a<4294967296) (L:bQ v) (E:u.length<2^38) (S:v.length<2^38):∀ (w m b d pp z:List Nat) (c:Nat),b++w=v→m.length=w.length→d.length=b.length→pp.length=u1.length→bQ m→c<4294967296→
  aC prog ap [] nt (af 2 (ai f201)) (fun _=> .exit 2) (prI u v i j u1.length a) (prJ u v i j u1.length) (b.length,pp++d++m++z,c) (pp++d++(G9 a m w c).1++z,(G9 a m w c).2):=by
 intro w
 induction w with
 |nil=>
  intro m b d pp z c f h r C g q;have D:m= []:=List.length_eq_zero_iff.1 (by simpa using h);subst D;have k:b=v:=by simpa using f
  simp only [G9];exact .done (aor A u v _ i j _ _ _ a 0 0 (by rw [k];exact Yq1 (by omega)))
 | cons y w ih=>
  intro m b d pp z c f h r C g q;cases m with
  |nil=>simp at h
  | cons x m=>
   have T:b.length+(w.length+1)=v.length:=by rw [← f];simp
   have U:u1.length+(u2.length+1)=u.length:=by rw [X];simp
   have R:y<4294967296:=L y (by rw [← f];simp);have hx:=g.head;obtain ⟨W,Y,G⟩:=M_ I g.head R q;have e:=ih m (b++ [y]) (d++ [(a*y+x+c) % 4294967296]) pp z ((a*y+x+c) / 4294967296) (by simp [f]) (by simpa using h) (by simp [r]) C g.tail G;simp only [G9];rw [η,φ] at e;have V:pp++d++x::m++z=(pp++d)++x::(m++z):=by simp
   have H:pp++(d++ [(a*y+x+c) % 4294967296])++m++z=(pp++d)++(a*y+x+c) % 4294967296::(m++z):=by simp
   have O:pp++(d++ [(a*y+x+c) % 4294967296])++(G9 a m w ((a*y+x+c) / 4294967296)).1++z=pp++d++(a*y+x+c) % 4294967296::(G9 a m w ((a*y+x+c) / 4294967296)).1++z:=by simp
   rw [O] at e;refine .next ?_ e
   have t:u1.length+b.length=(pp++d).length:=by rw [η];omega
   have B:((pp++d)++x::(m++z)).length=(pp++d).length+(m++z).length+1:=by simp;omega
   have hlen2:((pp++d)++(a*y+x+c) % 4294967296::(m++z)).length=((pp++d)++x::(m++z)).length:=by simp
   have J:=afT (p:=pp++d) (s:=m++z) (x:=x) t;have K:(ζ (ε ((δ (b.length:Int))*1) (ak v)) .dead)= .int .u32 (y:Int):=by rw [← f];exact Jw rfl
   have F:=Zc (p:=pp++d) (s:=m++z) (x:=x) (y:=(a*y+x+c) % 4294967296) t;unfold prI;simp only [V,H,hlen2];have hs:=aoq A u v ((pp++d)++x::(m++z)) i j u1.length b.length c a x y;rw [F,J,K] at hs;have n:u1.length<u.length:=by omega
   have o:b.length<v.length:=by omega
   have l:u1.length+b.length<((pp++d)++x::(m++z)).length:=by omega
   have Q:Xx0 .u32 (γ .u32 (((a*y+x+c):Nat):Int))= .int .u32 ((((a*y+x+c) % 4294967296):Nat):Int):=by rw [sS]
   have N:Xx0 .u64 (Xq4 (((a*y+x+c):Nat):Int) (2^(min 32 64)))= .int .u64 ((((a*y+x+c) / 4294967296):Nat):Int):=by rw [show min 32 64=32 from rfl,lI]
   have P:Xx0 .u64 (γ .u64 ((a:Int)*(y:Int)))= .int .u64 ((a*y:Nat):Int):=by rw [← Int.natCast_mul,pV,Θ W]
   have M:Xqc (((0+(δ (((u1.length+b.length):Nat):Int)))*1)+1) (θ (ak ((pp++d)++x::(m++z))))=true:=by
    rw [Xzq,aK,ay];omega
   have Z:a*y+x<18446744073709551616:=by omega
   apply hs<;>first|exact rfl|exact wdp (by omega)|exact apg (by omega)|exact Q|exact N|exact P|exact apf (by omega)|exact M|exact mV _|exact lH n|exact lH o|exact lH l
theorem YG {nt:Nat} (g:68≤nt) (u v:List Nat) (h i:Bool) (e:bQ u) (D:bQ v) (k:u.length<2^38) (A:v.length<2^38):∀ (u2 u1 m pp:List Nat),u1++u2=u→m.length=v.length→pp.length=u1.length→bQ m→
  aC prog ap [] nt (af 0 (ai f201)) (fun _=> .exit 0) (prO u v h i) prR (u1.length,pp++m++μ u2.length 0) (pp++RX v u2 m):=by
 intro u2
 induction u2 with
 |nil=>
  intro u1 m pp b n l B;have t:u1=u:=by simpa using b
  simp only [RX,Xqa,Xwh,Γ];exact .done (aot g u v _ [] h i _ 0 0 (by rw [t];exact Yq1 (by omega)))
 | cons a u2 ih=>
  intro u1 m pp b n l B;have O:u1.length+(u2.length+1)=u.length:=by rw [← b];simp
  have C:a<4294967296:=e a (by rw [← b];simp);obtain ⟨K,J,Q,R⟩:=J5 C m v 0 n (by omega) B D;have o:=fun nt (g:68≤nt)=>abv g u u1 u2 v h i a b.symm C D k A v m [] [] pp (μ (u2.length+1) 0) 0 rfl n rfl l B (by omega)
  simp only [RX];generalize G9 a m v 0=r at*
  obtain ⟨z,f,j,P⟩:=Jz r.1 r.2;have E:bQ (z::f):=by rw [← j];exact bQ.app J (bQ.cons K bQ.nil)
  have c:=ih (u1++ [a]) f (pp++ [z]) (by simp [b]) (by omega) (by simp [l]) E.tail;simp only [j,Xjl,Xzn];rw [η,φ] at c;have M:pp++ [z]++RX v u2 f=pp++z::RX v u2 f:=by simp
  rw [M] at c;refine .next ?_ c
  rw [Γ] at o;have G:u1.length+v.length=(pp++r.1).length:=by rw [η];omega
  have N:pp++r.1++μ (u2.length+1) 0=(pp++r.1)++0::μ u2.length 0:=by rw [Xxh]
  have H:pp++ [z]++f++μ u2.length 0=(pp++r.1)++r.2::μ u2.length 0:=by
   rw [τ pp,Xqu,← j];simp
  have I:(ζ (ε ((δ (u1.length:Int))*1) (ak u)) .dead)= .int .u32 (a:Int):=by rw [← b];exact Jw rfl
  have F:=Zc (p:=pp++r.1) (s:=μ u2.length 0) (x:=0) (y:=r.2) G;rw [N] at o;have d:((pp++r.1)++0::μ u2.length 0).length=((pp++r.1)++r.2::μ u2.length 0).length:=by simp
  have hlen2:((pp++r.1)++0::μ u2.length 0).length=(pp++r.1).length+u2.length+1:=by simp;omega
  have hs:=aos g u v (pp++m++μ (u2.length+1) 0) ((pp++r.1)++0::μ u2.length 0) h i u1.length a r.2;rw [F,I] at hs;have w:u1.length<u.length:=by omega
  have q:u1.length+v.length<((pp++r.1)++0::μ u2.length 0).length:=by omega
  have L:Xqc (((0+(δ (((u1.length+v.length):Nat):Int)))*1)+1) (θ (ak ((pp++r.1)++0::μ u2.length 0)))=true:=by
   rw [Xzq,aK,ay];omega
  unfold prO;simp only [H,ξ];rw [← d];apply hs<;>first|exact rfl|exact wdp (by omega)|exact ape (by omega)|exact L|exact mV _|exact lH w|exact lH q|skip
  exact aC.blk o (by simp) rfl (aP.of ⟨rfl,rfl,rfl,rfl,rfl,rfl,rfl,rfl,rfl,rfl,rfl,trivial⟩) (aP.refl _)
theorem aco (a b:List Nat) (c d:Bool) (e:bQ a) (g:bQ b) (t:a.length<2^37) (r:b.length<2^37):CO 201 [.sl (ak a) a.length c,.sl (ak b) b.length d] (.ret (.sl (ak (digs (aI a*aI b))) (digs (aI a*aI b)).length true)):=by
 obtain ⟨l,q,k⟩:=RY g a (μ b.length 0) e (fun x i=>by rw [(List.mem_replicate.1 i).2];omega) (by simp);have o:aI (μ b.length 0)=0:=by
  generalize b.length=n
  induction n with
  |zero=>rfl
  |succ n ih=>rw [Xxh];simp only [aI,ih]
 rw [o,Xqd] at k;have m:∀ nt,68≤nt→aC prog ap [] nt (af 0 (ai f201)) (fun _=> .exit 0) (prO a b c d) prR (0,μ (a.length+b.length) 0) (RX b a (μ b.length 0)):=fun nt j=>by
  have:=YG j a b c d e g (by omega) (by omega) a [] (μ b.length 0) [] rfl (by simp) rfl (fun x i=>by rw [(List.mem_replicate.1 i).2];omega);rw [Xqi,Xqi,Xwx,Xx3] at this;exact this
 generalize RX b a (μ b.length 0)=w at*
 have f:=acn a b w c d (aI a*aI b);have p:γ .i64 ((a.length:Int)+(b.length:Int))=((a.length+b.length:Nat):Int):=by rw [dI,bC (by omega)]
 rw [p,aK,qE] at f;have h:=aC.blk (s:=prO a b c d (0,μ (a.length+b.length) 0)) (s':=prR w) (id:=0) m (by simp) rfl (aP.refl _) (aP.refl _);unfold prO at h;simp only [Xx9] at h;exact f (Yq0 (by omega)) (Yq0 rfl) (Yq0 (by omega)) (CZ w _ _ rfl (by rw [jP l,k]) (by omega)) fun nt j=>(h nt j).weak (aP.of ⟨rfl,rfl,rfl,rfl,rfl,trivial⟩) (aP.refl _)
theorem ab7 (s t:List UInt8) (hs:s.length<2^36) (d:t.length<2^36):CO 171 [.str s,.str t] (.ret (.str (ae (ah s*ah t)))):=by
 have a:=rH (s:=s) (n:=2^34) (by omega);have b:=rH (s:=t) (n:=2^34) (by omega);have c:=Us a b;have h:=aco (digs (ah s)) (digs (ah t)) true true (bQ.digs _) (bQ.digs _) (by omega) (by omega);rw [fM,fM] at h;exact agf s t _ (vS s (by omega)) (vS t (by omega)) h (sG _ _ true (wV _) (by omega) (by omega))
theorem aly {nt:Nat} (j:83≤nt) (u v o:List Nat) (k c x y:Nat) (n:ω (χ (ζ (ε ((δ (k:Int))*1) (aj u)) .dead))= ω (x:Int)) (f:ω (γ .i64 ((c:Int)+(x:Int)))= ω (((c+x):Nat):Int)) (p:ω (χ (ζ (ε ((δ (k:Int))*1) (aj v)) .dead))= ω (y:Int)) (g:ω (γ .i64 ((((c+x):Nat):Int)+(y:Int)))= ω (((c+x+y):Nat):Int)) (d:ω (Xxj (((c+x+y):Nat):Int) ((16777216:Nat):Int))= ω ((((c+x+y) % 16777216):Nat):Int)) (a:ω (γ .i64 (Xxm (((c+x+y):Nat):Int) ((16777216:Nat):Int)))= ω ((((c+x+y) / 16777216):Nat):Int)) (e:ω (γ .i64 ((k:Int)+((1:Nat):Int)))= ω (((k+1):Nat):Int)) (l:(chk (.int .i64) (ζ (ε ((δ (k:Int))*1) (aj v)) .dead))=true) (i:(decide (((0:Nat):Int)≤(k:Int)))=true) (h:(decide ((k:Int)<(v.length:Int)))=true) (m:(chk (.int .i64) (ζ (ε ((δ (k:Int))*1) (aj u)) .dead))=true) (b:(decide ((k:Int)<(u.length:Int)))=true):ψ nt f80 ⟨[(9,.sl (aj u) u.length false),(10,.sl (aj v) v.length false),(11,.nilS),(12,ω (c:Int)),(13,ω (k:Int))],[],.dead,[]⟩ (.normal) ⟨[(9,.sl (aj u) u.length false),(10,.sl (aj v) v.length false),(11,.ref 0 0 0 1),(12,ω ((((c+x+y) / 16777216):Nat):Int)),(13,ω (((k+1):Nat):Int))],[(0,⟨[ω ((((c+x+y) % 16777216):Nat):Int)],0,false,0,1,true⟩)],.dead,[]⟩:=pN 80 [] 6 31 (.k 5 l (.c i (.c h (.c (aA h) (.c m (.c i (.c b (.c (aA b) (.k 2 (aA b) .nil))))))))) (.v 52 (.eq e) (.v 80 (.eq a) (.v 76 (.eq d) (.v 73 (.eq g) (.v 72 (.eq p) (.v 63 (.eq f) (.v 62 (.eq n) .nil))))))) j
theorem alz {nt:Nat} (l:83≤nt) (u v o:List Nat) (k c x y:Nat) (h:ω (χ (ζ (ε ((δ (k:Int))*1) (aj u)) .dead))= ω (x:Int)) (a:ω (γ .i64 ((c:Int)+(x:Int)))= ω (((c+x):Nat):Int)) (b:ω (Xxj (((c+x):Nat):Int) ((16777216:Nat):Int))= ω ((((c+x) % 16777216):Nat):Int)) (d:ω (γ .i64 (Xxm (((c+x):Nat):Int) ((16777216:Nat):Int)))= ω ((((c+x) / 16777216):Nat):Int)) (e:ω (γ .i64 ((k:Int)+((1:Nat):Int)))= ω (((k+1):Nat):Int)) (g:(decide ((k:Int)<(v.length:Int)))=false) (j:(chk (.int .i64) (ζ (ε ((δ (k:Int))*1) (aj u)) .dead))=true) (i:(decide (((0:Nat):Int)≤(k:Int)))=true) (f:(decide ((k:Int)<(u.length:Int)))=true):ψ nt f80 ⟨[(9,.sl (aj u) u.length false),(10,.sl (aj v) v.length false),(11,.nilS),(12,ω (c:Int)),(13,ω (k:Int))],[],.dead,[]⟩ (.normal) ⟨[(9,.sl (aj u) u.length false),(10,.sl (aj v) v.length false),(11,.ref 0 0 0 1),(12,ω ((((c+x) / 16777216):Nat):Int)),(13,ω (((k+1):Nat):Int))],[(0,⟨[ω ((((c+x) % 16777216):Nat):Int)],0,false,0,1,true⟩)],.dead,[]⟩:=pN 80 [] 6 15 (.k 5 (aF g) (.c j (.c i (.c f (.c (aA f) (.k 2 (aA f) .nil)))))) (.v 52 (.eq e) (.v 80 (.eq d) (.v 76 (.eq b) (.v 63 (.eq a) (.v 62 (.eq h) .nil))))) l
theorem alA {nt:Nat} (l:83≤nt) (u v o:List Nat) (k c x y:Nat) (i:ω (χ (ζ (ε ((δ (k:Int))*1) (aj v)) .dead))= ω (y:Int)) (e:ω (γ .i64 ((c:Int)+(y:Int)))= ω (((c+y):Nat):Int)) (a:ω (Xxj (((c+y):Nat):Int) ((16777216:Nat):Int))= ω ((((c+y) % 16777216):Nat):Int)) (b:ω (γ .i64 (Xxm (((c+y):Nat):Int) ((16777216:Nat):Int)))= ω ((((c+y) / 16777216):Nat):Int)) (d:ω (γ .i64 ((k:Int)+((1:Nat):Int)))= ω (((k+1):Nat):Int)) (h:(chk (.int .i64) (ζ (ε ((δ (k:Int))*1) (aj v)) .dead))=true) (j:(decide (((0:Nat):Int)≤(k:Int)))=true) (f:(decide ((k:Int)<(v.length:Int)))=true) (g:(decide ((k:Int)<(u.length:Int)))=false):ψ nt f80 ⟨[(9,.sl (aj u) u.length false),(10,.sl (aj v) v.length false),(11,.nilS),(12,ω (c:Int)),(13,ω (k:Int))],[],.dead,[]⟩ (.normal) ⟨[(9,.sl (aj u) u.length false),(10,.sl (aj v) v.length false),(11,.ref 0 0 0 1),(12,ω ((((c+y) / 16777216):Nat):Int)),(13,ω (((k+1):Nat):Int))],[(0,⟨[ω ((((c+y) % 16777216):Nat):Int)],0,false,0,1,true⟩)],.dead,[]⟩:=pN 80 [] 6 22 (.k 5 h (.c j (.c f (.c (aA f) (.c (aF g) (.k 1 (aA f) (.c (aF g) .nil))))))) (.v 52 (.eq d) (.v 80 (.eq b) (.v 76 (.eq a) (.v 73 (.eq e) (.v 72 (.eq i) .nil))))) l
theorem alB {nt:Nat} (h:83≤nt) (u v o:List Nat) (k c x y:Nat) (a:ω (Xxj (c:Int) ((16777216:Nat):Int))= ω (((c % 16777216):Nat):Int)) (b:ω (γ .i64 (Xxm (c:Int) ((16777216:Nat):Int)))= ω (((c / 16777216):Nat):Int)) (d:ω (γ .i64 ((k:Int)+((1:Nat):Int)))= ω (((k+1):Nat):Int)) (e:(decide ((k:Int)<(v.length:Int)))=false) (f:(decide ((k:Int)<(u.length:Int)))=false) (g:(decide (((0:Nat):Int)<(c:Int)))=true):ψ nt f80 ⟨[(9,.sl (aj u) u.length false),(10,.sl (aj v) v.length false),(11,.nilS),(12,ω (c:Int)),(13,ω (k:Int))],[],.dead,[]⟩ (.normal) ⟨[(9,.sl (aj u) u.length false),(10,.sl (aj v) v.length false),(11,.ref 0 0 0 1),(12,ω (((c / 16777216):Nat):Int)),(13,ω (((k+1):Nat):Int))],[(0,⟨[ω (((c % 16777216):Nat):Int)],0,false,0,1,true⟩)],.dead,[]⟩:=pN 80 [] 6 4 (.k 5 (aF e) (.c (aF f) (.c (aA g) (.c (aF e) (.c (aF f) .nil))))) (.v 52 (.eq d) (.v 80 (.eq b) (.v 76 (.eq a) .nil))) h
theorem alC {nt:Nat} (e:83≤nt) (u v o:List Nat) (k c x y:Nat) (a:(decide (((0:Nat):Int)<(c:Int)))=false) (d:(decide ((k:Int)<(v.length:Int)))=false) (b:(decide ((k:Int)<(u.length:Int)))=false):ψ nt f80 ⟨[(9,.sl (aj u) u.length false),(10,.sl (aj v) v.length false),(11,.nilS),(12,ω (c:Int)),(13,ω (k:Int))],[],.dead,[]⟩ (.exit 0) ⟨[(11,.nilS)],[],.dead,[]⟩:=pN 80 [] 3 0 (.c (aF a) (.c (aF d) (.c (aF b) .nil))) (.nil) e
theorem alr {nt:Nat} (l:83≤nt) (u v o:List Nat) (k c x y:Nat) (p:ω (χ (ζ (ε ((δ (k:Int))*1) (aj u)) .dead))= ω (x:Int)) (e:ω (γ .i64 ((c:Int)+(x:Int)))= ω (((c+x):Nat):Int)) (q:ω (χ (ζ (ε ((δ (k:Int))*1) (aj v)) .dead))= ω (y:Int)) (f:ω (γ .i64 ((((c+x):Nat):Int)+(y:Int)))= ω (((c+x+y):Nat):Int)) (b:ω (Xxj (((c+x+y):Nat):Int) ((16777216:Nat):Int))= ω ((((c+x+y) % 16777216):Nat):Int)) (a:ω (γ .i64 (Xxm (((c+x+y):Nat):Int) ((16777216:Nat):Int)))= ω ((((c+x+y) / 16777216):Nat):Int)) (d:ω (γ .i64 ((k:Int)+((1:Nat):Int)))= ω (((k+1):Nat):Int)) (m:(Xqc (o.length+1) 1099511627776)=true) (r:(Xqc (o.length*1) (θ (aj o)))=true) (n:(chk (.int .i64) (ζ (ε ((δ (k:Int))*1) (aj v)) .dead))=true) (h:(decide (((0:Nat):Int)≤(k:Int)))=true) (i:(decide ((k:Int)<(v.length:Int)))=true) (j:(chk (.int .i64) (ζ (ε ((δ (k:Int))*1) (aj u)) .dead))=true) (g:(decide ((k:Int)<(u.length:Int)))=true):ψ nt f80 ⟨[(9,.sl (aj u) u.length false),(10,.sl (aj v) v.length false),(11,.ref 0 0 0 o.length),(12,ω (c:Int)),(13,ω (k:Int))],[(0,⟨(aj o),0,false,0,1,true⟩)],.dead,[]⟩ (.normal) ⟨[(9,.sl (aj u) u.length false),(10,.sl (aj v) v.length false),(11,.ref 0 0 0 (o.length+1)),(12,ω ((((c+x+y) / 16777216):Nat):Int)),(13,ω (((k+1):Nat):Int))],[(0,⟨((ν (o.length*1) (aj o))++ [ω ((((c+x+y) % 16777216):Nat):Int)]),0,false,0,1,true⟩)],.dead,[]⟩:=pN 80 [] 5 31 (.k 2 m (.c r (.k 2 n (.c h (.c i (.c (aA i) (.c j (.c h (.c g (.c (aA g) (.k 2 (aA g) .nil))))))))))) (.v 52 (.eq d) (.v 80 (.eq a) (.v 76 (.eq b) (.v 73 (.eq f) (.v 72 (.eq q) (.v 63 (.eq e) (.v 62 (.eq p) .nil))))))) l
theorem als {nt:Nat} (h:83≤nt) (u v o:List Nat) (k c x y:Nat) (m:ω (χ (ζ (ε ((δ (k:Int))*1) (aj u)) .dead))= ω (x:Int)) (f:ω (γ .i64 ((c:Int)+(x:Int)))= ω (((c+x):Nat):Int)) (d:ω (Xxj (((c+x):Nat):Int) ((16777216:Nat):Int))= ω ((((c+x) % 16777216):Nat):Int)) (a:ω (γ .i64 (Xxm (((c+x):Nat):Int) ((16777216:Nat):Int)))= ω ((((c+x) / 16777216):Nat):Int)) (e:ω (γ .i64 ((k:Int)+((1:Nat):Int)))= ω (((k+1):Nat):Int)) (i:(Xqc (o.length+1) 1099511627776)=true) (n:(Xqc (o.length*1) (θ (aj o)))=true) (j:(decide ((k:Int)<(v.length:Int)))=false) (g:(chk (.int .i64) (ζ (ε ((δ (k:Int))*1) (aj u)) .dead))=true) (l:(decide (((0:Nat):Int)≤(k:Int)))=true) (b:(decide ((k:Int)<(u.length:Int)))=true):ψ nt f80 ⟨[(9,.sl (aj u) u.length false),(10,.sl (aj v) v.length false),(11,.ref 0 0 0 o.length),(12,ω (c:Int)),(13,ω (k:Int))],[(0,⟨(aj o),0,false,0,1,true⟩)],.dead,[]⟩ (.normal) ⟨[(9,.sl (aj u) u.length false),(10,.sl (aj v) v.length false),(11,.ref 0 0 0 (o.length+1)),(12,ω ((((c+x) / 16777216):Nat):Int)),(13,ω (((k+1):Nat):Int))],[(0,⟨((ν (o.length*1) (aj o))++ [ω ((((c+x) % 16777216):Nat):Int)]),0,false,0,1,true⟩)],.dead,[]⟩:=pN 80 [] 5 15 (.k 2 i (.c n (.k 2 (aF j) (.c g (.c l (.c b (.c (aA b) (.k 2 (aA b) .nil)))))))) (.v 52 (.eq e) (.v 80 (.eq a) (.v 76 (.eq d) (.v 63 (.eq f) (.v 62 (.eq m) .nil))))) h
theorem alu {nt:Nat} (i:83≤nt) (u v o:List Nat) (k c x y:Nat) (m:ω (χ (ζ (ε ((δ (k:Int))*1) (aj v)) .dead))= ω (y:Int)) (f:ω (γ .i64 ((c:Int)+(y:Int)))= ω (((c+y):Nat):Int)) (b:ω (Xxj (((c+y):Nat):Int) ((16777216:Nat):Int))= ω ((((c+y) % 16777216):Nat):Int)) (a:ω (γ .i64 (Xxm (((c+y):Nat):Int) ((16777216:Nat):Int)))= ω ((((c+y) / 16777216):Nat):Int)) (d:ω (γ .i64 ((k:Int)+((1:Nat):Int)))= ω (((k+1):Nat):Int)) (j:(Xqc (o.length+1) 1099511627776)=true) (n:(Xqc (o.length*1) (θ (aj o)))=true) (l:(chk (.int .i64) (ζ (ε ((δ (k:Int))*1) (aj v)) .dead))=true) (h:(decide (((0:Nat):Int)≤(k:Int)))=true) (e:(decide ((k:Int)<(v.length:Int)))=true) (g:(decide ((k:Int)<(u.length:Int)))=false):ψ nt f80 ⟨[(9,.sl (aj u) u.length false),(10,.sl (aj v) v.length false),(11,.ref 0 0 0 o.length),(12,ω (c:Int)),(13,ω (k:Int))],[(0,⟨(aj o),0,false,0,1,true⟩)],.dead,[]⟩ (.normal) ⟨[(9,.sl (aj u) u.length false),(10,.sl (aj v) v.length false),(11,.ref 0 0 0 (o.length+1)),(12,ω ((((c+y) / 16777216):Nat):Int)),(13,ω (((k+1):Nat):Int))],[(0,⟨((ν (o.length*1) (aj o))++ [ω ((((c+y) % 16777216):Nat):Int)]),0,false,0,1,true⟩)],.dead,[]⟩:=pN 80 [] 5 22 (.k 2 j (.c n (.k 2 l (.c h (.c e (.c (aA e) (.c (aF g) (.k 1 (aA e) (.c (aF g) .nil))))))))) (.v 52 (.eq d) (.v 80 (.eq a) (.v 76 (.eq b) (.v 73 (.eq f) (.v 72 (.eq m) .nil))))) i
theorem alv {nt:Nat} (j:83≤nt) (u v o:List Nat) (k c x y:Nat) (a:ω (Xxj (c:Int) ((16777216:Nat):Int))= ω (((c % 16777216):Nat):Int)) (b:ω (γ .i64 (Xxm (c:Int) ((16777216:Nat):Int)))= ω (((c / 16777216):Nat):Int)) (d:ω (γ .i64 ((k:Int)+((1:Nat):Int)))= ω (((k+1):Nat):Int)) (g:(Xqc (o.length+1) 1099511627776)=true) (h:(Xqc (o.length*1) (θ (aj o)))=true) (e:(decide ((k:Int)<(v.length:Int)))=false) (f:(decide ((k:Int)<(u.length:Int)))=false) (i:(decide (((0:Nat):Int)<(c:Int)))=true):ψ nt f80 ⟨[(9,.sl (aj u) u.length false),(10,.sl (aj v) v.length false),(11,.ref 0 0 0 o.length),(12,ω (c:Int)),(13,ω (k:Int))],[(0,⟨(aj o),0,false,0,1,true⟩)],.dead,[]⟩ (.normal) ⟨[(9,.sl (aj u) u.length false),(10,.sl (aj v) v.length false),(11,.ref 0 0 0 (o.length+1)),(12,ω (((c / 16777216):Nat):Int)),(13,ω (((k+1):Nat):Int))],[(0,⟨((ν (o.length*1) (aj o))++ [ω (((c % 16777216):Nat):Int)]),0,false,0,1,true⟩)],.dead,[]⟩:=pN 80 [] 5 4 (.k 2 g (.c h (.k 2 (aF e) (.c (aF f) (.c (aA i) (.c (aF e) (.c (aF f) .nil))))))) (.v 52 (.eq d) (.v 80 (.eq b) (.v 76 (.eq a) .nil))) j
theorem alx {nt:Nat} (e:83≤nt) (u v o:List Nat) (k c x y:Nat) (a:(decide (((0:Nat):Int)<(c:Int)))=false) (d:(decide ((k:Int)<(v.length:Int)))=false) (b:(decide ((k:Int)<(u.length:Int)))=false):ψ nt f80 ⟨[(9,.sl (aj u) u.length false),(10,.sl (aj v) v.length false),(11,.ref 0 0 0 o.length),(12,ω (c:Int)),(13,ω (k:Int))],[(0,⟨(aj o),0,false,0,1,true⟩)],.dead,[]⟩ (.exit 0) ⟨[(11,.ref 0 0 0 o.length)],[(0,⟨(aj o),0,false,0,1,true⟩)],.dead,[]⟩:=pN 80 [] 3 0 (.c (aF a) (.c (aF d) (.c (aF b) .nil))) (.nil) e
theorem agu (s t:List UInt8) (x y z:Nat) (w:List Nat) (a:CO 134 [.str s,ω 7] (.ret (.tup [ω (x:Int),.bool true]))) (c:CO 134 [.str t,ω 7] (.ret (.tup [ω (y:Int),.bool true]))) (b:CO 79 [ω (γ .i64 ((x:Int)+(y:Int)))] (.ret (.str (ae z)))):CO 80 [.str s,.str t] (.ret (.str (ae z))):=pK [] 2 3 (.n 2 .nil) (.c b (.c c (.c a .nil)))
theorem agv (s t:List UInt8) (x y z:Nat) (w:List Nat) (a:CO 134 [.str s,ω 7] (.ret (.tup [ω (x:Int),.bool true]))) (e:CO 134 [.str t,ω 7] (.ret (.tup [ω (y:Int),.bool false]))) (c:CO 135 [.str s] (.ret (.sl (aj (ax (ah s))) (ax (ah s)).length false))) (f:CO 135 [.str t] (.ret (.sl (aj (ax (ah t))) (ax (ah t)).length false))) (b:CO 136 [.sl (ν (w.length*1) (aj w)) w.length true] (.ret (.str (ae z)))) (d:aN prog ap [] 83 (.block 0 (.loop (af 0 (ai f80)))) ⟨[(0,.str s),(1,.str t),(4,.str []),(5,ω (x:Int)),(6,.bool true),(7,ω (y:Int)),(8,.bool false),(9,.sl (aj (ax (ah s))) (ax (ah s)).length false),(10,.sl (aj (ax (ah t))) (ax (ah t)).length false),(11,.nilS),(12,ω 0),(13,ω 0),(14,.dead),(28,.bool false),(50,.dead),(57,.dead),(67,.dead)],[],.dead,[]⟩ (.normal) ⟨[(11,.ref 0 0 0 w.length)],[(0,⟨(aj w),0,false,0,1,true⟩)],.dead,[]⟩):CO 80 [.str s,.str t] (.ret (.str (ae z))):=pK [0] 2 1 (.n 2 .nil) (.c b (.l d (.c f (.c c (.c e (.c a .nil))))))
theorem agw (s t:List UInt8) (x y z:Nat) (w:List Nat) (a:CO 134 [.str s,ω 7] (.ret (.tup [ω (x:Int),.bool false]))) (e:CO 134 [.str t,ω 7] (.ret (.tup [ω (y:Int),.bool true]))) (c:CO 135 [.str s] (.ret (.sl (aj (ax (ah s))) (ax (ah s)).length false))) (f:CO 135 [.str t] (.ret (.sl (aj (ax (ah t))) (ax (ah t)).length false))) (b:CO 136 [.sl (ν (w.length*1) (aj w)) w.length true] (.ret (.str (ae z)))) (d:aN prog ap [] 83 (.block 0 (.loop (af 0 (ai f80)))) ⟨[(0,.str s),(1,.str t),(4,.str []),(5,ω (x:Int)),(6,.bool false),(7,ω (y:Int)),(8,.bool true),(9,.sl (aj (ax (ah s))) (ax (ah s)).length false),(10,.sl (aj (ax (ah t))) (ax (ah t)).length false),(11,.nilS),(12,ω 0),(13,ω 0),(14,.dead),(28,.bool false),(50,.dead),(57,.dead),(67,.dead)],[],.dead,[]⟩ (.normal) ⟨[(11,.ref 0 0 0 w.length)],[(0,⟨(aj w),0,false,0,1,true⟩)],.dead,[]⟩):CO 80 [.str s,.str t] (.ret (.str (ae z))):=pK [0] 2 0 (.n 2 .nil) (.c b (.l d (.c f (.c c (.c e (.c a .nil))))))
theorem agx (s t:List UInt8) (x y z:Nat) (w:List Nat) (a:CO 134 [.str s,ω 7] (.ret (.tup [ω (x:Int),.bool false]))) (e:CO 134 [.str t,ω 7] (.ret (.tup [ω (y:Int),.bool false]))) (c:CO 135 [.str s] (.ret (.sl (aj (ax (ah s))) (ax (ah s)).length false))) (f:CO 135 [.str t] (.ret (.sl (aj (ax (ah t))) (ax (ah t)).length false))) (b:CO 136 [.sl (ν (w.length*1) (aj w)) w.length true] (.ret (.str (ae z)))) (d:aN prog ap [] 83 (.block 0 (.loop (af 0 (ai f80)))) ⟨[(0,.str s),(1,.str t),(4,.str []),(5,ω (x:Int)),(6,.bool false),(7,ω (y:Int)),(8,.bool false),(9,.sl (aj (ax (ah s))) (ax (ah s)).length false),(10,.sl (aj (ax (ah t))) (ax (ah t)).length false),(11,.nilS),(12,ω 0),(13,ω 0),(14,.dead),(28,.bool false),(50,.dead),(57,.dead),(67,.dead)],[],.dead,[]⟩ (.normal) ⟨[(11,.ref 0 0 0 w.length)],[(0,⟨(aj w),0,false,0,1,true⟩)],.dead,[]⟩):CO 80 [.str s,.str t] (.ret (.str (ae z))):=pK [0] 2 0 (.n 2 .nil) (.c b (.l d (.c f (.c c (.c e (.c a .nil))))))
theorem alR (s t:List UInt8) (x y z:Nat) (w:List Nat) (a:(decide ((mG (ah s) (ah t))<((0:Nat):Int)))=false) (b:CO 101 [.str s,.str t] (.ret (ω (mG (ah s) (ah t))))) (e:CO 135 [.str s] (.ret (.sl (aj (ax (ah s))) (ax (ah s)).length false))) (d:CO 135 [.str t] (.ret (.sl (aj (ax (ah t))) (ax (ah t)).length false))) (f:CO 151 [.sl (aj (ax (ah s))) (ax (ah s)).length false,.sl (aj (ax (ah t))) (ax (ah t)).length false] (.ret (.sl (aj (ax z)) (ax z).length false))) (c:CO 136 [.sl (aj (ax z)) (ax z).length false] (.ret (.str (ae z)))):CO 102 [.str s,.str t] (.ret (.tup [.str (ae z),.bool true])):=pK [] 1 0 (.c (aF a) .nil) (.c c (.c f (.c d (.c e (.c b .nil)))))
def apQ (o:List Nat):AV:=match o with| []=> .nilS|_::_=> .ref 0 0 0 o.length
def hpQ (o:List Nat):Hp:=match o with| []=> []|a::r=> [(0,⟨aj (a::r),0,false,0,1,true⟩)]
def BD (u v:List Nat) (p:List Nat × Nat):St:=⟨[(9,.sl (aj u) u.length false),(10,.sl (aj v) v.length false),(11,apQ p.1),(12,ω (p.2:Int)),(13,ω (p.1.length:Int))],hpQ p.1,.dead,[]⟩
def Sj (o:List Nat):St:=⟨[(11,apQ o)],hpQ o,.dead,[]⟩
theorem J7 {u r:List Nat} {x k:Nat} (h:ε k u=x::r):(ζ (ε ((δ (k:Int))*1) (aj u)) .dead)= ω (x:Int)∧k<u.length:=by
 refine ⟨?_, ?_⟩
 ·rw [aK,Ξ];have:ε k (aj u)=aj (ε k u):=by unfold aj;rw [Xju]
  rw [this,h];rfl
 ·have:=congrArg θ h;rw [Xxk,ξ] at this;omega
theorem BC {u:List Nat} {k:Nat} (h:ε k u= []):u.length≤k:=by
 have:=congrArg θ h;rw [Xxk,Xqa] at this;omega
theorem Si (o:List Nat) (d:Nat):ν (o.length*1) (aj o)++ [ω (d:Int)]=aj (o++ [d]):=by
 rw [Ξ,dQ,Xq1,kV]
theorem Nj (S:Nat):ω (Xxj (S:Int) ((16777216:Nat):Int))= ω (((S % 16777216):Nat):Int):=by rw [uV]
theorem Nh {S:Nat} (h:S<2^62):ω (γ .i64 (Xxm (S:Int) ((16777216:Nat):Int)))= ω (((S / 16777216):Nat):Int):=by rw [tC,bC (by omega)]
theorem alq {nt:Nat} (e:83≤nt) {u v o ru rv:List Nat} {c x y:Nat} (i:ε o.length u=x::ru) (g:ε o.length v=y::rv) (k:x<16777216) (l:y<16777216) (j:c<16777216) (m:o.length<2^39):
  ψ nt f80 (BD u v (o,c)) .normal (BD u v (o++ [(c+x+y) % 16777216],(c+x+y) / 16777216)):=by
 obtain ⟨f,k1⟩:=J7 i;obtain ⟨d,k2⟩:=J7 g;cases o with
 |nil=>
  have hs:=aly e u v [] ([]:List Nat).length c x y;rw [f,d] at hs;apply hs<;>first|exact rfl|exact TU (by omega)|exact Nj _|exact Nh (by omega)|exact mV _|exact lH k1|exact lH k2
 |cons a r=>
  have hs:=alr e u v (a::r) (a::r).length c x y;rw [f,d,Si,show (a::r).length+1=((a::r)++ [(c+x+y) % 16777216]).length by simp] at hs;apply hs<;>first|exact rfl|exact TU (by omega)|exact Nj _|exact Nh (by omega)|exact mV _|exact lH k1|exact lH k2|(rw [Xzq];simp only [η,φ,dm,Ξ];omega)|(have h:=TU (a:=(a::r).length) (b:=1) (by omega);rw [show (a::r).length+1=((a::r)++ [(c+x+y) % 16777216]).length by simp] at h;exact h)
theorem alp {nt:Nat} (d:83≤nt) {u v o ru rv:List Nat} {c x y:Nat} (g:ε o.length u=x::ru) (f:ε o.length v= []) (j:x<16777216) (i:c<16777216) (k:o.length<2^39):
  ψ nt f80 (BD u v (o,c)) .normal (BD u v (o++ [(c+x) % 16777216],(c+x) / 16777216)):=by
 obtain ⟨e,k1⟩:=J7 g;have k2:=BC f;cases o with
 |nil=>
  have hs:=alz d u v [] ([]:List Nat).length c x y;rw [e] at hs;apply hs<;>first|exact rfl|exact TU (by omega)|exact Nj _|exact Nh (by omega)|exact mV _|exact lH k1|exact Dn k2
 |cons a r=>
  have hs:=als d u v (a::r) (a::r).length c x y;rw [e,Si,show (a::r).length+1=((a::r)++ [(c+x) % 16777216]).length by simp] at hs;apply hs<;>first|exact rfl|exact TU (by omega)|exact Nj _|exact Nh (by omega)|exact mV _|exact lH k1|exact Dn k2|(rw [Xzq];simp only [η,φ,dm,Ξ];omega)|(have h:=TU (a:=(a::r).length) (b:=1) (by omega);rw [show (a::r).length+1=((a::r)++ [(c+x) % 16777216]).length by simp] at h;exact h)
theorem alo {nt:Nat} (e:83≤nt) {u v o ru rv:List Nat} {c x y:Nat} (g:ε o.length u= []) (f:ε o.length v=y::rv) (j:y<16777216) (i:c<16777216) (k:o.length<2^39):
  ψ nt f80 (BD u v (o,c)) .normal (BD u v (o++ [(c+y) % 16777216],(c+y) / 16777216)):=by
 have k1:=BC g;obtain ⟨d,k2⟩:=J7 f;cases o with
 |nil=>
  have hs:=alA e u v [] ([]:List Nat).length c x y;rw [d] at hs;apply hs<;>first|exact rfl|exact TU (by omega)|exact Nj _|exact Nh (by omega)|exact mV _|exact Dn k1|exact lH k2
 |cons a r=>
  have hs:=alu e u v (a::r) (a::r).length c x y;rw [d,Si,show (a::r).length+1=((a::r)++ [(c+y) % 16777216]).length by simp] at hs;apply hs<;>first|exact rfl|exact TU (by omega)|exact Nj _|exact Nh (by omega)|exact mV _|exact Dn k1|exact lH k2|(rw [Xzq];simp only [η,φ,dm,Ξ];omega)|(have h:=TU (a:=(a::r).length) (b:=1) (by omega);rw [show (a::r).length+1=((a::r)++ [(c+y) % 16777216]).length by simp] at h;exact h)
theorem aln {nt:Nat} (e:83≤nt) {u v o ru rv:List Nat} {c x y:Nat} (g:ε o.length u= []) (f:ε o.length v= []) (d:0<c) (i:c<16777216) (j:o.length<2^39):
  ψ nt f80 (BD u v (o,c)) .normal (BD u v (o++ [(c) % 16777216],(c) / 16777216)):=by
 have k1:=BC g;have k2:=BC f;cases o with
 |nil=>
  have hs:=alB e u v [] ([]:List Nat).length c x y;apply hs<;>first|exact rfl|exact TU (by omega)|exact Nj _|exact Nh (by omega)|exact mV _|exact Dn k1|exact Dn k2|exact lH d
 |cons a r=>
  have hs:=alv e u v (a::r) (a::r).length c x y;rw [Si,show (a::r).length+1=((a::r)++ [(c) % 16777216]).length by simp] at hs;apply hs<;>first|exact rfl|exact TU (by omega)|exact Nj _|exact Nh (by omega)|exact mV _|exact Dn k1|exact Dn k2|exact lH d|(rw [Xzq];simp only [η,φ,dm,Ξ];omega)|(have h:=TU (a:=(a::r).length) (b:=1) (by omega);rw [show (a::r).length+1=((a::r)++ [(c) % 16777216]).length by simp] at h;exact h)
theorem YO {nt:Nat} (b:83≤nt) {u v o:List Nat} (d:ε o.length u= []) (c:ε o.length v= []):ψ nt f80 (BD u v (o,0)) (.exit 0) (Sj o):=by
 have k1:=BC d;have k2:=BC c;cases o with
 |nil=>exact alC b u v [] ([]:List Nat).length 0 0 0 rfl (Dn k2) (Dn k1)
 |cons a r=>exact alx b u v (a::r) (a::r).length 0 0 0 rfl (Dn k2) (Dn k1)
def KW:List Nat→List Nat→Nat→List Nat
 | [],[],c=>if 0<c then [c % 16777216] else []
 | [],y::v,c=>(c+y) % 16777216::KW [] v ((c+y) / 16777216)
 |x::u,[],c=>(c+x) % 16777216::KW u [] ((c+x) / 16777216)
 |x::u,y::v,c=>(c+x+y) % 16777216::KW u v ((c+x+y) / 16777216)
theorem Dz:∀ (u v:List Nat) (c:Nat),bz u→bz v→c≤1→dA (KW u v c)=dA u+dA v+c∧bz (KW u v c)∧(KW u v c).length≤u.length+v.length+1∧u.length≤(KW u v c).length∧v.length≤(KW u v c).length
 | [],[],c,_,_,hc=>by
  simp only [KW];rcases Xqg c with h|h
  ·subst h;exact ⟨rfl,bz.nil,by simp,by simp,by simp⟩
  ·rw [if_pos h];exact ⟨by simp only [dA];omega,bz.cons (Xq3 _ (by omega)) bz.nil,by simp,by simp,by simp⟩
 | [],y::v,c,hu,hv,hc=>by
  have i:=hv.head;obtain ⟨a,b,d,f,e⟩:=Dz [] v ((c+y) / 16777216) hu hv.tail (by omega);simp only [KW];refine ⟨?_,bz.cons (Xq3 _ (by omega)) b,by simp only [ξ,Xqa] at*;omega,by simp,by simp only [ξ];omega⟩;simp only [dA] at*
  rw [a];omega
 |x::u,[],c,hu,hv,hc=>by
  have g:=hu.head;obtain ⟨a,b,d,f,e⟩:=Dz u [] ((c+x) / 16777216) hu.tail hv (by omega);simp only [KW];refine ⟨?_,bz.cons (Xq3 _ (by omega)) b,by simp only [ξ,Xqa] at*;omega,by simp only [ξ];omega,by simp⟩;simp only [dA] at*
  rw [a];omega
 |x::u,y::v,c,hu,hv,hc=>by
  have g:=hu.head;have i:=hv.head;obtain ⟨a,b,d,f,e⟩:=Dz u v ((c+x+y) / 16777216) hu.tail hv.tail (by omega);simp only [KW];refine ⟨?_,bz.cons (Xq3 _ (by omega)) b,by simp only [ξ] at*;omega,by simp only [ξ];omega,by simp only [ξ];omega⟩;simp only [dA] at*
  rw [a];omega
theorem QQ {u r:List Nat} {x d:Nat} {o:List Nat} (h:ε o.length u=x::r):ε (o++ [d]).length u=r:=by
 rw [η,φ,← Xjs,h];rfl
theorem QP {u:List Nat} {d:Nat} {o:List Nat} (h:ε o.length u= []):ε (o++ [d]).length u= []:=by
 rw [η,φ,← Xjs,h];rfl
theorem DX {nt:Nat} (d:83≤nt) {u v:List Nat}:∀ (a b o:List Nat) (c:Nat),ε o.length u=a→ε o.length v=b→bz a→bz b→c≤1→o.length+a.length+b.length<2^38→
  aC prog ap [] nt (af 0 (ai f80)) (fun _=> .exit 0) (BD u v) Sj (o,c) (o++KW a b c)
 | [],[],o,c,hu,hv,_,_,hc,hl=>by
  simp only [Xqa] at hl;simp only [KW];rcases Xqg c with h|h
  ·subst h;rw [if_neg (by omega),Γ];exact .done (YO d hu hv)
  ·rw [if_pos h];have j:c / 16777216=0:=by omega
   have i:=aln d (x:=0) (y:=0) (ru:= []) (rv:= []) hu hv h (by omega) (by omega);rw [j] at i;exact .next i (.done (YO d (QP hu) (QP hv)))
 | [],y::b,o,c,hu,hv,ha,hb,hc,hl=>by
  have g:=hb.head;simp only [Xqa,ξ] at hl;have e:=DX d [] b (o++ [(c+y) % 16777216]) ((c+y) / 16777216) (QP hu) (QQ hv) ha hb.tail (by omega) (by simp only [η,φ,Xqa];omega);rw [τ,Xqu] at e;simp only [KW];exact .next (alo d (x:=0) (ru:= []) hu hv g (by omega) (by omega)) e
 |x::a,[],o,c,hu,hv,ha,hb,hc,hl=>by
  have f:=ha.head;simp only [Xqa,ξ] at hl;have e:=DX d a [] (o++ [(c+x) % 16777216]) ((c+x) / 16777216) (QQ hu) (QP hv) ha.tail hb (by omega) (by simp only [η,φ,Xqa];omega);rw [τ,Xqu] at e;simp only [KW];exact .next (alp d (y:=0) (rv:= []) hu hv f (by omega) (by omega)) e
 |x::a,y::b,o,c,hu,hv,ha,hb,hc,hl=>by
  have f:=ha.head;have g:=hb.head;simp only [ξ] at hl;have e:=DX d a b (o++ [(c+x+y) % 16777216]) ((c+x+y) / 16777216) (QQ hu) (QQ hv) ha.tail hb.tail (by omega) (by simp only [η,φ];omega);rw [τ,Xqu] at e;simp only [KW];exact .next (alq d hu hv f g (by omega) (by omega)) e
theorem QM (s:List UInt8):(ax (ah s)).length≤s.length:=tK (Φ (lD s) (by rw [Xji];exact Xkr (by decide) _))
theorem YN (s t:List UInt8) (hs:s.length<2^35) (k:t.length<2^35) (h:2^(8*7)≤ah s∨2^(8*7)≤ah t):∃ w:List Nat,w.length≤s.length+t.length+1∧bz w∧dA w=ah s+ah t∧w ≠ []∧∀ nt,83≤nt→aC prog ap [] nt (af 0 (ai f80)) (fun _=> .exit 0) (BD (ax (ah s)) (ax (ah t))) Sj ([],0) w:=by
 have g:=QM s;have f:=QM t;obtain ⟨a,c,e,i,j⟩:=Dz (ax (ah s)) (ax (ah t)) 0 (bz.dig _) (bz.dig _) (by omega);rw [fB,fB,Xq8] at a;refine ⟨_,by omega,c,a, ?_,fun nt d=>DX d (ax (ah s)) (ax (ah t)) [] 0 rfl rfl (bz.dig _) (bz.dig _) (by omega) (by simp only [Xqa];omega)⟩;intro b;rw [b] at a;simp only [dA] at a;omega
theorem Vj (s t:List UInt8) (hs:s.length<2^34) (v:t.length<2^34):CO 80 [.str s,.str t] (.ret (.str (ae (ah s+ah t)))):=by
 have i:=CW s (by omega);have k:=CW t (by omega);have u:=xN (s:=s) (by omega);have q:=xN (s:=t) (by omega);have d:2^(8*7)≤ah s∨2^(8*7)≤ah t→∃ w:List Nat,CO 136 [.sl (ν (w.length*1) (aj w)) w.length true] (.ret (.str (ae (ah s+ah t))))∧aN prog ap [] 83 (.block 0 (.loop (af 0 (ai f80)))) (BD (ax (ah s)) (ax (ah t)) ([],0)) .normal ⟨[(11,.ref 0 0 0 w.length)],[(0,⟨aj w,0,false,0,1,true⟩)],.dead,[]⟩:=by
  intro h;obtain ⟨w,x,o,n,p,m⟩:=YN s t (by omega) (by omega) h;have j:w.length<2^36:=by omega
  have b:=vO w true j o;rw [n] at b;have g:ν (w.length*1) (aj w)=aj w:=by rw [Ξ,dQ,Xq1]
  refine ⟨w,by rw [g];exact b, ?_⟩;have c:=aC.blk (s:=BD (ax (ah s)) (ax (ah t)) ([],0)) (s':=Sj w) (id:=0) m (by simp) rfl (aP.refl _) (aP.refl _);cases w with
  |nil=>exact absurd rfl p
  |cons a r=>exact c
 rcases Xxc (ah s) (2^(8*7)) with c1|c1
 ·have e:=iq s 7 (by omega) (by omega) c1;rcases Xxc (ah t) (2^(8*7)) with c2|c2
  ·have l:=lX (ah s+ah t) (by omega);have j:γ .i64 (((ah s:Nat):Int)+((ah t:Nat):Int))=((ah s+ah t:Nat):Int):=by rw [dI,bC (by omega)]
   rw [← j] at l;exact agu s t _ _ _ [] e (iq t 7 (by omega) (by omega) c2) l
  ·obtain ⟨w,b,c⟩:=d (.inr c2);exact agv s t _ 0 _ w e (lm t 7 (by omega) c2) i k b fun nt f=>(c nt f).weak (aP.of ⟨rfl,rfl,rfl,rfl,rfl,trivial⟩) (aP.refl _)
 ·have e:=lm s 7 (by omega) c1;obtain ⟨w,b,c⟩:=d (.inl c1);rcases Xxc (ah t) (2^(8*7)) with c2|c2
  ·exact agw s t 0 _ _ w e (iq t 7 (by omega) (by omega) c2) i k b fun nt f=>(c nt f).weak (aP.of ⟨rfl,rfl,rfl,rfl,rfl,trivial⟩) (aP.refl _)
  ·exact agx s t 0 0 _ w e (lm t 7 (by omega) c2) i k b fun nt f=>(c nt f).weak (aP.of ⟨rfl,rfl,rfl,rfl,rfl,trivial⟩) (aP.refl _)
theorem Zf (x y:Nat):decide (mG x y<((0:Nat):Int))=decide (x<y):=by
 unfold mG;by_cases h:x<y
 ·rw [if_pos h,Yq0 h];rfl
 ·rw [if_neg h,Yq1 h];split<;>rfl
theorem aaF {x y:Nat} (h:y≤x) (b:(ax x).length<2^36):(ax y).length<2^36:=by
 have a:=Ap (bz.dig x);rw [fB] at a;exact Xqk (tK (Xqk h a)) b
theorem Vr (s t:List UInt8) (hs:s.length<2^35) (d:t.length<2^35) (h:ah t≤ah s):CO 102 [.str s,.str t] (.ret (.tup [.str (ae (ah s - ah t)),.bool true])):=by
 have c:=xN (s:=s) hs;have b:=aaF (Xwi (ah s) (ah t)) (by omega);have a:=vO (ax (ah s - ah t)) false b (bz.dig _);rw [fB] at a;exact alR s t 0 0 _ [] (by rw [Zf];exact Yq1 (by omega)) (J8 s t (by omega) (by omega)) (CW s (by omega)) (CW t (by omega)) (ML _ _ false false h (by omega)) a
theorem alX (c i:Bool) (d e j k:List UInt8) (a b r:RQ) (f:(je c d e)=false) (g:CO 115 [Ω c d e] (.ret (.bool (je c d e)))) (h:CO 42 [ω 0] (.ret (Ω false (ae 0) (ae 1)))):CO 170 [Ω c d e] (.ret (Ω false (ae 0) (ae 1))):=pK [] 1 1 (.k 4 (di f) (.n 3 .nil)) (.c h (.c g .nil))
theorem alY (c h:Bool) (d e i j:List UInt8) (a b r:RQ) (f:(je c d e)=true) (g:CO 115 [Ω c d e] (.ret (.bool (je c d e)))):CO 170 [Ω c d e] (.ret (Ω c d e)):=pK [] 1 0 (.k 7 (aV f) (.n 3 .nil)) (.c g .nil)
theorem alL (c h:Bool) (d e i j:List UInt8) (a b r:RQ) (f:a.neg=false) (g:CO 170 [Ω c d e] (.ret (.agg [.bool a.neg,.str (ae a.n),.str (ae a.d)]))):CO 200 [Ω c d e] (.ret (.agg [.bool (!((ae a.n)== [])),.str (ae a.n),.str (ae a.d)])):=pK [] 1 1 (.k 9 (di f) (.n 5 .nil)) (.c g .nil)
theorem alM (c h:Bool) (d e i j:List UInt8) (a b r:RQ) (f:a.neg=true) (g:CO 170 [Ω c d e] (.ret (.agg [.bool a.neg,.str (ae a.n),.str (ae a.d)]))):CO 200 [Ω c d e] (.ret (Ω false (ae a.n) (ae a.d))):=pK [] 1 0 (.k 8 (aV f) (.n 5 .nil)) (.c g .nil)
theorem acC (e c:Bool) (g h d f:List UInt8) (a b r:RQ) (i:(a.neg==b.neg)=true) (j:CO 170 [Ω e g h] (.ret (.agg [.bool a.neg,.str (ae a.n),.str (ae a.d)]))) (k:CO 170 [Ω c d f] (.ret (.agg [.bool b.neg,.str (ae b.n),.str (ae b.d)]))) (m:CO 171 [.str (ae a.n),.str (ae b.d)] (.ret (.str (ae (a.n*b.d))))) (o:CO 171 [.str (ae b.n),.str (ae a.d)] (.ret (.str (ae (b.n*a.d))))) (l:CO 171 [.str (ae a.d),.str (ae b.d)] (.ret (.str (ae (a.d*b.d))))) (n:CO 71 [.str (ae (a.n*b.d)),.str (ae (b.n*a.d))] (.ret (.str (ae ((a.n*b.d)+(b.n*a.d)))))) (p:CO 160 [.bool a.neg,.str (ae ((a.n*b.d)+(b.n*a.d))),.str (ae (a.d*b.d))] (.ret (.agg [.bool r.neg,.str (ae r.n),.str (ae r.d)]))):CO 167 [Ω e g h,Ω c d f] (.ret (.agg [.bool r.neg,.str (ae r.n),.str (ae r.d)])):=pK [] 1 1 (.k 5 (aA i) (.n 16 .nil)) (.c p (.c n (.c l (.c o (.c m (.c k (.c j .nil)))))))
theorem acD (e c:Bool) (g h d f:List UInt8) (a b r:RQ) (i:(a.neg==b.neg)=false) (j:CO 170 [Ω e g h] (.ret (.agg [.bool a.neg,.str (ae a.n),.str (ae a.d)]))) (k:CO 170 [Ω c d f] (.ret (.agg [.bool b.neg,.str (ae b.n),.str (ae b.d)]))) (m:CO 171 [.str (ae a.n),.str (ae b.d)] (.ret (.str (ae (a.n*b.d))))) (o:CO 171 [.str (ae b.n),.str (ae a.d)] (.ret (.str (ae (b.n*a.d))))) (l:CO 171 [.str (ae a.d),.str (ae b.d)] (.ret (.str (ae (a.d*b.d))))) (n:CO 199 [.str (ae (a.n*b.d)),.str (ae (b.n*a.d))] (.ret (.tup [.str (ae ((a.n*b.d) - (b.n*a.d))),.bool true]))) (p:CO 160 [.bool a.neg,.str (ae ((a.n*b.d) - (b.n*a.d))),.str (ae (a.d*b.d))] (.ret (.agg [.bool r.neg,.str (ae r.n),.str (ae r.d)]))):CO 167 [Ω e g h,Ω c d f] (.ret (.agg [.bool r.neg,.str (ae r.n),.str (ae r.d)])):=pK [] 2 2 (.k 6 (aF i) (.n 16 .nil)) (.c p (.c n (.c l (.c o (.c m (.c k (.c j .nil)))))))
theorem acB (e c:Bool) (g h d f:List UInt8) (a b r:RQ) (i:(a.neg==b.neg)=false) (j:CO 170 [Ω e g h] (.ret (.agg [.bool a.neg,.str (ae a.n),.str (ae a.d)]))) (k:CO 170 [Ω c d f] (.ret (.agg [.bool b.neg,.str (ae b.n),.str (ae b.d)]))) (n:CO 171 [.str (ae a.n),.str (ae b.d)] (.ret (.str (ae (a.n*b.d))))) (p:CO 171 [.str (ae b.n),.str (ae a.d)] (.ret (.str (ae (b.n*a.d))))) (l:CO 171 [.str (ae a.d),.str (ae b.d)] (.ret (.str (ae (a.d*b.d))))) (o:CO 199 [.str (ae (a.n*b.d)),.str (ae (b.n*a.d))] (.ret (.tup [.str [],.bool false]))) (q:CO 199 [.str (ae (b.n*a.d)),.str (ae (a.n*b.d))] (.ret (.tup [.str (ae ((b.n*a.d) - (a.n*b.d))),.bool true]))) (m:CO 160 [.bool b.neg,.str (ae ((b.n*a.d) - (a.n*b.d))),.str (ae (a.d*b.d))] (.ret (.agg [.bool r.neg,.str (ae r.n),.str (ae r.d)]))):CO 167 [Ω e g h,Ω c d f] (.ret (.agg [.bool r.neg,.str (ae r.n),.str (ae r.d)])):=pK [] 2 0 (.k 6 (aF i) (.n 16 .nil)) (.c m (.c q (.c o (.c l (.c p (.c n (.c k (.c j .nil))))))))
theorem alS (e c:Bool) (g h d f:List UInt8) (a b r:RQ) (i:CO 200 [Ω c d f] (.ret (.agg [.bool b.neg,.str (ae b.n),.str (ae b.d)]))) (j:CO 167 [Ω e g h,.agg [.bool b.neg,.str (ae b.n),.str (ae b.d)]] (.ret (.agg [.bool r.neg,.str (ae r.n),.str (ae r.d)]))):CO 168 [Ω e g h,Ω c d f] (.ret (.agg [.bool r.neg,.str (ae r.n),.str (ae r.d)])):=pK [] 0 0 (.n 10 .nil) (.c j (.c i .nil))
theorem alF (e c:Bool) (g h d f:List UInt8) (a b r:RQ) (i:CO 168 [Ω e g h,Ω c d f] (.ret (.agg [.bool r.neg,.str (ae r.n),.str (ae r.d)]))) (j:CO 121 [.agg [.bool r.neg,.str (ae r.n),.str (ae r.d)]] (.ret (ω (xh r)))):CO 127 [Ω e g h,Ω c d f] (.ret (ω (xh r))):=pK [] 0 0 (.n 6 .nil) (.c j (.c i .nil))
theorem alK (e c:Bool) (g h d f:List UInt8) (a b r:RQ) (i:CO 170 [Ω e g h] (.ret (.agg [.bool a.neg,.str (ae a.n),.str (ae a.d)]))) (j:CO 170 [Ω c d f] (.ret (.agg [.bool b.neg,.str (ae b.n),.str (ae b.d)]))) (l:CO 171 [.str (ae a.n),.str (ae b.n)] (.ret (.str (ae (a.n*b.n))))) (m:CO 171 [.str (ae a.d),.str (ae b.d)] (.ret (.str (ae (a.d*b.d))))) (k:CO 160 [.bool (!(a.neg==b.neg)),.str (ae (a.n*b.n)),.str (ae (a.d*b.d))] (.ret (.agg [.bool r.neg,.str (ae r.n),.str (ae r.d)]))):CO 169 [Ω e g h,Ω c d f] (.ret (.agg [.bool r.neg,.str (ae r.n),.str (ae r.d)])):=pK [] 0 0 (.n 18 .nil) (.c k (.c m (.c l (.c j (.c i .nil)))))
theorem alN (e c:Bool) (g h d f:List UInt8) (a b r:RQ) (i:((ae b.n)== [])=true) (j:CO 170 [Ω e g h] (.ret (.agg [.bool a.neg,.str (ae a.n),.str (ae a.d)]))) (k:CO 170 [Ω c d f] (.ret (.agg [.bool b.neg,.str (ae b.n),.str (ae b.d)]))):CO 125 [Ω e g h,Ω c d f] (.ret (.tup [Ω false [] [],.bool false])):=pK [] 1 1 (.k 4 (aA i) (.n 9 .nil)) (.c k (.c j .nil))
theorem alO (e c:Bool) (g h d f:List UInt8) (a b r:RQ) (i:((ae b.n)== [])=false) (j:CO 170 [Ω e g h] (.ret (.agg [.bool a.neg,.str (ae a.n),.str (ae a.d)]))) (k:CO 170 [Ω c d f] (.ret (.agg [.bool b.neg,.str (ae b.n),.str (ae b.d)]))) (m:CO 171 [.str (ae a.n),.str (ae b.d)] (.ret (.str (ae (a.n*b.d))))) (n:CO 171 [.str (ae a.d),.str (ae b.n)] (.ret (.str (ae (a.d*b.n))))) (l:CO 160 [.bool (!(a.neg==b.neg)),.str (ae (a.n*b.d)),.str (ae (a.d*b.n))] (.ret (.agg [.bool r.neg,.str (ae r.n),.str (ae r.d)]))):CO 125 [Ω e g h,Ω c d f] (.ret (.tup [.agg [.bool r.neg,.str (ae r.n),.str (ae r.d)],.bool true])):=pK [] 1 0 (.k 10 (aF i) (.n 9 .nil)) (.c l (.c n (.c m (.c k (.c j .nil)))))
theorem acr (e c:Bool) (g h d f:List UInt8) (a b r:RQ) (i:(a.neg==b.neg)=true) (j:CO 98 [Ω e g h] (.ret (.agg [.bool a.neg,.str (ae a.n),.str (ae a.d)]))) (k:CO 98 [Ω c d f] (.ret (.agg [.bool b.neg,.str (ae b.n),.str (ae b.d)]))) (m:CO 100 [.str (ae a.n),.str (ae b.d)] (.ret (.str (ae (a.n*b.d))))) (o:CO 100 [.str (ae b.n),.str (ae a.d)] (.ret (.str (ae (b.n*a.d))))) (l:CO 100 [.str (ae a.d),.str (ae b.d)] (.ret (.str (ae (a.d*b.d))))) (n:CO 80 [.str (ae (a.n*b.d)),.str (ae (b.n*a.d))] (.ret (.str (ae ((a.n*b.d)+(b.n*a.d)))))) (p:CO 99 [.bool a.neg,.str (ae ((a.n*b.d)+(b.n*a.d))),.str (ae (a.d*b.d))] (.ret (.agg [.bool r.neg,.str (ae r.n),.str (ae r.d)]))):CO 62 [Ω e g h,Ω c d f] (.ret (.agg [.bool r.neg,.str (ae r.n),.str (ae r.d)])):=pK [] 1 1 (.k 5 (aA i) (.n 16 .nil)) (.c p (.c n (.c l (.c o (.c m (.c k (.c j .nil)))))))
theorem acs (h f:Bool) (c d g e:List UInt8) (a b r:RQ) (p:(decide (((0:Nat):Int)≤(mG (a.n*b.d) (b.n*a.d))))=true) (s:(a.neg==b.neg)=false) (i:CO 98 [Ω h c d] (.ret (.agg [.bool a.neg,.str (ae a.n),.str (ae a.d)]))) (m:CO 98 [Ω f g e] (.ret (.agg [.bool b.neg,.str (ae b.n),.str (ae b.d)]))) (k:CO 100 [.str (ae a.n),.str (ae b.d)] (.ret (.str (ae (a.n*b.d))))) (n:CO 100 [.str (ae b.n),.str (ae a.d)] (.ret (.str (ae (b.n*a.d))))) (q:CO 100 [.str (ae a.d),.str (ae b.d)] (.ret (.str (ae (a.d*b.d))))) (l:CO 101 [.str (ae (a.n*b.d)),.str (ae (b.n*a.d))] (.ret (ω (mG (a.n*b.d) (b.n*a.d))))) (o:CO 102 [.str (ae (a.n*b.d)),.str (ae (b.n*a.d))] (.ret (.tup [.str (ae ((a.n*b.d) - (b.n*a.d))),.bool true]))) (j:CO 99 [.bool a.neg,.str (ae ((a.n*b.d) - (b.n*a.d))),.str (ae (a.d*b.d))] (.ret (.agg [.bool r.neg,.str (ae r.n),.str (ae r.d)]))):CO 62 [Ω h c d,Ω f g e] (.ret (.agg [.bool r.neg,.str (ae r.n),.str (ae r.d)])):=pK [] 2 2 (.k 5 (aA p) (.c (aF s) (.n 16 .nil))) (.c j (.c o (.c l (.c q (.c n (.c k (.c m (.c i .nil))))))))
theorem acu (h f:Bool) (c d g e:List UInt8) (a b r:RQ) (p:(decide (((0:Nat):Int)≤(mG (a.n*b.d) (b.n*a.d))))=false) (s:(a.neg==b.neg)=false) (i:CO 98 [Ω h c d] (.ret (.agg [.bool a.neg,.str (ae a.n),.str (ae a.d)]))) (m:CO 98 [Ω f g e] (.ret (.agg [.bool b.neg,.str (ae b.n),.str (ae b.d)]))) (k:CO 100 [.str (ae a.n),.str (ae b.d)] (.ret (.str (ae (a.n*b.d))))) (n:CO 100 [.str (ae b.n),.str (ae a.d)] (.ret (.str (ae (b.n*a.d))))) (q:CO 100 [.str (ae a.d),.str (ae b.d)] (.ret (.str (ae (a.d*b.d))))) (l:CO 101 [.str (ae (a.n*b.d)),.str (ae (b.n*a.d))] (.ret (ω (mG (a.n*b.d) (b.n*a.d))))) (o:CO 102 [.str (ae (b.n*a.d)),.str (ae (a.n*b.d))] (.ret (.tup [.str (ae ((b.n*a.d) - (a.n*b.d))),.bool true]))) (j:CO 99 [.bool b.neg,.str (ae ((b.n*a.d) - (a.n*b.d))),.str (ae (a.d*b.d))] (.ret (.agg [.bool r.neg,.str (ae r.n),.str (ae r.d)]))):CO 62 [Ω h c d,Ω f g e] (.ret (.agg [.bool r.neg,.str (ae r.n),.str (ae r.d)])):=pK [] 2 0 (.k 5 (aF p) (.c (aF s) (.n 16 .nil))) (.c j (.c o (.c l (.c q (.c n (.c k (.c m (.c i .nil))))))))
def zM (q:RQ):RQ:=⟨!q.neg && decide (0<q.n),q.n,q.d⟩
def jf (a b:RQ):RQ:=if a.neg=b.neg then iK a.neg (a.n*b.d+b.n*a.d) (a.d*b.d) else if b.n*a.d≤a.n*b.d then iK a.neg (a.n*b.d - b.n*a.d) (a.d*b.d) else iK b.neg (b.n*a.d - a.n*b.d) (a.d*b.d)
def jD (a b:RQ):RQ:=jf a (zM b)
def lS (a b:RQ):Int:=xh (jD a b)
def nX (a b:RQ):RQ:=iK (!(a.neg==b.neg)) (a.n*b.n) (a.d*b.d)
def yj (a b:RQ):RQ:=iK (!(a.neg==b.neg)) (a.n*b.d) (a.d*b.n)
theorem lC {q:RQ} (h:q.ok):vQ q.neg (ae q.n) (ae q.d)=q:=by
 unfold vQ;rw [if_pos (qP q h),aH,aH]
theorem JR {q:RQ} (h:q.ok):(zM q).ok:=by
 refine ⟨h.1,h.2.1,fun a=> ?_⟩;simp only [zM,ο,decide_eq_true_eq] at a;exact a.2
theorem jQ {a b:RQ} (c:a.ok) (d:b.ok):(jf a b).ok:=by
 have hd:0<a.d*b.d:=Xjx c.1 d.1;unfold jf;split
 ·exact nV hd
 ·split
  ·exact nV hd
  ·exact nV hd
theorem ug {a b:RQ} (c:a.ok) (d:b.ok):(nX a b).ok:=nV (Xjx c.1 d.1)
theorem J6 {a b:RQ} (c:a.ok) (d:0<b.n):(yj a b).ok:=nV (Xjx c.1 d)
theorem E_ (x:Nat):x<2^(8*(ae x).length):=uh.1 (Δ _)
theorem fD (x y:Nat):(ae (x*y)).length≤(ae x).length+(ae y).length:=by
 refine eu ?_;rw [Xxe,Xxp];exact Nat.mul_lt_mul'' (E_ x) (E_ y)
theorem oZ {x y:Nat} (h:x≤y):(ae x).length≤(ae y).length:=eu (Xqk h (E_ y))
theorem zG (x y:Nat):(ae (x+y)).length≤(ae x).length+(ae y).length+1:=by
 refine eu ?_;have b:=Φ (E_ x) (Ψ (n:=2) (by omega) (show 8*(ae x).length≤8*((ae x).length+(ae y).length) by omega));have a:=Φ (E_ y) (Ψ (n:=2) (by omega) (show 8*(ae y).length≤8*((ae x).length+(ae y).length) by omega));rw [show 8*((ae x).length+(ae y).length+1)=8*((ae x).length+(ae y).length)+8 by omega,Xxp];generalize 2^(8*((ae x).length+(ae y).length))=P at*
 omega
theorem ad3 (s:List UInt8):(ae (ah s)).length≤s.length:=eu (lD s)
theorem o_ (s:Bool) (n d:List UInt8):(ae (vQ s n d).n).length≤n.length∧(ae (vQ s n d).d).length≤d.length+1:=by
 unfold vQ;split
 ·exact ⟨ad3 n,Nat.le_succ_of_le (ad3 d)⟩
 ·refine ⟨by show (ae 0).length≤_;rw [eF];simp, ?_⟩;show (ae 1).length≤_;have:(ae 1).length≤1:=eu (by decide);omega
theorem t_ (a:Bool) (n d:Nat):(ae (iK a n d).n).length≤(ae n).length∧(ae (iK a n d).d).length≤(ae d).length:=
 ⟨oZ (Xjw _ _),oZ (Xjw _ _)⟩
theorem zH (a b:RQ) (L:Nat) (j:(ae a.n).length≤L) (f:(ae a.d).length≤L) (d:(ae b.n).length≤L) (h:(ae b.d).length≤L):(ae (jf a b).n).length≤4*L+1∧(ae (jf a b).d).length≤2*L:=by
 have c:=fD a.n b.d;have i:=fD b.n a.d;have g:=fD a.d b.d;have e:=zG (a.n*b.d) (b.n*a.d);unfold jf;split
 ·have:=t_ a.neg (a.n*b.d+b.n*a.d) (a.d*b.d);omega
 ·split
  ·have:=t_ a.neg (a.n*b.d - b.n*a.d) (a.d*b.d);have:=oZ (Xwi (a.n*b.d) (b.n*a.d));omega
  ·have:=t_ b.neg (b.n*a.d - a.n*b.d) (a.d*b.d);have:=oZ (Xwi (b.n*a.d) (a.n*b.d));omega
theorem FP (x y:Nat) (a:(ae x).length<2^34) (b:(ae y).length<2^34):CO 171 [.str (ae x),.str (ae y)] (.ret (.str (ae (x*y)))):=by
 have h:=ab7 (ae x) (ae y) (by omega) (by omega);rw [aH,aH] at h;exact h
theorem ad6 (x y:Nat) (a:(ae x).length<2^34) (b:(ae y).length<2^34):CO 71 [.str (ae x),.str (ae y)] (.ret (.str (ae (x+y)))):=by
 have h:=abX (ae x) (ae y) (by omega) (by omega);rw [aH,aH] at h;exact h
theorem ad7 (x y:Nat) (b:(ae x).length<2^34) (c:(ae y).length<2^34) (a:y≤x):CO 199 [.str (ae x),.str (ae y)] (.ret (.tup [.str (ae (x - y)),.bool true])):=by
 have h:=ab9 (ae x) (ae y) (by omega) (by omega) (by rw [aH,aH];exact a);rw [aH,aH] at h;exact h
theorem akF (x y:Nat) (b:(ae x).length<2^34) (c:(ae y).length<2^34) (a:x<y):CO 199 [.str (ae x),.str (ae y)] (.ret (.tup [.str [],.bool false])):=
 ab8 (ae x) (ae y) (by omega) (by omega) (by rw [aH,aH];exact a)
theorem YM (x y:Nat) (a:(ae x).length<2^33) (b:(ae y).length<2^33):CO 100 [.str (ae x),.str (ae y)] (.ret (.str (ae (x*y)))):=by
 have h:=Yh (ae x) (ae y) (by omega) (by omega);rw [aH,aH] at h;exact h
theorem alh (x y:Nat) (a:(ae x).length<2^33) (b:(ae y).length<2^33):CO 80 [.str (ae x),.str (ae y)] (.ret (.str (ae (x+y)))):=by
 have h:=Vj (ae x) (ae y) (by omega) (by omega);rw [aH,aH] at h;exact h
theorem aea (x y:Nat) (b:(ae x).length<2^33) (c:(ae y).length<2^33) (a:y≤x):CO 102 [.str (ae x),.str (ae y)] (.ret (.tup [.str (ae (x - y)),.bool true])):=by
 have h:=Vr (ae x) (ae y) (by omega) (by omega) (by rw [aH,aH];exact a);rw [aH,aH] at h;exact h
theorem ali (x y:Nat) (a:(ae x).length<2^33) (b:(ae y).length<2^33):CO 101 [.str (ae x),.str (ae y)] (.ret (ω (mG x y))):=by
 have h:=J8 (ae x) (ae y) (by omega) (by omega);rw [aH,aH] at h;exact h
theorem IX (a:Bool) (n d:Nat) (c:(ae n).length<2^33) (hd:(ae d).length<2^33) (b:0<d):CO 160 [.bool a,.str (ae n),.str (ae d)] (.ret (qA (iK a n d))):=by
 have h:=X9 a (ae n) (ae d) (by omega) (by omega) (by rw [aH];exact b);rw [aH,aH] at h;exact h
theorem Y1 (q:RQ) (a:q.ok) (b:(ae q.n).length<2^33) (hd:(ae q.d).length<2^33):CO 121 [.agg [.bool q.neg,.str (ae q.n),.str (ae q.d)]] (.ret (ω (xh q))):=by
 have h:=pM q.neg (ae q.n) (ae q.d) (by omega) (by omega);rw [Ze,lC a] at h;exact h
theorem n_ (a:Bool) (n d:List UInt8) (e:n.length<2^33) (hd:d.length<2^33):CO 170 [Ω a n d] (.ret (qA (vQ a n d))):=by
 have c:=mY a n d (by omega) (by omega);unfold vQ;cases b:je a n d with
 |false=>
  rw [b] at c;have h:=alX a false n d [] [] q0 q0 q0 b (by rw [b];exact c) iY;rw [if_neg (by simp)];exact h
 |true=>
  rw [b] at c;have h:=alY a false n d [] [] q0 q0 q0 b (by rw [b];exact c);rw [if_pos rfl,← Ri b];exact h
theorem YY (b:Bool) (n d:List UInt8) (i:n.length<2^33) (hd:d.length<2^33):CO 200 [Ω b n d] (.ret (qA (zM (vQ b n d)))):=by
 have f:=n_ b n d i hd;generalize vQ b n d=a at*
 have e:(!((ae a.n)== []))=decide (0<a.n):=by
  rcases Xqg a.n with h|h
  ·rw [h,eF];rfl
  ·rw [Yq0 h,Xqw,Yq2];intro g;rw [ji] at g;omega
 unfold zM qA;cases c:a.neg with
 |false=>
  have h:=alL b false n d [] [] a q0 q0 c f;rw [e] at h;exact h
 |true=>exact alM b false n d [] [] a q0 q0 c f
theorem Gl (h g:Bool) (d e f c:List UInt8) (C:d.length<2^29) (z:e.length<2^29) (y:f.length<2^29) (B:c.length<2^29):CO 167 [Ω h d e,Ω g f c] (.ret (qA (jf (vQ h d e) (vQ g f c)))):=by
 have n:=n_ h d e (by omega) (by omega);have l:=n_ g f c (by omega) (by omega);obtain ⟨x,D⟩:=o_ h d e;obtain ⟨A,s⟩:=o_ g f c;have p:=ny h d e;have o:=ny g f c;generalize vQ h d e=a at*
 generalize vQ g f c=b at*
 have hd:0<a.d*b.d:=Xjx p.1 o.1;have r:=fD a.n b.d;have w:=fD b.n a.d;have t:=fD a.d b.d;have m:=FP a.n b.d (by omega) (by omega);have j:=FP b.n a.d (by omega) (by omega);have k:=FP a.d b.d (by omega) (by omega);have u:=zG (a.n*b.d) (b.n*a.d);have q:=oZ (Xwi (a.n*b.d) (b.n*a.d));have v:=oZ (Xwi (b.n*a.d) (a.n*b.d));unfold jf;by_cases hs:a.neg=b.neg
 ·rw [if_pos hs];exact acC h g d e f c a b _ (by rw [hs];exact beq_self_eq_true _) n l m j k (ad6 _ _ (by omega) (by omega)) (IX a.neg _ _ (by omega) (by omega) hd)
 ·rw [if_neg hs];have i:(a.neg==b.neg)=false:=beq_eq_false_iff_ne.2 hs;by_cases hl:b.n*a.d≤a.n*b.d
  ·rw [if_pos hl];exact acD h g d e f c a b _ i n l m j k (ad7 _ _ (by omega) (by omega) hl) (IX a.neg _ _ (by omega) (by omega) hd)
  ·rw [if_neg hl];exact acB h g d e f c a b _ i n l m j k (akF _ _ (by omega) (by omega) (by omega)) (ad7 _ _ (by omega) (by omega) (by omega)) (IX b.neg _ _ (by omega) (by omega) hd)
theorem Gn (f c:Bool) (d e a b:List UInt8) (g:d.length<2^29) (j:e.length<2^29) (n:a.length<2^28) (o:b.length<2^28):CO 168 [Ω f d e,Ω c a b] (.ret (qA (jD (vQ f d e) (vQ c a b)))):=by
 have m:=YY c a b (by omega) (by omega);obtain ⟨l,i⟩:=o_ c a b;have k:=JR (ny c a b);unfold jD;have h:=Gl f (zM (vQ c a b)).neg d e (ae (zM (vQ c a b)).n) (ae (zM (vQ c a b)).d) g j (Xqk l (by omega)) (Xqk i (by omega));rw [lC k] at h;exact alS f c d e a b q0 _ _ m h
theorem Gm (f e:Bool) (c d a b:List UInt8) (m:c.length<2^28) (n:d.length<2^28) (g:a.length<2^28) (j:b.length<2^28):CO 127 [Ω f c d,Ω e a b] (.ret (ω (lS (vQ f c d) (vQ e a b)))):=by
 have h:=Gn f e c d a b (by omega) (by omega) g j;obtain ⟨p,q⟩:=o_ f c d;obtain ⟨k,i⟩:=o_ e a b;have l:(jD (vQ f c d) (vQ e a b)).ok:=jQ (ny _ _ _) (JR (ny _ _ _));have o:=zH (vQ f c d) (zM (vQ e a b)) (2^29) (by omega) (by omega) (Xxr k (by omega)) (Xxr i (by omega));exact alF f e c d a b q0 q0 _ h (Y1 _ l (by unfold jD;omega) (by unfold jD;omega))
theorem Nu (i g:Bool) (d e f c:List UInt8) (v:d.length<2^29) (s:e.length<2^29) (r:f.length<2^29) (u:c.length<2^29) (k:0<(vQ g f c).n):CO 125 [Ω i d e,Ω g f c] (.ret (.tup [qA (yj (vQ i d e) (vQ g f c)),.bool true])):=by
 have l:=n_ i d e (by omega) (by omega);have j:=n_ g f c (by omega) (by omega);obtain ⟨q,w⟩:=o_ i d e;obtain ⟨t,o⟩:=o_ g f c;have m:=ny i d e;generalize vQ i d e=a at*
 generalize vQ g f c=b at*
 have n:=fD a.n b.d;have p:=fD a.d b.n;exact alO i g d e f c a b (yj a b) (by rw [Yq2];intro h;rw [ji] at h;omega) l j (FP a.n b.d (by omega) (by omega)) (FP a.d b.n (by omega) (by omega)) (IX _ _ _ (by omega) (by omega) (Xjx m.1 k))
theorem YZ (f c:Bool) (d e a b:List UInt8) (j:d.length<2^29) (l:e.length<2^29) (k:a.length<2^29) (m:b.length<2^29) (g:(vQ c a b).n=0):CO 125 [Ω f d e,Ω c a b] (.ret (.tup [Ω false [] [],.bool false])):=by
 have h:=n_ f d e (by omega) (by omega);have i:=n_ c a b (by omega) (by omega);exact alN f c d e a b _ _ q0 (by rw [g,eF];rfl) h i
theorem acp (h g:Bool) (d e f c:List UInt8) (E:d.length<2^29) (B:e.length<2^29) (A:f.length<2^29) (D:c.length<2^29):CO 62 [Ω h d e,Ω g f c] (.ret (qA (jf (vQ h d e) (vQ g f c)))):=by
 have o:=zW h d e (by omega) (by omega);have m:=zW g f c (by omega) (by omega);obtain ⟨z,F⟩:=o_ h d e;obtain ⟨C,u⟩:=o_ g f c;have r:=ny h d e;have q:=ny g f c;generalize vQ h d e=a at*
 generalize vQ g f c=b at*
 have hd:0<a.d*b.d:=Xjx r.1 q.1;have t:=fD a.n b.d;have y:=fD b.n a.d;have v:=fD a.d b.d;have n:=YM a.n b.d (by omega) (by omega);have j:=YM b.n a.d (by omega) (by omega);have l:=YM a.d b.d (by omega) (by omega);have w:=zG (a.n*b.d) (b.n*a.d);have s:=oZ (Xwi (a.n*b.d) (b.n*a.d));have x:=oZ (Xwi (b.n*a.d) (a.n*b.d));unfold jf;by_cases hs:a.neg=b.neg
 ·rw [if_pos hs];exact acr h g d e f c a b _ (by rw [hs];exact beq_self_eq_true _) o m n j l (alh _ _ (by omega) (by omega)) (zV a.neg _ _ (by omega) (by omega) hd)
 ·rw [if_neg hs];have i:(a.neg==b.neg)=false:=beq_eq_false_iff_ne.2 hs;have p:=ali (a.n*b.d) (b.n*a.d) (by omega) (by omega);by_cases hl:b.n*a.d≤a.n*b.d
  ·rw [if_pos hl];have k:decide (((0:Nat):Int)≤mG (a.n*b.d) (b.n*a.d))=true:=by unfold mG;rw [if_neg (by omega)];split<;>rfl
   exact acs h g d e f c a b _ k i o m n j l p (aea _ _ (by omega) (by omega) hl) (zV a.neg _ _ (by omega) (by omega) hd)
  ·rw [if_neg hl];have k:decide (((0:Nat):Int)≤mG (a.n*b.d) (b.n*a.d))=false:=by unfold mG;rw [if_pos (by omega)];rfl
   exact acu h g d e f c a b _ k i o m n j l p (aea _ _ (by omega) (by omega) (by omega)) (zV b.neg _ _ (by omega) (by omega) hd)
theorem Sz (h g:Bool) (d e f c:List UInt8) (u:d.length<2^29) (r:e.length<2^29) (q:f.length<2^29) (t:c.length<2^29):CO 169 [Ω h d e,Ω g f c] (.ret (qA (nX (vQ h d e) (vQ g f c)))):=by
 have k:=n_ h d e (by omega) (by omega);have i:=n_ g f c (by omega) (by omega);obtain ⟨p,v⟩:=o_ h d e;obtain ⟨s,n⟩:=o_ g f c;have l:=ny h d e;have j:=ny g f c;generalize vQ h d e=a at*
 generalize vQ g f c=b at*
 have m:=fD a.n b.n;have o:=fD a.d b.d;exact alK h g d e f c a b (nX a b) k i (FP a.n b.n (by omega) (by omega)) (FP a.d b.d (by omega) (by omega)) (IX _ _ _ (by omega) (by omega) (Xjx l.1 j.1))
def RQ.rt (q:RQ):Rat:=(if q.neg then -1 else 1)*(q.n:Rat) / (q.d:Rat)
theorem zL {x:Nat} (h:0<x):(x:Rat) ≠ 0:=by
 intro e;have:x=0:=by exact_mod_cast e
 omega
theorem Kr (c:Bool) (n d:Nat) (h:0<d):(iK c n d).rt=(if c then -1 else 1)*(n:Rat) / (d:Rat):=by
 obtain ⟨a,k⟩:=Yqe n d;obtain ⟨b,j⟩:=Xvq n d;have e:0<Xx2 n d:=Xj6 n h;unfold iK RQ.rt;simp only;generalize Xx2 n d=g at*
 subst k j;rw [Xwn _ e,Xwn _ e];have f:0<b:=Nat.pos_of_mul_pos_left h;have m:=zL e;have l:=zL f;have i:((if (c && decide (0<g*a))=true then -1 else 1:Rat))*(a:Rat)=(if c=true then -1 else 1)*(a:Rat):=by
  rcases Xqg a with h0|h0
  ·subst h0;simp
  ·rw [Yq0 (Xjx e h0),Xw7]
 rw [i,Rat.natCast_mul,Rat.natCast_mul];grind
theorem agY (q:RQ):(zM q).rt= - q.rt:=by
 unfold zM RQ.rt;rcases Xqg q.n with h0|h0
 ·simp [h0];grind
 ·cases q.neg<;>simp [h0]<;>grind
theorem YW {a b:RQ} (j:a.ok) (i:b.ok):(jf a b).rt=a.rt+b.rt:=by
 have l:=zL j.1;have k:=zL i.1;have hd:0<a.d*b.d:=Xjx j.1 i.1;unfold jf;split
 ·rename_i hs;rw [Kr _ _ _ hd,Rat.natCast_add,Rat.natCast_mul,Rat.natCast_mul,Rat.natCast_mul];unfold RQ.rt;rw [hs];cases b.neg<;>simp<;>grind
 ·rename_i hs;split
  ·rename_i g;obtain ⟨c,d⟩:=Xvy g;have e:(a.n:Rat)*b.d=b.n*a.d+c:=by
    have:=congrArg (fun x:Nat=>(x:Rat)) d;simpa only [Rat.natCast_add,Rat.natCast_mul] using this
   rw [d,Xjo,Kr _ _ _ hd,Rat.natCast_mul];unfold RQ.rt;cases h:a.neg<;>cases f:b.neg<;>simp [h,f] at hs ⊢ <;>grind
  ·rename_i g;obtain ⟨c,d⟩:=Xvy (Nat.le_of_not_le g);have e:(b.n:Rat)*a.d=a.n*b.d+c:=by
    have:=congrArg (fun x:Nat=>(x:Rat)) d;simpa only [Rat.natCast_add,Rat.natCast_mul] using this
   rw [d,Xjo,Kr _ _ _ hd,Rat.natCast_mul];unfold RQ.rt;cases h:a.neg<;>cases f:b.neg<;>simp [h,f] at hs ⊢ <;>grind
theorem agX {a b:RQ} (d:a.ok) (f:b.ok) (h:a.rt=b.rt):a=b:=by
 have key:∀ q:RQ,q.ok→∃ h1 h2,q.rt=(⟨if q.neg then -(q.n:Int) else q.n,q.d,h1,h2⟩:Rat):=by
  intro q i;refine ⟨Nat.pos_iff_ne_zero.1 i.1, ?_, ?_⟩
  ·show Xx2 _ _=1;rw [← i.2.1];split<;>simp
  ·rw [Rat.mk_eq_mkRat];unfold RQ.rt;rw [Rat.mkRat_eq_div];cases q.neg<;>simp [Rat.intCast_natCast]<;>grind
 obtain ⟨_,_,m⟩:=key a d;obtain ⟨_,_,l⟩:=key b f;rw [m,l] at h;have c:=congrArg Rat.num h;have hd:=congrArg Rat.den h;simp only at c hd;obtain ⟨j,o,r⟩:=a;obtain ⟨k,p,n⟩:=b;simp only at c hd;have e:=d.2.2;have g:=f.2.2;simp only at e g;cases j<;>cases k<;>simp at c e g ⊢ <;>omega
theorem ag0 {a b:RQ} (c:a.ok) (d:(zM b).ok):(jD a b).rt=a.rt - b.rt:=by
 unfold jD;rw [YW c d,agY];grind
theorem Tq {q:RQ} (h:q.ok):(xh q<0↔q.rt<0)∧(xh q=0↔q.rt=0)∧(0<xh q↔0<q.rt):=by
 have b:=zL h.1;have hd:(0:Rat)<q.d:=by
  have:0<q.d:=h.1
  exact_mod_cast this
 unfold xh RQ.rt;rcases Xqg q.n with h0|h0
 ·have:(0:Rat) / q.d=0:=by grind
  simp [h0,this]
 ·have a:(0:Rat)<q.n:=by exact_mod_cast h0
  have hp:(0:Rat)<(q.n:Rat) / q.d:=(by rw [Rat.div_def];exact Rat.mul_pos a (Rat.inv_pos.2 hd))
  rw [if_neg (by omega)];cases q.neg<;>simp<;>grind
def flI (q:RQ):Int:=if q.neg then -((q.n / q.d+(if q.n % q.d=0 then 0 else 1):Nat):Int) else ((q.n / q.d:Nat):Int)
def UR (k:Int):RQ:=⟨decide (k<0),k.natAbs,1⟩
theorem Rh (k:Int):(UR k).ok:=⟨Nat.one_pos,Nat.gcd_one_right _,fun h=>by
 have:k<0:=of_decide_eq_true h;show 0<k.natAbs;omega⟩
def DK (a s:RQ):RQ:=nX (UR (flI (yj a s))) s
def eqR (a b:RQ):Bool:=(a.neg==b.neg) && ((ae a.n==ae b.n) && (ae a.d==ae b.d))
theorem aa3 {a b:RQ}:eqR a b=true↔a=b:=by
 obtain ⟨s,n,d⟩:=a;obtain ⟨s',e,c⟩:=b;simp only [eqR,ο,beq_iff_eq,RQ.mk.injEq];exact ⟨fun h=> ⟨h.1,FK h.2.1,FK h.2.2⟩,fun h=> ⟨h.1,by rw [h.2.1],by rw [h.2.2]⟩⟩
def upR (a s:RQ):RQ:=if eqR (DK a s) a=true then a else jf (DK a s) s
def nrR (a s:RQ):RQ:=if 0≤lS (jf (jD a (DK a s)) (jD a (DK a s))) s then jf (DK a s) s else DK a s
theorem qH {a b:RQ} (c:a.ok) (d:b.ok):(jD a b).ok:=jQ c (JR d)
theorem acY {a b:RQ} (c:a.ok) (d:b.ok):(jD a b).rt=a.rt - b.rt:=ag0 c (JR d)
theorem DI {a b:RQ} (c:a.ok) (d:b.ok):(lS a b<0↔a.rt<b.rt)∧(lS a b=0↔a=b)∧(0<lS a b↔b.rt<a.rt):=by
 have h:=Tq (qH c d);rw [acY c d] at h;unfold lS;refine ⟨h.1.trans ?_,h.2.1.trans ?_,h.2.2.trans ?_⟩
 ·constructor<;>intro _<;>grind
 ·constructor
  ·intro e;exact agX c d (by grind)
  ·intro e;rw [e];grind
 ·constructor<;>intro _<;>grind
theorem agZ {s:RQ} (hs:s.ok) (h:0<xh s):0<s.rt∧0<s.n:=by
 refine ⟨(Tq hs).2.2.1 h, ?_⟩;unfold xh at h;split at h<;>omega
theorem xO {a s:RQ} (hs:s.ok):(DK a s).ok:=ug (Rh _) hs
def jr:RQ→List (RQ × RQ)→List RQ
 |acc,b::b'::l=>acc::jr (jf acc (nX (jD b'.1 b.1) b.2)) (b'::l)
 |acc,_=> [acc]
def iW (l:List (RQ × RQ)) (x:RQ):Nat:=(l.takeWhile fun b=> !(decide (0<lS b.1 x))).length
def atR (l:List (RQ × RQ)) (x:RQ):RQ:=jf ((jr q0 l).getD (iW l x - 1) q0) (nX (l.getD (iW l x - 1) (q0,q0)).2 (jD x (l.getD (iW l x - 1) (q0,q0)).1))
def ku:List (RQ × RQ)→Prop
 |b::b'::l=>b.1.rt<b'.1.rt∧ku (b'::l)
 |_=>True
theorem ku.all:∀ {b:RQ × RQ} {l:List (RQ × RQ)},ku (b::l)→∀ y ∈ l,b.1.rt<y.1.rt
 |b,[],_,y,hy=>by cases hy
 | b,b'::l,h,y,hy=>by
  rcases List.mem_cons.1 hy with rfl|hy
  ·exact h.1
  ·have:=ku.all h.2 y hy;have:=h.1;grind
theorem ku.tail {b:RQ × RQ} {l:List (RQ × RQ)} (h:ku (b::l)):ku l:=by
 cases l with
 |nil=>exact True.intro
 |cons _ _=>exact h.2
theorem aax {b:RQ × RQ} {l:List (RQ × RQ)} {x:RQ} (h:¬ 0<lS b.1 x):iW (b::l) x=iW l x+1:=by
 unfold iW;rw [List.takeWhile_cons_of_pos (by simp at h ⊢;omega)];simp
end Go.Proofs.Tryz
