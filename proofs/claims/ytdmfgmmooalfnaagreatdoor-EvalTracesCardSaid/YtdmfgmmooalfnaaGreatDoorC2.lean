/- Contracts of functions; joined by a program of mine. -/
import Derived.Test.YtdmfgmmooalfnaaGreatDoorC1
import Derived.Test.YtdmfgmmooalfnaaGreatDoorM5
set_option linter.unusedSimpArgs false
set_option linter.unusedVariables false
set_option maxRecDepth 100000
open Go AM
open List renaming headD->θ,drop->ε,length_cons->ν,nil_append->Xqi,map_cons->Xqg,map_nil->Xxw,length_nil->Xqf,take_length->Xqz,length_append->η,length_singleton->τ,append_nil->Δ,append_assoc->υ,take->κ,take_of_length_le->ο,eq_nil_of_length_eq_zero->Xxz,getD_eq_getElem?_getD->ξ,getElem?_eq_none->Xq6,drop_zero->Xjt,take_add_one->Xwt,getElem?_eq_getElem->π,length_take->Xq4,length->ζ,all->Xzy,map->Xvc,getD->Xqp,foldl_append->Xwx,map_append->Xx3,all_eq_true->Xj1,take_append_drop->Xj5,getD_cons_zero->Xj4,drop_of_length_le->Xxv,range->Xq7,ext_getElem?->Xj3,getElem?_set->Xzo,replicate->μ,drop_eq_getElem_cons->Xxs,dropWhile_cons->Xx8,singleton_append->Xqt,tail->Xj0,length_drop->Xx0,replicate_succ->Xxi
open Nat renaming mod_lt->Xqy,pow_succ->Xq3,mul_comm->Xqh,mul_assoc->Xqr,add_mul->Xxt,mul_one->Θ,add_zero->Xq1,not_lt->Xk2,eq_zero_or_pos->Xqb,pow_le_pow_right->Xqc,mul_zero->Xjl,min_eq_left->Xjc,lt_or_ge->Xq2,mul_le_mul_left->Xqx,mul_add->Xxe,le_refl->χ,ble->Φ,beq->Xqn,mul_pos->Xjg,lt_of_lt_of_le->Xqa,mul_lt_mul_of_pos_right->Xvh,lt_of_not_le->Yqc,div_lt_iff_lt_mul->Xqv,mod_eq_of_lt->Ξ,zero_mul->Xw2,zero_add->Ψ,le_trans->Xxg,pow_mul->Xjf,lt_trichotomy->Xze,mul_le_mul_right->Xqw,one_mul->Xzu,lt_irrefl->Xv3,div_div_eq_div_mul->Xx4,add_comm->Xx1,div_add_mod->Xxb,lt_trans->Xq8,le_of_lt->Xw3,div_eq_of_lt->Xjb,div_le_self->Xjn,gcd->Xxy,gcd_comm->Xkg,gcd_zero_left->Xwv,gcd_le_right->Xw6,gcd_pos_of_pos_right->Xj6,div_pos->Xvf,div_self->Yxs,sub_zero->Xjq,succ_pos->Xvp
open Decidable renaming em->Xxm
open IntKind renaming wrap->γ
open Bool renaming not_true->Xwo,not_false->Xju,eq_iff_iff->Xxj,not_eq_true'->Xqq
open Int renaming tdiv->Xxl,toNat->δ,fdiv->Xq0
open AV renaming toInt->Γ,toBool->Xkj,nilS->Xk4
open UInt8 renaming ofNat->Xqo,toNat->Xqd,toNat_lt->Xvq
namespace Go.Proofs.Tryz
abbrev zcc2_0 : List AV := [.str [],ω 0,.bool false,.bool false,.bool false]
def Pj (l:List Nat):AV:=match l with| []=> .nilS|x::l=> .ref 0 0 0 (x::l).length
def Pm (l:List Nat):Hp:=match l with| []=> []|x::l=> [(0,⟨ai (x::l),0,false,0,1,true⟩)]
theorem h_ {l:List Nat} (h:l ≠ []):Pj l= .ref 0 0 0 l.length:=by cases l with|nil=>exact absurd rfl h|cons _ _=>rfl
theorem ig {l:List Nat} (h:l ≠ []):Pm l= [(0,⟨ai l,0,false,0,1,true⟩)]:=by cases l with|nil=>exact absurd rfl h|cons _ _=>rfl
theorem iT (l:List Nat) (y:Nat):l++ [y] ≠ []:=by simp
theorem RY {p s:List Nat} {x k:Nat} (h:k=p.length):θ (ε k (ai (p++x::s))) .dead= ω (x:Int):=by
 rw [fP (by subst h;simp)];subst h;simp
def VS (d:Nat):List Nat->Nat->List Nat × Nat
 | [],c=>([],c)
 |x::l,c=>((x*d+c) % 16777216::(VS d l ((x*d+c) / 16777216)).1,(VS d l ((x*d+c) / 16777216)).2)
theorem OY {d x c:Nat} (hd:d<16777216) (a:x<16777216) (e:c<16777216):x*d+c<281474976710656/\(x*d+c) / 16777216<16777216/\x*d<281474976710656:=by
 have b:x*d<=16777215*16777215:=Nat.mul_le_mul (by omega) (by omega);omega
theorem aek {d:Nat} (hd:d<16777216) (l:List Nat):∀ c,c<16777216->bz l->(VS d l c).2<16777216/\bz (VS d l c).1/\(VS d l c).1.length=l.length/\dn (VS d l c).1+16777216^l.length*(VS d l c).2=dn l*d+c:=by
 induction l with
 |nil=>intro c a _;exact ⟨a,bz.nil,rfl,by simp [VS,dn]⟩
 |cons x l ih=>
  intro c a b;obtain ⟨_,e,_⟩:=OY hd b.head a;obtain ⟨f,g,h,i⟩:=ih _ e b.tail;simp only [VS];refine ⟨f,bz.cons (Xqy _ (by omega)) g,by simp [h], ?_⟩;simp only [dn,ν,Xq3];rw [Xqh (16777216^l.length),Xqr,Xxt,Xqr 16777216 (dn l)];omega
def VT (a:List Nat) (na:Bool) (d:Nat) (p:Nat × Nat × List Nat):St:=⟨[(0,.sl (ai a) a.length na),(1,ω (d:Int)),(6,ω (p.2.1:Int)),(7,ω (p.1:Int)),(5,Pj p.2.2)],Pm p.2.2,.dead,[]⟩
def TY (p:Nat × List Nat):St:=⟨[(5,Pj p.2),(6,ω (p.1:Int))],Pm p.2,.dead,[]⟩
theorem aen {nt:Nat} (h:35<=nt) (a o:List Nat) (f:Bool) (d c k x:Nat) (q:a.length<2^40) (p:k<a.length) (n:o.length=k) (g:a.getD k 0=x) (l:x*d+c<281474976710656) (i:x*d<281474976710656):
  ψ nt f188 (VT a f d (k,c,o)) .normal (VT a f d (k+1,(x*d+c) / 16777216,o++ [(x*d+c) % 16777216])):=by
 unfold VT;have j:(x*d+c) / 16777216<9223372036854775808:=by omega
 have m:(x*d+c) % 16777216<9223372036854775808:=by omega
 have e:(((x*d:Nat):Int))+(c:Int)=((x*d+c:Nat):Int):=by omega
 rcases Xxm (o= []) with rfl|hne
 .have b:=aiD h a [] f d c k;simp (disch:=first|omega|(simp [au,ay]<;>omega)) only [aC,Θ,fP,g,eF,dG,bi,aZ,bD,bf,zD,aS,e,qV,bQ,uV] at b;simp only [Xqi,Pj,Pm,ai,Xqg,Xxw,ν,Xqf] at b ⊢;apply b<;>first|exact True.intro|omega|assumption|exact rfl
 .have b:=aiB h a o f d c k;rw [h_ hne,ig hne,h_ (iT _ _),ig (iT _ _)];simp (disch:=first|omega|(simp [au,ay]<;>omega)) only [fK,bi,Θ,bM,aC,fP,g,eF,dG,aZ,bD,bf,zD,aS,e,qV,bQ,dA,Xqz,uV,je] at b;simp only [η,τ];apply b<;>first|exact True.intro|omega|assumption|exact rfl
theorem ael {nt:Nat} (f:35<=nt) (a o:List Nat) (e:Bool) (d c:Nat):ψ nt f188 (VT a e d (a.length,c,o)) (.exit 0) (TY (c,o)):=by
 unfold VT TY;rcases Xxm (o= []) with rfl|hne
 .have b:=aiE f a [] e d c a.length (by rw [aZ];simp [lit]);exact b
 .have b:=aiC f a o e d c a.length (by rw [aZ];simp [lit]);rw [h_ hne,ig hne];exact b
theorem aem {nt:Nat} (i:35<=nt) (a:List Nat) (f:Bool) (d:Nat) (hd:d<16777216) (r:a.length<2^40) (b:bz a):∀ (l p o:List Nat) (c:Nat),p++l=a->o.length=p.length->c<16777216->
  az prog ap [] nt (af 0 (ah f188)) (λ_=> .exit 0) (VT a f d) TY (p.length,c,o) ((VS d l c).2,o++(VS d l c).1):=by
 intro l
 induction l with
 |nil=>
  intro p o c h e g;have hp:p=a:=by simpa using h
  rw [hp];simp only [VS,Δ];exact .done (ael i a o f d c)
 |cons x l ih=>
  intro p o c h e g;have s:p.length+(l.length+1)=a.length:=by rw [<- h];simp
  have n:x<16777216:=b x (by rw [<- h];simp);have k:a.getD p.length 0=x:=by rw [<- h];simp
  obtain ⟨j,m,q⟩:=OY hd n g;have hnext:=ih (p++ [x]) (o++ [(x*d+c) % 16777216]) ((x*d+c) / 16777216) (by simp [h]) (by simp [e]) m;rw [η,τ,υ] at hnext;exact .next (aen i a o f d c p.length x r (by omega) e k j q) hnext
theorem OW (x d:Nat) (a:Bool) (hd:d<16777216) (m:(ax x).length<2^36):CO 188 [.sl (ai (ax x)) (ax x).length a,ω (d:Int)] (.ret (.sl (ai (ax (x*d))) (ax (x*d)).length true)):=by
 obtain ⟨g,i,j,f⟩:=aek hd (ax x) 0 (by omega) (bz.dig x);have hloop:=λnt (hn:35<=nt)=>aem hn (ax x) a d hd (by omega) (bz.dig x) (ax x) [] [] 0 rfl rfl (by omega)
 generalize n:VS d (ax x) 0=r at*
 obtain ⟨o,c⟩:=r;simp only [Xqi,Xqf] at hloop g i j f;rw [fG,Xq1] at f;have k:dn (o++ [c])=x*d:=by rw [AO,j];simp only [dn];omega
 have e:=Am (o++ [c]) true (by simp;omega);rw [TZ (bz.app i (bz.cons g bz.nil)),k] at e;rcases Xxm (o= []) with rfl|hne
 .have h:=adA (ax x) [] (ax (x*d)) a d c;apply h
  .exact az.blk hloop (by simp) rfl (aN.of ⟨rfl,rfl,rfl,rfl,rfl,trivial⟩) (aN.of ⟨rfl,rfl,trivial⟩)
  .exact e
 .have h:=adz (ax x) o (ax (x*d)) a d c;have l:o.length<2^37:=by omega
  have b:κ (o.length+1) (ai (o++ [c]))=ai (o++ [c]):=by
   rw [dA,ο (by simp)]
  simp (disch:=first|omega|(simp [au,ay]<;>omega)) only [fK,bi,Θ,bM,dA,Xqz,je] at h;rw [η,τ] at e;rw [<- dA] at h;rw [b] at h;apply h<;>first|exact True.intro|omega|assumption|exact rfl|skip
  .exact az.blk hloop (by simp) rfl (aN.of ⟨rfl,rfl,rfl,rfl,rfl,trivial⟩) (by unfold TY;rw [h_ hne,ig hne];exact aN.of ⟨rfl,rfl,trivial⟩)
def Qj:List Nat->List Nat->Nat->List Nat × Nat
 | [],_,c=>([],c)
 |x::u,v,c=>((if x<v.headD 0+c then x+16777216 - (v.headD 0+c) else x - (v.headD 0+c))::(Qj u v.tail (if x<v.headD 0+c then 1 else 0)).1,(Qj u v.tail (if x<v.headD 0+c then 1 else 0)).2)
theorem ak9 {v:List Nat} (h:bz v):v.headD 0<16777216:=by cases v with|nil=>show 0<16777216;omega|cons d l=>exact h.head
theorem aoC {v:List Nat} (h:bz v):bz v.tail:=by cases v with|nil=>exact h|cons d l=>exact h.tail
theorem V8 (v:List Nat):dn v=v.headD 0+16777216*dn v.tail:=by cases v with|nil=>rfl|cons d l=>rfl
theorem ab_ (u:List Nat):∀ (v:List Nat) (c:Nat),c<=1->bz u->bz v->v.length<=u.length->(Qj u v c).2<=1/\bz (Qj u v c).1/\(Qj u v c).1.length=u.length/\dn (Qj u v c).1+dn v+c=dn u+16777216^u.length*(Qj u v c).2:=by
 induction u with
 |nil=>
  intro v c g _ _ a;have:v= []:=Xxz (by simpa using a);subst this;exact ⟨g,bz.nil,rfl,by simp [Qj,dn]⟩
 |cons x u ih=>
  intro v c g d e a;have l:=d.head;have m:=ak9 e;have b:v.tail.length<=u.length:=by simp at a ⊢;omega
  obtain ⟨i,j,k,h⟩:=ih v.tail (if x<v.headD 0+c then 1 else 0) (by split<;>omega) d.tail (aoC e) b;simp only [Qj];refine ⟨i,bz.cons (by split<;>omega) j,by rw [ν,k,ν], ?_⟩;rw [V8 v];simp only [dn,ν,Xq3];rw [Xqh (16777216^u.length),Xqr];generalize Qj u v.tail (if x<v.headD 0+c then 1 else 0)=r at*
  split at h<;>rename_i f
  .rw [if_pos f];omega
  .rw [if_neg f];omega
def U7 (a b:List Nat) (na nb:Bool) (p:Nat × Nat × List Nat):St:=⟨[(0,.sl (ai a) a.length na),(1,.sl (ai b) b.length nb),(6,ω (p.2.1:Int)),(7,ω (p.1:Int)),(5,Pj p.2.2)],Pm p.2.2,.dead,[]⟩
def SE (p:Nat × List Nat):St:=⟨[(5,Pj p.2)],Pm p.2,.dead,[]⟩
theorem acd {nt:Nat} (i:41<=nt) (a b o:List Nat) (g f:Bool) (c k x y:Nat) (s:a.length<2^40) (m:b.length<2^40) (r:k<a.length) (t:o.length=k) (h:a.getD k 0=x) (j:b.getD k 0=y) (p:x<16777216) (n:y<16777216) (q:c<=1):
  ψ nt f151 (U7 a b g f (k,c,o)) .normal (U7 a b g f (k+1,if x<y+c then 1 else 0,o++ [if x<y+c then x+16777216 - (y+c) else x - (y+c)])):=by
 unfold U7;by_cases hkb:k<b.length<;>by_cases hlt:x<y+c<;>simp only [hlt,if_true,if_false]
 .have e:((x:Int) - (c:Int) - (y:Int)+((16777216:Nat):Int))=((x+16777216 - (y+c):Nat):Int):=by omega
  rcases Xxm (o= []) with rfl|hne
  .have d:=ah7 i a b [] g f c k;simp (disch:=first|omega|(simp [au,ay]<;>omega)) only [aC,Θ,fP,h,bf,bG,j,bD,bi,eF,dG,aZ,bQ] at d;rw [e] at d;simp only [Xqi,Pj,Pm,ai,Xqg,Xxw,ν,Xqf] at d ⊢;apply d<;>first|exact True.intro|omega|assumption|exact rfl
  .have d:=ah2 i a b o g f c k;rw [h_ hne,ig hne,h_ (iT _ _),ig (iT _ _)];simp (disch:=first|omega|(simp [au,ay]<;>omega)) only [fK,bi,Θ,aC,fP,h,bf,bG,j,bD,eF,dG,aZ,bQ] at d;rw [e] at d;simp (disch:=first|omega|(simp [au,ay]<;>omega)) only [bM,dA,Xqz,je] at d;simp only [η,τ];apply d<;>first|exact True.intro|omega|assumption|exact rfl
 .have e:((x:Int) - (c:Int) - (y:Int))=((x - (y+c):Nat):Int):=by omega
  rcases Xxm (o= []) with rfl|hne
  .have d:=ah8 i a b [] g f c k;simp (disch:=first|omega|(simp [au,ay]<;>omega)) only [aC,Θ,fP,h,bf,bG,j,dP,dY,fA,eF,dG,bi,aZ,bD,bQ] at d;rw [e] at d;simp only [Xqi,Pj,Pm,ai,Xqg,Xxw,ν,Xqf] at d ⊢;apply d<;>first|exact True.intro|omega|assumption|exact rfl
  .have d:=ah3 i a b o g f c k;rw [h_ hne,ig hne,h_ (iT _ _),ig (iT _ _)];simp (disch:=first|omega|(simp [au,ay]<;>omega)) only [fK,bi,Θ,aC,fP,h,bf,bG,j,dP,dY,fA,eF,dG,aZ,bD,bQ] at d;rw [e] at d;simp (disch:=first|omega|(simp [au,ay]<;>omega)) only [bM,dA,Xqz,je] at d;simp only [η,τ];apply d<;>first|exact True.intro|omega|assumption|exact rfl
 .have l:y=0:=by rw [<- j,ξ,Xq6 (by omega)];rfl
  have e:((x:Int) - (c:Int)+((16777216:Nat):Int))=((x+16777216 - (y+c):Nat):Int):=by omega
  rcases Xxm (o= []) with rfl|hne
  .have d:=ah9 i a b [] g f c k;simp (disch:=first|omega|(simp [au,ay]<;>omega)) only [aC,Θ,fP,h,bf,bG,bD,bi,aZ,dP,dY,fA,Xk2,eF,dG,bQ] at d;rw [e] at d;simp only [Xqi,Pj,Pm,ai,Xqg,Xxw,ν,Xqf] at d ⊢;apply d<;>first|exact True.intro|omega|assumption|exact rfl
  .have d:=ah4 i a b o g f c k;rw [h_ hne,ig hne,h_ (iT _ _),ig (iT _ _)];simp (disch:=first|omega|(simp [au,ay]<;>omega)) only [fK,bi,Θ,aC,fP,h,bf,bG,bD,aZ,dP,dY,fA,Xk2,eF,dG,bQ] at d;rw [e] at d;simp (disch:=first|omega|(simp [au,ay]<;>omega)) only [bM,dA,Xqz,je] at d;simp only [η,τ];apply d<;>first|exact True.intro|omega|assumption|exact rfl
 .have l:y=0:=by rw [<- j,ξ,Xq6 (by omega)];rfl
  have e:((x:Int) - (c:Int))=((x - (y+c):Nat):Int):=by omega
  rcases Xxm (o= []) with rfl|hne
  .have d:=ah_ i a b [] g f c k;simp (disch:=first|omega|(simp [au,ay]<;>omega)) only [aC,Θ,fP,h,bf,bG,dP,dY,fA,aZ,Xk2,eF,dG,bi,bD,bQ] at d;rw [e] at d;simp only [Xqi,Pj,Pm,ai,Xqg,Xxw,ν,Xqf] at d ⊢;apply d<;>first|exact True.intro|omega|assumption|exact rfl
  .have d:=ah5 i a b o g f c k;rw [h_ hne,ig hne,h_ (iT _ _),ig (iT _ _)];simp (disch:=first|omega|(simp [au,ay]<;>omega)) only [fK,bi,Θ,aC,fP,h,bf,bG,dP,dY,fA,aZ,Xk2,eF,dG,bD,bQ] at d;rw [e] at d;simp (disch:=first|omega|(simp [au,ay]<;>omega)) only [bM,dA,Xqz,je] at d;simp only [η,τ];apply d<;>first|exact True.intro|omega|assumption|exact rfl
theorem aca {nt:Nat} (f:41<=nt) (a b o:List Nat) (d e:Bool) (c:Nat):ψ nt f151 (U7 a b d e (a.length,c,o)) (.exit 0) (SE (c,o)):=by
 unfold U7 SE;rcases Xxm (o= []) with rfl|hne
 .exact aia f a b [] d e c a.length (by rw [aZ];simp [lit])
 .have g:=ah6 f a b o d e c a.length (by rw [aZ];simp [lit]);rw [h_ hne,ig hne];exact g
theorem acb {nt:Nat} (n:41<=nt) (a b:List Nat) (j e:Bool) (t:a.length<2^40) (f:b.length<2^40) (d:bz a) (i:bz b):∀ (l p o:List Nat) (c:Nat),p++l=a->o.length=p.length->c<=1->
  az prog ap [] nt (af 0 (ah f151)) (λ_=> .exit 0) (U7 a b j e) SE (p.length,c,o) ((Qj l (b.drop p.length) c).2,o++(Qj l (b.drop p.length) c).1):=by
 intro l
 induction l with
 |nil=>
  intro p o c h g m;have hp:p=a:=by simpa using h
  rw [hp];simp only [Qj,Δ];exact .done (aca n a b o j e c)
 | cons x l ih=>
  intro p o c h g m;have u:p.length+(l.length+1)=a.length:=by rw [<- h];simp
  have s:x<16777216:=d x (by rw [<- h];simp);have r:a.getD p.length 0=x:=by rw [<- h];simp
  have q:(b.drop p.length).headD 0=b.getD p.length 0:=by
   rw [List.headD_eq_head?_getD,List.head?_drop,ξ]
  have k:(b.drop p.length).tail=b.drop (p.length+1):=by rw [List.tail_drop]
  have hnext:=ih (p++ [x]) (o++ [if x<b.getD p.length 0+c then x+16777216 - (b.getD p.length 0+c) else x - (b.getD p.length 0+c)]) (if x<b.getD p.length 0+c then 1 else 0) (by simp [h]) (by simp [g]) (by split<;>omega);rw [η,τ,υ] at hnext;simp only [Qj];rw [q,k];exact .next (acd n a b o j e c p.length x _ t f (by omega) g r rfl s (i.getD _) m) hnext
theorem NP (x y:Nat) (e b:Bool) (h:y<=x) (t:(ax x).length<2^36):CO 151 [.sl (ai (ax x)) (ax x).length e,.sl (ai (ax y)) (ax y).length b] (.ret (.sl (ai (ax (x - y))) (ax (x - y)).length false)):=by
 have j:=rP h;obtain ⟨m,g,l,d⟩:=ab_ (ax x) (ax y) 0 (by omega) (bz.dig x) (bz.dig y) j;have hloop:=λnt (hn:41<=nt)=>acb hn (ax x) (ax y) e b (by omega) (by omega) (bz.dig x) (bz.dig y) (ax x) [] [] 0 rfl rfl (by omega)
 rw [Xqf,Xjt] at hloop;generalize u:Qj (ax x) (ax y) 0=r at*
 obtain ⟨o,c⟩:=r;simp only [Xqi] at hloop m g l d;rw [fG,fG,Xq1] at d;have f:=AQ g;have p:c=0:=by
  rcases Xqb c with h0|h0
  .exact h0
  .have n:c=1:=by omega
   have q:=wR y;have s:=Xqc (show 0<16777216 by omega) j;rw [n,Θ] at d;rw [l] at f;omega
 subst p;have k:dn o=x - y:=by rw [Xjl] at d;omega
 have i:=Am o true (by omega);rw [TZ g,k] at i;rcases Xxm (o= []) with rfl|hne
 .have h:=adg (ax x) (ax y) [] (ax (x - y)) e b;have a:=Am [] false (by simp);rw [TZ bz.nil,k] at a;apply h
  .exact az.blk hloop (by simp) rfl (aN.of ⟨rfl,rfl,rfl,rfl,rfl,trivial⟩) (aN.of ⟨rfl,trivial⟩)
  .exact a.args (eG.cons (aU.nilS false rfl) eG.nil)
 .have h:=adf (ax x) (ax y) o (ax (x - y)) e b;rw [Θ,dA,Xqz] at h;apply h
  .exact az.blk hloop (by simp) rfl (aN.of ⟨rfl,rfl,rfl,rfl,rfl,trivial⟩) (by unfold SE;rw [h_ hne,ig hne];exact aN.of ⟨rfl,trivial⟩)
  .exact i.out (jB.sl1 _ _ _)
def cqO (a b:List Nat):Nat->Option Int
 |0=>none
 |k+1=>if a.getD k 0=b.getD k 0 then cqO a b k else some ((a.getD k 0:Int) - (b.getD k 0:Int))
def MP (a b:List Nat):Int:=if a.length=b.length then (cqO a b a.length).getD 0 else (a.length:Int) - (b.length:Int)
theorem qf {l:List Nat} {k:Nat} (h:k<l.length):dn (l.take (k+1))=dn (l.take k)+16777216^k*l.getD k 0:=by
 rw [Xwt,AO,π h,Xq4,Xjc (by omega),ξ,π h];simp [dn]
theorem MR {a b:List Nat} (f:a.length=b.length) (e:bz a) (d:bz b):∀ k,k<=a.length->(0<=(cqO a b k).getD 0↔dn (b.take k)<=dn (a.take k))/\((cqO a b k).getD 0<=0↔dn (a.take k)<=dn (b.take k))
 |0,_=>by simp [cqO]
 | k+1,h=>by
  obtain ⟨i,g⟩:=MR f e d k (by omega);rw [qf (l:=a) (by omega),qf (l:=b) (by omega)];have j:=AQ (e.take k);have tb:=AQ (d.take k);rw [Xq4,Xjc (by omega)] at j tb;simp only [cqO];by_cases he:a.getD k 0=b.getD k 0
  .rw [if_pos he,he];exact ⟨i.trans (by omega),g.trans (by omega)⟩
  .rw [if_neg he];simp only [Option.getD_some];generalize a.getD k 0=x at*
   generalize b.getD k 0=y at*
   generalize dn (κ k a)=u at*
   generalize dn (κ k b)=v at*
   generalize 16777216^k=M at*
   rcases Xq2 x y with hlt|hge
   .have c:M*(x+1)<=M*y:=Xqx _ hlt;rw [Xxe,Θ] at c;constructor<;>constructor<;>intro<;>omega
   .have c:M*(y+1)<=M*x:=Xqx _ (by omega);rw [Xxe,Θ] at c;constructor<;>constructor<;>intro<;>omega
theorem I4 (x y:Nat):(0<=MP (ax x) (ax y)↔y<=x)/\(MP (ax x) (ax y)<=0↔x<=y):=by
 unfold MP;by_cases h:(ax x).length=(ax y).length
 .rw [if_pos h];have:=MR h (bz.dig x) (bz.dig y) _ (χ _);rw [Xqz,h,Xqz,fG,fG] at this;rw [h];exact this
 .rw [if_neg h];rcases Xq2 (ax x).length (ax y).length with h1|h1
  .have b:¬ y<=x:=λa=>by have:=rP a;omega
   constructor<;>constructor<;>intro<;>omega
  .have b:¬ x<=y:=λa=>by have:=rP a;omega
   constructor<;>constructor<;>intro<;>omega
def afZ (a b:List Nat) (na nb:Bool) (k:Nat):St:=⟨[(0,.sl (ai a) a.length na),(1,.sl (ai b) b.length nb),(5,ω ((k:Int) - 1))],[],.dead,[]⟩
def ajX:Option Int->St
 |none=> ⟨[],[],.dead,[]⟩
 |some c=> ⟨[(4,.int .i64 c)],[],.dead,[]⟩
def cqE:Option Int->bI
 |none=> .exit 0
 |some _=> .ret
theorem aaU {nt:Nat} (h:41<=nt) (a b:List Nat) (e d:Bool) (o:a.length=b.length) (f:bz a) (g:bz b) (q:a.length<2^40):∀ k,k<=a.length->az prog ap [] nt (af 0 (ah f186)) cqE (afZ a b e d) ajX k (cqO a b k):=by
  intro k
  induction k with
  |zero=>exact λ_=> .done (ahV h a b e d)
  | succ k ih=>
    intro p;have n:=f.getD k;have l:=g.getD k;have i:(((k+1:Nat):Int) - 1)=(k:Int):=by omega
    have j:γ .i64 ((k:Int) - ((1:Nat):Int))=(k:Int) - 1:=bG (by omega) (by omega);have m:γ .i64 (((a.getD k 0:Nat):Int) - ((b.getD k 0:Nat):Int))=((a.getD k 0:Nat):Int) - ((b.getD k 0:Nat):Int):=bG (by omega) (by omega);simp only [cqO];by_cases he:a.getD k 0=b.getD k 0
    · rw [if_pos he];refine .next ?_ (ih (by omega))
      unfold afZ;rw [i]
      first
        | (have c:=anq h a b e d k
           simp (disch:=first|omega|(simp [au,ay]<;>omega)) only [aC,Θ,fP,he,bf,jY,decide_true,Xwo,dP,Xju,eF,dG,bi,aZ,bD,j] at c;apply c<;>first|exact True.intro|omega|assumption|exact rfl)
    · rw [if_neg he];refine .done ?_;unfold afZ;rw [i];have c:=anp h a b e d k;simp (disch:=first|omega|(simp [au,ay]<;>omega)) only [aC,Θ,fP,eF,dG,bi,aZ,bf,jY,he,decide_false,Xju,bD,m] at c;apply c<;>first|exact True.intro|omega|assumption|exact rfl
theorem Tv (a b:List Nat) (d e:Bool) (g:bz a) (f:bz b) (k:a.length<2^40) (l:b.length<2^40):CO 186 [.sl (ai a) a.length d,.sl (ai b) b.length e] (.ret (ω (MP a b))):=by
 unfold MP;by_cases hl:a.length=b.length
 .rw [if_pos hl];have hloop:=λnt (hn:41<=nt)=>aaU hn a b d e hl g f k a.length (χ _)
  have i:γ .i64 ((a.length:Int) - ((1:Nat):Int))=(a.length:Int) - 1:=FQ k;cases j:cqO a b a.length with
  |none=>
   rw [j] at hloop;exact ahX a b d e (by rw [hl];simp [lit]) (az.blk hloop (by simp [cqE]) rfl (aN.of ⟨rfl,rfl,congrArg _ i,trivial⟩) (aN.of trivial))
  |some c=>
   rw [j] at hloop;exact ahY a b d e c (by rw [hl];simp [lit]) (az.blk hloop (by simp [cqE]) rfl (aN.of ⟨rfl,rfl,congrArg _ i,trivial⟩) (aN.of ⟨rfl,trivial⟩))
 .rw [if_neg hl];have h:=ahW a b d e;have m:γ .i64 ((a.length:Int) - (b.length:Int))=(a.length:Int) - (b.length:Int):=bG (by omega) (by omega);simp (disch:=first|omega|(simp [au,ay]<;>omega)) only [jY,bD,dY,fA,m] at h;apply h<;>first|exact True.intro|omega|assumption|exact rfl
theorem ajZ {nt:Nat} (h:26<=nt) (x y w b a:Nat) (c:Int) (d e:Bool) (f:lit true (decide (c<=((0:Nat):Int)))=true) (i:lit true (decide ((b:Int)<(a:Int)))=true) (g:CO 188 [.sl (ai (ax y)) (ax y).length e,ω (γ .i64 (Xxl (γ .i64 ((γ .i64 ((b:Int)+(a:Int)))+((1:Nat):Int))) ((2:Nat):Int)))] (.ret (.sl (ai (ax w)) (ax w).length true))) (j:CO 186 [.sl (ai (ax w)) (ax w).length true,.sl (ai (ax x)) (ax x).length d] (.ret (ω c))):ψ nt f187 ⟨[(0,.sl (ai (ax x)) (ax x).length d),(1,.sl (ai (ax y)) (ax y).length e),(5,ω (b:Int)),(6,ω (a:Int))],[],.dead,[]⟩ (.normal) ⟨[(0,.sl (ai (ax x)) (ax x).length d),(1,.sl (ai (ax y)) (ax y).length e),(5,ω (γ .i64 (Xxl (γ .i64 ((γ .i64 ((b:Int)+(a:Int)))+((1:Nat):Int))) ((2:Nat):Int)))),(6,ω (a:Int))],[],.dead,[]⟩:=pJ 187 [] 2 3 (.c f (.k 1 i .nil)) (.c j (.c g .nil)) h
theorem aj0 {nt:Nat} (h:26<=nt) (x y w a b:Nat) (c:Int) (d e:Bool) (f:lit false (decide (c<=((0:Nat):Int)))=true) (i:lit true (decide ((a:Int)<(b:Int)))=true) (g:CO 188 [.sl (ai (ax y)) (ax y).length e,ω (γ .i64 (Xxl (γ .i64 ((γ .i64 ((a:Int)+(b:Int)))+((1:Nat):Int))) ((2:Nat):Int)))] (.ret (.sl (ai (ax w)) (ax w).length true))) (j:CO 186 [.sl (ai (ax w)) (ax w).length true,.sl (ai (ax x)) (ax x).length d] (.ret (ω c))):ψ nt f187 ⟨[(0,.sl (ai (ax x)) (ax x).length d),(1,.sl (ai (ax y)) (ax y).length e),(5,ω (a:Int)),(6,ω (b:Int))],[],.dead,[]⟩ (.normal) ⟨[(0,.sl (ai (ax x)) (ax x).length d),(1,.sl (ai (ax y)) (ax y).length e),(5,ω (a:Int)),(6,ω (γ .i64 ((γ .i64 (Xxl (γ .i64 ((γ .i64 ((a:Int)+(b:Int)))+((1:Nat):Int))) ((2:Nat):Int))) - ((1:Nat):Int))))],[],.dead,[]⟩:=pJ 187 [] 2 1 (.c f (.k 1 i .nil)) (.c j (.c g .nil)) h
theorem aj1 {nt:Nat} (f:26<=nt) (x y w a b:Nat) (c:Int) (e g:Bool) (d:lit false (decide ((a:Int)<(b:Int)))=true):ψ nt f187 ⟨[(0,.sl (ai (ax x)) (ax x).length e),(1,.sl (ai (ax y)) (ax y).length g),(5,ω (a:Int)),(6,ω (b:Int))],[],.dead,[]⟩ (.exit 0) ⟨[(5,ω (a:Int))],[],.dead,[]⟩:=pJ 187 [] 1 0 (.c d .nil) (.nil) f
theorem af0 (x y q:Nat) (a b:Bool) (c:aK prog ap [] 26 (.block 0 (.loop (af 0 (ah f187)))) ⟨[(0,.sl (ai (ax x)) (ax x).length a),(1,.sl (ai (ax y)) (ax y).length b),(4,ω 0),(5,ω 0),(6,ω 16777215),(7,.dead),(10,.dead),(21,.dead)],[],.dead,[]⟩ (.normal) ⟨[(5,ω (q:Int))],[],.dead,[]⟩):CO 187 [.sl (ai (ax x)) (ax x).length a,.sl (ai (ax y)) (ax y).length b] (.ret (ω (q:Int))):=pK [0] 0 0 .nil (.l c .nil)
theorem aht {nt:Nat} (e:35<=nt) (l o:List Nat) (k:Nat) (nn:Bool) (b:(chk (.int .i64) (θ (ε ((δ (k:Int))*1) (ai l)) .dead))=true) (c:(decide (((0:Nat):Int)<=(k:Int)))=true) (a:(decide ((k:Int)<(l.length:Int)))=true) (d:lit true (decide (((0:Nat):Int)<=(k:Int)))=true):ψ nt f136 ⟨[(0,.sl (ai l) l.length nn),(3,.nilS),(4,ω (k:Int))],[],.dead,[]⟩ (.normal) ⟨[(0,.sl (ai l) l.length nn),(3,.ref 0 0 0 3),(4,ω (γ .i64 ((k:Int) - ((1:Nat):Int))))],[(0,⟨[.int .u8 (γ .u8 (Xq0 (Γ (θ (ε ((δ (k:Int))*1) (ai l)) .dead)) (2^(min 16 64)))),.int .u8 (γ .u8 (Xq0 (Γ (θ (ε ((δ (k:Int))*1) (ai l)) .dead)) (2^(min 8 64)))),.int .u8 (γ .u8 (Γ (θ (ε ((δ (k:Int))*1) (ai l)) .dead)))],0,false,0,1,true⟩)],.dead,[]⟩:=pJ 136 [] 2 1 (.k 3 b (.c c (.c a (.k 1 b (.c c (.c a (.k 1 b (.c c (.c a (.c d .nil)))))))))) (.nil) e
theorem acy {nt:Nat} (a:35<=nt) (l o:List Nat) (nn:Bool):ψ nt f136 ⟨[(0,.sl (ai l) l.length nn),(3,.nilS),(4,ω (-1))],[],.dead,[]⟩ (.exit 0) ⟨[(3,.nilS)],[],.dead,[]⟩:=pJ 136 [] 1 0 (.n 1 .nil) (.nil) a
theorem acz (l o:List Nat) (nn:Bool) (b:aK prog ap [] 35 (.block 0 (.loop (af 0 (ah f136)))) ⟨[(0,.sl (ai l) l.length nn),(2,.str []),(3,.nilS),(4,ω (γ .i64 ((l.length:Int) - ((1:Nat):Int)))),(9,.dead)],[],.dead,[]⟩ (.normal) ⟨[(3,.nilS)],[],.dead,[]⟩) (a:CO 133 [.str []] (.ret (.str (ae (ag []))))):CO 136 [.sl (ai l) l.length nn] (.ret (.str (ae (ag [])))):=pK [0] 0 0 (.n 2 .nil) (.c a (.l b .nil))
theorem ahs {nt:Nat} (f:35<=nt) (l o:List Nat) (k:Nat) (nn:Bool) (d:(Φ (o.length+3) 1099511627776)=true) (g:(Φ (o.length*1) (ζ (qi o)))=true) (a:(chk (.int .i64) (θ (ε ((δ (k:Int))*1) (ai l)) .dead))=true) (b:(decide (((0:Nat):Int)<=(k:Int)))=true) (c:(decide ((k:Int)<(l.length:Int)))=true) (e:lit true (decide (((0:Nat):Int)<=(k:Int)))=true):ψ nt f136 ⟨[(0,.sl (ai l) l.length nn),(3,.ref 0 0 0 o.length),(4,ω (k:Int))],[(0,⟨(qi o),0,false,0,1,true⟩)],.dead,[]⟩ (.normal) ⟨[(0,.sl (ai l) l.length nn),(3,.ref 0 0 0 (o.length+3)),(4,ω (γ .i64 ((k:Int) - ((1:Nat):Int))))],[(0,⟨((κ (o.length*1) (qi o))++ [.int .u8 (γ .u8 (Xq0 (Γ (θ (ε ((δ (k:Int))*1) (ai l)) .dead)) (2^(min 16 64)))),.int .u8 (γ .u8 (Xq0 (Γ (θ (ε ((δ (k:Int))*1) (ai l)) .dead)) (2^(min 8 64)))),.int .u8 (γ .u8 (Γ (θ (ε ((δ (k:Int))*1) (ai l)) .dead)))]),0,false,0,1,true⟩)],.dead,[]⟩:=pJ 136 [] 1 1 (.k 1 d (.c g (.k 1 a (.c b (.c c (.k 1 a (.c b (.c c (.k 1 a (.c b (.c c (.c e .nil)))))))))))) (.nil) f
theorem acw {nt:Nat} (a:35<=nt) (l o:List Nat) (nn:Bool):ψ nt f136 ⟨[(0,.sl (ai l) l.length nn),(3,.ref 0 0 0 o.length),(4,ω (-1))],[(0,⟨(qi o),0,false,0,1,true⟩)],.dead,[]⟩ (.exit 0) ⟨[(3,.ref 0 0 0 o.length)],[(0,⟨(qi o),0,false,0,1,true⟩)],.dead,[]⟩:=pJ 136 [] 1 0 (.n 1 .nil) (.nil) a
theorem acx (l o:List Nat) (nn:Bool) (a:(Xqn (ζ (κ (o.length*1) (qi o))) o.length)=true) (d:(Xzy (κ (o.length*1) (qi o)) (chk (.int .u8)))=true) (e:aK prog ap [] 35 (.block 0 (.loop (af 0 (ah f136)))) ⟨[(0,.sl (ai l) l.length nn),(2,.str []),(3,.nilS),(4,ω (γ .i64 ((l.length:Int) - ((1:Nat):Int)))),(9,.dead)],[],.dead,[]⟩ (.normal) ⟨[(3,.ref 0 0 0 o.length)],[(0,⟨(qi o),0,false,0,1,true⟩)],.dead,[]⟩) (b:CO 133 [.str (Xvc (λc=>Xqo (δ (Γ c))) (κ (o.length*1) (qi o)))] (.ret (.str (ae (ag (Xvc (λc=>Xqo (δ (Γ c))) (κ (o.length*1) (qi o)))))))):CO 136 [.sl (ai l) l.length nn] (.ret (.str (ae (ag (Xvc (λc=>Xqo (δ (Γ c))) (κ (o.length*1) (qi o))))))):=pK [0] 0 0 (.c a (.c d .nil)) (.c b (.l e .nil))
theorem aik (x:Nat) (a:lit true (decide (((0:Nat):Int)<(x:Int)))=true) (b:CO 133 [.str [Xqo (δ (γ .u8 (Xq0 (x:Int) (2^(min 56 64))))),Xqo (δ (γ .u8 (Xq0 (x:Int) (2^(min 48 64))))),Xqo (δ (γ .u8 (Xq0 (x:Int) (2^(min 40 64))))),Xqo (δ (γ .u8 (Xq0 (x:Int) (2^(min 32 64))))),Xqo (δ (γ .u8 (Xq0 (x:Int) (2^(min 24 64))))),Xqo (δ (γ .u8 (Xq0 (x:Int) (2^(min 16 64))))),Xqo (δ (γ .u8 (Xq0 (x:Int) (2^(min 8 64))))),Xqo (δ (γ .u8 (Xq0 (x:Int) (2^(min 0 64)))))]] (.ret (.str (ae (ag [Xqo (δ (γ .u8 (Xq0 (x:Int) (2^(min 56 64))))),Xqo (δ (γ .u8 (Xq0 (x:Int) (2^(min 48 64))))),Xqo (δ (γ .u8 (Xq0 (x:Int) (2^(min 40 64))))),Xqo (δ (γ .u8 (Xq0 (x:Int) (2^(min 32 64))))),Xqo (δ (γ .u8 (Xq0 (x:Int) (2^(min 24 64))))),Xqo (δ (γ .u8 (Xq0 (x:Int) (2^(min 16 64))))),Xqo (δ (γ .u8 (Xq0 (x:Int) (2^(min 8 64))))),Xqo (δ (γ .u8 (Xq0 (x:Int) (2^(min 0 64)))))]))))):CO 79 [ω (x:Int)] (.ret (.str (ae (ag [Xqo (δ (γ .u8 (Xq0 (x:Int) (2^(min 56 64))))),Xqo (δ (γ .u8 (Xq0 (x:Int) (2^(min 48 64))))),Xqo (δ (γ .u8 (Xq0 (x:Int) (2^(min 40 64))))),Xqo (δ (γ .u8 (Xq0 (x:Int) (2^(min 32 64))))),Xqo (δ (γ .u8 (Xq0 (x:Int) (2^(min 24 64))))),Xqo (δ (γ .u8 (Xq0 (x:Int) (2^(min 16 64))))),Xqo (δ (γ .u8 (Xq0 (x:Int) (2^(min 8 64))))),Xqo (δ (γ .u8 (Xq0 (x:Int) (2^(min 0 64)))))])))):=pK [] 19 131067 (.k 9 a (.k 6 a (.k 6 a (.k 6 a (.k 6 a (.k 6 a (.k 6 a (.k 5 a (.n 1 .nil))))))))) (.c b .nil)
theorem ail (x:Nat) (b:lit false (decide (((0:Nat):Int)<(x:Int)))=true) (a:CO 133 [.str []] (.ret (.str (ae (ag []))))):CO 79 [ω (x:Int)] (.ret (.str (ae (ag [])))):=pK [] 2 1 (.k 2 b (.n 1 .nil)) (.c a .nil)
theorem ah0 {nt:Nat} (c:35<=nt) (s:List UInt8) (n k:Nat) (b:(decide (((0:Nat):Int)<=(k:Int)))=true) (d:(decide ((k:Int)<(((ζ s):Nat):Int)))=true) (a:lit true (decide ((k:Int)<(((ζ s):Nat):Int)))=true):ψ nt f178 ⟨[(0,.str s),(4,ω (n:Int)),(5,ω (k:Int))],[],.dead,[]⟩ (.normal) ⟨[(0,.str s),(4,ω (γ .i64 ((γ .i64 ((n:Int)*2^(min 8 64)))+(γ .i64 ((Xqd (Xqp s (δ (k:Int)) 0):Nat):Int))))),(5,ω (γ .i64 ((k:Int)+((1:Nat):Int))))],[],.dead,[]⟩:=pJ 178 [] 1 1 (.c b (.c d (.k 1 a .nil))) (.nil) c
theorem ah1 {nt:Nat} (b:35<=nt) (s:List UInt8) (n k:Nat) (a:lit false (decide ((k:Int)<(((ζ s):Nat):Int)))=true):ψ nt f178 ⟨[(0,.str s),(4,ω (n:Int)),(5,ω (k:Int))],[],.dead,[]⟩ (.exit 0) ⟨[(4,ω (n:Int))],[],.dead,[]⟩:=pJ 178 [] 1 0 (.c a .nil) (.nil) b
theorem adc (s:List UInt8) (n:Nat) (b:lit false (decide (((127:Nat):Int)<((Xqd (Xqp (ae (ag s)) 0 0):Nat):Int)))=true) (e:(decide (((0:Nat):Int)<(((ζ (ae (ag s))):Nat):Int)))=true) (a:lit true ((((ζ (ae (ag s))):Nat):Int)==((8:Nat):Int))=true) (c:lit false (decide (((8:Nat):Int)<(((ζ (ae (ag s))):Nat):Int)))=true) (d:CO 133 [.str s] (.ret (.str (ae (ag s))))) (f:aK prog ap [] 35 (.block 0 (.loop (af 0 (ah f178)))) ⟨[(0,.str (ae (ag s))),(2,ω 0),(3,.bool false),(4,ω 0),(5,ω 0),(20,.bool (decide (((127:Nat):Int)<((Xqd (Xqp (ae (ag s)) 0 0):Nat):Int)))),(24,.dead)],[],.dead,[]⟩ (.normal) ⟨[(4,ω (n:Int))],[],.dead,[]⟩):CO 178 [.str s] (.ret (.tup [ω (n:Int),.bool true])):=pK [0] 3 2 (.c b (.k 1 e (.c a (.c c .nil)))) (.l f (.c d .nil))
theorem ade (s:List UInt8) (n:Nat) (a:lit false ((((ζ (ae (ag s))):Nat):Int)==((8:Nat):Int))=true) (c:lit false (decide (((8:Nat):Int)<(((ζ (ae (ag s))):Nat):Int)))=true) (b:CO 133 [.str s] (.ret (.str (ae (ag s))))) (d:aK prog ap [] 35 (.block 0 (.loop (af 0 (ah f178)))) ⟨[(0,.str (ae (ag s))),(2,ω 0),(3,.bool false),(4,ω 0),(5,ω 0),(20,.bool false),(24,.dead)],[],.dead,[]⟩ (.normal) ⟨[(4,ω (n:Int))],[],.dead,[]⟩):CO 178 [.str s] (.ret (.tup [ω (n:Int),.bool true])):=pK [0] 3 0 (.k 1 a (.c c .nil)) (.l d (.c b .nil))
theorem aoj (s:List UInt8) (n b:Nat) (a:lit true (decide ((b:Int)<(((ζ (ae (ag s))):Nat):Int)))=true) (c:CO 133 [.str s] (.ret (.str (ae (ag s))))):CO 134 [.str s,ω (b:Int)] (.ret (.tup [ω 0,.bool false])):=pK [] 1 1 (.c a .nil) (.c c .nil)
theorem aok (s:List UInt8) (n b:Nat) (a:lit false (decide ((b:Int)<(((ζ (ae (ag s))):Nat):Int)))=true) (c:CO 133 [.str s] (.ret (.str (ae (ag s))))) (d:CO 178 [.str s] (.ret (.tup [ω (n:Int),.bool true]))):CO 134 [.str s,ω (b:Int)] (.ret (.tup [ω (n:Int),.bool true])):=pK [] 1 0 (.c a .nil) (.c d (.c c .nil))
theorem am8 {nt:Nat} (b:24<=nt) (n d:Nat) (a:lit true (decide (((0:Nat):Int)<(d:Int)))=true):ψ nt f138 ⟨[(3,ω (n:Int)),(4,ω (d:Int))],[],.dead,[]⟩ (.normal) ⟨[(3,ω (γ .i64 ((n:Int)+((1:Nat):Int)))),(4,ω (γ .i64 (Xxl (d:Int) ((2:Nat):Int))))],[],.dead,[]⟩:=pJ 138 [] 1 1 (.k 1 a .nil) (.nil) b
theorem am9 {nt:Nat} (b:24<=nt) (n d:Nat) (a:lit false (decide (((0:Nat):Int)<(d:Int)))=true):ψ nt f138 ⟨[(3,ω (n:Int)),(4,ω (d:Int))],[],.dead,[]⟩ (.exit 0) ⟨[(3,ω (n:Int))],[],.dead,[]⟩:=pJ 138 [] 1 0 (.c a .nil) (.nil) b
theorem ahP (s:List UInt8) (n:Nat) (a:lit true ((((ζ (ae (ag s))):Nat):Int)==((0:Nat):Int))=true) (b:CO 133 [.str s] (.ret (.str (ae (ag s))))):CO 138 [.str s] (.ret (ω 0)):=pK [0] 1 1 (.c a .nil) (.c b .nil)
theorem ahQ (s:List UInt8) (n:Nat) (a:(decide (((0:Nat):Int)<(((ζ (ae (ag s))):Nat):Int)))=true) (c:lit false ((((ζ (ae (ag s))):Nat):Int)==((0:Nat):Int))=true) (b:CO 133 [.str s] (.ret (.str (ae (ag s))))) (d:aK prog ap [] 24 (.block 0 (.loop (af 0 (ah f138)))) ⟨[(0,.str (ae (ag s))),(2,ω 0),(3,ω (γ .i64 (((8:Nat):Int)*(γ .i64 ((((ζ (ae (ag s))):Nat):Int) - ((1:Nat):Int)))))),(4,ω (γ .i64 ((Xqd (Xqp (ae (ag s)) 0 0):Nat):Int))),(9,.bool ((((ζ (ae (ag s))):Nat):Int)==((0:Nat):Int))),(18,.dead)],[],.dead,[]⟩ (.normal) ⟨[(3,ω (n:Int))],[],.dead,[]⟩):CO 138 [.str s] (.ret (ω (n:Int))):=pK [0] 1 0 (.k 1 a (.c c .nil)) (.l d (.c b .nil))
theorem anP (s:List UInt8) (a:lit true ((((ζ s):Nat):Int)==((0:Nat):Int))=true):CO 179 [.str s] (.ret (.bool true)):=pK [] 1 1 (.c a .nil) (.nil)
theorem anQ (s:List UInt8) (a:(decide (((0:Nat):Int)<(((ζ s):Nat):Int)))=true) (b:lit false ((((ζ s):Nat):Int)==((0:Nat):Int))=true):CO 179 [.str s] (.ret (.bool (!(((Xqd (Xqp s 0 0):Nat):Int)==((0:Nat):Int))))):=pK [] 1 0 (.k 1 a (.c b .nil)) (.nil)
theorem ac6 (s t:List UInt8) (a:lit true (decide ((((ζ (ae (ag s))):Nat):Int)<(((ζ (ae (ag t))):Nat):Int)))=true) (c:lit true (!((((ζ (ae (ag s))):Nat):Int)==(((ζ (ae (ag t))):Nat):Int)))=true) (b:CO 133 [.str s] (.ret (.str (ae (ag s))))) (d:CO 133 [.str t] (.ret (.str (ae (ag t))))):CO 101 [.str s,.str t] (.ret (ω (-1))):=pK [] 2 3 (.c a (.c c .nil)) (.c d (.c b .nil))
theorem ac7 (s t:List UInt8) (a:lit false (decide ((((ζ (ae (ag s))):Nat):Int)<(((ζ (ae (ag t))):Nat):Int)))=true) (c:lit true (!((((ζ (ae (ag s))):Nat):Int)==(((ζ (ae (ag t))):Nat):Int)))=true) (b:CO 133 [.str s] (.ret (.str (ae (ag s))))) (d:CO 133 [.str t] (.ret (.str (ae (ag t))))):CO 101 [.str s,.str t] (.ret (ω 1)):=pK [] 2 1 (.c a (.c c .nil)) (.c d (.c b .nil))
theorem ac8 (s t:List UInt8) (a:lit true (iR (ae (ag s)) (ae (ag t)))=true) (c:lit false (!((((ζ (ae (ag s))):Nat):Int)==(((ζ (ae (ag t))):Nat):Int)))=true) (b:CO 133 [.str s] (.ret (.str (ae (ag s))))) (d:CO 133 [.str t] (.ret (.str (ae (ag t))))):CO 101 [.str s,.str t] (.ret (ω (-1))):=pK [] 2 2 (.c a (.c c .nil)) (.c d (.c b .nil))
theorem ac9 (s t:List UInt8) (b:lit true (!(iR (ae (ag s)) (ae (ag t))||(ae (ag s))==(ae (ag t))))=true) (d:lit false (iR (ae (ag s)) (ae (ag t)))=true) (a:lit false (!((((ζ (ae (ag s))):Nat):Int)==(((ζ (ae (ag t))):Nat):Int)))=true) (c:CO 133 [.str s] (.ret (.str (ae (ag s))))) (e:CO 133 [.str t] (.ret (.str (ae (ag t))))):CO 101 [.str s,.str t] (.ret (ω 1)):=pK [] 3 4 (.c b (.c d (.c a .nil))) (.c e (.c c .nil))
theorem ac_ (s t:List UInt8) (b:lit false (!(iR (ae (ag s)) (ae (ag t))||(ae (ag s))==(ae (ag t))))=true) (d:lit false (iR (ae (ag s)) (ae (ag t)))=true) (a:lit false (!((((ζ (ae (ag s))):Nat):Int)==(((ζ (ae (ag t))):Nat):Int)))=true) (c:CO 133 [.str s] (.ret (.str (ae (ag s))))) (e:CO 133 [.str t] (.ret (.str (ae (ag t))))):CO 101 [.str s,.str t] (.ret (ω 0)):=pK [] 3 0 (.c b (.c d (.c a .nil))) (.c e (.c c .nil))
def aps (x y:Nat) (na nb:Bool) (p:Nat × Nat):St:=⟨[(0,.sl (ai (ax x)) (ax x).length na),(1,.sl (ai (ax y)) (ax y).length nb),(5,ω (p.1:Int)),(6,ω (p.2:Int))],[],.dead,[]⟩
def ajY (q:Nat):St:=⟨[(5,ω (q:Int))],[],.dead,[]⟩
theorem W_ {x d:Nat} (hd:d<16777216):(ax (x*d)).length<=(ax x).length+1:=by
 apply tV;have a:=wR x;have hp:=YW (ax x).length;rw [Xq3];rcases Xqb d with rfl|h0
 .rw [Xjl];exact Xjg hp (by omega)
 .exact Xqa (Xvh a h0) (Xqx _ (by omega))
theorem aaW {nt:Nat} (l:26<=nt) (x y:Nat) (i f:Bool) (r:0<y) (w:(ax x).length<2^36) (s:(ax y).length<2^35):∀ (n a b:Nat),b - a<n->a<=x / y->x / y<=b->b<16777216->az prog ap [] nt (af 0 (ah f187)) (λ_=> .exit 0) (aps x y i f) ajY (a,b) (x / y):=by
 intro n
 induction n with
 |zero=>intro a b h;omega
 | succ n ih=>
  intro a b h t p q;rcases Xq2 a b with hlt|hge
  .have j:(a+b+1) / 2<16777216:=by omega
   have o:=I4 (y*((a+b+1) / 2)) x;have m:=OW y ((a+b+1) / 2) f j (by omega);have v:=W_ (x:=y) j;have e:=Tv (ax (y*((a+b+1) / 2))) (ax x) true i (bz.dig _) (bz.dig _) (by omega) (by omega);have c:=Nat.le_div_iff_mul_le (x:=(a+b+1) / 2) (y:=x) r;rw [Xqh] at c;have z:((0:Nat):Int)=0:=rfl;by_cases hle:y*((a+b+1) / 2)<=x
   .have g:=c.2 hle;refine .next ?_ (ih ((a+b+1) / 2) b (by omega) g p q)
    have d:=ajZ l x y (y*((a+b+1) / 2)) a b (MP (ax (y*((a+b+1) / 2))) (ax x)) i f;simp (disch:=first|omega|(simp [au,ay]<;>omega)) only [bD,bi,aZ,bQ,aS,qV] at d;exact d (o.2.2 hle) hlt m e
   .have g:x / y<(a+b+1) / 2:=Yqc (λk=>hle (c.1 k));refine .next ?_ (ih a ((a+b+1) / 2 - 1) (by omega) t (by omega) (by omega))
    have d:=aj0 l x y (y*((a+b+1) / 2)) a b (MP (ax (y*((a+b+1) / 2))) (ax x)) i f;simp (disch:=first|omega|(simp [au,ay]<;>omega)) only [dP,dY,fA,aZ,bD,bi,bQ,aS,qV,kH] at d;exact d (λk=>hle (o.2.1 k)) hlt m e
  .have u:a=x / y:=by omega
   have d:=aj1 l x y 0 a b 0 i f (by rw [aZ];simp [lit];omega);rw [<- u];exact .done d
theorem Xa (x y:Nat) (b d:Bool) (f:0<y) (c:x<y*16777216) (a:(ax x).length<2^36) (e:(ax y).length<2^35):CO 187 [.sl (ai (ax x)) (ax x).length b,.sl (ai (ax y)) (ax y).length d] (.ret (ω ((x / y:Nat):Int))):=by
 have g:x / y<16777216:=by rw [Xqv f,Xqh];exact c
 exact af0 x y (x / y) b d (az.blk (λnt h=>aaW h x y b d f a e 16777216 0 16777215 (by omega) (Nat.zero_le _) (Nat.le_of_lt_succ g) (by omega)) (by simp) rfl (aN.of ⟨rfl,rfl,rfl,rfl,trivial⟩) (aN.of ⟨rfl,trivial⟩))
theorem oU (l:List UInt8) (c:UInt8):ag (l++ [c])=ag l*256+c.toNat:=by
 unfold ag;rw [Xwx];rfl
theorem toNat_ofNat {x:Nat} (h:x<256):(Xqo x).toNat=x:=by
 rw [UInt8.toNat_ofNat'];exact Ξ h
def bS (o:List Nat):List UInt8:=o.map Xqo
theorem ajI (o:List Nat):Xvc (λc=>Xqo (δ (Γ c))) (qi o)=bS o:=by
 unfold qi bS;rw [List.map_map];rfl
theorem TW (l:List Nat) (k:Nat):κ k (qi l)=qi (l.take k):=by unfold qi;rw [List.map_take]
def WI (l:List Nat):Nat->List Nat
 |0=> []
 |k+1=> [l.getD k 0 / 65536,l.getD k 0 / 256 % 256,l.getD k 0 % 256]++WI l k
theorem Py (a b:List Nat):bS (a++b)=bS a++bS b:=by unfold bS;rw [Xx3]
theorem Q_ {l:List Nat} (a:bz l):∀ (k:Nat) (o:List Nat),k<=l.length->ag (bS (o++WI l k))=ag (bS o)*16777216^k+dn (l.take k)
 |0,o,_=>by simp [WI,dn]
 | k+1,o,h=>by
  simp only [WI];rw [<- υ,Q_ a k _ (by omega),qf (by omega)];have hd:=a.getD k;generalize l.getD k 0=d at*
  have e:ag (bS (o++ [d / 65536,d / 256 % 256,d % 256]))=ag (bS o)*16777216+d:=by
   rw [show o++ [d / 65536,d / 256 % 256,d % 256]=((o++ [d / 65536])++ [d / 256 % 256])++ [d % 256] by simp,Py,Py,Py];simp only [bS,Xqg,Xxw];rw [oU,oU,oU,toNat_ofNat (show d / 65536<256 by omega),toNat_ofNat (Xqy _ (by omega)),toNat_ofNat (Xqy _ (by omega))];omega
  rw [e,Xxt,Xq3,Xqh (16777216^k) 16777216,Xqr,Xqh d];omega
def aaw (l:List Nat):AV:=match l with| []=> .nilS|x::l=> .ref 0 0 0 (x::l).length
def aax (l:List Nat):Hp:=match l with| []=> []|x::l=> [(0,⟨qi (x::l),0,false,0,1,true⟩)]
theorem D6 {l:List Nat} (h:l ≠ []):aaw l= .ref 0 0 0 l.length:=by cases l with|nil=>exact absurd rfl h|cons _ _=>rfl
theorem D7 {l:List Nat} (h:l ≠ []):aax l= [(0,⟨qi l,0,false,0,1,true⟩)]:=by cases l with|nil=>exact absurd rfl h|cons _ _=>rfl
def ahr (l:List Nat) (nn:Bool) (p:Nat × List Nat):St:=⟨[(0,.sl (ai l) l.length nn),(3,aaw p.2),(4,ω ((p.1:Int) - 1))],aax p.2,.dead,[]⟩
def YB (o:List Nat):St:=⟨[(3,aaw o)],aax o,.dead,[]⟩
theorem aet (o:List Nat) (a b c:Nat):qi o++ [AV.int .u8 (a:Int),AV.int .u8 (b:Int),AV.int .u8 (c:Int)]=qi (o++ [a,b,c]):=by simp [qi]
theorem ae2:(2:Nat)^16=65536:=by decide
theorem ama:(2:Nat)^8=256:=by decide
theorem acv {nt:Nat} (c:35<=nt) (l:List Nat) (nn:Bool) (i:l.length<2^36) (e:bz l):∀ (k:Nat) (o:List Nat),k<=l.length->o.length+3*k=3*l.length->az prog ap [] nt (af 0 (ah f136)) (λ_=> .exit 0) (ahr l nn) YB (k,o) (o++WI l k):=by
 intro k
 induction k with
 | zero=>
  intro o _ _;simp only [WI,Δ];refine .done ?_;unfold ahr YB;rcases Xxm (o= []) with rfl|hne
  .exact acy c l [] nn
  .rw [D6 hne,D7 hne];exact acw c l o nn
 | succ k ih=>
  intro o j m;have hd:=e.getD k;have h:(((k+1:Nat):Int) - 1)=(k:Int):=by omega
  have f:γ .i64 ((k:Int) - ((1:Nat):Int))=(k:Int) - 1:=bG (by omega) (by omega);have hnext:=ih (o++ [l.getD k 0 / 65536,l.getD k 0 / 256 % 256,l.getD k 0 % 256]) (by omega) (by simp;omega);rw [υ] at hnext;simp only [WI];refine .next ?_ hnext
  unfold ahr;rw [h];generalize g:l.getD k 0=d at*
  have a:o++ [d / 65536,d / 256 % 256,d % 256] ≠ []:=by simp
  rcases Xxm (o= []) with rfl|hne
  .have b:=aht c l [] k nn;simp (disch:=first|omega|(simp [au,ay]<;>omega)) only [aC,Θ,fP,g,eF,dG,bi,aZ,bD,f,bf,show min 16 64=16 from rfl,lZ,ae2,w8u,Ξ,show min 8 64=8 from rfl,ama] at b;simp only [Xqi,aaw,aax,qi,Xqg,Xxw,ν,Xqf] at b ⊢;apply b<;>first|exact True.intro|omega|assumption|exact rfl
  .have b:=ahs c l o k nn;rw [D6 hne,D7 hne,D6 a,D7 a];simp (disch:=first|omega|(simp [au,ay]<;>omega)) only [fK,bi,Θ,ay,aC,fP,g,eF,dG,aZ,bD,f,TW,Xqz,bf,show min 16 64=16 from rfl,lZ,ae2,w8u,Ξ,show min 8 64=8 from rfl,ama,aet] at b;simp only [η,ν,Xqf];apply b<;>first|exact True.intro|omega|assumption|exact rfl
theorem vT (l:List Nat) (nn:Bool) (f:l.length<2^36) (a:bz l):CO 136 [.sl (ai l) l.length nn] (.ret (.str (ae (dn l)))):=by
 have hloop:=λnt (hn:35<=nt)=>acv hn l nn f a l.length [] (χ _) (by simp)
 have b:=Q_ a l.length [] (χ _);have j:(WI l l.length).length=3*l.length:=by
  have:∀ k,(WI l k).length=3*k:=by
   intro k
   induction k with
   |zero=>rfl
   |succ k ih=>simp only [WI,η,ν,Xqf,ih];omega
  exact this _
 have e:γ .i64 ((l.length:Int) - ((1:Nat):Int))=(l.length:Int) - 1:=FQ (by omega);simp only [Xqi] at hloop b;rw [Xqz,show ag (bS [])=0 from rfl,Xw2,Ψ] at b;generalize WI l l.length=o at*
 rcases Xxm (o= []) with rfl|hne
 .rw [<- b];exact acz l [] nn (az.blk hloop (by simp) rfl (aN.of ⟨rfl,rfl,congrArg _ e,trivial⟩) (aN.of ⟨rfl,trivial⟩)) (iy [] (by simp))
 .have h:=acx l o nn;have i:=iy (bS o) (by simp [bS];omega);rw [b] at i;have c:κ o.length (qi o)=qi o:=by rw [TW,Xqz]
  simp (disch:=first|omega|(simp [au,ay]<;>omega)) only [Θ,c,KL,bi,ajI,b] at h;apply h<;>first|exact True.intro|omega|assumption|exact rfl|skip
  .exact ay o
  .have:Xzy (qi o) (chk (.int .u8))=true:=by
    rw [Xj1];intro x g;obtain ⟨d,_,rfl⟩:=List.mem_map.1 g;rfl
   exact this
  .exact az.blk hloop (by simp) rfl (aN.of ⟨rfl,rfl,congrArg _ e,trivial⟩) (by unfold YB;rw [D6 hne,D7 hne];exact aN.of ⟨rfl,trivial⟩)
theorem lQ (x:Nat) (c:x<9223372036854775808):CO 79 [ω (x:Int)] (.ret (.str (ae x))):=by
 rcases Xqb x with rfl|h0
 .exact ail 0 rfl (iy [] (by simp))
 .have h:=aik x;have e:∀ k,δ (γ .u8 (Xq0 (x:Int) (2^k)))=x / 2^k % 256:=by
   intro k;rw [lZ,w8u,aC]
  simp only [show min 56 64=56 from rfl,show min 48 64=48 from rfl,show min 40 64=40 from rfl,show min 32 64=32 from rfl,show min 24 64=24 from rfl,show min 16 64=16 from rfl,show min 8 64=8 from rfl,show min 0 64=0 from rfl,e] at h;have a:=iy [Xqo (x / 2^56 % 256),Xqo (x / 2^48 % 256),Xqo (x / 2^40 % 256),Xqo (x / 2^32 % 256),Xqo (x / 2^24 % 256),Xqo (x / 2^16 % 256),Xqo (x / 2^8 % 256),Xqo (x / 2^0 % 256)] (by simp);have b:ag [Xqo (x / 2^56 % 256),Xqo (x / 2^48 % 256),Xqo (x / 2^40 % 256),Xqo (x / 2^32 % 256),Xqo (x / 2^24 % 256),Xqo (x / 2^16 % 256),Xqo (x / 2^8 % 256),Xqo (x / 2^0 % 256)]=x:=by
   have t:∀ y,(Xqo (y % 256)).toNat=y % 256:=λy=>toNat_ofNat (Xqy _ (by omega))
   simp only [ag,List.foldl_cons,List.foldl_nil,t];omega
  rw [b] at a h;apply h
  .rw [aZ];exact Yq0 h0
  .exact a
def aeU (s:List UInt8) (k:Nat):St:=⟨[(0,.str s),(4,ω ((ag (s.take k):Nat):Int)),(5,ω (k:Int))],[],.dead,[]⟩
def Qb (s:List UInt8) (k:Nat):St:=⟨[(4,ω ((ag (s.take k):Nat):Int))],[],.dead,[]⟩
theorem Ht {s:List UInt8} {k:Nat} (h:k<s.length):ag (s.take (k+1))=ag (s.take k)*256+(s.getD k 0).toNat:=by
 rw [Xwt,π h,ξ,π h];exact oU _ _
theorem LQ (s:List UInt8) (k:Nat):ag (s.take k)<=ag s:=by
 rcases Xq2 k s.length with h|h
 .have e:s=s.take k++s.drop k:=(Xj5 k s).symm;have:∀ (b a:List UInt8),ag a<=ag (a++b):=by
   intro b
   induction b with
   |nil=>intro a;simp
   |cons c r ih=>
    intro a;have d:=ih (a++ [c]);rw [oU,υ] at d;simp only [List.cons_append,Xqi] at d;omega
  calc ag (s.take k)<=ag (s.take k++s.drop k):=this _ _
   _=ag s:=by rw [<- e]
 .rw [ο h];exact χ _
theorem X_ {nt:Nat} (g:35<=nt) (s:List UInt8) (hs:s.length<2^40) (o:ag s<9223372036854775808):∀ (d k:Nat),k+d=s.length->az prog ap [] nt (af 0 (ah f178)) (λ_=> .exit 0) (aeU s) (Qb s) k s.length:=by
 intro d
 induction d with
 |zero=>
  intro k l;have b:k=s.length:=by omega
  subst b;exact .done (ah1 g s _ _ (by rw [aZ];simp [lit]))
 | succ d ih=>
  intro k l;have e:k<s.length:=by omega
  refine .next ?_ (ih (k+1) (by omega))
  have a:=ah0 g s (ag (s.take k)) k;rw [aC] at a;have h:=LQ s (k+1);have f:=Ht e;have n:(s.getD k 0).toNat<256:=Xvq _;unfold aeU;rw [f];rw [f] at h;generalize (s.getD k 0).toNat=c at*
  generalize ag (s.take k)=v at*
  have m:γ .i64 ((v:Int)*2^(min 8 64))=((v*256:Nat):Int):=by
   rw [show min 8 64=8 from rfl,bG]<;>omega
  have i:(((v*256:Nat):Int))+(c:Int)=((v*256+c:Nat):Int):=by omega
  have j:γ .i64 (c:Int)=(c:Int):=aS (by omega);rw [j,m,i,aS (by omega)] at a;simp (disch:=first|omega|(simp [au,ay]<;>omega)) only [dG,bi,aZ,bD,bQ,aS] at a;apply a<;>first|exact True.intro|omega|assumption|exact rfl
theorem uj {x k:Nat}:(ae x).length<=k↔x<2^(8*k):=by
 constructor
 .intro h;have a:=kD (ae x);rw [aG] at a;exact Xqa a (Xqc (by omega) (by omega))
 .exact bU
theorem ag3 (s:List UInt8) (hs:s.length<2^40) (g:ag s<9223372036854775808):CO 178 [.str s] (.ret (.tup [ω ((ag s:Nat):Int),.bool true])):=by
 have k:=iy s hs;have a:=aG (ag s);have j:(ae (ag s)).length<=8:=bU (Xqa g (by decide));have hloop:=λnt (e:35<=nt)=>X_ e (ae (ag s)) (by omega) (by rw [a];exact g) (ae (ag s)).length 0 (by omega)
 have hless:aN ⟨[(4,ω ((ag s:Nat):Int))],[],.dead,[]⟩ (Qb (ae (ag s)) (ae (ag s)).length):=by
  unfold Qb;rw [Xqz,a];exact aN.refl _
 have f:=adc s (ag s);have h:=ade s (ag s);have d:(ae (ag s)).length=8->((ae (ag s)).getD 0 0).toNat<=127:=by
  intro b;cases e:ae (ag s) with
  |nil=>rw [e] at b;cases b
  |cons c r=>
   rw [e] at b a;rw [jl] at a;have:r.length=7:=by simpa using b
   rw [this,show 256^7=72057594037927936 from rfl] at a;simp only [Xj4];omega
 generalize ae (ag s)=t at*
 by_cases b:t.length=8
 .have i:=d b;simp (disch:=first|omega|(simp [au,ay]<;>omega)) only [aZ,dP,dY,fA,b,bi,jY,decide_true,bD] at f;apply f<;>first|exact True.intro|omega|assumption|exact rfl|skip
  exact az.blk hloop (by simp) rfl (aN.of ⟨rfl,rfl,rfl,trivial⟩) hless
 .simp (disch:=first|omega|(simp [au,ay]<;>omega)) only [jY,b,decide_false,dP,Xju,aZ,dY,fA] at h;apply h<;>first|exact True.intro|omega|assumption|exact rfl|skip
  exact az.blk hloop (by simp) rfl (aN.of ⟨rfl,rfl,rfl,trivial⟩) hless
theorem iE (s:List UInt8) (b:Nat) (hs:s.length<2^40) (e:b<=7) (c:ag s<2^(8*b)):CO 134 [.str s,ω (b:Int)] (.ret (.tup [ω ((ag s:Nat):Int),.bool true])):=by
 have h:=aok s (ag s) b;have a:ag s<9223372036854775808:=Xqa c (Xxg (Xqc (by omega) (show 8*b<=63 by omega)) (by decide));have d:=uj.2 c;simp (disch:=first|omega|(simp [au,ay]<;>omega)) only [aZ,dP,dY,fA] at h;exact h (by omega) (iy s hs) (ag3 s hs a)
theorem lT (s:List UInt8) (b:Nat) (hs:s.length<2^40) (c:2^(8*b)<=ag s):CO 134 [.str s,ω (b:Int)] (.ret (.tup [ω 0,.bool false])):=by
 have h:=aoj s 0 b;have a:¬ (ae (ag s)).length<=b:=λh=>by have:=uj.1 h;omega
 simp (disch:=first|omega|(simp [au,ay]<;>omega)) only [aZ,bD,bi] at h;exact h (by omega) (iy s hs)
theorem UX {d:Nat} (h:0<d):eu d=eu (d / 2)+1:=by
 rcases Xq2 d 2 with h1|h1
 .have:d=1:=by omega
  subst this;rfl
 .have:=vN (x:=d) (k:=1) (by omega);rw [Nat.pow_one] at this;omega
def api (p:Nat × Nat):St:=⟨[(3,ω (p.1:Int)),(4,ω (p.2:Int))],[],.dead,[]⟩
def ajJ (n:Nat):St:=⟨[(3,ω (n:Int))],[],.dead,[]⟩
theorem aaI {nt:Nat} (e:24<=nt):∀ (b n d:Nat),d<b->d<256->n+eu d<2^45->az prog ap [] nt (af 0 (ah f138)) (λ_=> .exit 0) api ajJ (n,d) (n+eu d):=by
 intro b
 induction b with
 |zero=>intro n d h;omega
 | succ b ih=>
  intro n d h hd f;rcases Xqb d with rfl|h0
  .exact .done (am9 e n 0 rfl)
  .have c:=UX h0;rw [c,show n+(eu (d / 2)+1)=n+1+eu (d / 2) by omega];refine .next ?_ (ih (n+1) (d / 2) (by omega) (by omega) (by omega))
   have a:=am8 e n d;clear ih c;simp (disch:=first|omega|(simp [au,ay]<;>omega)) only [aZ,bD,bi,bQ,aS,qV] at a;apply a<;>first|exact True.intro|omega|assumption|exact rfl
theorem Oj (s:List UInt8) (hs:s.length<2^40):CO 138 [.str s] (.ret (ω ((eu (ag s):Nat):Int))):=by
 have f:=iy s hs;have a:=aG (ag s);have l:=wY (ag s);have b:(ae (ag s)).length<=s.length:=ni (χ _);have k:=ahP s 0;have d:=ahQ s (eu (ag s));cases g:ae (ag s) with
 |nil=>
  rw [g] at k a f;rw [<- a];exact k rfl f
 | cons c r=>
  rw [g] at d a f l b;have j:c ≠ 0:=by simpa [nR] using l
  have i:0<c.toNat:=by
   rcases Xqb c.toNat with h|h
   .exact absurd (by apply UInt8.toNat_inj.1;simpa using h) j
   .exact h
  have hc256:c.toNat<256:=Xvq c;have o:eu (ag s)=8*r.length+eu c.toNat:=by
   have e:=FO (x:=c.toNat) (y:=ag r) (8*r.length) i (kD r);rw [<- e,<- a,jl,Xqh,show (256:Nat)=2^8 from rfl,<- Xjf]
  have n:eu c.toNat<=8:=jw (by omega);simp only [ν] at b;have hloop:=λnt (g:24<=nt)=>aaI g 256 (8*r.length) c.toNat hc256 hc256 (by omega)
  rw [<- o] at hloop;simp only [ν,Xj4] at d;have u:r.length+1 - 1=r.length:=rfl;have p:(((r.length+1:Nat):Int)) - ((1:Nat):Int)=(r.length:Int):=by omega
  have q:γ .i64 (r.length:Int)=(r.length:Int):=aS (by omega);have m:γ .i64 (((8:Nat):Int)*(r.length:Int))=((8*r.length:Nat):Int):=by rw [bG]<;>omega
  have t:γ .i64 (c.toNat:Int)=(c.toNat:Int):=aS (by omega);rw [p,q,m,t] at d;refine d (by rw [aZ];exact Yq0 (by omega)) (by rw [jY];simp [lit]) f ?_;exact az.blk hloop (by simp) rfl (aN.of ⟨rfl,rfl,trivial⟩) (aN.of ⟨rfl,trivial⟩)
theorem Lr (s:List UInt8):CO 179 [.str s] (.ret (.bool (nR s))):=by
 cases s with
 |nil=>exact anP [] rfl
 | cons c r=>
  have h:=anQ (c::r);have e:(!((((c::r).getD 0 0).toNat:Int)==((0:Nat):Int)))=nR (c::r):=by
   simp only [Xj4,nR];by_cases hc:c=0
   .subst hc;rfl
   .have:c.toNat ≠ 0:=λh=>hc (by apply UInt8.toNat_inj.1;simpa using h)
    have a:((c.toNat:Int)==((0:Nat):Int))=false:=by simp;omega
    rw [a];simp [hc]
  rw [e] at h;apply h
  .simp
  .simp [lit];omega
theorem CS:∀ (a b:List UInt8),a.length=b.length->iR a b=decide (ag a<ag b)
 | [],[],_=>rfl
 | [],_::_,h=>by simp at h
 |_::_,[],h=>by simp at h
 | x::a,y::b,h=>by
  have c:a.length=b.length:=by simpa using h
  have j:=CS a b c;have i:=kD a;have k:=kD b;simp only [iR,j];rw [jl,jl,c,show (256:Nat)=2^8 from rfl,<- Xjf];rw [c] at i;have d:decide (x<y)=decide (x.toNat<y.toNat):=by simp [UInt8.lt_iff_toNat_lt]
  have f:(x==y)=decide (x.toNat=y.toNat):=by
   by_cases h:x=y
   .subst h;simp
   .have:x.toNat ≠ y.toNat:=λg=>h (UInt8.toNat_inj.1 g)
    simp [h,this]
  rw [d,f];generalize 2^(8*b.length)=M at*
  generalize ag a=u at*
  generalize ag b=v at*
  generalize x.toNat=p at*
  generalize y.toNat=q at*
  rcases Xze p q with h3|h3|h3
  .have e:(p+1)*M<=q*M:=Xqw _ h3;rw [Xxt,Xzu] at e;rw [Yq0 h3,Yq0 (show p*M+u<q*M+v by omega)];rfl
  .subst h3;rw [Yq1 (Xv3 _),Yq0 rfl];simp
  .have e:(q+1)*M<=p*M:=Xqw _ h3;rw [Xxt,Xzu] at e;rw [Yq1 (show ¬ p<q by omega),Yq1 (show ¬ p=q by omega),Yq1 (show ¬ p*M+u<q*M+v by omega)];rfl
theorem Dn {x y:Nat} (h:(ae x).length<(ae y).length):x<y:=by
 rcases Xq2 x y with h1|h1
 .exact h1
 .have a:y<=ag (ae x):=by rw [aG];exact h1
  have:=ni a;omega
theorem Le (s t:List UInt8) (hs:s.length<2^40) (j:t.length<2^40):CO 101 [.str s,.str t] (.ret (ω (nD (ag s) (ag t)))):=by
 have d:=iy s hs;have c:=iy t j;have g:=aG (ag s);have k:=aG (ag t);unfold nD;by_cases hl:(ae (ag s)).length=(ae (ag t)).length
 .have a:=CS _ _ hl;rw [g,k] at a;have f:(ae (ag s)==ae (ag t))=decide (ag s=ag t):=by
   by_cases h:ag s=ag t
   .rw [h];simp
   .have:ae (ag s) ≠ ae (ag t):=λi=>h (Gh i)
    simp [h,this]
  have b:lit false (!((((ae (ag s)).length:Nat):Int)==(((ae (ag t)).length:Nat):Int)))=true:=by rw [hl];simp [lit]
  by_cases h1:ag s<ag t
  .rw [if_pos h1];exact ac8 s t (by rw [a,Yq0 h1];rfl) b d c
  .rw [if_neg h1];by_cases e:ag t<ag s
   .rw [if_pos e];exact ac9 s t (by rw [a,f,Yq1 h1,Yq1 (show ¬ ag s=ag t by omega)];rfl) (by rw [a,Yq1 h1];rfl) b d c
   .rw [if_neg e];exact ac_ s t (by rw [a,f,Yq1 h1,Yq0 (show ag s=ag t by omega)];rfl) (by rw [a,Yq1 h1];rfl) b d c
 .have b:lit true (!((((ae (ag s)).length:Nat):Int)==(((ae (ag t)).length:Nat):Int)))=true:=by rw [jY,Yq1 hl];rfl
  by_cases h1:(ae (ag s)).length<(ae (ag t)).length
  .rw [if_pos (Dn h1)];exact ac6 s t (by rw [aZ,Yq0 h1];rfl) b d c
  .have e:=Dn (show (ae (ag t)).length<(ae (ag s)).length by omega);rw [if_neg (by omega),if_pos e];exact ac7 s t (by rw [aZ,Yq1 h1];rfl) b d c
theorem al5 {nt:Nat} (c:35<=nt) (s:List UInt8) (o:List Nat) (e d k:Nat) (b:(decide (((0:Nat):Int)<=(k:Int)))=true) (f:(decide ((k:Int)<(((ζ s):Nat):Int)))=true) (a:lit true (decide ((k:Int)<(e:Int)))=true):aj prog ap [] nt (af 2 (ah f135)) ⟨[(0,.str s),(3,.nilS),(4,ω (e:Int)),(5,ω (d:Int)),(6,ω (k:Int))],[],.dead,[]⟩ (.normal) ⟨[(0,.str s),(3,.nilS),(4,ω (e:Int)),(5,ω (γ .i64 ((γ .i64 ((d:Int)*((256:Nat):Int)))+(γ .i64 ((Xqd (Xqp s (δ (k:Int)) 0):Nat):Int))))),(6,ω (γ .i64 ((k:Int)+((1:Nat):Int))))],[],.dead,[]⟩:=pJ 135 [] 1 1 (.c b (.c f (.c a .nil))) (.nil) c
theorem al6 {nt:Nat} (b:35<=nt) (s:List UInt8) (o:List Nat) (e d k:Nat) (a:lit false (decide ((k:Int)<(e:Int)))=true):aj prog ap [] nt (af 2 (ah f135)) ⟨[(0,.str s),(3,.nilS),(4,ω (e:Int)),(5,ω (d:Int)),(6,ω (k:Int))],[],.dead,[]⟩ (.exit 2) ⟨[(0,.str s),(3,.nilS),(4,ω (e:Int)),(5,ω (d:Int))],[],.dead,[]⟩:=pJ 135 [] 1 0 (.c a .nil) (.nil) b
theorem al3 {nt:Nat} (c:35<=nt) (s:List UInt8) (o:List Nat) (e d k:Nat) (b:(decide (((0:Nat):Int)<=(k:Int)))=true) (f:(decide ((k:Int)<(((ζ s):Nat):Int)))=true) (a:lit true (decide ((k:Int)<(e:Int)))=true):aj prog ap [] nt (af 2 (ah f135)) ⟨[(0,.str s),(3,.ref 0 0 0 o.length),(4,ω (e:Int)),(5,ω (d:Int)),(6,ω (k:Int))],[(0,⟨(ai o),0,false,0,1,true⟩)],.dead,[]⟩ (.normal) ⟨[(0,.str s),(3,.ref 0 0 0 o.length),(4,ω (e:Int)),(5,ω (γ .i64 ((γ .i64 ((d:Int)*((256:Nat):Int)))+(γ .i64 ((Xqd (Xqp s (δ (k:Int)) 0):Nat):Int))))),(6,ω (γ .i64 ((k:Int)+((1:Nat):Int))))],[(0,⟨(ai o),0,false,0,1,true⟩)],.dead,[]⟩:=pJ 135 [] 1 1 (.c b (.c f (.c a .nil))) (.nil) c
theorem al4 {nt:Nat} (b:35<=nt) (s:List UInt8) (o:List Nat) (e d k:Nat) (a:lit false (decide ((k:Int)<(e:Int)))=true):aj prog ap [] nt (af 2 (ah f135)) ⟨[(0,.str s),(3,.ref 0 0 0 o.length),(4,ω (e:Int)),(5,ω (d:Int)),(6,ω (k:Int))],[(0,⟨(ai o),0,false,0,1,true⟩)],.dead,[]⟩ (.exit 2) ⟨[(0,.str s),(3,.ref 0 0 0 o.length),(4,ω (e:Int)),(5,ω (d:Int))],[(0,⟨(ai o),0,false,0,1,true⟩)],.dead,[]⟩:=pJ 135 [] 1 0 (.c a .nil) (.nil) b
theorem alZ {nt:Nat} (b:35<=nt) (s:List UInt8) (o:List Nat) (z:Int) (d:Nat) (a:lit true (decide (((0:Nat):Int)<z))=true) (c:aK prog ap [] 35 (.block 2 (.loop (af 2 (ah f135)))) ⟨[(0,.str s),(2,.dead),(3,.nilS),(4,ω z),(5,ω 0),(6,ω (if ((0:Nat):Int)>(γ .i64 (z - ((3:Nat):Int))) then ((0:Nat):Int) else (γ .i64 (z - ((3:Nat):Int))))),(12,.bool (decide (((0:Nat):Int)<z))),(20,.dead)],[],.dead,[]⟩ (.normal) ⟨[(0,.str s),(4,ω z),(5,ω (d:Int)),(3,.nilS)],[],.dead,[]⟩):ψ nt f135 ⟨[(0,.str s),(3,.nilS),(4,ω z)],[],.dead,[]⟩ (.normal) ⟨[(0,.str s),(3,.ref 0 0 0 1),(4,ω (γ .i64 (z - ((3:Nat):Int))))],[(0,⟨[ω (d:Int)],0,false,0,1,true⟩)],.dead,[]⟩:=pJ 135 [2] 2 1 (.k 3 a .nil) (.l c .nil) b
theorem al0 {nt:Nat} (b:35<=nt) (s:List UInt8) (o:List Nat) (z:Int) (d:Nat) (a:lit false (decide (((0:Nat):Int)<z))=true):ψ nt f135 ⟨[(0,.str s),(3,.nilS),(4,ω z)],[],.dead,[]⟩ (.exit 0) ⟨[(3,.nilS)],[],.dead,[]⟩:=pJ 135 [2] 1 0 (.c a .nil) (.nil) b
theorem ahw (s:List UInt8) (o:List Nat) (a:CO 133 [.str s] (.ret (.str (ae (ag s))))) (b:aK prog ap [] 35 (.block 0 (.loop (af 0 (ah f135)))) ⟨[(0,.str (ae (ag s))),(2,.nilS),(3,.nilS),(4,ω (((ζ (ae (ag s))):Nat):Int)),(5,.dead),(6,.dead),(12,.dead),(20,.dead)],[],.dead,[]⟩ (.normal) ⟨[(3,.nilS)],[],.dead,[]⟩):CO 135 [.str s] (.ret (.nilS)):=pK [0] 0 0 .nil (.l b (.c a .nil))
theorem alU {nt:Nat} (c:35<=nt) (s:List UInt8) (o:List Nat) (z:Int) (d:Nat) (b:(Φ (o.length+1) 1099511627776)=true) (e:(Φ (o.length*1) (ζ (ai o)))=true) (a:lit true (decide (((0:Nat):Int)<z))=true) (f:aK prog ap [] 35 (.block 2 (.loop (af 2 (ah f135)))) ⟨[(0,.str s),(2,.dead),(3,.ref 0 0 0 o.length),(4,ω z),(5,ω 0),(6,ω (if ((0:Nat):Int)>(γ .i64 (z - ((3:Nat):Int))) then ((0:Nat):Int) else (γ .i64 (z - ((3:Nat):Int))))),(12,.bool (decide (((0:Nat):Int)<z))),(20,.dead)],[(0,⟨(ai o),0,false,0,1,true⟩)],.dead,[]⟩ (.normal) ⟨[(0,.str s),(4,ω z),(5,ω (d:Int)),(3,.ref 0 0 0 o.length)],[(0,⟨(ai o),0,false,0,1,true⟩)],.dead,[]⟩):ψ nt f135 ⟨[(0,.str s),(3,.ref 0 0 0 o.length),(4,ω z)],[(0,⟨(ai o),0,false,0,1,true⟩)],.dead,[]⟩ (.normal) ⟨[(0,.str s),(3,.ref 0 0 0 (o.length+1)),(4,ω (γ .i64 (z - ((3:Nat):Int))))],[(0,⟨((κ (o.length*1) (ai o))++ [ω (d:Int)]),0,false,0,1,true⟩)],.dead,[]⟩:=pJ 135 [2] 1 1 (.k 1 b (.c e (.k 1 a .nil))) (.l f .nil) c
theorem alV {nt:Nat} (b:35<=nt) (s:List UInt8) (o:List Nat) (z:Int) (d:Nat) (a:lit false (decide (((0:Nat):Int)<z))=true):ψ nt f135 ⟨[(0,.str s),(3,.ref 0 0 0 o.length),(4,ω z)],[(0,⟨(ai o),0,false,0,1,true⟩)],.dead,[]⟩ (.exit 0) ⟨[(3,.ref 0 0 0 o.length)],[(0,⟨(ai o),0,false,0,1,true⟩)],.dead,[]⟩:=pJ 135 [2] 1 0 (.c a .nil) (.nil) b
theorem ahv (s:List UInt8) (o:List Nat) (a:CO 133 [.str s] (.ret (.str (ae (ag s))))) (b:aK prog ap [] 35 (.block 0 (.loop (af 0 (ah f135)))) ⟨[(0,.str (ae (ag s))),(2,.nilS),(3,.nilS),(4,ω (((ζ (ae (ag s))):Nat):Int)),(5,.dead),(6,.dead),(12,.dead),(20,.dead)],[],.dead,[]⟩ (.normal) ⟨[(3,.ref 0 0 0 o.length)],[(0,⟨(ai o),0,false,0,1,true⟩)],.dead,[]⟩):CO 135 [.str s] (.ret (.own (κ (o.length*1) (ai o)) o.length 1)):=pK [0] 0 0 .nil (.l b (.c a .nil))
def YL (s:List UInt8) (o:List Nat) (e j k:Nat):St:=⟨[(0,.str s),(3,Pj o),(4,ω (e:Int)),(5,ω ((ag ((s.take k).drop j):Nat):Int)),(6,ω (k:Int))],Pm o,.dead,[]⟩
def YK (s:List UInt8) (o:List Nat) (e d:Nat):St:=⟨[(0,.str s),(3,Pj o),(4,ω (e:Int)),(5,ω (d:Int))],Pm o,.dead,[]⟩
theorem Vm {s:List UInt8} {j k:Nat} (h:k<s.length) (a:j<=k):ag ((s.take (k+1)).drop j)=ag ((s.take k).drop j)*256+(s.getD k 0).toNat:=by
 rw [Xwt,π h,List.drop_append_of_le_length (by simp;omega),ξ,π h];exact oU _ _
theorem S9 {s:List UInt8} {j k:Nat} (h:k<=j+3):ag ((s.take k).drop j)<16777216:=by
 have a:=kD ((s.take k).drop j);have b:((s.take k).drop j).length<=3:=by simp;omega
 exact Xqa a (Xxg (Xqc (by omega) (show 8*((s.take k).drop j).length<=24 by omega)) (by decide))
theorem acC {nt:Nat} (f:35<=nt) (s:List UInt8) (o:List Nat) (e j:Nat) (hs:s.length<2^40) (t:e<=s.length) (u:e<=j+3):∀ (n k:Nat),k+n=e->j<=k->az prog ap [] nt (af 2 (ah f135)) (λ_=> .exit 2) (YL s o e j) (YK s o e) k (ag ((s.take e).drop j)):=by
 intro n
 induction n with
 | zero=>
  intro k p a;have g:k=e:=by omega
  subst g;refine .done ?_;unfold YL YK;rcases Xxm (o= []) with rfl|hne
  .exact al6 f s [] k _ k (by rw [aZ];simp [lit])
  .rw [h_ hne,ig hne];exact al4 f s o k _ k (by rw [aZ];simp [lit])
 | succ n ih=>
  intro k p a;refine .next ?_ (ih (k+1) (by omega) (by omega))
  have h:k<s.length:=by omega
  have r:=S9 (s:=s) (j:=j) (k:=k) (by omega);have q:(s.getD k 0).toNat<256:=Xvq _;have i:=Vm h a;unfold YL;rw [i];generalize m:(s.getD k 0).toNat=c at*
  generalize ag ((s.take k).drop j)=d at*
  clear ih i;have v:γ .i64 ((d:Int)*((256:Nat):Int))=((d*256:Nat):Int):=by rw [bG]<;>omega
  have l:(((d*256:Nat):Int))+(c:Int)=((d*256+c:Nat):Int):=by omega
  rcases Xxm (o= []) with rfl|hne
  .have b:=al5 f s [] e d k;simp (disch:=first|omega|(simp [au,ay]<;>omega)) only [dG,bi,aZ,bD,zD,aS,aC,m,l,bQ] at b;apply b<;>first|exact True.intro|omega|assumption|exact rfl
  .have b:=al3 f s o e d k;rw [h_ hne,ig hne];simp (disch:=first|omega|(simp [au,ay]<;>omega)) only [dG,bi,aZ,bD,zD,aS,aC,m,l,bQ] at b;apply b<;>first|exact True.intro|omega|assumption|exact rfl
def Vl (s:List UInt8) (p:Int × List Nat):St:=⟨[(0,.str s),(3,Pj p.2),(4,ω p.1)],Pm p.2,.dead,[]⟩
def SY (o:List Nat):St:=⟨[(3,Pj o)],Pm o,.dead,[]⟩
theorem acB {nt:Nat} (c:35<=nt) (s:List UInt8) (o:List Nat) (e:Nat) (hs:s.length<2^38) (i:e<=s.length) (j:0<e) (k:o.length<2^39):
  ψ nt f135 (Vl s ((e:Int),o)) .normal (Vl s ((e:Int) - 3,o++ [ag ((s.take e).drop (e - 3))])):=by
 have hloop:=λnt (c:35<=nt)=>acC c s o e (e - 3) (by omega) i (by omega) (e - (e - 3)) (e - 3) (by omega) (χ _)
 have g:γ .i64 ((e:Int) - ((3:Nat):Int))=(e:Int) - 3:=bG (by omega) (by omega);have f:(if ((0:Nat):Int)>(e:Int) - 3 then ((0:Nat):Int) else (e:Int) - 3)=((e - 3:Nat):Int):=by
  split<;>omega
 have b:ag ((s.take (e - 3)).drop (e - 3))=0:=by
  rw [Xxv (by simp;omega)];rfl
 have h:(ε (e - 3) (κ e s)).length<=3:=by simp;omega
 unfold Vl;generalize ag ((s.take e).drop (e - 3))=d at*
 rcases Xxm (o= []) with rfl|hne
 .have a:=alZ c s [] (e:Int) d;rw [g,f] at a;simp (disch:=first|omega|(simp [au,ay]<;>omega)) only [aZ,bD,bi] at a;simp only [Xqi,Pj,Pm,ai,Xqg,Xxw,ν,Xqf] at a ⊢;apply a
  .omega
  .refine az.blk hloop (by simp) rfl ?_ (aN.of ⟨rfl,rfl,rfl,rfl,trivial⟩);unfold YL;rw [b];exact aN.of ⟨rfl,rfl,rfl,rfl,rfl,trivial⟩
 .have a:=alU c s o (e:Int) d;rw [g,f] at a;rw [h_ hne,ig hne,h_ (iT _ _),ig (iT _ _)];simp (disch:=first|omega|(simp [au,ay]<;>omega)) only [fK,bi,Θ,bM,aZ,bD,dA,Xqz,je] at a;simp only [η,τ];apply a<;>first|exact True.intro|omega|assumption|exact rfl|skip
  .refine az.blk hloop (by simp) rfl ?_ ?_
   .unfold YL;rw [b,h_ hne,ig hne];exact aN.of ⟨rfl,rfl,rfl,rfl,rfl,trivial⟩
   .unfold YK;rw [h_ hne,ig hne];exact aN.of ⟨rfl,rfl,rfl,rfl,trivial⟩
theorem YG {nt:Nat} (a:35<=nt) (s:List UInt8) (o:List Nat) (z:Int) (c:z<=0):ψ nt f135 (Vl s (z,o)) (.exit 0) (SY o):=by
 unfold Vl SY;have b:lit false (decide (((0:Nat):Int)<z))=true:=by simp [lit];exact c
 rcases Xxm (o= []) with rfl|hne
 .exact al0 a s [] z 0 b
 .rw [h_ hne,ig hne];exact alV a s o z 0 b
theorem ajO {s:List UInt8} {e:Nat} (g:e<=s.length):ag (s.take e)=16777216*ag (s.take (e - 3))+ag ((s.take e).drop (e - 3)):=by
 have c:∀ (b a:List UInt8),ag (a++b)=ag a*256^b.length+ag b:=by
  intro b a;unfold ag;rw [Xwx,Jd];rfl
 have hs:s.take e=s.take (e - 3)++(s.take e).drop (e - 3):=by
  have f:=Xj5 (e - 3) (s.take e);rw [List.take_take,Xjc (by omega)] at f;exact f.symm
 have d:=c ((s.take e).drop (e - 3)) (s.take (e - 3));rw [<- hs] at d;rw [d];rcases Xq2 e 3 with h3|h3
 .have:e - 3=0:=by omega
  rw [this];simp [ag]
 .have:((s.take e).drop (e - 3)).length=3:=by simp;omega
  rw [this,Xqh,show 256^3=16777216 from rfl]
theorem YH {nt:Nat} (d:35<=nt) (s:List UInt8) (hs:s.length<2^38) (i:nR s=true):∀ (n e:Nat) (o:List Nat),e<n->e<=s.length->o.length+e<2^39->az prog ap [] nt (af 0 (ah f135)) (λ_=> .exit 0) (Vl s) SY ((e:Int),o) (o++ax (ag (s.take e))):=by
 intro n
 induction n with
 |zero=>intro e o h;omega
 | succ n ih=>
  intro e o h a q;rcases Xqb e with rfl|h0
  .have:ag (s.take 0)=0:=rfl;rw [this,gI,Δ];exact .done (YG d s o _ (by omega))
  .have l:0<ag (s.take e):=by
    cases s with
    |nil=>simp at a;omega
    | cons c r=>
     have f:c ≠ 0:=by simpa [nR] using i
     have b:0<c.toNat:=by
      rcases Xqb c.toNat with h|h
      .exact absurd (by apply UInt8.toNat_inj.1;simpa using h) f
      .exact h
     obtain ⟨e',rfl⟩:∃ e',e=e'+1:=⟨e - 1,by omega⟩
     rw [List.take_succ_cons,jl];have:=Xjg b (show 0<256^(r.take e').length from Nat.pow_pos (by omega));omega
   have p:=ajO a;have hd:=S9 (s:=s) (j:=e - 3) (k:=e) (by omega);have hstep:=acB d s o e hs a h0 (by omega);rw [pg l,show ag (s.take e) % 16777216=ag ((s.take e).drop (e - 3)) by omega,show ag (s.take e) / 16777216=ag (s.take (e - 3)) by omega];rcases Xq2 e 3 with h3|h3
   .have g:e - 3=0:=by omega
    have m:ag (s.take (e - 3))=0:=by rw [g];rfl
    rw [m,gI];exact .next hstep (.done (YG d s _ _ (by omega)))
   .have hnext:=ih (e - 3) (o++ [ag ((s.take e).drop (e - 3))]) (by omega) (by omega) (by simp;omega);rw [υ] at hnext;rw [show ((e:Int) - 3)=((e - 3:Nat):Int) by omega] at hstep;exact .next hstep hnext
theorem Dw (s:List UInt8) (hs:s.length<2^37):CO 135 [.str s] (.ret (.sl (ai (ax (ag s))) (ax (ag s)).length false)):=by
 have c:=iy s (by omega);have b:(ae (ag s)).length<=s.length:=ni (χ _);have a:=aG (ag s);have hloop:=λnt (hn:35<=nt)=>YH hn (ae (ag s)) (by omega) (wY _) ((ae (ag s)).length+1) (ae (ag s)).length [] (by omega) (χ _) (by simp;omega)
 rw [Xqz,a,Xqi] at hloop;generalize hd:ax (ag s)=o at*
 rcases Xxm (o= []) with rfl|hne
 .have h:=ahw s [] c (az.blk hloop (by simp) rfl (aN.of ⟨rfl,rfl,rfl,trivial⟩) (aN.of ⟨rfl,trivial⟩));exact h.out (jB.ret rfl rfl (aU.nilS false rfl))
 .have h:=(ahv s o c (az.blk hloop (by simp) rfl (aN.of ⟨rfl,rfl,rfl,trivial⟩) (by unfold SY;rw [h_ hne,ig hne];exact aN.of ⟨rfl,trivial⟩))).thaw (by simp);simp only [xZ,thaw,Θ,dA,Xqz] at h;exact h.out (jB.sl1 _ _ _)
theorem aqt (s t:List UInt8) (x y q r:Nat) (a:(!((y:Int)==((0:Nat):Int)))=true) (f:lit false ((((ζ (ae (ag t))):Nat):Int)==((0:Nat):Int))=true) (e:CO 133 [.str t] (.ret (.str (ae (ag t))))) (g:CO 134 [.str s,ω 7] (.ret (.tup [ω (x:Int),.bool true]))) (b:CO 134 [.str (ae (ag t)),ω 7] (.ret (.tup [ω (y:Int),.bool true]))) (d:CO 79 [ω (γ .i64 (Xxl (x:Int) (y:Int)))] (.ret (.str (ae q)))) (c:CO 79 [ω (Int.tmod (x:Int) (y:Int))] (.ret (.str (ae r)))):CO 150 [.str s,.str t] (.ret (.tup [.str (ae q),.str (ae r),.bool true])):=pK [0] 3 6 (.c a (.c a (.k 2 f .nil))) (.c c (.c d (.c b (.c g (.c e .nil)))))
theorem aqr (s t:List UInt8) (x y q r m:Nat) (Q:List Nat) (b:Int) (a:Bool) (e:(decide (((0:Nat):Int)<=(((ax (ag s)).length:Nat):Int)))=true) (g:(decide ((((ax (ag s)).length:Nat):Int)=(((ax (ag s)).length:Nat):Int)))=true) (c:(decide ((((ax (ag s)).length:Nat):Int)<=((1099511627776:Nat):Int)))=true) (f:lit false ((((ζ (ae (ag t))):Nat):Int)==((0:Nat):Int))=true) (j:CO 133 [.str t] (.ret (.str (ae (ag t))))) (h:CO 134 [.str s,ω 7] (.ret (.tup [ω 0,.bool false]))) (i:CO 134 [.str (ae (ag t)),ω 7] (.ret (.tup [ω b,.bool a]))) (l:CO 135 [.str s] (.ret (.sl (ai (ax (ag s))) (ax (ag s)).length false))) (k:CO 135 [.str (ae (ag t))] (.ret (.sl (ai (ax (ag (ae (ag t))))) (ax (ag (ae (ag t)))).length false))) (o:aK prog ap [] 87 (.block 0 (.loop (af 0 (ah f150)))) ⟨[(0,.str s),(1,.str (ae (ag t))),(4,.str []),(5,.str []),(6,.bool false),(7,ω 0),(8,.bool false),(9,ω b),(10,.bool a),(11,.sl (ai (ax (ag s))) (ax (ag s)).length false),(12,.sl (ai (ax (ag (ae (ag t))))) (ax (ag (ae (ag t)))).length false),(13,.ref 0 0 0 (δ (((ax (ag s)).length:Nat):Int))),(14,.nilS),(15,ω (γ .i64 ((((ax (ag s)).length:Nat):Int) - ((1:Nat):Int)))),(20,.bool ((((ζ (ae (ag t))):Nat):Int)==((0:Nat):Int))),(34,.bool false),(54,.dead),(68,.dead)],[(0,⟨(g_ (δ (((ax (ag s)).length:Nat):Int)) [ω 0]),0,false,0,1,true⟩)],.dead,[]⟩ (.normal) ⟨[(13,.ref 0 0 0 m),(14,.sl (ai (ax r)) (ax r).length false)],[(0,⟨(ai Q),0,false,0,1,true⟩)],.dead,[]⟩) (n:CO 136 [.sl (κ (m*1) (ai Q)) m true] (.ret (.str (ae q)))) (d:CO 136 [.sl (ai (ax r)) (ax r).length false] (.ret (.str (ae r)))):CO 150 [.str s,.str t] (.ret (.tup [.str (ae q),.str (ae r),.bool true])):=pK [0] 3 0 (.c e (.c g (.c c (.k 2 f .nil)))) (.c d (.c n (.l o (.c k (.c l (.c i (.c h (.c j .nil))))))))
theorem aqs (s t:List UInt8) (x y q r m:Nat) (Q:List Nat) (o:Int) (n:Bool) (c:(decide (((0:Nat):Int)<=(((ax (ag s)).length:Nat):Int)))=true) (e:(decide ((((ax (ag s)).length:Nat):Int)=(((ax (ag s)).length:Nat):Int)))=true) (a:(decide ((((ax (ag s)).length:Nat):Int)<=((1099511627776:Nat):Int)))=true) (d:lit false ((((ζ (ae (ag t))):Nat):Int)==((0:Nat):Int))=true) (h:CO 133 [.str t] (.ret (.str (ae (ag t))))) (f:CO 134 [.str s,ω 7] (.ret (.tup [ω (x:Int),.bool true]))) (g:CO 134 [.str (ae (ag t)),ω 7] (.ret (.tup [ω 0,.bool false]))) (j:CO 135 [.str s] (.ret (.sl (ai (ax (ag s))) (ax (ag s)).length false))) (i:CO 135 [.str (ae (ag t))] (.ret (.sl (ai (ax (ag (ae (ag t))))) (ax (ag (ae (ag t)))).length false))) (l:aK prog ap [] 87 (.block 0 (.loop (af 0 (ah f150)))) ⟨[(0,.str s),(1,.str (ae (ag t))),(4,.str []),(5,.str []),(6,.bool false),(7,ω (x:Int)),(8,.bool true),(9,ω 0),(10,.bool false),(11,.sl (ai (ax (ag s))) (ax (ag s)).length false),(12,.sl (ai (ax (ag (ae (ag t))))) (ax (ag (ae (ag t)))).length false),(13,.ref 0 0 0 (δ (((ax (ag s)).length:Nat):Int))),(14,.nilS),(15,ω (γ .i64 ((((ax (ag s)).length:Nat):Int) - ((1:Nat):Int)))),(20,.bool ((((ζ (ae (ag t))):Nat):Int)==((0:Nat):Int))),(34,.bool false),(54,.dead),(68,.dead)],[(0,⟨(g_ (δ (((ax (ag s)).length:Nat):Int)) [ω 0]),0,false,0,1,true⟩)],.dead,[]⟩ (.normal) ⟨[(13,.ref 0 0 0 m),(14,.sl (ai (ax r)) (ax r).length false)],[(0,⟨(ai Q),0,false,0,1,true⟩)],.dead,[]⟩) (k:CO 136 [.sl (κ (m*1) (ai Q)) m true] (.ret (.str (ae q)))) (b:CO 136 [.sl (ai (ax r)) (ax r).length false] (.ret (.str (ae r)))):CO 150 [.str s,.str t] (.ret (.tup [.str (ae q),.str (ae r),.bool true])):=pK [0] 3 2 (.c c (.c e (.c a (.k 2 d .nil)))) (.c b (.c k (.l l (.c i (.c j (.c g (.c f (.c h .nil))))))))
theorem aqu {nt:Nat} (z:87<=nt) (x y r w q p a m k:Nat) (c:Int) (Q:List Nat) (e:(chk (.int .i64) (θ (ε ((0+(δ (k:Int)))*1) (κ ((0+(δ (k:Int)))*1) (ai Q)++ [ω (q:Int)]++ε (((0+(δ (k:Int)))*1)+1) (ai Q))) .dead))=true) (b:(decide (((0:Nat):Int)<=(k:Int)))=true) (d:(decide ((k:Int)<(m:Int)))=true) (f:(Φ (((0+(δ (k:Int)))*1)+1) (ζ (ai Q)))=true) (g:lit true (decide (((0:Nat):Int)<=c))=true) (l:(Xqn (ζ (ai (ax r))) ((ax r).length*1))=true) (j:(Φ (1+(ax r).length) 1099511627776)=true) (t:(chk (.int .i64) (θ (ε ((δ (k:Int))*1) (ai (ax x))) .dead))=true) (h:(decide ((k:Int)<(((ax x).length:Nat):Int)))=true) (u:lit true (decide (((0:Nat):Int)<=(k:Int)))=true) (o:CO 185 [.sl (κ ((1+(ax r).length)*1) ([ω (Γ (θ (ε ((δ (k:Int))*1) (ai (ax x))) .dead))]++(ai (ax r)))) (1+(ax r).length) true] (.ret (.sl (ai (ax w)) (ax w).length false))) (i:CO 186 [.sl (ai (ax w)) (ax w).length false,.sl (ai (ax y)) (ax y).length false] (.ret (ω c))) (n:CO 187 [.sl (ai (ax w)) (ax w).length false,.sl (ai (ax y)) (ax y).length false] (.ret (ω (q:Int)))) (v:CO 188 [.sl (ai (ax y)) (ax y).length false,ω (Γ (θ (ε ((0+(δ (k:Int)))*1) (κ ((0+(δ (k:Int)))*1) (ai Q)++ [ω (q:Int)]++ε (((0+(δ (k:Int)))*1)+1) (ai Q))) .dead))] (.ret (.sl (ai (ax p)) (ax p).length true))) (s:CO 151 [.sl (ai (ax w)) (ax w).length false,.sl (ai (ax p)) (ax p).length true] (.ret (.sl (ai (ax a)) (ax a).length false))):ψ nt f150 ⟨[(11,.sl (ai (ax x)) (ax x).length false),(12,.sl (ai (ax y)) (ax y).length false),(13,.ref 0 0 0 m),(14,.sl (ai (ax r)) (ax r).length false),(15,ω (k:Int))],[(0,⟨(ai Q),0,false,0,1,true⟩)],.dead,[]⟩ (.normal) ⟨[(11,.sl (ai (ax x)) (ax x).length false),(12,.sl (ai (ax y)) (ax y).length false),(13,.ref 0 0 0 m),(14,.sl (ai (ax a)) (ax a).length false),(15,ω (γ .i64 ((k:Int) - ((1:Nat):Int))))],[(0,⟨(κ ((0+(δ (k:Int)))*1) (ai Q)++ [ω (q:Int)]++ε (((0+(δ (k:Int)))*1)+1) (ai Q)),0,false,0,1,true⟩)],.dead,[]⟩:=pJ 150 [] 2 3 (.c e (.c b (.c d (.c f (.c b (.c d (.c g (.c l (.c j (.k 2 t (.c b (.c h (.c u .nil))))))))))))) (.c s (.c v (.c n (.c i (.c o .nil))))) z
theorem aqv {nt:Nat} (l:87<=nt) (x y r w q p n m k:Nat) (c:Int) (Q:List Nat) (b:lit false (decide (((0:Nat):Int)<=c))=true) (f:(Xqn (ζ (ai (ax r))) ((ax r).length*1))=true) (a:(Φ (1+(ax r).length) 1099511627776)=true) (d:(chk (.int .i64) (θ (ε ((δ (k:Int))*1) (ai (ax x))) .dead))=true) (e:(decide (((0:Nat):Int)<=(k:Int)))=true) (i:(decide ((k:Int)<(((ax x).length:Nat):Int)))=true) (h:lit true (decide (((0:Nat):Int)<=(k:Int)))=true) (j:CO 185 [.sl (κ ((1+(ax r).length)*1) ([ω (Γ (θ (ε ((δ (k:Int))*1) (ai (ax x))) .dead))]++(ai (ax r)))) (1+(ax r).length) true] (.ret (.sl (ai (ax w)) (ax w).length false))) (g:CO 186 [.sl (ai (ax w)) (ax w).length false,.sl (ai (ax y)) (ax y).length false] (.ret (ω c))):ψ nt f150 ⟨[(11,.sl (ai (ax x)) (ax x).length false),(12,.sl (ai (ax y)) (ax y).length false),(13,.ref 0 0 0 m),(14,.sl (ai (ax r)) (ax r).length false),(15,ω (k:Int))],[(0,⟨(ai Q),0,false,0,1,true⟩)],.dead,[]⟩ (.normal) ⟨[(11,.sl (ai (ax x)) (ax x).length false),(12,.sl (ai (ax y)) (ax y).length false),(13,.ref 0 0 0 m),(14,.sl (ai (ax w)) (ax w).length false),(15,ω (γ .i64 ((k:Int) - ((1:Nat):Int))))],[(0,⟨(ai Q),0,false,0,1,true⟩)],.dead,[]⟩:=pJ 150 [] 2 1 (.c b (.c f (.c a (.k 2 d (.c e (.c i (.c h .nil))))))) (.c g (.c j .nil)) l
theorem amH {nt:Nat} (a:87<=nt) (x y r w q p b m k:Nat) (c:Int) (Q:List Nat):ψ nt f150 ⟨[(11,.sl (ai (ax x)) (ax x).length false),(12,.sl (ai (ax y)) (ax y).length false),(13,.ref 0 0 0 m),(14,.sl (ai (ax r)) (ax r).length false),(15,ω (-1))],[(0,⟨(ai Q),0,false,0,1,true⟩)],.dead,[]⟩ (.exit 0) ⟨[(13,.ref 0 0 0 m),(14,.sl (ai (ax r)) (ax r).length false)],[(0,⟨(ai Q),0,false,0,1,true⟩)],.dead,[]⟩:=pJ 150 [] 1 0 (.n 1 .nil) (.nil) a
def BQ (x y m k:Nat):List Nat:=(Xq7 m).map λi=>if i<k then 0 else x / 16777216^i / y % 16777216
theorem yK (x y m k:Nat):(BQ x y m k).length=m:=by simp [BQ]
theorem acS {x y m k:Nat} (a:k<m):(BQ x y m (k+1)).set k (x / 16777216^k / y % 16777216)=BQ x y m k:=by
 apply Xj3;intro i;rw [Xzo,yK];unfold BQ;by_cases hi:k=i
 .subst hi;simp [a]
 .rw [if_neg hi];by_cases him:i<m
  .simp only [List.getElem?_map,List.getElem?_range him,Option.map_some];by_cases h1:i<k
   .rw [if_pos (by omega),if_pos h1]
   .rw [if_neg (by omega),if_neg h1]
  .rw [Xq6 (by simp;omega),Xq6 (by simp;omega)]
theorem Js (x y m:Nat):BQ x y m m=μ m 0:=by
 unfold BQ;apply Xj3;intro i;by_cases him:i<m
 .simp [him]
 .rw [Xq6 (by simp;omega),Xq6 (by simp;omega)]
theorem acR (x y m k:Nat):bz (BQ x y m k):=by
 intro d hd;obtain ⟨i,_,rfl⟩:=List.mem_map.1 hd;show (if i<k then 0 else _)<_;split<;>omega
theorem Z_ (z:Nat):∀ m,dn ((Xq7 m).map λi=>z / 16777216^i % 16777216)=z % 16777216^m:=by
 intro m
 induction m with
 |zero=>simp [dn,Nat.mod_one]
 |succ m ih=>
  rw [List.range_succ,Xx3,AO,ih,List.length_map,List.length_range,Xq3,Nat.mod_mul];simp only [Xqg,Xxw,dn,Xjl,Xq1]
theorem acT {x y m:Nat} (h:x / y<16777216^m):dn (BQ x y m 0)=x / y:=by
 have e:BQ x y m 0=(Xq7 m).map λi=>x / y / 16777216^i % 16777216:=by
  unfold BQ;apply List.map_congr_left;intro i _;rw [if_neg (by omega),Xx4,Xx4,Xqh]
 rw [e,Z_,Ξ h]
theorem W9:∀ (k x:Nat),(ax x).getD k 0=x / 16777216^k % 16777216:=by
 intro k
 induction k with
 |zero=>
  intro x;rcases Xqb x with rfl|h
  .rw [gI];rfl
  .rw [pg h];simp
 |succ k ih=>
  intro x;rcases Xqb x with rfl|h
  .rw [gI];simp
  .rw [pg h,List.getD_cons_succ,ih,Xx4,Xq3,Xqh]
theorem RF {V R' Q' x H:Nat} (a:0<V) (h:H=V*Q'+R'):(x+16777216*H) / V=16777216*Q'+(x+16777216*R') / V/\(x+16777216*H) % V=(x+16777216*R') % V:=by
 subst h;have e:x+16777216*(V*Q'+R')=x+16777216*R'+V*(16777216*Q'):=by
  rw [Xxe,Nat.mul_left_comm];omega
 rw [e];constructor
 .rw [Nat.add_mul_div_left _ _ a,Xx1]
 .rw [Nat.add_mul_mod_self_left]
def Vp (x y m k:Nat):St:=⟨[(11,.sl (ai (ax x)) (ax x).length false),(12,.sl (ai (ax y)) (ax y).length false),(13,.ref 0 0 0 m),(14,.sl (ai (ax (x / 16777216^k % y))) (ax (x / 16777216^k % y)).length false),(15,ω ((k:Int) - 1))],[(0,⟨ai (BQ x y m k),0,false,0,1,true⟩)],.dead,[]⟩
theorem aqx {nt:Nat} (v:87<=nt) (x y r w q p b m k d:Nat) (c:Int) (Q Q2:List Nat) (z:k<(ax x).length) (hd:(ax x).getD k 0=d) (s:Q.length=m) (o:k<m) (A:m<2^40) (n:(ax r).length<2^39) (a:Q.set k q=Q2) (i:0<=c)
  (c0:CO 185 [.sl (ai (d::ax r)) (1+(ax r).length) true] (.ret (.sl (ai (ax w)) (ax w).length false)))
  (c1:CO 186 [.sl (ai (ax w)) (ax w).length false,.sl (ai (ax y)) (ax y).length false] (.ret (ω c)))
  (c2:CO 187 [.sl (ai (ax w)) (ax w).length false,.sl (ai (ax y)) (ax y).length false] (.ret (ω (q:Int))))
  (c3:CO 188 [.sl (ai (ax y)) (ax y).length false,ω (q:Int)] (.ret (.sl (ai (ax p)) (ax p).length true)))
  (c4:CO 151 [.sl (ai (ax w)) (ax w).length false,.sl (ai (ax p)) (ax p).length true] (.ret (.sl (ai (ax b)) (ax b).length false))):
  ψ nt f150 ⟨[(11,.sl (ai (ax x)) (ax x).length false),(12,.sl (ai (ax y)) (ax y).length false),(13,.ref 0 0 0 m),(14,.sl (ai (ax r)) (ax r).length false),(15,ω (k:Int))],[(0,⟨ai Q,0,false,0,1,true⟩)],.dead,[]⟩ .normal
   ⟨[(11,.sl (ai (ax x)) (ax x).length false),(12,.sl (ai (ax y)) (ax y).length false),(13,.ref 0 0 0 m),(14,.sl (ai (ax b)) (ax b).length false),(15,ω ((k:Int) - 1))],[(0,⟨ai Q2,0,false,0,1,true⟩)],.dead,[]⟩:=by
 have g:=aqu v x y r w q p b m k c Q;have h:γ .i64 ((k:Int) - ((1:Nat):Int))=(k:Int) - 1:=bG (by omega) (by omega);have hset':=RZ (l:=Q) (j:=k) (by omega) q;rw [a] at hset';have f:Q2.getD k 0=q:=by rw [<- a,ξ,List.getElem?_set_self (by omega)];rfl
 have t:Q2.length=m:=by rw [<- a];simp [s]
 have e:κ (1+(ax r).length) (ai (d::ax r))=ai (d::ax r):=by rw [dA,ο (by simp;omega)]
 have u:(((0:Nat):Int)<=c)=True:=by simp [i]
 simp (disch:=first|omega|(simp [au,ay]<;>omega)) only [aC,Ψ,Θ,hset',fP,f,eF,dG,bi,aZ,bM,fK,u,decide_true,bD,KL,hd,bf,Ny,e,h] at g;apply g<;>first|exact True.intro|omega|assumption|exact rfl
theorem aqw {nt:Nat} (h:87<=nt) (x y r w m k d:Nat) (c:Int) (Q:List Nat) (n:k<(ax x).length) (hd:(ax x).getD k 0=d) (o:Q.length=m) (i:k<m) (l:m<2^40) (g:(ax r).length<2^39) (f:c<0)
  (c0:CO 185 [.sl (ai (d::ax r)) (1+(ax r).length) true] (.ret (.sl (ai (ax w)) (ax w).length false)))
  (c1:CO 186 [.sl (ai (ax w)) (ax w).length false,.sl (ai (ax y)) (ax y).length false] (.ret (ω c))):
  ψ nt f150 ⟨[(11,.sl (ai (ax x)) (ax x).length false),(12,.sl (ai (ax y)) (ax y).length false),(13,.ref 0 0 0 m),(14,.sl (ai (ax r)) (ax r).length false),(15,ω (k:Int))],[(0,⟨ai Q,0,false,0,1,true⟩)],.dead,[]⟩ .normal
   ⟨[(11,.sl (ai (ax x)) (ax x).length false),(12,.sl (ai (ax y)) (ax y).length false),(13,.ref 0 0 0 m),(14,.sl (ai (ax w)) (ax w).length false),(15,ω ((k:Int) - 1))],[(0,⟨ai Q,0,false,0,1,true⟩)],.dead,[]⟩:=by
 have b:=aqv h x y r w 0 0 0 m k c Q;have e:γ .i64 ((k:Int) - ((1:Nat):Int))=(k:Int) - 1:=bG (by omega) (by omega);have a:κ (1+(ax r).length) (ai (d::ax r))=ai (d::ax r):=by rw [dA,ο (by simp;omega)]
 have j:(((0:Nat):Int)<=c)=False:=by simp [f]
 simp (disch:=first|omega|(simp [au,ay]<;>omega)) only [j,decide_false,dP,Xju,bM,Θ,KL,decide_true,fK,bi,aC,fP,hd,eF,dG,aZ,bD,bf,Ny,a,e] at b;apply b<;>first|exact True.intro|omega|assumption|exact rfl
theorem acN (x y m k:Nat) (c:0<y) (j:k<m):∃ d r w:Nat,(ax x).getD k 0=d/\x / 16777216^(k+1) % y=r/\d+16777216*r=w/\d<16777216/\r<y/\x / 16777216^k % y=w % y/\(BQ x y m (k+1)).set k (w / y)=BQ x y m k/\(BQ x y m (k+1)).getD k 0=0:=by
 have g:=Xqy (x / 16777216^k) (show 0<16777216 by omega);have h:=Xqy (x / 16777216^(k+1)) c;refine ⟨x / 16777216^k % 16777216,x / 16777216^(k+1) % y,_,W9 k x,rfl,rfl,g,h, ?_, ?_, ?_⟩
 .have b:=Xxb (x / 16777216^(k+1)) y;obtain ⟨_,l⟩:=RF (x:=x / 16777216^k % 16777216) c b.symm;have i:x / 16777216^k % 16777216+16777216*(x / 16777216^(k+1))=x / 16777216^k:=by
   rw [Xq3,<- Xx4];omega
  rw [i] at l;exact l
 .have b:=Xxb (x / 16777216^(k+1)) y;obtain ⟨v1,_⟩:=RF (x:=x / 16777216^k % 16777216) c b.symm;have i:x / 16777216^k % 16777216+16777216*(x / 16777216^(k+1))=x / 16777216^k:=by
   rw [Xq3,<- Xx4];omega
  rw [i] at v1;have a:=acS (x:=x) (y:=y) j;rw [v1] at a;have e:x / 16777216^k % 16777216+16777216*(x / 16777216^(k+1) % y)<y*16777216:=by omega
  have f:(x / 16777216^k % 16777216+16777216*(x / 16777216^(k+1) % y)) / y<16777216:=by rw [Xqv c,Xqh 16777216 y];exact e
  rw [Nat.mul_add_mod,Ξ f] at a;exact a
 .unfold BQ;rw [ξ];simp [j]
theorem Uz {w y:Nat} (h:w<y*16777216):(ax w).length<=(ax y).length+1:=by
 apply tV;have a:=wR y;rw [Xq3];exact Xq8 h (Xvh a (by omega))
theorem acO {nt:Nat} (E:87<=nt) (x y m k:Nat) (v:0<y) (L:(ax x).length=m) (u:k<m) (K:m<2^35) (J:(ax y).length<2^34):ψ nt f150 (Vp x y m (k+1)) .normal (Vp x y m k):=by
 obtain ⟨d,r,w,hd,G,F,C,t,o,a,p⟩:=acN x y m k v u;have q:=yK x y m (k+1);unfold Vp;rw [show (((k+1:Nat):Int) - 1)=(k:Int) by omega,G,o];have f:w<y*16777216:=by omega
 have I:=rP (Xw3 t);have b:=Am (d::ax r) true (by simp;omega);rw [TZ (bz.cons C (bz.dig r))] at b;simp only [dn,fG,F,ν] at b;rw [Xx1 (ax r).length 1] at b;have c:=b.out (jB.sl1 _ _ _);have z:w / y<16777216:=by rw [Xqv v,Xqh];exact f
 have H:=Uz f;have g:=Tv (ax w) (ax y) false false (bz.dig _) (bz.dig _) (by omega) (by omega);have n:=I4 w y;generalize BQ x y m k=Q2 at*
 generalize BQ x y m (k+1)=Q1 at*
 by_cases hc:0<=MP (ax w) (ax y)
 .have e:=n.1.1 hc;have l:=Xa w y false false v f (by omega) (by omega);have A:=OW y (w / y) false z (by omega);have s:y*(w / y)<=w:=Nat.mul_div_le w y;have j:=NP w (y*(w / y)) false true s (by omega);have D:w - y*(w / y)=w % y:=by have:=Xxb w y;omega
  rw [D] at j;exact aqx E x y r w (w / y) (y*(w / y)) (w % y) m k d _ Q1 Q2 (by omega) hd q u (by omega) (by omega) a hc c g l A j
 .have e:w<y:=Yqc (λh=>hc (n.1.2 h));have B:w / y=0:=Xjb e;rw [Ξ e];rw [B] at a;have hsame:Q1.set k 0=Q1:=by
   apply Xj3;intro i;rw [Xzo];by_cases hi:k=i
   .subst hi;rw [ξ,π (by omega)] at p;rw [if_pos rfl,if_pos (by omega),π (by omega)];simpa using p.symm
   .rw [if_neg hi]
  rw [hsame] at a;subst a;exact aqw E x y r w m k d _ Q1 (by omega) hd q u (by omega) (by omega) (by omega) c g
def Tj (x y m k:Nat):St:=⟨[(13,.ref 0 0 0 m),(14,.sl (ai (ax (x / 16777216^k % y))) (ax (x / 16777216^k % y)).length false)],[(0,⟨ai (BQ x y m k),0,false,0,1,true⟩)],.dead,[]⟩
theorem acM {nt:Nat} (c:87<=nt) (x y m:Nat) (e:0<y) (d:(ax x).length=m) (a:m<2^35) (b:(ax y).length<2^34):∀ k,k<=m->az prog ap [] nt (af 0 (ah f150)) (λ_=> .exit 0) (Vp x y m) (Tj x y m) k 0:=by
 intro k
 induction k with
 |zero=>
  intro _;refine .done ?_;unfold Tj;have h:=amH c x y (x / 16777216^0 % y) 0 0 0 0 m 0 0 (BQ x y m 0);exact h
 |succ k ih=>exact λf=> .next (acO c x y m k e d (by omega) a b) (ih (by omega))
theorem JG {s:List UInt8}:(ax (ag s)).length<=s.length:=by
 apply tV;have h:=kD s;refine Xqa h ?_;rw [show (16777216:Nat)=2^24 from rfl,<- Xjf];exact Xqc (by omega) (by omega)
theorem Ei (s t:List UInt8) (hs:s.length<2^33) (K:t.length<2^33) (v:0<ag t):CO 150 [.str s,.str t] (.ret (.tup [.str (ae (ag s / ag t)),.str (ae (ag s % ag t)),.bool true])):=by
 have L:=iy t (by omega);have b:=aG (ag t);have G:(ae (ag t)).length<=t.length:=ni (χ _);have f:ae (ag t) ≠ []:=λh=>by have:=fC.1 h;omega
 have B:0<(ae (ag t)).length:=by
  cases C:ae (ag t) with
  |nil=>exact absurd C f
  |cons _ _=>simp
 have e:((ae (ag t)).length=0)=False:=by simp;exact f
 have I:((7:Nat):Int)=7:=rfl;by_cases hb:ag s<2^(8*7)/\ag t<2^(8*7)
 .have c:=iE s 7 (by omega) (by omega) hb.1;have a:=iE (ae (ag t)) 7 (by omega) (by omega) (by rw [b];exact hb.2);rw [b] at a;have A:ag s<9223372036854775808:=Xqa hb.1 (by decide);have w:ag t<9223372036854775808:=Xqa hb.2 (by decide);have H:=Xjn (ag s) (ag t);have M:=Nat.mod_le (ag s) (ag t);have J:=lQ (ag s / ag t) (by omega);have N:=lQ (ag s % ag t) (by omega);have h:=aqt s t (ag s) (ag t) (ag s / ag t) (ag s % ag t);have m:(ag t=0)=False:=by simp;omega
  clear hb hs;simp (disch:=first|omega|(simp [au,ay]<;>omega)) only [jY,m,decide_false,Xju,e,dP,qV,aS,uV] at h;apply h<;>first|exact True.intro|omega|assumption|exact rfl
 .have y:=Dw s (by omega);have i:=Dw (ae (ag t)) (by omega);rw [b] at i;have F:=JG (s:=s);have E:=JG (s:=t);have hloop:=λnt (hn:87<=nt)=>acM hn (ag s) (ag t) _ v rfl (by omega) (by omega) _ (χ _)
  have u:=yK (ag s) (ag t) (ax (ag s)).length 0;have q:dn (BQ (ag s) (ag t) (ax (ag s)).length 0)=ag s / ag t:=acT (Nat.lt_of_le_of_lt (Xjn _ _) (wR _));have p:=vT (BQ (ag s) (ag t) (ax (ag s)).length 0) true (by omega) (acR _ _ _ _);rw [q,u] at p;have l:ag s / 16777216^0 % ag t=ag s % ag t:=by rw [Nat.pow_zero,Nat.div_one]
  have D:=rP (Xw3 (Xqy (ag s) v));have r:=vT (ax (ag s % ag t)) false (by omega) (bz.dig _);rw [fG] at r;have g:ag s / 16777216^(ax (ag s)).length % ag t=0:=by rw [Xjb (wR _),Nat.zero_mod]
  have k:γ .i64 ((((ax (ag s)).length:Nat):Int) - ((1:Nat):Int))=((ax (ag s)).length:Int) - 1:=FQ (by omega);have d:Tj (ag s) (ag t) (ax (ag s)).length 0=⟨[(13,.ref 0 0 0 (ax (ag s)).length),(14,.sl (ai (ax (ag s % ag t))) (ax (ag s % ag t)).length false)],[(0,⟨ai (BQ (ag s) (ag t) (ax (ag s)).length 0),0,false,0,1,true⟩)],.dead,[]⟩:=by unfold Tj;rw [l]
  have z:(ax (ag s)).length<2^35:=by omega
  have j:κ (ax (ag s)).length (ai (BQ (ag s) (ag t) (ax (ag s)).length 0))=ai (BQ (ag s) (ag t) (ax (ag s)).length 0):=by rw [dA,ο (by omega)]
  by_cases hx:ag s<2^(8*7)
  .have x:2^(8*7)<=ag t:=by
    rcases Xq2 (ag t) (2^(8*7)) with h|h
    .exact absurd ⟨hx,h⟩ hb
    .exact h
   have c:=iE s 7 (by omega) (by omega) hx;have a:=lT (ae (ag t)) 7 (by omega) (by rw [b];exact x);clear hb hx x;have h:=aqs s t (ag s) 0 (ag s / ag t) (ag s % ag t) (ax (ag s)).length (BQ (ag s) (ag t) (ax (ag s)).length 0) 0 true;rw [b] at h;simp (disch:=first|omega|(simp [au,ay]<;>omega)) only [dG,bi,decide_true,jY,e,decide_false,dP,Xju,aC,k,Ll,Θ,j] at h;apply h<;>first|exact True.intro|omega|assumption|exact rfl|skip
   .refine az.blkF hloop (by simp) rfl ?_ (by rw [d];exact rG.refl _);unfold Vp;rw [Js,g,gI];exact rG.of ⟨aU.refl _,aU.refl _,aU.refl _,aU.nilS false rfl,aU.refl _,trivial⟩
  .have c:=lT s 7 (by omega) (Nat.le_of_not_lt hx);have a:∃ o n,CO 134 [.str (ae (ag t)),ω 7] (.ret (.tup [ω o,.bool n])):=by
    rcases Xq2 (ag t) (2^(8*7)) with h|h
    .exact ⟨_,_,iE (ae (ag t)) 7 (by omega) (by omega) (by rw [b];exact h)⟩
    .exact ⟨_,_,lT (ae (ag t)) 7 (by omega) (by rw [b];exact h)⟩
   obtain ⟨o,n,a⟩:=a;clear hb hx;have h:=aqr s t 0 0 (ag s / ag t) (ag s % ag t) (ax (ag s)).length (BQ (ag s) (ag t) (ax (ag s)).length 0) o n;rw [b] at h;simp (disch:=first|omega|(simp [au,ay]<;>omega)) only [dG,bi,decide_true,jY,e,decide_false,dP,Xju,aC,k,Ll,Θ,j] at h;apply h<;>first|exact True.intro|omega|assumption|exact rfl|skip
   .refine az.blkF hloop (by simp) rfl ?_ (by rw [d];exact rG.refl _);unfold Vp;rw [Js,g,gI];exact rG.of ⟨aU.refl _,aU.refl _,aU.refl _,aU.nilS false rfl,aU.refl _,trivial⟩
theorem anw {nt:Nat} (c:25<=nt) (s t q r:List UInt8) (a:lit true (decide (((0:Nat):Int)<(((ζ t):Nat):Int)))=true) (b:CO 150 [.str s,.str t] (.ret (.tup [.str q,.str r,.bool true]))):ψ nt f149 ⟨[(0,.str s),(1,.str t)],[],.dead,[]⟩ (.normal) ⟨[(0,.str t),(1,.str r)],[],.dead,[]⟩:=pJ 149 [] 1 1 (.c a .nil) (.c b .nil) c
theorem anx {nt:Nat} (b:25<=nt) (s t q r:List UInt8) (a:lit false (decide (((0:Nat):Int)<(((ζ t):Nat):Int)))=true):ψ nt f149 ⟨[(0,.str s),(1,.str t)],[],.dead,[]⟩ (.exit 0) ⟨[(0,.str s)],[],.dead,[]⟩:=pJ 149 [] 1 0 (.c a .nil) (.nil) b
theorem anu (s t g:List UInt8) (a:CO 133 [.str s] (.ret (.str (ae (ag s))))) (c:CO 133 [.str t] (.ret (.str (ae (ag t))))) (b:aK prog ap [] 25 (.block 0 (.loop (af 0 (ah f149)))) ⟨[(0,.str (ae (ag s))),(1,.str (ae (ag t))),(4,.str []),(6,.dead),(14,.dead)],[],.dead,[]⟩ (.normal) ⟨[(0,.str g)],[],.dead,[]⟩):CO 149 [.str s,.str t] (.ret (.str g)):=pK [0] 0 0 .nil (.l b (.c c (.c a .nil)))
def anv (p:Nat × Nat):St:=⟨[(0,.str (ae p.1)),(1,.str (ae p.2))],[],.dead,[]⟩
def ae8 (x:Nat):St:=⟨[(0,.str (ae x))],[],.dead,[]⟩
theorem Vy {nt:Nat} (d:25<=nt):∀ (n y x:Nat),y<n->(ae x).length<2^33->(ae y).length<2^33->az prog ap [] nt (af 0 (ah f149)) (λ_=> .exit 0) anv ae8 (x,y) (Xxy x y):=by
 intro n
 induction n with
 |zero=>intro y x h;omega
 | succ n ih=>
  intro y x h g e;rcases Xqb y with rfl|h0
  .rw [Nat.gcd_zero_right];refine .done ?_;unfold anv ae8;rw [dC];exact anx d (ae x) [] [] [] rfl
  .have i:=Xqy x h0;have f:(ae (x % y)).length<2^33:=by
    have:x % y<=ag (ae y):=by rw [aG];omega
    have:=ni this;omega
   have hnext:=ih (x % y) y (by omega) e f;rw [show Xxy y (x % y)=Xxy x y by rw [Xkg y,<- Nat.gcd_rec,Xkg]] at hnext;refine .next ?_ hnext
   have b:=Ei (ae x) (ae y) g e (by rw [aG];exact h0);rw [aG,aG] at b;have c:ae y ≠ []:=λh=>by have:=fC.1 h;omega
   have a:0<(ae y).length:=by
    cases b:ae y with
    |nil=>exact absurd b c
    |cons _ _=>simp
   exact anw d (ae x) (ae y) _ _ (by rw [aZ,bD];exact Yq0 a) b
theorem TB (s t:List UInt8) (hs:s.length<2^33) (c:t.length<2^33):CO 149 [.str s,.str t] (.ret (.str (ae (Xxy (ag s) (ag t))))):=by
 have d:(ae (ag s)).length<=s.length:=ni (χ _);have b:(ae (ag t)).length<=t.length:=ni (χ _);exact anu s t _ (iy s (by omega)) (iy t (by omega)) (az.blk (λnt a=>Vy a (ag t+1) (ag t) (ag s) (by omega) (by omega) (by omega)) (by simp) rfl (aN.of ⟨rfl,rfl,trivial⟩) (aN.of ⟨rfl,trivial⟩))
theorem ams (a:Bool) (n d:List UInt8) (g:Nat) (b:lit true (!(nR n))=true) (c:CO 179 [.str n] (.ret (.bool (nR n)))) (e:CO 179 [.str d] (.ret (.bool (nR d)))):CO 137 [Ω a n d] (.ret (.bool false)):=pK [] 3 7 (.k 2 b (.n 2 .nil)) (.c e (.c c .nil))
theorem amu (a:Bool) (n d:List UInt8) (g:Nat) (b:lit true (!(nR d))=true) (e:lit false (!(nR n))=true) (c:CO 179 [.str n] (.ret (.bool (nR n)))) (f:CO 179 [.str d] (.ret (.bool (nR d)))):CO 137 [Ω a n d] (.ret (.bool false)):=pK [] 3 6 (.k 1 b (.c e (.n 2 .nil))) (.c f (.c c .nil))
theorem amv (a:Bool) (n d:List UInt8) (g:Nat) (c:lit true (d== [])=true) (f:lit false (!(nR d))=true) (b:lit false (!(nR n))=true) (e:CO 179 [.str n] (.ret (.bool (nR n)))) (h:CO 179 [.str d] (.ret (.bool (nR d)))):CO 137 [Ω a n d] (.ret (.bool false)):=pK [] 3 4 (.c c (.k 1 f (.c b (.n 2 .nil)))) (.c h (.c e .nil))
theorem amw (a:Bool) (n d:List UInt8) (g:Nat) (c:lit true (!a)=true) (k:lit true (n== [])=true) (b:lit false (d== [])=true) (h:lit false (!(nR d))=true) (j:lit false (!(nR n))=true) (i:CO 179 [.str n] (.ret (.bool (nR n)))) (l:CO 179 [.str d] (.ret (.bool (nR d)))) (e:CO 79 [ω 1] (.ret (.str (ae 1)))) (f:CO 101 [.str d,.str (ae 1)] (.ret (ω (nD (ag d) (ag (ae 1)))))):CO 137 [Ω a n d] (.ret (.bool ((nD (ag d) (ag (ae 1)))==((0:Nat):Int)))):=pK [] 5 24 (.k 1 c (.k 1 k (.k 1 b (.k 1 h (.c j (.n 2 .nil)))))) (.c f (.c e (.c l (.c i .nil))))
theorem amx (a:Bool) (n d:List UInt8) (g:Nat) (c:lit false (!a)=true) (i:lit true (n== [])=true) (b:lit false (d== [])=true) (e:lit false (!(nR d))=true) (h:lit false (!(nR n))=true) (f:CO 179 [.str n] (.ret (.bool (nR n)))) (j:CO 179 [.str d] (.ret (.bool (nR d)))):CO 137 [Ω a n d] (.ret (.bool false)):=pK [] 5 8 (.c c (.k 1 i (.k 1 b (.k 1 e (.c h (.n 2 .nil)))))) (.c j (.c f .nil))
theorem amy (a:Bool) (n d:List UInt8) (g:Nat) (c:lit false (n== [])=true) (k:lit false (d== [])=true) (b:lit false (!(nR d))=true) (i:lit false (!(nR n))=true) (j:CO 179 [.str n] (.ret (.bool (nR n)))) (l:CO 179 [.str d] (.ret (.bool (nR d)))) (e:CO 149 [.str n,.str d] (.ret (.str (ae g)))) (h:CO 79 [ω 1] (.ret (.str (ae 1)))) (f:CO 101 [.str (ae g),.str (ae 1)] (.ret (ω (nD (ag (ae g)) (ag (ae 1)))))):CO 137 [Ω a n d] (.ret (.bool ((nD (ag (ae g)) (ag (ae 1)))==((0:Nat):Int)))):=pK [] 4 0 (.k 2 c (.k 1 k (.k 1 b (.c i (.n 2 .nil))))) (.c f (.c h (.c e (.c l (.c j .nil)))))
theorem amn (a:Bool) (n d:List UInt8) (g:Nat) (b:lit true (n== [])=true) (c:CO 79 [ω 1] (.ret (.str (ae 1)))):CO 99 [.bool a,.str n,.str d] (.ret (Ω false [] (ae 1))):=pK [] 1 1 (.k 4 b .nil) (.c c .nil)
theorem amo (a:Bool) (n d:List UInt8) (g:Nat) (b:lit false (n== [])=true) (e:CO 149 [.str n,.str d] (.ret (.str (ae g)))) (f:CO 150 [.str n,.str (ae g)] (.ret (.tup [.str (ae (ag n / g)),.str (ae (ag n % g)),.bool true]))) (c:CO 150 [.str d,.str (ae g)] (.ret (.tup [.str (ae (ag d / g)),.str (ae (ag d % g)),.bool true]))):CO 99 [.bool a,.str n,.str d] (.ret (Ω a (ae (ag n / g)) (ae (ag d / g)))):=pK [] 1 0 (.k 4 b .nil) (.c c (.c f (.c e .nil)))
theorem amk (a:Bool) (n d:List UInt8) (b:lit true (decide ((((eu (ag n)):Nat):Int)<=((400:Nat):Int)))=true) (f:lit true (iW a n d)=true) (e:CO 137 [Ω a n d] (.ret (.bool (iW a n d)))) (g:CO 138 [.str n] (.ret (ω (((eu (ag n)):Nat):Int)))) (c:CO 138 [.str d] (.ret (ω (((eu (ag d)):Nat):Int)))):CO 81 [Ω a n d] (.ret (.bool (decide ((((eu (ag d)):Nat):Int)<=((400:Nat):Int))))):=pK [] 2 3 (.k 1 b (.k 1 f (.n 3 .nil))) (.c c (.c g (.c e .nil)))
theorem aml (a:Bool) (n d:List UInt8) (b:lit false (decide ((((eu (ag n)):Nat):Int)<=((400:Nat):Int)))=true) (e:lit true (iW a n d)=true) (c:CO 137 [Ω a n d] (.ret (.bool (iW a n d)))) (f:CO 138 [.str n] (.ret (ω (((eu (ag n)):Nat):Int)))):CO 81 [Ω a n d] (.ret (.bool false)):=pK [] 2 1 (.c b (.k 1 e (.n 3 .nil))) (.c f (.c c .nil))
theorem amm (a:Bool) (n d:List UInt8) (b:lit false (iW a n d)=true) (c:CO 137 [Ω a n d] (.ret (.bool (iW a n d)))):CO 81 [Ω a n d] (.ret (.bool false)):=pK [] 2 0 (.k 1 b (.n 3 .nil)) (.c c .nil)
theorem amC (a:Bool) (n d:List UInt8) (b:lit true (!(iW a n d))=true) (c:CO 137 [Ω a n d] (.ret (.bool (iW a n d)))) (e:CO 79 [ω 1] (.ret (.str (ae 1)))):CO 98 [Ω a n d] (.ret (Ω false [] (ae 1))):=pK [] 1 1 (.k 4 b (.n 3 .nil)) (.c e (.c c .nil))
theorem amD (a:Bool) (n d:List UInt8) (b:lit false (!(iW a n d))=true) (c:CO 137 [Ω a n d] (.ret (.bool (iW a n d)))):CO 98 [Ω a n d] (.ret (Ω a n d)):=pK [] 1 0 (.k 7 b (.n 3 .nil)) (.c c .nil)
theorem amq (v:Int) (x z:Nat) (a:lit true (decide (((0:Nat):Int)<=v))=true) (b:CO 79 [ω v] (.ret (.str (ae z)))) (c:CO 79 [ω 1] (.ret (.str (ae 1)))):CO 48 [ω v] (.ret (Ω false (ae z) (ae 1))):=pK [] 1 1 (.k 4 a .nil) (.c c (.c b .nil))
theorem amr (v:Int) (x z:Nat) (a:lit false (decide (((0:Nat):Int)<=v))=true) (d:CO 79 [ω (γ .i64 (0 - (γ .i64 (v+((1:Nat):Int)))))] (.ret (.str (ae z)))) (e:CO 79 [ω 1] (.ret (.str (ae 1)))) (b:CO 80 [.str (ae z),.str (ae 1)] (.ret (.str (ae x)))) (c:CO 79 [ω 1] (.ret (.str (ae 1)))):CO 48 [ω v] (.ret (Ω true (ae x) (ae 1))):=pK [] 1 0 (.k 4 a .nil) (.c c (.c b (.c e (.c d .nil))))
theorem amz (a g:Bool) (n d b e:List UInt8) (c:lit true (b== [])=true) (f:CO 98 [Ω a n d] (.ret (Ω g b e))):CO 141 [Ω a n d] (.ret (ω 0)):=pK [] 1 1 (.c c (.n 5 .nil)) (.c f .nil)
theorem amA (a c:Bool) (n d b f:List UInt8) (e:lit true c=true) (h:lit false (b== [])=true) (g:CO 98 [Ω a n d] (.ret (Ω c b f))):CO 141 [Ω a n d] (.ret (ω (-1))):=pK [] 2 2 (.c e (.k 1 h (.n 5 .nil))) (.c g .nil)
theorem amB (a c:Bool) (n d b f:List UInt8) (e:lit false c=true) (h:lit false (b== [])=true) (g:CO 98 [Ω a n d] (.ret (Ω c b f))):CO 141 [Ω a n d] (.ret (ω 1)):=pK [] 2 0 (.c e (.k 1 h (.n 5 .nil))) (.c g .nil)
theorem aiJ (s t:List UInt8) (x y z:Nat) (b:CO 134 [.str s,ω 7] (.ret (.tup [ω (x:Int),.bool true]))) (c:CO 134 [.str t,ω 7] (.ret (.tup [ω (y:Int),.bool true]))) (a:CO 79 [ω (γ .i64 ((x:Int)+(y:Int)))] (.ret (.str (ae z)))):CO 80 [.str s,.str t] (.ret (.str (ae z))):=pK [] 2 3 (.n 2 .nil) (.c a (.c c (.c b .nil)))
theorem aiK (s t:List UInt8) (x y z:Nat) (b:CO 134 [.str s,ω 3] (.ret (.tup [ω (x:Int),.bool true]))) (c:CO 134 [.str t,ω 4] (.ret (.tup [ω (y:Int),.bool true]))) (a:CO 79 [ω (γ .i64 ((x:Int)*(y:Int)))] (.ret (.str (ae z)))):CO 100 [.str s,.str t] (.ret (.str (ae z))):=pK [] 2 3 (.n 2 .nil) (.c a (.c c (.c b .nil)))
theorem TQ {x:Nat}:((nD x (ag (ae 1)))==((0:Nat):Int))=decide (x=1):=by
 rw [aG];unfold nD;rcases Xze x 1 with h|h|h
 .rw [if_pos h,Yq1 (by omega)];rfl
 .rw [if_neg (by omega),if_neg (by omega),Yq0 h];rfl
 .rw [if_neg (by omega),if_pos h,Yq1 (by omega)];rfl
theorem pX (a:Bool) (n d:List UInt8) (x:n.length<2^33) (hd:d.length<2^33):CO 137 [Ω a n d] (.ret (.bool (iW a n d))):=by
 have j:=Lr n;have i:=Lr d;have q:=lQ 1 (by omega);have w:(ae 1).length<=1:=bU (by omega);have u:=Le d (ae 1) (by omega) (by omega);have v:=TB n d x hd;have l:=@TQ (ag d);cases b:nR n with
 |false=>
  have e:iW a n d=false:=by unfold iW;rw [b];rfl
  rw [e];exact ams a n d 0 (by rw [b];rfl) j i
 | true=>
  cases c:nR d with
  |false=>
   have e:iW a n d=false:=by unfold iW;rw [c];simp
   rw [e];exact amu a n d 0 (by rw [c];rfl) (by rw [b];rfl) j i
  | true=>
   have s:=(nX n).1 b;have r:=(nX d).1 c;by_cases hd0:d= []
   .have e:iW a n d=false:=by
     subst hd0;unfold iW;simp [show ag []=0 from rfl]
    rw [e];exact amv a n d 0 (by rw [hd0];rfl) (by rw [c];rfl) (by rw [b];rfl) j i
   .have k:0<ag d:=by
     rcases Xqb (ag d) with h|h
     .rw [h,dC] at r;exact absurd r.symm hd0
     .exact h
    have g:(d== [])=false:=by simpa using hd0
    by_cases hn0:n= []
    .have f:(n== [])=true:=by simpa using hn0
     have o:ag n=0:=by rw [hn0];rfl
     cases a with
     | false=>
      have h:=amw false n d 0 rfl (by rw [f];rfl) (by rw [g];rfl) (by rw [c];rfl) (by rw [b];rfl) j i q u;rw [l] at h;have e:iW false n d=decide (ag d=1):=by
       rw [Xxj,lF,o,Xwv];simp [b,c];omega
      rw [e];exact h
     | true=>
      have h:=amx true n d 0 rfl (by rw [f];rfl) (by rw [g];rfl) (by rw [c];rfl) (by rw [b];rfl) j i;have e:iW true n d=false:=by
       rw [Bool.eq_false_iff];intro h;have:=(lF.1 h).2.2.2.2 rfl;omega
      rw [e];exact h
    .have f:(n== [])=false:=by simpa using hn0
     have p:0<ag n:=by
      rcases Xqb (ag n) with h|h
      .rw [h,dC] at s;exact absurd s.symm hn0
      .exact h
     have t:(ae (Xxy (ag n) (ag d))).length<=d.length:=ni (Xw6 _ k);have m:=Le (ae (Xxy (ag n) (ag d))) (ae 1) (by omega) (by omega);have h:=amy a n d (Xxy (ag n) (ag d)) (by rw [f];rfl) (by rw [g];rfl) (by rw [c];rfl) (by rw [b];rfl) j i v q m;rw [TQ,aG] at h;have e:iW a n d=decide (Xxy (ag n) (ag d)=1):=by
      rw [Xxj,lF];simp [b,c,k,p]
     rw [e];exact h
theorem mM (a:Bool) (n d:List UInt8) (g:n.length<2^33) (hd:d.length<2^33):CO 81 [Ω a n d] (.ret (.bool (d_ a n d))):=by
 have c:=pX a n d g hd;have e:=Oj n (by omega);have f:=Oj d (by omega);unfold d_;cases b:iW a n d with
 |false=>exact amm a n d (by rw [b];rfl) c
 | true=>
  by_cases h3:eu (ag n)<=400
  .have h:=amk a n d (by rw [dG,Yq0 h3];rfl) (by rw [b];rfl) c e f;rw [dG] at h;rw [Yq0 h3];exact h
  .have h:=aml a n d (by rw [dG,Yq1 h3];rfl) (by rw [b];rfl) c e;rw [Yq1 h3];exact h
structure RQ where
 neg:Bool
 n:Nat
 d:Nat
def RQ.ok (q:RQ):Prop:=0<q.d/\Xxy q.n q.d=1/\(q.neg=true->0<q.n)
def qA (q:RQ):AV:= .agg [.bool q.neg,.str (ae q.n),.str (ae q.d)]
def q0:RQ:=⟨false,0,1⟩
def fZ (neg:Bool) (n d:Nat):RQ:=⟨neg && decide (0<n),n / Xxy n d,d / Xxy n d⟩
def vQ (neg:Bool) (n d:List UInt8):RQ:=if iW neg n d=true then ⟨neg,ag n,ag d⟩ else q0
theorem vX:q0.ok:=⟨by decide,by decide,by simp [q0]⟩
theorem pI (q:RQ) (h:q.ok):iW q.neg (ae q.n) (ae q.d)=true:=by
 rw [lF,aG,aG];exact ⟨wY _,wY _,h⟩
theorem Sj {a:Bool} {n d:List UInt8} (h:iW a n d=true):Ω a n d=qA ⟨a,ag n,ag d⟩:=by
 obtain ⟨c,b,_⟩:=lF.1 h;unfold qA;rw [(nX n).1 c,(nX d).1 b]
theorem jJ (a:Bool) (n d:List UInt8):(vQ a n d).ok:=by
 unfold vQ;split
 .rename_i h;obtain ⟨_,_,c,e,b⟩:=lF.1 h;exact ⟨c,e,b⟩
 .exact vX
theorem mX {b:Bool} {n d:Nat} (h:0<d):(fZ b n d).ok:=by
 have a:0<Xxy n d:=Xj6 _ h;refine ⟨Xvf (Xw6 _ h) a, ?_, ?_⟩
 .show Xxy (n / Xxy n d) (d / Xxy n d)=1;rw [Nat.gcd_div (Nat.gcd_dvd_left _ _) (Nat.gcd_dvd_right _ _),Yxs a]
 .intro c;have:0<n:=by simp [fZ] at c;exact c.2
  exact Xvf (Nat.gcd_le_left _ this) a
theorem jg (a:Bool) (n d:List UInt8) (e:n.length<2^33) (hd:d.length<2^33):CO 98 [Ω a n d] (.ret (qA (vQ a n d))):=by
 have c:=pX a n d e hd;unfold vQ;cases b:iW a n d with
 |false=>
  have h:=amC a n d (by rw [b];rfl) c (lQ 1 (by omega));rw [if_neg (by simp)];unfold qA q0;rw [dC];exact h
 |true=>
  have h:=amD a n d (by rw [b];rfl) c;rw [if_pos rfl,<- Sj b];exact h
theorem pW (a:Bool) (n d:Nat) (i:(ae n).length<2^33) (hd:(ae d).length<2^33) (c:0<d):CO 99 [.bool a,.str (ae n),.str (ae d)] (.ret (qA (fZ a n d))):=by
 have j:=TB (ae n) (ae d) i hd;rw [aG,aG] at j;have b:0<Xxy n d:=Xj6 _ c;have k:(ae (Xxy n d)).length<=(ae d).length:=ni (by rw [aG];exact Xw6 _ c);have f:=Ei (ae n) (ae (Xxy n d)) i (by omega) (by rw [aG];exact b);have g:=Ei (ae d) (ae (Xxy n d)) hd (by omega) (by rw [aG];exact b);simp only [aG] at f g;rcases Xqb n with rfl|hp
 .have h:=amn a (ae 0) (ae d) 0 (by rw [dC];rfl) (lQ 1 (by omega));unfold qA fZ;simp only [Xv3,decide_false,Bool.and_false,Xwv,Nat.zero_div,Yxs c,dC];rw [dC] at h;exact h
 .have e:ae n ≠ []:=λh=>by have:=fC.1 h;omega
  have h:=amo a (ae n) (ae d) (Xxy n d) (by simp [lit,e]);simp only [aG] at h;unfold qA fZ;simp only [hp,decide_true,Bool.and_true];exact h j f g
def jk (q:RQ):Int:=if q.n=0 then 0 else if q.neg then -1 else 1
theorem G_ (a:Bool) (n d:List UInt8):jd a n d=jk (vQ a n d):=by
 unfold jd jk vQ;cases c:iW a n d with
 |false=>simp [q0]
 | true=>
  simp only [true_and,if_true];by_cases h:0<ag n
  .have b:¬ ag n=0:=by omega
   simp [h,b]
  .have b:ag n=0:=by omega
   simp [b]
theorem BP (a:Bool) (n d:List UInt8) (g:n.length<2^33) (hd:d.length<2^33):CO 141 [Ω a n d] (.ret (ω (jd a n d))):=by
 have c:=jg a n d g hd;rw [G_];generalize vQ a n d=q at*
 obtain ⟨f,N,D⟩:=q;unfold qA at c;unfold jk;simp only at c ⊢;rcases Xqb N with rfl|hp
 .rw [if_pos rfl];exact amz a f n d (ae 0) (ae D) (by rw [dC];rfl) c
 .have e:ae N ≠ []:=λh=>by have:=fC.1 h;omega
  have b:(ae N== [])=false:=by simpa using e
  rw [if_neg (by omega)];cases f with
  |true=>exact amA a true n d (ae N) (ae D) rfl (by rw [b];rfl) c
  |false=>exact amB a false n d (ae N) (ae D) rfl (by rw [b];rfl) c
def vw (neg:Bool) (n d:List UInt8) (a:Nat):Bool:=((neg==false) && ((n==(ae a)) && ((d==(ae 1)) && true)))
theorem IB (a:Nat) (b:a<9223372036854775808):CO 48 [ω (a:Int)] (.ret (Oi false a 1)):=
 amq (a:Int) 0 a (by simp [lit]) (lQ a b) (lQ 1 (by omega))
theorem vZ:CO 48 [ω 0] (.ret (Oi false 0 1)):=IB 0 (by omega)
theorem Ai:CO 48 [ω 1] (.ret (Oi false 1 1)):=IB 1 (by omega)
def Uo:List UInt8:= [97,98,99,100,101,102,103,104,105,106,107,108,109,110,111,112,113,114,115,116,117,118,119,120,121,122,48,49,50,51,52,53,54,55,56,57,95]
def JP:List AV:= [.bool false,.bool false,.bool false,.bool false,.bool false,.bool false,.bool false,.bool false,.bool false,.bool false,.bool false,.bool false,.bool false,.bool false,.bool false,.bool false,.bool false,.bool false,.bool false,.bool false,.bool false,.bool false,.bool false,.bool false,.bool false,.bool false,.bool false,.bool false,.bool false,.bool false,.bool false,.bool false,.bool false,.bool false,.bool false,.bool false,.bool false,.bool false,.bool false,.bool false,.bool false,.bool false,.bool false,.bool false,.bool false,.bool false,.bool false,.bool false,.bool true,.bool true,.bool true,.bool true,.bool true,.bool true,.bool true,.bool true,.bool true,.bool true,.bool false,.bool false,.bool false,.bool false,.bool false,.bool false,.bool false,.bool false,.bool false,.bool false,.bool false,.bool false,.bool false,.bool false,.bool false,.bool false,.bool false,.bool false,.bool false,.bool false,.bool false,.bool false,.bool false,.bool false,.bool false,.bool false,.bool false,.bool false,.bool false,.bool false,.bool false,.bool false,.bool false,.bool false,.bool false,.bool false,.bool false,.bool true,.bool false,.bool true,.bool true,.bool true,.bool true,.bool true,.bool true,.bool true,.bool true,.bool true,.bool true,.bool true,.bool true,.bool true,.bool true,.bool true,.bool true,.bool true,.bool true,.bool true,.bool true,.bool true,.bool true,.bool true,.bool true,.bool true,.bool true,.bool false,.bool false,.bool false,.bool false,.bool false,.bool false,.bool false,.bool false,.bool false,.bool false,.bool false,.bool false,.bool false,.bool false,.bool false,.bool false,.bool false,.bool false,.bool false,.bool false,.bool false,.bool false,.bool false,.bool false,.bool false,.bool false,.bool false,.bool false,.bool false,.bool false,.bool false,.bool false,.bool false,.bool false,.bool false,.bool false,.bool false,.bool false,.bool false,.bool false,.bool false,.bool false,.bool false,.bool false,.bool false,.bool false,.bool false,.bool false,.bool false,.bool false,.bool false,.bool false,.bool false,.bool false,.bool false,.bool false,.bool false,.bool false,.bool false,.bool false,.bool false,.bool false,.bool false,.bool false,.bool false,.bool false,.bool false,.bool false,.bool false,.bool false,.bool false,.bool false,.bool false,.bool false,.bool false,.bool false,.bool false,.bool false,.bool false,.bool false,.bool false,.bool false,.bool false,.bool false,.bool false,.bool false,.bool false,.bool false,.bool false,.bool false,.bool false,.bool false,.bool false,.bool false,.bool false,.bool false,.bool false,.bool false,.bool false,.bool false,.bool false,.bool false,.bool false,.bool false,.bool false,.bool false,.bool false,.bool false,.bool false,.bool false,.bool false,.bool false,.bool false,.bool false,.bool false,.bool false,.bool false,.bool false,.bool false,.bool false,.bool false,.bool false,.bool false,.bool false,.bool false,.bool false,.bool false,.bool false,.bool false,.bool false,.bool false,.bool false,.bool false]
theorem afI:CO 193 [.str Uo] (.ret (.tup [.agg JP,.bool true])):=mD vJ (lf:=3000) (n:=4) (ans:= []) .nil (by kernel_rfl)
theorem ajW (xs:List AV) (c:Nat) (b:(chk .bool (θ (ε (0+((δ (c:Int))*1)) xs) .dead))=true) (d:(decide (((0:Nat):Int)<=(c:Int)))=true) (a:(decide ((c:Int)<((256:Nat):Int)))=true):CO 212 [.pp xs 0,.int .u8 (c:Int)] (.ret (.bool (Xkj (θ (ε (0+((δ (c:Int))*1)) xs) .dead)))):=pK [] 0 0 (.c b (.c d (.c a .nil))) (.nil)
theorem aqQ {nt:Nat} (e:16<=nt) (s:List UInt8) (xs:List AV) (b:Bool) (c:lit true (!b)=true) (f:(decide (((0:Nat):Int)<(((ζ s):Nat):Int)))=true) (a:lit true (decide (((0:Nat):Int)<(((ζ s):Nat):Int)))=true) (d:CO 212 [.pp xs 0,.int .u8 ((Xqd (Xqp s 0 0):Nat):Int)] (.ret (.bool b))):ψ nt f194 ⟨[(0,.str s),(1,.pp xs 0)],[],.dead,[]⟩ (.exit 0) ⟨[(0,.str s)],[],.dead,[]⟩:=pJ 194 [] 2 3 (.c c (.k 1 f (.c a .nil))) (.c d .nil) e
theorem aqR {nt:Nat} (g:16<=nt) (s:List UInt8) (xs:List AV) (b:Bool) (c:(decide (((1:Nat):Int)<=(((ζ s):Nat):Int)))=true) (h:(decide ((((ζ s):Nat):Int)<=(((ζ s):Nat):Int)))=true) (a:lit false (!b)=true) (d:(decide (((0:Nat):Int)<(((ζ s):Nat):Int)))=true) (f:lit true (decide (((0:Nat):Int)<(((ζ s):Nat):Int)))=true) (e:CO 212 [.pp xs 0,.int .u8 ((Xqd (Xqp s 0 0):Nat):Int)] (.ret (.bool b))):ψ nt f194 ⟨[(0,.str s),(1,.pp xs 0)],[],.dead,[]⟩ (.normal) ⟨[(0,.str (ε 1 (κ (δ (((ζ s):Nat):Int)) s))),(1,.pp xs 0)],[],.dead,[]⟩:=pJ 194 [] 2 1 (.k 1 c (.c h (.c a (.k 1 d (.c f .nil))))) (.c e .nil) g
theorem aqS {nt:Nat} (c:16<=nt) (s:List UInt8) (xs:List AV) (b:Bool) (a:lit false (decide (((0:Nat):Int)<(((ζ s):Nat):Int)))=true):ψ nt f194 ⟨[(0,.str s),(1,.pp xs 0)],[],.dead,[]⟩ (.exit 0) ⟨[(0,.str s)],[],.dead,[]⟩:=pJ 194 [] 1 0 (.c a .nil) (.nil) c
theorem aoE (s r:List UInt8) (xs:List AV) (a:aK prog ap [] 16 (.block 0 (.loop (af 0 (ah f194)))) ⟨[(0,.str s),(1,.pp xs 0),(4,.str []),(7,.dead),(12,.dead)],[],.dead,[]⟩ (.normal) ⟨[(0,.str r)],[],.dead,[]⟩):CO 194 [.str s,.pp xs 0] (.ret (.str r)):=pK [0] 0 0 .nil (.l a .nil)
theorem aqT {nt:Nat} (f:22<=nt) (s:List UInt8) (xs:List AV) (b:Bool) (c:lit true (!b)=true) (g:(decide (((0:Nat):Int)<=(γ .i64 ((((ζ s):Nat):Int) - ((1:Nat):Int)))))=true) (a:(decide ((γ .i64 ((((ζ s):Nat):Int) - ((1:Nat):Int)))<(((ζ s):Nat):Int)))=true) (d:lit true (decide (((0:Nat):Int)<(((ζ s):Nat):Int)))=true) (e:CO 212 [.pp xs 0,.int .u8 ((Xqd (Xqp s (δ (γ .i64 ((((ζ s):Nat):Int) - ((1:Nat):Int)))) 0):Nat):Int)] (.ret (.bool b))):ψ nt f197 ⟨[(0,.str s),(1,.pp xs 0)],[],.dead,[]⟩ (.exit 0) ⟨[(0,.str s)],[],.dead,[]⟩:=pJ 197 [] 2 3 (.c c (.c g (.c a (.c d .nil)))) (.c e .nil) f
theorem aqU {nt:Nat} (g:22<=nt) (s:List UInt8) (xs:List AV) (b:Bool) (a:(decide (((0:Nat):Int)<=(γ .i64 ((((ζ s):Nat):Int) - ((1:Nat):Int)))))=true) (h:(decide ((γ .i64 ((((ζ s):Nat):Int) - ((1:Nat):Int)))<=(((ζ s):Nat):Int)))=true) (c:lit false (!b)=true) (d:(decide ((γ .i64 ((((ζ s):Nat):Int) - ((1:Nat):Int)))<(((ζ s):Nat):Int)))=true) (f:lit true (decide (((0:Nat):Int)<(((ζ s):Nat):Int)))=true) (e:CO 212 [.pp xs 0,.int .u8 ((Xqd (Xqp s (δ (γ .i64 ((((ζ s):Nat):Int) - ((1:Nat):Int)))) 0):Nat):Int)] (.ret (.bool b))):ψ nt f197 ⟨[(0,.str s),(1,.pp xs 0)],[],.dead,[]⟩ (.normal) ⟨[(0,.str (ε 0 (κ (δ (γ .i64 ((((ζ s):Nat):Int) - ((1:Nat):Int)))) s))),(1,.pp xs 0)],[],.dead,[]⟩:=pJ 197 [] 2 1 (.k 1 a (.c h (.c c (.c a (.c d (.c f .nil)))))) (.c e .nil) g
theorem aqV {nt:Nat} (c:22<=nt) (s:List UInt8) (xs:List AV) (b:Bool) (a:lit false (decide (((0:Nat):Int)<(((ζ s):Nat):Int)))=true):ψ nt f197 ⟨[(0,.str s),(1,.pp xs 0)],[],.dead,[]⟩ (.exit 0) ⟨[(0,.str s)],[],.dead,[]⟩:=pJ 197 [] 1 0 (.c a .nil) (.nil) c
theorem aoH (s r:List UInt8) (xs:List AV) (a:aK prog ap [] 22 (.block 0 (.loop (af 0 (ah f197)))) ⟨[(0,.str s),(1,.pp xs 0),(4,.str []),(7,.dead),(15,.dead)],[],.dead,[]⟩ (.normal) ⟨[(0,.str r)],[],.dead,[]⟩):CO 197 [.str s,.pp xs 0] (.ret (.str r)):=pK [0] 0 0 .nil (.l a .nil)
def afG:List Bool:= [false,false,false,false,false,false,false,false,false,false,false,false,false,false,false,false,false,false,false,false,false,false,false,false,false,false,false,false,false,false,false,false,false,false,false,false,false,false,false,false,false,false,false,false,false,false,false,false,true,true,true,true,true,true,true,true,true,true,false,false,false,false,false,false,false,false,false,false,false,false,false,false,false,false,false,false,false,false,false,false,false,false,false,false,false,false,false,false,false,false,false,false,false,false,false,true,false,true,true,true,true,true,true,true,true,true,true,true,true,true,true,true,true,true,true,true,true,true,true,true,true,true,true,false,false,false,false,false,false,false,false,false,false,false,false,false,false,false,false,false,false,false,false,false,false,false,false,false,false,false,false,false,false,false,false,false,false,false,false,false,false,false,false,false,false,false,false,false,false,false,false,false,false,false,false,false,false,false,false,false,false,false,false,false,false,false,false,false,false,false,false,false,false,false,false,false,false,false,false,false,false,false,false,false,false,false,false,false,false,false,false,false,false,false,false,false,false,false,false,false,false,false,false,false,false,false,false,false,false,false,false,false,false,false,false,false,false,false,false,false,false,false,false,false,false,false,false,false,false,false,false,false,false,false,false,false]
theorem afH:JP=afG.map AV.bool:=rfl
def inN (c:Nat):Bool:=(decide (97<=c) && decide (c<=122))||(decide (48<=c) && decide (c<=57))||decide (c=95)
def iK (c:UInt8):Bool:=inN c.toNat
theorem aaH:∀ i:Fin 256,afG.getD i.val false=inN i.val:=by decide
theorem WY (c:UInt8):CO 212 [.pp JP 0,.int .u8 (c.toNat:Int)] (.ret (.bool (iK c))):=by
 have b:c.toNat<256:=Xvq c;have e:afG.length=256:=by decide
 have d:θ (ε c.toNat JP) .dead= .bool (iK c):=by
  have a:=aaH ⟨c.toNat,b⟩;simp only at a;rw [afH,<- List.map_drop,Xxs (by omega),Xqg,List.headD_cons];rw [ξ,π (by omega)] at a;unfold iK;rw [<- a];rfl
 have h:=ajW JP c.toNat;rw [aC,Ψ,Θ,d] at h;exact h rfl (by rw [dG];exact Yq0 (by omega)) (by rw [aZ];exact Yq0 b)
def aoe (s:List UInt8):St:=⟨[(0,.str s),(1,.pp JP 0)],[],.dead,[]⟩
def ae_ (s:List UInt8):St:=⟨[(0,.str s)],[],.dead,[]⟩
theorem aej {nt:Nat} (a:16<=nt):∀ (s:List UInt8),s.length<2^40->az prog ap [] nt (af 0 (ah f194)) (λ_=> .exit 0) aoe ae_ s (s.dropWhile iK):=by
 intro s
 induction s with
 |nil=>exact λ_=> .done (aqS a [] JP true rfl)
 | cons c s ih=>
  intro e;simp only [ν] at e;rw [Xx8];have d:=WY c;cases b:iK c with
  |true=>
   rw [b] at d;refine .next ?_ (by simpa using ih (by omega))
   have h:=aqR a (c::s) JP true;have f:ε 1 (κ (s.length+1) (c::s))=s:=by simp
   simp only [ν,Xj4] at h;simp (disch:=first|omega|(simp [au,ay]<;>omega)) only [dG,bi,Xwo,dP,Xju,aZ,bD,aC,f] at h;apply h<;>first|exact True.intro|omega|assumption|exact rfl
  |false=>
   rw [b] at d;refine .done ?_;have h:=aqQ a (c::s) JP false;simp only [ν,Xj4] at h;simp (disch:=first|omega|(simp [au,ay]<;>omega)) only [Xju,bD,aZ,bi] at h;apply h<;>first|exact True.intro|omega|assumption|exact rfl
def ZW (s:List UInt8):List UInt8:=(s.reverse.dropWhile iK).reverse
theorem ZX (s:List UInt8) (c:UInt8):ZW (s++ [c])=if iK c=true then ZW s else s++ [c]:=by
 unfold ZW;rw [List.reverse_append];simp only [List.reverse_cons,List.reverse_nil,Xqi,Xqt,Xx8];by_cases h:iK c=true
 .simp [h]
 .simp [h]
theorem aep {nt:Nat} (d:22<=nt):∀ (k:Nat) (s:List UInt8),s.length=k->k<2^40->az prog ap [] nt (af 0 (ah f197)) (λ_=> .exit 0) aoe ae_ s (ZW s):=by
 intro k
 induction k with
 |zero=>
  intro s hs _;have:s= []:=Xxz hs;subst this;exact .done (aqV d [] JP true rfl)
 | succ k ih=>
  intro s hs j;rcases List.eq_nil_or_concat s with rfl|⟨s',c,rfl⟩
  .simp at hs
  .rw [List.concat_eq_append] at hs ⊢;have a:s'.length=k:=by simpa using hs
   rw [ZX];have f:=WY c;have g:(s'++ [c]).getD s'.length 0=c:=by simp
   have i:s'.length+1 - 1=s'.length:=rfl;have b:κ s'.length (s'++ [c])=s':=by simp
   cases e:iK c with
   |true=>
    rw [e] at f;rw [if_pos rfl];refine .next ?_ (ih s' a (by omega))
    have h:=aqU d (s'++ [c]) JP true;simp (disch:=first|omega|(simp [au,ay]<;>omega)) only [η,ν,Xqf,Ψ,kH,i,dG,bi,Xwo,dP,Xju,aZ,bD,aC,g,b,Xjt] at h;apply h<;>first|exact True.intro|omega|assumption|exact rfl
   |false=>
    rw [e] at f;rw [if_neg (by simp)];refine .done ?_;have h:=aqT d (s'++ [c]) JP false;simp (disch:=first|omega|(simp [au,ay]<;>omega)) only [Xju,bD,η,ν,Xqf,Ψ,kH,i,dG,bi,aZ,aC,g] at h;apply h<;>first|exact True.intro|omega|assumption|exact rfl
theorem aeq (s u v:List UInt8) (a:lit true (s== [])=true):CO 164 [.str s,.str Uo] (.ret (.str s)):=pK [] 2 3 (.k 1 a .nil) (.nil)
theorem aer (s u v:List UInt8) (a:lit false (s== [])=true) (c:CO 193 [.str Uo] (.ret (.tup [.agg JP,.bool true]))) (d:CO 197 [.str s,.pp JP 0] (.ret (.str u))) (b:CO 194 [.str u,.pp JP 0] (.ret (.str v))):CO 164 [.str s,.str Uo] (.ret (.str v)):=pK [] 5 16 (.k 5 a .nil) (.c b (.c d (.c c .nil)))
theorem ach (s v:List UInt8) (a:lit true (s== [])=true):CO 122 [.str s] (.ret (.bool false)):=pK [] 4 15 (.k 3 a .nil) (.nil)
theorem aci (s v:List UInt8) (a:lit true (decide (((20:Nat):Int)<(((ζ s):Nat):Int)))=true) (b:lit false (s== [])=true):CO 122 [.str s] (.ret (.bool false)):=pK [] 4 14 (.k 2 a (.c b .nil)) (.nil)
theorem acj (s v:List UInt8) (b:lit true (decide (((Xqd (Xqp s 0 0):Nat):Int)<((97:Nat):Int)))=true) (d:(decide (((0:Nat):Int)<(((ζ s):Nat):Int)))=true) (a:lit false (decide (((20:Nat):Int)<(((ζ s):Nat):Int)))=true) (c:lit false (s== [])=true):CO 122 [.str s] (.ret (.bool false)):=pK [] 4 12 (.k 1 b (.k 1 d (.c a (.c c .nil)))) (.nil)
theorem ack (s v:List UInt8) (c:lit true (decide (((122:Nat):Int)<((Xqd (Xqp s 0 0):Nat):Int)))=true) (a:(decide (((0:Nat):Int)<(((ζ s):Nat):Int)))=true) (b:lit false (decide (((Xqd (Xqp s 0 0):Nat):Int)<((97:Nat):Int)))=true) (d:lit false (decide (((20:Nat):Int)<(((ζ s):Nat):Int)))=true) (e:lit false (s== [])=true):CO 122 [.str s] (.ret (.bool false)):=pK [] 4 8 (.c c (.k 1 a (.c b (.k 1 a (.c d (.c e .nil)))))) (.nil)
theorem acl (s v:List UInt8) (c:lit false (decide (((122:Nat):Int)<((Xqd (Xqp s 0 0):Nat):Int)))=true) (a:(decide (((0:Nat):Int)<(((ζ s):Nat):Int)))=true) (b:lit false (decide (((Xqd (Xqp s 0 0):Nat):Int)<((97:Nat):Int)))=true) (d:lit false (decide (((20:Nat):Int)<(((ζ s):Nat):Int)))=true) (f:lit false (s== [])=true) (e:CO 164 [.str s,.str Uo] (.ret (.str v))):CO 122 [.str s] (.ret (.bool (v== []))):=pK [] 4 0 (.c c (.k 1 a (.c b (.k 1 a (.c d (.c f .nil)))))) (.c e .nil)
theorem anD {nt:Nat} (f:50<=nt) (s:List UInt8) (k:Nat) (b:lit true (!(((Xqd (Xqp s (δ (k:Int)) 0):Nat):Int)==((95:Nat):Int)))=true) (g:lit true (decide (((Xqd (Xqp s (δ (k:Int)) 0):Nat):Int)<((48:Nat):Int)))=true) (a:lit true (decide (((Xqd (Xqp s (δ (k:Int)) 0):Nat):Int)<((97:Nat):Int)))=true) (d:(decide (((0:Nat):Int)<=(k:Int)))=true) (e:(decide ((k:Int)<(((ζ s):Nat):Int)))=true) (c:lit true (decide ((k:Int)<(((ζ s):Nat):Int)))=true):ψ nt f84 ⟨[(0,.str s),(3,ω (k:Int))],[],.dead,[]⟩ (.ret) ⟨[(2,.bool false)],[],.dead,[]⟩:=pJ 84 [] 6 63 (.c b (.k 1 g (.k 1 a (.c d (.c e (.c c .nil)))))) (.nil) f
theorem anE {nt:Nat} (f:50<=nt) (s:List UInt8) (k:Nat) (b:lit false (!(((Xqd (Xqp s (δ (k:Int)) 0):Nat):Int)==((95:Nat):Int)))=true) (g:lit true (decide (((Xqd (Xqp s (δ (k:Int)) 0):Nat):Int)<((48:Nat):Int)))=true) (a:lit true (decide (((Xqd (Xqp s (δ (k:Int)) 0):Nat):Int)<((97:Nat):Int)))=true) (d:(decide (((0:Nat):Int)<=(k:Int)))=true) (e:(decide ((k:Int)<(((ζ s):Nat):Int)))=true) (c:lit true (decide ((k:Int)<(((ζ s):Nat):Int)))=true):ψ nt f84 ⟨[(0,.str s),(3,ω (k:Int))],[],.dead,[]⟩ (.normal) ⟨[(0,.str s),(3,ω (γ .i64 ((k:Int)+((1:Nat):Int))))],[],.dead,[]⟩:=pJ 84 [] 6 31 (.c b (.k 1 g (.k 1 a (.c d (.c e (.c c .nil)))))) (.nil) f
theorem anF {nt:Nat} (g:50<=nt) (s:List UInt8) (k:Nat) (c:lit true (!(((Xqd (Xqp s (δ (k:Int)) 0):Nat):Int)==((95:Nat):Int)))=true) (h:lit true (decide (((57:Nat):Int)<((Xqd (Xqp s (δ (k:Int)) 0):Nat):Int)))=true) (a:lit false (decide (((Xqd (Xqp s (δ (k:Int)) 0):Nat):Int)<((48:Nat):Int)))=true) (e:lit true (decide (((Xqd (Xqp s (δ (k:Int)) 0):Nat):Int)<((97:Nat):Int)))=true) (f:(decide (((0:Nat):Int)<=(k:Int)))=true) (d:(decide ((k:Int)<(((ζ s):Nat):Int)))=true) (b:lit true (decide ((k:Int)<(((ζ s):Nat):Int)))=true):ψ nt f84 ⟨[(0,.str s),(3,ω (k:Int))],[],.dead,[]⟩ (.ret) ⟨[(2,.bool false)],[],.dead,[]⟩:=pJ 84 [] 6 55 (.c c (.c h (.c a (.k 1 e (.c f (.c d (.c b .nil))))))) (.nil) g
theorem anG {nt:Nat} (g:50<=nt) (s:List UInt8) (k:Nat) (c:lit false (!(((Xqd (Xqp s (δ (k:Int)) 0):Nat):Int)==((95:Nat):Int)))=true) (h:lit true (decide (((57:Nat):Int)<((Xqd (Xqp s (δ (k:Int)) 0):Nat):Int)))=true) (a:lit false (decide (((Xqd (Xqp s (δ (k:Int)) 0):Nat):Int)<((48:Nat):Int)))=true) (e:lit true (decide (((Xqd (Xqp s (δ (k:Int)) 0):Nat):Int)<((97:Nat):Int)))=true) (f:(decide (((0:Nat):Int)<=(k:Int)))=true) (d:(decide ((k:Int)<(((ζ s):Nat):Int)))=true) (b:lit true (decide ((k:Int)<(((ζ s):Nat):Int)))=true):ψ nt f84 ⟨[(0,.str s),(3,ω (k:Int))],[],.dead,[]⟩ (.normal) ⟨[(0,.str s),(3,ω (γ .i64 ((k:Int)+((1:Nat):Int))))],[],.dead,[]⟩:=pJ 84 [] 6 23 (.c c (.c h (.c a (.k 1 e (.c f (.c d (.c b .nil))))))) (.nil) g
theorem anH {nt:Nat} (f:50<=nt) (s:List UInt8) (k:Nat) (b:lit false (decide (((57:Nat):Int)<((Xqd (Xqp s (δ (k:Int)) 0):Nat):Int)))=true) (g:lit false (decide (((Xqd (Xqp s (δ (k:Int)) 0):Nat):Int)<((48:Nat):Int)))=true) (a:lit true (decide (((Xqd (Xqp s (δ (k:Int)) 0):Nat):Int)<((97:Nat):Int)))=true) (d:(decide (((0:Nat):Int)<=(k:Int)))=true) (e:(decide ((k:Int)<(((ζ s):Nat):Int)))=true) (c:lit true (decide ((k:Int)<(((ζ s):Nat):Int)))=true):ψ nt f84 ⟨[(0,.str s),(3,ω (k:Int))],[],.dead,[]⟩ (.normal) ⟨[(0,.str s),(3,ω (γ .i64 ((k:Int)+((1:Nat):Int))))],[],.dead,[]⟩:=pJ 84 [] 6 7 (.k 1 b (.c g (.k 1 a (.c d (.c e (.c c .nil)))))) (.nil) f
theorem anI {nt:Nat} (g:50<=nt) (s:List UInt8) (k:Nat) (c:lit true (!(((Xqd (Xqp s (δ (k:Int)) 0):Nat):Int)==((95:Nat):Int)))=true) (h:lit true (decide (((Xqd (Xqp s (δ (k:Int)) 0):Nat):Int)<((48:Nat):Int)))=true) (a:lit true (decide (((122:Nat):Int)<((Xqd (Xqp s (δ (k:Int)) 0):Nat):Int)))=true) (e:lit false (decide (((Xqd (Xqp s (δ (k:Int)) 0):Nat):Int)<((97:Nat):Int)))=true) (f:(decide (((0:Nat):Int)<=(k:Int)))=true) (d:(decide ((k:Int)<(((ζ s):Nat):Int)))=true) (b:lit true (decide ((k:Int)<(((ζ s):Nat):Int)))=true):ψ nt f84 ⟨[(0,.str s),(3,ω (k:Int))],[],.dead,[]⟩ (.ret) ⟨[(2,.bool false)],[],.dead,[]⟩:=pJ 84 [] 6 61 (.c c (.k 1 h (.c a (.c e (.c f (.c d (.c b .nil))))))) (.nil) g
theorem anJ {nt:Nat} (g:50<=nt) (s:List UInt8) (k:Nat) (c:lit false (!(((Xqd (Xqp s (δ (k:Int)) 0):Nat):Int)==((95:Nat):Int)))=true) (h:lit true (decide (((Xqd (Xqp s (δ (k:Int)) 0):Nat):Int)<((48:Nat):Int)))=true) (a:lit true (decide (((122:Nat):Int)<((Xqd (Xqp s (δ (k:Int)) 0):Nat):Int)))=true) (e:lit false (decide (((Xqd (Xqp s (δ (k:Int)) 0):Nat):Int)<((97:Nat):Int)))=true) (f:(decide (((0:Nat):Int)<=(k:Int)))=true) (d:(decide ((k:Int)<(((ζ s):Nat):Int)))=true) (b:lit true (decide ((k:Int)<(((ζ s):Nat):Int)))=true):ψ nt f84 ⟨[(0,.str s),(3,ω (k:Int))],[],.dead,[]⟩ (.normal) ⟨[(0,.str s),(3,ω (γ .i64 ((k:Int)+((1:Nat):Int))))],[],.dead,[]⟩:=pJ 84 [] 6 29 (.c c (.k 1 h (.c a (.c e (.c f (.c d (.c b .nil))))))) (.nil) g
theorem anK {nt:Nat} (h:50<=nt) (s:List UInt8) (k:Nat) (c:lit true (!(((Xqd (Xqp s (δ (k:Int)) 0):Nat):Int)==((95:Nat):Int)))=true) (i:lit true (decide (((57:Nat):Int)<((Xqd (Xqp s (δ (k:Int)) 0):Nat):Int)))=true) (a:lit false (decide (((Xqd (Xqp s (δ (k:Int)) 0):Nat):Int)<((48:Nat):Int)))=true) (f:lit true (decide (((122:Nat):Int)<((Xqd (Xqp s (δ (k:Int)) 0):Nat):Int)))=true) (g:lit false (decide (((Xqd (Xqp s (δ (k:Int)) 0):Nat):Int)<((97:Nat):Int)))=true) (d:(decide (((0:Nat):Int)<=(k:Int)))=true) (b:(decide ((k:Int)<(((ζ s):Nat):Int)))=true) (e:lit true (decide ((k:Int)<(((ζ s):Nat):Int)))=true):ψ nt f84 ⟨[(0,.str s),(3,ω (k:Int))],[],.dead,[]⟩ (.ret) ⟨[(2,.bool false)],[],.dead,[]⟩:=pJ 84 [] 6 53 (.c c (.c i (.c a (.c f (.c g (.c d (.c b (.c e .nil)))))))) (.nil) h
theorem anL {nt:Nat} (h:50<=nt) (s:List UInt8) (k:Nat) (c:lit false (!(((Xqd (Xqp s (δ (k:Int)) 0):Nat):Int)==((95:Nat):Int)))=true) (i:lit true (decide (((57:Nat):Int)<((Xqd (Xqp s (δ (k:Int)) 0):Nat):Int)))=true) (a:lit false (decide (((Xqd (Xqp s (δ (k:Int)) 0):Nat):Int)<((48:Nat):Int)))=true) (f:lit true (decide (((122:Nat):Int)<((Xqd (Xqp s (δ (k:Int)) 0):Nat):Int)))=true) (g:lit false (decide (((Xqd (Xqp s (δ (k:Int)) 0):Nat):Int)<((97:Nat):Int)))=true) (d:(decide (((0:Nat):Int)<=(k:Int)))=true) (b:(decide ((k:Int)<(((ζ s):Nat):Int)))=true) (e:lit true (decide ((k:Int)<(((ζ s):Nat):Int)))=true):ψ nt f84 ⟨[(0,.str s),(3,ω (k:Int))],[],.dead,[]⟩ (.normal) ⟨[(0,.str s),(3,ω (γ .i64 ((k:Int)+((1:Nat):Int))))],[],.dead,[]⟩:=pJ 84 [] 6 21 (.c c (.c i (.c a (.c f (.c g (.c d (.c b (.c e .nil)))))))) (.nil) h
theorem anM {nt:Nat} (g:50<=nt) (s:List UInt8) (k:Nat) (c:lit false (decide (((57:Nat):Int)<((Xqd (Xqp s (δ (k:Int)) 0):Nat):Int)))=true) (h:lit false (decide (((Xqd (Xqp s (δ (k:Int)) 0):Nat):Int)<((48:Nat):Int)))=true) (a:lit true (decide (((122:Nat):Int)<((Xqd (Xqp s (δ (k:Int)) 0):Nat):Int)))=true) (e:lit false (decide (((Xqd (Xqp s (δ (k:Int)) 0):Nat):Int)<((97:Nat):Int)))=true) (f:(decide (((0:Nat):Int)<=(k:Int)))=true) (d:(decide ((k:Int)<(((ζ s):Nat):Int)))=true) (b:lit true (decide ((k:Int)<(((ζ s):Nat):Int)))=true):ψ nt f84 ⟨[(0,.str s),(3,ω (k:Int))],[],.dead,[]⟩ (.normal) ⟨[(0,.str s),(3,ω (γ .i64 ((k:Int)+((1:Nat):Int))))],[],.dead,[]⟩:=pJ 84 [] 6 5 (.k 1 c (.c h (.c a (.c e (.c f (.c d (.c b .nil))))))) (.nil) g
theorem aih {nt:Nat} (e:50<=nt) (s:List UInt8) (k:Nat) (b:lit false (decide (((122:Nat):Int)<((Xqd (Xqp s (δ (k:Int)) 0):Nat):Int)))=true) (f:lit false (decide (((Xqd (Xqp s (δ (k:Int)) 0):Nat):Int)<((97:Nat):Int)))=true) (a:(decide (((0:Nat):Int)<=(k:Int)))=true) (c:(decide ((k:Int)<(((ζ s):Nat):Int)))=true) (d:lit true (decide ((k:Int)<(((ζ s):Nat):Int)))=true):ψ nt f84 ⟨[(0,.str s),(3,ω (k:Int))],[],.dead,[]⟩ (.normal) ⟨[(0,.str s),(3,ω (γ .i64 ((k:Int)+((1:Nat):Int))))],[],.dead,[]⟩:=pJ 84 [] 5 1 (.k 2 b (.c f (.c a (.c c (.c d .nil))))) (.nil) e
theorem aii {nt:Nat} (b:50<=nt) (s:List UInt8) (k:Nat) (a:lit false (decide ((k:Int)<(((ζ s):Nat):Int)))=true):ψ nt f84 ⟨[(0,.str s),(3,ω (k:Int))],[],.dead,[]⟩ (.exit 0) ⟨[],[],.dead,[]⟩:=pJ 84 [] 1 0 (.c a .nil) (.nil) b
theorem aib (s:List UInt8) (a:lit true (decide ((((ζ s):Nat):Int)<((1:Nat):Int)))=true):CO 84 [.str s] (.ret (.bool false)):=pK [0] 4 15 (.k 3 a .nil) (.nil)
theorem aic (s:List UInt8) (a:lit true (decide (((20:Nat):Int)<(((ζ s):Nat):Int)))=true) (b:lit false (decide ((((ζ s):Nat):Int)<((1:Nat):Int)))=true):CO 84 [.str s] (.ret (.bool false)):=pK [0] 4 14 (.k 2 a (.c b .nil)) (.nil)
theorem aid (s:List UInt8) (b:lit true (decide (((Xqd (Xqp s 0 0):Nat):Int)<((97:Nat):Int)))=true) (d:(decide (((0:Nat):Int)<(((ζ s):Nat):Int)))=true) (a:lit false (decide (((20:Nat):Int)<(((ζ s):Nat):Int)))=true) (c:lit false (decide ((((ζ s):Nat):Int)<((1:Nat):Int)))=true):CO 84 [.str s] (.ret (.bool false)):=pK [0] 4 12 (.k 1 b (.k 1 d (.c a (.c c .nil)))) (.nil)
theorem aie (s:List UInt8) (c:lit true (decide (((122:Nat):Int)<((Xqd (Xqp s 0 0):Nat):Int)))=true) (a:(decide (((0:Nat):Int)<(((ζ s):Nat):Int)))=true) (b:lit false (decide (((Xqd (Xqp s 0 0):Nat):Int)<((97:Nat):Int)))=true) (d:lit false (decide (((20:Nat):Int)<(((ζ s):Nat):Int)))=true) (e:lit false (decide ((((ζ s):Nat):Int)<((1:Nat):Int)))=true):CO 84 [.str s] (.ret (.bool false)):=pK [0] 4 8 (.c c (.k 1 a (.c b (.k 1 a (.c d (.c e .nil)))))) (.nil)
theorem aif (s:List UInt8) (c:lit false (decide (((122:Nat):Int)<((Xqd (Xqp s 0 0):Nat):Int)))=true) (a:(decide (((0:Nat):Int)<(((ζ s):Nat):Int)))=true) (b:lit false (decide (((Xqd (Xqp s 0 0):Nat):Int)<((97:Nat):Int)))=true) (d:lit false (decide (((20:Nat):Int)<(((ζ s):Nat):Int)))=true) (e:lit false (decide ((((ζ s):Nat):Int)<((1:Nat):Int)))=true) (f:aK prog ap [] 50 (.block 0 (.loop (af 0 (ah f84)))) ⟨[(0,.str s),(2,.bool false),(3,ω 0),(4,.dead),(22,.bool (decide (((122:Nat):Int)<((Xqd (Xqp s 0 0):Nat):Int)))),(26,.dead),(49,.dead)],[],.dead,[]⟩ (.normal) ⟨[],[],.dead,[]⟩):CO 84 [.str s] (.ret (.bool true)):=pK [0] 4 0 (.c c (.k 1 a (.c b (.k 1 a (.c d (.c e .nil)))))) (.l f .nil)
theorem aig (s:List UInt8) (c:lit false (decide (((122:Nat):Int)<((Xqd (Xqp s 0 0):Nat):Int)))=true) (a:(decide (((0:Nat):Int)<(((ζ s):Nat):Int)))=true) (b:lit false (decide (((Xqd (Xqp s 0 0):Nat):Int)<((97:Nat):Int)))=true) (d:lit false (decide (((20:Nat):Int)<(((ζ s):Nat):Int)))=true) (e:lit false (decide ((((ζ s):Nat):Int)<((1:Nat):Int)))=true) (f:aK prog ap [] 50 (.block 0 (.loop (af 0 (ah f84)))) ⟨[(0,.str s),(2,.bool false),(3,ω 0),(4,.dead),(22,.bool (decide (((122:Nat):Int)<((Xqd (Xqp s 0 0):Nat):Int)))),(26,.dead),(49,.dead)],[],.dead,[]⟩ (.ret) ⟨[(2,.bool false)],[],.dead,[]⟩):CO 84 [.str s] (.ret (.bool false)):=pK [0] 4 0 (.c c (.k 1 a (.c b (.k 1 a (.c d (.c e .nil)))))) (.l f .nil)
def vS (s:List UInt8):Bool:= !(s== []) && decide (s.length<=20) && decide (97<=(s.getD 0 0).toNat) && decide ((s.getD 0 0).toNat<=122) && s.all iK
theorem J4 {p:UInt8->Bool}:∀ {l:List UInt8},l.dropWhile p= []↔∀ x ∈ l,p x=true
 | []=>by simp
 |c::l=>by
  rw [Xx8];cases h:p c with
  |true=>simp [h,J4 (l:=l)]
  |false=>simp [h]
theorem Z4 {s:List UInt8}:(ZW s).dropWhile iK= []↔s.all iK=true:=by
 unfold ZW;rw [Xj1];constructor
 .intro h;have e:∀ x ∈ (s.reverse.dropWhile iK),iK x=true:=by
   intro x a;exact J4.1 h x (by simpa using a)
  have c:s.reverse.dropWhile iK= []:=by
   cases hd:s.reverse.dropWhile iK with
   |nil=>rfl
   | cons y r=>
    exfalso;have b:=e y (by rw [hd];simp);have d:∀ (l:List UInt8),l.dropWhile iK=y::r->iK y=false:=by
     intro l
     induction l with
     |nil=>intro h;simp at h
     | cons z l ih=>
      intro h;rw [Xx8] at h;split at h
      .exact ih h
      .rename_i f;cases h;simpa using f
    rw [d _ hd] at b;cases b
  intro x a;exact J4.1 c x (by simpa using a)
 .intro h;have:s.reverse.dropWhile iK= []:=J4.2 λx a=>h x (by simpa using a)
  rw [this];rfl
theorem ai6 (s:List UInt8) (hs:s.length<2^40):CO 194 [.str s,.pp JP 0] (.ret (.str (s.dropWhile iK))):=
 aoE s _ JP (az.blk (λnt a=>aej a s hs) (by simp) rfl (aN.of ⟨rfl,rfl,trivial⟩) (aN.of ⟨rfl,trivial⟩))
theorem ai7 (s:List UInt8) (hs:s.length<2^40):CO 197 [.str s,.pp JP 0] (.ret (.str (ZW s))):=
 aoH s _ JP (az.blk (λnt a=>aep a _ s rfl hs) (by simp) rfl (aN.of ⟨rfl,rfl,trivial⟩) (aN.of ⟨rfl,trivial⟩))
theorem aeo (s:List UInt8):(ZW s).length<=s.length:=by
 unfold ZW;rw [List.length_reverse];have:=(List.dropWhile_sublist iK (l:=s.reverse)).length_le;simpa using this
theorem aes (s:List UInt8) (hs:s.length<2^40):CO 164 [.str s,.str Uo] (.ret (.str ((ZW s).dropWhile iK))):=by
 by_cases h:s= []
 .subst h;exact aeq [] [] [] rfl
 .have a:=aeo s;exact aer s _ _ (by simp [lit,h]) afI (ai7 s hs) (ai6 _ (by omega))
theorem mZ (s:List UInt8):CO 122 [.str s] (.ret (.bool (vS s))):=by
 unfold vS;by_cases h0:s= []
 .subst h0;exact ach [] [] rfl
 .have a:(s== [])=false:=by simpa using h0
  have b:0<s.length:=by cases s with|nil=>exact absurd rfl h0|cons _ _=>simp
  rw [a];by_cases h1:s.length<=20
  .have c:lit false (decide (((20:Nat):Int)<(s.length:Int)))=true:=by rw [aZ];simp [lit,h1]
   have cl:decide (((0:Nat):Int)<(s.length:Int))=true:=by rw [aZ];exact Yq0 b
   rw [Yq0 h1];by_cases h2:97<=(s.getD 0 0).toNat
   .rw [Yq0 h2];have d:lit false (decide (((s.getD 0 0).toNat:Int)<((97:Nat):Int)))=true:=by rw [aZ];simp only [lit,Xqq];exact Yq1 (by omega)
    by_cases h3:(s.getD 0 0).toNat<=122
    .rw [Yq0 h3];have f:lit false (decide (((122:Nat):Int)<((s.getD 0 0).toNat:Int)))=true:=by rw [aZ];simp only [lit,Xqq];exact Yq1 (by omega)
     have h:=acl s _ f cl d c (by rw [a];rfl) (aes s (by omega));have e:((ZW s).dropWhile iK== [])=s.all iK:=by
      rw [Xxj,<- Z4];simp
     rw [e] at h;exact h
    .rw [Yq1 h3];exact ack s [] (by rw [aZ];exact Yq0 (by omega)) cl d c (by rw [a];rfl)
   .rw [Yq1 h2];exact acj s [] (by rw [aZ];exact Yq0 (by omega)) cl c (by rw [a];rfl)
  .rw [Yq1 h1];exact aci s [] (by rw [aZ];exact Yq0 (by omega)) (by rw [a];rfl)
def Zd (s:List UInt8) (k:Nat):St:=⟨[(0,.str s),(3,ω (k:Int))],[],.dead,[]⟩
def Zc:Bool->St
 |true=> ⟨[],[],.dead,[]⟩
 |false=> ⟨[(2,.bool false)],[],.dead,[]⟩
def rnE:Bool->bI
 |true=> .exit 0
 |false=> .ret
theorem Ze {nt:Nat} (d:50<=nt) (s:List UInt8) (k c:Nat) (w:k<s.length) (hs:s.length<2^40) (a:(s.getD k 0).toNat=c):
  (inN c=true->ψ nt f84 (Zd s k) .normal (Zd s (k+1)))/\(inN c=false->ψ nt f84 (Zd s k) .ret (Zc false)):=by
 have e:inN c=true↔((97<=c/\c<=122)\/(48<=c/\c<=57))\/c=95:=by unfold inN;simp
 unfold Zd Zc;have j:=anD d s k;simp (disch:=first|omega|(simp [au,ay]<;>omega)) only [aC,a,jY,bD,dY,fA,aZ,bi,dG] at j;have i:=anE d s k;simp (disch:=first|omega|(simp [au,ay]<;>omega)) only [aC,a,jY,dP,dY,Dp,bi,aZ,bD,dG,bQ,aS] at i;have n:=anF d s k;simp (disch:=first|omega|(simp [au,ay]<;>omega)) only [aC,a,jY,bD,dY,fA,aZ,bi,dP,dG] at n;have q:=anG d s k;simp (disch:=first|omega|(simp [au,ay]<;>omega)) only [aC,a,jY,dP,dY,Dp,bi,aZ,bD,fA,dG,bQ,aS] at q;have t:=anH d s k;simp (disch:=first|omega|(simp [au,ay]<;>omega)) only [aC,a,aZ,dP,dY,fA,bD,bi,dG,bQ,aS] at t;have r:=anI d s k;simp (disch:=first|omega|(simp [au,ay]<;>omega)) only [aC,a,jY,bD,dY,fA,aZ,bi,dP,dG] at r;have l:=anJ d s k;simp (disch:=first|omega|(simp [au,ay]<;>omega)) only [aC,a,jY,dP,dY,Dp,bi,aZ,bD,fA,dG,bQ,aS] at l;have o:=anK d s k;simp (disch:=first|omega|(simp [au,ay]<;>omega)) only [aC,a,jY,bD,dY,fA,aZ,bi,dP,dG] at o;have m:=anL d s k;simp (disch:=first|omega|(simp [au,ay]<;>omega)) only [aC,a,jY,dP,dY,Dp,bi,aZ,bD,fA,dG,bQ,aS] at m;have p:=anM d s k;simp (disch:=first|omega|(simp [au,ay]<;>omega)) only [aC,a,aZ,dP,dY,fA,bD,bi,dG,bQ,aS] at p;have f:=aih d s k;simp (disch:=first|omega|(simp [au,ay]<;>omega)) only [aC,a,aZ,dP,dY,fA,dG,bi,bD,bQ,aS] at f;constructor
 .intro g;have b:=e.1 g;by_cases h1:c<97<;>by_cases h2:122<c<;>by_cases h3:c<48<;>by_cases h4:57<c<;>by_cases h5:c=95<;>first
   |(exfalso;omega)
   |(apply i<;>omega)
   |(apply q<;>omega)
   |(apply t<;>omega)
   |(apply l<;>omega)
   |(apply m<;>omega)
   |(apply p<;>omega)
   |(apply f<;>omega)
 .intro g;have b:¬ (((97<=c/\c<=122)\/(48<=c/\c<=57))\/c=95):=by rw [<- e,g];simp
  have x:c ≠ 95:=λh=>b (.inr h)
  have u:c<97\/122<c:=by
   rcases Xq2 c 97 with h|h
   .exact .inl h
   .rcases Xq2 122 c with h'|h'
    .exact .inr h'
    .exact absurd (.inl (.inl ⟨h,h'⟩)) b
  have v:c<48\/57<c:=by
   rcases Xq2 c 48 with h|h
   .exact .inl h
   .rcases Xq2 57 c with h'|h'
    .exact .inr h'
    .exact absurd (.inl (.inr ⟨h,h'⟩)) b
  clear b;by_cases h1:c<97<;>by_cases h2:122<c<;>by_cases h3:c<48<;>by_cases h4:57<c<;>by_cases h5:c=95<;>first
   |(exfalso;omega)
   |(apply j<;>omega)
   |(apply n<;>omega)
   |(apply r<;>omega)
   |(apply o<;>omega)
theorem adh {nt:Nat} (b:50<=nt) (s:List UInt8) (hs:s.length<2^40):∀ (r p:List UInt8),p++r=s->az prog ap [] nt (af 0 (ah f84)) rnE (Zd s) Zc p.length (r.all iK):=by
 intro r
 induction r with
 |nil=>
  intro p h;have hp:p.length=s.length:=by rw [<- h];simp
  rw [hp];exact .done (aii b s _ (by rw [aZ];simp [lit]))
 | cons c r ih=>
  intro p h;have i:p.length+(r.length+1)=s.length:=by rw [<- h];simp
  have g:s.getD p.length 0=c:=by rw [<- h];exact TU rfl
  obtain ⟨d,f⟩:=Ze b s p.length c.toNat (by omega) hs (by rw [g]);rw [List.all_cons];have e:iK c=inN c.toNat:=rfl;cases a:iK c with
  |true=>
   have hnext:=ih (p++ [c]) (by simp [h]);rw [η,τ] at hnext;rw [Bool.true_and];exact .next (d (e ▸ a)) hnext
  |false=>exact .done (f (e ▸ a))
theorem Zf (s:List UInt8):CO 84 [.str s] (.ret (.bool (vS s))):=by
 unfold vS;by_cases h0:s= []
 .subst h0;exact aib [] rfl
 .have c:(s== [])=false:=by simpa using h0
  have e:0<s.length:=by cases s with|nil=>exact absurd rfl h0|cons _ _=>simp
  have a:lit false (decide ((s.length:Int)<((1:Nat):Int)))=true:=by rw [aZ];simp only [lit,Xqq];exact Yq1 (by omega)
  rw [c];by_cases h1:s.length<=20
  .have b:lit false (decide (((20:Nat):Int)<(s.length:Int)))=true:=by rw [aZ];simp [lit,h1]
   have cl:decide (((0:Nat):Int)<(s.length:Int))=true:=by rw [aZ];exact Yq0 e
   rw [Yq0 h1];by_cases h2:97<=(s.getD 0 0).toNat
   .rw [Yq0 h2];have d:lit false (decide (((s.getD 0 0).toNat:Int)<((97:Nat):Int)))=true:=by rw [aZ];simp only [lit,Xqq];exact Yq1 (by omega)
    by_cases h3:(s.getD 0 0).toNat<=122
    .rw [Yq0 h3];have g:lit false (decide (((122:Nat):Int)<((s.getD 0 0).toNat:Int)))=true:=by rw [aZ];simp only [lit,Xqq];exact Yq1 (by omega)
     have hloop:=λnt (hn:50<=nt)=>adh hn s (by omega) s [] rfl
     cases f:s.all iK with
     |true=>
      rw [f] at hloop;have h:=aif s g cl d b a;exact h (az.blk hloop (by simp [rnE]) rfl (aN.of ⟨rfl,rfl,trivial⟩) (aN.of trivial))
     |false=>
      rw [f] at hloop;have h:=aig s g cl d b a;exact h (az.blk hloop (by simp [rnE]) rfl (aN.of ⟨rfl,rfl,trivial⟩) (aN.of ⟨rfl,trivial⟩))
    .rw [Yq1 h3];exact aie s (by rw [aZ];exact Yq0 (by omega)) cl d b a
   .rw [Yq1 h2];exact aid s (by rw [aZ];exact Yq0 (by omega)) cl b a
  .rw [Yq1 h1];exact aic s (by rw [aZ];exact Yq0 (by omega)) a
def kz:List AV:= [.str [],ω 0,.bool false,.bool false,.bool false,.str [36],ω 0,.bool true,.bool false,.bool false,.str [],ω 0,.bool true,.bool false,.bool false,.str [],ω 0,.bool true,.bool false,.bool false,.str [],ω 0,.bool true,.bool false,.bool false,.str [102,97,99,116,46],ω 0,.bool false,.bool true,.bool false,.str [111,119,110,46],ω 0,.bool false,.bool true,.bool false,.str [112,114,105,111,114,46],ω 0,.bool false,.bool true,.bool false,.str [115,112,111,117,115,101,46],ω 0,.bool false,.bool true,.bool false,.str [97,100,100],ω 2,.bool false,.bool false,.bool false,.str [115,117,98],ω 2,.bool false,.bool false,.bool false,.str [109,117,108],ω 2,.bool false,.bool false,.bool false,.str [100,105,118],ω 2,.bool false,.bool false,.bool false,.str [109,105,110],ω 2,.bool false,.bool false,.bool false,.str [109,97,120],ω 2,.bool false,.bool false,.bool false,.str [105,102],ω 3,.bool false,.bool false,.bool false,.str [108,101,115,115],ω 2,.bool false,.bool false,.bool false,.str [101,113,117,97,108],ω 2,.bool false,.bool false,.bool false,.str [97,110,100],ω 2,.bool false,.bool false,.bool false,.str [111,114],ω 2,.bool false,.bool false,.bool false,.str [110,111,116],ω 1,.bool false,.bool false,.bool false,.str [100,111,119,110],ω 1,.bool false,.bool false,.bool true,.str [117,112],ω 1,.bool false,.bool false,.bool true,.str [110,101,97,114],ω 1,.bool false,.bool false,.bool true,.str [114,97,116,101,46],ω 1,.bool false,.bool true,.bool false]
theorem alW (a:Int) (b:lit true (decide (a<((1:Nat):Int)))=true):CO 120 [ω a] (.ret (.tup [.agg zcc2_0,.bool false])):=pK [] 2 3 (.k 7 b .nil) (.nil)
theorem alX (a:Int) (b:lit true (decide (((24:Nat):Int)<a))=true) (c:lit false (decide (a<((1:Nat):Int)))=true):CO 120 [ω a] (.ret (.tup [.agg zcc2_0,.bool false])):=pK [] 2 2 (.k 6 b (.c c .nil)) (.nil)
theorem alY (a:Int) (d:(chk .str (θ (ε (0+((δ a)*5)) kz) .dead))=true) (i:(chk (.int .i64) (θ (Xj0 (ε (0+((δ a)*5)) kz)) .dead))=true) (b:(chk .bool (θ (Xj0 (Xj0 (ε (0+((δ a)*5)) kz))) .dead))=true) (g:(chk .bool (θ (Xj0 (Xj0 (Xj0 (ε (0+((δ a)*5)) kz)))) .dead))=true) (h:(chk .bool (θ (Xj0 (Xj0 (Xj0 (Xj0 (ε (0+((δ a)*5)) kz))))) .dead))=true) (e:(decide (((0:Nat):Int)<=a))=true) (c:(decide (a<((25:Nat):Int)))=true) (f:lit false (decide (((24:Nat):Int)<a))=true) (j:lit false (decide (a<((1:Nat):Int)))=true):CO 120 [ω a] (.ret (.tup [.agg [.str (AV.toStr (θ (ε (0+((δ a)*5)) kz) .dead)),ω (Γ (θ (Xj0 (ε (0+((δ a)*5)) kz)) .dead)),.bool (Xkj (θ (Xj0 (Xj0 (ε (0+((δ a)*5)) kz))) .dead)),.bool (Xkj (θ (Xj0 (Xj0 (Xj0 (ε (0+((δ a)*5)) kz)))) .dead)),.bool (Xkj (θ (Xj0 (Xj0 (Xj0 (Xj0 (ε (0+((δ a)*5)) kz))))) .dead))],.bool true])):=pK [] 2 0 (.k 6 d (.c i (.c b (.c g (.c h (.c e (.c c (.c f (.c j .nil))))))))) (.nil)
theorem afw (a:Int) (b:lit true (a==((15:Nat):Int))=true):CO 85 [ω a] (.ret (ω 3)):=pK [] 1 1 (.c b .nil) (.nil)
theorem afx (a:Int) (c:lit true (decide (a<=((14:Nat):Int)))=true) (d:lit true (decide (((9:Nat):Int)<=a))=true) (b:lit false (a==((15:Nat):Int))=true):CO 85 [ω a] (.ret (ω 2)):=pK [] 4 14 (.k 1 c (.c d (.c b .nil))) (.nil)
theorem afy (a:Int) (c:lit true (decide (a<=((19:Nat):Int)))=true) (f:lit true (decide (((16:Nat):Int)<=a))=true) (b:lit false (decide (a<=((14:Nat):Int)))=true) (d:lit true (decide (((9:Nat):Int)<=a))=true) (e:lit false (a==((15:Nat):Int))=true):CO 85 [ω a] (.ret (ω 2)):=pK [] 5 26 (.c c (.c f (.c b (.c d (.c e .nil))))) (.nil)
theorem afz (a:Int) (d:lit true (decide (a<=((24:Nat):Int)))=true) (h:lit true (decide (((20:Nat):Int)<=a))=true) (b:lit false (decide (a<=((19:Nat):Int)))=true) (f:lit true (decide (((16:Nat):Int)<=a))=true) (g:lit false (decide (a<=((14:Nat):Int)))=true) (e:lit true (decide (((9:Nat):Int)<=a))=true) (c:lit false (a==((15:Nat):Int))=true):CO 85 [ω a] (.ret (ω 1)):=pK [] 7 106 (.c d (.c h (.c b (.c f (.c g (.c e (.c c .nil))))))) (.nil)
theorem afA (a:Int) (d:lit false (decide (a<=((24:Nat):Int)))=true) (h:lit true (decide (((20:Nat):Int)<=a))=true) (b:lit false (decide (a<=((19:Nat):Int)))=true) (f:lit true (decide (((16:Nat):Int)<=a))=true) (g:lit false (decide (a<=((14:Nat):Int)))=true) (e:lit true (decide (((9:Nat):Int)<=a))=true) (c:lit false (a==((15:Nat):Int))=true):CO 85 [ω a] (.ret (ω 0)):=pK [] 7 42 (.c d (.c h (.c b (.c f (.c g (.c e (.c c .nil))))))) (.nil)
theorem afB (a:Int) (c:lit false (decide (((20:Nat):Int)<=a))=true) (g:lit false (decide (a<=((19:Nat):Int)))=true) (b:lit true (decide (((16:Nat):Int)<=a))=true) (e:lit false (decide (a<=((14:Nat):Int)))=true) (f:lit true (decide (((9:Nat):Int)<=a))=true) (d:lit false (a==((15:Nat):Int))=true):CO 85 [ω a] (.ret (ω 0)):=pK [] 7 10 (.k 1 c (.c g (.c b (.c e (.c f (.c d .nil)))))) (.nil)
theorem afC (a:Int) (c:lit true (decide (a<=((24:Nat):Int)))=true) (g:lit true (decide (((20:Nat):Int)<=a))=true) (b:lit false (decide (((16:Nat):Int)<=a))=true) (e:lit false (decide (a<=((14:Nat):Int)))=true) (f:lit true (decide (((9:Nat):Int)<=a))=true) (d:lit false (a==((15:Nat):Int))=true):CO 85 [ω a] (.ret (ω 1)):=pK [] 7 98 (.c c (.c g (.k 1 b (.c e (.c f (.c d .nil)))))) (.nil)
theorem afD (a:Int) (c:lit false (decide (a<=((24:Nat):Int)))=true) (g:lit true (decide (((20:Nat):Int)<=a))=true) (b:lit false (decide (((16:Nat):Int)<=a))=true) (e:lit false (decide (a<=((14:Nat):Int)))=true) (f:lit true (decide (((9:Nat):Int)<=a))=true) (d:lit false (a==((15:Nat):Int))=true):CO 85 [ω a] (.ret (ω 0)):=pK [] 7 34 (.c c (.c g (.k 1 b (.c e (.c f (.c d .nil)))))) (.nil)
theorem afE (a:Int) (c:lit false (decide (((20:Nat):Int)<=a))=true) (f:lit false (decide (((16:Nat):Int)<=a))=true) (b:lit false (decide (a<=((14:Nat):Int)))=true) (d:lit true (decide (((9:Nat):Int)<=a))=true) (e:lit false (a==((15:Nat):Int))=true):CO 85 [ω a] (.ret (ω 0)):=pK [] 7 2 (.k 1 c (.k 1 f (.c b (.c d (.c e .nil))))) (.nil)
theorem afF (a:Int) (c:lit true (decide (a<=((19:Nat):Int)))=true) (e:lit true (decide (((16:Nat):Int)<=a))=true) (b:lit false (decide (((9:Nat):Int)<=a))=true) (d:lit false (a==((15:Nat):Int))=true):CO 85 [ω a] (.ret (ω 2)):=pK [] 5 24 (.c c (.c e (.k 1 b (.c d .nil)))) (.nil)
theorem aaB (a:Int) (c:lit true (decide (a<=((24:Nat):Int)))=true) (g:lit true (decide (((20:Nat):Int)<=a))=true) (b:lit false (decide (a<=((19:Nat):Int)))=true) (e:lit true (decide (((16:Nat):Int)<=a))=true) (f:lit false (decide (((9:Nat):Int)<=a))=true) (d:lit false (a==((15:Nat):Int))=true):CO 85 [ω a] (.ret (ω 1)):=pK [] 7 104 (.c c (.c g (.c b (.c e (.k 1 f (.c d .nil)))))) (.nil)
theorem aaC (a:Int) (c:lit false (decide (a<=((24:Nat):Int)))=true) (g:lit true (decide (((20:Nat):Int)<=a))=true) (b:lit false (decide (a<=((19:Nat):Int)))=true) (e:lit true (decide (((16:Nat):Int)<=a))=true) (f:lit false (decide (((9:Nat):Int)<=a))=true) (d:lit false (a==((15:Nat):Int))=true):CO 85 [ω a] (.ret (ω 0)):=pK [] 7 40 (.c c (.c g (.c b (.c e (.k 1 f (.c d .nil)))))) (.nil)
theorem aaD (a:Int) (c:lit false (decide (((20:Nat):Int)<=a))=true) (f:lit false (decide (a<=((19:Nat):Int)))=true) (b:lit true (decide (((16:Nat):Int)<=a))=true) (d:lit false (decide (((9:Nat):Int)<=a))=true) (e:lit false (a==((15:Nat):Int))=true):CO 85 [ω a] (.ret (ω 0)):=pK [] 7 8 (.k 1 c (.c f (.c b (.k 1 d (.c e .nil))))) (.nil)
theorem aaE (a:Int) (c:lit true (decide (a<=((24:Nat):Int)))=true) (f:lit true (decide (((20:Nat):Int)<=a))=true) (b:lit false (decide (((16:Nat):Int)<=a))=true) (d:lit false (decide (((9:Nat):Int)<=a))=true) (e:lit false (a==((15:Nat):Int))=true):CO 85 [ω a] (.ret (ω 1)):=pK [] 7 96 (.c c (.c f (.k 1 b (.k 1 d (.c e .nil))))) (.nil)
theorem aaF (a:Int) (c:lit false (decide (a<=((24:Nat):Int)))=true) (f:lit true (decide (((20:Nat):Int)<=a))=true) (b:lit false (decide (((16:Nat):Int)<=a))=true) (d:lit false (decide (((9:Nat):Int)<=a))=true) (e:lit false (a==((15:Nat):Int))=true):CO 85 [ω a] (.ret (ω 0)):=pK [] 7 32 (.c c (.c f (.k 1 b (.k 1 d (.c e .nil))))) (.nil)
theorem aaG (a:Int) (c:lit false (decide (((20:Nat):Int)<=a))=true) (e:lit false (decide (((16:Nat):Int)<=a))=true) (b:lit false (decide (((9:Nat):Int)<=a))=true) (d:lit false (a==((15:Nat):Int))=true):CO 85 [ω a] (.ret (ω 0)):=pK [] 7 0 (.k 1 c (.k 1 e (.k 1 b (.c d .nil)))) (.nil)
theorem aho (a:Int) (b:lit true (decide (a<=((8:Nat):Int)))=true) (c:lit true (decide (((5:Nat):Int)<=a))=true):CO 82 [ω a] (.ret (.bool true)):=pK [] 2 3 (.c b (.c c .nil)) (.nil)
theorem ahp (a:Int) (b:lit false (decide (a<=((8:Nat):Int)))=true) (c:lit true (decide (((5:Nat):Int)<=a))=true):CO 82 [ω a] (.ret (.bool (a==((24:Nat):Int)))):=pK [] 2 1 (.c b (.c c .nil)) (.nil)
theorem ahq (a:Int) (b:lit false (decide (((5:Nat):Int)<=a))=true):CO 82 [ω a] (.ret (.bool (a==((24:Nat):Int)))):=pK [] 2 0 (.k 1 b .nil) (.nil)
theorem ahd (a:Int) (b:lit true (decide (((1:Nat):Int)<=a))=true):CO 139 [ω a] (.ret (.bool (decide (a<=((4:Nat):Int))))):=pK [] 1 1 (.c b .nil) (.nil)
theorem ahe (a:Int) (b:lit false (decide (((1:Nat):Int)<=a))=true):CO 139 [ω a] (.ret (.bool false)):=pK [] 1 0 (.c b .nil) (.nil)
theorem aiR (a:Int) (b:lit true (decide (((21:Nat):Int)<=a))=true):CO 140 [ω a] (.ret (.bool (decide (a<=((23:Nat):Int))))):=pK [] 1 1 (.c b .nil) (.nil)
theorem aiS (a:Int) (b:lit false (decide (((21:Nat):Int)<=a))=true):CO 140 [ω a] (.ret (.bool false)):=pK [] 1 0 (.c b .nil) (.nil)
def dh (op:Int):Nat:=if op=15 then 3 else if (9<=op/\op<=14)\/(16<=op/\op<=19) then 2 else if 20<=op/\op<=24 then 1 else 0
def gV (op:Int):Bool:=decide ((5<=op/\op<=8)\/op=24)
def BA (op:Int):Bool:=decide (1<=op/\op<=4)
def Ci (op:Int):Bool:=decide (21<=op/\op<=23)
def aac (op:Int):List UInt8:=AV.toStr (θ (ε (0+((δ op)*5)) kz) .dead)
theorem Q4 (a:Int):CO 85 [ω a] (.ret (ω ((dh a:Nat):Int))):=by
 cases d:(a==((15:Nat):Int)) with
 | true=>
  have h:=afw a (by rw [d];rfl);have e:dh a=3:=by
   clear h;simp only [decide_eq_true_eq,decide_eq_false_iff_not,beq_iff_eq,Yq2] at*
   unfold dh;(repeat' split)<;>omega
  rw [e];exact h
 | false =>
  cases g:(decide (((9:Nat):Int)<=a)) with
  | true =>
   cases c:(decide (a<=((14:Nat):Int))) with
   | true=>
    have h:=afx a (by rw [c];rfl) (by rw [g];rfl) (by rw [d];rfl);have e:dh a=2:=by
     clear h;simp only [decide_eq_true_eq,decide_eq_false_iff_not,beq_iff_eq,Yq2] at*
     unfold dh;(repeat' split)<;>omega
    rw [e];exact h
   | false=>
    cases b:(decide (((16:Nat):Int)<=a)) with
    | true=>
     cases f:(decide (a<=((19:Nat):Int))) with
     | true=>
      have h:=afy a (by rw [f];rfl) (by rw [b];rfl) (by rw [c];rfl) (by rw [g];rfl) (by rw [d];rfl);have e:dh a=2:=by
       clear h;simp only [decide_eq_true_eq,decide_eq_false_iff_not,beq_iff_eq,Yq2] at*
       unfold dh;(repeat' split)<;>omega
      rw [e];exact h
     | false=>
      cases i:(decide (((20:Nat):Int)<=a)) with
      | true=>
       cases j:(decide (a<=((24:Nat):Int))) with
       | true=>
        have h:=afz a (by rw [j];rfl) (by rw [i];rfl) (by rw [f];rfl) (by rw [b];rfl) (by rw [c];rfl) (by rw [g];rfl) (by rw [d];rfl);have e:dh a=1:=by
         clear h;simp only [decide_eq_true_eq,decide_eq_false_iff_not,beq_iff_eq,Yq2] at*
         unfold dh;(repeat' split)<;>omega
        rw [e];exact h
       | false=>
        have h:=afA a (by rw [j];rfl) (by rw [i];rfl) (by rw [f];rfl) (by rw [b];rfl) (by rw [c];rfl) (by rw [g];rfl) (by rw [d];rfl);have e:dh a=0:=by
         clear h;simp only [decide_eq_true_eq,decide_eq_false_iff_not,beq_iff_eq,Yq2] at*
         unfold dh;(repeat' split)<;>omega
        rw [e];exact h
      | false=>
       have h:=afB a (by rw [i];rfl) (by rw [f];rfl) (by rw [b];rfl) (by rw [c];rfl) (by rw [g];rfl) (by rw [d];rfl);have e:dh a=0:=by
        clear h;simp only [decide_eq_true_eq,decide_eq_false_iff_not,beq_iff_eq,Yq2] at*
        unfold dh;(repeat' split)<;>omega
       rw [e];exact h
    | false=>
     cases f:(decide (((20:Nat):Int)<=a)) with
     | true=>
      cases i:(decide (a<=((24:Nat):Int))) with
      | true=>
       have h:=afC a (by rw [i];rfl) (by rw [f];rfl) (by rw [b];rfl) (by rw [c];rfl) (by rw [g];rfl) (by rw [d];rfl);have e:dh a=1:=by
        clear h;simp only [decide_eq_true_eq,decide_eq_false_iff_not,beq_iff_eq,Yq2] at*
        unfold dh;(repeat' split)<;>omega
       rw [e];exact h
      | false=>
       have h:=afD a (by rw [i];rfl) (by rw [f];rfl) (by rw [b];rfl) (by rw [c];rfl) (by rw [g];rfl) (by rw [d];rfl);have e:dh a=0:=by
        clear h;simp only [decide_eq_true_eq,decide_eq_false_iff_not,beq_iff_eq,Yq2] at*
        unfold dh;(repeat' split)<;>omega
       rw [e];exact h
     | false=>
      have h:=afE a (by rw [f];rfl) (by rw [b];rfl) (by rw [c];rfl) (by rw [g];rfl) (by rw [d];rfl);have e:dh a=0:=by
       clear h;simp only [decide_eq_true_eq,decide_eq_false_iff_not,beq_iff_eq,Yq2] at*
       unfold dh;(repeat' split)<;>omega
      rw [e];exact h
  | false=>
   cases c:(decide (((16:Nat):Int)<=a)) with
   | true=>
    cases b:(decide (a<=((19:Nat):Int))) with
    | true=>
     have h:=afF a (by rw [b];rfl) (by rw [c];rfl) (by rw [g];rfl) (by rw [d];rfl);have e:dh a=2:=by
      clear h;simp only [decide_eq_true_eq,decide_eq_false_iff_not,beq_iff_eq,Yq2] at*
      unfold dh;(repeat' split)<;>omega
     rw [e];exact h
    | false=>
     cases f:(decide (((20:Nat):Int)<=a)) with
     | true=>
      cases i:(decide (a<=((24:Nat):Int))) with
      | true=>
       have h:=aaB a (by rw [i];rfl) (by rw [f];rfl) (by rw [b];rfl) (by rw [c];rfl) (by rw [g];rfl) (by rw [d];rfl);have e:dh a=1:=by
        clear h;simp only [decide_eq_true_eq,decide_eq_false_iff_not,beq_iff_eq,Yq2] at*
        unfold dh;(repeat' split)<;>omega
       rw [e];exact h
      | false=>
       have h:=aaC a (by rw [i];rfl) (by rw [f];rfl) (by rw [b];rfl) (by rw [c];rfl) (by rw [g];rfl) (by rw [d];rfl);have e:dh a=0:=by
        clear h;simp only [decide_eq_true_eq,decide_eq_false_iff_not,beq_iff_eq,Yq2] at*
        unfold dh;(repeat' split)<;>omega
       rw [e];exact h
     | false=>
      have h:=aaD a (by rw [f];rfl) (by rw [b];rfl) (by rw [c];rfl) (by rw [g];rfl) (by rw [d];rfl);have e:dh a=0:=by
       clear h;simp only [decide_eq_true_eq,decide_eq_false_iff_not,beq_iff_eq,Yq2] at*
       unfold dh;(repeat' split)<;>omega
      rw [e];exact h
   | false=>
    cases b:(decide (((20:Nat):Int)<=a)) with
    | true=>
     cases f:(decide (a<=((24:Nat):Int))) with
     | true=>
      have h:=aaE a (by rw [f];rfl) (by rw [b];rfl) (by rw [c];rfl) (by rw [g];rfl) (by rw [d];rfl);have e:dh a=1:=by
       clear h;simp only [decide_eq_true_eq,decide_eq_false_iff_not,beq_iff_eq,Yq2] at*
       unfold dh;(repeat' split)<;>omega
      rw [e];exact h
     | false=>
      have h:=aaF a (by rw [f];rfl) (by rw [b];rfl) (by rw [c];rfl) (by rw [g];rfl) (by rw [d];rfl);have e:dh a=0:=by
       clear h;simp only [decide_eq_true_eq,decide_eq_false_iff_not,beq_iff_eq,Yq2] at*
       unfold dh;(repeat' split)<;>omega
      rw [e];exact h
    | false=>
     have h:=aaG a (by rw [b];rfl) (by rw [c];rfl) (by rw [g];rfl) (by rw [d];rfl);have e:dh a=0:=by
      clear h;simp only [decide_eq_true_eq,decide_eq_false_iff_not,beq_iff_eq,Yq2] at*
      unfold dh;(repeat' split)<;>omega
     rw [e];exact h
theorem acg (a:Int):CO 82 [ω a] (.ret (.bool (gV a))):=by
 cases b:(decide (((5:Nat):Int)<=a)) with
 | true=>
  cases c:(decide (a<=((8:Nat):Int))) with
  | true=>
   have h:=aho a (by rw [c];rfl) (by rw [b];rfl);have e:gV a=true:=by
    clear h;simp only [decide_eq_true_eq,decide_eq_false_iff_not,beq_iff_eq,Yq2] at*
    unfold gV;first|(rw [decide_eq_true_eq];omega)|(rw [Xxj];simp only [decide_eq_true_eq,beq_iff_eq];omega)
   rw [e];exact h
  | false=>
   have h:=ahp a (by rw [c];rfl) (by rw [b];rfl);have e:gV a=(a==((24:Nat):Int)):=by
    clear h;simp only [decide_eq_true_eq,decide_eq_false_iff_not,beq_iff_eq,Yq2] at*
    unfold gV;first|(rw [decide_eq_true_eq];omega)|(rw [Xxj];simp only [decide_eq_true_eq,beq_iff_eq];omega)
   rw [e];exact h
 | false=>
  have h:=ahq a (by rw [b];rfl);have e:gV a=(a==((24:Nat):Int)):=by
   clear h;simp only [decide_eq_true_eq,decide_eq_false_iff_not,beq_iff_eq,Yq2] at*
   unfold gV;first|(rw [decide_eq_true_eq];omega)|(rw [Xxj];simp only [decide_eq_true_eq,beq_iff_eq];omega)
  rw [e];exact h
theorem Ec (a:Int):CO 139 [ω a] (.ret (.bool (BA a))):=by
 cases b:(decide (((1:Nat):Int)<=a)) with
 | true=>
  have h:=ahd a (by rw [b];rfl);have e:BA a=(decide (a<=((4:Nat):Int))):=by
   clear h;simp only [decide_eq_true_eq,decide_eq_false_iff_not,beq_iff_eq,Yq2] at*
   unfold BA;first|(rw [decide_eq_false_iff_not];omega)|(rw [Xxj];simp only [decide_eq_true_eq,beq_iff_eq];omega)
  rw [e];exact h
 | false=>
  have h:=ahe a (by rw [b];rfl);have e:BA a=false:=by
   clear h;simp only [decide_eq_true_eq,decide_eq_false_iff_not,beq_iff_eq,Yq2] at*
   unfold BA;first|(rw [decide_eq_false_iff_not];omega)|(rw [Xxj];simp only [decide_eq_true_eq,beq_iff_eq];omega)
  rw [e];exact h
theorem LH (a:Int):CO 140 [ω a] (.ret (.bool (Ci a))):=by
 cases b:(decide (((21:Nat):Int)<=a)) with
 | true=>
  have h:=aiR a (by rw [b];rfl);have e:Ci a=(decide (a<=((23:Nat):Int))):=by
   clear h;simp only [decide_eq_true_eq,decide_eq_false_iff_not,beq_iff_eq,Yq2] at*
   unfold Ci;first|(rw [decide_eq_false_iff_not];omega)|(rw [Xxj];simp only [decide_eq_true_eq,beq_iff_eq];omega)
  rw [e];exact h
 | false=>
  have h:=aiS a (by rw [b];rfl);have e:Ci a=false:=by
   clear h;simp only [decide_eq_true_eq,decide_eq_false_iff_not,beq_iff_eq,Yq2] at*
   unfold Ci;first|(rw [decide_eq_false_iff_not];omega)|(rw [Xxj];simp only [decide_eq_true_eq,beq_iff_eq];omega)
  rw [e];exact h
theorem N7 {a:Int} (h:1<=a) (b:a<=24):a=1\/a=2\/a=3\/a=4\/a=5\/a=6\/a=7\/a=8\/a=9\/a=10\/a=11\/a=12\/a=13\/a=14\/a=15\/a=16\/a=17\/a=18\/a=19\/a=20\/a=21\/a=22\/a=23\/a=24:=by omega
abbrev shA (op:Int):AV:= .agg [.str (aac op),ω ((dh op:Nat):Int),.bool (BA op),.bool (gV op),.bool (Ci op)]
theorem al2 {a:Int} (h:1<=a) (b:a<=24):CO 120 [ω a] (.ret (.tup [shA a,.bool true])):=by
 rcases N7 h b with rfl|rfl|rfl|rfl|rfl|rfl|rfl|rfl|rfl|rfl|rfl|rfl|rfl|rfl|rfl|rfl|rfl|rfl|rfl|rfl|rfl|rfl|rfl|rfl
 all_goals exact alY _ rfl rfl rfl rfl rfl rfl rfl rfl rfl
theorem ahx {a:Int} (h:a<1\/24<a):CO 120 [ω a] (.ret (.tup [.agg zcc2_0,.bool false])):=by
 by_cases h1:a<1
 .exact alW a (by simp [lit];omega)
 .exact alX a (by simp [lit];omega) (by simp [lit];omega)
theorem QP {a:Int} (h:1<=a) (b:a<=24):θ (ε (a.toNat*5+1) kz) .dead= ω ((dh a:Nat):Int):=by
 rcases N7 h b with rfl|rfl|rfl|rfl|rfl|rfl|rfl|rfl|rfl|rfl|rfl|rfl|rfl|rfl|rfl|rfl|rfl|rfl|rfl|rfl|rfl|rfl|rfl|rfl
 all_goals rfl
def R_ (op:Int):Bool:=decide (1<=op/\op<=24)
theorem cZ (a:Int):CO 120 [ω a] (.ret (.tup [shA a,.bool (R_ a)])):=by
 by_cases h:1<=a/\a<=24
 .have e:R_ a=true:=Yq0 h;rw [e];exact al2 h.1 h.2
 .have e:R_ a=false:=Yq1 h;have f:dh a=0:=by unfold dh;(repeat' split)<;>omega
  have b:BA a=false:=by unfold BA;rw [decide_eq_false_iff_not];omega
  have c:gV a=false:=by unfold gV;rw [decide_eq_false_iff_not];omega
  have d:Ci a=false:=by unfold Ci;rw [decide_eq_false_iff_not];omega
  have g:aac a= []:=by
   unfold aac;by_cases h1:a<1
   .have:a.toNat=0:=by omega
    rw [this];rfl
   .have i:kz.length=125:=by decide
    rw [Xxv (by omega)];rfl
  unfold shA;rw [e,f,b,c,d,g];exact ahx (by omega)
structure Nd where
 op:Int
 neg:Bool
 num:List UInt8
 den:List UInt8
 name:List UInt8
def lI (x:Nd):List AV:= [ω x.op,.bool x.neg,.str x.num,.str x.den,.str x.name]
def Nd.sm (x:Nd):Prop:=x.num.length<2^33/\x.den.length<2^33
def f_ (x:Nd):Bool:=cond (x.op==((4:Nat):Int)) (vw x.neg x.num x.den 0||vw x.neg x.num x.den 1) (cond (BA x.op) (d_ x.neg x.num x.den) (cond (Ci x.op) (d_ x.neg x.num x.den && decide (((0:Nat):Int)<jd x.neg x.num x.den)) ((x.neg==false) && ((x.num== []) && ((x.den== []) && true)))))
def aJ (x:Nd):Int:=cond (!R_ x.op||(!gV x.op && !(x.name== []))) 11 (cond (!f_ x) 11 (cond (gV x.op && !vS x.name) 12 0))
theorem aad (x:Nd) (c:x.sm):CO 73 [.agg (lI x)] (.ret (ω (aJ x))):=by
 have b:x.num.length<2^36:=Xq8 c.1 (by decide);have a:x.den.length<2^36:=Xq8 c.2 (by decide);rcases tf (R_ x.op) with b0|b0
 .rcases tf (gV x.op) with b1|b1
  .rcases tf (x.op==((4:Nat):Int)) with b2|b2
   .rcases tf ((x.neg==false) && ((x.num==(ae 0)) && ((x.den==(ae 1)) && true))) with b3|b3
    .rcases tf (vS x.name) with b4|b4
     .rw [show aJ x=0 by simp only [aJ,f_,vw,b0,b1,b2,b3,b4]<;>rfl];exact pK [] 8 88 (.c (aX b4) (.k 1 (aA b1) (.k 2 (aA b3) (.k 3 (aA b2) (.k 2 (aX b1) (.k 1 (aX b0) (.n 2 .nil))))))) (.c (mZ x.name) (.c (jV) (.c (cZ x.op) .nil)))
     .rw [show aJ x=12 by simp only [aJ,f_,vw,b0,b1,b2,b3,b4]<;>rfl];exact pK [] 8 216 (.c (dV b4) (.k 1 (aA b1) (.k 2 (aA b3) (.k 3 (aA b2) (.k 2 (aX b1) (.k 1 (aX b0) (.n 2 .nil))))))) (.c (mZ x.name) (.c (jV) (.c (cZ x.op) .nil)))
    .rcases tf ((x.neg==false) && ((x.num==(ae 1)) && ((x.den==(ae 1)) && true))) with b4|b4
     .rcases tf (vS x.name) with b5|b5
      .rw [show aJ x=0 by simp only [aJ,f_,vw,b0,b1,b2,b3,b4,b5]<;>rfl];exact pK [] 8 72 (.c (aX b5) (.k 1 (aA b1) (.k 1 (aX b4) (.k 3 (aB b3) (.k 3 (aA b2) (.k 2 (aX b1) (.k 1 (aX b0) (.n 2 .nil)))))))) (.c (mZ x.name) (.c (wu) (.c (jV) (.c (cZ x.op) .nil))))
      .rw [show aJ x=12 by simp only [aJ,f_,vw,b0,b1,b2,b3,b4,b5]<;>rfl];exact pK [] 8 200 (.c (dV b5) (.k 1 (aA b1) (.k 1 (aX b4) (.k 3 (aB b3) (.k 3 (aA b2) (.k 2 (aX b1) (.k 1 (aX b0) (.n 2 .nil)))))))) (.c (mZ x.name) (.c (wu) (.c (jV) (.c (cZ x.op) .nil))))
     .rw [show aJ x=11 by simp only [aJ,f_,vw,b0,b1,b2,b3,b4]<;>rfl];exact pK [] 6 40 (.c (dV b4) (.k 3 (aB b3) (.k 3 (aA b2) (.k 2 (aX b1) (.k 1 (aX b0) (.n 2 .nil)))))) (.c (wu) (.c (jV) (.c (cZ x.op) .nil)))
   .rcases tf (BA x.op) with b3|b3
    .rcases tf (d_ x.neg x.num x.den) with b4|b4
     .rcases tf (vS x.name) with b5|b5
      .rw [show aJ x=0 by simp only [aJ,f_,vw,b0,b1,b2,b3,b4,b5]<;>rfl];exact pK [] 8 80 (.c (aX b5) (.k 1 (aA b1) (.k 1 (aX b4) (.k 3 (aA b3) (.k 1 (aB b2) (.k 2 (aX b1) (.k 1 (aX b0) (.n 2 .nil)))))))) (.c (mZ x.name) (.c (gY x.neg x.num x.den b a) (.c (cZ x.op) .nil)))
      .rw [show aJ x=12 by simp only [aJ,f_,vw,b0,b1,b2,b3,b4,b5]<;>rfl];exact pK [] 8 208 (.c (dV b5) (.k 1 (aA b1) (.k 1 (aX b4) (.k 3 (aA b3) (.k 1 (aB b2) (.k 2 (aX b1) (.k 1 (aX b0) (.n 2 .nil)))))))) (.c (mZ x.name) (.c (gY x.neg x.num x.den b a) (.c (cZ x.op) .nil)))
     .rw [show aJ x=11 by simp only [aJ,f_,vw,b0,b1,b2,b3,b4]<;>rfl];exact pK [] 6 48 (.c (dV b4) (.k 3 (aA b3) (.k 1 (aB b2) (.k 2 (aX b1) (.k 1 (aX b0) (.n 2 .nil)))))) (.c (gY x.neg x.num x.den b a) (.c (cZ x.op) .nil))
    .rcases tf (Ci x.op) with b4|b4
     .rcases tf (d_ x.neg x.num x.den) with b5|b5
      .rcases tf (decide (((0:Nat):Int)<(jd x.neg x.num x.den))) with b6|b6
       .rcases tf (vS x.name) with b7|b7
        .rw [show aJ x=0 by simp only [aJ,f_,vw,b0,b1,b2,b3,b4,b5,b6,b7]<;>rfl];exact pK [] 10 352 (.c (aX b7) (.k 1 (aA b1) (.k 1 (aX b6) (.k 3 (aA b5) (.k 3 (aA b4) (.k 1 (aB b3) (.k 1 (aB b2) (.k 2 (aX b1) (.k 1 (aX b0) (.n 2 .nil)))))))))) (.c (mZ x.name) (.c (pY x.neg x.num x.den b a) (.c (gY x.neg x.num x.den b a) (.c (cZ x.op) .nil))))
        .rw [show aJ x=12 by simp only [aJ,f_,vw,b0,b1,b2,b3,b4,b5,b6,b7]<;>rfl];exact pK [] 10 864 (.c (dV b7) (.k 1 (aA b1) (.k 1 (aX b6) (.k 3 (aA b5) (.k 3 (aA b4) (.k 1 (aB b3) (.k 1 (aB b2) (.k 2 (aX b1) (.k 1 (aX b0) (.n 2 .nil)))))))))) (.c (mZ x.name) (.c (pY x.neg x.num x.den b a) (.c (gY x.neg x.num x.den b a) (.c (cZ x.op) .nil))))
       .rw [show aJ x=11 by simp only [aJ,f_,vw,b0,b1,b2,b3,b4,b5,b6]<;>rfl];exact pK [] 8 224 (.c (dV b6) (.k 3 (aA b5) (.k 3 (aA b4) (.k 1 (aB b3) (.k 1 (aB b2) (.k 2 (aX b1) (.k 1 (aX b0) (.n 2 .nil)))))))) (.c (pY x.neg x.num x.den b a) (.c (gY x.neg x.num x.den b a) (.c (cZ x.op) .nil)))
      .rw [show aJ x=11 by simp only [aJ,f_,vw,b0,b1,b2,b3,b4,b5]<;>rfl];exact pK [] 8 160 (.k 1 (aB b5) (.k 3 (aA b4) (.k 1 (aB b3) (.k 1 (aB b2) (.k 2 (aX b1) (.k 1 (aX b0) (.n 2 .nil))))))) (.c (gY x.neg x.num x.den b a) (.c (cZ x.op) .nil))
     .rcases tf ((x.neg==false) && ((x.num== []) && ((x.den== []) && true))) with b5|b5
      .rcases tf (vS x.name) with b6|b6
       .rw [show aJ x=0 by simp only [aJ,f_,vw,b0,b1,b2,b3,b4,b5,b6]<;>rfl];exact pK [] 9 128 (.c (aX b6) (.k 1 (aA b1) (.k 1 (aX b5) (.k 3 (aB b4) (.k 1 (aB b3) (.k 1 (aB b2) (.k 2 (aX b1) (.k 1 (aX b0) (.n 2 .nil))))))))) (.c (mZ x.name) (.c (cZ x.op) .nil))
       .rw [show aJ x=12 by simp only [aJ,f_,vw,b0,b1,b2,b3,b4,b5,b6]<;>rfl];exact pK [] 9 384 (.c (dV b6) (.k 1 (aA b1) (.k 1 (aX b5) (.k 3 (aB b4) (.k 1 (aB b3) (.k 1 (aB b2) (.k 2 (aX b1) (.k 1 (aX b0) (.n 2 .nil))))))))) (.c (mZ x.name) (.c (cZ x.op) .nil))
      .rw [show aJ x=11 by simp only [aJ,f_,vw,b0,b1,b2,b3,b4,b5]<;>rfl];exact pK [] 7 64 (.c (dV b5) (.k 3 (aB b4) (.k 1 (aB b3) (.k 1 (aB b2) (.k 2 (aX b1) (.k 1 (aX b0) (.n 2 .nil))))))) (.c (cZ x.op) .nil)
  .rcases tf (x.name== []) with b2|b2
   .rcases tf (x.op==((4:Nat):Int)) with b3|b3
    .rcases tf ((x.neg==false) && ((x.num==(ae 0)) && ((x.den==(ae 1)) && true))) with b4|b4
     .rw [show aJ x=0 by simp only [aJ,f_,vw,b0,b1,b2,b3,b4]<;>rfl];exact pK [] 8 26 (.k 1 (aB b1) (.k 2 (aA b4) (.k 3 (aA b3) (.k 1 (aX b2) (.k 1 (dV b1) (.k 1 (aX b0) (.n 2 .nil))))))) (.c (jV) (.c (cZ x.op) .nil))
     .rcases tf ((x.neg==false) && ((x.num==(ae 1)) && ((x.den==(ae 1)) && true))) with b5|b5
      .rw [show aJ x=0 by simp only [aJ,f_,vw,b0,b1,b2,b3,b4,b5]<;>rfl];exact pK [] 8 10 (.k 1 (aB b1) (.k 1 (aX b5) (.k 3 (aB b4) (.k 3 (aA b3) (.k 1 (aX b2) (.k 1 (dV b1) (.k 1 (aX b0) (.n 2 .nil)))))))) (.c (wu) (.c (jV) (.c (cZ x.op) .nil)))
      .rw [show aJ x=11 by simp only [aJ,f_,vw,b0,b1,b2,b3,b4,b5]<;>rfl];exact pK [] 6 42 (.c (dV b5) (.k 3 (aB b4) (.k 3 (aA b3) (.k 1 (aX b2) (.k 1 (dV b1) (.k 1 (aX b0) (.n 2 .nil))))))) (.c (wu) (.c (jV) (.c (cZ x.op) .nil)))
    .rcases tf (BA x.op) with b4|b4
     .rcases tf (d_ x.neg x.num x.den) with b5|b5
      .rw [show aJ x=0 by simp only [aJ,f_,vw,b0,b1,b2,b3,b4,b5]<;>rfl];exact pK [] 8 18 (.k 1 (aB b1) (.k 1 (aX b5) (.k 3 (aA b4) (.k 1 (aB b3) (.k 1 (aX b2) (.k 1 (dV b1) (.k 1 (aX b0) (.n 2 .nil)))))))) (.c (gY x.neg x.num x.den b a) (.c (cZ x.op) .nil))
      .rw [show aJ x=11 by simp only [aJ,f_,vw,b0,b1,b2,b3,b4,b5]<;>rfl];exact pK [] 6 50 (.c (dV b5) (.k 3 (aA b4) (.k 1 (aB b3) (.k 1 (aX b2) (.k 1 (dV b1) (.k 1 (aX b0) (.n 2 .nil))))))) (.c (gY x.neg x.num x.den b a) (.c (cZ x.op) .nil))
     .rcases tf (Ci x.op) with b5|b5
      .rcases tf (d_ x.neg x.num x.den) with b6|b6
       .rcases tf (decide (((0:Nat):Int)<(jd x.neg x.num x.den))) with b7|b7
        .rw [show aJ x=0 by simp only [aJ,f_,vw,b0,b1,b2,b3,b4,b5,b6,b7]<;>rfl];exact pK [] 10 98 (.k 1 (aB b1) (.k 1 (aX b7) (.k 3 (aA b6) (.k 3 (aA b5) (.k 1 (aB b4) (.k 1 (aB b3) (.k 1 (aX b2) (.k 1 (dV b1) (.k 1 (aX b0) (.n 2 .nil)))))))))) (.c (pY x.neg x.num x.den b a) (.c (gY x.neg x.num x.den b a) (.c (cZ x.op) .nil)))
        .rw [show aJ x=11 by simp only [aJ,f_,vw,b0,b1,b2,b3,b4,b5,b6,b7]<;>rfl];exact pK [] 8 226 (.c (dV b7) (.k 3 (aA b6) (.k 3 (aA b5) (.k 1 (aB b4) (.k 1 (aB b3) (.k 1 (aX b2) (.k 1 (dV b1) (.k 1 (aX b0) (.n 2 .nil))))))))) (.c (pY x.neg x.num x.den b a) (.c (gY x.neg x.num x.den b a) (.c (cZ x.op) .nil)))
       .rw [show aJ x=11 by simp only [aJ,f_,vw,b0,b1,b2,b3,b4,b5,b6]<;>rfl];exact pK [] 8 162 (.k 1 (aB b6) (.k 3 (aA b5) (.k 1 (aB b4) (.k 1 (aB b3) (.k 1 (aX b2) (.k 1 (dV b1) (.k 1 (aX b0) (.n 2 .nil)))))))) (.c (gY x.neg x.num x.den b a) (.c (cZ x.op) .nil))
      .rcases tf ((x.neg==false) && ((x.num== []) && ((x.den== []) && true))) with b6|b6
       .rw [show aJ x=0 by simp only [aJ,f_,vw,b0,b1,b2,b3,b4,b5,b6]<;>rfl];exact pK [] 9 2 (.k 1 (aB b1) (.k 1 (aX b6) (.k 3 (aB b5) (.k 1 (aB b4) (.k 1 (aB b3) (.k 1 (aX b2) (.k 1 (dV b1) (.k 1 (aX b0) (.n 2 .nil))))))))) (.c (cZ x.op) .nil)
       .rw [show aJ x=11 by simp only [aJ,f_,vw,b0,b1,b2,b3,b4,b5,b6]<;>rfl];exact pK [] 7 66 (.c (dV b6) (.k 3 (aB b5) (.k 1 (aB b4) (.k 1 (aB b3) (.k 1 (aX b2) (.k 1 (dV b1) (.k 1 (aX b0) (.n 2 .nil)))))))) (.c (cZ x.op) .nil)
   .rw [show aJ x=11 by simp only [aJ,f_,vw,b0,b1,b2]<;>rfl];exact pK [] 3 6 (.c (dV b2) (.k 1 (dV b1) (.k 1 (aX b0) (.n 2 .nil)))) (.c (cZ x.op) .nil)
 .rw [show aJ x=11 by simp only [aJ,f_,vw,b0]<;>rfl];exact pK [] 2 3 (.k 1 (dV b0) (.n 2 .nil)) (.c (cZ x.op) .nil)
theorem NY (x:Nd) (a:x.sm):CO 83 [.agg (lI x)] (.ret (.bool (f_ x))):=by
 rcases tf (x.op==((4:Nat):Int)) with b0|b0
 .rcases tf ((x.neg==false) && ((x.num==(ae 0)) && ((x.den==(ae 1)) && true))) with b1|b1
  .rw [show f_ x=true by simp only [f_,vw,b0,b1]<;>rfl];exact pK [] 2 3 (.c (aA b1) (.k 3 (aA b0) (.n 1 .nil))) (.c (vZ) .nil)
  .rw [show f_ x=((x.neg==false) && ((x.num==(ae 1)) && ((x.den==(ae 1)) && true))) by simp only [f_,vw,b0,b1]<;>rfl];exact pK [] 2 1 (.k 3 (aB b1) (.k 3 (aA b0) (.n 1 .nil))) (.c (Ai) (.c (vZ) .nil))
 .rcases tf (BA x.op) with b1|b1
  .rw [show f_ x=(d_ x.neg x.num x.den) by simp only [f_,vw,b0,b1]<;>rfl];exact pK [] 2 2 (.k 3 (aA b1) (.k 1 (aB b0) (.n 1 .nil))) (.c (mM x.neg x.num x.den a.1 a.2) (.c (Ec x.op) .nil))
  .rcases tf (Ci x.op) with b2|b2
   .rcases tf (d_ x.neg x.num x.den) with b3|b3
    .rw [show f_ x=(decide (((0:Nat):Int)<(jd x.neg x.num x.den))) by simp only [f_,vw,b0,b1,b2,b3]<;>rfl];exact pK [] 4 12 (.k 3 (aA b3) (.k 3 (aA b2) (.k 1 (aB b1) (.k 1 (aB b0) (.n 1 .nil))))) (.c (BP x.neg x.num x.den a.1 a.2) (.c (mM x.neg x.num x.den a.1 a.2) (.c (LH x.op) (.c (Ec x.op) .nil))))
    .rw [show f_ x=false by simp only [f_,vw,b0,b1,b2,b3]<;>rfl];exact pK [] 4 4 (.c (aB b3) (.k 3 (aA b2) (.k 1 (aB b1) (.k 1 (aB b0) (.n 1 .nil))))) (.c (mM x.neg x.num x.den a.1 a.2) (.c (LH x.op) (.c (Ec x.op) .nil)))
   .rw [show f_ x=((x.neg==false) && ((x.num== []) && ((x.den== []) && true))) by simp only [f_,vw,b0,b1,b2]<;>rfl];exact pK [] 3 0 (.k 3 (aB b2) (.k 1 (aB b1) (.k 1 (aB b0) (.n 1 .nil)))) (.c (LH x.op) (.c (Ec x.op) .nil))
def aO (l:List Nd):List AV:=l.flatMap lI
theorem apk {nt:Nat} (g:35<=nt) (l:List Nd) (nn:Bool) (k d:Nat) (w:Int) (x:Nd) (r:List Nd) (a:(ε ((δ (k:Int))*5) (aO l))=lI x++aO r) (c:lit true (!(w==((0:Nat):Int)))=true) (i:(decide (((0:Nat):Int)<=(k:Int)))=true) (b:(decide ((k:Int)<(l.length:Int)))=true) (e:lit true (decide ((k:Int)<(l.length:Int)))=true) (f:CO 73 [.agg [ω x.op,.bool x.neg,.str x.num,.str x.den,.str x.name]] (.ret (ω w))):ψ nt f44 ⟨[(10,.sl (aO l) l.length nn),(11,ω (l.length:Int)),(12,ω (k:Int)),(3,ω (d:Int))],[],.dead,[]⟩ (.ret) ⟨[(2,ω w)],[],.dead,[]⟩:=
 have h:ψ nt f44 ⟨[(10,.sl (aO l) l.length nn),(11,ω (l.length:Int)),(12,ω (k:Int)),(3,ω (d:Int))],[],.dead,[]⟩ (.ret) ⟨[(2,ω w)],[(0,⟨[ω x.op,.bool x.neg,.str x.num,.str x.den,.str x.name],0,false,0,0,true⟩)],.dead,[]⟩:=pJ 44 [] 2 3 (.c c (.k 11 i (.c b (.c e .nil)))) (.c f (.v 14 (.ppt a) .nil)) g
 h.forgetD 0 ⟨[ω x.op,.bool x.neg,.str x.num,.str x.den,.str x.name],0,false,0,0,true⟩ (by intro v h;cases h) (by decide) rfl ⟨Fz.same rfl,trivial⟩ rfl rfl
theorem apl {nt:Nat} (o:35<=nt) (l:List Nd) (nn:Bool) (k d:Nat) (w:Int) (x:Nd) (r:List Nd) (a:(ε ((δ (k:Int))*5) (aO l))=lI x++aO r) (c:lit true (decide ((γ .i64 ((d:Int) - (Γ (θ (ε ((0+((δ x.op)*5))+1) kz) .dead))))<((0:Nat):Int)))=true) (g:(chk (.int .i64) (θ (ε ((0+((δ x.op)*5))+1) kz) .dead))=true) (b:(decide (((0:Nat):Int)<=x.op))=true) (e:(decide (x.op<((25:Nat):Int)))=true) (f:lit false (!(w==((0:Nat):Int)))=true) (j:(decide (((0:Nat):Int)<=(k:Int)))=true) (i:(decide ((k:Int)<(l.length:Int)))=true) (n:lit true (decide ((k:Int)<(l.length:Int)))=true) (m:CO 73 [.agg [ω x.op,.bool x.neg,.str x.num,.str x.den,.str x.name]] (.ret (ω w))):ψ nt f44 ⟨[(10,.sl (aO l) l.length nn),(11,ω (l.length:Int)),(12,ω (k:Int)),(3,ω (d:Int))],[],.dead,[]⟩ (.ret) ⟨[(2,ω 11)],[],.dead,[]⟩:=
 have h:ψ nt f44 ⟨[(10,.sl (aO l) l.length nn),(11,ω (l.length:Int)),(12,ω (k:Int)),(3,ω (d:Int))],[],.dead,[]⟩ (.ret) ⟨[(2,ω 11)],[(0,⟨[ω x.op,.bool x.neg,.str x.num,.str x.den,.str x.name],0,false,0,0,true⟩)],.dead,[]⟩:=pJ 44 [] 3 5 (.c c (.c g (.c b (.c e (.k 1 f (.k 11 j (.c i (.c n .nil)))))))) (.c m (.v 14 (.ppt a) .nil)) o
 h.forgetD 0 ⟨[ω x.op,.bool x.neg,.str x.num,.str x.den,.str x.name],0,false,0,0,true⟩ (by intro v h;cases h) (by decide) rfl ⟨Fz.same rfl,trivial⟩ rfl rfl
theorem apm {nt:Nat} (o:35<=nt) (l:List Nd) (nn:Bool) (k d:Nat) (w:Int) (x:Nd) (r:List Nd) (a:(ε ((δ (k:Int))*5) (aO l))=lI x++aO r) (c:lit false (decide ((γ .i64 ((d:Int) - (Γ (θ (ε ((0+((δ x.op)*5))+1) kz) .dead))))<((0:Nat):Int)))=true) (g:(chk (.int .i64) (θ (ε ((0+((δ x.op)*5))+1) kz) .dead))=true) (b:(decide (((0:Nat):Int)<=x.op))=true) (e:(decide (x.op<((25:Nat):Int)))=true) (f:lit false (!(w==((0:Nat):Int)))=true) (j:(decide (((0:Nat):Int)<=(k:Int)))=true) (i:(decide ((k:Int)<(l.length:Int)))=true) (n:lit true (decide ((k:Int)<(l.length:Int)))=true) (m:CO 73 [.agg [ω x.op,.bool x.neg,.str x.num,.str x.den,.str x.name]] (.ret (ω w))):ψ nt f44 ⟨[(10,.sl (aO l) l.length nn),(11,ω (l.length:Int)),(12,ω (k:Int)),(3,ω (d:Int))],[],.dead,[]⟩ (.normal) ⟨[(10,.sl (aO l) l.length nn),(11,ω (l.length:Int)),(12,ω (γ .i64 ((k:Int)+((1:Nat):Int)))),(3,ω (γ .i64 ((γ .i64 ((d:Int) - (Γ (θ (ε ((0+((δ x.op)*5))+1) kz) .dead))))+((1:Nat):Int))))],[],.dead,[]⟩:=
 have h:ψ nt f44 ⟨[(10,.sl (aO l) l.length nn),(11,ω (l.length:Int)),(12,ω (k:Int)),(3,ω (d:Int))],[],.dead,[]⟩ (.normal) ⟨[(10,.sl (aO l) l.length nn),(11,ω (l.length:Int)),(12,ω (γ .i64 ((k:Int)+((1:Nat):Int)))),(3,ω (γ .i64 ((γ .i64 ((d:Int) - (Γ (θ (ε ((0+((δ x.op)*5))+1) kz) .dead))))+((1:Nat):Int))))],[(0,⟨[ω x.op,.bool x.neg,.str x.num,.str x.den,.str x.name],0,false,0,0,true⟩)],.dead,[]⟩:=pJ 44 [] 3 1 (.c c (.c g (.c b (.c e (.k 1 f (.k 11 j (.c i (.c n .nil)))))))) (.c m (.v 14 (.ppt a) .nil)) o
 h.forgetD 0 ⟨[ω x.op,.bool x.neg,.str x.num,.str x.den,.str x.name],0,false,0,0,true⟩ (by intro v h;cases h) (by decide) rfl ⟨Fz.same rfl,Fz.same rfl,Fz.same rfl,Fz.same rfl,trivial⟩ rfl rfl
theorem WQ {nt:Nat} (b:35<=nt) (l:List Nd) (nn:Bool) (k d:Nat) (w:Int) (a:lit false (decide ((k:Int)<(l.length:Int)))=true):ψ nt f44 ⟨[(10,.sl (aO l) l.length nn),(11,ω (l.length:Int)),(12,ω (k:Int)),(3,ω (d:Int))],[],.dead,[]⟩ (.exit 0) ⟨[(3,ω (d:Int))],[],.dead,[]⟩:=pJ 44 [] 1 0 (.c a .nil) (.nil) b
theorem ajP (l:List Nd) (nn:Bool) (d:Nat) (a:lit true (decide (((60:Nat):Int)<(l.length:Int)))=true):CO 44 [.sl (aO l) l.length nn] (.ret (ω 2)):=pK [0] 1 1 (.c a .nil) (.nil)
theorem ajQ (l:List Nd) (nn:Bool) (d:Nat) (a:lit true (!((d:Int)==((1:Nat):Int)))=true) (b:lit false (decide (((60:Nat):Int)<(l.length:Int)))=true) (c:aK prog ap [] 35 (.block 0 (.loop (af 0 (ah f44)))) ⟨[(0,.sl (aO l) l.length nn),(2,ω 0),(3,ω 0),(5,.dead),(6,.dead),(9,.bool (decide (((60:Nat):Int)<(l.length:Int)))),(10,.sl (aO l) l.length nn),(11,ω (l.length:Int)),(12,ω 0),(13,.dead),(19,.dead),(29,.dead),(34,.dead)],[],.dead,[]⟩ (.normal) ⟨[(3,ω (d:Int))],[],.dead,[]⟩):CO 44 [.sl (aO l) l.length nn] (.ret (ω 11)):=pK [0] 2 2 (.c a (.c b .nil)) (.l c .nil)
theorem ajR (l:List Nd) (nn:Bool) (d:Nat) (a:lit false (!((d:Int)==((1:Nat):Int)))=true) (b:lit false (decide (((60:Nat):Int)<(l.length:Int)))=true) (c:aK prog ap [] 35 (.block 0 (.loop (af 0 (ah f44)))) ⟨[(0,.sl (aO l) l.length nn),(2,ω 0),(3,ω 0),(5,.dead),(6,.dead),(9,.bool (decide (((60:Nat):Int)<(l.length:Int)))),(10,.sl (aO l) l.length nn),(11,ω (l.length:Int)),(12,ω 0),(13,.dead),(19,.dead),(29,.dead),(34,.dead)],[],.dead,[]⟩ (.normal) ⟨[(3,ω (d:Int))],[],.dead,[]⟩):CO 44 [.sl (aO l) l.length nn] (.ret (ω 0)):=pK [0] 2 0 (.c a (.c b .nil)) (.l c .nil)
theorem ajS (l:List Nd) (nn:Bool) (w:Int) (a:lit false (decide (((60:Nat):Int)<(l.length:Int)))=true) (b:aK prog ap [] 35 (.block 0 (.loop (af 0 (ah f44)))) ⟨[(0,.sl (aO l) l.length nn),(2,ω 0),(3,ω 0),(5,.dead),(6,.dead),(9,.bool (decide (((60:Nat):Int)<(l.length:Int)))),(10,.sl (aO l) l.length nn),(11,ω (l.length:Int)),(12,ω 0),(13,.dead),(19,.dead),(29,.dead),(34,.dead)],[],.dead,[]⟩ (.ret) ⟨[(2,ω w)],[],.dead,[]⟩):CO 44 [.sl (aO l) l.length nn] (.ret (ω w)):=pK [0] 1 0 (.c a .nil) (.l b .nil)
theorem ang {nt:Nat} (j:69<=nt) (l:List Nd) (nn:Bool) (k d:Nat) (m nm:Bool) (x:Nd) (r:List Nd) (a:(ε ((δ (k:Int))*5) (aO l))=lI x++aO r) (c:lit true (decide (x.op<((1:Nat):Int)))=true) (f:(decide (((0:Nat):Int)<=(k:Int)))=true) (b:(decide ((k:Int)<(l.length:Int)))=true) (e:lit true (decide ((k:Int)<(l.length:Int)))=true) (i:CO 82 [ω x.op] (.ret (.bool (gV x.op)))) (g:CO 83 [.agg [ω x.op,.bool x.neg,.str x.num,.str x.den,.str x.name]] (.ret (.bool m))):ψ nt f50 ⟨[(0,.sl (aO l) l.length nn),(4,ω (k:Int)),(3,ω (d:Int))],[],.dead,[]⟩ (.ret) ⟨[(2,ω 11)],[],.dead,[]⟩:=
 have h:ψ nt f50 ⟨[(0,.sl (aO l) l.length nn),(4,ω (k:Int)),(3,ω (d:Int))],[],.dead,[]⟩ (.ret) ⟨[(2,ω 11)],[(0,⟨[ω x.op,.bool x.neg,.str x.num,.str x.den,.str x.name],0,false,0,0,true⟩)],.dead,[]⟩:=pJ 50 [] 5 31 (.k 3 c (.k 13 f (.c b (.c e .nil)))) (.c g (.c i (.v 21 (.ppt a) .nil))) j
 h.forgetD 0 ⟨[ω x.op,.bool x.neg,.str x.num,.str x.den,.str x.name],0,false,0,0,true⟩ (by intro v h;cases h) (by decide) rfl ⟨Fz.same rfl,trivial⟩ rfl rfl
theorem anh {nt:Nat} (m:69<=nt) (l:List Nd) (nn:Bool) (k d:Nat) (n nm:Bool) (x:Nd) (r:List Nd) (a:(ε ((δ (k:Int))*5) (aO l))=lI x++aO r) (c:lit true (decide (((24:Nat):Int)<x.op))=true) (f:lit false (decide (x.op<((1:Nat):Int)))=true) (b:(decide (((0:Nat):Int)<=(k:Int)))=true) (e:(decide ((k:Int)<(l.length:Int)))=true) (g:lit true (decide ((k:Int)<(l.length:Int)))=true) (j:CO 82 [ω x.op] (.ret (.bool (gV x.op)))) (i:CO 83 [.agg [ω x.op,.bool x.neg,.str x.num,.str x.den,.str x.name]] (.ret (.bool n))):ψ nt f50 ⟨[(0,.sl (aO l) l.length nn),(4,ω (k:Int)),(3,ω (d:Int))],[],.dead,[]⟩ (.ret) ⟨[(2,ω 11)],[],.dead,[]⟩:=
 have h:ψ nt f50 ⟨[(0,.sl (aO l) l.length nn),(4,ω (k:Int)),(3,ω (d:Int))],[],.dead,[]⟩ (.ret) ⟨[(2,ω 11)],[(0,⟨[ω x.op,.bool x.neg,.str x.num,.str x.den,.str x.name],0,false,0,0,true⟩)],.dead,[]⟩:=pJ 50 [] 5 29 (.k 2 c (.k 1 f (.k 13 b (.c e (.c g .nil))))) (.c i (.c j (.v 21 (.ppt a) .nil))) m
 h.forgetD 0 ⟨[ω x.op,.bool x.neg,.str x.num,.str x.den,.str x.name],0,false,0,0,true⟩ (by intro v h;cases h) (by decide) rfl ⟨Fz.same rfl,trivial⟩ rfl rfl
theorem ani {nt:Nat} (o:69<=nt) (l:List Nd) (nn:Bool) (k d:Nat) (b nm:Bool) (x:Nd) (r:List Nd) (a:(ε ((δ (k:Int))*5) (aO l))=lI x++aO r) (e:lit true (!b)=true) (i:lit false (decide (((24:Nat):Int)<x.op))=true) (c:lit false (decide (x.op<((1:Nat):Int)))=true) (f:(decide (((0:Nat):Int)<=(k:Int)))=true) (g:(decide ((k:Int)<(l.length:Int)))=true) (m:lit true (decide ((k:Int)<(l.length:Int)))=true) (n:CO 82 [ω x.op] (.ret (.bool (gV x.op)))) (j:CO 83 [.agg [ω x.op,.bool x.neg,.str x.num,.str x.den,.str x.name]] (.ret (.bool b))):ψ nt f50 ⟨[(0,.sl (aO l) l.length nn),(4,ω (k:Int)),(3,ω (d:Int))],[],.dead,[]⟩ (.ret) ⟨[(2,ω 11)],[],.dead,[]⟩:=
 have h:ψ nt f50 ⟨[(0,.sl (aO l) l.length nn),(4,ω (k:Int)),(3,ω (d:Int))],[],.dead,[]⟩ (.ret) ⟨[(2,ω 11)],[(0,⟨[ω x.op,.bool x.neg,.str x.num,.str x.den,.str x.name],0,false,0,0,true⟩)],.dead,[]⟩:=pJ 50 [] 5 25 (.k 1 e (.c i (.k 1 c (.k 13 f (.c g (.c m .nil)))))) (.c j (.c n (.v 21 (.ppt a) .nil))) o
 h.forgetD 0 ⟨[ω x.op,.bool x.neg,.str x.num,.str x.den,.str x.name],0,false,0,0,true⟩ (by intro v h;cases h) (by decide) rfl ⟨Fz.same rfl,trivial⟩ rfl rfl
theorem anj {nt:Nat} (q:69<=nt) (l:List Nd) (nn:Bool) (k d:Nat) (b nm:Bool) (x:Nd) (r:List Nd) (a:(ε ((δ (k:Int))*5) (aO l))=lI x++aO r) (e:lit true (!(x.name== []))=true) (i:lit true (!(gV x.op))=true) (c:lit false (!b)=true) (f:lit false (decide (((24:Nat):Int)<x.op))=true) (g:lit false (decide (x.op<((1:Nat):Int)))=true) (n:(decide (((0:Nat):Int)<=(k:Int)))=true) (m:(decide ((k:Int)<(l.length:Int)))=true) (p:lit true (decide ((k:Int)<(l.length:Int)))=true) (o:CO 82 [ω x.op] (.ret (.bool (gV x.op)))) (j:CO 83 [.agg [ω x.op,.bool x.neg,.str x.num,.str x.den,.str x.name]] (.ret (.bool b))):ψ nt f50 ⟨[(0,.sl (aO l) l.length nn),(4,ω (k:Int)),(3,ω (d:Int))],[],.dead,[]⟩ (.ret) ⟨[(2,ω 11)],[],.dead,[]⟩:=
 have h:ψ nt f50 ⟨[(0,.sl (aO l) l.length nn),(4,ω (k:Int)),(3,ω (d:Int))],[],.dead,[]⟩ (.ret) ⟨[(2,ω 11)],[(0,⟨[ω x.op,.bool x.neg,.str x.num,.str x.den,.str x.name],0,false,0,0,true⟩)],.dead,[]⟩:=pJ 50 [] 6 49 (.c e (.k 1 i (.c c (.c f (.k 1 g (.k 13 n (.c m (.c p .nil)))))))) (.c j (.c o (.v 21 (.ppt a) .nil))) q
 h.forgetD 0 ⟨[ω x.op,.bool x.neg,.str x.num,.str x.den,.str x.name],0,false,0,0,true⟩ (by intro v h;cases h) (by decide) rfl ⟨Fz.same rfl,trivial⟩ rfl rfl
theorem ank {nt:Nat} (w:69<=nt) (l:List Nd) (nn:Bool) (k d:Nat) (b nm:Bool) (x:Nd) (r:List Nd) (a:(ε ((δ (k:Int))*5) (aO l))=lI x++aO r) (e:lit true (decide ((d:Int)<(((dh x.op):Nat):Int)))=true) (i:lit false (gV x.op)=true) (c:lit false (!(x.name== []))=true) (f:lit true (!(gV x.op))=true) (g:lit false (!b)=true) (o:lit false (decide (((24:Nat):Int)<x.op))=true) (n:lit false (decide (x.op<((1:Nat):Int)))=true) (s:(decide (((0:Nat):Int)<=(k:Int)))=true) (j:(decide ((k:Int)<(l.length:Int)))=true) (t:lit true (decide ((k:Int)<(l.length:Int)))=true) (q:CO 82 [ω x.op] (.ret (.bool (gV x.op)))) (m:CO 83 [.agg [ω x.op,.bool x.neg,.str x.num,.str x.den,.str x.name]] (.ret (.bool b))) (p:CO 84 [.str x.name] (.ret (.bool nm))) (u:CO 85 [ω x.op] (.ret (ω (((dh x.op):Nat):Int)))):ψ nt f50 ⟨[(0,.sl (aO l) l.length nn),(4,ω (k:Int)),(3,ω (d:Int))],[],.dead,[]⟩ (.ret) ⟨[(2,ω 11)],[],.dead,[]⟩:=
 have h:ψ nt f50 ⟨[(0,.sl (aO l) l.length nn),(4,ω (k:Int)),(3,ω (d:Int))],[],.dead,[]⟩ (.ret) ⟨[(2,ω 11)],[(0,⟨[ω x.op,.bool x.neg,.str x.num,.str x.den,.str x.name],0,false,0,0,true⟩)],.dead,[]⟩:=pJ 50 [] 9 273 (.c e (.k 2 i (.k 1 c (.k 1 f (.c g (.c o (.k 1 n (.k 13 s (.c j (.c t .nil)))))))))) (.c u (.c p (.c m (.c q (.v 21 (.ppt a) .nil))))) w
 h.forgetD 0 ⟨[ω x.op,.bool x.neg,.str x.num,.str x.den,.str x.name],0,false,0,0,true⟩ (by intro v h;cases h) (by decide) rfl ⟨Fz.same rfl,trivial⟩ rfl rfl
theorem anl {nt:Nat} (w:69<=nt) (l:List Nd) (nn:Bool) (k d:Nat) (b nm:Bool) (x:Nd) (r:List Nd) (a:(ε ((δ (k:Int))*5) (aO l))=lI x++aO r) (e:lit false (decide ((d:Int)<(((dh x.op):Nat):Int)))=true) (i:lit false (gV x.op)=true) (c:lit false (!(x.name== []))=true) (f:lit true (!(gV x.op))=true) (g:lit false (!b)=true) (o:lit false (decide (((24:Nat):Int)<x.op))=true) (n:lit false (decide (x.op<((1:Nat):Int)))=true) (s:(decide (((0:Nat):Int)<=(k:Int)))=true) (j:(decide ((k:Int)<(l.length:Int)))=true) (t:lit true (decide ((k:Int)<(l.length:Int)))=true) (q:CO 82 [ω x.op] (.ret (.bool (gV x.op)))) (m:CO 83 [.agg [ω x.op,.bool x.neg,.str x.num,.str x.den,.str x.name]] (.ret (.bool b))) (p:CO 84 [.str x.name] (.ret (.bool nm))) (u:CO 85 [ω x.op] (.ret (ω (((dh x.op):Nat):Int)))):ψ nt f50 ⟨[(0,.sl (aO l) l.length nn),(4,ω (k:Int)),(3,ω (d:Int))],[],.dead,[]⟩ (.normal) ⟨[(0,.sl (aO l) l.length nn),(4,ω (γ .i64 ((k:Int)+((1:Nat):Int)))),(3,ω (γ .i64 ((γ .i64 ((d:Int) - (((dh x.op):Nat):Int)))+((1:Nat):Int))))],[],.dead,[]⟩:=
 have h:ψ nt f50 ⟨[(0,.sl (aO l) l.length nn),(4,ω (k:Int)),(3,ω (d:Int))],[],.dead,[]⟩ (.normal) ⟨[(0,.sl (aO l) l.length nn),(4,ω (γ .i64 ((k:Int)+((1:Nat):Int)))),(3,ω (γ .i64 ((γ .i64 ((d:Int) - (((dh x.op):Nat):Int)))+((1:Nat):Int))))],[(0,⟨[ω x.op,.bool x.neg,.str x.num,.str x.den,.str x.name],0,false,0,0,true⟩)],.dead,[]⟩:=pJ 50 [] 9 17 (.c e (.k 2 i (.k 1 c (.k 1 f (.c g (.c o (.k 1 n (.k 13 s (.c j (.c t .nil)))))))))) (.c u (.c p (.c m (.c q (.v 21 (.ppt a) .nil))))) w
 h.forgetD 0 ⟨[ω x.op,.bool x.neg,.str x.num,.str x.den,.str x.name],0,false,0,0,true⟩ (by intro v h;cases h) (by decide) rfl ⟨Fz.same rfl,Fz.same rfl,Fz.same rfl,trivial⟩ rfl rfl
theorem anm {nt:Nat} (t:69<=nt) (l:List Nd) (nn:Bool) (k d:Nat) (b nm:Bool) (x:Nd) (r:List Nd) (a:(ε ((δ (k:Int))*5) (aO l))=lI x++aO r) (e:lit true (!nm)=true) (i:lit true (gV x.op)=true) (c:lit false (!(gV x.op))=true) (f:lit false (!b)=true) (g:lit false (decide (((24:Nat):Int)<x.op))=true) (o:lit false (decide (x.op<((1:Nat):Int)))=true) (n:(decide (((0:Nat):Int)<=(k:Int)))=true) (s:(decide ((k:Int)<(l.length:Int)))=true) (j:lit true (decide ((k:Int)<(l.length:Int)))=true) (q:CO 82 [ω x.op] (.ret (.bool (gV x.op)))) (m:CO 83 [.agg [ω x.op,.bool x.neg,.str x.num,.str x.den,.str x.name]] (.ret (.bool b))) (p:CO 84 [.str x.name] (.ret (.bool nm))):ψ nt f50 ⟨[(0,.sl (aO l) l.length nn),(4,ω (k:Int)),(3,ω (d:Int))],[],.dead,[]⟩ (.ret) ⟨[(2,ω 12)],[],.dead,[]⟩:=
 have h:ψ nt f50 ⟨[(0,.sl (aO l) l.length nn),(4,ω (k:Int)),(3,ω (d:Int))],[],.dead,[]⟩ (.ret) ⟨[(2,ω 12)],[(0,⟨[ω x.op,.bool x.neg,.str x.num,.str x.den,.str x.name],0,false,0,0,true⟩)],.dead,[]⟩:=pJ 50 [] 8 193 (.c e (.c i (.k 2 c (.c f (.c g (.k 1 o (.k 13 n (.c s (.c j .nil))))))))) (.c p (.c m (.c q (.v 21 (.ppt a) .nil)))) t
 h.forgetD 0 ⟨[ω x.op,.bool x.neg,.str x.num,.str x.den,.str x.name],0,false,0,0,true⟩ (by intro v h;cases h) (by decide) rfl ⟨Fz.same rfl,trivial⟩ rfl rfl
theorem ann {nt:Nat} (w:69<=nt) (l:List Nd) (nn:Bool) (k d:Nat) (b nm:Bool) (x:Nd) (r:List Nd) (a:(ε ((δ (k:Int))*5) (aO l))=lI x++aO r) (e:lit true (decide ((d:Int)<(((dh x.op):Nat):Int)))=true) (i:lit false (!nm)=true) (c:lit true (gV x.op)=true) (f:lit false (!(gV x.op))=true) (g:lit false (!b)=true) (o:lit false (decide (((24:Nat):Int)<x.op))=true) (n:lit false (decide (x.op<((1:Nat):Int)))=true) (s:(decide (((0:Nat):Int)<=(k:Int)))=true) (j:(decide ((k:Int)<(l.length:Int)))=true) (t:lit true (decide ((k:Int)<(l.length:Int)))=true) (q:CO 82 [ω x.op] (.ret (.bool (gV x.op)))) (m:CO 83 [.agg [ω x.op,.bool x.neg,.str x.num,.str x.den,.str x.name]] (.ret (.bool b))) (p:CO 84 [.str x.name] (.ret (.bool nm))) (u:CO 85 [ω x.op] (.ret (ω (((dh x.op):Nat):Int)))):ψ nt f50 ⟨[(0,.sl (aO l) l.length nn),(4,ω (k:Int)),(3,ω (d:Int))],[],.dead,[]⟩ (.ret) ⟨[(2,ω 11)],[],.dead,[]⟩:=
 have h:ψ nt f50 ⟨[(0,.sl (aO l) l.length nn),(4,ω (k:Int)),(3,ω (d:Int))],[],.dead,[]⟩ (.ret) ⟨[(2,ω 11)],[(0,⟨[ω x.op,.bool x.neg,.str x.num,.str x.den,.str x.name],0,false,0,0,true⟩)],.dead,[]⟩:=pJ 50 [] 9 321 (.c e (.k 1 i (.c c (.k 2 f (.c g (.c o (.k 1 n (.k 13 s (.c j (.c t .nil)))))))))) (.c u (.c p (.c m (.c q (.v 21 (.ppt a) .nil))))) w
 h.forgetD 0 ⟨[ω x.op,.bool x.neg,.str x.num,.str x.den,.str x.name],0,false,0,0,true⟩ (by intro v h;cases h) (by decide) rfl ⟨Fz.same rfl,trivial⟩ rfl rfl
theorem ano {nt:Nat} (w:69<=nt) (l:List Nd) (nn:Bool) (k d:Nat) (b nm:Bool) (x:Nd) (r:List Nd) (a:(ε ((δ (k:Int))*5) (aO l))=lI x++aO r) (e:lit false (decide ((d:Int)<(((dh x.op):Nat):Int)))=true) (i:lit false (!nm)=true) (c:lit true (gV x.op)=true) (f:lit false (!(gV x.op))=true) (g:lit false (!b)=true) (o:lit false (decide (((24:Nat):Int)<x.op))=true) (n:lit false (decide (x.op<((1:Nat):Int)))=true) (s:(decide (((0:Nat):Int)<=(k:Int)))=true) (j:(decide ((k:Int)<(l.length:Int)))=true) (t:lit true (decide ((k:Int)<(l.length:Int)))=true) (q:CO 82 [ω x.op] (.ret (.bool (gV x.op)))) (m:CO 83 [.agg [ω x.op,.bool x.neg,.str x.num,.str x.den,.str x.name]] (.ret (.bool b))) (p:CO 84 [.str x.name] (.ret (.bool nm))) (u:CO 85 [ω x.op] (.ret (ω (((dh x.op):Nat):Int)))):ψ nt f50 ⟨[(0,.sl (aO l) l.length nn),(4,ω (k:Int)),(3,ω (d:Int))],[],.dead,[]⟩ (.normal) ⟨[(0,.sl (aO l) l.length nn),(4,ω (γ .i64 ((k:Int)+((1:Nat):Int)))),(3,ω (γ .i64 ((γ .i64 ((d:Int) - (((dh x.op):Nat):Int)))+((1:Nat):Int))))],[],.dead,[]⟩:=
 have h:ψ nt f50 ⟨[(0,.sl (aO l) l.length nn),(4,ω (k:Int)),(3,ω (d:Int))],[],.dead,[]⟩ (.normal) ⟨[(0,.sl (aO l) l.length nn),(4,ω (γ .i64 ((k:Int)+((1:Nat):Int)))),(3,ω (γ .i64 ((γ .i64 ((d:Int) - (((dh x.op):Nat):Int)))+((1:Nat):Int))))],[(0,⟨[ω x.op,.bool x.neg,.str x.num,.str x.den,.str x.name],0,false,0,0,true⟩)],.dead,[]⟩:=pJ 50 [] 9 65 (.c e (.k 1 i (.c c (.k 2 f (.c g (.c o (.k 1 n (.k 13 s (.c j (.c t .nil)))))))))) (.c u (.c p (.c m (.c q (.v 21 (.ppt a) .nil))))) w
 h.forgetD 0 ⟨[ω x.op,.bool x.neg,.str x.num,.str x.den,.str x.name],0,false,0,0,true⟩ (by intro v h;cases h) (by decide) rfl ⟨Fz.same rfl,Fz.same rfl,Fz.same rfl,trivial⟩ rfl rfl
theorem Vs {nt:Nat} (b:69<=nt) (l:List Nd) (nn:Bool) (k d:Nat) (c nm:Bool) (a:lit false (decide ((k:Int)<(l.length:Int)))=true):ψ nt f50 ⟨[(0,.sl (aO l) l.length nn),(4,ω (k:Int)),(3,ω (d:Int))],[],.dead,[]⟩ (.exit 0) ⟨[(3,ω (d:Int))],[],.dead,[]⟩:=pJ 50 [] 1 0 (.c a .nil) (.nil) b
theorem ahR (l:List Nd) (nn:Bool) (d:Nat) (a:lit true (decide (((60:Nat):Int)<(l.length:Int)))=true):CO 50 [.sl (aO l) l.length nn] (.ret (ω 2)):=pK [0] 1 1 (.c a .nil) (.nil)
theorem ahS (l:List Nd) (nn:Bool) (d:Nat) (a:lit true (!((d:Int)==((1:Nat):Int)))=true) (b:lit false (decide (((60:Nat):Int)<(l.length:Int)))=true) (c:aK prog ap [] 69 (.block 0 (.loop (af 0 (ah f50)))) ⟨[(0,.sl (aO l) l.length nn),(2,ω 0),(3,ω 0),(4,ω 0),(5,.dead),(6,.dead),(7,.dead),(8,.dead),(9,.dead),(12,.bool (decide (((60:Nat):Int)<(l.length:Int)))),(16,.dead),(48,.dead),(56,.dead),(62,.dead),(68,.dead)],[],.dead,[]⟩ (.normal) ⟨[(3,ω (d:Int))],[],.dead,[]⟩):CO 50 [.sl (aO l) l.length nn] (.ret (ω 11)):=pK [0] 2 2 (.c a (.c b .nil)) (.l c .nil)
theorem ahT (l:List Nd) (nn:Bool) (d:Nat) (a:lit false (!((d:Int)==((1:Nat):Int)))=true) (b:lit false (decide (((60:Nat):Int)<(l.length:Int)))=true) (c:aK prog ap [] 69 (.block 0 (.loop (af 0 (ah f50)))) ⟨[(0,.sl (aO l) l.length nn),(2,ω 0),(3,ω 0),(4,ω 0),(5,.dead),(6,.dead),(7,.dead),(8,.dead),(9,.dead),(12,.bool (decide (((60:Nat):Int)<(l.length:Int)))),(16,.dead),(48,.dead),(56,.dead),(62,.dead),(68,.dead)],[],.dead,[]⟩ (.normal) ⟨[(3,ω (d:Int))],[],.dead,[]⟩):CO 50 [.sl (aO l) l.length nn] (.ret (ω 0)):=pK [0] 2 0 (.c a (.c b .nil)) (.l c .nil)
theorem ahU (l:List Nd) (nn:Bool) (w:Int) (a:lit false (decide (((60:Nat):Int)<(l.length:Int)))=true) (b:aK prog ap [] 69 (.block 0 (.loop (af 0 (ah f50)))) ⟨[(0,.sl (aO l) l.length nn),(2,ω 0),(3,ω 0),(4,ω 0),(5,.dead),(6,.dead),(7,.dead),(8,.dead),(9,.dead),(12,.bool (decide (((60:Nat):Int)<(l.length:Int)))),(16,.dead),(48,.dead),(56,.dead),(62,.dead),(68,.dead)],[],.dead,[]⟩ (.ret) ⟨[(2,ω w)],[],.dead,[]⟩):CO 50 [.sl (aO l) l.length nn] (.ret (ω w)):=pK [0] 1 0 (.c a .nil) (.l b .nil)
theorem NS (x:Nd) (r:List Nd):aO (x::r)=lI x++aO r:=rfl
theorem KN (a b:List Nd):aO (a++b)=aO a++aO b:=by unfold aO;rw [List.flatMap_append]
theorem aQ (l:List Nd):(aO l).length=l.length*5:=by
 induction l with
 |nil=>rfl
 |cons x r ih=>rw [NS,η,ih,ν];simp [lI];omega
theorem wZ {p r:List Nd} {x:Nd} {k:Nat} (h:k=p.length):ε (δ (k:Int)*5) (aO (p++x::r))=lI x++aO r:=by
 subst h;rw [aC,KN,NS,<- aQ,List.drop_left]
def iV:List Nd->Nat->Nat ⊕ Int
 | [],d=> .inl d
 |x::r,d=>if aJ x=0 then (if d<dh x.op then .inr 11 else iV r (d - dh x.op+1)) else .inr (aJ x)
def di (l:List Nd):Int:=if 60<l.length then 2 else match iV l 0 with| .inl d=>if d=1 then 0 else 11| .inr w=>w
def MM:Nat ⊕ Int->bI
 | .inl _=> .exit 0
 | .inr _=> .ret
def Uu (l:List Nd) (nn:Bool) (p:Nat × Nat):St:=⟨[(10,.sl (aO l) l.length nn),(11,ω (l.length:Int)),(12,ω (p.1:Int)),(3,ω (p.2:Int))],[],.dead,[]⟩
def CX:Nat ⊕ Int->St
 | .inl d=> ⟨[(3,.int .i64 (d:Int))],[],.dead,[]⟩
 | .inr w=> ⟨[(2,.int .i64 w)],[],.dead,[]⟩
theorem yj (a:Int):dh a<=3:=by unfold dh;(repeat' split)<;>omega
theorem sZ {x:Nd} (h:aJ x=0):1<=x.op/\x.op<=24:=by
 cases a:R_ x.op with
 |true=>simpa [R_] using a
 |false=>unfold aJ at h;rw [a] at h;simp at h
theorem WR {nt:Nat} (j:35<=nt) (l p r:List Nd) (nn:Bool) (x:Nd) (d:Nat) (t:x.sm) (m:l=p++x::r) (q:l.length<2^40) (hd:d<2^41):
  (¬ aJ x=0->ψ nt f44 (Uu l nn (p.length,d)) .ret (CX (.inr (aJ x))))/\
  (aJ x=0->d<dh x.op->ψ nt f44 (Uu l nn (p.length,d)) .ret (CX (.inr 11)))/\
  (aJ x=0->¬ d<dh x.op->ψ nt f44 (Uu l nn (p.length,d)) .normal (Uu l nn (p.length+1,d - dh x.op+1))):=by
 have c:ε (δ (p.length:Int)*5) (aO l)=lI x++aO r:=by rw [m];exact wZ rfl
 have n:p.length+(r.length+1)=l.length:=by rw [m];simp
 have k:=aad x t;have s:=yj x.op;unfold Uu CX;refine ⟨λb=> ?_,λb o=> ?_,λb o=> ?_⟩
 .have a:=apk j l nn p.length d (aJ x) x r c;have e:(!(aJ x==((0:Nat):Int)))=true:=by simpa using b
  simp (disch:=first|omega|(simp [au,ay]<;>omega)) only [e,bD,dG,bi,aZ] at a;apply a<;>first|exact True.intro|omega|assumption|exact rfl
 .obtain ⟨i,f⟩:=sZ b;have g:=QP i f;rw [b] at k;have a:=apl j l nn p.length d 0 x r c;have h:γ .i64 ((d:Int) - ((dh x.op:Nat):Int))=(d:Int) - (dh x.op:Int):=bG (by omega) (by omega);simp (disch:=first|omega|(simp [au,ay]<;>omega)) only [Ψ,g,bf,h,bD,bi,eF,dP,dY,Dp,dG,aZ] at a;apply a<;>first|exact True.intro|omega|assumption|exact rfl
 .obtain ⟨i,f⟩:=sZ b;have g:=QP i f;rw [b] at k;have a:=apm j l nn p.length d 0 x r c;have h:γ .i64 ((d:Int) - ((dh x.op:Nat):Int))=((d - dh x.op:Nat):Int):=by rw [bG]<;>omega
  simp (disch:=first|omega|(simp [au,ay]<;>omega)) only [Ψ,g,bf,h,aZ,dP,dY,fA,eF,bi,Dp,dG,bD,bQ,aS] at a;apply a<;>first|exact True.intro|omega|assumption|exact rfl
theorem aaO {nt:Nat} (c:35<=nt) (l:List Nd) (nn:Bool) (a:l.length<2^40) (b:∀ x ∈ l,x.sm):∀ (r p:List Nd) (d:Nat),p++r=l->d<=p.length->az prog ap [] nt (af 0 (ah f44)) MM (Uu l nn) CX (p.length,d) (iV r d):=by
 intro r
 induction r with
 |nil=>
  intro p d h _;have hp:p.length=l.length:=by rw [<- h];simp
  rw [hp];exact .done (WQ c l nn l.length d 0 (by rw [aZ];simp [lit]))
 | cons x r ih=>
  intro p d h hd;have i:p.length+(r.length+1)=l.length:=by rw [<- h];simp
  obtain ⟨e,f,g⟩:=WR c l p r nn x d (b x (by rw [<- h];simp)) h.symm a (by omega);simp only [iV];by_cases h1:aJ x=0
  .rw [if_pos h1];by_cases h2:d<dh x.op
   .rw [if_pos h2];exact .done (f h1 h2)
   .rw [if_neg h2];have hnext:=ih (p++ [x]) (d - dh x.op+1) (by simp [h]) (by simp;omega);rw [η,τ] at hnext;exact .next (g h1 h2) hnext
  .rw [if_neg h1];exact .done (e h1)
theorem EQ (l:List Nd) (nn:Bool) (b:∀ x ∈ l,x.sm):CO 44 [.sl (aO l) l.length nn] (.ret (ω (di l))):=by
 unfold di;by_cases h60:60<l.length
 .rw [if_pos h60];exact ajP l nn 0 (by rw [aZ];exact Yq0 h60)
 .rw [if_neg h60];have a:lit false (decide (((60:Nat):Int)<(l.length:Int)))=true:=by rw [aZ];simp only [lit,Xqq];exact Yq1 h60
  have hloop:=λnt (hn:35<=nt)=>aaO hn l nn (by omega) b l [] 0 rfl (by simp)
  cases c:iV l 0 with
  | inl d=>
   rw [c] at hloop;by_cases hd:d=1
   .have h:=ajR l nn d (by rw [jY,Yq0 hd];rfl) a;simp only [if_pos hd];exact h (az.blk hloop (by simp [MM]) rfl (aN.of ⟨rfl,rfl,rfl,rfl,trivial⟩) (aN.of ⟨rfl,trivial⟩))
   .have h:=ajQ l nn d (by rw [jY,Yq1 hd];rfl) a;simp only [if_neg hd];exact h (az.blk hloop (by simp [MM]) rfl (aN.of ⟨rfl,rfl,rfl,rfl,trivial⟩) (aN.of ⟨rfl,trivial⟩))
  |inr w=>
   rw [c] at hloop;exact ajS l nn w a (az.blk hloop (by simp [MM]) rfl (aN.of ⟨rfl,rfl,rfl,rfl,trivial⟩) (aN.of ⟨rfl,trivial⟩))
def Ju (l:List Nd) (nn:Bool) (p:Nat × Nat):St:=⟨[(0,.sl (aO l) l.length nn),(4,ω (p.1:Int)),(3,ω (p.2:Int))],[],.dead,[]⟩
theorem Hy {x:Nd} (h:R_ x.op=false\/f_ x=false\/(gV x.op=false/\(x.name== [])=false)):aJ x=11:=by
 unfold aJ;rcases h with h|h|⟨h,a⟩
 .rw [h];rfl
 .rw [h];cases (!R_ x.op||(!gV x.op && !(x.name== [])))<;>rfl
 .rw [h,a];cases R_ x.op<;>rfl
theorem Vt {nt:Nat} (n:69<=nt) (l p r:List Nd) (nn:Bool) (x:Nd) (d:Nat) (C:x.sm) (w:l=p++x::r) (A:l.length<2^40) (hd:d<2^41):
  (¬ aJ x=0->ψ nt f50 (Ju l nn (p.length,d)) .ret (CX (.inr (aJ x))))/\
  (aJ x=0->d<dh x.op->ψ nt f50 (Ju l nn (p.length,d)) .ret (CX (.inr 11)))/\
  (aJ x=0->¬ d<dh x.op->ψ nt f50 (Ju l nn (p.length,d)) .normal (Ju l nn (p.length+1,d - dh x.op+1))):=by
 have b:ε (δ (p.length:Int)*5) (aO l)=lI x++aO r:=by rw [w];exact wZ rfl
 have z:p.length+(r.length+1)=l.length:=by rw [w];simp
 have k0:=acg x.op;have k1:=NY x C;have k2:=Zf x.name;have k3:=Q4 x.op;have B:=yj x.op;have m:decide (((0:Nat):Int)<=(p.length:Int))=true:=by simp
 have g:decide ((p.length:Int)<(l.length:Int))=true:=by rw [aZ];exact Yq0 (by omega)
 have j:lit true (decide ((p.length:Int)<(l.length:Int)))=true:=g;have y:¬ d<dh x.op->γ .i64 ((d:Int) - ((dh x.op:Nat):Int))=((d - dh x.op:Nat):Int):=λh=>by rw [bG]<;>omega
 unfold Ju CX;cases t:R_ x.op with
 | false=>
  have f:aJ x=11:=Hy (.inl t);rw [f];refine ⟨λ_=> ?_,λc=>(by simp at c),λc=>(by simp at c)⟩;have v:x.op<1\/24<x.op:=by
   have:¬ (1<=x.op/\x.op<=24):=by simpa [R_] using t
   omega
  by_cases c:x.op<1
  .exact ang n l nn p.length d (f_ x) true x r b (by simp [lit];omega) m g j k0 k1
  .exact anh n l nn p.length d (f_ x) true x r b (by simp [lit];omega) (by simp [lit];omega) m g j k0 k1
 | true=>
  have v:1<=x.op/\x.op<=24:=by simpa [R_] using t
  have o:lit false (decide (((24:Nat):Int)<x.op))=true:=by simp [lit];omega
  have q:lit false (decide (x.op<((1:Nat):Int)))=true:=by simp [lit];omega
  cases s:f_ x with
  |false=>
   have f:aJ x=11:=Hy (.inr (.inl s));rw [f];rw [s] at k1;refine ⟨λ_=> ?_,λc=>(by simp at c),λc=>(by simp at c)⟩;exact ani n l nn p.length d false true x r b rfl o q m g j k0 k1
  | true=>
   rw [s] at k1;cases a:gV x.op with
   | false=>
    rw [a] at k0;cases e:(x.name== []) with
    |false=>
     have f:aJ x=11:=Hy (.inr (.inr ⟨a,e⟩));rw [f];refine ⟨λ_=> ?_,λc=>(by simp at c),λc=>(by simp at c)⟩;exact anj n l nn p.length d true true x r b (by rw [e];rfl) (by rw [a];rfl) rfl o q m g j (by rw [a];exact k0) k1
    | true=>
     have f:aJ x=0:=by unfold aJ;rw [t,a,e,s];rfl
     refine ⟨λh=>absurd f h,λ_ i=> ?_,λ_ i=> ?_⟩
     .exact ank n l nn p.length d true _ x r b (by rw [aZ,Yq0 i];rfl) (by rw [a];rfl) (by rw [e];rfl) (by rw [a];rfl) rfl o q m g j (by rw [a];exact k0) k1 k2 k3
     .have u:=anl n l nn p.length d true _ x r b (by rw [aZ,Yq1 i];rfl) (by rw [a];rfl) (by rw [e];rfl) (by rw [a];rfl) rfl o q m g j (by rw [a];exact k0) k1 k2 k3;rw [y i,AX (by omega),AX (by omega)] at u;exact u
   | true=>
    rw [a] at k0;cases k:vS x.name with
    |false=>
     have f:aJ x=12:=by unfold aJ;rw [t,a,s,k];rfl
     rw [f];rw [k] at k2;refine ⟨λ_=> ?_,λc=>(by simp at c),λc=>(by simp at c)⟩;exact anm n l nn p.length d true false x r b rfl (by rw [a];rfl) (by rw [a];rfl) rfl o q m g j (by rw [a];exact k0) k1 k2
    | true=>
     have f:aJ x=0:=by unfold aJ;rw [t,a,s,k];rfl
     rw [k] at k2;refine ⟨λh=>absurd f h,λ_ i=> ?_,λ_ i=> ?_⟩
     .exact ann n l nn p.length d true true x r b (by rw [aZ,Yq0 i];rfl) rfl (by rw [a];rfl) (by rw [a];rfl) rfl o q m g j (by rw [a];exact k0) k1 k2 k3
     .have u:=ano n l nn p.length d true true x r b (by rw [aZ,Yq1 i];rfl) rfl (by rw [a];rfl) (by rw [a];rfl) rfl o q m g j (by rw [a];exact k0) k1 k2 k3;rw [y i,AX (by omega),AX (by omega)] at u;exact u
theorem Y8 {nt:Nat} (c:69<=nt) (l:List Nd) (nn:Bool) (a:l.length<2^40) (b:∀ x ∈ l,x.sm):∀ (r p:List Nd) (d:Nat),p++r=l->d<=p.length->az prog ap [] nt (af 0 (ah f50)) MM (Ju l nn) CX (p.length,d) (iV r d):=by
 intro r
 induction r with
 |nil=>
  intro p d h _;have hp:p.length=l.length:=by rw [<- h];simp
  rw [hp];exact .done (Vs c l nn l.length d true true (by rw [aZ];simp [lit]))
 | cons x r ih=>
  intro p d h hd;have i:p.length+(r.length+1)=l.length:=by rw [<- h];simp
  obtain ⟨e,f,g⟩:=Vt c l p r nn x d (b x (by rw [<- h];simp)) h.symm a (by omega);simp only [iV];by_cases h1:aJ x=0
  .rw [if_pos h1];by_cases h2:d<dh x.op
   .rw [if_pos h2];exact .done (f h1 h2)
   .rw [if_neg h2];have hnext:=ih (p++ [x]) (d - dh x.op+1) (by simp [h]) (by simp;omega);rw [η,τ] at hnext;exact .next (g h1 h2) hnext
  .rw [if_neg h1];exact .done (e h1)
theorem Jt (l:List Nd) (nn:Bool) (b:∀ x ∈ l,x.sm):CO 50 [.sl (aO l) l.length nn] (.ret (ω (di l))):=by
 unfold di;by_cases h60:60<l.length
 .rw [if_pos h60];exact ahR l nn 0 (by rw [aZ];exact Yq0 h60)
 .rw [if_neg h60];have a:lit false (decide (((60:Nat):Int)<(l.length:Int)))=true:=by rw [aZ];simp only [lit,Xqq];exact Yq1 h60
  have hloop:=λnt (hn:69<=nt)=>Y8 hn l nn (by omega) b l [] 0 rfl (by simp)
  cases c:iV l 0 with
  | inl d=>
   rw [c] at hloop;by_cases hd:d=1
   .have h:=ahT l nn d (by rw [jY,Yq0 hd];rfl) a;simp only [if_pos hd];exact h (az.blk hloop (by simp [MM]) rfl (aN.of ⟨rfl,rfl,rfl,trivial⟩) (aN.of ⟨rfl,trivial⟩))
   .have h:=ahS l nn d (by rw [jY,Yq1 hd];rfl) a;simp only [if_neg hd];exact h (az.blk hloop (by simp [MM]) rfl (aN.of ⟨rfl,rfl,rfl,trivial⟩) (aN.of ⟨rfl,trivial⟩))
  |inr w=>
   rw [c] at hloop;exact ahU l nn w a (az.blk hloop (by simp [MM]) rfl (aN.of ⟨rfl,rfl,rfl,trivial⟩) (aN.of ⟨rfl,trivial⟩))
theorem ajA {nt:Nat} (n:45<=nt) (l:List Nd) (nn:Bool) (k:Nat) (C:List AV) (st own:List Nat) (x:Nd) (r:List Nd) (a:(ε ((δ (k:Int))*5) (aO l))=lI x++aO r) (c:(decide ((γ .i64 (((0:Nat):Int) - (Γ (θ (ε ((0+((δ x.op)*5))+1) kz) .dead))))=0))=true) (f:(Φ (((0+(δ (k:Int)))*1)+1) (ζ C))=true) (b:(decide (((0:Nat):Int)<=(k:Int)))=true) (d:(decide ((k:Int)<(l.length:Int)))=true) (e:(chk (.int .i64) (θ (ε ((0+((δ x.op)*5))+1) kz) .dead))=true) (i:(decide (((0:Nat):Int)<=x.op))=true) (g:(decide (x.op<((25:Nat):Int)))=true) (m:lit true (decide ((k:Int)<(l.length:Int)))=true) (j:CO 59 [.nilS] (.ret (.sl (ai own) own.length false))):ψ nt f24 ⟨[(15,.sl (aO l) l.length nn),(16,ω (l.length:Int)),(17,ω (k:Int)),(4,.ref 0 0 0 l.length),(5,.nilS)],[(0,⟨C,0,false,0,1,true⟩)],.dead,[]⟩ (.normal) ⟨[(15,.sl (aO l) l.length nn),(16,ω (l.length:Int)),(17,ω (γ .i64 ((k:Int)+((1:Nat):Int)))),(4,.ref 0 0 0 l.length),(5,.ref 1 0 0 1)],[(0,⟨(κ ((0+(δ (k:Int)))*1) C++ [.sl (ai own) own.length false]++ε (((0+(δ (k:Int)))*1)+1) C),0,false,0,1,true⟩),(1,⟨[ω (k:Int)],0,false,0,1,true⟩)],.dead,[]⟩:=
 have h:ψ nt f24 ⟨[(15,.sl (aO l) l.length nn),(16,ω (l.length:Int)),(17,ω (k:Int)),(4,.ref 0 0 0 l.length),(5,.nilS)],[(0,⟨C,0,false,0,1,true⟩)],.dead,[]⟩ (.normal) ⟨[(15,.sl (aO l) l.length nn),(16,ω (l.length:Int)),(17,ω (γ .i64 ((k:Int)+((1:Nat):Int)))),(4,.ref 0 0 0 l.length),(5,.ref 1 0 0 1)],[(0,⟨(κ ((0+(δ (k:Int)))*1) C++ [.sl (ai own) own.length false]++ε (((0+(δ (k:Int)))*1)+1) C),0,false,0,1,true⟩),(1,⟨[ω (k:Int)],0,false,0,1,true⟩),(2,⟨[ω x.op,.bool x.neg,.str x.num,.str x.den,.str x.name],0,false,0,0,true⟩)],.dead,[]⟩:=pJ 24 [] 2 1 (.k 4 c (.c f (.c b (.c d (.c c (.k 1 e (.c i (.c g (.k 7 b (.c d (.c m .nil))))))))))) (.c j (.v 20 (.ppt a) .nil)) n
 h.forgetD 2 ⟨[ω x.op,.bool x.neg,.str x.num,.str x.den,.str x.name],0,false,0,0,true⟩ (by intro v h;cases h) (by decide) rfl ⟨Fz.same rfl,Fz.same rfl,Fz.same rfl,Fz.same rfl,Fz.same rfl,trivial⟩ ⟨rfl,LW.same rfl,by decide,rfl,LW.same rfl,by decide,rfl⟩ rfl
theorem Ul {nt:Nat} (b:45<=nt) (l:List Nd) (nn:Bool) (k:Nat) (C:List AV) (st own:List Nat) (a:lit false (decide ((k:Int)<(l.length:Int)))=true):ψ nt f24 ⟨[(15,.sl (aO l) l.length nn),(16,ω (l.length:Int)),(17,ω (k:Int)),(4,.ref 0 0 0 l.length),(5,.nilS)],[(0,⟨C,0,false,0,1,true⟩)],.dead,[]⟩ (.exit 0) ⟨[(4,.ref 0 0 0 l.length)],[(0,⟨C,0,false,0,1,true⟩)],.dead,[]⟩:=pJ 24 [] 1 0 (.c a .nil) (.nil) b
theorem ajx {nt:Nat} (s:45<=nt) (l:List Nd) (nn:Bool) (k:Nat) (C:List AV) (st own:List Nat) (x:Nd) (r:List Nd) (c:(ε ((δ (k:Int))*5) (aO l))=lI x++aO r) (i:(Φ (((δ (γ .i64 ((st.length:Int) - (Γ (θ (ε ((0+((δ x.op)*5))+1) kz) .dead))))) - 0)+1) 1099511627776)=true) (m:(Φ (((δ (γ .i64 ((st.length:Int) - (Γ (θ (ε ((0+((δ x.op)*5))+1) kz) .dead))))) - 0)*1) (ζ (ai st)))=true) (d:(decide (((0:Nat):Int)<=(γ .i64 ((st.length:Int) - (Γ (θ (ε ((0+((δ x.op)*5))+1) kz) .dead))))))=true) (e:(decide ((γ .i64 ((st.length:Int) - (Γ (θ (ε ((0+((δ x.op)*5))+1) kz) .dead))))<=(st.length:Int)))=true) (j:(Φ (((0+(δ (k:Int)))*1)+1) (ζ C))=true) (g:(decide (((0:Nat):Int)<=(k:Int)))=true) (f:(decide ((k:Int)<(l.length:Int)))=true) (p:(decide ((st.length:Int)<=(st.length:Int)))=true) (n:(chk (.int .i64) (θ (ε ((0+((δ x.op)*5))+1) kz) .dead))=true) (q:(decide (((0:Nat):Int)<=x.op))=true) (a:(decide (x.op<((25:Nat):Int)))=true) (b:lit true (decide ((k:Int)<(l.length:Int)))=true) (o:aH prog ap 59 [.ref 0 0 (0+(δ (γ .i64 ((st.length:Int) - (Γ (θ (ε ((0+((δ x.op)*5))+1) kz) .dead)))))) ((δ (st.length:Int)) - (δ (γ .i64 ((st.length:Int) - (Γ (θ (ε ((0+((δ x.op)*5))+1) kz) .dead))))))] [⟨(ai st),0,false,0,1,true⟩] (.ret (.sl (ai own) own.length false)) [⟨(ai st),0,false,0,1,true⟩]):ψ nt f24 ⟨[(15,.sl (aO l) l.length nn),(16,ω (l.length:Int)),(17,ω (k:Int)),(4,.ref 0 0 0 l.length),(5,.ref 1 0 0 st.length)],[(0,⟨C,0,false,0,1,true⟩),(1,⟨(ai st),0,false,0,1,true⟩)],.dead,[]⟩ (.normal) ⟨[(15,.sl (aO l) l.length nn),(16,ω (l.length:Int)),(17,ω (γ .i64 ((k:Int)+((1:Nat):Int)))),(4,.ref 0 0 0 l.length),(5,.ref 1 0 0 (((δ (γ .i64 ((st.length:Int) - (Γ (θ (ε ((0+((δ x.op)*5))+1) kz) .dead))))) - 0)+1))],[(0,⟨(κ ((0+(δ (k:Int)))*1) C++ [.sl (ai own) own.length false]++ε (((0+(δ (k:Int)))*1)+1) C),0,false,0,1,true⟩),(1,⟨((κ (((δ (γ .i64 ((st.length:Int) - (Γ (θ (ε ((0+((δ x.op)*5))+1) kz) .dead))))) - 0)*1) (ai st))++ [ω (k:Int)]),0,false,0,1,true⟩)],.dead,[]⟩:=
 have h:ψ nt f24 ⟨[(15,.sl (aO l) l.length nn),(16,ω (l.length:Int)),(17,ω (k:Int)),(4,.ref 0 0 0 l.length),(5,.ref 1 0 0 st.length)],[(0,⟨C,0,false,0,1,true⟩),(1,⟨(ai st),0,false,0,1,true⟩)],.dead,[]⟩ (.normal) ⟨[(15,.sl (aO l) l.length nn),(16,ω (l.length:Int)),(17,ω (γ .i64 ((k:Int)+((1:Nat):Int)))),(4,.ref 0 0 0 l.length),(5,.ref 1 0 0 (((δ (γ .i64 ((st.length:Int) - (Γ (θ (ε ((0+((δ x.op)*5))+1) kz) .dead))))) - 0)+1))],[(0,⟨(κ ((0+(δ (k:Int)))*1) C++ [.sl (ai own) own.length false]++ε (((0+(δ (k:Int)))*1)+1) C),0,false,0,1,true⟩),(1,⟨((κ (((δ (γ .i64 ((st.length:Int) - (Γ (θ (ε ((0+((δ x.op)*5))+1) kz) .dead))))) - 0)*1) (ai st))++ [ω (k:Int)]),0,false,0,1,true⟩),(2,⟨[ω x.op,.bool x.neg,.str x.num,.str x.den,.str x.name],0,false,0,0,true⟩)],.dead,[]⟩:=pJ 24 [] 1 1 (.k 1 i (.c m (.k 2 d (.c e (.c j (.c g (.c f (.c d (.c e (.c p (.c n (.c q (.c a (.k 7 g (.c f (.c b .nil)))))))))))))))) (.c o (.v 20 (.ppt c) .nil)) s
 h.forgetD 2 ⟨[ω x.op,.bool x.neg,.str x.num,.str x.den,.str x.name],0,false,0,0,true⟩ (by intro v h;cases h) (by decide) rfl ⟨Fz.same rfl,Fz.same rfl,Fz.same rfl,Fz.same rfl,Fz.same rfl,trivial⟩ ⟨rfl,LW.same rfl,by decide,rfl,LW.same rfl,by decide,rfl⟩ rfl
theorem Uk {nt:Nat} (b:45<=nt) (l:List Nd) (nn:Bool) (k:Nat) (C:List AV) (st own:List Nat) (a:lit false (decide ((k:Int)<(l.length:Int)))=true):ψ nt f24 ⟨[(15,.sl (aO l) l.length nn),(16,ω (l.length:Int)),(17,ω (k:Int)),(4,.ref 0 0 0 l.length),(5,.ref 1 0 0 st.length)],[(0,⟨C,0,false,0,1,true⟩),(1,⟨(ai st),0,false,0,1,true⟩)],.dead,[]⟩ (.exit 0) ⟨[(4,.ref 0 0 0 l.length)],[(0,⟨C,0,false,0,1,true⟩),(1,⟨(ai st),0,false,0,1,true⟩)],.dead,[]⟩:=pJ 24 [] 1 0 (.c a .nil) (.nil) b
theorem ajy (l:List Nd) (nn:Bool) (w:Int) (C:List AV) (a:lit true (!(w==((0:Nat):Int)))=true) (b:CO 44 [.sl (aO l) l.length nn] (.ret (ω w))):CO 24 [.sl (aO l) l.length nn] (.ret (.tup [.nilS,.bool false])):=pK [0] 1 1 (.c a .nil) (.c b .nil)
theorem ajz (l:List Nd) (nn:Bool) (w:Int) (C:List AV) (b:(decide (((0:Nat):Int)<=(l.length:Int)))=true) (e:(decide ((l.length:Int)=(l.length:Int)))=true) (a:(decide ((l.length:Int)<=((1099511627776:Nat):Int)))=true) (c:lit false (!(w==((0:Nat):Int)))=true) (d:CO 44 [.sl (aO l) l.length nn] (.ret (ω w))) (f:aK prog ap [] 45 (.block 0 (.loop (af 0 (ah f24)))) ⟨[(0,.sl (aO l) l.length nn),(2,.nilS),(3,.bool false),(4,.ref 0 0 0 (δ (l.length:Int))),(5,.nilS),(6,.dead),(7,.dead),(8,.dead),(11,.bool (!(w==((0:Nat):Int)))),(15,.sl (aO l) l.length nn),(16,ω (l.length:Int)),(17,ω 0),(18,.dead)],[(0,⟨(g_ (δ (l.length:Int)) [.nilS]),0,false,0,1,true⟩)],.dead,[]⟩ (.normal) ⟨[(4,.ref 0 0 0 l.length)],[(0,⟨C,0,false,0,1,true⟩)],.dead,[]⟩):CO 24 [.sl (aO l) l.length nn] (.ret (.tup [.own (κ (l.length*1) C) l.length 1,.bool true])):=pK [0] 1 0 (.c b (.c e (.c a (.c c .nil)))) (.l f (.c d .nil))
theorem ajU:CO 59 [.nilS] (.ret (.nilS)):=pK [] 1 1 (.n 1 .nil) (.nil)
theorem ajT (st:List Nat) (i n:Nat) (a:(Xqn (ζ (κ (n*1) (ε (i*1) (ai st)))) (n*1))=true) (b:(Φ (0+n) 1099511627776)=true):aH prog ap 59 [.ref 0 0 i n] [⟨(ai st),0,false,0,1,true⟩] (.ret (.own (κ ((0+n)*1) ([]++(κ (n*1) (ε (i*1) (ai st))))) (0+n) 1)) [⟨(ai st),0,false,0,1,true⟩]:=pK [] 1 0 (.c a (.c b (.n 3 .nil))) (.nil)
def tC:List Nd->Nat->List Nat->List (List Nat)
 | [],_,_=> []
 |x::r,k,st=>st.drop (st.length - dh x.op)::tC r (k+1) (st.take (st.length - dh x.op)++ [k])
def bJ (l:List Nd):List (List Nat):=tC l 0 []
def Um (a:List Nat):AV:= .sl (ai a) a.length false
def dJ (ll:List (List Nat)):List AV:=ll.map Um
def We:List Nd->Nat->List Nat->List Nat
 | [],_,st=>st
 |x::r,k,st=>We r (k+1) (st.take (st.length - dh x.op)++ [k])
theorem EK (r:List Nd):∀ k st,(tC r k st).length=r.length:=by
 induction r with
 |nil=>intros;rfl
 |cons x r ih=>intro k st;simp only [tC,ν,ih]
def agE (st:List Nat):AV:=match st with| []=> .nilS|x::l=> .ref 1 0 0 (x::l).length
def agH (st:List Nat):Hp:=match st with| []=> []|x::l=> [(1,⟨ai (x::l),0,false,0,1,true⟩)]
theorem Pi {l:List Nat} (h:l ≠ []):agE l= .ref 1 0 0 l.length:=by cases l with|nil=>exact absurd rfl h|cons _ _=>rfl
theorem JL {l:List Nat} (h:l ≠ []):agH l= [(1,⟨ai l,0,false,0,1,true⟩)]:=by cases l with|nil=>exact absurd rfl h|cons _ _=>rfl
def JM (l:List Nd) (nn:Bool) (p:Nat × List Nat × List AV):St:=⟨[(15,.sl (aO l) l.length nn),(16,ω (l.length:Int)),(17,ω (p.1:Int)),(4,.ref 0 0 0 l.length),(5,agE p.2.1)],(0,⟨p.2.2,0,false,0,1,true⟩)::agH p.2.1,.dead,[]⟩
def IR (l:List Nd) (p:List Nat × List AV):St:=⟨[(4,.ref 0 0 0 l.length)],(0,⟨p.2,0,false,0,1,true⟩)::agH p.1,.dead,[]⟩
theorem Uy:aH prog ap 59 [.nilS] [] (.ret (.sl (ai []) ([]:List Nat).length false)) []:=ajU.out (jB.ret rfl rfl (aU.nilS false rfl))
theorem WV (st:List Nat) (i n:Nat) (h:i+n=st.length) (f:st.length<2^40):aH prog ap 59 [.ref 0 0 i n] [⟨ai st,0,false,0,1,true⟩] (.ret (.sl (ai (st.drop i)) n false)) [⟨ai st,0,false,0,1,true⟩]:=by
 have d:=ajT st i n;have e:n<=st.length:=by omega
 have c:κ n (ε i (ai st))=ai (st.drop i):=by
  rw [MW,dA,ο (by simp;omega)]
 have a:(ai (st.drop i)).length=n:=by rw [bM,Xx0];omega
 simp (disch:=first|omega|(simp [au,ay]<;>omega)) only [Θ,c,a,KL,decide_true,Ψ,fK,bi,Xqi] at d;have b:=(d True.intro (by omega)).thaw (by simp);simp only [xZ,thaw,Θ] at b;rw [ο (by rw [Xq4,a];omega),ο (by omega)] at b;exact b.out (jB.sl1 _ _ _)
theorem aau {nt:Nat} (k:45<=nt) (l p r:List Nd) (nn:Bool) (x:Nd) (st:List Nat) (C C2:List AV) (i:l=p++x::r) (q:l.length<2^39) (f:1<=x.op/\x.op<=24) (d:dh x.op<=st.length) (n:st.length<=p.length) (h:C.length=l.length)
  (hset:κ p.length C++ [Um (st.drop (st.length - dh x.op))]++ε (p.length+1) C=C2):
  ψ nt f24 (JM l nn (p.length,st,C)) .normal (JM l nn (p.length+1,st.take (st.length - dh x.op)++ [p.length],C2)):=by
 have c:ε (δ (p.length:Int)*5) (aO l)=lI x++aO r:=by rw [i];exact wZ rfl
 have j:p.length+(r.length+1)=l.length:=by rw [i];simp
 obtain ⟨y,s⟩:=f;have g:=QP y s;unfold JM;simp only;rw [Pi (iT _ _),JL (iT _ _)];rcases Xxm (st= []) with rfl|hne
 .have o:dh x.op=0:=by simpa using d
  have a:=ajA k l nn p.length C [] [] x r c;simp only [Xqf,Nat.zero_sub,List.drop_nil,List.take_nil,Xqi] at hset ⊢;unfold Um at hset;have e:=Uy;simp (disch:=first|omega|(simp [au,ay]<;>omega)) only [Ψ,g,o,bf,kH,Xjq,bi,aC,Θ,h,fK,dG,aZ,eF,bD,Xqf,bQ,aS] at a;simp only [agE,agH,ai,Xqg,Xxw,ν,Xqf,Ψ] at a hset e ⊢;rw [hset] at a;apply a<;>first|exact True.intro|omega|assumption|exact rfl|skip
 .have u:=WV st (st.length - dh x.op) (dh x.op) (by omega) (by omega);have a:=ajx k l nn p.length C st (st.drop (st.length - dh x.op)) x r c;rw [Pi hne,JL hne];unfold Um at hset;generalize z:st.length - dh x.op=m at*
  have b:(st.drop m).length=dh x.op:=by rw [Xx0];omega
  have v:γ .i64 ((st.length:Int) - ((dh x.op:Nat):Int))=(m:Int):=by rw [bG]<;>omega
  have w:st.length - m=dh x.op:=by omega
  rw [b] at a hset;have t:(st.take m).length=m:=by rw [Xq4];omega
  simp (disch:=first|omega|(simp [au,ay]<;>omega)) only [Ψ,g,bf,v,aC,Xjq,fK,bi,Θ,bM,dG,h,aZ,eF,bD,w,bQ,aS,hset,dA,je] at a;simp only [η,τ,t];apply a<;>first|exact True.intro|omega|assumption|exact rfl|skip
theorem Rh {r:List Nd} {d e:Nat} {x:Nd} (h:iV (x::r) d= .inl e):(1<=x.op/\x.op<=24)/\dh x.op<=d/\iV r (d - dh x.op+1)= .inl e:=by
 simp only [iV] at h;by_cases h1:aJ x=0
 .rw [if_pos h1] at h;by_cases h2:d<dh x.op
  .rw [if_pos h2] at h;cases h
  .rw [if_neg h2] at h;exact ⟨sZ h1,by omega,h⟩
 .rw [if_neg h1] at h;cases h
theorem wO (a:List (List Nat)):(dJ a).length=a.length:=by simp [dJ]
theorem Un (done:List (List Nat)) (a:List Nat) (m:Nat):κ done.length (dJ done++μ (m+1) Xk4)++ [Um a]++ε (done.length+1) (dJ done++μ (m+1) Xk4)=dJ (done++ [a])++μ m Xk4:=by
 have b:=wO done;rw [List.take_append_of_le_length (by omega),ο (by omega),List.drop_append,Xxv (by omega),Xqi,show done.length+1 - (dJ done).length=1 by omega,Xxi,List.drop_succ_cons,Xjt];unfold dJ;rw [Xx3];rfl
theorem aat {nt:Nat} (i:45<=nt) (l:List Nd) (nn:Bool) (d:l.length<2^39) (e:Nat):∀ (r p:List Nd) (st:List Nat) (done:List (List Nat)),p++r=l->iV r st.length= .inl e->st.length<=p.length->done.length=p.length->az prog ap [] nt (af 0 (ah f24)) (λ_=> .exit 0) (JM l nn) (IR l) (p.length,st,dJ done++μ r.length .nilS) (We r p.length st,dJ (done++tC r p.length st)):=by
 intro r
 induction r with
 | nil=>
  intro p st done h k c hd;have hp:p.length=l.length:=by rw [<- h];simp
  rw [hp];simp only [tC,We,Δ,Xqf,List.replicate_zero];refine .done ?_;unfold JM IR;have m:ψ nt f24 (JM l nn (l.length,st,dJ done)) (.exit 0) (IR l (st,dJ done)):=by
   unfold JM IR;rcases Xxm (st= []) with rfl|hne
   .exact Ul i l nn l.length (dJ done) [] [] (by rw [aZ];simp [lit])
   .simp only;rw [Pi hne,JL hne];exact Uk i l nn l.length (dJ done) st [] (by rw [aZ];simp [lit])
  exact m
 | cons x r ih=>
  intro p st done h k c hd;obtain ⟨j,g,f⟩:=Rh k;have n:p.length+(r.length+1)=l.length:=by rw [<- h];simp
  have a:(st.take (st.length - dh x.op)++ [p.length]).length=st.length - dh x.op+1:=by
   rw [η,Xq4,τ,Xjc (by omega)]
  have hnext:=ih (p++ [x]) (st.take (st.length - dh x.op)++ [p.length]) (done++ [st.drop (st.length - dh x.op)]) (by simp [h]) (by rw [a];exact f) (by rw [a];simp;omega) (by simp [hd]);rw [η,τ,υ] at hnext;simp only [tC,We,ν];have b:=Un done (st.drop (st.length - dh x.op)) r.length;rw [hd] at b;have hstep:=aau i l p r nn x st (dJ done++μ (r.length+1) .nilS) _ h.symm d j g c (by rw [η,wO,List.length_replicate];omega) b;exact .next hstep hnext
theorem Za (n:Nat):g_ n [Xk4]=μ n Xk4:=by
 unfold g_
 induction n with
 |zero=>rfl
 |succ n ih=>rw [Xxi,List.flatten_cons,ih,Xxi];rfl
theorem EP {l:List Nd} (h:di l=0):l.length<=60/\iV l 0= .inl 1:=by
 unfold di at h;by_cases h60:60<l.length
 .rw [if_pos h60] at h;cases h
 .rw [if_neg h60] at h;refine ⟨by omega, ?_⟩;have a:∀ (r:List Nd) (d:Nat) (w:Int),iV r d= .inr w->w ≠ 0:=by
   intro r
   induction r with
   |nil=>intro d w h;cases h
   | cons x r ih=>
    intro d w h;simp only [iV] at h;by_cases h1:aJ x=0
    .rw [if_pos h1] at h;by_cases h2:d<dh x.op
     .rw [if_pos h2] at h;cases h;decide
     .rw [if_neg h2] at h;exact ih _ _ h
    .rw [if_neg h1] at h;cases h;exact h1
  cases b:iV l 0 with
  |inl d=>
   rw [b] at h;by_cases hd:d=1
   .rw [hd]
   .simp only [if_neg hd] at h;cases h
  |inr w=>rw [b] at h;exact absurd h (a l 0 w b)
theorem aaA (l:List Nd) (nn:Bool) (f:∀ x ∈ l,x.sm) (j:di l=0):CO 24 [.sl (aO l) l.length nn] (.ret (.tup [.sl (dJ (bJ l)) l.length true,.bool true])):=by
 have b:κ l.length (dJ (bJ l))=dJ (bJ l):=ο (by rw [wO];unfold bJ;rw [EK];omega)
 suffices hown:CO 24 [.sl (aO l) l.length nn] (.ret (.tup [.own (dJ (bJ l)) l.length 1,.bool true])) by
  have h:=hown.thaw (by simp);simp only [xZ,Xqg,Xxw,thaw,Θ,b] at h;exact h
 have g:=EQ l nn f;obtain ⟨n,i⟩:=EP j;rw [j] at g;have hloop:=λnt (hn:45<=nt)=>aat hn l nn (by omega) 1 l [] [] [] rfl i (by simp) rfl
 have d:(bJ l).length=l.length:=EK l 0 [];have h:=ajz l nn 0 (dJ (bJ l));simp (disch:=first|omega|(simp [au,ay]<;>omega)) only [dG,bi,decide_true,dP,dY,Dp,aC,Za,Θ,b] at h;have k:(dJ (bJ l)).length=l.length:=by rw [wO,d]
 have o:l.length<1099511627776:=by omega
 apply h<;>first|exact True.intro|omega|assumption|exact rfl|skip
 intro nt e;have c:=az.blk (s:=JM l nn (0,[],μ l.length Xk4)) (s':=IR l (We l 0 [],dJ (bJ l))) (id:=0) hloop (by simp) rfl (aN.refl _) (aN.refl _) nt e;unfold JM IR at c;simp only [agE,agH] at c;have a:=c.weak (s':=⟨[(0,.sl (aO l) l.length nn),(2,.nilS),(3,.bool false),(4,.ref 0 0 0 l.length),(5,.nilS),(6,.dead),(7,.dead),(8,.dead),(11,.bool false),(15,.sl (aO l) l.length nn),(16,ω (l.length:Int)),(17,ω 0),(18,.dead)],[(0,⟨μ l.length Xk4,0,false,0,1,true⟩)],.dead,[]⟩) (aN.of ⟨rfl,rfl,rfl,rfl,rfl,trivial⟩) (aN.refl _);rcases Xxm (We l 0 []= []) with he|he
 .rw [he] at a;exact a
 .have m:=JL he;unfold agH at m;rw [m] at a;exact a.forget 1 _ (by intro v h;cases h) (by decide) rfl ⟨Fz.same rfl,trivial⟩ ⟨rfl,LW.same rfl,by decide,rfl⟩
theorem amS {nt:Nat} (d:59<=nt) (l:List Nd) (nn:Bool) (b:(chk (.int .i64) (θ (aO l) .dead))=true) (e:(decide (((0:Nat):Int)<(l.length:Int)))=true) (a:lit true (decide (((0:Nat):Int)<(l.length:Int)))=true) (c:CO 85 [ω (Γ (θ (aO l) .dead))] (.ret (ω 0))):ψ nt f56 ⟨[(0,.sl (aO l) l.length nn),(5,.nilS),(6,.nilS),(7,ω 0)],[],.dead,[]⟩ (.normal) ⟨[(0,.sl (aO l) l.length nn),(5,.ref 0 0 0 1),(6,.ref 1 0 0 1),(7,ω 1)],[(0,⟨[.nilS],0,false,0,1,true⟩),(1,⟨[ω 0],0,false,0,1,true⟩)],.dead,[]⟩:=pJ 56 [] 4 1 (.k 9 b (.k 1 e (.c a .nil))) (.c c .nil) d
theorem ahJ {nt:Nat} (e:59<=nt) (l:List Nd) (nn:Bool) (C:List AV) (st own:List Nat) (i k a:Nat) (c:(chk (.int .i64) (θ (ε ((0+(δ (i:Int)))*1) (ai st)) .dead))=true) (f:(decide (((0:Nat):Int)<=(i:Int)))=true) (b:(decide ((i:Int)<(st.length:Int)))=true) (d:lit true (decide ((i:Int)<(st.length:Int)))=true):aj prog ap [] nt (af 2 (ah f56)) ⟨[(0,.sl (aO l) l.length nn),(7,ω (k:Int)),(8,ω (a:Int)),(5,.ref 0 0 0 k),(6,.ref 1 0 0 st.length),(9,.nilS),(10,ω (i:Int))],[(0,⟨C,0,false,0,1,true⟩),(1,⟨(ai st),0,false,0,1,true⟩)],.dead,[]⟩ (.normal) ⟨[(0,.sl (aO l) l.length nn),(7,ω (k:Int)),(8,ω (a:Int)),(5,.ref 0 0 0 k),(6,.ref 1 0 0 st.length),(9,.ref 2 0 0 1),(10,ω (γ .i64 ((i:Int)+((1:Nat):Int))))],[(0,⟨C,0,false,0,1,true⟩),(1,⟨(ai st),0,false,0,1,true⟩),(2,⟨[ω (Γ (θ (ε ((0+(δ (i:Int)))*1) (ai st)) .dead))],0,false,0,1,true⟩)],.dead,[]⟩:=pJ 56 [] 2 1 (.k 3 c (.c f (.c b (.c d .nil)))) (.nil) e
theorem ahK {nt:Nat} (c:59<=nt) (l:List Nd) (nn:Bool) (C:List AV) (st own:List Nat) (i k a:Nat) (b:lit false (decide ((i:Int)<(st.length:Int)))=true):aj prog ap [] nt (af 2 (ah f56)) ⟨[(0,.sl (aO l) l.length nn),(7,ω (k:Int)),(8,ω (a:Int)),(5,.ref 0 0 0 k),(6,.ref 1 0 0 st.length),(9,.nilS),(10,ω (i:Int))],[(0,⟨C,0,false,0,1,true⟩),(1,⟨(ai st),0,false,0,1,true⟩)],.dead,[]⟩ (.exit 2) ⟨[(0,.sl (aO l) l.length nn),(7,ω (k:Int)),(8,ω (a:Int)),(5,.ref 0 0 0 k),(6,.ref 1 0 0 st.length),(9,.nilS)],[(0,⟨C,0,false,0,1,true⟩),(1,⟨(ai st),0,false,0,1,true⟩)],.dead,[]⟩:=pJ 56 [] 1 0 (.c b .nil) (.nil) c
theorem ahH {nt:Nat} (g:59<=nt) (l:List Nd) (nn:Bool) (C:List AV) (st own:List Nat) (i k a:Nat) (c:(Φ (own.length+1) 1099511627776)=true) (h:(Φ (own.length*1) (ζ (ai own)))=true) (b:(chk (.int .i64) (θ (ε ((0+(δ (i:Int)))*1) (ai st)) .dead))=true) (e:(decide (((0:Nat):Int)<=(i:Int)))=true) (f:(decide ((i:Int)<(st.length:Int)))=true) (d:lit true (decide ((i:Int)<(st.length:Int)))=true):aj prog ap [] nt (af 2 (ah f56)) ⟨[(0,.sl (aO l) l.length nn),(7,ω (k:Int)),(8,ω (a:Int)),(5,.ref 0 0 0 k),(6,.ref 1 0 0 st.length),(9,.ref 2 0 0 own.length),(10,ω (i:Int))],[(0,⟨C,0,false,0,1,true⟩),(1,⟨(ai st),0,false,0,1,true⟩),(2,⟨(ai own),0,false,0,1,true⟩)],.dead,[]⟩ (.normal) ⟨[(0,.sl (aO l) l.length nn),(7,ω (k:Int)),(8,ω (a:Int)),(5,.ref 0 0 0 k),(6,.ref 1 0 0 st.length),(9,.ref 2 0 0 (own.length+1)),(10,ω (γ .i64 ((i:Int)+((1:Nat):Int))))],[(0,⟨C,0,false,0,1,true⟩),(1,⟨(ai st),0,false,0,1,true⟩),(2,⟨((κ (own.length*1) (ai own))++ [ω (Γ (θ (ε ((0+(δ (i:Int)))*1) (ai st)) .dead))]),0,false,0,1,true⟩)],.dead,[]⟩:=pJ 56 [] 1 1 (.k 1 c (.c h (.k 1 b (.c e (.c f (.c d .nil)))))) (.nil) g
theorem ahI {nt:Nat} (c:59<=nt) (l:List Nd) (nn:Bool) (C:List AV) (st own:List Nat) (i k a:Nat) (b:lit false (decide ((i:Int)<(st.length:Int)))=true):aj prog ap [] nt (af 2 (ah f56)) ⟨[(0,.sl (aO l) l.length nn),(7,ω (k:Int)),(8,ω (a:Int)),(5,.ref 0 0 0 k),(6,.ref 1 0 0 st.length),(9,.ref 2 0 0 own.length),(10,ω (i:Int))],[(0,⟨C,0,false,0,1,true⟩),(1,⟨(ai st),0,false,0,1,true⟩),(2,⟨(ai own),0,false,0,1,true⟩)],.dead,[]⟩ (.exit 2) ⟨[(0,.sl (aO l) l.length nn),(7,ω (k:Int)),(8,ω (a:Int)),(5,.ref 0 0 0 k),(6,.ref 1 0 0 st.length),(9,.ref 2 0 0 own.length)],[(0,⟨C,0,false,0,1,true⟩),(1,⟨(ai st),0,false,0,1,true⟩),(2,⟨(ai own),0,false,0,1,true⟩)],.dead,[]⟩:=pJ 56 [] 1 0 (.c b .nil) (.nil) c
theorem amT {nt:Nat} (o:59<=nt) (l:List Nd) (nn:Bool) (k a:Nat) (C:List AV) (st own:List Nat) (x:Nd) (r:List Nd) (b:(ε (((δ (k:Int))*5)+0) (aO l))=lI x++aO r) (d:(Φ (k+1) 1099511627776)=true) (g:(Φ (k*1) (ζ C))=true) (c:(Φ (((δ (γ .i64 ((st.length:Int) - (a:Int)))) - 0)+1) 1099511627776)=true) (e:(Φ (((δ (γ .i64 ((st.length:Int) - (a:Int)))) - 0)*1) (ζ (ai st)))=true) (f:(decide (((0:Nat):Int)<=(γ .i64 ((st.length:Int) - (a:Int)))))=true) (j:(decide ((γ .i64 ((st.length:Int) - (a:Int)))<=(st.length:Int)))=true) (i:(decide (((0:Nat):Int)<=(k:Int)))=true) (n:(decide ((k:Int)<(l.length:Int)))=true) (h:lit true (decide ((k:Int)<(l.length:Int)))=true) (m:CO 85 [ω x.op] (.ret (ω (a:Int)))) (p:aK prog ap [] 59 (.block 2 (.loop (af 2 (ah f56)))) ⟨[(0,.sl (aO l) l.length nn),(2,.dead),(3,.dead),(4,.dead),(5,.ref 0 0 0 k),(6,.ref 1 0 0 st.length),(7,ω (k:Int)),(8,ω (a:Int)),(9,.nilS),(10,ω (γ .i64 ((st.length:Int) - (a:Int)))),(14,.dead),(18,.bool (decide ((k:Int)<(l.length:Int)))),(34,.dead)],[(0,⟨C,0,false,0,1,true⟩),(1,⟨(ai st),0,false,0,1,true⟩)],.dead,[]⟩ (.normal) ⟨[(0,.sl (aO l) l.length nn),(5,.ref 0 0 0 k),(6,.ref 1 0 0 st.length),(7,ω (k:Int)),(8,ω (a:Int)),(9,.nilS)],[(0,⟨C,0,false,0,1,true⟩),(1,⟨(ai st),0,false,0,1,true⟩)],.dead,[]⟩):ψ nt f56 ⟨[(0,.sl (aO l) l.length nn),(5,.ref 0 0 0 k),(6,.ref 1 0 0 st.length),(7,ω (k:Int))],[(0,⟨C,0,false,0,1,true⟩),(1,⟨(ai st),0,false,0,1,true⟩)],.dead,[]⟩ (.normal) ⟨[(0,.sl (aO l) l.length nn),(5,.ref 0 0 0 (k+1)),(6,.ref 1 0 0 (((δ (γ .i64 ((st.length:Int) - (a:Int)))) - 0)+1)),(7,ω (γ .i64 ((k:Int)+((1:Nat):Int))))],[(0,⟨((κ (k*1) C)++ [.nilS]),0,false,0,1,true⟩),(1,⟨((κ (((δ (γ .i64 ((st.length:Int) - (a:Int)))) - 0)*1) (ai st))++ [ω (k:Int)]),0,false,0,1,true⟩)],.dead,[]⟩:=pJ 56 [2] 1 1 (.k 1 d (.c g (.k 2 c (.c e (.k 2 f (.c j (.k 1 i (.c n (.c h .nil))))))))) (.l p (.c m (.v 24 (.ppt b) .nil))) o
theorem Vq {nt:Nat} (c:59<=nt) (l:List Nd) (nn:Bool) (k a:Nat) (C:List AV) (st own:List Nat) (b:lit false (decide ((k:Int)<(l.length:Int)))=true):ψ nt f56 ⟨[(0,.sl (aO l) l.length nn),(5,.ref 0 0 0 k),(6,.ref 1 0 0 st.length),(7,ω (k:Int))],[(0,⟨C,0,false,0,1,true⟩),(1,⟨(ai st),0,false,0,1,true⟩)],.dead,[]⟩ (.exit 0) ⟨[(5,.ref 0 0 0 k)],[(0,⟨C,0,false,0,1,true⟩),(1,⟨(ai st),0,false,0,1,true⟩)],.dead,[]⟩:=pJ 56 [2] 1 0 (.c b .nil) (.nil) c
theorem amR {nt:Nat} (o:59<=nt) (l:List Nd) (nn:Bool) (k a:Nat) (C:List AV) (st own:List Nat) (x:Nd) (r:List Nd) (b:(ε (((δ (k:Int))*5)+0) (aO l))=lI x++aO r) (d:(Φ (k+1) 1099511627776)=true) (g:(Φ (k*1) (ζ C))=true) (c:(Φ (((δ (γ .i64 ((st.length:Int) - (a:Int)))) - 0)+1) 1099511627776)=true) (e:(Φ (((δ (γ .i64 ((st.length:Int) - (a:Int)))) - 0)*1) (ζ (ai st)))=true) (f:(decide (((0:Nat):Int)<=(γ .i64 ((st.length:Int) - (a:Int)))))=true) (j:(decide ((γ .i64 ((st.length:Int) - (a:Int)))<=(st.length:Int)))=true) (i:(decide (((0:Nat):Int)<=(k:Int)))=true) (n:(decide ((k:Int)<(l.length:Int)))=true) (h:lit true (decide ((k:Int)<(l.length:Int)))=true) (m:CO 85 [ω x.op] (.ret (ω (a:Int)))) (p:aK prog ap [] 59 (.block 2 (.loop (af 2 (ah f56)))) ⟨[(0,.sl (aO l) l.length nn),(2,.dead),(3,.dead),(4,.dead),(5,.ref 0 0 0 k),(6,.ref 1 0 0 st.length),(7,ω (k:Int)),(8,ω (a:Int)),(9,.nilS),(10,ω (γ .i64 ((st.length:Int) - (a:Int)))),(14,.dead),(18,.bool (decide ((k:Int)<(l.length:Int)))),(34,.dead)],[(0,⟨C,0,false,0,1,true⟩),(1,⟨(ai st),0,false,0,1,true⟩)],.dead,[]⟩ (.normal) ⟨[(0,.sl (aO l) l.length nn),(5,.ref 0 0 0 k),(6,.ref 1 0 0 st.length),(7,ω (k:Int)),(8,ω (a:Int)),(9,.sl (ai own) own.length true)],[(0,⟨C,0,false,0,1,true⟩),(1,⟨(ai st),0,false,0,1,true⟩)],.dead,[]⟩):ψ nt f56 ⟨[(0,.sl (aO l) l.length nn),(5,.ref 0 0 0 k),(6,.ref 1 0 0 st.length),(7,ω (k:Int))],[(0,⟨C,0,false,0,1,true⟩),(1,⟨(ai st),0,false,0,1,true⟩)],.dead,[]⟩ (.normal) ⟨[(0,.sl (aO l) l.length nn),(5,.ref 0 0 0 (k+1)),(6,.ref 1 0 0 (((δ (γ .i64 ((st.length:Int) - (a:Int)))) - 0)+1)),(7,ω (γ .i64 ((k:Int)+((1:Nat):Int))))],[(0,⟨((κ (k*1) C)++ [.sl (ai own) own.length true]),0,false,0,1,true⟩),(1,⟨((κ (((δ (γ .i64 ((st.length:Int) - (a:Int)))) - 0)*1) (ai st))++ [ω (k:Int)]),0,false,0,1,true⟩)],.dead,[]⟩:=pJ 56 [2] 1 1 (.k 1 d (.c g (.k 2 c (.c e (.k 2 f (.c j (.k 1 i (.c n (.c h .nil))))))))) (.l p (.c m (.v 24 (.ppt b) .nil))) o
theorem ahF (l:List Nd) (nn:Bool) (w:Int) (C:List AV) (n:Nat) (a:lit false (!(w==((0:Nat):Int)))=true) (b:CO 50 [.sl (aO l) l.length nn] (.ret (ω w))) (c:aK prog ap [] 59 (.block 0 (.loop (af 0 (ah f56)))) ⟨[(0,.sl (aO l) l.length nn),(2,.nilS),(3,.bool false),(4,ω w),(5,.nilS),(6,.nilS),(7,ω 0),(8,.dead),(9,.dead),(10,.dead),(14,.bool (!(w==((0:Nat):Int)))),(18,.dead),(34,.dead)],[],.dead,[]⟩ (.normal) ⟨[(5,.ref 0 0 0 n)],[(0,⟨C,0,false,0,1,true⟩)],.dead,[]⟩):CO 56 [.sl (aO l) l.length nn] (.ret (.tup [.own (κ (n*1) C) n 1,.bool true])):=pK [0] 1 0 (.c a .nil) (.l c (.c b .nil))
def Po (a:List Nat):AV:=match a with| []=> .nilS|x::l=> .sl (ai (x::l)) (x::l).length true
def dM (ll:List (List Nat)):List AV:=ll.map Po
theorem aaz {a:List Nat} (h:a ≠ []):Po a= .sl (ai a) a.length true:=by cases a with|nil=>exact absurd rfl h|cons _ _=>rfl
theorem IV (a:List (List Nat)):(dM a).length=a.length:=by simp [dM]
theorem Pv (b:List (List Nat)) (a:List Nat):dM b++ [Po a]=dM (b++ [a]):=by simp [dM]
theorem Yy {p r:List Nd} {x:Nd} {k:Nat} (h:k=p.length):ε (δ (k:Int)*5+0) (aO (p++x::r))=lI x++aO r:=by rw [Xq1];exact wZ h
def riE (own:List Nat):AV:=match own with| []=> .nilS|x::l=> .ref 2 0 0 (x::l).length
def riH (own:List Nat):Hp:=match own with| []=> []|x::l=> [(2,⟨ai (x::l),0,false,0,1,true⟩)]
theorem Lm {l:List Nat} (h:l ≠ []):riE l= .ref 2 0 0 l.length:=by cases l with|nil=>exact absurd rfl h|cons _ _=>rfl
theorem Lp {l:List Nat} (h:l ≠ []):riH l= [(2,⟨ai l,0,false,0,1,true⟩)]:=by cases l with|nil=>exact absurd rfl h|cons _ _=>rfl
def LY (C:List AV) (st:List Nat):Hp:= [(0,⟨C,0,false,0,1,true⟩),(1,⟨ai st,0,false,0,1,true⟩)]
def Vz (l:List Nd) (nn:Bool) (C:List AV) (st:List Nat) (k a:Nat) (p:Nat × List Nat):St:=⟨[(0,.sl (aO l) l.length nn),(7,ω (k:Int)),(8,ω (a:Int)),(5,.ref 0 0 0 k),(6,.ref 1 0 0 st.length),(9,riE p.2),(10,ω (p.1:Int))],LY C st++riH p.2,.dead,[]⟩
def Ov (l:List Nd) (nn:Bool) (C:List AV) (st:List Nat) (k a:Nat) (own:List Nat):St:=⟨[(0,.sl (aO l) l.length nn),(7,ω (k:Int)),(8,ω (a:Int)),(5,.ref 0 0 0 k),(6,.ref 1 0 0 st.length),(9,riE own)],LY C st++riH own,.dead,[]⟩
theorem adb {nt:Nat} (f:59<=nt) (l:List Nd) (nn:Bool) (C:List AV) (st:List Nat) (k a:Nat) (m:st.length<2^39):∀ (d i:Nat) (own:List Nat),i+d=st.length->own.length<=i->az prog ap [] nt (af 2 (ah f56)) (λ_=> .exit 2) (Vz l nn C st k a) (Ov l nn C st k a) (i,own) (own++st.drop i):=by
 intro d
 induction d with
 | zero=>
  intro i own j h;rw [Xxv (by omega),Δ];have g:i=st.length:=by omega
  subst g;refine .done ?_;unfold Vz Ov LY;rcases Xxm (own= []) with rfl|hne
  .exact ahK f l nn C st [] st.length k a (by rw [aZ];simp [lit])
  .simp only;rw [Lm hne,Lp hne];exact ahI f l nn C st own st.length k a (by rw [aZ];simp [lit])
 | succ d ih=>
  intro i own j h;have c:i<st.length:=by omega
  have hnext:=ih (i+1) (own++ [st.getD i 0]) (by omega) (by simp;omega);have e:st.drop i=st.getD i 0::st.drop (i+1):=by
   rw [Xxs c,ξ,π c];rfl
  rw [υ,Xqt,<- e] at hnext;refine .next ?_ hnext
  unfold Vz LY;simp only;rw [Lm (iT _ _),Lp (iT _ _)];rcases Xxm (own= []) with rfl|hne
  .have b:=ahJ f l nn C st [] i k a;simp (disch:=first|omega|(simp [au,ay]<;>omega)) only [aC,Ψ,Θ,fP,eF,dG,bi,aZ,bD,bQ,aS,bf] at b;simp only [riE,riH,ai,Xqg,Xxw,ν,Xqf,Xqi,Ψ] at b ⊢;apply b<;>first|exact True.intro|omega|assumption|exact rfl
  .have b:=ahH f l nn C st own i k a;simp (disch:=first|omega|(simp [au,ay]<;>omega)) only [fK,bi,Θ,bM,aC,Ψ,fP,eF,dG,aZ,bD,bQ,aS,dA,Xqz,bf,je] at b;rw [Lm hne,Lp hne];simp only [η,τ];apply b<;>first|exact True.intro|omega|assumption|exact rfl
def Oe (l:List Nd) (nn:Bool) (p:Nat × List Nat × List AV):St:=⟨[(0,.sl (aO l) l.length nn),(5,match p.1 with|0=> .nilS|_=> .ref 0 0 0 p.1),(6,match p.1 with|0=> .nilS|_=> .ref 1 0 0 p.2.1.length),(7,.int .i64 (p.1:Int))],match p.1 with|0=> []|_=>LY p.2.2 p.2.1,.dead,[]⟩
def GI (p:Nat × List Nat × List AV):St:=⟨[(5,match p.1 with|0=> .nilS|_=> .ref 0 0 0 p.1)],match p.1 with|0=> []|_=>LY p.2.2 p.2.1,.dead,[]⟩
theorem acW {nt:Nat} (j:59<=nt) (l p r:List Nd) (nn:Bool) (x:Nd) (st:List Nat) (C:List AV) (t:l=p++x::r) (I:l.length<2^38) (o:dh x.op<=st.length) (G:st.length<=p.length) (d:p= []->st= []/\C= []) (E:C.length=p.length):
  ψ nt f56 (Oe l nn (p.length,st,C)) .normal (Oe l nn (p.length+1,st.take (st.length - dh x.op)++ [p.length],C++ [Po (st.drop (st.length - dh x.op))])):=by
 have A:p.length+(r.length+1)=l.length:=by rw [t];simp
 have k3:=Q4 x.op;have F:=yj x.op;rcases Xxm (p= []) with hp|hp
 .obtain ⟨rfl,rfl⟩:=d hp;subst hp;have w:dh x.op=0:=by simpa using o
  rw [w] at k3;rw [w];have q:l=x::r:=by rw [t];rfl
  subst q;exact amS j (x::r) nn rfl (by rw [aZ];exact Yq0 (Xvp r.length)) (by rw [aZ];exact Yq0 (Xvp r.length)) k3
 .obtain ⟨k,H⟩:∃ k,p.length=k+1:=⟨p.length - 1,by cases p with|nil=>exact absurd rfl hp|cons _ _=>simp⟩
  have g:ε (δ (p.length:Int)*5+0) (aO l)=lI x++aO r:=by rw [t];exact Yy rfl
  have hloop:=λnt (j:59<=nt)=>adb j l nn C st p.length (dh x.op) (by omega) (dh x.op) (st.length - dh x.op) [] (by omega) (by simp)
  rw [Xqi] at hloop;have i:Oe l nn (p.length,st,C)=⟨[(0,.sl (aO l) l.length nn),(5,.ref 0 0 0 p.length),(6,.ref 1 0 0 st.length),(7,ω (p.length:Int))],LY C st,.dead,[]⟩:=by rw [H];rfl
  rw [i];generalize K:st.length - dh x.op=m at*
  have y:γ .i64 ((st.length:Int) - ((dh x.op:Nat):Int))=(m:Int):=by rw [bG]<;>omega
  have e:(st.take m).length=m:=by rw [Xq4];omega
  have J:C.length<2^38:=by omega
  have n:κ p.length C=C:=ο (by omega);rcases Xxm (st.drop m= []) with ho|ho
  .have c:=amT j l nn p.length (dh x.op) C st [] x r g;rw [ho] at hloop ⊢;simp (disch:=first|omega|(simp [au,ay]<;>omega)) only [fK,bi,Θ,E,y,aC,Xjq,bM,dG,aZ,bD,bQ,aS,n,dA,je] at c;show aj prog ap [] nt _ _ .normal ⟨[(0,.sl (aO l) l.length nn),(5,.ref 0 0 0 (p.length+1)),(6,.ref 1 0 0 (st.take m++ [p.length]).length),(7,ω ((p.length+1:Nat):Int))],LY (C++ [Po []]) (st.take m++ [p.length]),.dead,[]⟩;simp only [η,τ,e];unfold LY;apply c<;>first|exact True.intro|omega|assumption|exact rfl|skip
   .refine az.blk hloop (by simp) rfl ?_ ?_
    .unfold Vz LY;exact aN.of ⟨rfl,rfl,rfl,rfl,rfl,rfl,rfl,trivial⟩
    .unfold Ov LY;exact aN.of ⟨rfl,rfl,rfl,rfl,rfl,rfl,trivial⟩
  .have c:=amR j l nn p.length (dh x.op) C st (st.drop m) x r g;simp (disch:=first|omega|(simp [au,ay]<;>omega)) only [fK,bi,Θ,E,y,aC,Xjq,bM,dG,aZ,bD,bQ,aS,n,dA,je] at c;show aj prog ap [] nt _ _ .normal ⟨[(0,.sl (aO l) l.length nn),(5,.ref 0 0 0 (p.length+1)),(6,.ref 1 0 0 (st.take m++ [p.length]).length),(7,ω ((p.length+1:Nat):Int))],LY (C++ [Po (st.drop m)]) (st.take m++ [p.length]),.dead,[]⟩;rw [aaz ho];simp only [η,τ,e];unfold LY;apply c<;>first|exact True.intro|omega|assumption|exact rfl|skip
   .intro nt u;have a:=(az.blk (s:=Vz l nn C st p.length (dh x.op) (m,[])) (s':=Ov l nn C st p.length (dh x.op) (st.drop m)) (id:=2) hloop (by simp) rfl (aN.refl _) (aN.refl _) nt u)
    unfold Vz Ov LY at a;simp only [riE,riH,Δ] at a;have D:=Lp ho;have z:=Lm ho;unfold riE at z;unfold riH at D;rw [D,z] at a;have f:=a.forget (b:=2) (B:=⟨ai (st.drop m),0,false,0,1,true⟩) (hp':= [(0,⟨C,0,false,0,1,true⟩),(1,⟨ai st,0,false,0,1,true⟩)]) (en':= [(0,.sl (aO l) l.length nn),(5,.ref 0 0 0 p.length),(6,.ref 1 0 0 st.length),(7,ω (p.length:Int)),(8,ω ((dh x.op:Nat):Int)),(9,.sl (κ ((st.drop m).length*1) (ε (0*1) (ai (st.drop m)))) (st.drop m).length true)]) (by intro v h;cases h) (by decide) rfl ⟨Fz.same rfl,Fz.same rfl,Fz.same rfl,Fz.same rfl,Fz.same rfl,Fz.ref,trivial⟩ ⟨rfl,LW.same rfl,by decide,rfl,LW.same rfl,by decide,rfl⟩;rw [Θ,Xw2,Xjt,dA,Xqz] at f;exact f.weak (aN.of ⟨rfl,rfl,rfl,rfl,rfl,rfl,rfl,trivial⟩) (aN.refl _)
theorem ahG {nt:Nat} (c:59<=nt) (l:List Nd) (nn:Bool) (st:List Nat) (C:List AV) (e:0<l.length):ψ nt f56 (Oe l nn (l.length,st,C)) (.exit 0) (GI (l.length,st,C)):=by
 obtain ⟨k,a⟩:∃ k,l.length=k+1:=⟨l.length - 1,by omega⟩
 have d:Oe l nn (l.length,st,C)=⟨[(0,.sl (aO l) l.length nn),(5,.ref 0 0 0 l.length),(6,.ref 1 0 0 st.length),(7,ω (l.length:Int))],LY C st,.dead,[]⟩:=by
  unfold Oe;simp only [a]
 have b:GI (l.length,st,C)=⟨[(5,.ref 0 0 0 l.length)],LY C st,.dead,[]⟩:=by
  unfold GI;simp only [a]
 rw [d,b];exact Vq c l nn l.length 0 C st [] (by rw [aZ];simp [lit])
theorem acV {nt:Nat} (j:59<=nt) (l:List Nd) (nn:Bool) (d:l.length<2^38) (k:0<l.length) (e:Nat):∀ (r p:List Nd) (st:List Nat) (done:List (List Nat)),p++r=l->iV r st.length= .inl e->st.length<=p.length->done.length=p.length->(p= []->st= [])->az prog ap [] nt (af 0 (ah f56)) (λ_=> .exit 0) (Oe l nn) GI (p.length,st,dM done) (l.length,We r p.length st,dM (done++tC r p.length st)):=by
 intro r
 induction r with
 |nil=>
  intro p st done h i b hd c;have hp:p.length=l.length:=by rw [<- h];simp
  rw [hp];simp only [tC,We,Δ];exact .done (ahG j l nn st _ k)
 | cons x r ih=>
  intro p st done h i b hd c;obtain ⟨m,g,f⟩:=Rh i;have a:(st.take (st.length - dh x.op)++ [p.length]).length=st.length - dh x.op+1:=by
   rw [η,Xq4,τ,Xjc (by omega)]
  have hnext:=ih (p++ [x]) (st.take (st.length - dh x.op)++ [p.length]) (done++ [st.drop (st.length - dh x.op)]) (by simp [h]) (by rw [a];exact f) (by rw [a];simp;omega) (by simp [hd]) (λh=>by simp at h);rw [η,τ,υ,<- Pv] at hnext;simp only [tC,We];refine .next (acW j l p r nn x st (dM done) h.symm d g b (λhp=> ⟨c hp, ?_⟩) (by rw [IV];exact hd)) hnext
  have:done= []:=Xxz (by rw [hd,hp];rfl);rw [this];rfl
theorem Y6 (l:List Nd) (nn:Bool) (f:∀ x ∈ l,x.sm) (i:di l=0):CO 56 [.sl (aO l) l.length nn] (.ret (.tup [.sl (dM (bJ l)) l.length true,.bool true])):=by
 have j:(dM (bJ l)).length=l.length:=by rw [IV];unfold bJ;rw [EK]
 have a:κ l.length (dM (bJ l))=dM (bJ l):=ο (by omega)
 suffices hown:CO 56 [.sl (aO l) l.length nn] (.ret (.tup [.own (dM (bJ l)) l.length 1,.bool true])) by
  have h:=hown.thaw (by simp);simp only [xZ,Xqg,Xxw,thaw,Θ,a] at h;exact h
 have g:=Jt l nn f;obtain ⟨n,b⟩:=EP i;rw [i] at g;have m:0<l.length:=by
  cases l with
  |nil=>simp [iV] at b
  |cons _ _=>simp
 have hloop:=λnt (hn:59<=nt)=>acV hn l nn (by omega) m 1 l [] [] [] rfl b (by simp) rfl (λ_=>rfl)
 have h:=ahF l nn 0 (dM (bJ l)) l.length;have q:l.length<1099511627776:=by omega
 simp (disch:=first|omega|(simp [au,ay]<;>omega)) only [dP,dY,Dp,Θ,a] at h;apply h<;>first|exact True.intro|omega|assumption|exact rfl|skip
 intro nt e;have c:=az.blk (s:=Oe l nn (0,[],dM [])) (s':=GI (l.length,We l 0 [],dM (bJ l))) (id:=0) hloop (by simp) rfl (aN.refl _) (aN.refl _) nt e;obtain ⟨k,p⟩:∃ k,l.length=k+1:=⟨l.length - 1,by omega⟩
 have o:GI (l.length,We l 0 [],dM (bJ l))=⟨[(5,.ref 0 0 0 l.length)],LY (dM (bJ l)) (We l 0 []),.dead,[]⟩:=by
  unfold GI;simp only [p]
 rw [o] at c;unfold LY at c;have d:=c.forget 1 _ (en':= [(5,.ref 0 0 0 l.length)]) (hp':= [(0,⟨dM (bJ l),0,false,0,1,true⟩)]) (by intro v h;cases h) (by decide) rfl ⟨Fz.same rfl,trivial⟩ ⟨rfl,LW.same rfl,by decide,rfl⟩;exact d.weak (aN.of ⟨rfl,rfl,rfl,rfl,trivial⟩) (aN.refl _)
theorem oN (k:Nat):decide (((0:Nat):Int)<=(k:Int))=true:=Yq0 (by omega)
theorem lW {k n:Nat} (h:k<n):decide ((k:Int)<(n:Int))=true:=Yq0 (by omega)
theorem DR {k n:Nat} (h:n<=k):decide ((k:Int)<(n:Int))=false:=Yq1 (by omega)
def ixE:Option Nat->bI
 |none=> .exit 0
 |some _=> .ret
def ixI:Option Nat->Int
 |none=> -1
 |some i=>(i:Int)
theorem kZ {p q:Prop} (h:p) (e:p=q):q:=e ▸ h
end Go.Proofs.Tryz
