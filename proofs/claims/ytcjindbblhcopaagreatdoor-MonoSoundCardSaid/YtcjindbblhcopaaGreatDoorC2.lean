/- Contracts of functions that the law reaches, each by its own hypotheses; joined by a program of mine. -/
import Derived.Test.YtcjindbblhcopaaGreatDoorC1
import Derived.Test.YtcjindbblhcopaaGreatDoorM5
set_option linter.unusedSimpArgs false
set_option linter.unusedVariables false
set_option maxRecDepth 100000
open Go AM
open List renaming eq_nil_of_length_eq_zero→Xx5,length_cons→μ,nil_append→Xqd,map_cons→Xqc,map_nil→Xxz,length_nil→χ,take_length→Xqw,length_append→κ,length_singleton→τ,getD_eq_getElem?_getD→ν,getElem?_eq_none→Xqz,append_nil→Xqa,append_assoc→Ψ,drop_zero→Xjq,take_add_one→Xw0,getElem?_eq_getElem→ξ,length_take→Xq5,take→ο,headD→ζ,drop→ε,length→η,all→Xzv,map→Xwe,getD→Xx6,foldl_append→Xw4,map_append→Xxt,all_eq_true→Xzg,take_append_drop→Xzh,cons_append→Xqx,take_of_length_le→Xqi,getD_cons_zero→Xjj,drop_of_length_le→Xxy,range→Xq1,ext_getElem?→Xjx,getElem?_set→Xj9,replicate→θ,map_drop→Xjz,drop_eq_getElem_cons→Xxh,headD_cons→Xjh,dropWhile_cons→Xxv,singleton_append→Xxl,tail→Xjt,length_drop→Xx8,replicate_succ→Xxd,replicate_zero→Xzc,length_replicate→Xxi,any_nil→Yx7,any_cons→Xwu,tail_cons→Xzm
open Nat renaming pow_succ→Xq2,mul_comm→Xqb,mul_assoc→Xqo,mul_one→Φ,not_lt→Xk4,add_zero→Xq3,eq_zero_or_pos→Ξ,pow_le_pow_right→Xqf,mul_zero→Xjg,min_eq_left→Xjs,lt_or_ge→Xq8,mul_le_mul_left→Xq0,mul_add→Xq9,le_refl→φ,ble→Xqk,beq→Xqn,mul_pos→Xjb,lt_of_lt_of_le→σ,mul_lt_mul_of_pos_right→Xvi,lt_of_not_le→Yqg,div_lt_iff_lt_mul→Xqr,zero_le→Xxf,mod_eq_of_lt→Δ,mod_lt→Xqh,add_mul→Xxn,zero_add→Θ,le_trans→Xxa,pow_mul→Xja,lt_trichotomy→Xjy,mul_le_mul_right→Xqu,one_mul→Xwh,lt_irrefl→Xv2,div_div_eq_div_mul→Xxx,mul_left_comm→Xw1,add_comm→Xxr,div_add_mod→Xq7,lt_trans→Xq6,le_of_lt→Xjp,div_eq_of_lt→Xx7,div_le_self→Xji,lt_of_le_of_lt→υ,gcd→Xxq,gcd_comm→Xkf,gcd_zero_left→Xw2,gcd_le_right→Xvb,gcd_pos_of_pos_right→Xj0,div_pos→Xv0,div_self→Yx4,sub_zero→Xjv,mul_le_mul→Xj7,ble_eq_true_of_le→Xqg,ble_eq→Xxw
open Decidable renaming em→Xxu
open IntKind renaming wrap→γ
open Bool renaming not_true→Xwr,not_false→Xjo,eq_iff_iff→Xjk,not_eq_true'→Xqq,or_false→Yxq,true_or→Xkk,false_or→Xzk
open Int renaming tdiv→Xqs,toNat→δ,fdiv→Xqv,tmod→Xq4,emod_nonneg→Yqw,emod_lt_of_pos→Xk0,tmod_lt_of_pos→Xwt,neg_tmod→Yx5,emod_eq_of_lt→Xk7
open AV renaming toInt→Γ,toBool→Xkj,toStr→Yqn,nilS→Xk6
open UInt8 renaming ofNat→Xqj,toNat→Xxj,toNat_lt→Xvt
namespace Go.Proofs.Tryz
abbrev zcc2_0 : List UInt8 := [97,50,51,52,53,54,55,56,57,48,49,50,51,52,53,54,55,56,57,48]
abbrev zcc2_1 : List AV := [.str [],ω 0,.bool false,.bool false,.bool false]
def Ha:List Nat→List Nat→Nat→List Nat × Nat
 | [],_,c=>([],c)
 |x::u,v,c=>((if x<v.headD 0+c then x+16777216 - (v.headD 0+c) else x - (v.headD 0+c))::(Ha u v.tail (if x<v.headD 0+c then 1 else 0)).1,(Ha u v.tail (if x<v.headD 0+c then 1 else 0)).2)
theorem aar {v:List Nat} (h:aV v):v.headD 0<16777216:=by cases v with|nil=>show 0<16777216;omega|cons d l=>exact h.head
theorem adS {v:List Nat} (h:aV v):aV v.tail:=by cases v with|nil=>exact h|cons d l=>exact h.tail
theorem Lt (v:List Nat):bM v=v.headD 0+16777216*bM v.tail:=by cases v with|nil=>rfl|cons d l=>rfl
theorem RN (u:List Nat):∀ (v:List Nat) (c:Nat),c≤1→aV u→aV v→v.length≤u.length→(Ha u v c).2≤1∧aV (Ha u v c).1∧(Ha u v c).1.length=u.length∧bM (Ha u v c).1+bM v+c=bM u+16777216^u.length*(Ha u v c).2:=by
 induction u with
 |nil=>
  intro v c f _ _ b;have:v= []:=Xx5 (by simpa using b);subst this;exact ⟨f,aV.nil,rfl,by simp [Ha,bM]⟩
 |cons x u ih=>
  intro v c f e g b;have l:=e.head;have m:=aar g;have a:v.tail.length≤u.length:=by simp at b ⊢;omega
  obtain ⟨k,j,h,i⟩:=ih v.tail (if x<v.headD 0+c then 1 else 0) (by split<;>omega) e.tail (adS g) a;simp only [Ha];refine ⟨k,aV.cons (by split<;>omega) j,by rw [μ,h,μ], ?_⟩;rw [Lt v];simp only [bM,μ,Xq2];rw [Xqb (16777216^u.length),Xqo];generalize Ha u v.tail (if x<v.headD 0+c then 1 else 0)=r at*
  split at i<;>rename_i d
  ·rw [if_pos d];omega
  ·rw [if_neg d];omega
def KA (a b:List Nat) (na nb:Bool) (p:Nat × Nat × List Nat):St:=⟨[(0,.sl (ag a) a.length na),(1,.sl (ag b) b.length nb),(6,ω (p.2.1:Int)),(7,ω (p.1:Int)),(5,Gj p.2.2)],Gk p.2.2,.dead,[]⟩
def IQ (p:Nat × List Nat):St:=⟨[(5,Gj p.2)],Gk p.2,.dead,[]⟩
theorem RT {nt:Nat} (h:41≤nt) (a b o:List Nat) (g f:Bool) (c k x y:Nat) (s:a.length<2^40) (p:b.length<2^40) (q:k<a.length) (t:o.length=k) (i:a.getD k 0=x) (j:b.getD k 0=y) (m:x<16777216) (n:y<16777216) (r:c≤1):
  ψ nt f111 (KA a b g f (k,c,o)) .normal (KA a b g f (k+1,if x<y+c then 1 else 0,o++ [if x<y+c then x+16777216 - (y+c) else x - (y+c)])):=by
 unfold KA;by_cases hkb:k<b.length<;>by_cases hlt:x<y+c<;>simp only [hlt,if_true,if_false]
 ·have e:((x:Int) - (c:Int) - (y:Int)+((16777216:Nat):Int))=((x+16777216 - (y+c):Nat):Int):=by omega
  rcases Xxu (o= []) with rfl|hne
  ·have d:=XK h a b [] g f c k;simp (disch:=first|omega|(simp [aq,au]<;>omega)) only [av,Φ,ep,i,aU,bU,j,bB,bf,db,cV,bq,bQ] at d;rw [e] at d;simp only [Xqd,Gj,Gk,ag,Xqc,Xxz,μ,χ] at d ⊢;apply d<;>first|exact True.intro|omega|assumption|exact rfl
  ·have d:=XF h a b o g f c k;rw [eD hne,eF hne,eD (fM _ _),eF (fM _ _)];simp (disch:=first|omega|(simp [aq,au]<;>omega)) only [dW,bf,Φ,av,ep,i,aU,bU,j,bB,db,cV,bq,bQ] at d;rw [e] at d;simp (disch:=first|omega|(simp [aq,au]<;>omega)) only [bK,ct,Xqw,iD] at d;simp only [κ,τ];apply d<;>first|exact True.intro|omega|assumption|exact rfl
 ·have e:((x:Int) - (c:Int) - (y:Int))=((x - (y+c):Nat):Int):=by omega
  rcases Xxu (o= []) with rfl|hne
  ·have d:=XL h a b [] g f c k;simp (disch:=first|omega|(simp [aq,au]<;>omega)) only [av,Φ,ep,i,aU,bU,j,dw,eC,eU,db,cV,bf,bq,bB,bQ] at d;rw [e] at d;simp only [Xqd,Gj,Gk,ag,Xqc,Xxz,μ,χ] at d ⊢;apply d<;>first|exact True.intro|omega|assumption|exact rfl
  ·have d:=XG h a b o g f c k;rw [eD hne,eF hne,eD (fM _ _),eF (fM _ _)];simp (disch:=first|omega|(simp [aq,au]<;>omega)) only [dW,bf,Φ,av,ep,i,aU,bU,j,dw,eC,eU,db,cV,bq,bB,bQ] at d;rw [e] at d;simp (disch:=first|omega|(simp [aq,au]<;>omega)) only [bK,ct,Xqw,iD] at d;simp only [κ,τ];apply d<;>first|exact True.intro|omega|assumption|exact rfl
 ·have l:y=0:=by rw [← j,ν,Xqz (by omega)];rfl
  have e:((x:Int) - (c:Int)+((16777216:Nat):Int))=((x+16777216 - (y+c):Nat):Int):=by omega
  rcases Xxu (o= []) with rfl|hne
  ·have d:=XM h a b [] g f c k;simp (disch:=first|omega|(simp [aq,au]<;>omega)) only [av,Φ,ep,i,aU,bU,bB,bf,bq,dw,eC,eU,Xk4,db,cV,bQ] at d;rw [e] at d;simp only [Xqd,Gj,Gk,ag,Xqc,Xxz,μ,χ] at d ⊢;apply d<;>first|exact True.intro|omega|assumption|exact rfl
  ·have d:=XH h a b o g f c k;rw [eD hne,eF hne,eD (fM _ _),eF (fM _ _)];simp (disch:=first|omega|(simp [aq,au]<;>omega)) only [dW,bf,Φ,av,ep,i,aU,bU,bB,bq,dw,eC,eU,Xk4,db,cV,bQ] at d;rw [e] at d;simp (disch:=first|omega|(simp [aq,au]<;>omega)) only [bK,ct,Xqw,iD] at d;simp only [κ,τ];apply d<;>first|exact True.intro|omega|assumption|exact rfl
 ·have l:y=0:=by rw [← j,ν,Xqz (by omega)];rfl
  have e:((x:Int) - (c:Int))=((x - (y+c):Nat):Int):=by omega
  rcases Xxu (o= []) with rfl|hne
  ·have d:=XN h a b [] g f c k;simp (disch:=first|omega|(simp [aq,au]<;>omega)) only [av,Φ,ep,i,aU,bU,dw,eC,eU,bq,Xk4,db,cV,bf,bB,bQ] at d;rw [e] at d;simp only [Xqd,Gj,Gk,ag,Xqc,Xxz,μ,χ] at d ⊢;apply d<;>first|exact True.intro|omega|assumption|exact rfl
  ·have d:=XI h a b o g f c k;rw [eD hne,eF hne,eD (fM _ _),eF (fM _ _)];simp (disch:=first|omega|(simp [aq,au]<;>omega)) only [dW,bf,Φ,av,ep,i,aU,bU,dw,eC,eU,bq,Xk4,db,cV,bB,bQ] at d;rw [e] at d;simp (disch:=first|omega|(simp [aq,au]<;>omega)) only [bK,ct,Xqw,iD] at d;simp only [κ,τ];apply d<;>first|exact True.intro|omega|assumption|exact rfl
theorem RO {nt:Nat} (f:41≤nt) (a b o:List Nat) (e d:Bool) (c:Nat):ψ nt f111 (KA a b e d (a.length,c,o)) (.exit 0) (IQ (c,o)):=by
 unfold KA IQ;rcases Xxu (o= []) with rfl|hne
 ·exact XO f a b [] e d c a.length (by rw [bq];simp [lit])
 ·have g:=XJ f a b o e d c a.length (by rw [bq];simp [lit]);rw [eD hne,eF hne];exact g
theorem RP {nt:Nat} (n:41≤nt) (a b:List Nat) (i d:Bool) (q:a.length<2^40) (g:b.length<2^40) (j:aV a) (f:aV b):∀ (l p o:List Nat) (c:Nat),p++l=a→o.length=p.length→c≤1→
  az prog ap [] nt (ac 0 (af f111)) (fun _=> .exit 0) (KA a b i d) IQ (p.length,c,o) ((Ha l (b.drop p.length) c).2,o++(Ha l (b.drop p.length) c).1):=by
 intro l
 induction l with
 |nil=>
  intro p o c h k m;have hp:p=a:=by simpa using h
  rw [hp];simp only [Ha,Xqa];exact .done (RO n a b o i d c)
 | cons x l ih=>
  intro p o c h k m;have u:p.length+(l.length+1)=a.length:=by rw [← h];simp
  have s:x<16777216:=j x (by rw [← h];simp);have r:a.getD p.length 0=x:=by rw [← h];simp
  have t:(b.drop p.length).headD 0=b.getD p.length 0:=by
   rw [List.headD_eq_head?_getD,List.head?_drop,ν]
  have e:(b.drop p.length).tail=b.drop (p.length+1):=by rw [List.tail_drop]
  have hnext:=ih (p++ [x]) (o++ [if x<b.getD p.length 0+c then x+16777216 - (b.getD p.length 0+c) else x - (b.getD p.length 0+c)]) (if x<b.getD p.length 0+c then 1 else 0) (by simp [h]) (by simp [k]) (by split<;>omega);rw [κ,τ,Ψ] at hnext;simp only [Ha];rw [t,e];exact .next (RT n a b o i d c p.length x _ q g (by omega) k r rfl s (f.getD _) m) hnext
theorem E4 (x y:Nat) (d b:Bool) (h:y≤x) (u:(ak x).length<2^36):CO 111 [.sl (ag (ak x)) (ak x).length d,.sl (ag (ak y)) (ak y).length b] (.ret (.sl (ag (ak (x - y))) (ak (x - y)).length false)):=by
 have l:=mB h;obtain ⟨p,f,i,e⟩:=RN (ak x) (ak y) 0 (by omega) (aV.dig x) (aV.dig y) l;have hloop:=fun nt (hn:41≤nt)=>RP hn (ak x) (ak y) d b (by omega) (by omega) (aV.dig x) (aV.dig y) (ak x) [] [] 0 rfl rfl (by omega)
 rw [χ,Xjq] at hloop;generalize q:Ha (ak x) (ak y) 0=r at*
 obtain ⟨o,c⟩:=r;simp only [Xqd] at hloop p f i e;rw [dm,dm,Xq3] at e;have g:=uG f;have n:c=0:=by
  rcases Ξ c with h0|h0
  ·exact h0
  ·have m:c=1:=by omega
   have s:=qp y;have t:=Xqf (show 0<16777216 by omega) l;rw [m,Φ] at e;rw [i] at g;omega
 subst n;have j:bM o=x - y:=by rw [Xjg] at e;omega
 have k:=ur o true (by omega);rw [Jz f,j] at k;rcases Xxu (o= []) with rfl|hne
 ·have h:=SY (ak x) (ak y) [] (ak (x - y)) d b;have a:=ur [] false (by simp);rw [Jz aV.nil,j] at a;apply h
  ·exact az.blk hloop (by simp) rfl (aJ.of ⟨rfl,rfl,rfl,rfl,rfl,trivial⟩) (aJ.of ⟨rfl,trivial⟩)
  ·exact a.args (fI.cons (aN.nilS false rfl) fI.nil)
 ·have h:=SX (ak x) (ak y) o (ak (x - y)) d b;rw [Φ,ct,Xqw] at h;apply h
  ·exact az.blk hloop (by simp) rfl (aJ.of ⟨rfl,rfl,rfl,rfl,rfl,trivial⟩) (by unfold IQ;rw [eD hne,eF hne];exact aJ.of ⟨rfl,trivial⟩)
  ·exact k.out (gm.sl1 _ _ _)
def Qq (a b:List Nat):Nat→Option Int
 |0=>none
 |k+1=>if a.getD k 0=b.getD k 0 then Qq a b k else some ((a.getD k 0:Int) - (b.getD k 0:Int))
def Ej (a b:List Nat):Int:=if a.length=b.length then (Qq a b a.length).getD 0 else (a.length:Int) - (b.length:Int)
theorem kK {l:List Nat} {k:Nat} (h:k<l.length):bM (l.take (k+1))=bM (l.take k)+16777216^k*l.getD k 0:=by
 rw [Xw0,uF,ξ h,Xq5,Xjs (by omega),ν,ξ h];simp [bM]
theorem El {a b:List Nat} (i:a.length=b.length) (d:aV a) (e:aV b):∀ k,k≤a.length→(0≤(Qq a b k).getD 0↔bM (b.take k)≤bM (a.take k))∧((Qq a b k).getD 0≤0↔bM (a.take k)≤bM (b.take k))
 |0,_=>by simp [Qq]
 | k+1,h=>by
  obtain ⟨f,j⟩:=El i d e k (by omega);rw [kK (l:=a) (by omega),kK (l:=b) (by omega)];have g:=uG (d.take k);have tb:=uG (e.take k);rw [Xq5,Xjs (by omega)] at g tb;simp only [Qq];by_cases he:a.getD k 0=b.getD k 0
  ·rw [if_pos he,he];exact ⟨f.trans (by omega),j.trans (by omega)⟩
  ·rw [if_neg he];simp only [Option.getD_some];generalize a.getD k 0=x at*
   generalize b.getD k 0=y at*
   generalize bM (ο k a)=u at*
   generalize bM (ο k b)=v at*
   generalize 16777216^k=M at*
   rcases Xq8 x y with hlt|hge
   ·have c:M*(x+1)≤M*y:=Xq0 _ hlt;rw [Xq9,Φ] at c;constructor<;>constructor<;>intro<;>omega
   ·have c:M*(y+1)≤M*x:=Xq0 _ (by omega);rw [Xq9,Φ] at c;constructor<;>constructor<;>intro<;>omega
theorem Bw (x y:Nat):(0≤Ej (ak x) (ak y)↔y≤x)∧(Ej (ak x) (ak y)≤0↔x≤y):=by
 unfold Ej;by_cases h:(ak x).length=(ak y).length
 ·rw [if_pos h];have:=El h (aV.dig x) (aV.dig y) _ (φ _);rw [Xqw,h,Xqw,dm,dm] at this;rw [h];exact this
 ·rw [if_neg h];rcases Xq8 (ak x).length (ak y).length with h1|h1
  ·have b:¬ y≤x:=fun a=>by have:=mB a;omega
   constructor<;>constructor<;>intro<;>omega
  ·have b:¬ x≤y:=fun a=>by have:=mB a;omega
   constructor<;>constructor<;>intro<;>omega
def VL (a b:List Nat) (na nb:Bool) (k:Nat):St:=⟨[(0,.sl (ag a) a.length na),(1,.sl (ag b) b.length nb),(5,ω ((k:Int) - 1))],[],.dead,[]⟩
def ZA:Option Int→St
 |none=> ⟨[],[],.dead,[]⟩
 |some c=> ⟨[(4,.int .i64 c)],[],.dead,[]⟩
def cqE:Option Int→br
 |none=> .exit 0
 |some _=> .ret
theorem Qr {nt:Nat} (g:41≤nt) (a b:List Nat) (e d:Bool) (p:a.length=b.length) (h:aV a) (f:aV b) (q:a.length<2^40):∀ k,k≤a.length→az prog ap [] nt (ac 0 (af f109)) cqE (VL a b e d) ZA k (Qq a b k):=by
  intro k
  induction k with
  |zero=>exact fun _=> .done (Xx g a b e d)
  | succ k ih=>
    intro o;have m:=h.getD k;have n:=f.getD k;have i:(((k+1:Nat):Int) - 1)=(k:Int):=by omega
    have j:γ .i64 ((k:Int) - ((1:Nat):Int))=(k:Int) - 1:=bU (by omega) (by omega);have l:γ .i64 (((a.getD k 0:Nat):Int) - ((b.getD k 0:Nat):Int))=((a.getD k 0:Nat):Int) - ((b.getD k 0:Nat):Int):=bU (by omega) (by omega);simp only [Qq];by_cases he:a.getD k 0=b.getD k 0
    · rw [if_pos he];refine .next ?_ (ih (by omega))
      unfold VL;rw [i]
      first
        | (have c:=acN g a b e d k
           simp (disch:=first|omega|(simp [aq,au]<;>omega)) only [av,Φ,ep,he,aU,kO,decide_true,Xwr,dw,Xjo,db,cV,bf,bq,bB,j] at c;apply c<;>first|exact True.intro|omega|assumption|exact rfl)
    · rw [if_neg he];refine .done ?_;unfold VL;rw [i];have c:=acM g a b e d k;simp (disch:=first|omega|(simp [aq,au]<;>omega)) only [av,Φ,ep,db,cV,bf,bq,aU,kO,he,decide_false,Xjo,bB,l] at c;apply c<;>first|exact True.intro|omega|assumption|exact rfl
theorem Jc (a b:List Nat) (e d:Bool) (f:aV a) (g:aV b) (i:a.length<2^40) (l:b.length<2^40):CO 109 [.sl (ag a) a.length e,.sl (ag b) b.length d] (.ret (ω (Ej a b))):=by
 unfold Ej;by_cases hl:a.length=b.length
 ·rw [if_pos hl];have hloop:=fun nt (hn:41≤nt)=>Qr hn a b e d hl f g i a.length (φ _)
  have j:γ .i64 ((a.length:Int) - ((1:Nat):Int))=(a.length:Int) - 1:=yL i;cases k:Qq a b a.length with
  |none=>
   rw [k] at hloop;exact Xz a b e d (by rw [hl];simp [lit]) (az.blk hloop (by simp [cqE]) rfl (aJ.of ⟨rfl,rfl,congrArg _ j,trivial⟩) (aJ.of trivial))
  |some c=>
   rw [k] at hloop;exact XB a b e d c (by rw [hl];simp [lit]) (az.blk hloop (by simp [cqE]) rfl (aJ.of ⟨rfl,rfl,congrArg _ j,trivial⟩) (aJ.of ⟨rfl,trivial⟩))
 ·rw [if_neg hl];have h:=Xy a b e d;have m:γ .i64 ((a.length:Int) - (b.length:Int))=(a.length:Int) - (b.length:Int):=bU (by omega) (by omega);simp (disch:=first|omega|(simp [aq,au]<;>omega)) only [kO,bB,eC,eU,m] at h;apply h<;>first|exact True.intro|omega|assumption|exact rfl
theorem ZC {nt:Nat} (i:26≤nt) (x y w b a:Nat) (c:Int) (e d:Bool) (h0:lit true (decide (c≤((0:Nat):Int)))=true) (f:lit true (decide ((b:Int)<(a:Int)))=true) (h:CO 112 [.sl (ag (ak y)) (ak y).length d,ω (γ .i64 (Xqs (γ .i64 ((γ .i64 ((b:Int)+(a:Int)))+((1:Nat):Int))) ((2:Nat):Int)))] (.ret (.sl (ag (ak w)) (ak w).length true))) (g:CO 109 [.sl (ag (ak w)) (ak w).length true,.sl (ag (ak x)) (ak x).length e] (.ret (ω c))):ψ nt f110 ⟨[(0,.sl (ag (ak x)) (ak x).length e),(1,.sl (ag (ak y)) (ak y).length d),(5,ω (b:Int)),(6,ω (a:Int))],[],.dead,[]⟩ (.normal) ⟨[(0,.sl (ag (ak x)) (ak x).length e),(1,.sl (ag (ak y)) (ak y).length d),(5,ω (γ .i64 (Xqs (γ .i64 ((γ .i64 ((b:Int)+(a:Int)))+((1:Nat):Int))) ((2:Nat):Int)))),(6,ω (a:Int))],[],.dead,[]⟩:=pJ 110 [] 2 3 (.c h0 (.k 1 f .nil)) (.c g (.c h .nil)) i
theorem ZE {nt:Nat} (i:26≤nt) (x y w a b:Nat) (c:Int) (e d:Bool) (h0:lit false (decide (c≤((0:Nat):Int)))=true) (f:lit true (decide ((a:Int)<(b:Int)))=true) (h:CO 112 [.sl (ag (ak y)) (ak y).length d,ω (γ .i64 (Xqs (γ .i64 ((γ .i64 ((a:Int)+(b:Int)))+((1:Nat):Int))) ((2:Nat):Int)))] (.ret (.sl (ag (ak w)) (ak w).length true))) (g:CO 109 [.sl (ag (ak w)) (ak w).length true,.sl (ag (ak x)) (ak x).length e] (.ret (ω c))):ψ nt f110 ⟨[(0,.sl (ag (ak x)) (ak x).length e),(1,.sl (ag (ak y)) (ak y).length d),(5,ω (a:Int)),(6,ω (b:Int))],[],.dead,[]⟩ (.normal) ⟨[(0,.sl (ag (ak x)) (ak x).length e),(1,.sl (ag (ak y)) (ak y).length d),(5,ω (a:Int)),(6,ω (γ .i64 ((γ .i64 (Xqs (γ .i64 ((γ .i64 ((a:Int)+(b:Int)))+((1:Nat):Int))) ((2:Nat):Int))) - ((1:Nat):Int))))],[],.dead,[]⟩:=pJ 110 [] 2 1 (.c h0 (.k 1 f .nil)) (.c g (.c h .nil)) i
theorem ZF {nt:Nat} (f:26≤nt) (x y w a b:Nat) (c:Int) (e d:Bool) (h0:lit false (decide ((a:Int)<(b:Int)))=true):ψ nt f110 ⟨[(0,.sl (ag (ak x)) (ak x).length e),(1,.sl (ag (ak y)) (ak y).length d),(5,ω (a:Int)),(6,ω (b:Int))],[],.dead,[]⟩ (.exit 0) ⟨[(5,ω (a:Int))],[],.dead,[]⟩:=pJ 110 [] 1 0 (.c h0 .nil) (.nil) f
theorem VM (x y q:Nat) (b a:Bool) (c:aG prog ap [] 26 (.block 0 (.loop (ac 0 (af f110)))) ⟨[(0,.sl (ag (ak x)) (ak x).length b),(1,.sl (ag (ak y)) (ak y).length a),(4,ω 0),(5,ω 0),(6,ω 16777215),(7,.dead),(10,.dead),(21,.dead)],[],.dead,[]⟩ (.normal) ⟨[(5,ω (q:Int))],[],.dead,[]⟩):CO 110 [.sl (ag (ak x)) (ak x).length b,.sl (ag (ak y)) (ak y).length a] (.ret (ω (q:Int))):=pK [0] 0 0 .nil (.l c .nil)
theorem Xh {nt:Nat} (e:35≤nt) (l o:List Nat) (k:Nat) (c:Bool) (h0:(chk (.int .i64) (ζ (ε ((δ (k:Int))*1) (ag l)) .dead))=true) (a:(decide (((0:Nat):Int)≤(k:Int)))=true) (b:(decide ((k:Int)<(l.length:Int)))=true) (d:lit true (decide (((0:Nat):Int)≤(k:Int)))=true):ψ nt f79 ⟨[(0,.sl (ag l) l.length c),(3,.nilS),(4,ω (k:Int))],[],.dead,[]⟩ (.normal) ⟨[(0,.sl (ag l) l.length c),(3,.ref 0 0 0 3),(4,ω (γ .i64 ((k:Int) - ((1:Nat):Int))))],[(0,⟨[.int .u8 (γ .u8 (Xqv (Γ (ζ (ε ((δ (k:Int))*1) (ag l)) .dead)) (2^(min 16 64)))),.int .u8 (γ .u8 (Xqv (Γ (ζ (ε ((δ (k:Int))*1) (ag l)) .dead)) (2^(min 8 64)))),.int .u8 (γ .u8 (Γ (ζ (ε ((δ (k:Int))*1) (ag l)) .dead)))],0,false,0,1,true⟩)],.dead,[]⟩:=pJ 79 [] 2 1 (.k 3 h0 (.c a (.c b (.k 1 h0 (.c a (.c b (.k 1 h0 (.c a (.c b (.c d .nil)))))))))) (.nil) e
theorem Sd {nt:Nat} (b:35≤nt) (l o:List Nat) (a:Bool):ψ nt f79 ⟨[(0,.sl (ag l) l.length a),(3,.nilS),(4,ω (-1))],[],.dead,[]⟩ (.exit 0) ⟨[(3,.nilS)],[],.dead,[]⟩:=pJ 79 [] 1 0 (.n 1 .nil) (.nil) b
theorem Se (l o:List Nat) (a:Bool) (c:aG prog ap [] 35 (.block 0 (.loop (ac 0 (af f79)))) ⟨[(0,.sl (ag l) l.length a),(2,.str []),(3,.nilS),(4,ω (γ .i64 ((l.length:Int) - ((1:Nat):Int)))),(9,.dead)],[],.dead,[]⟩ (.normal) ⟨[(3,.nilS)],[],.dead,[]⟩) (b:CO 76 [.str []] (.ret (.str (aa (ae []))))):CO 79 [.sl (ag l) l.length a] (.ret (.str (aa (ae [])))):=pK [0] 0 0 (.n 2 .nil) (.c b (.l c .nil))
theorem Xg {nt:Nat} (f:35≤nt) (l o:List Nat) (k:Nat) (d:Bool) (h0:(Xqk (o.length+3) 1099511627776)=true) (e:(Xqk (o.length*1) (η (kN o)))=true) (c:(chk (.int .i64) (ζ (ε ((δ (k:Int))*1) (ag l)) .dead))=true) (a:(decide (((0:Nat):Int)≤(k:Int)))=true) (b:(decide ((k:Int)<(l.length:Int)))=true) (g:lit true (decide (((0:Nat):Int)≤(k:Int)))=true):ψ nt f79 ⟨[(0,.sl (ag l) l.length d),(3,.ref 0 0 0 o.length),(4,ω (k:Int))],[(0,⟨(kN o),0,false,0,1,true⟩)],.dead,[]⟩ (.normal) ⟨[(0,.sl (ag l) l.length d),(3,.ref 0 0 0 (o.length+3)),(4,ω (γ .i64 ((k:Int) - ((1:Nat):Int))))],[(0,⟨((ο (o.length*1) (kN o))++ [.int .u8 (γ .u8 (Xqv (Γ (ζ (ε ((δ (k:Int))*1) (ag l)) .dead)) (2^(min 16 64)))),.int .u8 (γ .u8 (Xqv (Γ (ζ (ε ((δ (k:Int))*1) (ag l)) .dead)) (2^(min 8 64)))),.int .u8 (γ .u8 (Γ (ζ (ε ((δ (k:Int))*1) (ag l)) .dead)))]),0,false,0,1,true⟩)],.dead,[]⟩:=pJ 79 [] 1 1 (.k 1 h0 (.c e (.k 1 c (.c a (.c b (.k 1 c (.c a (.c b (.k 1 c (.c a (.c b (.c g .nil)))))))))))) (.nil) f
theorem Sa {nt:Nat} (b:35≤nt) (l o:List Nat) (a:Bool):ψ nt f79 ⟨[(0,.sl (ag l) l.length a),(3,.ref 0 0 0 o.length),(4,ω (-1))],[(0,⟨(kN o),0,false,0,1,true⟩)],.dead,[]⟩ (.exit 0) ⟨[(3,.ref 0 0 0 o.length)],[(0,⟨(kN o),0,false,0,1,true⟩)],.dead,[]⟩:=pJ 79 [] 1 0 (.n 1 .nil) (.nil) b
theorem Sb (l o:List Nat) (a:Bool) (h0:(Xqn (η (ο (o.length*1) (kN o))) o.length)=true) (b:(Xzv (ο (o.length*1) (kN o)) (chk (.int .u8)))=true) (e:aG prog ap [] 35 (.block 0 (.loop (ac 0 (af f79)))) ⟨[(0,.sl (ag l) l.length a),(2,.str []),(3,.nilS),(4,ω (γ .i64 ((l.length:Int) - ((1:Nat):Int)))),(9,.dead)],[],.dead,[]⟩ (.normal) ⟨[(3,.ref 0 0 0 o.length)],[(0,⟨(kN o),0,false,0,1,true⟩)],.dead,[]⟩) (d:CO 76 [.str (Xwe (fun c=>Xqj (δ (Γ c))) (ο (o.length*1) (kN o)))] (.ret (.str (aa (ae (Xwe (fun c=>Xqj (δ (Γ c))) (ο (o.length*1) (kN o)))))))):CO 79 [.sl (ag l) l.length a] (.ret (.str (aa (ae (Xwe (fun c=>Xqj (δ (Γ c))) (ο (o.length*1) (kN o))))))):=pK [0] 0 0 (.c h0 (.c b .nil)) (.c d (.l e .nil))
theorem XP (x:Nat) (h0:lit true (decide (((0:Nat):Int)<(x:Int)))=true) (a:CO 76 [.str [Xqj (δ (γ .u8 (Xqv (x:Int) (2^(min 56 64))))),Xqj (δ (γ .u8 (Xqv (x:Int) (2^(min 48 64))))),Xqj (δ (γ .u8 (Xqv (x:Int) (2^(min 40 64))))),Xqj (δ (γ .u8 (Xqv (x:Int) (2^(min 32 64))))),Xqj (δ (γ .u8 (Xqv (x:Int) (2^(min 24 64))))),Xqj (δ (γ .u8 (Xqv (x:Int) (2^(min 16 64))))),Xqj (δ (γ .u8 (Xqv (x:Int) (2^(min 8 64))))),Xqj (δ (γ .u8 (Xqv (x:Int) (2^(min 0 64)))))]] (.ret (.str (aa (ae [Xqj (δ (γ .u8 (Xqv (x:Int) (2^(min 56 64))))),Xqj (δ (γ .u8 (Xqv (x:Int) (2^(min 48 64))))),Xqj (δ (γ .u8 (Xqv (x:Int) (2^(min 40 64))))),Xqj (δ (γ .u8 (Xqv (x:Int) (2^(min 32 64))))),Xqj (δ (γ .u8 (Xqv (x:Int) (2^(min 24 64))))),Xqj (δ (γ .u8 (Xqv (x:Int) (2^(min 16 64))))),Xqj (δ (γ .u8 (Xqv (x:Int) (2^(min 8 64))))),Xqj (δ (γ .u8 (Xqv (x:Int) (2^(min 0 64)))))]))))):CO 49 [ω (x:Int)] (.ret (.str (aa (ae [Xqj (δ (γ .u8 (Xqv (x:Int) (2^(min 56 64))))),Xqj (δ (γ .u8 (Xqv (x:Int) (2^(min 48 64))))),Xqj (δ (γ .u8 (Xqv (x:Int) (2^(min 40 64))))),Xqj (δ (γ .u8 (Xqv (x:Int) (2^(min 32 64))))),Xqj (δ (γ .u8 (Xqv (x:Int) (2^(min 24 64))))),Xqj (δ (γ .u8 (Xqv (x:Int) (2^(min 16 64))))),Xqj (δ (γ .u8 (Xqv (x:Int) (2^(min 8 64))))),Xqj (δ (γ .u8 (Xqv (x:Int) (2^(min 0 64)))))])))):=pK [] 19 131067 (.k 9 h0 (.k 6 h0 (.k 6 h0 (.k 6 h0 (.k 6 h0 (.k 6 h0 (.k 6 h0 (.k 5 h0 (.n 1 .nil))))))))) (.c a .nil)
theorem XQ (x:Nat) (h0:lit false (decide (((0:Nat):Int)<(x:Int)))=true) (a:CO 76 [.str []] (.ret (.str (aa (ae []))))):CO 49 [ω (x:Int)] (.ret (.str (aa (ae [])))):=pK [] 2 1 (.k 2 h0 (.n 1 .nil)) (.c a .nil)
theorem XD {nt:Nat} (b:35≤nt) (s:List UInt8) (n k:Nat) (h0:(decide (((0:Nat):Int)≤(k:Int)))=true) (a:(decide ((k:Int)<(((η s):Nat):Int)))=true) (c:lit true (decide ((k:Int)<(((η s):Nat):Int)))=true):ψ nt f107 ⟨[(0,.str s),(4,ω (n:Int)),(5,ω (k:Int))],[],.dead,[]⟩ (.normal) ⟨[(0,.str s),(4,ω (γ .i64 ((γ .i64 ((n:Int)*2^(min 8 64)))+(γ .i64 ((Xxj (Xx6 s (δ (k:Int)) 0):Nat):Int))))),(5,ω (γ .i64 ((k:Int)+((1:Nat):Int))))],[],.dead,[]⟩:=pJ 107 [] 1 1 (.c h0 (.c a (.k 1 c .nil))) (.nil) b
theorem XE {nt:Nat} (a:35≤nt) (s:List UInt8) (n k:Nat) (h0:lit false (decide ((k:Int)<(((η s):Nat):Int)))=true):ψ nt f107 ⟨[(0,.str s),(4,ω (n:Int)),(5,ω (k:Int))],[],.dead,[]⟩ (.exit 0) ⟨[(4,ω (n:Int))],[],.dead,[]⟩:=pJ 107 [] 1 0 (.c h0 .nil) (.nil) a
theorem ST (s:List UInt8) (n:Nat) (h0:lit false (decide (((127:Nat):Int)<((Xxj (Xx6 (aa (ae s)) 0 0):Nat):Int)))=true) (a:(decide (((0:Nat):Int)<(((η (aa (ae s))):Nat):Int)))=true) (e:lit true ((((η (aa (ae s))):Nat):Int)==((8:Nat):Int))=true) (b:lit false (decide (((8:Nat):Int)<(((η (aa (ae s))):Nat):Int)))=true) (c:CO 76 [.str s] (.ret (.str (aa (ae s))))) (d:aG prog ap [] 35 (.block 0 (.loop (ac 0 (af f107)))) ⟨[(0,.str (aa (ae s))),(2,ω 0),(3,.bool false),(4,ω 0),(5,ω 0),(20,.bool (decide (((127:Nat):Int)<((Xxj (Xx6 (aa (ae s)) 0 0):Nat):Int)))),(24,.dead)],[],.dead,[]⟩ (.normal) ⟨[(4,ω (n:Int))],[],.dead,[]⟩):CO 107 [.str s] (.ret (.tup [ω (n:Int),.bool true])):=pK [0] 3 2 (.c h0 (.k 1 a (.c e (.c b .nil)))) (.l d (.c c .nil))
theorem SU (s:List UInt8) (n:Nat) (h0:lit false ((((η (aa (ae s))):Nat):Int)==((8:Nat):Int))=true) (a:lit false (decide (((8:Nat):Int)<(((η (aa (ae s))):Nat):Int)))=true) (b:CO 76 [.str s] (.ret (.str (aa (ae s))))) (c:aG prog ap [] 35 (.block 0 (.loop (ac 0 (af f107)))) ⟨[(0,.str (aa (ae s))),(2,ω 0),(3,.bool false),(4,ω 0),(5,ω 0),(20,.bool false),(24,.dead)],[],.dead,[]⟩ (.normal) ⟨[(4,ω (n:Int))],[],.dead,[]⟩):CO 107 [.str s] (.ret (.tup [ω (n:Int),.bool true])):=pK [0] 3 0 (.k 1 h0 (.c a .nil)) (.l c (.c b .nil))
theorem adm (s:List UInt8) (n b:Nat) (h0:lit true (decide ((b:Int)<(((η (aa (ae s))):Nat):Int)))=true) (a:CO 76 [.str s] (.ret (.str (aa (ae s))))):CO 77 [.str s,ω (b:Int)] (.ret (.tup [ω 0,.bool false])):=pK [] 1 1 (.c h0 .nil) (.c a .nil)
theorem adn (s:List UInt8) (n b:Nat) (h0:lit false (decide ((b:Int)<(((η (aa (ae s))):Nat):Int)))=true) (c:CO 76 [.str s] (.ret (.str (aa (ae s))))) (a:CO 107 [.str s] (.ret (.tup [ω (n:Int),.bool true]))):CO 77 [.str s,ω (b:Int)] (.ret (.tup [ω (n:Int),.bool true])):=pK [] 1 0 (.c h0 .nil) (.c a (.c c .nil))
theorem acK {nt:Nat} (a:24≤nt) (n d:Nat) (h0:lit true (decide (((0:Nat):Int)<(d:Int)))=true):ψ nt f133 ⟨[(3,ω (n:Int)),(4,ω (d:Int))],[],.dead,[]⟩ (.normal) ⟨[(3,ω (γ .i64 ((n:Int)+((1:Nat):Int)))),(4,ω (γ .i64 (Xqs (d:Int) ((2:Nat):Int))))],[],.dead,[]⟩:=pJ 133 [] 1 1 (.k 1 h0 .nil) (.nil) a
theorem acL {nt:Nat} (a:24≤nt) (n d:Nat) (h0:lit false (decide (((0:Nat):Int)<(d:Int)))=true):ψ nt f133 ⟨[(3,ω (n:Int)),(4,ω (d:Int))],[],.dead,[]⟩ (.exit 0) ⟨[(3,ω (n:Int))],[],.dead,[]⟩:=pJ 133 [] 1 0 (.c h0 .nil) (.nil) a
theorem Xv (s:List UInt8) (n:Nat) (h0:lit true ((((η (aa (ae s))):Nat):Int)==((0:Nat):Int))=true) (a:CO 76 [.str s] (.ret (.str (aa (ae s))))):CO 133 [.str s] (.ret (ω 0)):=pK [0] 1 1 (.c h0 .nil) (.c a .nil)
theorem Xw (s:List UInt8) (n:Nat) (h0:(decide (((0:Nat):Int)<(((η (aa (ae s))):Nat):Int)))=true) (a:lit false ((((η (aa (ae s))):Nat):Int)==((0:Nat):Int))=true) (b:CO 76 [.str s] (.ret (.str (aa (ae s))))) (c:aG prog ap [] 24 (.block 0 (.loop (ac 0 (af f133)))) ⟨[(0,.str (aa (ae s))),(2,ω 0),(3,ω (γ .i64 (((8:Nat):Int)*(γ .i64 ((((η (aa (ae s))):Nat):Int) - ((1:Nat):Int)))))),(4,ω (γ .i64 ((Xxj (Xx6 (aa (ae s)) 0 0):Nat):Int))),(9,.bool ((((η (aa (ae s))):Nat):Int)==((0:Nat):Int))),(18,.dead)],[],.dead,[]⟩ (.normal) ⟨[(3,ω (n:Int))],[],.dead,[]⟩):CO 133 [.str s] (.ret (ω (n:Int))):=pK [0] 1 0 (.k 1 h0 (.c a .nil)) (.l c (.c b .nil))
theorem acY (s:List UInt8) (h0:lit true ((((η s):Nat):Int)==((0:Nat):Int))=true):CO 128 [.str s] (.ret (.bool true)):=pK [] 1 1 (.c h0 .nil) (.nil)
theorem acZ (s:List UInt8) (h0:(decide (((0:Nat):Int)<(((η s):Nat):Int)))=true) (a:lit false ((((η s):Nat):Int)==((0:Nat):Int))=true):CO 128 [.str s] (.ret (.bool (!(((Xxj (Xx6 s 0 0):Nat):Int)==((0:Nat):Int))))):=pK [] 1 0 (.k 1 h0 (.c a .nil)) (.nil)
theorem SM (s t:List UInt8) (h0:lit true (decide ((((η (aa (ae s))):Nat):Int)<(((η (aa (ae t))):Nat):Int)))=true) (a:lit true (!((((η (aa (ae s))):Nat):Int)==(((η (aa (ae t))):Nat):Int)))=true) (c:CO 76 [.str s] (.ret (.str (aa (ae s))))) (b:CO 76 [.str t] (.ret (.str (aa (ae t))))):CO 118 [.str s,.str t] (.ret (ω (-1))):=pK [] 2 3 (.c h0 (.c a .nil)) (.c b (.c c .nil))
theorem SN (s t:List UInt8) (h0:lit false (decide ((((η (aa (ae s))):Nat):Int)<(((η (aa (ae t))):Nat):Int)))=true) (a:lit true (!((((η (aa (ae s))):Nat):Int)==(((η (aa (ae t))):Nat):Int)))=true) (c:CO 76 [.str s] (.ret (.str (aa (ae s))))) (b:CO 76 [.str t] (.ret (.str (aa (ae t))))):CO 118 [.str s,.str t] (.ret (ω 1)):=pK [] 2 1 (.c h0 (.c a .nil)) (.c b (.c c .nil))
theorem SQ (s t:List UInt8) (h0:lit true (eV (aa (ae s)) (aa (ae t)))=true) (a:lit false (!((((η (aa (ae s))):Nat):Int)==(((η (aa (ae t))):Nat):Int)))=true) (c:CO 76 [.str s] (.ret (.str (aa (ae s))))) (b:CO 76 [.str t] (.ret (.str (aa (ae t))))):CO 118 [.str s,.str t] (.ret (ω (-1))):=pK [] 2 2 (.c h0 (.c a .nil)) (.c b (.c c .nil))
theorem SR (s t:List UInt8) (h0:lit true (!(eV (aa (ae s)) (aa (ae t))||(aa (ae s))==(aa (ae t))))=true) (a:lit false (eV (aa (ae s)) (aa (ae t)))=true) (d:lit false (!((((η (aa (ae s))):Nat):Int)==(((η (aa (ae t))):Nat):Int)))=true) (c:CO 76 [.str s] (.ret (.str (aa (ae s))))) (b:CO 76 [.str t] (.ret (.str (aa (ae t))))):CO 118 [.str s,.str t] (.ret (ω 1)):=pK [] 3 4 (.c h0 (.c a (.c d .nil))) (.c b (.c c .nil))
theorem SS (s t:List UInt8) (h0:lit false (!(eV (aa (ae s)) (aa (ae t))||(aa (ae s))==(aa (ae t))))=true) (a:lit false (eV (aa (ae s)) (aa (ae t)))=true) (d:lit false (!((((η (aa (ae s))):Nat):Int)==(((η (aa (ae t))):Nat):Int)))=true) (c:CO 76 [.str s] (.ret (.str (aa (ae s))))) (b:CO 76 [.str t] (.ret (.str (aa (ae t))))):CO 118 [.str s,.str t] (.ret (ω 0)):=pK [] 3 0 (.c h0 (.c a (.c d .nil))) (.c b (.c c .nil))
def ae7 (x y:Nat) (na nb:Bool) (p:Nat × Nat):St:=⟨[(0,.sl (ag (ak x)) (ak x).length na),(1,.sl (ag (ak y)) (ak y).length nb),(5,ω (p.1:Int)),(6,ω (p.2:Int))],[],.dead,[]⟩
def ZB (q:Nat):St:=⟨[(5,ω (q:Int))],[],.dead,[]⟩
theorem Ml {x d:Nat} (hd:d<16777216):(ak (x*d)).length≤(ak x).length+1:=by
 apply ny;have a:=qp x;have hp:=Oj (ak x).length;rw [Xq2];rcases Ξ d with rfl|h0
 ·rw [Xjg];exact Xjb hp (by omega)
 ·exact σ (Xvi a h0) (Xq0 _ (by omega))
theorem Qv {nt:Nat} (l:26≤nt) (x y:Nat) (i f:Bool) (v:0<y) (w:(ak x).length<2^36) (r:(ak y).length<2^35):∀ (n b a:Nat),a - b<n→b≤x / y→x / y≤a→a<16777216→az prog ap [] nt (ac 0 (af f110)) (fun _=> .exit 0) (ae7 x y i f) ZB (b,a) (x / y):=by
 intro n
 induction n with
 |zero=>intro b a h;omega
 | succ n ih=>
  intro b a h p s u;rcases Xq8 b a with hlt|hge
  ·have e:(b+a+1) / 2<16777216:=by omega
   have m:=Bw (y*((b+a+1) / 2)) x;have o:=FN y ((b+a+1) / 2) f e (by omega);have t:=Ml (x:=y) e;have g:=Jc (ak (y*((b+a+1) / 2))) (ak x) true i (aV.dig _) (aV.dig _) (by omega) (by omega);have c:=Nat.le_div_iff_mul_le (x:=(b+a+1) / 2) (y:=x) v;rw [Xqb] at c;have z:((0:Nat):Int)=0:=rfl;by_cases hle:y*((b+a+1) / 2)≤x
   ·have j:=c.2 hle;refine .next ?_ (ih ((b+a+1) / 2) a (by omega) j s u)
    have d:=ZC l x y (y*((b+a+1) / 2)) b a (Ej (ak (y*((b+a+1) / 2))) (ak x)) i f;simp (disch:=first|omega|(simp [aq,au]<;>omega)) only [bB,bf,bq,bQ,aS,lL] at d;exact d (m.2.2 hle) hlt o g
   ·have j:x / y<(b+a+1) / 2:=Yqg (fun k=>hle (c.1 k));refine .next ?_ (ih b ((b+a+1) / 2 - 1) (by omega) p (by omega) (by omega))
    have d:=ZE l x y (y*((b+a+1) / 2)) b a (Ej (ak (y*((b+a+1) / 2))) (ak x)) i f;simp (disch:=first|omega|(simp [aq,au]<;>omega)) only [dw,eC,eU,bq,bB,bf,bQ,aS,lL,gP] at d;exact d (fun k=>hle (m.2.1 k)) hlt o g
  ·have q:b=x / y:=by omega
   have d:=ZF l x y 0 b a 0 i f (by rw [bq];simp [lit];omega);rw [← q];exact .done d
theorem Mm (x y:Nat) (d b:Bool) (f:0<y) (a:x<y*16777216) (c:(ak x).length<2^36) (e:(ak y).length<2^35):CO 110 [.sl (ag (ak x)) (ak x).length d,.sl (ag (ak y)) (ak y).length b] (.ret (ω ((x / y:Nat):Int))):=by
 have g:x / y<16777216:=by rw [Xqr f,Xqb];exact a
 exact VM x y (x / y) d b (az.blk (fun nt h=>Qv h x y d b f c e 16777216 0 16777215 (by omega) (Xxf _) (Nat.le_of_lt_succ g) (by omega)) (by simp) rfl (aJ.of ⟨rfl,rfl,rfl,rfl,trivial⟩) (aJ.of ⟨rfl,trivial⟩))
theorem jS (l:List UInt8) (c:UInt8):ae (l++ [c])=ae l*256+c.toNat:=by
 unfold ae;rw [Xw4];rfl
theorem toNat_ofNat {x:Nat} (h:x<256):(Xqj x).toNat=x:=by
 rw [UInt8.toNat_ofNat'];exact Δ h
def bS (o:List Nat):List UInt8:=o.map Xqj
theorem Zh (o:List Nat):Xwe (fun c=>Xqj (δ (Γ c))) (kN o)=bS o:=by
 unfold kN bS;rw [List.map_map];rfl
theorem Jw (l:List Nat) (k:Nat):ο k (kN l)=kN (l.take k):=by unfold kN;rw [List.map_take]
def L6 (l:List Nat):Nat→List Nat
 |0=> []
 |k+1=> [l.getD k 0 / 65536,l.getD k 0 / 256 % 256,l.getD k 0 % 256]++L6 l k
theorem Gn (a b:List Nat):bS (a++b)=bS a++bS b:=by unfold bS;rw [Xxt]
theorem H6 {l:List Nat} (a:aV l):∀ (k:Nat) (o:List Nat),k≤l.length→ae (bS (o++L6 l k))=ae (bS o)*16777216^k+bM (l.take k)
 |0,o,_=>by simp [L6,bM]
 | k+1,o,h=>by
  simp only [L6];rw [← Ψ,H6 a k _ (by omega),kK (by omega)];have hd:=a.getD k;generalize l.getD k 0=d at*
  have e:ae (bS (o++ [d / 65536,d / 256 % 256,d % 256]))=ae (bS o)*16777216+d:=by
   rw [show o++ [d / 65536,d / 256 % 256,d % 256]=((o++ [d / 65536])++ [d / 256 % 256])++ [d % 256] by simp,Gn,Gn,Gn];simp only [bS,Xqc,Xxz];rw [jS,jS,jS,toNat_ofNat (show d / 65536<256 by omega),toNat_ofNat (Xqh _ (by omega)),toNat_ofNat (Xqh _ (by omega))];omega
  rw [e,Xxn,Xq2,Xqb (16777216^k) 16777216,Xqo,Xqb d];omega
def PZ (l:List Nat):AV:=match l with| []=> .nilS|x::l=> .ref 0 0 0 (x::l).length
def P2 (l:List Nat):Hp:=match l with| []=> []|x::l=> [(0,⟨kN (x::l),0,false,0,1,true⟩)]
theorem wU {l:List Nat} (h:l ≠ []):PZ l= .ref 0 0 0 l.length:=by cases l with|nil=>exact absurd rfl h|cons _ _=>rfl
theorem wV {l:List Nat} (h:l ≠ []):P2 l= [(0,⟨kN l,0,false,0,1,true⟩)]:=by cases l with|nil=>exact absurd rfl h|cons _ _=>rfl
def Xf (l:List Nat) (nn:Bool) (p:Nat × List Nat):St:=⟨[(0,.sl (ag l) l.length nn),(3,PZ p.2),(4,ω ((p.1:Int) - 1))],P2 p.2,.dead,[]⟩
def NS (o:List Nat):St:=⟨[(3,PZ o)],P2 o,.dead,[]⟩
theorem TL (o:List Nat) (a b c:Nat):kN o++ [AV.int .u8 (a:Int),AV.int .u8 (b:Int),AV.int .u8 (c:Int)]=kN (o++ [a,b,c]):=by simp [kN]
theorem UM:(2:Nat)^16=65536:=by decide
theorem ab1:(2:Nat)^8=256:=by decide
theorem R_ {nt:Nat} (e:35≤nt) (l:List Nat) (c:Bool) (m:l.length<2^36) (f:aV l):∀ (k:Nat) (o:List Nat),k≤l.length→o.length+3*k=3*l.length→az prog ap [] nt (ac 0 (af f79)) (fun _=> .exit 0) (Xf l c) NS (k,o) (o++L6 l k):=by
 intro k
 induction k with
 | zero=>
  intro o _ _;simp only [L6,Xqa];refine .done ?_;unfold Xf NS;rcases Xxu (o= []) with rfl|hne
  ·exact Sd e l [] c
  ·rw [wU hne,wV hne];exact Sa e l o c
 | succ k ih=>
  intro o j n;have hd:=f.getD k;have i:(((k+1:Nat):Int) - 1)=(k:Int):=by omega
  have g:γ .i64 ((k:Int) - ((1:Nat):Int))=(k:Int) - 1:=bU (by omega) (by omega);have hnext:=ih (o++ [l.getD k 0 / 65536,l.getD k 0 / 256 % 256,l.getD k 0 % 256]) (by omega) (by simp;omega);rw [Ψ] at hnext;simp only [L6];refine .next ?_ hnext
  unfold Xf;rw [i];generalize h:l.getD k 0=d at*
  have a:o++ [d / 65536,d / 256 % 256,d % 256] ≠ []:=by simp
  rcases Xxu (o= []) with rfl|hne
  ·have b:=Xh e l [] k c;simp (disch:=first|omega|(simp [aq,au]<;>omega)) only [av,Φ,ep,h,db,cV,bf,bq,bB,g,aU,show min 16 64=16 from rfl,iQ,UM,Yx,Δ,show min 8 64=8 from rfl,ab1] at b;simp only [Xqd,PZ,P2,kN,Xqc,Xxz,μ,χ] at b ⊢;apply b<;>first|exact True.intro|omega|assumption|exact rfl
  ·have b:=Xg e l o k c;rw [wU hne,wV hne,wU a,wV a];simp (disch:=first|omega|(simp [aq,au]<;>omega)) only [dW,bf,Φ,au,av,ep,h,db,cV,bq,bB,g,Jw,Xqw,aU,show min 16 64=16 from rfl,iQ,UM,Yx,Δ,show min 8 64=8 from rfl,ab1,TL] at b;simp only [κ,μ,χ];apply b<;>first|exact True.intro|omega|assumption|exact rfl
theorem pH (l:List Nat) (c:Bool) (m:l.length<2^36) (a:aV l):CO 79 [.sl (ag l) l.length c] (.ret (.str (aa (bM l)))):=by
 have hloop:=fun nt (hn:35≤nt)=>R_ hn l c m a l.length [] (φ _) (by simp)
 have b:=H6 a l.length [] (φ _);have g:(L6 l l.length).length=3*l.length:=by
  have:∀ k,(L6 l k).length=3*k:=by
   intro k
   induction k with
   |zero=>rfl
   |succ k ih=>simp only [L6,κ,μ,χ,ih];omega
  exact this _
 have f:γ .i64 ((l.length:Int) - ((1:Nat):Int))=(l.length:Int) - 1:=yL (by omega);simp only [Xqd] at hloop b;rw [Xqw,show ae (bS [])=0 from rfl,Nat.zero_mul,Θ] at b;generalize L6 l l.length=o at*
 rcases Xxu (o= []) with rfl|hne
 ·rw [← b];exact Se l [] c (az.blk hloop (by simp) rfl (aJ.of ⟨rfl,rfl,congrArg _ f,trivial⟩) (aJ.of ⟨rfl,trivial⟩)) (eI [] (by simp))
 ·have h:=Sb l o c;have i:=eI (bS o) (by simp [bS];omega);rw [b] at i;have e:ο o.length (kN o)=kN o:=by rw [Jw,Xqw]
  simp (disch:=first|omega|(simp [aq,au]<;>omega)) only [Φ,e,Dj,bf,Zh,b] at h;apply h<;>first|exact True.intro|omega|assumption|exact rfl|skip
  ·exact au o
  ·have:Xzv (kN o) (chk (.int .u8))=true:=by
    rw [Xzg];intro x j;obtain ⟨d,_,rfl⟩:=List.mem_map.1 j;rfl
   exact this
  ·exact az.blk hloop (by simp) rfl (aJ.of ⟨rfl,rfl,congrArg _ f,trivial⟩) (by unfold NS;rw [wU hne,wV hne];exact aJ.of ⟨rfl,trivial⟩)
theorem cH (x:Nat) (c:x<9223372036854775808):CO 49 [ω (x:Int)] (.ret (.str (aa x))):=by
 rcases Ξ x with rfl|h0
 ·exact XQ 0 rfl (eI [] (by simp))
 ·have h:=XP x;have e:∀ k,δ (γ .u8 (Xqv (x:Int) (2^k)))=x / 2^k % 256:=by
   intro k;rw [iQ,Yx,av]
  simp only [show min 56 64=56 from rfl,show min 48 64=48 from rfl,show min 40 64=40 from rfl,show min 32 64=32 from rfl,show min 24 64=24 from rfl,show min 16 64=16 from rfl,show min 8 64=8 from rfl,show min 0 64=0 from rfl,e] at h;have a:=eI [Xqj (x / 2^56 % 256),Xqj (x / 2^48 % 256),Xqj (x / 2^40 % 256),Xqj (x / 2^32 % 256),Xqj (x / 2^24 % 256),Xqj (x / 2^16 % 256),Xqj (x / 2^8 % 256),Xqj (x / 2^0 % 256)] (by simp);have b:ae [Xqj (x / 2^56 % 256),Xqj (x / 2^48 % 256),Xqj (x / 2^40 % 256),Xqj (x / 2^32 % 256),Xqj (x / 2^24 % 256),Xqj (x / 2^16 % 256),Xqj (x / 2^8 % 256),Xqj (x / 2^0 % 256)]=x:=by
   have t:∀ y,(Xqj (y % 256)).toNat=y % 256:=fun y=>toNat_ofNat (Xqh _ (by omega))
   simp only [ae,List.foldl_cons,List.foldl_nil,t];omega
  rw [b] at a h;apply h
  ·rw [bq];exact Yq0 h0
  ·exact a
def Uz (s:List UInt8) (k:Nat):St:=⟨[(0,.str s),(4,ω ((ae (s.take k):Nat):Int)),(5,ω (k:Int))],[],.dead,[]⟩
def GX (s:List UInt8) (k:Nat):St:=⟨[(4,ω ((ae (s.take k):Nat):Int))],[],.dead,[]⟩
theorem Ak {s:List UInt8} {k:Nat} (h:k<s.length):ae (s.take (k+1))=ae (s.take k)*256+(s.getD k 0).toNat:=by
 rw [Xw0,ξ h,ν,ξ h];exact jS _ _
theorem DM (s:List UInt8) (k:Nat):ae (s.take k)≤ae s:=by
 rcases Xq8 k s.length with h|h
 ·have e:s=s.take k++s.drop k:=(Xzh k s).symm;have:∀ (b a:List UInt8),ae a≤ae (a++b):=by
   intro b
   induction b with
   |nil=>intro a;simp
   |cons c r ih=>
    intro a;have d:=ih (a++ [c]);rw [jS,Ψ] at d;simp only [Xqx,Xqd] at d;omega
  calc ae (s.take k)≤ae (s.take k++s.drop k):=this _ _
   _=ae s:=by rw [← e]
 ·rw [Xqi h];exact φ _
theorem Nc {nt:Nat} (g:35≤nt) (s:List UInt8) (hs:s.length<2^40) (o:ae s<9223372036854775808):∀ (d k:Nat),k+d=s.length→az prog ap [] nt (ac 0 (af f107)) (fun _=> .exit 0) (Uz s) (GX s) k s.length:=by
 intro d
 induction d with
 |zero=>
  intro k i;have e:k=s.length:=by omega
  subst e;exact .done (XE g s _ _ (by rw [bq];simp [lit]))
 | succ d ih=>
  intro k i;have b:k<s.length:=by omega
  refine .next ?_ (ih (k+1) (by omega))
  have a:=XD g s (ae (s.take k)) k;rw [av] at a;have h:=DM s (k+1);have f:=Ak b;have n:(s.getD k 0).toNat<256:=Xvt _;unfold Uz;rw [f];rw [f] at h;generalize (s.getD k 0).toNat=c at*
  generalize ae (s.take k)=v at*
  have m:γ .i64 ((v:Int)*2^(min 8 64))=((v*256:Nat):Int):=by
   rw [show min 8 64=8 from rfl,bU]<;>omega
  have j:(((v*256:Nat):Int))+(c:Int)=((v*256+c:Nat):Int):=by omega
  have l:γ .i64 (c:Int)=(c:Int):=aS (by omega);rw [l,m,j,aS (by omega)] at a;simp (disch:=first|omega|(simp [aq,au]<;>omega)) only [cV,bf,bq,bB,bQ,aS] at a;apply a<;>first|exact True.intro|omega|assumption|exact rfl
theorem nI {x k:Nat}:(aa x).length≤k↔x<2^(8*k):=by
 constructor
 ·intro h;have a:=gJ (aa x);rw [aC] at a;exact σ a (Xqf (by omega) (by omega))
 ·exact bC
theorem WL (s:List UInt8) (hs:s.length<2^40) (i:ae s<9223372036854775808):CO 107 [.str s] (.ret (.tup [ω ((ae s:Nat):Int),.bool true])):=by
 have j:=eI s hs;have a:=aC (ae s);have k:(aa (ae s)).length≤8:=bC (σ i (by decide));have hloop:=fun nt (e:35≤nt)=>Nc e (aa (ae s)) (by omega) (by rw [a];exact i) (aa (ae s)).length 0 (by omega)
 have hless:aJ ⟨[(4,ω ((ae s:Nat):Int))],[],.dead,[]⟩ (GX (aa (ae s)) (aa (ae s)).length):=by
  unfold GX;rw [Xqw,a];exact aJ.refl _
 have h:=ST s (ae s);have f:=SU s (ae s);have d:(aa (ae s)).length=8→((aa (ae s)).getD 0 0).toNat≤127:=by
  intro b;cases e:aa (ae s) with
  |nil=>rw [e] at b;cases b
  |cons c r=>
   rw [e] at b a;rw [fF] at a;have:r.length=7:=by simpa using b
   rw [this,show 256^7=72057594037927936 from rfl] at a;simp only [Xjj];omega
 generalize aa (ae s)=t at*
 by_cases b:t.length=8
 ·have g:=d b;simp (disch:=first|omega|(simp [aq,au]<;>omega)) only [bq,dw,eC,eU,b,bf,kO,decide_true,bB] at h;apply h<;>first|exact True.intro|omega|assumption|exact rfl|skip
  exact az.blk hloop (by simp) rfl (aJ.of ⟨rfl,rfl,rfl,trivial⟩) hless
 ·simp (disch:=first|omega|(simp [aq,au]<;>omega)) only [kO,b,decide_false,dw,Xjo,bq,eC,eU] at f;apply f<;>first|exact True.intro|omega|assumption|exact rfl|skip
  exact az.blk hloop (by simp) rfl (aJ.of ⟨rfl,rfl,rfl,trivial⟩) hless
theorem gF (s:List UInt8) (b:Nat) (hs:s.length<2^40) (d:b≤7) (c:ae s<2^(8*b)):CO 77 [.str s,ω (b:Int)] (.ret (.tup [ω ((ae s:Nat):Int),.bool true])):=by
 have h:=adn s (ae s) b;have a:ae s<9223372036854775808:=σ c (Xxa (Xqf (by omega) (show 8*b≤63 by omega)) (by decide));have e:=nI.2 c;simp (disch:=first|omega|(simp [aq,au]<;>omega)) only [bq,dw,eC,eU] at h;exact h (by omega) (eI s hs) (WL s hs a)
theorem iK (s:List UInt8) (b:Nat) (hs:s.length<2^40) (c:2^(8*b)≤ae s):CO 77 [.str s,ω (b:Int)] (.ret (.tup [ω 0,.bool false])):=by
 have h:=adm s 0 b;have a:¬ (aa (ae s)).length≤b:=fun h=>by have:=nI.1 h;omega
 simp (disch:=first|omega|(simp [aq,au]<;>omega)) only [bq,bB,bf] at h;exact h (by omega) (eI s hs)
theorem Ku {d:Nat} (h:0<d):cP d=cP (d / 2)+1:=by
 rcases Xq8 d 2 with h1|h1
 ·have:d=1:=by omega
  subst this;rfl
 ·have:=pz (x:=d) (k:=1) (by omega);rw [Nat.pow_one] at this;omega
def aeP (p:Nat × Nat):St:=⟨[(3,ω (p.1:Int)),(4,ω (p.2:Int))],[],.dead,[]⟩
def Zi (n:Nat):St:=⟨[(3,ω (n:Int))],[],.dead,[]⟩
theorem Qe {nt:Nat} (e:24≤nt):∀ (b n d:Nat),d<b→d<256→n+cP d<2^45→az prog ap [] nt (ac 0 (af f133)) (fun _=> .exit 0) aeP Zi (n,d) (n+cP d):=by
 intro b
 induction b with
 |zero=>intro n d h;omega
 | succ b ih=>
  intro n d h hd f;rcases Ξ d with rfl|h0
  ·exact .done (acL e n 0 rfl)
  ·have a:=Ku h0;rw [a,show n+(cP (d / 2)+1)=n+1+cP (d / 2) by omega];refine .next ?_ (ih (n+1) (d / 2) (by omega) (by omega) (by omega))
   have c:=acK e n d;clear ih a;simp (disch:=first|omega|(simp [aq,au]<;>omega)) only [bq,bB,bf,bQ,aS,lL] at c;apply c<;>first|exact True.intro|omega|assumption|exact rfl
theorem Fp (s:List UInt8) (hs:s.length<2^40):CO 133 [.str s] (.ret (ω ((cP (ae s):Nat):Int))):=by
 have f:=eI s hs;have a:=aC (ae s);have k:=qz (ae s);have b:(aa (ae s)).length≤s.length:=je (φ _);have h0:=Xv s 0;have d:=Xw s (cP (ae s));cases g:aa (ae s) with
 |nil=>
  rw [g] at h0 a f;rw [← a];exact h0 rfl f
 | cons c r=>
  rw [g] at d a f k b;have i:c ≠ 0:=by simpa [nR] using k
  have j:0<c.toNat:=by
   rcases Ξ c.toNat with h|h
   ·exact absurd (by apply UInt8.toNat_inj.1;simpa using h) i
   ·exact h
  have hc256:c.toNat<256:=Xvt c;have p:cP (ae s)=8*r.length+cP c.toNat:=by
   have e:=yJ (x:=c.toNat) (y:=ae r) (8*r.length) j (gJ r);rw [← e,← a,fF,Xqb,show (256:Nat)=2^8 from rfl,← Xja]
  have o:cP c.toNat≤8:=fk (by omega);simp only [μ] at b;have hloop:=fun nt (g:24≤nt)=>Qe g 256 (8*r.length) c.toNat hc256 hc256 (by omega)
  rw [← p] at hloop;simp only [μ,Xjj] at d;have t:r.length+1 - 1=r.length:=rfl;have m:(((r.length+1:Nat):Int)) - ((1:Nat):Int)=(r.length:Int):=by omega
  have n:γ .i64 (r.length:Int)=(r.length:Int):=aS (by omega);have l:γ .i64 (((8:Nat):Int)*(r.length:Int))=((8*r.length:Nat):Int):=by rw [bU]<;>omega
  have q:γ .i64 (c.toNat:Int)=(c.toNat:Int):=aS (by omega);rw [m,n,l,q] at d;refine d (by rw [bq];exact Yq0 (by omega)) (by rw [kO];simp [lit]) f ?_;exact az.blk hloop (by simp) rfl (aJ.of ⟨rfl,rfl,trivial⟩) (aJ.of ⟨rfl,trivial⟩)
theorem sH (s:List UInt8):CO 128 [.str s] (.ret (.bool (nR s))):=by
 cases s with
 |nil=>exact acY [] rfl
 | cons c r=>
  have h:=acZ (c::r);have e:(!((((c::r).getD 0 0).toNat:Int)==((0:Nat):Int)))=nR (c::r):=by
   simp only [Xjj,nR];by_cases hc:c=0
   ·subst hc;rfl
   ·have:c.toNat ≠ 0:=fun h=>hc (by apply UInt8.toNat_inj.1;simpa using h)
    have a:((c.toNat:Int)==((0:Nat):Int))=false:=by simp;omega
    rw [a];simp [hc]
  rw [e] at h;apply h
  ·simp
  ·simp [lit];omega
theorem vK:∀ (a b:List UInt8),a.length=b.length→eV a b=decide (ae a<ae b)
 | [],[],_=>rfl
 | [],_::_,h=>by simp at h
 |_::_,[],h=>by simp at h
 | x::a,y::b,h=>by
  have f:a.length=b.length:=by simpa using h
  have j:=vK a b f;have g:=gJ a;have k:=gJ b;simp only [eV,j];rw [fF,fF,f,show (256:Nat)=2^8 from rfl,← Xja];rw [f] at g;have d:decide (x<y)=decide (x.toNat<y.toNat):=by simp [UInt8.lt_iff_toNat_lt]
  have c:(x==y)=decide (x.toNat=y.toNat):=by
   by_cases h:x=y
   ·subst h;simp
   ·have:x.toNat ≠ y.toNat:=fun i=>h (UInt8.toNat_inj.1 i)
    simp [h,this]
  rw [d,c];generalize 2^(8*b.length)=M at*
  generalize ae a=u at*
  generalize ae b=v at*
  generalize x.toNat=p at*
  generalize y.toNat=q at*
  rcases Xjy p q with h3|h3|h3
  ·have e:(p+1)*M≤q*M:=Xqu _ h3;rw [Xxn,Xwh] at e;rw [Yq0 h3,Yq0 (show p*M+u<q*M+v by omega)];rfl
  ·subst h3;rw [Yq1 (Xv2 _),Yq0 rfl];simp
  ·have e:(q+1)*M≤p*M:=Xqu _ h3;rw [Xxn,Xwh] at e;rw [Yq1 (show ¬ p<q by omega),Yq1 (show ¬ p=q by omega),Yq1 (show ¬ p*M+u<q*M+v by omega)];rfl
theorem wj {x y:Nat} (h:(aa x).length<(aa y).length):x<y:=by
 rcases Xq8 x y with h1|h1
 ·exact h1
 ·have a:y≤ae (aa x):=by rw [aC];exact h1
  have:=je a;omega
theorem Dy (s t:List UInt8) (hs:s.length<2^40) (k:t.length<2^40):CO 118 [.str s,.str t] (.ret (ω (ji (ae s) (ae t)))):=by
 have c:=eI s hs;have d:=eI t k;have j:=aC (ae s);have i:=aC (ae t);unfold ji;by_cases hl:(aa (ae s)).length=(aa (ae t)).length
 ·have b:=vK _ _ hl;rw [j,i] at b;have f:(aa (ae s)==aa (ae t))=decide (ae s=ae t):=by
   by_cases h:ae s=ae t
   ·rw [h];simp
   ·have:aa (ae s) ≠ aa (ae t):=fun g=>h (zg g)
    simp [h,this]
  have a:lit false (!((((aa (ae s)).length:Nat):Int)==(((aa (ae t)).length:Nat):Int)))=true:=by rw [hl];simp [lit]
  by_cases h1:ae s<ae t
  ·rw [if_pos h1];exact SQ s t (by rw [b,Yq0 h1];rfl) a c d
  ·rw [if_neg h1];by_cases e:ae t<ae s
   ·rw [if_pos e];exact SR s t (by rw [b,f,Yq1 h1,Yq1 (show ¬ ae s=ae t by omega)];rfl) (by rw [b,Yq1 h1];rfl) a c d
   ·rw [if_neg e];exact SS s t (by rw [b,f,Yq1 h1,Yq0 (show ae s=ae t by omega)];rfl) (by rw [b,Yq1 h1];rfl) a c d
 ·have a:lit true (!((((aa (ae s)).length:Nat):Int)==(((aa (ae t)).length:Nat):Int)))=true:=by rw [kO,Yq1 hl];rfl
  by_cases h1:(aa (ae s)).length<(aa (ae t)).length
  ·rw [if_pos (wj h1)];exact SM s t (by rw [bq,Yq0 h1];rfl) a c d
  ·have e:=wj (show (aa (ae t)).length<(aa (ae s)).length by omega);rw [if_neg (by omega),if_pos e];exact SN s t (by rw [bq,Yq1 h1];rfl) a c d
theorem abU {nt:Nat} (b:35≤nt) (s:List UInt8) (o:List Nat) (e d k:Nat) (h0:(decide (((0:Nat):Int)≤(k:Int)))=true) (a:(decide ((k:Int)<(((η s):Nat):Int)))=true) (c:lit true (decide ((k:Int)<(e:Int)))=true):ai prog ap [] nt (ac 2 (af f78)) ⟨[(0,.str s),(3,.nilS),(4,ω (e:Int)),(5,ω (d:Int)),(6,ω (k:Int))],[],.dead,[]⟩ (.normal) ⟨[(0,.str s),(3,.nilS),(4,ω (e:Int)),(5,ω (γ .i64 ((γ .i64 ((d:Int)*((256:Nat):Int)))+(γ .i64 ((Xxj (Xx6 s (δ (k:Int)) 0):Nat):Int))))),(6,ω (γ .i64 ((k:Int)+((1:Nat):Int))))],[],.dead,[]⟩:=pJ 78 [] 1 1 (.c h0 (.c a (.c c .nil))) (.nil) b
theorem abV {nt:Nat} (a:35≤nt) (s:List UInt8) (o:List Nat) (e d k:Nat) (h0:lit false (decide ((k:Int)<(e:Int)))=true):ai prog ap [] nt (ac 2 (af f78)) ⟨[(0,.str s),(3,.nilS),(4,ω (e:Int)),(5,ω (d:Int)),(6,ω (k:Int))],[],.dead,[]⟩ (.exit 2) ⟨[(0,.str s),(3,.nilS),(4,ω (e:Int)),(5,ω (d:Int))],[],.dead,[]⟩:=pJ 78 [] 1 0 (.c h0 .nil) (.nil) a
theorem abS {nt:Nat} (b:35≤nt) (s:List UInt8) (o:List Nat) (e d k:Nat) (h0:(decide (((0:Nat):Int)≤(k:Int)))=true) (a:(decide ((k:Int)<(((η s):Nat):Int)))=true) (c:lit true (decide ((k:Int)<(e:Int)))=true):ai prog ap [] nt (ac 2 (af f78)) ⟨[(0,.str s),(3,.ref 0 0 0 o.length),(4,ω (e:Int)),(5,ω (d:Int)),(6,ω (k:Int))],[(0,⟨(ag o),0,false,0,1,true⟩)],.dead,[]⟩ (.normal) ⟨[(0,.str s),(3,.ref 0 0 0 o.length),(4,ω (e:Int)),(5,ω (γ .i64 ((γ .i64 ((d:Int)*((256:Nat):Int)))+(γ .i64 ((Xxj (Xx6 s (δ (k:Int)) 0):Nat):Int))))),(6,ω (γ .i64 ((k:Int)+((1:Nat):Int))))],[(0,⟨(ag o),0,false,0,1,true⟩)],.dead,[]⟩:=pJ 78 [] 1 1 (.c h0 (.c a (.c c .nil))) (.nil) b
theorem abT {nt:Nat} (a:35≤nt) (s:List UInt8) (o:List Nat) (e d k:Nat) (h0:lit false (decide ((k:Int)<(e:Int)))=true):ai prog ap [] nt (ac 2 (af f78)) ⟨[(0,.str s),(3,.ref 0 0 0 o.length),(4,ω (e:Int)),(5,ω (d:Int)),(6,ω (k:Int))],[(0,⟨(ag o),0,false,0,1,true⟩)],.dead,[]⟩ (.exit 2) ⟨[(0,.str s),(3,.ref 0 0 0 o.length),(4,ω (e:Int)),(5,ω (d:Int))],[(0,⟨(ag o),0,false,0,1,true⟩)],.dead,[]⟩:=pJ 78 [] 1 0 (.c h0 .nil) (.nil) a
theorem abO {nt:Nat} (a:35≤nt) (s:List UInt8) (o:List Nat) (z:Int) (d:Nat) (h0:lit true (decide (((0:Nat):Int)<z))=true) (b:aG prog ap [] 35 (.block 2 (.loop (ac 2 (af f78)))) ⟨[(0,.str s),(2,.dead),(3,.nilS),(4,ω z),(5,ω 0),(6,ω (if ((0:Nat):Int)>(γ .i64 (z - ((3:Nat):Int))) then ((0:Nat):Int) else (γ .i64 (z - ((3:Nat):Int))))),(12,.bool (decide (((0:Nat):Int)<z))),(20,.dead)],[],.dead,[]⟩ (.normal) ⟨[(0,.str s),(4,ω z),(5,ω (d:Int)),(3,.nilS)],[],.dead,[]⟩):ψ nt f78 ⟨[(0,.str s),(3,.nilS),(4,ω z)],[],.dead,[]⟩ (.normal) ⟨[(0,.str s),(3,.ref 0 0 0 1),(4,ω (γ .i64 (z - ((3:Nat):Int))))],[(0,⟨[ω (d:Int)],0,false,0,1,true⟩)],.dead,[]⟩:=pJ 78 [2] 2 1 (.k 3 h0 .nil) (.l b .nil) a
theorem abP {nt:Nat} (a:35≤nt) (s:List UInt8) (o:List Nat) (z:Int) (d:Nat) (h0:lit false (decide (((0:Nat):Int)<z))=true):ψ nt f78 ⟨[(0,.str s),(3,.nilS),(4,ω z)],[],.dead,[]⟩ (.exit 0) ⟨[(3,.nilS)],[],.dead,[]⟩:=pJ 78 [2] 1 0 (.c h0 .nil) (.nil) a
theorem Xk (s:List UInt8) (o:List Nat) (a:CO 76 [.str s] (.ret (.str (aa (ae s))))) (b:aG prog ap [] 35 (.block 0 (.loop (ac 0 (af f78)))) ⟨[(0,.str (aa (ae s))),(2,.nilS),(3,.nilS),(4,ω (((η (aa (ae s))):Nat):Int)),(5,.dead),(6,.dead),(12,.dead),(20,.dead)],[],.dead,[]⟩ (.normal) ⟨[(3,.nilS)],[],.dead,[]⟩):CO 78 [.str s] (.ret (.nilS)):=pK [0] 0 0 .nil (.l b (.c a .nil))
theorem abJ {nt:Nat} (b:35≤nt) (s:List UInt8) (o:List Nat) (z:Int) (d:Nat) (h0:(Xqk (o.length+1) 1099511627776)=true) (a:(Xqk (o.length*1) (η (ag o)))=true) (e:lit true (decide (((0:Nat):Int)<z))=true) (c:aG prog ap [] 35 (.block 2 (.loop (ac 2 (af f78)))) ⟨[(0,.str s),(2,.dead),(3,.ref 0 0 0 o.length),(4,ω z),(5,ω 0),(6,ω (if ((0:Nat):Int)>(γ .i64 (z - ((3:Nat):Int))) then ((0:Nat):Int) else (γ .i64 (z - ((3:Nat):Int))))),(12,.bool (decide (((0:Nat):Int)<z))),(20,.dead)],[(0,⟨(ag o),0,false,0,1,true⟩)],.dead,[]⟩ (.normal) ⟨[(0,.str s),(4,ω z),(5,ω (d:Int)),(3,.ref 0 0 0 o.length)],[(0,⟨(ag o),0,false,0,1,true⟩)],.dead,[]⟩):ψ nt f78 ⟨[(0,.str s),(3,.ref 0 0 0 o.length),(4,ω z)],[(0,⟨(ag o),0,false,0,1,true⟩)],.dead,[]⟩ (.normal) ⟨[(0,.str s),(3,.ref 0 0 0 (o.length+1)),(4,ω (γ .i64 (z - ((3:Nat):Int))))],[(0,⟨((ο (o.length*1) (ag o))++ [ω (d:Int)]),0,false,0,1,true⟩)],.dead,[]⟩:=pJ 78 [2] 1 1 (.k 1 h0 (.c a (.k 1 e .nil))) (.l c .nil) b
theorem abK {nt:Nat} (a:35≤nt) (s:List UInt8) (o:List Nat) (z:Int) (d:Nat) (h0:lit false (decide (((0:Nat):Int)<z))=true):ψ nt f78 ⟨[(0,.str s),(3,.ref 0 0 0 o.length),(4,ω z)],[(0,⟨(ag o),0,false,0,1,true⟩)],.dead,[]⟩ (.exit 0) ⟨[(3,.ref 0 0 0 o.length)],[(0,⟨(ag o),0,false,0,1,true⟩)],.dead,[]⟩:=pJ 78 [2] 1 0 (.c h0 .nil) (.nil) a
theorem Xj (s:List UInt8) (o:List Nat) (a:CO 76 [.str s] (.ret (.str (aa (ae s))))) (b:aG prog ap [] 35 (.block 0 (.loop (ac 0 (af f78)))) ⟨[(0,.str (aa (ae s))),(2,.nilS),(3,.nilS),(4,ω (((η (aa (ae s))):Nat):Int)),(5,.dead),(6,.dead),(12,.dead),(20,.dead)],[],.dead,[]⟩ (.normal) ⟨[(3,.ref 0 0 0 o.length)],[(0,⟨(ag o),0,false,0,1,true⟩)],.dead,[]⟩):CO 78 [.str s] (.ret (.own (ο (o.length*1) (ag o)) o.length 1)):=pK [0] 0 0 .nil (.l b (.c a .nil))
def N8 (s:List UInt8) (o:List Nat) (e j k:Nat):St:=⟨[(0,.str s),(3,Gj o),(4,ω (e:Int)),(5,ω ((ae ((s.take k).drop j):Nat):Int)),(6,ω (k:Int))],Gk o,.dead,[]⟩
def N7 (s:List UInt8) (o:List Nat) (e d:Nat):St:=⟨[(0,.str s),(3,Gj o),(4,ω (e:Int)),(5,ω (d:Int))],Gk o,.dead,[]⟩
theorem KP {s:List UInt8} {j k:Nat} (h:k<s.length) (a:j≤k):ae ((s.take (k+1)).drop j)=ae ((s.take k).drop j)*256+(s.getD k 0).toNat:=by
 rw [Xw0,ξ h,List.drop_append_of_le_length (by simp;omega),ν,ξ h];exact jS _ _
theorem I3 {s:List UInt8} {j k:Nat} (h:k≤j+3):ae ((s.take k).drop j)<16777216:=by
 have a:=gJ ((s.take k).drop j);have b:((s.take k).drop j).length≤3:=by simp;omega
 exact σ a (Xxa (Xqf (by omega) (show 8*((s.take k).drop j).length≤24 by omega)) (by decide))
theorem Sh {nt:Nat} (f:35≤nt) (s:List UInt8) (o:List Nat) (e j:Nat) (hs:s.length<2^40) (r:e≤s.length) (t:e≤j+3):∀ (n k:Nat),k+n=e→j≤k→az prog ap [] nt (ac 2 (af f78)) (fun _=> .exit 2) (N8 s o e j) (N7 s o e) k (ae ((s.take e).drop j)):=by
 intro n
 induction n with
 | zero=>
  intro k p b;have h:k=e:=by omega
  subst h;refine .done ?_;unfold N8 N7;rcases Xxu (o= []) with rfl|hne
  ·exact abV f s [] k _ k (by rw [bq];simp [lit])
  ·rw [eD hne,eF hne];exact abT f s o k _ k (by rw [bq];simp [lit])
 | succ n ih=>
  intro k p b;refine .next ?_ (ih (k+1) (by omega) (by omega))
  have g:k<s.length:=by omega
  have q:=I3 (s:=s) (j:=j) (k:=k) (by omega);have u:(s.getD k 0).toNat<256:=Xvt _;have m:=KP g b;unfold N8;rw [m];generalize l:(s.getD k 0).toNat=c at*
  generalize ae ((s.take k).drop j)=d at*
  clear ih m;have v:γ .i64 ((d:Int)*((256:Nat):Int))=((d*256:Nat):Int):=by rw [bU]<;>omega
  have i:(((d*256:Nat):Int))+(c:Int)=((d*256+c:Nat):Int):=by omega
  rcases Xxu (o= []) with rfl|hne
  ·have a:=abU f s [] e d k;simp (disch:=first|omega|(simp [aq,au]<;>omega)) only [cV,bf,bq,bB,tC,aS,av,l,i,bQ] at a;apply a<;>first|exact True.intro|omega|assumption|exact rfl
  ·have a:=abS f s o e d k;rw [eD hne,eF hne];simp (disch:=first|omega|(simp [aq,au]<;>omega)) only [cV,bf,bq,bB,tC,aS,av,l,i,bQ] at a;apply a<;>first|exact True.intro|omega|assumption|exact rfl
def KN (s:List UInt8) (p:Int × List Nat):St:=⟨[(0,.str s),(3,Gj p.2),(4,ω p.1)],Gk p.2,.dead,[]⟩
def I1 (o:List Nat):St:=⟨[(3,Gj o)],Gk o,.dead,[]⟩
theorem Sg {nt:Nat} (c:35≤nt) (s:List UInt8) (o:List Nat) (e:Nat) (hs:s.length<2^38) (h:e≤s.length) (h0:0<e) (j:o.length<2^39):
  ψ nt f78 (KN s ((e:Int),o)) .normal (KN s ((e:Int) - 3,o++ [ae ((s.take e).drop (e - 3))])):=by
 have hloop:=fun nt (c:35≤nt)=>Sh c s o e (e - 3) (by omega) h (by omega) (e - (e - 3)) (e - 3) (by omega) (φ _)
 have g:γ .i64 ((e:Int) - ((3:Nat):Int))=(e:Int) - 3:=bU (by omega) (by omega);have f:(if ((0:Nat):Int)>(e:Int) - 3 then ((0:Nat):Int) else (e:Int) - 3)=((e - 3:Nat):Int):=by
  split<;>omega
 have b:ae ((s.take (e - 3)).drop (e - 3))=0:=by
  rw [Xxy (by simp;omega)];rfl
 have i:(ε (e - 3) (ο e s)).length≤3:=by simp;omega
 unfold KN;generalize ae ((s.take e).drop (e - 3))=d at*
 rcases Xxu (o= []) with rfl|hne
 ·have a:=abO c s [] (e:Int) d;rw [g,f] at a;simp (disch:=first|omega|(simp [aq,au]<;>omega)) only [bq,bB,bf] at a;simp only [Xqd,Gj,Gk,ag,Xqc,Xxz,μ,χ] at a ⊢;apply a
  ·omega
  ·refine az.blk hloop (by simp) rfl ?_ (aJ.of ⟨rfl,rfl,rfl,rfl,trivial⟩);unfold N8;rw [b];exact aJ.of ⟨rfl,rfl,rfl,rfl,rfl,trivial⟩
 ·have a:=abJ c s o (e:Int) d;rw [g,f] at a;rw [eD hne,eF hne,eD (fM _ _),eF (fM _ _)];simp (disch:=first|omega|(simp [aq,au]<;>omega)) only [dW,bf,Φ,bK,bq,bB,ct,Xqw,iD] at a;simp only [κ,τ];apply a<;>first|exact True.intro|omega|assumption|exact rfl|skip
  ·refine az.blk hloop (by simp) rfl ?_ ?_
   ·unfold N8;rw [b,eD hne,eF hne];exact aJ.of ⟨rfl,rfl,rfl,rfl,rfl,trivial⟩
   ·unfold N7;rw [eD hne,eF hne];exact aJ.of ⟨rfl,rfl,rfl,rfl,trivial⟩
theorem NX {nt:Nat} (b:35≤nt) (s:List UInt8) (o:List Nat) (z:Int) (c:z≤0):ψ nt f78 (KN s (z,o)) (.exit 0) (I1 o):=by
 unfold KN I1;have a:lit false (decide (((0:Nat):Int)<z))=true:=by simp [lit];exact c
 rcases Xxu (o= []) with rfl|hne
 ·exact abP b s [] z 0 a
 ·rw [eD hne,eF hne];exact abK b s o z 0 a
theorem Zq {s:List UInt8} {e:Nat} (g:e≤s.length):ae (s.take e)=16777216*ae (s.take (e - 3))+ae ((s.take e).drop (e - 3)):=by
 have c:∀ (b a:List UInt8),ae (a++b)=ae a*256^b.length+ae b:=by
  intro b a;unfold ae;rw [Xw4,BH];rfl
 have hs:s.take e=s.take (e - 3)++(s.take e).drop (e - 3):=by
  have d:=Xzh (e - 3) (s.take e);rw [List.take_take,Xjs (by omega)] at d;exact d.symm
 have f:=c ((s.take e).drop (e - 3)) (s.take (e - 3));rw [← hs] at f;rw [f];rcases Xq8 e 3 with h3|h3
 ·have:e - 3=0:=by omega
  rw [this];simp [ae]
 ·have:((s.take e).drop (e - 3)).length=3:=by simp;omega
  rw [this,Xqb,show 256^3=16777216 from rfl]
theorem NY {nt:Nat} (d:35≤nt) (s:List UInt8) (hs:s.length<2^38) (i:nR s=true):∀ (n e:Nat) (o:List Nat),e<n→e≤s.length→o.length+e<2^39→az prog ap [] nt (ac 0 (af f78)) (fun _=> .exit 0) (KN s) I1 ((e:Int),o) (o++ak (ae (s.take e))):=by
 intro n
 induction n with
 |zero=>intro e o h;omega
 | succ n ih=>
  intro e o h b q;rcases Ξ e with rfl|h0
  ·have:ae (s.take 0)=0:=rfl;rw [this,dP,Xqa];exact .done (NX d s o _ (by omega))
  ·have p:0<ae (s.take e):=by
    cases s with
    |nil=>simp at b;omega
    | cons c r=>
     have f:c ≠ 0:=by simpa [nR] using i
     have a:0<c.toNat:=by
      rcases Ξ c.toNat with h|h
      ·exact absurd (by apply UInt8.toNat_inj.1;simpa using h) f
      ·exact h
     obtain ⟨e',rfl⟩:∃ e',e=e'+1:=⟨e - 1,by omega⟩
     rw [List.take_succ_cons,fF];have:=Xjb a (show 0<256^(r.take e').length from Nat.pow_pos (by omega));omega
   have m:=Zq b;have hd:=I3 (s:=s) (j:=e - 3) (k:=e) (by omega);have hstep:=Sg d s o e hs b h0 (by omega);rw [j_ p,show ae (s.take e) % 16777216=ae ((s.take e).drop (e - 3)) by omega,show ae (s.take e) / 16777216=ae (s.take (e - 3)) by omega];rcases Xq8 e 3 with h3|h3
   ·have g:e - 3=0:=by omega
    have l:ae (s.take (e - 3))=0:=by rw [g];rfl
    rw [l,dP];exact .next hstep (.done (NX d s _ _ (by omega)))
   ·have hnext:=ih (e - 3) (o++ [ae ((s.take e).drop (e - 3))]) (by omega) (by omega) (by simp;omega);rw [Ψ] at hnext;rw [show ((e:Int) - 3)=((e - 3:Nat):Int) by omega] at hstep;exact .next hstep hnext
theorem wq (s:List UInt8) (hs:s.length<2^37):CO 78 [.str s] (.ret (.sl (ag (ak (ae s))) (ak (ae s)).length false)):=by
 have c:=eI s (by omega);have b:(aa (ae s)).length≤s.length:=je (φ _);have a:=aC (ae s);have hloop:=fun nt (hn:35≤nt)=>NY hn (aa (ae s)) (by omega) (qz _) ((aa (ae s)).length+1) (aa (ae s)).length [] (by omega) (φ _) (by simp;omega)
 rw [Xqw,a,Xqd] at hloop;generalize hd:ak (ae s)=o at*
 rcases Xxu (o= []) with rfl|hne
 ·have h:=Xk s [] c (az.blk hloop (by simp) rfl (aJ.of ⟨rfl,rfl,rfl,trivial⟩) (aJ.of ⟨rfl,trivial⟩));exact h.out (gm.ret rfl rfl (aN.nilS false rfl))
 ·have h:=(Xj s o c (az.blk hloop (by simp) rfl (aJ.of ⟨rfl,rfl,rfl,trivial⟩) (by unfold I1;rw [eD hne,eF hne];exact aJ.of ⟨rfl,trivial⟩))).thaw (by simp);simp only [rK,thaw,Φ,ct,Xqw] at h;exact h.out (gm.sl1 _ _ _)
theorem ajz (s t:List UInt8) (x y q r:Nat) (h0:(!((y:Int)==((0:Nat):Int)))=true) (a:lit false ((((η (aa (ae t))):Nat):Int)==((0:Nat):Int))=true) (c:CO 76 [.str t] (.ret (.str (aa (ae t))))) (b:CO 77 [.str s,ω 7] (.ret (.tup [ω (x:Int),.bool true]))) (e:CO 77 [.str (aa (ae t)),ω 7] (.ret (.tup [ω (y:Int),.bool true]))) (d:CO 49 [ω (γ .i64 (Xqs (x:Int) (y:Int)))] (.ret (.str (aa q)))) (f:CO 49 [ω (Xq4 (x:Int) (y:Int))] (.ret (.str (aa r)))):CO 81 [.str s,.str t] (.ret (.tup [.str (aa q),.str (aa r),.bool true])):=pK [0] 3 6 (.c h0 (.c h0 (.k 2 a .nil))) (.c f (.c d (.c e (.c b (.c c .nil)))))
theorem ajx (s t:List UInt8) (x y q r m:Nat) (Q:List Nat) (b:Int) (a:Bool) (h0:(decide (((0:Nat):Int)≤(((ak (ae s)).length:Nat):Int)))=true) (h:(decide ((((ak (ae s)).length:Nat):Int)=(((ak (ae s)).length:Nat):Int)))=true) (g:(decide ((((ak (ae s)).length:Nat):Int)≤((1099511627776:Nat):Int)))=true) (k:lit false ((((η (aa (ae t))):Nat):Int)==((0:Nat):Int))=true) (f:CO 76 [.str t] (.ret (.str (aa (ae t))))) (d:CO 77 [.str s,ω 7] (.ret (.tup [ω 0,.bool false]))) (j:CO 77 [.str (aa (ae t)),ω 7] (.ret (.tup [ω b,.bool a]))) (i:CO 78 [.str s] (.ret (.sl (ag (ak (ae s))) (ak (ae s)).length false))) (n:CO 78 [.str (aa (ae t))] (.ret (.sl (ag (ak (ae (aa (ae t))))) (ak (ae (aa (ae t)))).length false))) (l:aG prog ap [] 87 (.block 0 (.loop (ac 0 (af f81)))) ⟨[(0,.str s),(1,.str (aa (ae t))),(4,.str []),(5,.str []),(6,.bool false),(7,ω 0),(8,.bool false),(9,ω b),(10,.bool a),(11,.sl (ag (ak (ae s))) (ak (ae s)).length false),(12,.sl (ag (ak (ae (aa (ae t))))) (ak (ae (aa (ae t)))).length false),(13,.ref 0 0 0 (δ (((ak (ae s)).length:Nat):Int))),(14,.nilS),(15,ω (γ .i64 ((((ak (ae s)).length:Nat):Int) - ((1:Nat):Int)))),(20,.bool ((((η (aa (ae t))):Nat):Int)==((0:Nat):Int))),(34,.bool false),(54,.dead),(68,.dead)],[(0,⟨(dX (δ (((ak (ae s)).length:Nat):Int)) [ω 0]),0,false,0,1,true⟩)],.dead,[]⟩ (.normal) ⟨[(13,.ref 0 0 0 m),(14,.sl (ag (ak r)) (ak r).length false)],[(0,⟨(ag Q),0,false,0,1,true⟩)],.dead,[]⟩) (e:CO 79 [.sl (ο (m*1) (ag Q)) m true] (.ret (.str (aa q)))) (c:CO 79 [.sl (ag (ak r)) (ak r).length false] (.ret (.str (aa r)))):CO 81 [.str s,.str t] (.ret (.tup [.str (aa q),.str (aa r),.bool true])):=pK [0] 3 0 (.c h0 (.c h (.c g (.k 2 k .nil)))) (.c c (.c e (.l l (.c n (.c i (.c j (.c d (.c f .nil))))))))
theorem ajy (s t:List UInt8) (x y q r m:Nat) (Q:List Nat) (n:Int) (l:Bool) (h0:(decide (((0:Nat):Int)≤(((ak (ae s)).length:Nat):Int)))=true) (f:(decide ((((ak (ae s)).length:Nat):Int)=(((ak (ae s)).length:Nat):Int)))=true) (e:(decide ((((ak (ae s)).length:Nat):Int)≤((1099511627776:Nat):Int)))=true) (i:lit false ((((η (aa (ae t))):Nat):Int)==((0:Nat):Int))=true) (d:CO 76 [.str t] (.ret (.str (aa (ae t))))) (b:CO 77 [.str s,ω 7] (.ret (.tup [ω (x:Int),.bool true]))) (h:CO 77 [.str (aa (ae t)),ω 7] (.ret (.tup [ω 0,.bool false]))) (g:CO 78 [.str s] (.ret (.sl (ag (ak (ae s))) (ak (ae s)).length false))) (k:CO 78 [.str (aa (ae t))] (.ret (.sl (ag (ak (ae (aa (ae t))))) (ak (ae (aa (ae t)))).length false))) (j:aG prog ap [] 87 (.block 0 (.loop (ac 0 (af f81)))) ⟨[(0,.str s),(1,.str (aa (ae t))),(4,.str []),(5,.str []),(6,.bool false),(7,ω (x:Int)),(8,.bool true),(9,ω 0),(10,.bool false),(11,.sl (ag (ak (ae s))) (ak (ae s)).length false),(12,.sl (ag (ak (ae (aa (ae t))))) (ak (ae (aa (ae t)))).length false),(13,.ref 0 0 0 (δ (((ak (ae s)).length:Nat):Int))),(14,.nilS),(15,ω (γ .i64 ((((ak (ae s)).length:Nat):Int) - ((1:Nat):Int)))),(20,.bool ((((η (aa (ae t))):Nat):Int)==((0:Nat):Int))),(34,.bool false),(54,.dead),(68,.dead)],[(0,⟨(dX (δ (((ak (ae s)).length:Nat):Int)) [ω 0]),0,false,0,1,true⟩)],.dead,[]⟩ (.normal) ⟨[(13,.ref 0 0 0 m),(14,.sl (ag (ak r)) (ak r).length false)],[(0,⟨(ag Q),0,false,0,1,true⟩)],.dead,[]⟩) (c:CO 79 [.sl (ο (m*1) (ag Q)) m true] (.ret (.str (aa q)))) (a:CO 79 [.sl (ag (ak r)) (ak r).length false] (.ret (.str (aa r)))):CO 81 [.str s,.str t] (.ret (.tup [.str (aa q),.str (aa r),.bool true])):=pK [0] 3 2 (.c h0 (.c f (.c e (.k 2 i .nil)))) (.c a (.c c (.l j (.c k (.c g (.c h (.c b (.c d .nil))))))))
theorem ajA {nt:Nat} (i:87≤nt) (x y r w q p a m k:Nat) (c:Int) (Q:List Nat) (h0:(chk (.int .i64) (ζ (ε ((0+(δ (k:Int)))*1) (ο ((0+(δ (k:Int)))*1) (ag Q)++ [ω (q:Int)]++ε (((0+(δ (k:Int)))*1)+1) (ag Q))) .dead))=true) (b:(decide (((0:Nat):Int)≤(k:Int)))=true) (d:(decide ((k:Int)<(m:Int)))=true) (t:(Xqk (((0+(δ (k:Int)))*1)+1) (η (ag Q)))=true) (u:lit true (decide (((0:Nat):Int)≤c))=true) (g:(Xqn (η (ag (ak r))) ((ak r).length*1))=true) (h:(Xqk (1+(ak r).length) 1099511627776)=true) (j:(chk (.int .i64) (ζ (ε ((δ (k:Int))*1) (ag (ak x))) .dead))=true) (s:(decide ((k:Int)<(((ak x).length:Nat):Int)))=true) (o:lit true (decide (((0:Nat):Int)≤(k:Int)))=true) (f:CO 108 [.sl (ο ((1+(ak r).length)*1) ([ω (Γ (ζ (ε ((δ (k:Int))*1) (ag (ak x))) .dead))]++(ag (ak r)))) (1+(ak r).length) true] (.ret (.sl (ag (ak w)) (ak w).length false))) (e:CO 109 [.sl (ag (ak w)) (ak w).length false,.sl (ag (ak y)) (ak y).length false] (.ret (ω c))) (n:CO 110 [.sl (ag (ak w)) (ak w).length false,.sl (ag (ak y)) (ak y).length false] (.ret (ω (q:Int)))) (l:CO 112 [.sl (ag (ak y)) (ak y).length false,ω (Γ (ζ (ε ((0+(δ (k:Int)))*1) (ο ((0+(δ (k:Int)))*1) (ag Q)++ [ω (q:Int)]++ε (((0+(δ (k:Int)))*1)+1) (ag Q))) .dead))] (.ret (.sl (ag (ak p)) (ak p).length true))) (v:CO 111 [.sl (ag (ak w)) (ak w).length false,.sl (ag (ak p)) (ak p).length true] (.ret (.sl (ag (ak a)) (ak a).length false))):ψ nt f81 ⟨[(11,.sl (ag (ak x)) (ak x).length false),(12,.sl (ag (ak y)) (ak y).length false),(13,.ref 0 0 0 m),(14,.sl (ag (ak r)) (ak r).length false),(15,ω (k:Int))],[(0,⟨(ag Q),0,false,0,1,true⟩)],.dead,[]⟩ (.normal) ⟨[(11,.sl (ag (ak x)) (ak x).length false),(12,.sl (ag (ak y)) (ak y).length false),(13,.ref 0 0 0 m),(14,.sl (ag (ak a)) (ak a).length false),(15,ω (γ .i64 ((k:Int) - ((1:Nat):Int))))],[(0,⟨(ο ((0+(δ (k:Int)))*1) (ag Q)++ [ω (q:Int)]++ε (((0+(δ (k:Int)))*1)+1) (ag Q)),0,false,0,1,true⟩)],.dead,[]⟩:=pJ 81 [] 2 3 (.c h0 (.c b (.c d (.c t (.c b (.c d (.c u (.c g (.c h (.k 2 j (.c b (.c s (.c o .nil))))))))))))) (.c v (.c l (.c n (.c e (.c f .nil))))) i
theorem ajB {nt:Nat} (g:87≤nt) (x y r w q p l m k:Nat) (c:Int) (Q:List Nat) (h0:lit false (decide (((0:Nat):Int)≤c))=true) (h:(Xqn (η (ag (ak r))) ((ak r).length*1))=true) (e:(Xqk (1+(ak r).length) 1099511627776)=true) (i:(chk (.int .i64) (ζ (ε ((δ (k:Int))*1) (ag (ak x))) .dead))=true) (j:(decide (((0:Nat):Int)≤(k:Int)))=true) (d:(decide ((k:Int)<(((ak x).length:Nat):Int)))=true) (f:lit true (decide (((0:Nat):Int)≤(k:Int)))=true) (b:CO 108 [.sl (ο ((1+(ak r).length)*1) ([ω (Γ (ζ (ε ((δ (k:Int))*1) (ag (ak x))) .dead))]++(ag (ak r)))) (1+(ak r).length) true] (.ret (.sl (ag (ak w)) (ak w).length false))) (a:CO 109 [.sl (ag (ak w)) (ak w).length false,.sl (ag (ak y)) (ak y).length false] (.ret (ω c))):ψ nt f81 ⟨[(11,.sl (ag (ak x)) (ak x).length false),(12,.sl (ag (ak y)) (ak y).length false),(13,.ref 0 0 0 m),(14,.sl (ag (ak r)) (ak r).length false),(15,ω (k:Int))],[(0,⟨(ag Q),0,false,0,1,true⟩)],.dead,[]⟩ (.normal) ⟨[(11,.sl (ag (ak x)) (ak x).length false),(12,.sl (ag (ak y)) (ak y).length false),(13,.ref 0 0 0 m),(14,.sl (ag (ak w)) (ak w).length false),(15,ω (γ .i64 ((k:Int) - ((1:Nat):Int))))],[(0,⟨(ag Q),0,false,0,1,true⟩)],.dead,[]⟩:=pJ 81 [] 2 1 (.c h0 (.c h (.c e (.k 2 i (.c j (.c d (.c f .nil))))))) (.c a (.c b .nil)) g
theorem acp {nt:Nat} (a:87≤nt) (x y r w q p b m k:Nat) (c:Int) (Q:List Nat):ψ nt f81 ⟨[(11,.sl (ag (ak x)) (ak x).length false),(12,.sl (ag (ak y)) (ak y).length false),(13,.ref 0 0 0 m),(14,.sl (ag (ak r)) (ak r).length false),(15,ω (-1))],[(0,⟨(ag Q),0,false,0,1,true⟩)],.dead,[]⟩ (.exit 0) ⟨[(13,.ref 0 0 0 m),(14,.sl (ag (ak r)) (ak r).length false)],[(0,⟨(ag Q),0,false,0,1,true⟩)],.dead,[]⟩:=pJ 81 [] 1 0 (.n 1 .nil) (.nil) a
def vw (x y m k:Nat):List Nat:=(Xq1 m).map fun i=>if i<k then 0 else x / 16777216^i / y % 16777216
theorem sD (x y m k:Nat):(vw x y m k).length=m:=by simp [vw]
theorem SF {x y m k:Nat} (a:k<m):(vw x y m (k+1)).set k (x / 16777216^k / y % 16777216)=vw x y m k:=by
 apply Xjx;intro i;rw [Xj9,sD];unfold vw;by_cases hi:k=i
 ·subst hi;simp [a]
 ·rw [if_neg hi];by_cases him:i<m
  ·simp only [List.getElem?_map,List.getElem?_range him,Option.map_some];by_cases h1:i<k
   ·rw [if_pos (by omega),if_pos h1]
   ·rw [if_neg (by omega),if_neg h1]
  ·rw [Xqz (by simp;omega),Xqz (by simp;omega)]
theorem BZ (x y m:Nat):vw x y m m=θ m 0:=by
 unfold vw;apply Xjx;intro i;by_cases him:i<m
 ·simp [him]
 ·rw [Xqz (by simp;omega),Xqz (by simp;omega)]
theorem SE (x y m k:Nat):aV (vw x y m k):=by
 intro d hd;obtain ⟨i,_,rfl⟩:=List.mem_map.1 hd;show (if i<k then 0 else _)<_;split<;>omega
theorem Pv (z:Nat):∀ m,bM ((Xq1 m).map fun i=>z / 16777216^i % 16777216)=z % 16777216^m:=by
 intro m
 induction m with
 |zero=>simp [bM,Nat.mod_one]
 |succ m ih=>
  rw [List.range_succ,Xxt,uF,ih,List.length_map,List.length_range,Xq2,Nat.mod_mul];simp only [Xqc,Xxz,bM,Xjg,Xq3]
theorem SG {x y m:Nat} (h:x / y<16777216^m):bM (vw x y m 0)=x / y:=by
 have e:vw x y m 0=(Xq1 m).map fun i=>x / y / 16777216^i % 16777216:=by
  unfold vw;apply List.map_congr_left;intro i _;rw [if_neg (by omega),Xxx,Xxx,Xqb]
 rw [e,Pv,Δ h]
theorem Mk:∀ (k x:Nat),(ak x).getD k 0=x / 16777216^k % 16777216:=by
 intro k
 induction k with
 |zero=>
  intro x;rcases Ξ x with rfl|h
  ·rw [dP];rfl
  ·rw [j_ h];simp
 |succ k ih=>
  intro x;rcases Ξ x with rfl|h
  ·rw [dP];simp
  ·rw [j_ h,List.getD_cons_succ,ih,Xxx,Xq2,Xqb]
theorem Ik {V R' Q' x H:Nat} (a:0<V) (h:H=V*Q'+R'):(x+16777216*H) / V=16777216*Q'+(x+16777216*R') / V∧(x+16777216*H) % V=(x+16777216*R') % V:=by
 subst h;have e:x+16777216*(V*Q'+R')=x+16777216*R'+V*(16777216*Q'):=by
  rw [Xq9,Xw1];omega
 rw [e];constructor
 ·rw [Nat.add_mul_div_left _ _ a,Xxr]
 ·rw [Nat.add_mul_mod_self_left]
def KR (x y m k:Nat):St:=⟨[(11,.sl (ag (ak x)) (ak x).length false),(12,.sl (ag (ak y)) (ak y).length false),(13,.ref 0 0 0 m),(14,.sl (ag (ak (x / 16777216^k % y))) (ak (x / 16777216^k % y)).length false),(15,ω ((k:Int) - 1))],[(0,⟨ag (vw x y m k),0,false,0,1,true⟩)],.dead,[]⟩
theorem ajD {nt:Nat} (o:87≤nt) (x y r w q p b m k d:Nat) (c:Int) (Q Q2:List Nat) (z:k<(ak x).length) (hd:(ak x).getD k 0=d) (t:Q.length=m) (h:k<m) (A:m<2^40) (v:(ak r).length<2^39) (a:Q.set k q=Q2) (s:0≤c)
  (c0:CO 108 [.sl (ag (d::ak r)) (1+(ak r).length) true] (.ret (.sl (ag (ak w)) (ak w).length false)))
  (c1:CO 109 [.sl (ag (ak w)) (ak w).length false,.sl (ag (ak y)) (ak y).length false] (.ret (ω c)))
  (c2:CO 110 [.sl (ag (ak w)) (ak w).length false,.sl (ag (ak y)) (ak y).length false] (.ret (ω (q:Int))))
  (c3:CO 112 [.sl (ag (ak y)) (ak y).length false,ω (q:Int)] (.ret (.sl (ag (ak p)) (ak p).length true)))
  (c4:CO 111 [.sl (ag (ak w)) (ak w).length false,.sl (ag (ak p)) (ak p).length true] (.ret (.sl (ag (ak b)) (ak b).length false))):
  ψ nt f81 ⟨[(11,.sl (ag (ak x)) (ak x).length false),(12,.sl (ag (ak y)) (ak y).length false),(13,.ref 0 0 0 m),(14,.sl (ag (ak r)) (ak r).length false),(15,ω (k:Int))],[(0,⟨ag Q,0,false,0,1,true⟩)],.dead,[]⟩ .normal
   ⟨[(11,.sl (ag (ak x)) (ak x).length false),(12,.sl (ag (ak y)) (ak y).length false),(13,.ref 0 0 0 m),(14,.sl (ag (ak b)) (ak b).length false),(15,ω ((k:Int) - 1))],[(0,⟨ag Q2,0,false,0,1,true⟩)],.dead,[]⟩:=by
 have g:=ajA o x y r w q p b m k c Q;have n:γ .i64 ((k:Int) - ((1:Nat):Int))=(k:Int) - 1:=bU (by omega) (by omega);have hset':=Iy (l:=Q) (j:=k) (by omega) q;rw [a] at hset';have e:Q2.getD k 0=q:=by rw [← a,ν,List.getElem?_set_self (by omega)];rfl
 have i:Q2.length=m:=by rw [← a];simp [t]
 have f:ο (1+(ak r).length) (ag (d::ak r))=ag (d::ak r):=by rw [ct,Xqi (by simp;omega)]
 have u:(((0:Nat):Int)≤c)=True:=by simp [s]
 simp (disch:=first|omega|(simp [aq,au]<;>omega)) only [av,Θ,Φ,hset',ep,e,db,cV,bf,bq,bK,dW,u,decide_true,bB,Dj,hd,aU,EH,f,n] at g;apply g<;>first|exact True.intro|omega|assumption|exact rfl
theorem ajC {nt:Nat} (j:87≤nt) (x y r w m k d:Nat) (c:Int) (Q:List Nat) (l:k<(ak x).length) (hd:(ak x).getD k 0=d) (n:Q.length=m) (e:k<m) (o:m<2^40) (i:(ak r).length<2^39) (f:c<0)
  (c0:CO 108 [.sl (ag (d::ak r)) (1+(ak r).length) true] (.ret (.sl (ag (ak w)) (ak w).length false)))
  (c1:CO 109 [.sl (ag (ak w)) (ak w).length false,.sl (ag (ak y)) (ak y).length false] (.ret (ω c))):
  ψ nt f81 ⟨[(11,.sl (ag (ak x)) (ak x).length false),(12,.sl (ag (ak y)) (ak y).length false),(13,.ref 0 0 0 m),(14,.sl (ag (ak r)) (ak r).length false),(15,ω (k:Int))],[(0,⟨ag Q,0,false,0,1,true⟩)],.dead,[]⟩ .normal
   ⟨[(11,.sl (ag (ak x)) (ak x).length false),(12,.sl (ag (ak y)) (ak y).length false),(13,.ref 0 0 0 m),(14,.sl (ag (ak w)) (ak w).length false),(15,ω ((k:Int) - 1))],[(0,⟨ag Q,0,false,0,1,true⟩)],.dead,[]⟩:=by
 have b:=ajB j x y r w 0 0 0 m k c Q;have h:γ .i64 ((k:Int) - ((1:Nat):Int))=(k:Int) - 1:=bU (by omega) (by omega);have a:ο (1+(ak r).length) (ag (d::ak r))=ag (d::ak r):=by rw [ct,Xqi (by simp;omega)]
 have g:(((0:Nat):Int)≤c)=False:=by simp [f]
 simp (disch:=first|omega|(simp [aq,au]<;>omega)) only [g,decide_false,dw,Xjo,bK,Φ,Dj,decide_true,dW,bf,av,ep,hd,db,cV,bq,bB,aU,EH,a,h] at b;apply b<;>first|exact True.intro|omega|assumption|exact rfl
theorem Sz (x y m k:Nat) (c:0<y) (j:k<m):∃ d r w:Nat,(ak x).getD k 0=d∧x / 16777216^(k+1) % y=r∧d+16777216*r=w∧d<16777216∧r<y∧x / 16777216^k % y=w % y∧(vw x y m (k+1)).set k (w / y)=vw x y m k∧(vw x y m (k+1)).getD k 0=0:=by
 have e:=Xqh (x / 16777216^k) (show 0<16777216 by omega);have f:=Xqh (x / 16777216^(k+1)) c;refine ⟨x / 16777216^k % 16777216,x / 16777216^(k+1) % y,_,Mk k x,rfl,rfl,e,f, ?_, ?_, ?_⟩
 ·have b:=Xq7 (x / 16777216^(k+1)) y;obtain ⟨_,l⟩:=Ik (x:=x / 16777216^k % 16777216) c b.symm;have g:x / 16777216^k % 16777216+16777216*(x / 16777216^(k+1))=x / 16777216^k:=by
   rw [Xq2,← Xxx];omega
  rw [g] at l;exact l
 ·have b:=Xq7 (x / 16777216^(k+1)) y;obtain ⟨v1,_⟩:=Ik (x:=x / 16777216^k % 16777216) c b.symm;have g:x / 16777216^k % 16777216+16777216*(x / 16777216^(k+1))=x / 16777216^k:=by
   rw [Xq2,← Xxx];omega
  rw [g] at v1;have a:=SF (x:=x) (y:=y) j;rw [v1] at a;have h:x / 16777216^k % 16777216+16777216*(x / 16777216^(k+1) % y)<y*16777216:=by omega
  have i:(x / 16777216^k % 16777216+16777216*(x / 16777216^(k+1) % y)) / y<16777216:=by rw [Xqr c,Xqb 16777216 y];exact h
  rw [Nat.mul_add_mod,Δ i] at a;exact a
 ·unfold vw;rw [ν];simp [j]
theorem J2 {w y:Nat} (h:w<y*16777216):(ak w).length≤(ak y).length+1:=by
 apply ny;have a:=qp y;rw [Xq2];exact Xq6 h (Xvi a (by omega))
theorem SA {nt:Nat} (E:87≤nt) (x y m k:Nat) (D:0<y) (L:(ak x).length=m) (s:k<m) (G:m<2^35) (K:(ak y).length<2^34):ψ nt f81 (KR x y m (k+1)) .normal (KR x y m k):=by
 obtain ⟨d,r,w,hd,J,H,t,z,p,a,l⟩:=Sz x y m k D s;have q:=sD x y m (k+1);unfold KR;rw [show (((k+1:Nat):Int) - 1)=(k:Int) by omega,J,p];have e:w<y*16777216:=by omega
 have I:=mB (Xjp z);have b:=ur (d::ak r) true (by simp;omega);rw [Jz (aV.cons t (aV.dig r))] at b;simp only [bM,dm,H,μ] at b;rw [Xxr (ak r).length 1] at b;have c:=b.out (gm.sl1 _ _ _);have v:w / y<16777216:=by rw [Xqr D,Xqb];exact e
 have F:=J2 e;have o:=Jc (ak w) (ak y) false false (aV.dig _) (aV.dig _) (by omega) (by omega);have g:=Bw w y;generalize vw x y m k=Q2 at*
 generalize vw x y m (k+1)=Q1 at*
 by_cases hc:0≤Ej (ak w) (ak y)
 ·have f:=g.1.1 hc;have n:=Mm w y false false D e (by omega) (by omega);have C:=FN y (w / y) false v (by omega);have u:y*(w / y)≤w:=Nat.mul_div_le w y;have j:=E4 w (y*(w / y)) false true u (by omega);have B:w - y*(w / y)=w % y:=by have:=Xq7 w y;omega
  rw [B] at j;exact ajD E x y r w (w / y) (y*(w / y)) (w % y) m k d _ Q1 Q2 (by omega) hd q s (by omega) (by omega) a hc c o n C j
 ·have f:w<y:=Yqg (fun h=>hc (g.1.2 h));have A:w / y=0:=Xx7 f;rw [Δ f];rw [A] at a;have hsame:Q1.set k 0=Q1:=by
   apply Xjx;intro i;rw [Xj9];by_cases hi:k=i
   ·subst hi;rw [ν,ξ (by omega)] at l;rw [if_pos rfl,if_pos (by omega),ξ (by omega)];simpa using l.symm
   ·rw [if_neg hi]
  rw [hsame] at a;subst a;exact ajC E x y r w m k d _ Q1 (by omega) hd q s (by omega) (by omega) (by omega) c o
def I_ (x y m k:Nat):St:=⟨[(13,.ref 0 0 0 m),(14,.sl (ag (ak (x / 16777216^k % y))) (ak (x / 16777216^k % y)).length false)],[(0,⟨ag (vw x y m k),0,false,0,1,true⟩)],.dead,[]⟩
theorem Sy {nt:Nat} (c:87≤nt) (x y m:Nat) (d:0<y) (e:(ak x).length=m) (a:m<2^35) (b:(ak y).length<2^34):∀ k,k≤m→az prog ap [] nt (ac 0 (af f81)) (fun _=> .exit 0) (KR x y m) (I_ x y m) k 0:=by
 intro k
 induction k with
 |zero=>
  intro _;refine .done ?_;unfold I_;have h:=acp c x y (x / 16777216^0 % y) 0 0 0 0 m 0 0 (vw x y m 0);exact h
 |succ k ih=>exact fun f=> .next (SA c x y m k d e (by omega) a b) (ih (by omega))
theorem Cj {s:List UInt8}:(ak (ae s)).length≤s.length:=by
 apply ny;have h:=gJ s;refine σ h ?_;rw [show (16777216:Nat)=2^24 from rfl,← Xja];exact Xqf (by omega) (by omega)
theorem nQ (s t:List UInt8) (hs:s.length<2^33) (J:t.length<2^33) (h0:0<ae t):CO 81 [.str s,.str t] (.ret (.tup [.str (aa (ae s / ae t)),.str (aa (ae s % ae t)),.bool true])):=by
 have L:=eI t (by omega);have b:=aC (ae t);have E:(aa (ae t)).length≤t.length:=je (φ _);have g:aa (ae t) ≠ []:=fun h=>by have:=dL.1 h;omega
 have F:0<(aa (ae t)).length:=by
  cases A:aa (ae t) with
  |nil=>exact absurd A g
  |cons _ _=>simp
 have e:((aa (ae t)).length=0)=False:=by simp;exact g
 have M:((7:Nat):Int)=7:=rfl;by_cases hb:ae s<2^(8*7)∧ae t<2^(8*7)
 ·have d:=gF s 7 (by omega) (by omega) hb.1;have a:=gF (aa (ae t)) 7 (by omega) (by omega) (by rw [b];exact hb.2);rw [b] at a;have w:ae s<9223372036854775808:=σ hb.1 (by decide);have x:ae t<9223372036854775808:=σ hb.2 (by decide);have I:=Xji (ae s) (ae t);have K:=Nat.mod_le (ae s) (ae t);have G:=cH (ae s / ae t) (by omega);have H:=cH (ae s % ae t) (by omega);have h:=ajz s t (ae s) (ae t) (ae s / ae t) (ae s % ae t);have p:(ae t=0)=False:=by simp;omega
  clear hb hs;simp (disch:=first|omega|(simp [aq,au]<;>omega)) only [kO,p,decide_false,Xjo,e,dw,lL,aS,rR] at h;apply h<;>first|exact True.intro|omega|assumption|exact rfl
 ·have v:=wq s (by omega);have j:=wq (aa (ae t)) (by omega);rw [b] at j;have B:=Cj (s:=s);have D:=Cj (s:=t);have hloop:=fun nt (hn:87≤nt)=>Sy hn (ae s) (ae t) _ h0 rfl (by omega) (by omega) _ (φ _)
  have r:=sD (ae s) (ae t) (ak (ae s)).length 0;have m:bM (vw (ae s) (ae t) (ak (ae s)).length 0)=ae s / ae t:=SG (υ (Xji _ _) (qp _));have n:=pH (vw (ae s) (ae t) (ak (ae s)).length 0) true (by omega) (SE _ _ _ _);rw [m,r] at n;have l:ae s / 16777216^0 % ae t=ae s % ae t:=by rw [Nat.pow_zero,Nat.div_one]
  have C:=mB (Xjp (Xqh (ae s) h0));have o:=pH (ak (ae s % ae t)) false (by omega) (aV.dig _);rw [dm] at o;have f:ae s / 16777216^(ak (ae s)).length % ae t=0:=by rw [Xx7 (qp _),Nat.zero_mod]
  have i:γ .i64 ((((ak (ae s)).length:Nat):Int) - ((1:Nat):Int))=((ak (ae s)).length:Int) - 1:=yL (by omega);have c:I_ (ae s) (ae t) (ak (ae s)).length 0=⟨[(13,.ref 0 0 0 (ak (ae s)).length),(14,.sl (ag (ak (ae s % ae t))) (ak (ae s % ae t)).length false)],[(0,⟨ag (vw (ae s) (ae t) (ak (ae s)).length 0),0,false,0,1,true⟩)],.dead,[]⟩:=by unfold I_;rw [l]
  have y:(ak (ae s)).length<2^35:=by omega
  have k:ο (ak (ae s)).length (ag (vw (ae s) (ae t) (ak (ae s)).length 0))=ag (vw (ae s) (ae t) (ak (ae s)).length 0):=by rw [ct,Xqi (by omega)]
  by_cases hx:ae s<2^(8*7)
  ·have z:2^(8*7)≤ae t:=by
    rcases Xq8 (ae t) (2^(8*7)) with h|h
    ·exact absurd ⟨hx,h⟩ hb
    ·exact h
   have d:=gF s 7 (by omega) (by omega) hx;have a:=iK (aa (ae t)) 7 (by omega) (by rw [b];exact z);clear hb hx z;have h:=ajy s t (ae s) 0 (ae s / ae t) (ae s % ae t) (ak (ae s)).length (vw (ae s) (ae t) (ak (ae s)).length 0) 0 true;rw [b] at h;simp (disch:=first|omega|(simp [aq,au]<;>omega)) only [cV,bf,decide_true,kO,e,decide_false,dw,Xjo,av,i,xm,Φ,k] at h;apply h<;>first|exact True.intro|omega|assumption|exact rfl|skip
   ·refine az.blkF hloop (by simp) rfl ?_ (by rw [c];exact mf.refl _);unfold KR;rw [BZ,f,dP];exact mf.of ⟨aN.refl _,aN.refl _,aN.refl _,aN.nilS false rfl,aN.refl _,trivial⟩
  ·have d:=iK s 7 (by omega) (Nat.le_of_not_lt hx);have a:∃ u q,CO 77 [.str (aa (ae t)),ω 7] (.ret (.tup [ω u,.bool q])):=by
    rcases Xq8 (ae t) (2^(8*7)) with h|h
    ·exact ⟨_,_,gF (aa (ae t)) 7 (by omega) (by omega) (by rw [b];exact h)⟩
    ·exact ⟨_,_,iK (aa (ae t)) 7 (by omega) (by rw [b];exact h)⟩
   obtain ⟨u,q,a⟩:=a;clear hb hx;have h:=ajx s t 0 0 (ae s / ae t) (ae s % ae t) (ak (ae s)).length (vw (ae s) (ae t) (ak (ae s)).length 0) u q;rw [b] at h;simp (disch:=first|omega|(simp [aq,au]<;>omega)) only [cV,bf,decide_true,kO,e,decide_false,dw,Xjo,av,i,xm,Φ,k] at h;apply h<;>first|exact True.intro|omega|assumption|exact rfl|skip
   ·refine az.blkF hloop (by simp) rfl ?_ (by rw [c];exact mf.refl _);unfold KR;rw [BZ,f,dP];exact mf.of ⟨aN.refl _,aN.refl _,aN.refl _,aN.nilS false rfl,aN.refl _,trivial⟩
theorem acR {nt:Nat} (b:25≤nt) (s t q r:List UInt8) (h0:lit true (decide (((0:Nat):Int)<(((η t):Nat):Int)))=true) (a:CO 81 [.str s,.str t] (.ret (.tup [.str q,.str r,.bool true]))):ψ nt f80 ⟨[(0,.str s),(1,.str t)],[],.dead,[]⟩ (.normal) ⟨[(0,.str t),(1,.str r)],[],.dead,[]⟩:=pJ 80 [] 1 1 (.c h0 .nil) (.c a .nil) b
theorem acS {nt:Nat} (a:25≤nt) (s t q r:List UInt8) (h0:lit false (decide (((0:Nat):Int)<(((η t):Nat):Int)))=true):ψ nt f80 ⟨[(0,.str s),(1,.str t)],[],.dead,[]⟩ (.exit 0) ⟨[(0,.str s)],[],.dead,[]⟩:=pJ 80 [] 1 0 (.c h0 .nil) (.nil) a
theorem acP (s t g:List UInt8) (b:CO 76 [.str s] (.ret (.str (aa (ae s))))) (a:CO 76 [.str t] (.ret (.str (aa (ae t))))) (c:aG prog ap [] 25 (.block 0 (.loop (ac 0 (af f80)))) ⟨[(0,.str (aa (ae s))),(1,.str (aa (ae t))),(4,.str []),(6,.dead),(14,.dead)],[],.dead,[]⟩ (.normal) ⟨[(0,.str g)],[],.dead,[]⟩):CO 80 [.str s,.str t] (.ret (.str g)):=pK [0] 0 0 .nil (.l c (.c a (.c b .nil)))
def acQ (p:Nat × Nat):St:=⟨[(0,.str (aa p.1)),(1,.str (aa p.2))],[],.dead,[]⟩
def UQ (x:Nat):St:=⟨[(0,.str (aa x))],[],.dead,[]⟩
theorem KV {nt:Nat} (e:25≤nt):∀ (n y x:Nat),y<n→(aa x).length<2^33→(aa y).length<2^33→az prog ap [] nt (ac 0 (af f80)) (fun _=> .exit 0) acQ UQ (x,y) (Xxq x y):=by
 intro n
 induction n with
 |zero=>intro y x h;omega
 | succ n ih=>
  intro y x h f d;rcases Ξ y with rfl|h0
  ·rw [Nat.gcd_zero_right];refine .done ?_;unfold acQ UQ;rw [b_];exact acS e (aa x) [] [] [] rfl
  ·have i:=Xqh x h0;have g:(aa (x % y)).length<2^33:=by
    have:x % y≤ae (aa y):=by rw [aC];omega
    have:=je this;omega
   have hnext:=ih (x % y) y (by omega) d g;rw [show Xxq y (x % y)=Xxq x y by rw [Xkf y,← Nat.gcd_rec,Xkf]] at hnext;refine .next ?_ hnext
   have b:=nQ (aa x) (aa y) f d (by rw [aC];exact h0);rw [aC,aC] at b;have c:aa y ≠ []:=fun h=>by have:=dL.1 h;omega
   have a:0<(aa y).length:=by
    cases b:aa y with
    |nil=>exact absurd b c
    |cons _ _=>simp
   exact acR e (aa x) (aa y) _ _ (by rw [bq,bB];exact Yq0 a) b
theorem Jf (s t:List UInt8) (hs:s.length<2^33) (d:t.length<2^33):CO 80 [.str s,.str t] (.ret (.str (aa (Xxq (ae s) (ae t))))):=by
 have c:(aa (ae s)).length≤s.length:=je (φ _);have b:(aa (ae t)).length≤t.length:=je (φ _);exact acP s t _ (eI s (by omega)) (eI t (by omega)) (az.blk (fun nt a=>KV a (ae t+1) (ae t) (ae s) (by omega) (by omega) (by omega)) (by simp) rfl (aJ.of ⟨rfl,rfl,trivial⟩) (aJ.of ⟨rfl,trivial⟩))
theorem aca (neg:Bool) (n d:List UInt8) (g:Nat) (h0:lit true (!(nR n))=true) (b:CO 128 [.str n] (.ret (.bool (nR n)))) (a:CO 128 [.str d] (.ret (.bool (nR d)))):CO 104 [Ω neg n d] (.ret (.bool false)):=pK [] 3 7 (.k 2 h0 (.n 2 .nil)) (.c a (.c b .nil))
theorem acb (neg:Bool) (n d:List UInt8) (g:Nat) (h0:lit true (!(nR d))=true) (a:lit false (!(nR n))=true) (c:CO 128 [.str n] (.ret (.bool (nR n)))) (b:CO 128 [.str d] (.ret (.bool (nR d)))):CO 104 [Ω neg n d] (.ret (.bool false)):=pK [] 3 6 (.k 1 h0 (.c a (.n 2 .nil))) (.c b (.c c .nil))
theorem acd (neg:Bool) (n d:List UInt8) (g:Nat) (h0:lit true (d== [])=true) (a:lit false (!(nR d))=true) (e:lit false (!(nR n))=true) (c:CO 128 [.str n] (.ret (.bool (nR n)))) (b:CO 128 [.str d] (.ret (.bool (nR d)))):CO 104 [Ω neg n d] (.ret (.bool false)):=pK [] 3 4 (.c h0 (.k 1 a (.c e (.n 2 .nil)))) (.c b (.c c .nil))
theorem ace (neg:Bool) (n d:List UInt8) (g:Nat) (h0:lit true (!neg)=true) (a:lit true (n== [])=true) (f:lit false (d== [])=true) (c:lit false (!(nR d))=true) (j:lit false (!(nR n))=true) (e:CO 128 [.str n] (.ret (.bool (nR n)))) (b:CO 128 [.str d] (.ret (.bool (nR d)))) (i:CO 49 [ω 1] (.ret (.str (aa 1)))) (h:CO 118 [.str d,.str (aa 1)] (.ret (ω (ji (ae d) (ae (aa 1)))))):CO 104 [Ω neg n d] (.ret (.bool ((ji (ae d) (ae (aa 1)))==((0:Nat):Int)))):=pK [] 5 24 (.k 1 h0 (.k 1 a (.k 1 f (.k 1 c (.c j (.n 2 .nil)))))) (.c h (.c i (.c b (.c e .nil))))
theorem acf (neg:Bool) (n d:List UInt8) (g:Nat) (h0:lit false (!neg)=true) (a:lit true (n== [])=true) (f:lit false (d== [])=true) (c:lit false (!(nR d))=true) (h:lit false (!(nR n))=true) (e:CO 128 [.str n] (.ret (.bool (nR n)))) (b:CO 128 [.str d] (.ret (.bool (nR d)))):CO 104 [Ω neg n d] (.ret (.bool false)):=pK [] 5 8 (.c h0 (.k 1 a (.k 1 f (.k 1 c (.c h (.n 2 .nil)))))) (.c b (.c e .nil))
theorem acg (neg:Bool) (n d:List UInt8) (g:Nat) (h0:lit false (n== [])=true) (a:lit false (d== [])=true) (f:lit false (!(nR d))=true) (c:lit false (!(nR n))=true) (e:CO 128 [.str n] (.ret (.bool (nR n)))) (b:CO 128 [.str d] (.ret (.bool (nR d)))) (i:CO 80 [.str n,.str d] (.ret (.str (aa g)))) (h:CO 49 [ω 1] (.ret (.str (aa 1)))) (j:CO 118 [.str (aa g),.str (aa 1)] (.ret (ω (ji (ae (aa g)) (ae (aa 1)))))):CO 104 [Ω neg n d] (.ret (.bool ((ji (ae (aa g)) (ae (aa 1)))==((0:Nat):Int)))):=pK [] 4 0 (.k 2 h0 (.k 1 a (.k 1 f (.c c (.n 2 .nil))))) (.c j (.c h (.c i (.c b (.c e .nil)))))
theorem ab8 (neg:Bool) (n d:List UInt8) (g:Nat) (h0:lit true (n== [])=true) (a:CO 49 [ω 1] (.ret (.str (aa 1)))):CO 51 [.bool neg,.str n,.str d] (.ret (Ω false [] (aa 1))):=pK [] 1 1 (.k 4 h0 .nil) (.c a .nil)
theorem ab9 (neg:Bool) (n d:List UInt8) (g:Nat) (h0:lit false (n== [])=true) (b:CO 80 [.str n,.str d] (.ret (.str (aa g)))) (a:CO 81 [.str n,.str (aa g)] (.ret (.tup [.str (aa (ae n / g)),.str (aa (ae n % g)),.bool true]))) (c:CO 81 [.str d,.str (aa g)] (.ret (.tup [.str (aa (ae d / g)),.str (aa (ae d % g)),.bool true]))):CO 51 [.bool neg,.str n,.str d] (.ret (Ω neg (aa (ae n / g)) (aa (ae d / g)))):=pK [] 1 0 (.k 4 h0 .nil) (.c c (.c a (.c b .nil)))
theorem ab5 (neg:Bool) (n d:List UInt8) (h0:lit true (decide ((((cP (ae n)):Nat):Int)≤((400:Nat):Int)))=true) (a:lit true (fu neg n d)=true) (c:CO 104 [Ω neg n d] (.ret (.bool (fu neg n d)))) (b:CO 133 [.str n] (.ret (ω (((cP (ae n)):Nat):Int)))) (e:CO 133 [.str d] (.ret (ω (((cP (ae d)):Nat):Int)))):CO 105 [Ω neg n d] (.ret (.bool (decide ((((cP (ae d)):Nat):Int)≤((400:Nat):Int))))):=pK [] 2 3 (.k 1 h0 (.k 1 a (.n 3 .nil))) (.c e (.c b (.c c .nil)))
theorem ab6 (neg:Bool) (n d:List UInt8) (h0:lit false (decide ((((cP (ae n)):Nat):Int)≤((400:Nat):Int)))=true) (a:lit true (fu neg n d)=true) (c:CO 104 [Ω neg n d] (.ret (.bool (fu neg n d)))) (b:CO 133 [.str n] (.ret (ω (((cP (ae n)):Nat):Int)))):CO 105 [Ω neg n d] (.ret (.bool false)):=pK [] 2 1 (.c h0 (.k 1 a (.n 3 .nil))) (.c b (.c c .nil))
theorem ab7 (neg:Bool) (n d:List UInt8) (h0:lit false (fu neg n d)=true) (a:CO 104 [Ω neg n d] (.ret (.bool (fu neg n d)))):CO 105 [Ω neg n d] (.ret (.bool false)):=pK [] 2 0 (.k 1 h0 (.n 3 .nil)) (.c a .nil)
theorem ack (neg:Bool) (n d:List UInt8) (h0:lit true (!(fu neg n d))=true) (b:CO 104 [Ω neg n d] (.ret (.bool (fu neg n d)))) (a:CO 49 [ω 1] (.ret (.str (aa 1)))):CO 70 [Ω neg n d] (.ret (Ω false [] (aa 1))):=pK [] 1 1 (.k 4 h0 (.n 3 .nil)) (.c a (.c b .nil))
theorem acl (neg:Bool) (n d:List UInt8) (h0:lit false (!(fu neg n d))=true) (a:CO 104 [Ω neg n d] (.ret (.bool (fu neg n d)))):CO 70 [Ω neg n d] (.ret (Ω neg n d)):=pK [] 1 0 (.k 7 h0 (.n 3 .nil)) (.c a .nil)
theorem ab_ (v:Int) (x z:Nat) (h0:lit true (decide (((0:Nat):Int)≤v))=true) (b:CO 49 [ω v] (.ret (.str (aa z)))) (a:CO 49 [ω 1] (.ret (.str (aa 1)))):CO 36 [ω v] (.ret (Ω false (aa z) (aa 1))):=pK [] 1 1 (.k 4 h0 .nil) (.c a (.c b .nil))
theorem ach (neg b:Bool) (n d a c:List UInt8) (h0:lit true (a== [])=true) (e:CO 70 [Ω neg n d] (.ret (Ω b a c))):CO 45 [Ω neg n d] (.ret (ω 0)):=pK [] 1 1 (.c h0 (.n 5 .nil)) (.c e .nil)
theorem aci (neg b:Bool) (n d a e:List UInt8) (h0:lit true b=true) (c:lit false (a== [])=true) (f:CO 70 [Ω neg n d] (.ret (Ω b a e))):CO 45 [Ω neg n d] (.ret (ω (-1))):=pK [] 2 2 (.c h0 (.k 1 c (.n 5 .nil))) (.c f .nil)
theorem acj (neg b:Bool) (n d a e:List UInt8) (h0:lit false b=true) (c:lit false (a== [])=true) (f:CO 70 [Ω neg n d] (.ret (Ω b a e))):CO 45 [Ω neg n d] (.ret (ω 1)):=pK [] 2 0 (.c h0 (.k 1 c (.n 5 .nil))) (.c f .nil)
theorem XY (s t:List UInt8) (x y z:Nat) (b:CO 77 [.str s,ω 3] (.ret (.tup [ω (x:Int),.bool true]))) (a:CO 77 [.str t,ω 4] (.ret (.tup [ω (y:Int),.bool true]))) (c:CO 49 [ω (γ .i64 ((x:Int)*(y:Int)))] (.ret (.str (aa z)))):CO 50 [.str s,.str t] (.ret (.str (aa z))):=pK [] 2 3 (.n 2 .nil) (.c c (.c a (.c b .nil)))
theorem Jp {x:Nat}:((ji x (ae (aa 1)))==((0:Nat):Int))=decide (x=1):=by
 rw [aC];unfold ji;rcases Xjy x 1 with h|h|h
 ·rw [if_pos h,Yq1 (by omega)];rfl
 ·rw [if_neg (by omega),if_neg (by omega),Yq0 h];rfl
 ·rw [if_neg (by omega),if_pos h,Yq1 (by omega)];rfl
theorem zD (neg:Bool) (n d:List UInt8) (v:n.length<2^33) (hd:d.length<2^33):CO 104 [Ω neg n d] (.ret (.bool (fu neg n d))):=by
 have g:=sH n;have i:=sH d;have q:=cH 1 (by omega);have t:(aa 1).length≤1:=bC (by omega);have s:=Dy d (aa 1) (by omega) (by omega);have u:=Jf n d v hd;have l:=@Jp (ae d);cases a:nR n with
 |false=>
  have e:fu neg n d=false:=by unfold fu;rw [a];rfl
  rw [e];exact aca neg n d 0 (by rw [a];rfl) g i
 | true=>
  cases b:nR d with
  |false=>
   have e:fu neg n d=false:=by unfold fu;rw [b];simp
   rw [e];exact acb neg n d 0 (by rw [b];rfl) (by rw [a];rfl) g i
  | true=>
   have p:=(kz n).1 a;have r:=(kz d).1 b;by_cases hd0:d= []
   ·have e:fu neg n d=false:=by
     subst hd0;unfold fu;simp [show ae []=0 from rfl]
    rw [e];exact acd neg n d 0 (by rw [hd0];rfl) (by rw [b];rfl) (by rw [a];rfl) g i
   ·have j:0<ae d:=by
     rcases Ξ (ae d) with h|h
     ·rw [h,b_] at r;exact absurd r.symm hd0
     ·exact h
    have f:(d== [])=false:=by simpa using hd0
    by_cases hn0:n= []
    ·have c:(n== [])=true:=by simpa using hn0
     have o:ae n=0:=by rw [hn0];rfl
     cases neg with
     | false=>
      have h:=ace false n d 0 rfl (by rw [c];rfl) (by rw [f];rfl) (by rw [b];rfl) (by rw [a];rfl) g i q s;rw [l] at h;have e:fu false n d=decide (ae d=1):=by
       rw [Xjk,iE,o,Xw2];simp [a,b];omega
      rw [e];exact h
     | true=>
      have h:=acf true n d 0 rfl (by rw [c];rfl) (by rw [f];rfl) (by rw [b];rfl) (by rw [a];rfl) g i;have e:fu true n d=false:=by
       rw [Bool.eq_false_iff];intro h;have:=(iE.1 h).2.2.2.2 rfl;omega
      rw [e];exact h
    ·have c:(n== [])=false:=by simpa using hn0
     have m:0<ae n:=by
      rcases Ξ (ae n) with h|h
      ·rw [h,b_] at p;exact absurd p.symm hn0
      ·exact h
     have w:(aa (Xxq (ae n) (ae d))).length≤d.length:=je (Xvb _ j);have k:=Dy (aa (Xxq (ae n) (ae d))) (aa 1) (by omega) (by omega);have h:=acg neg n d (Xxq (ae n) (ae d)) (by rw [c];rfl) (by rw [f];rfl) (by rw [b];rfl) (by rw [a];rfl) g i u q k;rw [Jp,aC] at h;have e:fu neg n d=decide (Xxq (ae n) (ae d)=1):=by
      rw [Xjk,iE];simp [a,b,j,m]
     rw [e];exact h
theorem jN (neg:Bool) (n d:List UInt8) (f:n.length<2^33) (hd:d.length<2^33):CO 105 [Ω neg n d] (.ret (.bool (dK neg n d))):=by
 have b:=zD neg n d f hd;have c:=Fp n (by omega);have e:=Fp d (by omega);unfold dK;cases a:fu neg n d with
 |false=>exact ab7 neg n d (by rw [a];rfl) b
 | true=>
  by_cases h3:cP (ae n)≤400
  ·have h:=ab5 neg n d (by rw [cV,Yq0 h3];rfl) (by rw [a];rfl) b c e;rw [cV] at h;rw [Yq0 h3];exact h
  ·have h:=ab6 neg n d (by rw [cV,Yq1 h3];rfl) (by rw [a];rfl) b c;rw [Yq1 h3];exact h
structure RQ where
 neg:Bool
 n:Nat
 d:Nat
def RQ.ok (q:RQ):Prop:=0<q.d∧Xxq q.n q.d=1∧(q.neg=true→0<q.n)
def qA (q:RQ):AV:= .agg [.bool q.neg,.str (aa q.n),.str (aa q.d)]
def q0:RQ:=⟨false,0,1⟩
def il (neg:Bool) (n d:Nat):RQ:=⟨neg && decide (0<n),n / Xxq n d,d / Xxq n d⟩
def vQ (neg:Bool) (n d:List UInt8):RQ:=if fu neg n d=true then ⟨neg,ae n,ae d⟩ else q0
theorem pO:q0.ok:=⟨by decide,by decide,by simp [q0]⟩
theorem pu (q:RQ) (h:q.ok):fu q.neg (aa q.n) (aa q.d)=true:=by
 rw [iE,aC,aC];exact ⟨qz _,qz _,h⟩
theorem IB {neg:Bool} {n d:List UInt8} (h:fu neg n d=true):Ω neg n d=qA ⟨neg,ae n,ae d⟩:=by
 obtain ⟨a,b,_⟩:=iE.1 h;unfold qA;rw [(kz n).1 a,(kz d).1 b]
theorem fg (neg:Bool) (n d:List UInt8):(vQ neg n d).ok:=by
 unfold vQ;split
 ·rename_i h;obtain ⟨_,_,a,c,b⟩:=iE.1 h;exact ⟨a,c,b⟩
 ·exact pO
theorem lp {neg:Bool} {n d:Nat} (h:0<d):(il neg n d).ok:=by
 have a:0<Xxq n d:=Xj0 _ h;refine ⟨Xv0 (Xvb _ h) a, ?_, ?_⟩
 ·show Xxq (n / Xxq n d) (d / Xxq n d)=1;rw [Nat.gcd_div (Nat.gcd_dvd_left _ _) (Nat.gcd_dvd_right _ _),Yx4 a]
 ·intro b;have:0<n:=by simp [il] at b;exact b.2
  exact Xv0 (Nat.gcd_le_left _ this) a
theorem eY (neg:Bool) (n d:List UInt8) (c:n.length<2^33) (hd:d.length<2^33):CO 70 [Ω neg n d] (.ret (qA (vQ neg n d))):=by
 have b:=zD neg n d c hd;unfold vQ;cases a:fu neg n d with
 |false=>
  have h:=ack neg n d (by rw [a];rfl) b (cH 1 (by omega));rw [if_neg (by simp)];unfold qA q0;rw [b_];exact h
 |true=>
  have h:=acl neg n d (by rw [a];rfl) b;rw [if_pos rfl,← IB a];exact h
theorem dC (neg:Bool) (n d:Nat) (g:(aa n).length<2^33) (hd:(aa d).length<2^33) (h0:0<d):CO 51 [.bool neg,.str (aa n),.str (aa d)] (.ret (qA (il neg n d))):=by
 have f:=Jf (aa n) (aa d) g hd;rw [aC,aC] at f;have a:0<Xxq n d:=Xj0 _ h0;have i:(aa (Xxq n d)).length≤(aa d).length:=je (by rw [aC];exact Xvb _ h0);have e:=nQ (aa n) (aa (Xxq n d)) g (by omega) (by rw [aC];exact a);have c:=nQ (aa d) (aa (Xxq n d)) hd (by omega) (by rw [aC];exact a);simp only [aC] at e c;rcases Ξ n with rfl|hp
 ·have h:=ab8 neg (aa 0) (aa d) 0 (by rw [b_];rfl) (cH 1 (by omega));unfold qA il;simp only [Xv2,decide_false,Bool.and_false,Xw2,Nat.zero_div,Yx4 h0,b_];rw [b_] at h;exact h
 ·have b:aa n ≠ []:=fun h=>by have:=dL.1 h;omega
  have h:=ab9 neg (aa n) (aa d) (Xxq n d) (by simp [lit,b]);simp only [aC] at h;unfold qA il;simp only [hp,decide_true,Bool.and_true];exact h f e c
def fZ (q:RQ):Int:=if q.n=0 then 0 else if q.neg then -1 else 1
theorem sK (neg:Bool) (n d:List UInt8):jK neg n d=fZ (vQ neg n d):=by
 unfold jK fZ vQ;cases b:fu neg n d with
 |false=>simp [q0]
 | true=>
  simp only [true_and,if_true];by_cases h:0<ae n
  ·have a:¬ ae n=0:=by omega
   simp [h,a]
  ·have a:ae n=0:=by omega
   simp [a]
theorem vu (neg:Bool) (n d:List UInt8) (f:n.length<2^33) (hd:d.length<2^33):CO 45 [Ω neg n d] (.ret (ω (jK neg n d))):=by
 have b:=eY neg n d f hd;rw [sK];generalize vQ neg n d=q at*
 obtain ⟨e,N,D⟩:=q;unfold qA at b;unfold fZ;simp only at b ⊢;rcases Ξ N with rfl|hp
 ·rw [if_pos rfl];exact ach neg e n d (aa 0) (aa D) (by rw [b_];rfl) b
 ·have c:aa N ≠ []:=fun h=>by have:=dL.1 h;omega
  have a:(aa N== [])=false:=by simpa using c
  rw [if_neg (by omega)];cases e with
  |true=>exact aci neg true n d (aa N) (aa D) rfl (by rw [a];rfl) b
  |false=>exact acj neg false n d (aa N) (aa D) rfl (by rw [a];rfl) b
def sO (neg:Bool) (n d:List UInt8) (a:Nat):Bool:=((neg==false) && ((n==(aa a)) && ((d==(aa 1)) && true)))
theorem cQ (a:Nat) (b:a<9223372036854775808):CO 36 [ω (a:Int)] (.ret (Ot false a 1)):=
 ab_ (a:Int) 0 a (by simp [lit]) (cH a b) (cH 1 (by omega))
def JR:List UInt8:= [97,98,99,100,101,102,103,104,105,106,107,108,109,110,111,112,113,114,115,116,117,118,119,120,121,122,48,49,50,51,52,53,54,55,56,57,95]
def Cy:List AV:= [.bool false,.bool false,.bool false,.bool false,.bool false,.bool false,.bool false,.bool false,.bool false,.bool false,.bool false,.bool false,.bool false,.bool false,.bool false,.bool false,.bool false,.bool false,.bool false,.bool false,.bool false,.bool false,.bool false,.bool false,.bool false,.bool false,.bool false,.bool false,.bool false,.bool false,.bool false,.bool false,.bool false,.bool false,.bool false,.bool false,.bool false,.bool false,.bool false,.bool false,.bool false,.bool false,.bool false,.bool false,.bool false,.bool false,.bool false,.bool false,.bool true,.bool true,.bool true,.bool true,.bool true,.bool true,.bool true,.bool true,.bool true,.bool true,.bool false,.bool false,.bool false,.bool false,.bool false,.bool false,.bool false,.bool false,.bool false,.bool false,.bool false,.bool false,.bool false,.bool false,.bool false,.bool false,.bool false,.bool false,.bool false,.bool false,.bool false,.bool false,.bool false,.bool false,.bool false,.bool false,.bool false,.bool false,.bool false,.bool false,.bool false,.bool false,.bool false,.bool false,.bool false,.bool false,.bool false,.bool true,.bool false,.bool true,.bool true,.bool true,.bool true,.bool true,.bool true,.bool true,.bool true,.bool true,.bool true,.bool true,.bool true,.bool true,.bool true,.bool true,.bool true,.bool true,.bool true,.bool true,.bool true,.bool true,.bool true,.bool true,.bool true,.bool true,.bool true,.bool false,.bool false,.bool false,.bool false,.bool false,.bool false,.bool false,.bool false,.bool false,.bool false,.bool false,.bool false,.bool false,.bool false,.bool false,.bool false,.bool false,.bool false,.bool false,.bool false,.bool false,.bool false,.bool false,.bool false,.bool false,.bool false,.bool false,.bool false,.bool false,.bool false,.bool false,.bool false,.bool false,.bool false,.bool false,.bool false,.bool false,.bool false,.bool false,.bool false,.bool false,.bool false,.bool false,.bool false,.bool false,.bool false,.bool false,.bool false,.bool false,.bool false,.bool false,.bool false,.bool false,.bool false,.bool false,.bool false,.bool false,.bool false,.bool false,.bool false,.bool false,.bool false,.bool false,.bool false,.bool false,.bool false,.bool false,.bool false,.bool false,.bool false,.bool false,.bool false,.bool false,.bool false,.bool false,.bool false,.bool false,.bool false,.bool false,.bool false,.bool false,.bool false,.bool false,.bool false,.bool false,.bool false,.bool false,.bool false,.bool false,.bool false,.bool false,.bool false,.bool false,.bool false,.bool false,.bool false,.bool false,.bool false,.bool false,.bool false,.bool false,.bool false,.bool false,.bool false,.bool false,.bool false,.bool false,.bool false,.bool false,.bool false,.bool false,.bool false,.bool false,.bool false,.bool false,.bool false,.bool false,.bool false,.bool false,.bool false,.bool false,.bool false,.bool false,.bool false,.bool false,.bool false,.bool false,.bool false,.bool false,.bool false,.bool false,.bool false,.bool false]
theorem Vs:CO 143 [.str JR] (.ret (.tup [.agg Cy,.bool true])):=Bv CZ (lf:=3000) (n:=4) (ans:= []) .nil (by kernel_rfl)
theorem Zz (a:List AV) (c:Nat) (h0:(chk .bool (ζ (ε (0+((δ (c:Int))*1)) a) .dead))=true) (b:(decide (((0:Nat):Int)≤(c:Int)))=true) (d:(decide ((c:Int)<((256:Nat):Int)))=true):CO 166 [.pp a 0,.int .u8 (c:Int)] (.ret (.bool (Xkj (ζ (ε (0+((δ (c:Int))*1)) a) .dead)))):=pK [] 0 0 (.c h0 (.c b (.c d .nil))) (.nil)
theorem ajM {nt:Nat} (e:16≤nt) (s:List UInt8) (a:List AV) (b:Bool) (h0:lit true (!b)=true) (c:(decide (((0:Nat):Int)<(((η s):Nat):Int)))=true) (f:lit true (decide (((0:Nat):Int)<(((η s):Nat):Int)))=true) (d:CO 166 [.pp a 0,.int .u8 ((Xxj (Xx6 s 0 0):Nat):Int)] (.ret (.bool b))):ψ nt f144 ⟨[(0,.str s),(1,.pp a 0)],[],.dead,[]⟩ (.exit 0) ⟨[(0,.str s)],[],.dead,[]⟩:=pJ 144 [] 2 3 (.c h0 (.k 1 c (.c f .nil))) (.c d .nil) e
theorem ajN {nt:Nat} (f:16≤nt) (s:List UInt8) (a:List AV) (b:Bool) (h0:(decide (((1:Nat):Int)≤(((η s):Nat):Int)))=true) (c:(decide ((((η s):Nat):Int)≤(((η s):Nat):Int)))=true) (h:lit false (!b)=true) (d:(decide (((0:Nat):Int)<(((η s):Nat):Int)))=true) (g:lit true (decide (((0:Nat):Int)<(((η s):Nat):Int)))=true) (e:CO 166 [.pp a 0,.int .u8 ((Xxj (Xx6 s 0 0):Nat):Int)] (.ret (.bool b))):ψ nt f144 ⟨[(0,.str s),(1,.pp a 0)],[],.dead,[]⟩ (.normal) ⟨[(0,.str (ε 1 (ο (δ (((η s):Nat):Int)) s))),(1,.pp a 0)],[],.dead,[]⟩:=pJ 144 [] 2 1 (.k 1 h0 (.c c (.c h (.k 1 d (.c g .nil))))) (.c e .nil) f
theorem ajO {nt:Nat} (c:16≤nt) (s:List UInt8) (a:List AV) (b:Bool) (h0:lit false (decide (((0:Nat):Int)<(((η s):Nat):Int)))=true):ψ nt f144 ⟨[(0,.str s),(1,.pp a 0)],[],.dead,[]⟩ (.exit 0) ⟨[(0,.str s)],[],.dead,[]⟩:=pJ 144 [] 1 0 (.c h0 .nil) (.nil) c
theorem adV (s r:List UInt8) (a:List AV) (b:aG prog ap [] 16 (.block 0 (.loop (ac 0 (af f144)))) ⟨[(0,.str s),(1,.pp a 0),(4,.str []),(7,.dead),(12,.dead)],[],.dead,[]⟩ (.normal) ⟨[(0,.str r)],[],.dead,[]⟩):CO 144 [.str s,.pp a 0] (.ret (.str r)):=pK [0] 0 0 .nil (.l b .nil)
theorem ajP {nt:Nat} (f:22≤nt) (s:List UInt8) (a:List AV) (b:Bool) (h0:lit true (!b)=true) (c:(decide (((0:Nat):Int)≤(γ .i64 ((((η s):Nat):Int) - ((1:Nat):Int)))))=true) (g:(decide ((γ .i64 ((((η s):Nat):Int) - ((1:Nat):Int)))<(((η s):Nat):Int)))=true) (d:lit true (decide (((0:Nat):Int)<(((η s):Nat):Int)))=true) (e:CO 166 [.pp a 0,.int .u8 ((Xxj (Xx6 s (δ (γ .i64 ((((η s):Nat):Int) - ((1:Nat):Int)))) 0):Nat):Int)] (.ret (.bool b))):ψ nt f145 ⟨[(0,.str s),(1,.pp a 0)],[],.dead,[]⟩ (.exit 0) ⟨[(0,.str s)],[],.dead,[]⟩:=pJ 145 [] 2 3 (.c h0 (.c c (.c g (.c d .nil)))) (.c e .nil) f
theorem ajQ {nt:Nat} (f:22≤nt) (s:List UInt8) (a:List AV) (b:Bool) (h0:(decide (((0:Nat):Int)≤(γ .i64 ((((η s):Nat):Int) - ((1:Nat):Int)))))=true) (c:(decide ((γ .i64 ((((η s):Nat):Int) - ((1:Nat):Int)))≤(((η s):Nat):Int)))=true) (h:lit false (!b)=true) (d:(decide ((γ .i64 ((((η s):Nat):Int) - ((1:Nat):Int)))<(((η s):Nat):Int)))=true) (g:lit true (decide (((0:Nat):Int)<(((η s):Nat):Int)))=true) (e:CO 166 [.pp a 0,.int .u8 ((Xxj (Xx6 s (δ (γ .i64 ((((η s):Nat):Int) - ((1:Nat):Int)))) 0):Nat):Int)] (.ret (.bool b))):ψ nt f145 ⟨[(0,.str s),(1,.pp a 0)],[],.dead,[]⟩ (.normal) ⟨[(0,.str (ε 0 (ο (δ (γ .i64 ((((η s):Nat):Int) - ((1:Nat):Int)))) s))),(1,.pp a 0)],[],.dead,[]⟩:=pJ 145 [] 2 1 (.k 1 h0 (.c c (.c h (.c h0 (.c d (.c g .nil)))))) (.c e .nil) f
theorem ajR {nt:Nat} (c:22≤nt) (s:List UInt8) (a:List AV) (b:Bool) (h0:lit false (decide (((0:Nat):Int)<(((η s):Nat):Int)))=true):ψ nt f145 ⟨[(0,.str s),(1,.pp a 0)],[],.dead,[]⟩ (.exit 0) ⟨[(0,.str s)],[],.dead,[]⟩:=pJ 145 [] 1 0 (.c h0 .nil) (.nil) c
theorem adY (s r:List UInt8) (a:List AV) (b:aG prog ap [] 22 (.block 0 (.loop (ac 0 (af f145)))) ⟨[(0,.str s),(1,.pp a 0),(4,.str []),(7,.dead),(15,.dead)],[],.dead,[]⟩ (.normal) ⟨[(0,.str r)],[],.dead,[]⟩):CO 145 [.str s,.pp a 0] (.ret (.str r)):=pK [0] 0 0 .nil (.l b .nil)
def Vq:List Bool:= [false,false,false,false,false,false,false,false,false,false,false,false,false,false,false,false,false,false,false,false,false,false,false,false,false,false,false,false,false,false,false,false,false,false,false,false,false,false,false,false,false,false,false,false,false,false,false,false,true,true,true,true,true,true,true,true,true,true,false,false,false,false,false,false,false,false,false,false,false,false,false,false,false,false,false,false,false,false,false,false,false,false,false,false,false,false,false,false,false,false,false,false,false,false,false,true,false,true,true,true,true,true,true,true,true,true,true,true,true,true,true,true,true,true,true,true,true,true,true,true,true,true,true,false,false,false,false,false,false,false,false,false,false,false,false,false,false,false,false,false,false,false,false,false,false,false,false,false,false,false,false,false,false,false,false,false,false,false,false,false,false,false,false,false,false,false,false,false,false,false,false,false,false,false,false,false,false,false,false,false,false,false,false,false,false,false,false,false,false,false,false,false,false,false,false,false,false,false,false,false,false,false,false,false,false,false,false,false,false,false,false,false,false,false,false,false,false,false,false,false,false,false,false,false,false,false,false,false,false,false,false,false,false,false,false,false,false,false,false,false,false,false,false,false,false,false,false,false,false,false,false,false,false,false,false,false]
theorem Vr:Cy=Vq.map AV.bool:=rfl
def inN (c:Nat):Bool:=(decide (97≤c) && decide (c≤122))||(decide (48≤c) && decide (c≤57))||decide (c=95)
def fJ (c:UInt8):Bool:=inN c.toNat
theorem Qb:∀ i:Fin 256,Vq.getD i.val false=inN i.val:=by decide
theorem Mh (c:UInt8):CO 166 [.pp Cy 0,.int .u8 (c.toNat:Int)] (.ret (.bool (fJ c))):=by
 have b:c.toNat<256:=Xvt c;have e:Vq.length=256:=by decide
 have d:ζ (ε c.toNat Cy) .dead= .bool (fJ c):=by
  have a:=Qb ⟨c.toNat,b⟩;simp only at a;rw [Vr,← Xjz,Xxh (by omega),Xqc,Xjh];rw [ν,ξ (by omega)] at a;unfold fJ;rw [← a];rfl
 have h:=Zz Cy c.toNat;rw [av,Θ,Φ,d] at h;exact h rfl (by rw [cV];exact Yq0 (by omega)) (by rw [bq];exact Yq0 b)
def adi (s:List UInt8):St:=⟨[(0,.str s),(1,.pp Cy 0)],[],.dead,[]⟩
def UT (s:List UInt8):St:=⟨[(0,.str s)],[],.dead,[]⟩
theorem Tz {nt:Nat} (a:16≤nt):∀ (s:List UInt8),s.length<2^40→az prog ap [] nt (ac 0 (af f144)) (fun _=> .exit 0) adi UT s (s.dropWhile fJ):=by
 intro s
 induction s with
 |nil=>exact fun _=> .done (ajO a [] Cy true rfl)
 | cons c s ih=>
  intro f;simp only [μ] at f;rw [Xxv];have b:=Mh c;cases d:fJ c with
  |true=>
   rw [d] at b;refine .next ?_ (by simpa using ih (by omega))
   have h:=ajN a (c::s) Cy true;have e:ε 1 (ο (s.length+1) (c::s))=s:=by simp
   simp only [μ,Xjj] at h;simp (disch:=first|omega|(simp [aq,au]<;>omega)) only [cV,bf,Xwr,dw,Xjo,bq,bB,av,e] at h;apply h<;>first|exact True.intro|omega|assumption|exact rfl
  |false=>
   rw [d] at b;refine .done ?_;have h:=ajM a (c::s) Cy false;simp only [μ,Xjj] at h;simp (disch:=first|omega|(simp [aq,au]<;>omega)) only [Xjo,bB,bq,bf] at h;apply h<;>first|exact True.intro|omega|assumption|exact rfl
def Pj (s:List UInt8):List UInt8:=(s.reverse.dropWhile fJ).reverse
theorem Pk (s:List UInt8) (c:UInt8):Pj (s++ [c])=if fJ c=true then Pj s else s++ [c]:=by
 unfold Pj;rw [List.reverse_append];simp only [List.reverse_cons,List.reverse_nil,Xqd,Xxl,Xxv];by_cases h:fJ c=true
 ·simp [h]
 ·simp [h]
theorem TG {nt:Nat} (b:22≤nt):∀ (k:Nat) (s:List UInt8),s.length=k→k<2^40→az prog ap [] nt (ac 0 (af f145)) (fun _=> .exit 0) adi UT s (Pj s):=by
 intro k
 induction k with
 |zero=>
  intro s hs _;have:s= []:=Xx5 hs;subst this;exact .done (ajR b [] Cy true rfl)
 | succ k ih=>
  intro s hs j;rcases List.eq_nil_or_concat s with rfl|⟨s',c,rfl⟩
  ·simp at hs
  ·rw [List.concat_eq_append] at hs ⊢;have d:s'.length=k:=by simpa using hs
   rw [Pk];have f:=Mh c;have g:(s'++ [c]).getD s'.length 0=c:=by simp
   have e:s'.length+1 - 1=s'.length:=rfl;have a:ο s'.length (s'++ [c])=s':=by simp
   cases i:fJ c with
   |true=>
    rw [i] at f;rw [if_pos rfl];refine .next ?_ (ih s' d (by omega))
    have h:=ajQ b (s'++ [c]) Cy true;simp (disch:=first|omega|(simp [aq,au]<;>omega)) only [κ,μ,χ,Θ,gP,e,cV,bf,Xwr,dw,Xjo,bq,bB,av,g,a,Xjq] at h;apply h<;>first|exact True.intro|omega|assumption|exact rfl
   |false=>
    rw [i] at f;rw [if_neg (by simp)];refine .done ?_;have h:=ajP b (s'++ [c]) Cy false;simp (disch:=first|omega|(simp [aq,au]<;>omega)) only [Xjo,bB,κ,μ,χ,Θ,gP,e,cV,bf,bq,av,g] at h;apply h<;>first|exact True.intro|omega|assumption|exact rfl
theorem TH (s u v:List UInt8) (h0:lit true (s== [])=true):CO 117 [.str s,.str JR] (.ret (.str s)):=pK [] 2 3 (.k 1 h0 .nil) (.nil)
theorem TJ (s u v:List UInt8) (h0:lit false (s== [])=true) (b:CO 143 [.str JR] (.ret (.tup [.agg Cy,.bool true]))) (a:CO 145 [.str s,.pp Cy 0] (.ret (.str u))) (c:CO 144 [.str u,.pp Cy 0] (.ret (.str v))):CO 117 [.str s,.str JR] (.ret (.str v)):=pK [] 5 16 (.k 5 h0 .nil) (.c c (.c a (.c b .nil)))
theorem RX (s v:List UInt8) (h0:lit true (s== [])=true):CO 86 [.str s] (.ret (.bool false)):=pK [] 4 15 (.k 3 h0 .nil) (.nil)
theorem RY (s v:List UInt8) (h0:lit true (decide (((20:Nat):Int)<(((η s):Nat):Int)))=true) (a:lit false (s== [])=true):CO 86 [.str s] (.ret (.bool false)):=pK [] 4 14 (.k 2 h0 (.c a .nil)) (.nil)
theorem RZ (s v:List UInt8) (h0:lit true (decide (((Xxj (Xx6 s 0 0):Nat):Int)<((97:Nat):Int)))=true) (a:(decide (((0:Nat):Int)<(((η s):Nat):Int)))=true) (c:lit false (decide (((20:Nat):Int)<(((η s):Nat):Int)))=true) (b:lit false (s== [])=true):CO 86 [.str s] (.ret (.bool false)):=pK [] 4 12 (.k 1 h0 (.k 1 a (.c c (.c b .nil)))) (.nil)
theorem R1 (s v:List UInt8) (h0:lit true (decide (((122:Nat):Int)<((Xxj (Xx6 s 0 0):Nat):Int)))=true) (a:(decide (((0:Nat):Int)<(((η s):Nat):Int)))=true) (d:lit false (decide (((Xxj (Xx6 s 0 0):Nat):Int)<((97:Nat):Int)))=true) (b:lit false (decide (((20:Nat):Int)<(((η s):Nat):Int)))=true) (c:lit false (s== [])=true):CO 86 [.str s] (.ret (.bool false)):=pK [] 4 8 (.c h0 (.k 1 a (.c d (.k 1 a (.c b (.c c .nil)))))) (.nil)
theorem R2 (s v:List UInt8) (h0:lit false (decide (((122:Nat):Int)<((Xxj (Xx6 s 0 0):Nat):Int)))=true) (a:(decide (((0:Nat):Int)<(((η s):Nat):Int)))=true) (e:lit false (decide (((Xxj (Xx6 s 0 0):Nat):Int)<((97:Nat):Int)))=true) (b:lit false (decide (((20:Nat):Int)<(((η s):Nat):Int)))=true) (d:lit false (s== [])=true) (c:CO 117 [.str s,.str JR] (.ret (.str v))):CO 86 [.str s] (.ret (.bool (v== []))):=pK [] 4 0 (.c h0 (.k 1 a (.c e (.k 1 a (.c b (.c d .nil)))))) (.c c .nil)
def rz (s:List UInt8):Bool:= !(s== []) && decide (s.length≤20) && decide (97≤(s.getD 0 0).toNat) && decide ((s.getD 0 0).toNat≤122) && s.all fJ
theorem CP {p:UInt8→Bool}:∀ {l:List UInt8},l.dropWhile p= []↔∀ x ∈ l,p x=true
 | []=>by simp
 |c::l=>by
  rw [Xxv];cases h:p c with
  |true=>simp [h,CP (l:=l)]
  |false=>simp [h]
theorem Pp {s:List UInt8}:(Pj s).dropWhile fJ= []↔s.all fJ=true:=by
 unfold Pj;rw [Xzg];constructor
 ·intro h;have c:∀ x ∈ (s.reverse.dropWhile fJ),fJ x=true:=by
   intro x a;exact CP.1 h x (by simpa using a)
  have f:s.reverse.dropWhile fJ= []:=by
   cases hd:s.reverse.dropWhile fJ with
   |nil=>rfl
   | cons y r=>
    exfalso;have b:=c y (by rw [hd];simp);have e:∀ (l:List UInt8),l.dropWhile fJ=y::r→fJ y=false:=by
     intro l
     induction l with
     |nil=>intro h;simp at h
     | cons z l ih=>
      intro h;rw [Xxv] at h;split at h
      ·exact ih h
      ·rename_i d;cases h;simpa using d
    rw [e _ hd] at b;cases b
  intro x a;exact CP.1 f x (by simpa using a)
 ·intro h;have:s.reverse.dropWhile fJ= []:=CP.2 fun x a=>h x (by simpa using a)
  rw [this];rfl
theorem Yv (s:List UInt8) (hs:s.length<2^40):CO 144 [.str s,.pp Cy 0] (.ret (.str (s.dropWhile fJ))):=
 adV s _ Cy (az.blk (fun nt a=>Tz a s hs) (by simp) rfl (aJ.of ⟨rfl,rfl,trivial⟩) (aJ.of ⟨rfl,trivial⟩))
theorem Yw (s:List UInt8) (hs:s.length<2^40):CO 145 [.str s,.pp Cy 0] (.ret (.str (Pj s))):=
 adY s _ Cy (az.blk (fun nt a=>TG a _ s rfl hs) (by simp) rfl (aJ.of ⟨rfl,rfl,trivial⟩) (aJ.of ⟨rfl,trivial⟩))
theorem TF (s:List UInt8):(Pj s).length≤s.length:=by
 unfold Pj;rw [List.length_reverse];have:=(List.dropWhile_sublist fJ (l:=s.reverse)).length_le;simpa using this
theorem TK (s:List UInt8) (hs:s.length<2^40):CO 117 [.str s,.str JR] (.ret (.str ((Pj s).dropWhile fJ))):=by
 by_cases h:s= []
 ·subst h;exact TH [] [] [] rfl
 ·have a:=TF s;exact TJ s _ _ (by simp [lit,h]) Vs (Yw s hs) (Yv _ (by omega))
theorem jc (s:List UInt8):CO 86 [.str s] (.ret (.bool (rz s))):=by
 unfold rz;by_cases h0:s= []
 ·subst h0;exact RX [] [] rfl
 ·have a:(s== [])=false:=by simpa using h0
  have c:0<s.length:=by cases s with|nil=>exact absurd rfl h0|cons _ _=>simp
  rw [a];by_cases h1:s.length≤20
  ·have b:lit false (decide (((20:Nat):Int)<(s.length:Int)))=true:=by rw [bq];simp [lit,h1]
   have cl:decide (((0:Nat):Int)<(s.length:Int))=true:=by rw [bq];exact Yq0 c
   rw [Yq0 h1];by_cases h2:97≤(s.getD 0 0).toNat
   ·rw [Yq0 h2];have d:lit false (decide (((s.getD 0 0).toNat:Int)<((97:Nat):Int)))=true:=by rw [bq];simp only [lit,Xqq];exact Yq1 (by omega)
    by_cases h3:(s.getD 0 0).toNat≤122
    ·rw [Yq0 h3];have f:lit false (decide (((122:Nat):Int)<((s.getD 0 0).toNat:Int)))=true:=by rw [bq];simp only [lit,Xqq];exact Yq1 (by omega)
     have h:=R2 s _ f cl d b (by rw [a];rfl) (TK s (by omega));have e:((Pj s).dropWhile fJ== [])=s.all fJ:=by
      rw [Xjk,← Pp];simp
     rw [e] at h;exact h
    ·rw [Yq1 h3];exact R1 s [] (by rw [bq];exact Yq0 (by omega)) cl d b (by rw [a];rfl)
   ·rw [Yq1 h2];exact RZ s [] (by rw [bq];exact Yq0 (by omega)) cl b (by rw [a];rfl)
  ·rw [Yq1 h1];exact RY s [] (by rw [bq];exact Yq0 (by omega)) (by rw [a];rfl)
def gG:List AV:= [.str [],ω 0,.bool false,.bool false,.bool false,.str [36],ω 0,.bool true,.bool false,.bool false,.str [],ω 0,.bool true,.bool false,.bool false,.str [],ω 0,.bool true,.bool false,.bool false,.str [],ω 0,.bool true,.bool false,.bool false,.str [102,97,99,116,46],ω 0,.bool false,.bool true,.bool false,.str [111,119,110,46],ω 0,.bool false,.bool true,.bool false,.str [112,114,105,111,114,46],ω 0,.bool false,.bool true,.bool false,.str [115,112,111,117,115,101,46],ω 0,.bool false,.bool true,.bool false,.str [97,100,100],ω 2,.bool false,.bool false,.bool false,.str [115,117,98],ω 2,.bool false,.bool false,.bool false,.str [109,117,108],ω 2,.bool false,.bool false,.bool false,.str [100,105,118],ω 2,.bool false,.bool false,.bool false,.str [109,105,110],ω 2,.bool false,.bool false,.bool false,.str [109,97,120],ω 2,.bool false,.bool false,.bool false,.str [105,102],ω 3,.bool false,.bool false,.bool false,.str [108,101,115,115],ω 2,.bool false,.bool false,.bool false,.str [101,113,117,97,108],ω 2,.bool false,.bool false,.bool false,.str [97,110,100],ω 2,.bool false,.bool false,.bool false,.str [111,114],ω 2,.bool false,.bool false,.bool false,.str [110,111,116],ω 1,.bool false,.bool false,.bool false,.str [100,111,119,110],ω 1,.bool false,.bool false,.bool true,.str [117,112],ω 1,.bool false,.bool false,.bool true,.str [110,101,97,114],ω 1,.bool false,.bool false,.bool true,.str [114,97,116,101,46],ω 1,.bool false,.bool true,.bool false]
theorem abL (a:Int) (h0:lit true (decide (a<((1:Nat):Int)))=true):CO 82 [ω a] (.ret (.tup [.agg zcc2_1,.bool false])):=pK [] 2 3 (.k 7 h0 .nil) (.nil)
theorem abM (a:Int) (h0:lit true (decide (((24:Nat):Int)<a))=true) (b:lit false (decide (a<((1:Nat):Int)))=true):CO 82 [ω a] (.ret (.tup [.agg zcc2_1,.bool false])):=pK [] 2 2 (.k 6 h0 (.c b .nil)) (.nil)
theorem abN (a:Int) (h0:(chk .str (ζ (ε (0+((δ a)*5)) gG) .dead))=true) (b:(chk (.int .i64) (ζ (Xjt (ε (0+((δ a)*5)) gG)) .dead))=true) (e:(chk .bool (ζ (Xjt (Xjt (ε (0+((δ a)*5)) gG))) .dead))=true) (d:(chk .bool (ζ (Xjt (Xjt (Xjt (ε (0+((δ a)*5)) gG)))) .dead))=true) (f:(chk .bool (ζ (Xjt (Xjt (Xjt (Xjt (ε (0+((δ a)*5)) gG))))) .dead))=true) (g:(decide (((0:Nat):Int)≤a))=true) (c:(decide (a<((25:Nat):Int)))=true) (h:lit false (decide (((24:Nat):Int)<a))=true) (i:lit false (decide (a<((1:Nat):Int)))=true):CO 82 [ω a] (.ret (.tup [.agg [.str (Yqn (ζ (ε (0+((δ a)*5)) gG) .dead)),ω (Γ (ζ (Xjt (ε (0+((δ a)*5)) gG)) .dead)),.bool (Xkj (ζ (Xjt (Xjt (ε (0+((δ a)*5)) gG))) .dead)),.bool (Xkj (ζ (Xjt (Xjt (Xjt (ε (0+((δ a)*5)) gG)))) .dead)),.bool (Xkj (ζ (Xjt (Xjt (Xjt (Xjt (ε (0+((δ a)*5)) gG))))) .dead))],.bool true])):=pK [] 2 0 (.k 6 h0 (.c b (.c e (.c d (.c f (.c g (.c c (.c h (.c i .nil))))))))) (.nil)
theorem Vg (a:Int) (h0:lit true (a==((15:Nat):Int))=true):CO 30 [ω a] (.ret (ω 3)):=pK [] 1 1 (.c h0 .nil) (.nil)
theorem Vh (a:Int) (h0:lit true (decide (a≤((14:Nat):Int)))=true) (b:lit true (decide (((9:Nat):Int)≤a))=true) (c:lit false (a==((15:Nat):Int))=true):CO 30 [ω a] (.ret (ω 2)):=pK [] 4 14 (.k 1 h0 (.c b (.c c .nil))) (.nil)
theorem Vi (a:Int) (h0:lit true (decide (a≤((19:Nat):Int)))=true) (b:lit true (decide (((16:Nat):Int)≤a))=true) (d:lit false (decide (a≤((14:Nat):Int)))=true) (c:lit true (decide (((9:Nat):Int)≤a))=true) (e:lit false (a==((15:Nat):Int))=true):CO 30 [ω a] (.ret (ω 2)):=pK [] 5 26 (.c h0 (.c b (.c d (.c c (.c e .nil))))) (.nil)
theorem Vj (a:Int) (h0:lit true (decide (a≤((24:Nat):Int)))=true) (b:lit true (decide (((20:Nat):Int)≤a))=true) (e:lit false (decide (a≤((19:Nat):Int)))=true) (d:lit true (decide (((16:Nat):Int)≤a))=true) (f:lit false (decide (a≤((14:Nat):Int)))=true) (g:lit true (decide (((9:Nat):Int)≤a))=true) (c:lit false (a==((15:Nat):Int))=true):CO 30 [ω a] (.ret (ω 1)):=pK [] 7 106 (.c h0 (.c b (.c e (.c d (.c f (.c g (.c c .nil))))))) (.nil)
theorem Vk (a:Int) (h0:lit false (decide (a≤((24:Nat):Int)))=true) (b:lit true (decide (((20:Nat):Int)≤a))=true) (e:lit false (decide (a≤((19:Nat):Int)))=true) (d:lit true (decide (((16:Nat):Int)≤a))=true) (f:lit false (decide (a≤((14:Nat):Int)))=true) (g:lit true (decide (((9:Nat):Int)≤a))=true) (c:lit false (a==((15:Nat):Int))=true):CO 30 [ω a] (.ret (ω 0)):=pK [] 7 42 (.c h0 (.c b (.c e (.c d (.c f (.c g (.c c .nil))))))) (.nil)
theorem Vl (a:Int) (h0:lit false (decide (((20:Nat):Int)≤a))=true) (b:lit false (decide (a≤((19:Nat):Int)))=true) (d:lit true (decide (((16:Nat):Int)≤a))=true) (c:lit false (decide (a≤((14:Nat):Int)))=true) (e:lit true (decide (((9:Nat):Int)≤a))=true) (f:lit false (a==((15:Nat):Int))=true):CO 30 [ω a] (.ret (ω 0)):=pK [] 7 10 (.k 1 h0 (.c b (.c d (.c c (.c e (.c f .nil)))))) (.nil)
theorem Vm (a:Int) (h0:lit true (decide (a≤((24:Nat):Int)))=true) (b:lit true (decide (((20:Nat):Int)≤a))=true) (d:lit false (decide (((16:Nat):Int)≤a))=true) (c:lit false (decide (a≤((14:Nat):Int)))=true) (e:lit true (decide (((9:Nat):Int)≤a))=true) (f:lit false (a==((15:Nat):Int))=true):CO 30 [ω a] (.ret (ω 1)):=pK [] 7 98 (.c h0 (.c b (.k 1 d (.c c (.c e (.c f .nil)))))) (.nil)
theorem Vn (a:Int) (h0:lit false (decide (a≤((24:Nat):Int)))=true) (b:lit true (decide (((20:Nat):Int)≤a))=true) (d:lit false (decide (((16:Nat):Int)≤a))=true) (c:lit false (decide (a≤((14:Nat):Int)))=true) (e:lit true (decide (((9:Nat):Int)≤a))=true) (f:lit false (a==((15:Nat):Int))=true):CO 30 [ω a] (.ret (ω 0)):=pK [] 7 34 (.c h0 (.c b (.k 1 d (.c c (.c e (.c f .nil)))))) (.nil)
theorem Vo (a:Int) (h0:lit false (decide (((20:Nat):Int)≤a))=true) (b:lit false (decide (((16:Nat):Int)≤a))=true) (d:lit false (decide (a≤((14:Nat):Int)))=true) (c:lit true (decide (((9:Nat):Int)≤a))=true) (e:lit false (a==((15:Nat):Int))=true):CO 30 [ω a] (.ret (ω 0)):=pK [] 7 2 (.k 1 h0 (.k 1 b (.c d (.c c (.c e .nil))))) (.nil)
theorem Vp (a:Int) (h0:lit true (decide (a≤((19:Nat):Int)))=true) (b:lit true (decide (((16:Nat):Int)≤a))=true) (d:lit false (decide (((9:Nat):Int)≤a))=true) (c:lit false (a==((15:Nat):Int))=true):CO 30 [ω a] (.ret (ω 2)):=pK [] 5 24 (.c h0 (.c b (.k 1 d (.c c .nil)))) (.nil)
theorem P5 (a:Int) (h0:lit true (decide (a≤((24:Nat):Int)))=true) (b:lit true (decide (((20:Nat):Int)≤a))=true) (d:lit false (decide (a≤((19:Nat):Int)))=true) (c:lit true (decide (((16:Nat):Int)≤a))=true) (e:lit false (decide (((9:Nat):Int)≤a))=true) (f:lit false (a==((15:Nat):Int))=true):CO 30 [ω a] (.ret (ω 1)):=pK [] 7 104 (.c h0 (.c b (.c d (.c c (.k 1 e (.c f .nil)))))) (.nil)
theorem P6 (a:Int) (h0:lit false (decide (a≤((24:Nat):Int)))=true) (b:lit true (decide (((20:Nat):Int)≤a))=true) (d:lit false (decide (a≤((19:Nat):Int)))=true) (c:lit true (decide (((16:Nat):Int)≤a))=true) (e:lit false (decide (((9:Nat):Int)≤a))=true) (f:lit false (a==((15:Nat):Int))=true):CO 30 [ω a] (.ret (ω 0)):=pK [] 7 40 (.c h0 (.c b (.c d (.c c (.k 1 e (.c f .nil)))))) (.nil)
theorem P7 (a:Int) (h0:lit false (decide (((20:Nat):Int)≤a))=true) (b:lit false (decide (a≤((19:Nat):Int)))=true) (d:lit true (decide (((16:Nat):Int)≤a))=true) (c:lit false (decide (((9:Nat):Int)≤a))=true) (e:lit false (a==((15:Nat):Int))=true):CO 30 [ω a] (.ret (ω 0)):=pK [] 7 8 (.k 1 h0 (.c b (.c d (.k 1 c (.c e .nil))))) (.nil)
theorem P8 (a:Int) (h0:lit true (decide (a≤((24:Nat):Int)))=true) (b:lit true (decide (((20:Nat):Int)≤a))=true) (d:lit false (decide (((16:Nat):Int)≤a))=true) (c:lit false (decide (((9:Nat):Int)≤a))=true) (e:lit false (a==((15:Nat):Int))=true):CO 30 [ω a] (.ret (ω 1)):=pK [] 7 96 (.c h0 (.c b (.k 1 d (.k 1 c (.c e .nil))))) (.nil)
theorem P9 (a:Int) (h0:lit false (decide (a≤((24:Nat):Int)))=true) (b:lit true (decide (((20:Nat):Int)≤a))=true) (d:lit false (decide (((16:Nat):Int)≤a))=true) (c:lit false (decide (((9:Nat):Int)≤a))=true) (e:lit false (a==((15:Nat):Int))=true):CO 30 [ω a] (.ret (ω 0)):=pK [] 7 32 (.c h0 (.c b (.k 1 d (.k 1 c (.c e .nil))))) (.nil)
theorem P_ (a:Int) (h0:lit false (decide (((20:Nat):Int)≤a))=true) (b:lit false (decide (((16:Nat):Int)≤a))=true) (d:lit false (decide (((9:Nat):Int)≤a))=true) (c:lit false (a==((15:Nat):Int))=true):CO 30 [ω a] (.ret (ω 0)):=pK [] 7 0 (.k 1 h0 (.k 1 b (.k 1 d (.c c .nil)))) (.nil)
theorem Xb (a:Int) (h0:lit true (decide (a≤((8:Nat):Int)))=true) (b:lit true (decide (((5:Nat):Int)≤a))=true):CO 32 [ω a] (.ret (.bool true)):=pK [] 2 3 (.c h0 (.c b .nil)) (.nil)
theorem Xc (a:Int) (h0:lit false (decide (a≤((8:Nat):Int)))=true) (b:lit true (decide (((5:Nat):Int)≤a))=true):CO 32 [ω a] (.ret (.bool (a==((24:Nat):Int)))):=pK [] 2 1 (.c h0 (.c b .nil)) (.nil)
theorem Xd (a:Int) (h0:lit false (decide (((5:Nat):Int)≤a))=true):CO 32 [ω a] (.ret (.bool (a==((24:Nat):Int)))):=pK [] 2 0 (.k 1 h0 .nil) (.nil)
theorem Yc (a:Int) (h0:lit true (decide (((21:Nat):Int)≤a))=true):CO 34 [ω a] (.ret (.bool (decide (a≤((23:Nat):Int))))):=pK [] 1 1 (.c h0 .nil) (.nil)
theorem Yd (a:Int) (h0:lit false (decide (((21:Nat):Int)≤a))=true):CO 34 [ω a] (.ret (.bool false)):=pK [] 1 0 (.c h0 .nil) (.nil)
def cT (op:Int):Nat:=if op=15 then 3 else if (9≤op∧op≤14)∨(16≤op∧op≤19) then 2 else if 20≤op∧op≤24 then 1 else 0
def iY (op:Int):Bool:=decide ((5≤op∧op≤8)∨op=24)
def wJ (op:Int):Bool:=decide (1≤op∧op≤4)
def lX (op:Int):Bool:=decide (21≤op∧op≤23)
def Px (op:Int):List UInt8:=Yqn (ζ (ε (0+((δ op)*5)) gG) .dead)
theorem Qa (a:Int):CO 30 [ω a] (.ret (ω ((cT a:Nat):Int))):=by
 cases c:(a==((15:Nat):Int)) with
 | true=>
  have h:=Vg a (by rw [c];rfl);have e:cT a=3:=by
   clear h;simp only [decide_eq_true_eq,decide_eq_false_iff_not,beq_iff_eq,Yq2] at*
   unfold cT;(repeat' split)<;>omega
  rw [e];exact h
 | false =>
  cases g:(decide (((9:Nat):Int)≤a)) with
  | true =>
   cases b:(decide (a≤((14:Nat):Int))) with
   | true=>
    have h:=Vh a (by rw [b];rfl) (by rw [g];rfl) (by rw [c];rfl);have e:cT a=2:=by
     clear h;simp only [decide_eq_true_eq,decide_eq_false_iff_not,beq_iff_eq,Yq2] at*
     unfold cT;(repeat' split)<;>omega
    rw [e];exact h
   | false=>
    cases d:(decide (((16:Nat):Int)≤a)) with
    | true=>
     cases f:(decide (a≤((19:Nat):Int))) with
     | true=>
      have h:=Vi a (by rw [f];rfl) (by rw [d];rfl) (by rw [b];rfl) (by rw [g];rfl) (by rw [c];rfl);have e:cT a=2:=by
       clear h;simp only [decide_eq_true_eq,decide_eq_false_iff_not,beq_iff_eq,Yq2] at*
       unfold cT;(repeat' split)<;>omega
      rw [e];exact h
     | false=>
      cases i:(decide (((20:Nat):Int)≤a)) with
      | true=>
       cases j:(decide (a≤((24:Nat):Int))) with
       | true=>
        have h:=Vj a (by rw [j];rfl) (by rw [i];rfl) (by rw [f];rfl) (by rw [d];rfl) (by rw [b];rfl) (by rw [g];rfl) (by rw [c];rfl);have e:cT a=1:=by
         clear h;simp only [decide_eq_true_eq,decide_eq_false_iff_not,beq_iff_eq,Yq2] at*
         unfold cT;(repeat' split)<;>omega
        rw [e];exact h
       | false=>
        have h:=Vk a (by rw [j];rfl) (by rw [i];rfl) (by rw [f];rfl) (by rw [d];rfl) (by rw [b];rfl) (by rw [g];rfl) (by rw [c];rfl);have e:cT a=0:=by
         clear h;simp only [decide_eq_true_eq,decide_eq_false_iff_not,beq_iff_eq,Yq2] at*
         unfold cT;(repeat' split)<;>omega
        rw [e];exact h
      | false=>
       have h:=Vl a (by rw [i];rfl) (by rw [f];rfl) (by rw [d];rfl) (by rw [b];rfl) (by rw [g];rfl) (by rw [c];rfl);have e:cT a=0:=by
        clear h;simp only [decide_eq_true_eq,decide_eq_false_iff_not,beq_iff_eq,Yq2] at*
        unfold cT;(repeat' split)<;>omega
       rw [e];exact h
    | false=>
     cases f:(decide (((20:Nat):Int)≤a)) with
     | true=>
      cases i:(decide (a≤((24:Nat):Int))) with
      | true=>
       have h:=Vm a (by rw [i];rfl) (by rw [f];rfl) (by rw [d];rfl) (by rw [b];rfl) (by rw [g];rfl) (by rw [c];rfl);have e:cT a=1:=by
        clear h;simp only [decide_eq_true_eq,decide_eq_false_iff_not,beq_iff_eq,Yq2] at*
        unfold cT;(repeat' split)<;>omega
       rw [e];exact h
      | false=>
       have h:=Vn a (by rw [i];rfl) (by rw [f];rfl) (by rw [d];rfl) (by rw [b];rfl) (by rw [g];rfl) (by rw [c];rfl);have e:cT a=0:=by
        clear h;simp only [decide_eq_true_eq,decide_eq_false_iff_not,beq_iff_eq,Yq2] at*
        unfold cT;(repeat' split)<;>omega
       rw [e];exact h
     | false=>
      have h:=Vo a (by rw [f];rfl) (by rw [d];rfl) (by rw [b];rfl) (by rw [g];rfl) (by rw [c];rfl);have e:cT a=0:=by
       clear h;simp only [decide_eq_true_eq,decide_eq_false_iff_not,beq_iff_eq,Yq2] at*
       unfold cT;(repeat' split)<;>omega
      rw [e];exact h
  | false=>
   cases b:(decide (((16:Nat):Int)≤a)) with
   | true=>
    cases d:(decide (a≤((19:Nat):Int))) with
    | true=>
     have h:=Vp a (by rw [d];rfl) (by rw [b];rfl) (by rw [g];rfl) (by rw [c];rfl);have e:cT a=2:=by
      clear h;simp only [decide_eq_true_eq,decide_eq_false_iff_not,beq_iff_eq,Yq2] at*
      unfold cT;(repeat' split)<;>omega
     rw [e];exact h
    | false=>
     cases f:(decide (((20:Nat):Int)≤a)) with
     | true=>
      cases i:(decide (a≤((24:Nat):Int))) with
      | true=>
       have h:=P5 a (by rw [i];rfl) (by rw [f];rfl) (by rw [d];rfl) (by rw [b];rfl) (by rw [g];rfl) (by rw [c];rfl);have e:cT a=1:=by
        clear h;simp only [decide_eq_true_eq,decide_eq_false_iff_not,beq_iff_eq,Yq2] at*
        unfold cT;(repeat' split)<;>omega
       rw [e];exact h
      | false=>
       have h:=P6 a (by rw [i];rfl) (by rw [f];rfl) (by rw [d];rfl) (by rw [b];rfl) (by rw [g];rfl) (by rw [c];rfl);have e:cT a=0:=by
        clear h;simp only [decide_eq_true_eq,decide_eq_false_iff_not,beq_iff_eq,Yq2] at*
        unfold cT;(repeat' split)<;>omega
       rw [e];exact h
     | false=>
      have h:=P7 a (by rw [f];rfl) (by rw [d];rfl) (by rw [b];rfl) (by rw [g];rfl) (by rw [c];rfl);have e:cT a=0:=by
       clear h;simp only [decide_eq_true_eq,decide_eq_false_iff_not,beq_iff_eq,Yq2] at*
       unfold cT;(repeat' split)<;>omega
      rw [e];exact h
   | false=>
    cases d:(decide (((20:Nat):Int)≤a)) with
    | true=>
     cases f:(decide (a≤((24:Nat):Int))) with
     | true=>
      have h:=P8 a (by rw [f];rfl) (by rw [d];rfl) (by rw [b];rfl) (by rw [g];rfl) (by rw [c];rfl);have e:cT a=1:=by
       clear h;simp only [decide_eq_true_eq,decide_eq_false_iff_not,beq_iff_eq,Yq2] at*
       unfold cT;(repeat' split)<;>omega
      rw [e];exact h
     | false=>
      have h:=P9 a (by rw [f];rfl) (by rw [d];rfl) (by rw [b];rfl) (by rw [g];rfl) (by rw [c];rfl);have e:cT a=0:=by
       clear h;simp only [decide_eq_true_eq,decide_eq_false_iff_not,beq_iff_eq,Yq2] at*
       unfold cT;(repeat' split)<;>omega
      rw [e];exact h
    | false=>
     have h:=P_ a (by rw [d];rfl) (by rw [b];rfl) (by rw [g];rfl) (by rw [c];rfl);have e:cT a=0:=by
      clear h;simp only [decide_eq_true_eq,decide_eq_false_iff_not,beq_iff_eq,Yq2] at*
      unfold cT;(repeat' split)<;>omega
     rw [e];exact h
theorem IW (a:Int):CO 32 [ω a] (.ret (.bool (iY a))):=by
 cases b:(decide (((5:Nat):Int)≤a)) with
 | true=>
  cases c:(decide (a≤((8:Nat):Int))) with
  | true=>
   have h:=Xb a (by rw [c];rfl) (by rw [b];rfl);have e:iY a=true:=by
    clear h;simp only [decide_eq_true_eq,decide_eq_false_iff_not,beq_iff_eq,Yq2] at*
    unfold iY;first|(rw [decide_eq_true_eq];omega)|(rw [Xjk];simp only [decide_eq_true_eq,beq_iff_eq];omega)
   rw [e];exact h
  | false=>
   have h:=Xc a (by rw [c];rfl) (by rw [b];rfl);have e:iY a=(a==((24:Nat):Int)):=by
    clear h;simp only [decide_eq_true_eq,decide_eq_false_iff_not,beq_iff_eq,Yq2] at*
    unfold iY;first|(rw [decide_eq_true_eq];omega)|(rw [Xjk];simp only [decide_eq_true_eq,beq_iff_eq];omega)
   rw [e];exact h
 | false=>
  have h:=Xd a (by rw [b];rfl);have e:iY a=(a==((24:Nat):Int)):=by
   clear h;simp only [decide_eq_true_eq,decide_eq_false_iff_not,beq_iff_eq,Yq2] at*
   unfold iY;first|(rw [decide_eq_true_eq];omega)|(rw [Xjk];simp only [decide_eq_true_eq,beq_iff_eq];omega)
  rw [e];exact h
theorem Tm (a:Int):CO 34 [ω a] (.ret (.bool (lX a))):=by
 cases b:(decide (((21:Nat):Int)≤a)) with
 | true=>
  have h:=Yc a (by rw [b];rfl);have e:lX a=(decide (a≤((23:Nat):Int))):=by
   clear h;simp only [decide_eq_true_eq,decide_eq_false_iff_not,beq_iff_eq,Yq2] at*
   unfold lX;first|(rw [decide_eq_false_iff_not];omega)|(rw [Xjk];simp only [decide_eq_true_eq,beq_iff_eq];omega)
  rw [e];exact h
 | false=>
  have h:=Yd a (by rw [b];rfl);have e:lX a=false:=by
   clear h;simp only [decide_eq_true_eq,decide_eq_false_iff_not,beq_iff_eq,Yq2] at*
   unfold lX;first|(rw [decide_eq_false_iff_not];omega)|(rw [Xjk];simp only [decide_eq_true_eq,beq_iff_eq];omega)
  rw [e];exact h
theorem Fe {a:Int} (h:1≤a) (b:a≤24):a=1∨a=2∨a=3∨a=4∨a=5∨a=6∨a=7∨a=8∨a=9∨a=10∨a=11∨a=12∨a=13∨a=14∨a=15∨a=16∨a=17∨a=18∨a=19∨a=20∨a=21∨a=22∨a=23∨a=24:=by omega
abbrev shA (op:Int):AV:= .agg [.str (Px op),ω ((cT op:Nat):Int),.bool (wJ op),.bool (iY op),.bool (lX op)]
theorem abR {a:Int} (h:1≤a) (b:a≤24):CO 82 [ω a] (.ret (.tup [shA a,.bool true])):=by
 rcases Fe h b with rfl|rfl|rfl|rfl|rfl|rfl|rfl|rfl|rfl|rfl|rfl|rfl|rfl|rfl|rfl|rfl|rfl|rfl|rfl|rfl|rfl|rfl|rfl|rfl
 all_goals exact abN _ rfl rfl rfl rfl rfl rfl rfl rfl rfl
theorem Xl {a:Int} (h:a<1∨24<a):CO 82 [ω a] (.ret (.tup [.agg zcc2_1,.bool false])):=by
 by_cases h1:a<1
 ·exact abL a (by simp [lit];omega)
 ·exact abM a (by simp [lit];omega) (by simp [lit];omega)
theorem HK {a:Int} (h:1≤a) (b:a≤24):ζ (ε (a.toNat*5+1) gG) .dead= ω ((cT a:Nat):Int):=by
 rcases Fe h b with rfl|rfl|rfl|rfl|rfl|rfl|rfl|rfl|rfl|rfl|rfl|rfl|rfl|rfl|rfl|rfl|rfl|rfl|rfl|rfl|rfl|rfl|rfl|rfl
 all_goals rfl
def Iz (op:Int):Bool:=decide (1≤op∧op≤24)
theorem bJ (a:Int):CO 82 [ω a] (.ret (.tup [shA a,.bool (Iz a)])):=by
 by_cases h:1≤a∧a≤24
 ·have e:Iz a=true:=Yq0 h;rw [e];exact abR h.1 h.2
 ·have e:Iz a=false:=Yq1 h;have c:cT a=0:=by unfold cT;(repeat' split)<;>omega
  have f:wJ a=false:=by unfold wJ;rw [decide_eq_false_iff_not];omega
  have g:iY a=false:=by unfold iY;rw [decide_eq_false_iff_not];omega
  have b:lX a=false:=by unfold lX;rw [decide_eq_false_iff_not];omega
  have d:Px a= []:=by
   unfold Px;by_cases h1:a<1
   ·have:a.toNat=0:=by omega
    rw [this];rfl
   ·have i:gG.length=125:=by decide
    rw [Xxy (by omega)];rfl
  unfold shA;rw [e,c,f,g,b,d];exact Xl (by omega)
structure Nd where
 op:Int
 neg:Bool
 num:List UInt8
 den:List UInt8
 name:List UInt8
def nJ (x:Nd):List AV:= [ω x.op,.bool x.neg,.str x.num,.str x.den,.str x.name]
def Nd.sm (x:Nd):Prop:=x.num.length<2^33∧x.den.length<2^33
def fo (x:Nd):Bool:=cond (x.op==((4:Nat):Int)) (sO x.neg x.num x.den 0||sO x.neg x.num x.den 1) (cond (wJ x.op) (dK x.neg x.num x.den) (cond (lX x.op) (dK x.neg x.num x.den && decide (((0:Nat):Int)<jK x.neg x.num x.den)) ((x.neg==false) && ((x.num== []) && ((x.den== []) && true)))))
def aH (x:Nd):Int:=cond (!Iz x.op||(!iY x.op && !(x.name== []))) 11 (cond (!fo x) 11 (cond (iY x.op && !rz x.name) 12 0))
theorem Py (x:Nd) (c:x.sm):CO 52 [.agg (nJ x)] (.ret (ω (aH x))):=by
 have a:x.num.length<2^36:=Xq6 c.1 (by decide);have b:x.den.length<2^36:=Xq6 c.2 (by decide);rcases tf (Iz x.op) with b0|b0
 ·rcases tf (iY x.op) with b1|b1
  ·rcases tf (x.op==((4:Nat):Int)) with b2|b2
   ·rcases tf ((x.neg==false) && ((x.num==(aa 0)) && ((x.den==(aa 1)) && true))) with b3|b3
    ·rcases tf (rz x.name) with b4|b4
     ·rw [show aH x=0 by simp only [aH,fo,sO,b0,b1,b2,b3,b4]<;>rfl];exact pK [] 8 88 (.c (aA b4) (.k 1 (aw b1) (.k 2 (aw b3) (.k 3 (aw b2) (.k 2 (aA b1) (.k 1 (aA b0) (.n 2 .nil))))))) (.c (jc x.name) (.c (gq) (.c (bJ x.op) .nil)))
     ·rw [show aH x=12 by simp only [aH,fo,sO,b0,b1,b2,b3,b4]<;>rfl];exact pK [] 8 216 (.c (bi b4) (.k 1 (aw b1) (.k 2 (aw b3) (.k 3 (aw b2) (.k 2 (aA b1) (.k 1 (aA b0) (.n 2 .nil))))))) (.c (jc x.name) (.c (gq) (.c (bJ x.op) .nil)))
    ·rcases tf ((x.neg==false) && ((x.num==(aa 1)) && ((x.den==(aa 1)) && true))) with b4|b4
     ·rcases tf (rz x.name) with b5|b5
      ·rw [show aH x=0 by simp only [aH,fo,sO,b0,b1,b2,b3,b4,b5]<;>rfl];exact pK [] 8 72 (.c (aA b5) (.k 1 (aw b1) (.k 1 (aA b4) (.k 3 (ay b3) (.k 3 (aw b2) (.k 2 (aA b1) (.k 1 (aA b0) (.n 2 .nil)))))))) (.c (jc x.name) (.c (pQ) (.c (gq) (.c (bJ x.op) .nil))))
      ·rw [show aH x=12 by simp only [aH,fo,sO,b0,b1,b2,b3,b4,b5]<;>rfl];exact pK [] 8 200 (.c (bi b5) (.k 1 (aw b1) (.k 1 (aA b4) (.k 3 (ay b3) (.k 3 (aw b2) (.k 2 (aA b1) (.k 1 (aA b0) (.n 2 .nil)))))))) (.c (jc x.name) (.c (pQ) (.c (gq) (.c (bJ x.op) .nil))))
     ·rw [show aH x=11 by simp only [aH,fo,sO,b0,b1,b2,b3,b4]<;>rfl];exact pK [] 6 40 (.c (bi b4) (.k 3 (ay b3) (.k 3 (aw b2) (.k 2 (aA b1) (.k 1 (aA b0) (.n 2 .nil)))))) (.c (pQ) (.c (gq) (.c (bJ x.op) .nil)))
   ·rcases tf (wJ x.op) with b3|b3
    ·rcases tf (dK x.neg x.num x.den) with b4|b4
     ·rcases tf (rz x.name) with b5|b5
      ·rw [show aH x=0 by simp only [aH,fo,sO,b0,b1,b2,b3,b4,b5]<;>rfl];exact pK [] 8 80 (.c (aA b5) (.k 1 (aw b1) (.k 1 (aA b4) (.k 3 (aw b3) (.k 1 (ay b2) (.k 2 (aA b1) (.k 1 (aA b0) (.n 2 .nil)))))))) (.c (jc x.name) (.c (ef x.neg x.num x.den a b) (.c (bJ x.op) .nil)))
      ·rw [show aH x=12 by simp only [aH,fo,sO,b0,b1,b2,b3,b4,b5]<;>rfl];exact pK [] 8 208 (.c (bi b5) (.k 1 (aw b1) (.k 1 (aA b4) (.k 3 (aw b3) (.k 1 (ay b2) (.k 2 (aA b1) (.k 1 (aA b0) (.n 2 .nil)))))))) (.c (jc x.name) (.c (ef x.neg x.num x.den a b) (.c (bJ x.op) .nil)))
     ·rw [show aH x=11 by simp only [aH,fo,sO,b0,b1,b2,b3,b4]<;>rfl];exact pK [] 6 48 (.c (bi b4) (.k 3 (aw b3) (.k 1 (ay b2) (.k 2 (aA b1) (.k 1 (aA b0) (.n 2 .nil)))))) (.c (ef x.neg x.num x.den a b) (.c (bJ x.op) .nil))
    ·rcases tf (lX x.op) with b4|b4
     ·rcases tf (dK x.neg x.num x.den) with b5|b5
      ·rcases tf (decide (((0:Nat):Int)<(jK x.neg x.num x.den))) with b6|b6
       ·rcases tf (rz x.name) with b7|b7
        ·rw [show aH x=0 by simp only [aH,fo,sO,b0,b1,b2,b3,b4,b5,b6,b7]<;>rfl];exact pK [] 10 352 (.c (aA b7) (.k 1 (aw b1) (.k 1 (aA b6) (.k 3 (aw b5) (.k 3 (aw b4) (.k 1 (ay b3) (.k 1 (ay b2) (.k 2 (aA b1) (.k 1 (aA b0) (.n 2 .nil)))))))))) (.c (jc x.name) (.c (gD x.neg x.num x.den a b) (.c (ef x.neg x.num x.den a b) (.c (bJ x.op) .nil))))
        ·rw [show aH x=12 by simp only [aH,fo,sO,b0,b1,b2,b3,b4,b5,b6,b7]<;>rfl];exact pK [] 10 864 (.c (bi b7) (.k 1 (aw b1) (.k 1 (aA b6) (.k 3 (aw b5) (.k 3 (aw b4) (.k 1 (ay b3) (.k 1 (ay b2) (.k 2 (aA b1) (.k 1 (aA b0) (.n 2 .nil)))))))))) (.c (jc x.name) (.c (gD x.neg x.num x.den a b) (.c (ef x.neg x.num x.den a b) (.c (bJ x.op) .nil))))
       ·rw [show aH x=11 by simp only [aH,fo,sO,b0,b1,b2,b3,b4,b5,b6]<;>rfl];exact pK [] 8 224 (.c (bi b6) (.k 3 (aw b5) (.k 3 (aw b4) (.k 1 (ay b3) (.k 1 (ay b2) (.k 2 (aA b1) (.k 1 (aA b0) (.n 2 .nil)))))))) (.c (gD x.neg x.num x.den a b) (.c (ef x.neg x.num x.den a b) (.c (bJ x.op) .nil)))
      ·rw [show aH x=11 by simp only [aH,fo,sO,b0,b1,b2,b3,b4,b5]<;>rfl];exact pK [] 8 160 (.k 1 (ay b5) (.k 3 (aw b4) (.k 1 (ay b3) (.k 1 (ay b2) (.k 2 (aA b1) (.k 1 (aA b0) (.n 2 .nil))))))) (.c (ef x.neg x.num x.den a b) (.c (bJ x.op) .nil))
     ·rcases tf ((x.neg==false) && ((x.num== []) && ((x.den== []) && true))) with b5|b5
      ·rcases tf (rz x.name) with b6|b6
       ·rw [show aH x=0 by simp only [aH,fo,sO,b0,b1,b2,b3,b4,b5,b6]<;>rfl];exact pK [] 9 128 (.c (aA b6) (.k 1 (aw b1) (.k 1 (aA b5) (.k 3 (ay b4) (.k 1 (ay b3) (.k 1 (ay b2) (.k 2 (aA b1) (.k 1 (aA b0) (.n 2 .nil))))))))) (.c (jc x.name) (.c (bJ x.op) .nil))
       ·rw [show aH x=12 by simp only [aH,fo,sO,b0,b1,b2,b3,b4,b5,b6]<;>rfl];exact pK [] 9 384 (.c (bi b6) (.k 1 (aw b1) (.k 1 (aA b5) (.k 3 (ay b4) (.k 1 (ay b3) (.k 1 (ay b2) (.k 2 (aA b1) (.k 1 (aA b0) (.n 2 .nil))))))))) (.c (jc x.name) (.c (bJ x.op) .nil))
      ·rw [show aH x=11 by simp only [aH,fo,sO,b0,b1,b2,b3,b4,b5]<;>rfl];exact pK [] 7 64 (.c (bi b5) (.k 3 (ay b4) (.k 1 (ay b3) (.k 1 (ay b2) (.k 2 (aA b1) (.k 1 (aA b0) (.n 2 .nil))))))) (.c (bJ x.op) .nil)
  ·rcases tf (x.name== []) with b2|b2
   ·rcases tf (x.op==((4:Nat):Int)) with b3|b3
    ·rcases tf ((x.neg==false) && ((x.num==(aa 0)) && ((x.den==(aa 1)) && true))) with b4|b4
     ·rw [show aH x=0 by simp only [aH,fo,sO,b0,b1,b2,b3,b4]<;>rfl];exact pK [] 8 26 (.k 1 (ay b1) (.k 2 (aw b4) (.k 3 (aw b3) (.k 1 (aA b2) (.k 1 (bi b1) (.k 1 (aA b0) (.n 2 .nil))))))) (.c (gq) (.c (bJ x.op) .nil))
     ·rcases tf ((x.neg==false) && ((x.num==(aa 1)) && ((x.den==(aa 1)) && true))) with b5|b5
      ·rw [show aH x=0 by simp only [aH,fo,sO,b0,b1,b2,b3,b4,b5]<;>rfl];exact pK [] 8 10 (.k 1 (ay b1) (.k 1 (aA b5) (.k 3 (ay b4) (.k 3 (aw b3) (.k 1 (aA b2) (.k 1 (bi b1) (.k 1 (aA b0) (.n 2 .nil)))))))) (.c (pQ) (.c (gq) (.c (bJ x.op) .nil)))
      ·rw [show aH x=11 by simp only [aH,fo,sO,b0,b1,b2,b3,b4,b5]<;>rfl];exact pK [] 6 42 (.c (bi b5) (.k 3 (ay b4) (.k 3 (aw b3) (.k 1 (aA b2) (.k 1 (bi b1) (.k 1 (aA b0) (.n 2 .nil))))))) (.c (pQ) (.c (gq) (.c (bJ x.op) .nil)))
    ·rcases tf (wJ x.op) with b4|b4
     ·rcases tf (dK x.neg x.num x.den) with b5|b5
      ·rw [show aH x=0 by simp only [aH,fo,sO,b0,b1,b2,b3,b4,b5]<;>rfl];exact pK [] 8 18 (.k 1 (ay b1) (.k 1 (aA b5) (.k 3 (aw b4) (.k 1 (ay b3) (.k 1 (aA b2) (.k 1 (bi b1) (.k 1 (aA b0) (.n 2 .nil)))))))) (.c (ef x.neg x.num x.den a b) (.c (bJ x.op) .nil))
      ·rw [show aH x=11 by simp only [aH,fo,sO,b0,b1,b2,b3,b4,b5]<;>rfl];exact pK [] 6 50 (.c (bi b5) (.k 3 (aw b4) (.k 1 (ay b3) (.k 1 (aA b2) (.k 1 (bi b1) (.k 1 (aA b0) (.n 2 .nil))))))) (.c (ef x.neg x.num x.den a b) (.c (bJ x.op) .nil))
     ·rcases tf (lX x.op) with b5|b5
      ·rcases tf (dK x.neg x.num x.den) with b6|b6
       ·rcases tf (decide (((0:Nat):Int)<(jK x.neg x.num x.den))) with b7|b7
        ·rw [show aH x=0 by simp only [aH,fo,sO,b0,b1,b2,b3,b4,b5,b6,b7]<;>rfl];exact pK [] 10 98 (.k 1 (ay b1) (.k 1 (aA b7) (.k 3 (aw b6) (.k 3 (aw b5) (.k 1 (ay b4) (.k 1 (ay b3) (.k 1 (aA b2) (.k 1 (bi b1) (.k 1 (aA b0) (.n 2 .nil)))))))))) (.c (gD x.neg x.num x.den a b) (.c (ef x.neg x.num x.den a b) (.c (bJ x.op) .nil)))
        ·rw [show aH x=11 by simp only [aH,fo,sO,b0,b1,b2,b3,b4,b5,b6,b7]<;>rfl];exact pK [] 8 226 (.c (bi b7) (.k 3 (aw b6) (.k 3 (aw b5) (.k 1 (ay b4) (.k 1 (ay b3) (.k 1 (aA b2) (.k 1 (bi b1) (.k 1 (aA b0) (.n 2 .nil))))))))) (.c (gD x.neg x.num x.den a b) (.c (ef x.neg x.num x.den a b) (.c (bJ x.op) .nil)))
       ·rw [show aH x=11 by simp only [aH,fo,sO,b0,b1,b2,b3,b4,b5,b6]<;>rfl];exact pK [] 8 162 (.k 1 (ay b6) (.k 3 (aw b5) (.k 1 (ay b4) (.k 1 (ay b3) (.k 1 (aA b2) (.k 1 (bi b1) (.k 1 (aA b0) (.n 2 .nil)))))))) (.c (ef x.neg x.num x.den a b) (.c (bJ x.op) .nil))
      ·rcases tf ((x.neg==false) && ((x.num== []) && ((x.den== []) && true))) with b6|b6
       ·rw [show aH x=0 by simp only [aH,fo,sO,b0,b1,b2,b3,b4,b5,b6]<;>rfl];exact pK [] 9 2 (.k 1 (ay b1) (.k 1 (aA b6) (.k 3 (ay b5) (.k 1 (ay b4) (.k 1 (ay b3) (.k 1 (aA b2) (.k 1 (bi b1) (.k 1 (aA b0) (.n 2 .nil))))))))) (.c (bJ x.op) .nil)
       ·rw [show aH x=11 by simp only [aH,fo,sO,b0,b1,b2,b3,b4,b5,b6]<;>rfl];exact pK [] 7 66 (.c (bi b6) (.k 3 (ay b5) (.k 1 (ay b4) (.k 1 (ay b3) (.k 1 (aA b2) (.k 1 (bi b1) (.k 1 (aA b0) (.n 2 .nil)))))))) (.c (bJ x.op) .nil)
   ·rw [show aH x=11 by simp only [aH,fo,sO,b0,b1,b2]<;>rfl];exact pK [] 3 6 (.c (bi b2) (.k 1 (bi b1) (.k 1 (aA b0) (.n 2 .nil)))) (.c (bJ x.op) .nil)
 ·rw [show aH x=11 by simp only [aH,fo,sO,b0]<;>rfl];exact pK [] 2 3 (.k 1 (bi b0) (.n 2 .nil)) (.c (bJ x.op) .nil)
def aP (l:List Nd):List AV:=l.flatMap nJ
theorem aeZ {nt:Nat} (g:35≤nt) (l:List Nd) (b:Bool) (k d:Nat) (w:Int) (x:Nd) (r:List Nd) (a:(ε ((δ (k:Int))*5) (aP l))=nJ x++aP r) (h0:lit true (!(w==((0:Nat):Int)))=true) (c:(decide (((0:Nat):Int)≤(k:Int)))=true) (i:(decide ((k:Int)<(l.length:Int)))=true) (e:lit true (decide ((k:Int)<(l.length:Int)))=true) (f:CO 52 [.agg [ω x.op,.bool x.neg,.str x.num,.str x.den,.str x.name]] (.ret (ω w))):ψ nt f21 ⟨[(10,.sl (aP l) l.length b),(11,ω (l.length:Int)),(12,ω (k:Int)),(3,ω (d:Int))],[],.dead,[]⟩ (.ret) ⟨[(2,ω w)],[],.dead,[]⟩:=
 have h:ψ nt f21 ⟨[(10,.sl (aP l) l.length b),(11,ω (l.length:Int)),(12,ω (k:Int)),(3,ω (d:Int))],[],.dead,[]⟩ (.ret) ⟨[(2,ω w)],[(0,⟨[ω x.op,.bool x.neg,.str x.num,.str x.den,.str x.name],0,false,0,0,true⟩)],.dead,[]⟩:=pJ 21 [] 2 3 (.c h0 (.k 11 c (.c i (.c e .nil)))) (.c f (.v 14 (.ppt a) .nil)) g
 h.forgetD 0 ⟨[ω x.op,.bool x.neg,.str x.num,.str x.den,.str x.name],0,false,0,0,true⟩ (by intro v h;cases h) (by decide) rfl ⟨Fz.same rfl,trivial⟩ rfl rfl
theorem ae0 {nt:Nat} (i:35≤nt) (l:List Nd) (b:Bool) (k d:Nat) (w:Int) (x:Nd) (r:List Nd) (a:(ε ((δ (k:Int))*5) (aP l))=nJ x++aP r) (h0:lit true (decide ((γ .i64 ((d:Int) - (Γ (ζ (ε ((0+((δ x.op)*5))+1) gG) .dead))))<((0:Nat):Int)))=true) (m:(chk (.int .i64) (ζ (ε ((0+((δ x.op)*5))+1) gG) .dead))=true) (f:(decide (((0:Nat):Int)≤x.op))=true) (n:(decide (x.op<((25:Nat):Int)))=true) (o:lit false (!(w==((0:Nat):Int)))=true) (e:(decide (((0:Nat):Int)≤(k:Int)))=true) (g:(decide ((k:Int)<(l.length:Int)))=true) (j:lit true (decide ((k:Int)<(l.length:Int)))=true) (c:CO 52 [.agg [ω x.op,.bool x.neg,.str x.num,.str x.den,.str x.name]] (.ret (ω w))):ψ nt f21 ⟨[(10,.sl (aP l) l.length b),(11,ω (l.length:Int)),(12,ω (k:Int)),(3,ω (d:Int))],[],.dead,[]⟩ (.ret) ⟨[(2,ω 11)],[],.dead,[]⟩:=
 have h:ψ nt f21 ⟨[(10,.sl (aP l) l.length b),(11,ω (l.length:Int)),(12,ω (k:Int)),(3,ω (d:Int))],[],.dead,[]⟩ (.ret) ⟨[(2,ω 11)],[(0,⟨[ω x.op,.bool x.neg,.str x.num,.str x.den,.str x.name],0,false,0,0,true⟩)],.dead,[]⟩:=pJ 21 [] 3 5 (.c h0 (.c m (.c f (.c n (.k 1 o (.k 11 e (.c g (.c j .nil)))))))) (.c c (.v 14 (.ppt a) .nil)) i
 h.forgetD 0 ⟨[ω x.op,.bool x.neg,.str x.num,.str x.den,.str x.name],0,false,0,0,true⟩ (by intro v h;cases h) (by decide) rfl ⟨Fz.same rfl,trivial⟩ rfl rfl
theorem ae1 {nt:Nat} (i:35≤nt) (l:List Nd) (a:Bool) (k d:Nat) (w:Int) (x:Nd) (r:List Nd) (b:(ε ((δ (k:Int))*5) (aP l))=nJ x++aP r) (h0:lit false (decide ((γ .i64 ((d:Int) - (Γ (ζ (ε ((0+((δ x.op)*5))+1) gG) .dead))))<((0:Nat):Int)))=true) (m:(chk (.int .i64) (ζ (ε ((0+((δ x.op)*5))+1) gG) .dead))=true) (f:(decide (((0:Nat):Int)≤x.op))=true) (n:(decide (x.op<((25:Nat):Int)))=true) (o:lit false (!(w==((0:Nat):Int)))=true) (e:(decide (((0:Nat):Int)≤(k:Int)))=true) (g:(decide ((k:Int)<(l.length:Int)))=true) (j:lit true (decide ((k:Int)<(l.length:Int)))=true) (c:CO 52 [.agg [ω x.op,.bool x.neg,.str x.num,.str x.den,.str x.name]] (.ret (ω w))):ψ nt f21 ⟨[(10,.sl (aP l) l.length a),(11,ω (l.length:Int)),(12,ω (k:Int)),(3,ω (d:Int))],[],.dead,[]⟩ (.normal) ⟨[(10,.sl (aP l) l.length a),(11,ω (l.length:Int)),(12,ω (γ .i64 ((k:Int)+((1:Nat):Int)))),(3,ω (γ .i64 ((γ .i64 ((d:Int) - (Γ (ζ (ε ((0+((δ x.op)*5))+1) gG) .dead))))+((1:Nat):Int))))],[],.dead,[]⟩:=
 have h:ψ nt f21 ⟨[(10,.sl (aP l) l.length a),(11,ω (l.length:Int)),(12,ω (k:Int)),(3,ω (d:Int))],[],.dead,[]⟩ (.normal) ⟨[(10,.sl (aP l) l.length a),(11,ω (l.length:Int)),(12,ω (γ .i64 ((k:Int)+((1:Nat):Int)))),(3,ω (γ .i64 ((γ .i64 ((d:Int) - (Γ (ζ (ε ((0+((δ x.op)*5))+1) gG) .dead))))+((1:Nat):Int))))],[(0,⟨[ω x.op,.bool x.neg,.str x.num,.str x.den,.str x.name],0,false,0,0,true⟩)],.dead,[]⟩:=pJ 21 [] 3 1 (.c h0 (.c m (.c f (.c n (.k 1 o (.k 11 e (.c g (.c j .nil)))))))) (.c c (.v 14 (.ppt b) .nil)) i
 h.forgetD 0 ⟨[ω x.op,.bool x.neg,.str x.num,.str x.den,.str x.name],0,false,0,0,true⟩ (by intro v h;cases h) (by decide) rfl ⟨Fz.same rfl,Fz.same rfl,Fz.same rfl,Fz.same rfl,trivial⟩ rfl rfl
theorem Ma {nt:Nat} (b:35≤nt) (l:List Nd) (a:Bool) (k d:Nat) (w:Int) (h0:lit false (decide ((k:Int)<(l.length:Int)))=true):ψ nt f21 ⟨[(10,.sl (aP l) l.length a),(11,ω (l.length:Int)),(12,ω (k:Int)),(3,ω (d:Int))],[],.dead,[]⟩ (.exit 0) ⟨[(3,ω (d:Int))],[],.dead,[]⟩:=pJ 21 [] 1 0 (.c h0 .nil) (.nil) b
theorem Zr (l:List Nd) (a:Bool) (d:Nat) (h0:lit true (decide (((60:Nat):Int)<(l.length:Int)))=true):CO 21 [.sl (aP l) l.length a] (.ret (ω 2)):=pK [0] 1 1 (.c h0 .nil) (.nil)
theorem Zs (l:List Nd) (a:Bool) (d:Nat) (h0:lit true (!((d:Int)==((1:Nat):Int)))=true) (b:lit false (decide (((60:Nat):Int)<(l.length:Int)))=true) (c:aG prog ap [] 35 (.block 0 (.loop (ac 0 (af f21)))) ⟨[(0,.sl (aP l) l.length a),(2,ω 0),(3,ω 0),(5,.dead),(6,.dead),(9,.bool (decide (((60:Nat):Int)<(l.length:Int)))),(10,.sl (aP l) l.length a),(11,ω (l.length:Int)),(12,ω 0),(13,.dead),(19,.dead),(29,.dead),(34,.dead)],[],.dead,[]⟩ (.normal) ⟨[(3,ω (d:Int))],[],.dead,[]⟩):CO 21 [.sl (aP l) l.length a] (.ret (ω 11)):=pK [0] 2 2 (.c h0 (.c b .nil)) (.l c .nil)
theorem Zt (l:List Nd) (a:Bool) (d:Nat) (h0:lit false (!((d:Int)==((1:Nat):Int)))=true) (b:lit false (decide (((60:Nat):Int)<(l.length:Int)))=true) (c:aG prog ap [] 35 (.block 0 (.loop (ac 0 (af f21)))) ⟨[(0,.sl (aP l) l.length a),(2,ω 0),(3,ω 0),(5,.dead),(6,.dead),(9,.bool (decide (((60:Nat):Int)<(l.length:Int)))),(10,.sl (aP l) l.length a),(11,ω (l.length:Int)),(12,ω 0),(13,.dead),(19,.dead),(29,.dead),(34,.dead)],[],.dead,[]⟩ (.normal) ⟨[(3,ω (d:Int))],[],.dead,[]⟩):CO 21 [.sl (aP l) l.length a] (.ret (ω 0)):=pK [0] 2 0 (.c h0 (.c b .nil)) (.l c .nil)
theorem Zu (l:List Nd) (a:Bool) (w:Int) (h0:lit false (decide (((60:Nat):Int)<(l.length:Int)))=true) (b:aG prog ap [] 35 (.block 0 (.loop (ac 0 (af f21)))) ⟨[(0,.sl (aP l) l.length a),(2,ω 0),(3,ω 0),(5,.dead),(6,.dead),(9,.bool (decide (((60:Nat):Int)<(l.length:Int)))),(10,.sl (aP l) l.length a),(11,ω (l.length:Int)),(12,ω 0),(13,.dead),(19,.dead),(29,.dead),(34,.dead)],[],.dead,[]⟩ (.ret) ⟨[(2,ω w)],[],.dead,[]⟩):CO 21 [.sl (aP l) l.length a] (.ret (ω w)):=pK [0] 1 0 (.c h0 .nil) (.l b .nil)
theorem E8 (x:Nd) (r:List Nd):aP (x::r)=nJ x++aP r:=rfl
theorem IY (a b:List Nd):aP (a++b)=aP a++aP b:=by unfold aP;rw [List.flatMap_append]
theorem jf (l:List Nd):(aP l).length=l.length*5:=by
 induction l with
 |nil=>rfl
 |cons x r ih=>rw [E8,κ,ih,μ];simp [nJ];omega
theorem xh {p r:List Nd} {x:Nd} {k:Nat} (h:k=p.length):ε (δ (k:Int)*5) (aP (p++x::r))=nJ x++aP r:=by
 subst h;rw [av,IY,E8,← jf,List.drop_left]
def fj:List Nd→Nat→Nat ⊕ Int
 | [],d=> .inl d
 |x::r,d=>if aH x=0 then (if d<cT x.op then .inr 11 else fj r (d - cT x.op+1)) else .inr (aH x)
def bT (l:List Nd):Int:=if 60<l.length then 2 else match fj l 0 with| .inl d=>if d=1 then 0 else 11| .inr w=>w
def Qj:Nat ⊕ Int→br
 | .inl _=> .exit 0
 | .inr _=> .ret
def JX (l:List Nd) (nn:Bool) (p:Nat × Nat):St:=⟨[(10,.sl (aP l) l.length nn),(11,ω (l.length:Int)),(12,ω (p.1:Int)),(3,ω (p.2:Int))],[],.dead,[]⟩
def H9:Nat ⊕ Int→St
 | .inl d=> ⟨[(3,.int .i64 (d:Int))],[],.dead,[]⟩
 | .inr w=> ⟨[(2,.int .i64 w)],[],.dead,[]⟩
theorem Gm (a:Int):cT a≤3:=by unfold cT;(repeat' split)<;>omega
theorem qf {x:Nd} (h:aH x=0):1≤x.op∧x.op≤24:=by
 cases a:Iz x.op with
 |true=>simpa [Iz] using a
 |false=>unfold aH at h;rw [a] at h;simp at h
theorem Mb {nt:Nat} (h:35≤nt) (l p r:List Nd) (c:Bool) (x:Nd) (d:Nat) (t:x.sm) (o:l=p++x::r) (s:l.length<2^40) (hd:d<2^41):
  (¬ aH x=0→ψ nt f21 (JX l c (p.length,d)) .ret (H9 (.inr (aH x))))∧
  (aH x=0→d<cT x.op→ψ nt f21 (JX l c (p.length,d)) .ret (H9 (.inr 11)))∧
  (aH x=0→¬ d<cT x.op→ψ nt f21 (JX l c (p.length,d)) .normal (JX l c (p.length+1,d - cT x.op+1))):=by
 have e:ε (δ (p.length:Int)*5) (aP l)=nJ x++aP r:=by rw [o];exact xh rfl
 have m:p.length+(r.length+1)=l.length:=by rw [o];simp
 have n:=Py x t;have u:=Gm x.op;unfold JX H9;refine ⟨fun b=> ?_,fun b q=> ?_,fun b q=> ?_⟩
 ·have a:=aeZ h l c p.length d (aH x) x r e;have g:(!(aH x==((0:Nat):Int)))=true:=by simpa using b
  simp (disch:=first|omega|(simp [aq,au]<;>omega)) only [g,bB,cV,bf,bq] at a;apply a<;>first|exact True.intro|omega|assumption|exact rfl
 ·obtain ⟨j,i⟩:=qf b;have k:=HK j i;rw [b] at n;have a:=ae0 h l c p.length d 0 x r e;have f:γ .i64 ((d:Int) - ((cT x.op:Nat):Int))=(d:Int) - (cT x.op:Int):=bU (by omega) (by omega);simp (disch:=first|omega|(simp [aq,au]<;>omega)) only [Θ,k,aU,f,bB,bf,db,dw,eC,NR,cV,bq] at a;apply a<;>first|exact True.intro|omega|assumption|exact rfl
 ·obtain ⟨j,i⟩:=qf b;have k:=HK j i;rw [b] at n;have a:=ae1 h l c p.length d 0 x r e;have f:γ .i64 ((d:Int) - ((cT x.op:Nat):Int))=((d - cT x.op:Nat):Int):=by rw [bU]<;>omega
  simp (disch:=first|omega|(simp [aq,au]<;>omega)) only [Θ,k,aU,f,bq,dw,eC,eU,db,bf,NR,cV,bB,bQ,aS] at a;apply a<;>first|exact True.intro|omega|assumption|exact rfl
theorem Ql {nt:Nat} (e:35≤nt) (l:List Nd) (a:Bool) (b:l.length<2^40) (c:∀ x ∈ l,x.sm):∀ (r p:List Nd) (d:Nat),p++r=l→d≤p.length→az prog ap [] nt (ac 0 (af f21)) Qj (JX l a) H9 (p.length,d) (fj r d):=by
 intro r
 induction r with
 |nil=>
  intro p d h _;have hp:p.length=l.length:=by rw [← h];simp
  rw [hp];exact .done (Ma e l a l.length d 0 (by rw [bq];simp [lit]))
 | cons x r ih=>
  intro p d h hd;have j:p.length+(r.length+1)=l.length:=by rw [← h];simp
  obtain ⟨g,i,f⟩:=Mb e l p r a x d (c x (by rw [← h];simp)) h.symm b (by omega);simp only [fj];by_cases h1:aH x=0
  ·rw [if_pos h1];by_cases h2:d<cT x.op
   ·rw [if_pos h2];exact .done (i h1 h2)
   ·rw [if_neg h2];have hnext:=ih (p++ [x]) (d - cT x.op+1) (by simp [h]) (by simp;omega);rw [κ,τ] at hnext;exact .next (f h1 h2) hnext
  ·rw [if_neg h1];exact .done (g h1)
theorem tE (l:List Nd) (a:Bool) (b:∀ x ∈ l,x.sm):CO 21 [.sl (aP l) l.length a] (.ret (ω (bT l))):=by
 unfold bT;by_cases h60:60<l.length
 ·rw [if_pos h60];exact Zr l a 0 (by rw [bq];exact Yq0 h60)
 ·rw [if_neg h60];have c:lit false (decide (((60:Nat):Int)<(l.length:Int)))=true:=by rw [bq];simp only [lit,Xqq];exact Yq1 h60
  have hloop:=fun nt (hn:35≤nt)=>Ql hn l a (by omega) b l [] 0 rfl (by simp)
  cases e:fj l 0 with
  | inl d=>
   rw [e] at hloop;by_cases hd:d=1
   ·have h:=Zt l a d (by rw [kO,Yq0 hd];rfl) c;simp only [if_pos hd];exact h (az.blk hloop (by simp [Qj]) rfl (aJ.of ⟨rfl,rfl,rfl,rfl,trivial⟩) (aJ.of ⟨rfl,trivial⟩))
   ·have h:=Zs l a d (by rw [kO,Yq1 hd];rfl) c;simp only [if_neg hd];exact h (az.blk hloop (by simp [Qj]) rfl (aJ.of ⟨rfl,rfl,rfl,rfl,trivial⟩) (aJ.of ⟨rfl,trivial⟩))
  |inr w=>
   rw [e] at hloop;exact Zu l a w c (az.blk hloop (by simp [Qj]) rfl (aJ.of ⟨rfl,rfl,rfl,rfl,trivial⟩) (aJ.of ⟨rfl,trivial⟩))
theorem Y9 {nt:Nat} (i:45≤nt) (l:List Nd) (a:Bool) (k:Nat) (C:List AV) (o own:List Nat) (x:Nd) (r:List Nd) (b:(ε ((δ (k:Int))*5) (aP l))=nJ x++aP r) (h0:(decide ((γ .i64 (((0:Nat):Int) - (Γ (ζ (ε ((0+((δ x.op)*5))+1) gG) .dead))))=0))=true) (m:(Xqk (((0+(δ (k:Int)))*1)+1) (η C))=true) (c:(decide (((0:Nat):Int)≤(k:Int)))=true) (d:(decide ((k:Int)<(l.length:Int)))=true) (n:(chk (.int .i64) (ζ (ε ((0+((δ x.op)*5))+1) gG) .dead))=true) (f:(decide (((0:Nat):Int)≤x.op))=true) (g:(decide (x.op<((25:Nat):Int)))=true) (j:lit true (decide ((k:Int)<(l.length:Int)))=true) (e:CO 62 [.nilS] (.ret (.sl (ag own) own.length false))):ψ nt f37 ⟨[(15,.sl (aP l) l.length a),(16,ω (l.length:Int)),(17,ω (k:Int)),(4,.ref 0 0 0 l.length),(5,.nilS)],[(0,⟨C,0,false,0,1,true⟩)],.dead,[]⟩ (.normal) ⟨[(15,.sl (aP l) l.length a),(16,ω (l.length:Int)),(17,ω (γ .i64 ((k:Int)+((1:Nat):Int)))),(4,.ref 0 0 0 l.length),(5,.ref 1 0 0 1)],[(0,⟨(ο ((0+(δ (k:Int)))*1) C++ [.sl (ag own) own.length false]++ε (((0+(δ (k:Int)))*1)+1) C),0,false,0,1,true⟩),(1,⟨[ω (k:Int)],0,false,0,1,true⟩)],.dead,[]⟩:=
 have h:ψ nt f37 ⟨[(15,.sl (aP l) l.length a),(16,ω (l.length:Int)),(17,ω (k:Int)),(4,.ref 0 0 0 l.length),(5,.nilS)],[(0,⟨C,0,false,0,1,true⟩)],.dead,[]⟩ (.normal) ⟨[(15,.sl (aP l) l.length a),(16,ω (l.length:Int)),(17,ω (γ .i64 ((k:Int)+((1:Nat):Int)))),(4,.ref 0 0 0 l.length),(5,.ref 1 0 0 1)],[(0,⟨(ο ((0+(δ (k:Int)))*1) C++ [.sl (ag own) own.length false]++ε (((0+(δ (k:Int)))*1)+1) C),0,false,0,1,true⟩),(1,⟨[ω (k:Int)],0,false,0,1,true⟩),(2,⟨[ω x.op,.bool x.neg,.str x.num,.str x.den,.str x.name],0,false,0,0,true⟩)],.dead,[]⟩:=pJ 37 [] 2 1 (.k 4 h0 (.c m (.c c (.c d (.c h0 (.k 1 n (.c f (.c g (.k 7 c (.c d (.c j .nil))))))))))) (.c e (.v 20 (.ppt b) .nil)) i
 h.forgetD 2 ⟨[ω x.op,.bool x.neg,.str x.num,.str x.den,.str x.name],0,false,0,0,true⟩ (by intro v h;cases h) (by decide) rfl ⟨Fz.same rfl,Fz.same rfl,Fz.same rfl,Fz.same rfl,Fz.same rfl,trivial⟩ ⟨rfl,D3.same rfl,by decide,rfl,D3.same rfl,by decide,rfl⟩ rfl
theorem JP {nt:Nat} (b:45≤nt) (l:List Nd) (a:Bool) (k:Nat) (C:List AV) (c own:List Nat) (h0:lit false (decide ((k:Int)<(l.length:Int)))=true):ψ nt f37 ⟨[(15,.sl (aP l) l.length a),(16,ω (l.length:Int)),(17,ω (k:Int)),(4,.ref 0 0 0 l.length),(5,.nilS)],[(0,⟨C,0,false,0,1,true⟩)],.dead,[]⟩ (.exit 0) ⟨[(4,.ref 0 0 0 l.length)],[(0,⟨C,0,false,0,1,true⟩)],.dead,[]⟩:=pJ 37 [] 1 0 (.c h0 .nil) (.nil) b
theorem Y7 {nt:Nat} (n:45≤nt) (l:List Nd) (b:Bool) (k:Nat) (C:List AV) (a own:List Nat) (x:Nd) (r:List Nd) (c:(ε ((δ (k:Int))*5) (aP l))=nJ x++aP r) (h0:(Xqk (((δ (γ .i64 ((a.length:Int) - (Γ (ζ (ε ((0+((δ x.op)*5))+1) gG) .dead))))) - 0)+1) 1099511627776)=true) (p:(Xqk (((δ (γ .i64 ((a.length:Int) - (Γ (ζ (ε ((0+((δ x.op)*5))+1) gG) .dead))))) - 0)*1) (η (ag a)))=true) (g:(decide (((0:Nat):Int)≤(γ .i64 ((a.length:Int) - (Γ (ζ (ε ((0+((δ x.op)*5))+1) gG) .dead))))))=true) (j:(decide ((γ .i64 ((a.length:Int) - (Γ (ζ (ε ((0+((δ x.op)*5))+1) gG) .dead))))≤(a.length:Int)))=true) (t:(Xqk (((0+(δ (k:Int)))*1)+1) (η C))=true) (f:(decide (((0:Nat):Int)≤(k:Int)))=true) (i:(decide ((k:Int)<(l.length:Int)))=true) (o:(decide ((a.length:Int)≤(a.length:Int)))=true) (s:(chk (.int .i64) (ζ (ε ((0+((δ x.op)*5))+1) gG) .dead))=true) (q:(decide (((0:Nat):Int)≤x.op))=true) (d:(decide (x.op<((25:Nat):Int)))=true) (e:lit true (decide ((k:Int)<(l.length:Int)))=true) (m:aj prog ap 62 [.ref 0 0 (0+(δ (γ .i64 ((a.length:Int) - (Γ (ζ (ε ((0+((δ x.op)*5))+1) gG) .dead)))))) ((δ (a.length:Int)) - (δ (γ .i64 ((a.length:Int) - (Γ (ζ (ε ((0+((δ x.op)*5))+1) gG) .dead))))))] [⟨(ag a),0,false,0,1,true⟩] (.ret (.sl (ag own) own.length false)) [⟨(ag a),0,false,0,1,true⟩]):ψ nt f37 ⟨[(15,.sl (aP l) l.length b),(16,ω (l.length:Int)),(17,ω (k:Int)),(4,.ref 0 0 0 l.length),(5,.ref 1 0 0 a.length)],[(0,⟨C,0,false,0,1,true⟩),(1,⟨(ag a),0,false,0,1,true⟩)],.dead,[]⟩ (.normal) ⟨[(15,.sl (aP l) l.length b),(16,ω (l.length:Int)),(17,ω (γ .i64 ((k:Int)+((1:Nat):Int)))),(4,.ref 0 0 0 l.length),(5,.ref 1 0 0 (((δ (γ .i64 ((a.length:Int) - (Γ (ζ (ε ((0+((δ x.op)*5))+1) gG) .dead))))) - 0)+1))],[(0,⟨(ο ((0+(δ (k:Int)))*1) C++ [.sl (ag own) own.length false]++ε (((0+(δ (k:Int)))*1)+1) C),0,false,0,1,true⟩),(1,⟨((ο (((δ (γ .i64 ((a.length:Int) - (Γ (ζ (ε ((0+((δ x.op)*5))+1) gG) .dead))))) - 0)*1) (ag a))++ [ω (k:Int)]),0,false,0,1,true⟩)],.dead,[]⟩:=
 have h:ψ nt f37 ⟨[(15,.sl (aP l) l.length b),(16,ω (l.length:Int)),(17,ω (k:Int)),(4,.ref 0 0 0 l.length),(5,.ref 1 0 0 a.length)],[(0,⟨C,0,false,0,1,true⟩),(1,⟨(ag a),0,false,0,1,true⟩)],.dead,[]⟩ (.normal) ⟨[(15,.sl (aP l) l.length b),(16,ω (l.length:Int)),(17,ω (γ .i64 ((k:Int)+((1:Nat):Int)))),(4,.ref 0 0 0 l.length),(5,.ref 1 0 0 (((δ (γ .i64 ((a.length:Int) - (Γ (ζ (ε ((0+((δ x.op)*5))+1) gG) .dead))))) - 0)+1))],[(0,⟨(ο ((0+(δ (k:Int)))*1) C++ [.sl (ag own) own.length false]++ε (((0+(δ (k:Int)))*1)+1) C),0,false,0,1,true⟩),(1,⟨((ο (((δ (γ .i64 ((a.length:Int) - (Γ (ζ (ε ((0+((δ x.op)*5))+1) gG) .dead))))) - 0)*1) (ag a))++ [ω (k:Int)]),0,false,0,1,true⟩),(2,⟨[ω x.op,.bool x.neg,.str x.num,.str x.den,.str x.name],0,false,0,0,true⟩)],.dead,[]⟩:=pJ 37 [] 1 1 (.k 1 h0 (.c p (.k 2 g (.c j (.c t (.c f (.c i (.c g (.c j (.c o (.c s (.c q (.c d (.k 7 f (.c i (.c e .nil)))))))))))))))) (.c m (.v 20 (.ppt c) .nil)) n
 h.forgetD 2 ⟨[ω x.op,.bool x.neg,.str x.num,.str x.den,.str x.name],0,false,0,0,true⟩ (by intro v h;cases h) (by decide) rfl ⟨Fz.same rfl,Fz.same rfl,Fz.same rfl,Fz.same rfl,Fz.same rfl,trivial⟩ ⟨rfl,D3.same rfl,by decide,rfl,D3.same rfl,by decide,rfl⟩ rfl
theorem JO {nt:Nat} (c:45≤nt) (l:List Nd) (b:Bool) (k:Nat) (C:List AV) (a own:List Nat) (h0:lit false (decide ((k:Int)<(l.length:Int)))=true):ψ nt f37 ⟨[(15,.sl (aP l) l.length b),(16,ω (l.length:Int)),(17,ω (k:Int)),(4,.ref 0 0 0 l.length),(5,.ref 1 0 0 a.length)],[(0,⟨C,0,false,0,1,true⟩),(1,⟨(ag a),0,false,0,1,true⟩)],.dead,[]⟩ (.exit 0) ⟨[(4,.ref 0 0 0 l.length)],[(0,⟨C,0,false,0,1,true⟩),(1,⟨(ag a),0,false,0,1,true⟩)],.dead,[]⟩:=pJ 37 [] 1 0 (.c h0 .nil) (.nil) c
theorem Ud (l:List Nd) (a:Bool) (w:Int) (C:List AV) (h0:lit true (!(w==((0:Nat):Int)))=true) (b:CO 21 [.sl (aP l) l.length a] (.ret (ω w))):CO 37 [.sl (aP l) l.length a] (.ret (.tup [.nilS,.bool false])):=pK [0] 1 1 (.c h0 .nil) (.c b .nil)
theorem Y8 (l:List Nd) (a:Bool) (w:Int) (C:List AV) (h0:(decide (((0:Nat):Int)≤(l.length:Int)))=true) (b:(decide ((l.length:Int)=(l.length:Int)))=true) (f:(decide ((l.length:Int)≤((1099511627776:Nat):Int)))=true) (c:lit false (!(w==((0:Nat):Int)))=true) (d:CO 21 [.sl (aP l) l.length a] (.ret (ω w))) (e:aG prog ap [] 45 (.block 0 (.loop (ac 0 (af f37)))) ⟨[(0,.sl (aP l) l.length a),(2,.nilS),(3,.bool false),(4,.ref 0 0 0 (δ (l.length:Int))),(5,.nilS),(6,.dead),(7,.dead),(8,.dead),(11,.bool (!(w==((0:Nat):Int)))),(15,.sl (aP l) l.length a),(16,ω (l.length:Int)),(17,ω 0),(18,.dead)],[(0,⟨(dX (δ (l.length:Int)) [.nilS]),0,false,0,1,true⟩)],.dead,[]⟩ (.normal) ⟨[(4,.ref 0 0 0 l.length)],[(0,⟨C,0,false,0,1,true⟩)],.dead,[]⟩):CO 37 [.sl (aP l) l.length a] (.ret (.tup [.own (ο (l.length*1) C) l.length 1,.bool true])):=pK [0] 1 0 (.c h0 (.c b (.c f (.c c .nil)))) (.l e (.c d .nil))
theorem Zw:CO 62 [.nilS] (.ret (.nilS)):=pK [] 1 1 (.n 1 .nil) (.nil)
theorem Zv (a:List Nat) (i n:Nat) (h0:(Xqn (η (ο (n*1) (ε (i*1) (ag a)))) (n*1))=true) (b:(Xqk (0+n) 1099511627776)=true):aj prog ap 62 [.ref 0 0 i n] [⟨(ag a),0,false,0,1,true⟩] (.ret (.own (ο ((0+n)*1) ([]++(ο (n*1) (ε (i*1) (ag a))))) (0+n) 1)) [⟨(ag a),0,false,0,1,true⟩]:=pK [] 1 0 (.c h0 (.c b (.n 3 .nil))) (.nil)
def uM:List Nd→Nat→List Nat→List (List Nat)
 | [],_,_=> []
 |x::r,k,st=>st.drop (st.length - cT x.op)::uM r (k+1) (st.take (st.length - cT x.op)++ [k])
def bh (l:List Nd):List (List Nat):=uM l 0 []
def Cw (a:List Nat):AV:= .sl (ag a) a.length false
def aX (ll:List (List Nat)):List AV:=ll.map Cw
def YZ:List Nd→Nat→List Nat→List Nat
 | [],_,st=>st
 |x::r,k,st=>YZ r (k+1) (st.take (st.length - cT x.op)++ [k])
theorem Eb (r:List Nd):∀ k a,(uM r k a).length=r.length:=by
 induction r with
 |nil=>intros;rfl
 |cons x r ih=>intro k a;simp only [uM,μ,ih]
def agE (st:List Nat):AV:=match st with| []=> .nilS|x::l=> .ref 1 0 0 (x::l).length
def YO (st:List Nat):Hp:=match st with| []=> []|x::l=> [(1,⟨ag (x::l),0,false,0,1,true⟩)]
theorem Gi {l:List Nat} (h:l ≠ []):agE l= .ref 1 0 0 l.length:=by cases l with|nil=>exact absurd rfl h|cons _ _=>rfl
theorem Cu {l:List Nat} (h:l ≠ []):YO l= [(1,⟨ag l,0,false,0,1,true⟩)]:=by cases l with|nil=>exact absurd rfl h|cons _ _=>rfl
def Cv (l:List Nd) (nn:Bool) (p:Nat × List Nat × List AV):St:=⟨[(15,.sl (aP l) l.length nn),(16,ω (l.length:Int)),(17,ω (p.1:Int)),(4,.ref 0 0 0 l.length),(5,agE p.2.1)],(0,⟨p.2.2,0,false,0,1,true⟩)::YO p.2.1,.dead,[]⟩
def Bk (l:List Nd) (p:List Nat × List AV):St:=⟨[(4,.ref 0 0 0 l.length)],(0,⟨p.2,0,false,0,1,true⟩)::YO p.1,.dead,[]⟩
theorem J0:aj prog ap 62 [.nilS] [] (.ret (.sl (ag []) ([]:List Nat).length false)) []:=Zw.out (gm.ret rfl rfl (aN.nilS false rfl))
theorem Me (a:List Nat) (i n:Nat) (h:i+n=a.length) (g:a.length<2^40):aj prog ap 62 [.ref 0 0 i n] [⟨ag a,0,false,0,1,true⟩] (.ret (.sl (ag (a.drop i)) n false)) [⟨ag a,0,false,0,1,true⟩]:=by
 have e:=Zv a i n;have f:n≤a.length:=by omega
 have d:ο n (ε i (ag a))=ag (a.drop i):=by
  rw [Ep,ct,Xqi (by simp;omega)]
 have b:(ag (a.drop i)).length=n:=by rw [bK,Xx8];omega
 simp (disch:=first|omega|(simp [aq,au]<;>omega)) only [Φ,d,b,Dj,decide_true,Θ,dW,bf,Xqd] at e;have c:=(e True.intro (by omega)).thaw (by simp);simp only [rK,thaw,Φ] at c;rw [Xqi (by rw [Xq5,b];omega),Xqi (by omega)] at c;exact c.out (gm.sl1 _ _ _)
theorem PW {nt:Nat} (n:45≤nt) (l p r:List Nd) (e:Bool) (x:Nd) (a:List Nat) (C C2:List AV) (j:l=p++x::r) (w:l.length<2^39) (f:1≤x.op∧x.op≤24) (g:cT x.op≤a.length) (s:a.length≤p.length) (k:C.length=l.length)
  (hset:ο p.length C++ [Cw (a.drop (a.length - cT x.op))]++ε (p.length+1) C=C2):
  ψ nt f37 (Cv l e (p.length,a,C)) .normal (Cv l e (p.length+1,a.take (a.length - cT x.op)++ [p.length],C2)):=by
 have d:ε (δ (p.length:Int)*5) (aP l)=nJ x++aP r:=by rw [j];exact xh rfl
 have i:p.length+(r.length+1)=l.length:=by rw [j];simp
 obtain ⟨z,y⟩:=f;have o:=HK z y;unfold Cv;simp only;rw [Gi (fM _ _),Cu (fM _ _)];rcases Xxu (a= []) with rfl|hne
 ·have h0:cT x.op=0:=by simpa using g
  have b:=Y9 n l e p.length C [] [] x r d;simp only [χ,Nat.zero_sub,List.drop_nil,List.take_nil,Xqd] at hset ⊢;unfold Cw at hset;have h:=J0;simp (disch:=first|omega|(simp [aq,au]<;>omega)) only [Θ,o,h0,aU,gP,Xjv,bf,av,Φ,k,dW,cV,bq,db,bB,χ,bQ,aS] at b;simp only [agE,YO,ag,Xqc,Xxz,μ,χ,Θ] at b hset h ⊢;rw [hset] at b;apply b<;>first|exact True.intro|omega|assumption|exact rfl|skip
 ·have v:=Me a (a.length - cT x.op) (cT x.op) (by omega) (by omega);have b:=Y7 n l e p.length C a (a.drop (a.length - cT x.op)) x r d;rw [Gi hne,Cu hne];unfold Cw at hset;generalize A:a.length - cT x.op=m at*
  have c:(a.drop m).length=cT x.op:=by rw [Xx8];omega
  have t:γ .i64 ((a.length:Int) - ((cT x.op:Nat):Int))=(m:Int):=by rw [bU]<;>omega
  have u:a.length - m=cT x.op:=by omega
  rw [c] at b hset;have q:(a.take m).length=m:=by rw [Xq5];omega
  simp (disch:=first|omega|(simp [aq,au]<;>omega)) only [Θ,o,aU,t,av,Xjv,dW,bf,Φ,bK,cV,k,bq,db,bB,u,bQ,aS,hset,ct,iD] at b;simp only [κ,τ,q];apply b<;>first|exact True.intro|omega|assumption|exact rfl|skip
theorem Qk {r:List Nd} {d e:Nat} {x:Nd} (h:fj (x::r) d= .inl e):(1≤x.op∧x.op≤24)∧cT x.op≤d∧fj r (d - cT x.op+1)= .inl e:=by
 simp only [fj] at h;by_cases h1:aH x=0
 ·rw [if_pos h1] at h;by_cases h2:d<cT x.op
  ·rw [if_pos h2] at h;cases h
  ·rw [if_neg h2] at h;exact ⟨qf h1,by omega,h⟩
 ·rw [if_neg h1] at h;cases h
theorem qj (a:List (List Nat)):(aX a).length=a.length:=by simp [aX]
theorem JQ (done:List (List Nat)) (a:List Nat) (m:Nat):ο done.length (aX done++θ (m+1) Xk6)++ [Cw a]++ε (done.length+1) (aX done++θ (m+1) Xk6)=aX (done++ [a])++θ m Xk6:=by
 have b:=qj done;rw [List.take_append_of_le_length (by omega),Xqi (by omega),List.drop_append,Xxy (by omega),Xqd,show done.length+1 - (aX done).length=1 by omega,Xxd,List.drop_succ_cons,Xjq];unfold aX;rw [Xxt];rfl
theorem PV {nt:Nat} (k:45≤nt) (l:List Nd) (f:Bool) (j:l.length<2^39) (e:Nat):∀ (r p:List Nd) (a:List Nat) (done:List (List Nat)),p++r=l→fj r a.length= .inl e→a.length≤p.length→done.length=p.length→az prog ap [] nt (ac 0 (af f37)) (fun _=> .exit 0) (Cv l f) (Bk l) (p.length,a,aX done++θ r.length .nilS) (YZ r p.length a,aX (done++uM r p.length a)):=by
 intro r
 induction r with
 | nil=>
  intro p a done h n d hd;have hp:p.length=l.length:=by rw [← h];simp
  rw [hp];simp only [uM,YZ,Xqa,χ,Xzc];refine .done ?_;unfold Cv Bk;have o:ψ nt f37 (Cv l f (l.length,a,aX done)) (.exit 0) (Bk l (a,aX done)):=by
   unfold Cv Bk;rcases Xxu (a= []) with rfl|hne
   ·exact JP k l f l.length (aX done) [] [] (by rw [bq];simp [lit])
   ·simp only;rw [Gi hne,Cu hne];exact JO k l f l.length (aX done) a [] (by rw [bq];simp [lit])
  exact o
 | cons x r ih=>
  intro p a done h n d hd;obtain ⟨g,m,i⟩:=Qk n;have q:p.length+(r.length+1)=l.length:=by rw [← h];simp
  have b:(a.take (a.length - cT x.op)++ [p.length]).length=a.length - cT x.op+1:=by
   rw [κ,Xq5,τ,Xjs (by omega)]
  have hnext:=ih (p++ [x]) (a.take (a.length - cT x.op)++ [p.length]) (done++ [a.drop (a.length - cT x.op)]) (by simp [h]) (by rw [b];exact i) (by rw [b];simp;omega) (by simp [hd]);rw [κ,τ,Ψ] at hnext;simp only [uM,YZ,μ];have c:=JQ done (a.drop (a.length - cT x.op)) r.length;rw [hd] at c;have hstep:=PW k l p r f x a (aX done++θ (r.length+1) .nilS) _ h.symm j g m d (by rw [κ,qj,Xxi];omega) c;exact .next hstep hnext
theorem Oy (n:Nat):dX n [Xk6]=θ n Xk6:=by
 unfold dX
 induction n with
 |zero=>rfl
 |succ n ih=>rw [Xxd,List.flatten_cons,ih,Xxd];rfl
theorem Gs {l:List Nd} (h:bT l=0):l.length≤60∧fj l 0= .inl 1:=by
 unfold bT at h;by_cases h60:60<l.length
 ·rw [if_pos h60] at h;cases h
 ·rw [if_neg h60] at h;refine ⟨by omega, ?_⟩;have a:∀ (r:List Nd) (d:Nat) (w:Int),fj r d= .inr w→w ≠ 0:=by
   intro r
   induction r with
   |nil=>intro d w h;cases h
   | cons x r ih=>
    intro d w h;simp only [fj] at h;by_cases h1:aH x=0
    ·rw [if_pos h1] at h;by_cases h2:d<cT x.op
     ·rw [if_pos h2] at h;cases h;decide
     ·rw [if_neg h2] at h;exact ih _ _ h
    ·rw [if_neg h1] at h;cases h;exact h1
  cases b:fj l 0 with
  |inl d=>
   rw [b] at h;by_cases hd:d=1
   ·rw [hd]
   ·simp only [if_neg hd] at h;cases h
  |inr w=>rw [b] at h;exact absurd h (a l 0 w b)
theorem P4 (l:List Nd) (b:Bool) (i:∀ x ∈ l,x.sm) (k:bT l=0):CO 37 [.sl (aP l) l.length b] (.ret (.tup [.sl (aX (bh l)) l.length true,.bool true])):=by
 have c:ο l.length (aX (bh l))=aX (bh l):=Xqi (by rw [qj];unfold bh;rw [Eb];omega)
 suffices hown:CO 37 [.sl (aP l) l.length b] (.ret (.tup [.own (aX (bh l)) l.length 1,.bool true])) by
  have h:=hown.thaw (by simp);simp only [rK,Xqc,Xxz,thaw,Φ,c] at h;exact h
 have j:=tE l b i;obtain ⟨o,d⟩:=Gs k;rw [k] at j;have hloop:=fun nt (hn:45≤nt)=>PV hn l b (by omega) 1 l [] [] [] rfl d (by simp) rfl
 have e:(bh l).length=l.length:=Eb l 0 [];have h:=Y8 l b 0 (aX (bh l));simp (disch:=first|omega|(simp [aq,au]<;>omega)) only [cV,bf,decide_true,dw,eC,NR,av,Oy,Φ,c] at h;have m:(aX (bh l)).length=l.length:=by rw [qj,e]
 have p:l.length<1099511627776:=by omega
 apply h<;>first|exact True.intro|omega|assumption|exact rfl|skip
 intro nt g;have f:=az.blk (s:=Cv l b (0,[],θ l.length Xk6)) (s':=Bk l (YZ l 0 [],aX (bh l))) (id:=0) hloop (by simp) rfl (aJ.refl _) (aJ.refl _) nt g;unfold Cv Bk at f;simp only [agE,YO] at f;have a:=f.weak (s':=⟨[(0,.sl (aP l) l.length b),(2,.nilS),(3,.bool false),(4,.ref 0 0 0 l.length),(5,.nilS),(6,.dead),(7,.dead),(8,.dead),(11,.bool false),(15,.sl (aP l) l.length b),(16,ω (l.length:Int)),(17,ω 0),(18,.dead)],[(0,⟨θ l.length Xk6,0,false,0,1,true⟩)],.dead,[]⟩) (aJ.of ⟨rfl,rfl,rfl,rfl,rfl,trivial⟩) (aJ.refl _);rcases Xxu (YZ l 0 []= []) with he|he
 ·rw [he] at a;exact a
 ·have n:=Cu he;unfold YO at n;rw [n] at a;exact a.forget 1 _ (by intro v h;cases h) (by decide) rfl ⟨Fz.same rfl,trivial⟩ ⟨rfl,D3.same rfl,by decide,rfl⟩
def aI (a:Int) (n:Nat):Nat:=(a % (n:Int)).toNat
theorem cL {a:Int} {n:Nat} (h:0<n):aI a n<n:=by
 unfold aI;have c:=Yqw a (b:=(n:Int)) (by omega);have d:=Xk0 a (b:=(n:Int)) (by omega);omega
theorem Cn {k:Nat} (h:k<4611686018427387904):ω (γ .i64 (((1:Nat):Int)+(k:Int)))= ω ((1+k:Nat):Int):=by
 have e:γ .i64 (((1:Nat):Int)+(k:Int))=((1+k:Nat):Int):=by rw [bU]<;>omega
 rw [e]
theorem abn (a n:Int) (h0:lit true (decide ((Xq4 a n)<((0:Nat):Int)))=true) (b:(!(n==((0:Nat):Int)))=true):CO 29 [ω a,ω n] (.ret (ω (γ .i64 ((Xq4 a n)+n)))):=pK [] 1 1 (.c h0 (.c b .nil)) (.nil)
theorem abo (a n:Int) (h0:lit false (decide ((Xq4 a n)<((0:Nat):Int)))=true) (b:(!(n==((0:Nat):Int)))=true):CO 29 [ω a,ω n] (.ret (ω (Xq4 a n))):=pK [] 1 0 (.c h0 (.c b .nil)) (.nil)
theorem cB (a:Int) (n:Nat) (k:0<n) (g:n≤4611686018427387904):CO 29 [ω a,ω (n:Int)] (.ret (ω ((aI a n:Nat):Int))):=by
 have c:(!((n:Int)==((0:Nat):Int)))=true:=by
  rw [beq_eq_false_iff_ne.2 (by omega)];rfl
 have j:=Xwt a (b:=(n:Int)) (by omega);have m: -(n:Int)<Xq4 a n:=by
  have:=Xwt (-a) (b:=(n:Int)) (by omega);rw [Yx5] at this;omega
 have f:=Yqw a (b:=(n:Int)) (by omega);have l:=Xk0 a (b:=(n:Int)) (by omega);have d:Xq4 a n % (n:Int)=a % (n:Int):=by
  have e:=Int.mul_tdiv_add_tmod a (n:Int);have:a=Xq4 a n+(n:Int)*(Xqs a n):=by omega
  conv=>rhs;rw [this,Int.add_mul_emod_self_left]
 have i:((aI a n:Nat):Int)=a % (n:Int):=Int.toNat_of_nonneg f;rw [i];by_cases h:Xq4 a n<0
 ·have hp:=abn a n (by simpa [lit] using h) c;have e:γ .i64 (Xq4 a n+(n:Int))=a % (n:Int):=by
   rw [bU (by omega) (by omega)];rw [← d,← Int.add_emod_right,Xk7 (by omega) (by omega)]
  rw [e] at hp;exact hp
 ·have hp:=abo a n (by simp only [lit,Xqq,decide_eq_false_iff_not];exact h) c;have e:Xq4 a n=a % (n:Int):=by rw [← d,Xk7 (by omega) (by omega)]
  rw [e] at hp;exact hp
theorem vp (a:Int) (k:Nat) (h0:(chk .str (ζ (ε ((0+(δ (k:Int)))*1) [.str [97],.str [98],.str [116,97,120],.str [119,97,103,101],.str [120,95,49],.str zcc2_0]) .dead))=true) (b:(decide (((0:Nat):Int)≤(k:Int)))=true) (d:(decide ((k:Int)<((6:Nat):Int)))=true) (c:CO 29 [ω a,ω 6] (.ret (ω (k:Int)))):CO 33 [ω a] (.ret (.str (Yqn (ζ (ε ((0+(δ (k:Int)))*1) [.str [97],.str [98],.str [116,97,120],.str [119,97,103,101],.str [120,95,49],.str zcc2_0]) .dead)))):=pK [] 0 0 (.c h0 (.c b (.c d .nil))) (.c c .nil)
def ul (k:Nat):List UInt8:= [[97],[98],[116,97,120],[119,97,103,101],[120,95,49],zcc2_0].getD k []
theorem xj (a:Int):CO 33 [ω a] (.ret (.str (ul (aI a 6)))):=by
 have b:=cB a 6 (by omega) (by omega);have c:=cL (a:=a) (n:=6) (by omega);generalize aI a 6=k at*
 match k,c,b with
 |0,_,b=>exact vp a 0 rfl rfl rfl b
 |1,_,b=>exact vp a 1 rfl rfl rfl b
 |2,_,b=>exact vp a 2 rfl rfl rfl b
 |3,_,b=>exact vp a 3 rfl rfl rfl b
 |4,_,b=>exact vp a 4 rfl rfl rfl b
 |5,_,b=>exact vp a 5 rfl rfl rfl b
theorem BW (k:Nat) (h:k<6):rz (ul k)=true:=by
 match k,h with
 |0,_=>decide
 |1,_=>decide
 |2,_=>decide
 |3,_=>decide
 |4,_=>decide
 |5,_=>decide
theorem RG (q0 f s:Int) (d c i b a t v y:Nat) (w:RQ) (B:d<4611686018427387904) (l:c<4611686018427387904) (z:i<4611686018427387904) (A:b<4611686018427387904) (k:a<4611686018427387904) (u:t<4611686018427387904) (C:v<4611686018427387904) (x:y<4611686018427387904) (h0:lit true ((i:Int)==((1:Nat):Int))=true) (g:CO 29 [ω q0,ω 1000] (.ret (ω (d:Int)))) (m:CO 49 [ω (d:Int)] (.ret (.str (aa d)))) (o:CO 29 [ω f,ω 60] (.ret (ω (c:Int)))) (h:CO 49 [ω (((1+c):Nat):Int)] (.ret (.str (aa (1+c))))) (q:CO 29 [ω s,ω 4] (.ret (ω (i:Int)))) (n:CO 29 [ω q0,ω 4611686018427387904] (.ret (ω (b:Int)))) (e:CO 49 [ω (b:Int)] (.ret (.str (aa b)))) (p:CO 29 [ω f,ω 4611686018427387904] (.ret (ω (a:Int)))) (r:CO 49 [ω (((1+a):Nat):Int)] (.ret (.str (aa (1+a))))) (j:CO 51 [.bool (decide (q0<((0:Nat):Int))),.str (aa b),.str (aa (1+a))] (.ret (.agg [.bool w.neg,.str (aa w.n),.str (aa w.d)]))):CO 19 [.agg [ω q0,ω f,ω s]] (.ret (.agg [.bool w.neg,.str (aa w.n),.str (aa w.d)])):=pK [] 1 1 (.k 13 h0 (.n 9 .nil)) (.c j (.c r (.v 26 (.eq (Cn k)) (.c p (.c e (.c n (.c q (.c h (.v 12 (.eq (Cn l)) (.c o (.c m (.c g .nil))))))))))))
theorem RH (q0 k B:Int) (m j l b a C E c:Nat) (w:RQ) (I:m<4611686018427387904) (t:j<4611686018427387904) (F:l<4611686018427387904) (H:b<4611686018427387904) (s:a<4611686018427387904) (D:C<4611686018427387904) (J:E<4611686018427387904) (o:c<4611686018427387904) (h0:lit true ((l:Int)==((2:Nat):Int))=true) (G:lit false ((l:Int)==((1:Nat):Int))=true) (p:CO 29 [ω q0,ω 1000] (.ret (ω (m:Int)))) (u:CO 49 [ω (m:Int)] (.ret (.str (aa m)))) (x:CO 29 [ω k,ω 60] (.ret (ω (j:Int)))) (q:CO 49 [ω (((1+j):Nat):Int)] (.ret (.str (aa (1+j))))) (z:CO 29 [ω B,ω 4] (.ret (ω (l:Int)))) (v:CO 29 [ω q0,ω 4611686018427387904] (.ret (ω (b:Int)))) (n:CO 49 [ω (b:Int)] (.ret (.str (aa b)))) (y:CO 29 [ω k,ω 4611686018427387904] (.ret (ω (a:Int)))) (A:CO 49 [ω (a:Int)] (.ret (.str (aa a)))) (r:CO 50 [.str (aa b),.str (aa a)] (.ret (.str (aa (b*a))))) (e:CO 29 [ω k,ω 4611686018427387904] (.ret (ω (a:Int)))) (i:CO 49 [ω (((1+a):Nat):Int)] (.ret (.str (aa (1+a))))) (d:CO 29 [ω q0,ω 2147483648] (.ret (ω (c:Int)))) (f:CO 49 [ω (((1+c):Nat):Int)] (.ret (.str (aa (1+c))))) (h:CO 50 [.str (aa (1+a)),.str (aa (1+c))] (.ret (.str (aa ((1+a)*(1+c)))))) (g:CO 51 [.bool (decide (q0<((0:Nat):Int))),.str (aa (b*a)),.str (aa ((1+a)*(1+c)))] (.ret (.agg [.bool w.neg,.str (aa w.n),.str (aa w.d)]))):CO 19 [.agg [ω q0,ω k,ω B]] (.ret (.agg [.bool w.neg,.str (aa w.n),.str (aa w.d)])):=pK [] 2 2 (.k 19 h0 (.c G (.n 9 .nil))) (.c g (.c h (.c f (.v 47 (.eq (Cn o)) (.c d (.c i (.v 42 (.eq (Cn s)) (.c e (.c r (.c A (.c y (.c n (.c v (.c z (.c q (.v 12 (.eq (Cn t)) (.c x (.c u (.c p .nil)))))))))))))))))))
theorem RI (q0 g s:Int) (e d c u t a b z:Nat) (w:RQ) (E:e<4611686018427387904) (k:d<4611686018427387904) (A:c<4611686018427387904) (C:u<4611686018427387904) (D:t<4611686018427387904) (v:a<4611686018427387904) (q:b<4611686018427387904) (y:z<4611686018427387904) (h0:lit true ((c:Int)==((3:Nat):Int))=true) (B:lit false ((c:Int)==((2:Nat):Int))=true) (x:lit false ((c:Int)==((1:Nat):Int))=true) (h:CO 29 [ω q0,ω 1000] (.ret (ω (e:Int)))) (l:CO 49 [ω (e:Int)] (.ret (.str (aa e)))) (n:CO 29 [ω g,ω 60] (.ret (ω (d:Int)))) (i:CO 49 [ω (((1+d):Nat):Int)] (.ret (.str (aa (1+d))))) (p:CO 29 [ω s,ω 4] (.ret (ω (c:Int)))) (m:CO 29 [ω q0,ω 7] (.ret (ω (a:Int)))) (f:CO 49 [ω (a:Int)] (.ret (.str (aa a)))) (o:CO 29 [ω g,ω 7] (.ret (ω (b:Int)))) (r:CO 49 [ω (((1+b):Nat):Int)] (.ret (.str (aa (1+b))))) (j:CO 51 [.bool (decide (q0<((0:Nat):Int))),.str (aa a),.str (aa (1+b))] (.ret (.agg [.bool w.neg,.str (aa w.n),.str (aa w.d)]))):CO 19 [.agg [ω q0,ω g,ω s]] (.ret (.agg [.bool w.neg,.str (aa w.n),.str (aa w.d)])):=pK [] 3 4 (.k 13 h0 (.c B (.c x (.n 9 .nil)))) (.c j (.c r (.v 59 (.eq (Cn q)) (.c o (.c f (.c m (.c p (.c i (.v 12 (.eq (Cn k)) (.c n (.c l (.c h .nil))))))))))))
theorem RJ (q0 k l:Int) (c a b n m o r t:Nat) (w:RQ) (z:c<4611686018427387904) (f:a<4611686018427387904) (u:b<4611686018427387904) (x:n<4611686018427387904) (y:m<4611686018427387904) (p:o<4611686018427387904) (A:r<4611686018427387904) (s:t<4611686018427387904) (h0:lit false ((b:Int)==((3:Nat):Int))=true) (v:lit false ((b:Int)==((2:Nat):Int))=true) (q:lit false ((b:Int)==((1:Nat):Int))=true) (d:CO 29 [ω q0,ω 1000] (.ret (ω (c:Int)))) (g:CO 49 [ω (c:Int)] (.ret (.str (aa c)))) (i:CO 29 [ω k,ω 60] (.ret (ω (a:Int)))) (e:CO 49 [ω (((1+a):Nat):Int)] (.ret (.str (aa (1+a))))) (j:CO 29 [ω l,ω 4] (.ret (ω (b:Int)))) (h:CO 51 [.bool (decide (q0<((0:Nat):Int))),.str (aa c),.str (aa (1+a))] (.ret (.agg [.bool w.neg,.str (aa w.n),.str (aa w.d)]))):CO 19 [.agg [ω q0,ω k,ω l]] (.ret (.agg [.bool w.neg,.str (aa w.n),.str (aa w.d)])):=pK [] 3 0 (.k 7 h0 (.c v (.c q (.n 9 .nil)))) (.c h (.c j (.c e (.v 12 (.eq (Cn f)) (.c i (.c g (.c d .nil)))))))
def RL (q0 q1 q2:Int):Nat:=if aI q2 4=1 then (aI q0 4611686018427387904) else if aI q2 4=2 then ((aI q0 4611686018427387904)*(aI q1 4611686018427387904)) else if aI q2 4=3 then (aI q0 7) else (aI q0 1000)
def PL (q0 q1 q2:Int):Nat:=if aI q2 4=1 then (1+(aI q1 4611686018427387904)) else if aI q2 4=2 then ((1+(aI q1 4611686018427387904))*(1+(aI q0 2147483648))) else if aI q2 4=3 then (1+(aI q1 7)) else (1+(aI q1 60))
theorem Bm {a b:Nat} (h:a=b):(((a:Int))==(b:Int))=true:=by subst h;simp
theorem k_ {a b:Nat} (h:a ≠ b):(((a:Int))==(b:Int))=false:=beq_eq_false_iff_ne.2 (by omega)
theorem uh (q0 a d:Int) (h:aI d 4=2→∀ x y:Nat,x<9223372036854775808→y<9223372036854775808→CO 50 [.str (aa x),.str (aa y)] (.ret (.str (aa (x*y))))):CO 19 [.agg [ω q0,ω a,ω d]] (.ret (qA (il (decide (q0<((0:Nat):Int))) (RL q0 a d) (PL q0 a d)))):=by
 have f:(aI q0 1000)<4611686018427387904:=σ (cL (by omega)) (by omega);have g:(aI a 60)<4611686018427387904:=σ (cL (by omega)) (by omega);have l:(aI d 4)<4611686018427387904:=σ (cL (by omega)) (by omega);have c:(aI q0 4611686018427387904)<4611686018427387904:=σ (cL (by omega)) (by omega);have b:(aI a 4611686018427387904)<4611686018427387904:=σ (cL (by omega)) (by omega);have i:(aI q0 7)<4611686018427387904:=σ (cL (by omega)) (by omega);have j:(aI a 7)<4611686018427387904:=σ (cL (by omega)) (by omega);have e:(aI q0 2147483648)<4611686018427387904:=σ (cL (by omega)) (by omega);have m:aI d 4<4:=cL (by omega);unfold RL PL;by_cases e1:aI d 4=1
 ·rw [if_pos e1,if_pos e1];exact RG q0 a d (aI q0 1000) (aI a 60) (aI d 4) (aI q0 4611686018427387904) (aI a 4611686018427387904) (aI q0 7) (aI a 7) (aI q0 2147483648) (il (decide (q0<((0:Nat):Int))) (aI q0 4611686018427387904) (1+(aI a 4611686018427387904))) f g l c b i j e (aw (Bm (by omega))) (cB q0 1000 (by omega) (by omega)) (cH (aI q0 1000) (by have:=f;omega)) (cB a 60 (by omega) (by omega)) (cH (1+(aI a 60)) (by have:=g;omega)) (cB d 4 (by omega) (by omega)) (cB q0 4611686018427387904 (by omega) (by omega)) (cH (aI q0 4611686018427387904) (by have:=c;omega)) (cB a 4611686018427387904 (by omega) (by omega)) (cH (1+(aI a 4611686018427387904)) (by have:=b;omega)) (dC _ _ _ (υ (bC (k:=8) (by have:=c;omega)) (by decide)) (υ (bC (k:=8) (by have:=b;omega)) (by decide)) (by omega))
 ·rw [if_neg e1,if_neg e1];by_cases e2:aI d 4=2
  ·rw [if_pos e2,if_pos e2];have h:=h e2;exact RH q0 a d (aI q0 1000) (aI a 60) (aI d 4) (aI q0 4611686018427387904) (aI a 4611686018427387904) (aI q0 7) (aI a 7) (aI q0 2147483648) (il (decide (q0<((0:Nat):Int))) ((aI q0 4611686018427387904)*(aI a 4611686018427387904)) ((1+(aI a 4611686018427387904))*(1+(aI q0 2147483648)))) f g l c b i j e (aw (Bm (by omega))) (ay (k_ (by omega))) (cB q0 1000 (by omega) (by omega)) (cH (aI q0 1000) (by have:=f;omega)) (cB a 60 (by omega) (by omega)) (cH (1+(aI a 60)) (by have:=g;omega)) (cB d 4 (by omega) (by omega)) (cB q0 4611686018427387904 (by omega) (by omega)) (cH (aI q0 4611686018427387904) (by have:=c;omega)) (cB a 4611686018427387904 (by omega) (by omega)) (cH (aI a 4611686018427387904) (by have:=b;omega)) (h (aI q0 4611686018427387904) (aI a 4611686018427387904) (by have:=c;have:=b;have:=e;omega) (by have:=c;have:=b;have:=e;omega)) (cB a 4611686018427387904 (by omega) (by omega)) (cH (1+(aI a 4611686018427387904)) (by have:=b;omega)) (cB q0 2147483648 (by omega) (by omega)) (cH (1+(aI q0 2147483648)) (by have:=e;omega)) (h (1+(aI a 4611686018427387904)) (1+(aI q0 2147483648)) (by have:=c;have:=b;have:=e;omega) (by have:=c;have:=b;have:=e;omega)) (dC _ _ _ (υ (bC (k:=16) (by exact υ (Xj7 (Xjp c) (Xjp b)) (by decide))) (by decide)) (υ (bC (k:=16) (by exact υ (Xj7 (Xjp (show 1+_<4611686018427387905 by have:=b;omega)) (Xjp (show 1+_<4611686018427387905 by have:=e;omega))) (by decide))) (by decide)) (Xjb (by omega) (by omega)))
  ·rw [if_neg e2,if_neg e2];by_cases e3:aI d 4=3
   ·rw [if_pos e3,if_pos e3];exact RI q0 a d (aI q0 1000) (aI a 60) (aI d 4) (aI q0 4611686018427387904) (aI a 4611686018427387904) (aI q0 7) (aI a 7) (aI q0 2147483648) (il (decide (q0<((0:Nat):Int))) (aI q0 7) (1+(aI a 7))) f g l c b i j e (aw (Bm (by omega))) (ay (k_ (by omega))) (ay (k_ (by omega))) (cB q0 1000 (by omega) (by omega)) (cH (aI q0 1000) (by have:=f;omega)) (cB a 60 (by omega) (by omega)) (cH (1+(aI a 60)) (by have:=g;omega)) (cB d 4 (by omega) (by omega)) (cB q0 7 (by omega) (by omega)) (cH (aI q0 7) (by have:=i;omega)) (cB a 7 (by omega) (by omega)) (cH (1+(aI a 7)) (by have:=j;omega)) (dC _ _ _ (υ (bC (k:=8) (by have:=i;omega)) (by decide)) (υ (bC (k:=8) (by have:=j;omega)) (by decide)) (by omega))
   ·rw [if_neg e3,if_neg e3];exact RJ q0 a d (aI q0 1000) (aI a 60) (aI d 4) (aI q0 4611686018427387904) (aI a 4611686018427387904) (aI q0 7) (aI a 7) (aI q0 2147483648) (il (decide (q0<((0:Nat):Int))) (aI q0 1000) (1+(aI a 60))) f g l c b i j e (ay (k_ (by omega))) (ay (k_ (by omega))) (ay (k_ (by omega))) (cB q0 1000 (by omega) (by omega)) (cH (aI q0 1000) (by have:=f;omega)) (cB a 60 (by omega) (by omega)) (cH (1+(aI a 60)) (by have:=g;omega)) (cB d 4 (by omega) (by omega)) (dC _ _ _ (υ (bC (k:=8) (by have:=f;omega)) (by decide)) (υ (bC (k:=8) (by have:=g;omega)) (by decide)) (by omega))
theorem De (q0 b a:Int):0<PL q0 b a:=by
 unfold PL;split
 ·omega
 ·split
  ·exact Xjb (by omega) (by omega)
  ·split<;>omega
theorem IP (q0 c a:Int):RL q0 c a<2^128∧PL q0 c a<2^128:=by
 have f:(aI q0 1000)<4611686018427387904:=σ (cL (by omega)) (by omega);have j:(aI c 60)<4611686018427387904:=σ (cL (by omega)) (by omega);have i:(aI a 4)<4611686018427387904:=σ (cL (by omega)) (by omega);have d:(aI q0 4611686018427387904)<4611686018427387904:=σ (cL (by omega)) (by omega);have b:(aI c 4611686018427387904)<4611686018427387904:=σ (cL (by omega)) (by omega);have g:(aI q0 7)<4611686018427387904:=σ (cL (by omega)) (by omega);have h:(aI c 7)<4611686018427387904:=σ (cL (by omega)) (by omega);have e:(aI q0 2147483648)<4611686018427387904:=σ (cL (by omega)) (by omega);unfold RL PL;by_cases e1:aI a 4=1
 ·rw [if_pos e1,if_pos e1];omega
 ·rw [if_neg e1,if_neg e1];by_cases e2:aI a 4=2
  ·rw [if_pos e2,if_pos e2];exact ⟨by exact υ (Xj7 (Xjp d) (Xjp b)) (by decide),by exact υ (Xj7 (Xjp (show 1+_<4611686018427387905 by have:=b;omega)) (Xjp (show 1+_<4611686018427387905 by have:=e;omega))) (by decide)⟩
  ·rw [if_neg e2,if_neg e2];by_cases e3:aI a 4=3
   ·rw [if_pos e3,if_pos e3];omega
   ·rw [if_neg e3,if_neg e3];omega
theorem abE (w:RQ) (h0:lit true (!((aa w.n)== []))=true) (a:CO 70 [.agg [.bool w.neg,.str (aa w.n),.str (aa w.d)]] (.ret (.agg [.bool w.neg,.str (aa w.n),.str (aa w.d)]))):CO 59 [.agg [.bool w.neg,.str (aa w.n),.str (aa w.d)]] (.ret (Ω (!w.neg) (aa w.n) (aa w.d))):=pK [] 1 1 (.k 9 h0 (.n 5 .nil)) (.c a .nil)
theorem Ye (q0 c a:Int) (w:RQ) (b:Int) (h0:lit false (b==((0:Nat):Int))=true) (d:lit true w.neg=true) (f:CO 19 [.agg [ω q0,ω c,ω a]] (.ret (.agg [.bool w.neg,.str (aa w.n),.str (aa w.d)]))) (e:CO 59 [.agg [.bool w.neg,.str (aa w.n),.str (aa w.d)]] (.ret (Ω false (aa w.n) (aa w.d)))) (g:CO 45 [Ω false (aa w.n) (aa w.d)] (.ret (ω b))):CO 35 [.agg [ω q0,ω c,ω a]] (.ret (Ω false (aa w.n) (aa w.d))):=pK [] 2 1 (.k 7 h0 (.k 7 d (.n 5 .nil))) (.c g (.c e (.c f .nil)))
theorem Yf (q0 c a:Int) (w:RQ) (b:Int) (h0:lit true (b==((0:Nat):Int))=true) (d:lit false w.neg=true) (f:CO 19 [.agg [ω q0,ω c,ω a]] (.ret (.agg [.bool w.neg,.str (aa w.n),.str (aa w.d)]))) (e:CO 45 [.agg [.bool w.neg,.str (aa w.n),.str (aa w.d)]] (.ret (ω b))) (g:CO 60 [] (.ret (Ω false [1] [100]))):CO 35 [.agg [ω q0,ω c,ω a]] (.ret (Ω false [1] [100])):=pK [] 2 2 (.k 4 h0 (.k 3 d (.n 5 .nil))) (.c g (.c e (.c f .nil)))
theorem Yg (q0 c a:Int) (w:RQ) (b:Int) (h0:lit false (b==((0:Nat):Int))=true) (d:lit false w.neg=true) (f:CO 19 [.agg [ω q0,ω c,ω a]] (.ret (.agg [.bool w.neg,.str (aa w.n),.str (aa w.d)]))) (e:CO 45 [.agg [.bool w.neg,.str (aa w.n),.str (aa w.d)]] (.ret (ω b))):CO 35 [.agg [ω q0,ω c,ω a]] (.ret (.agg [.bool w.neg,.str (aa w.n),.str (aa w.d)])):=pK [] 2 0 (.k 7 h0 (.k 3 d (.n 5 .nil))) (.c e (.c f .nil))
theorem WW (n:Int) (k8 k2:Nat) (w:RQ) (a:Bool) (i:List UInt8) (b:k8<4611686018427387904) (h0:lit false a=true) (c:lit true ((((1+k8):Nat):Int)==((4:Nat):Int))=true) (e:CO 29 [ω n,ω 8] (.ret (ω (k8:Int)))) (d:CO 19 [.agg [ω (γ .i64 (Xqs n ((8:Nat):Int))),ω (γ .i64 (Xqs n ((24:Nat):Int))),ω (γ .i64 (((3:Nat):Int)*(Xq4 (γ .i64 (Xqs n ((8:Nat):Int))) ((2:Nat):Int))))]] (.ret (.agg [.bool w.neg,.str (aa w.n),.str (aa w.d)]))) (g:CO 29 [ω (γ .i64 (Xqs n ((8:Nat):Int))),ω 2] (.ret (ω (k2:Int)))) (f:CO 36 [ω (k2:Int)] (.ret (Ω false (aa k2) (aa 1)))) (h:CO 32 [ω (((1+k8):Nat):Int)] (.ret (.bool a))):CO 31 [ω n] (.ret (.agg [ω (((1+k8):Nat):Int),.bool false,.str (aa k2),.str (aa 1),.str []])):=pK [] 2 1 (.k 9 h0 (.k 2 c (.n 5 .nil))) (.c h (.c f (.c g (.c d (.v 7 (.eq (Cn b)) (.c e .nil))))))
theorem WX (n:Int) (k8 k2:Nat) (w:RQ) (a:Bool) (c:List UInt8) (b:k8<4611686018427387904) (h0:lit true a=true) (d:lit false ((((1+k8):Nat):Int)==((4:Nat):Int))=true) (f:CO 29 [ω n,ω 8] (.ret (ω (k8:Int)))) (e:CO 19 [.agg [ω (γ .i64 (Xqs n ((8:Nat):Int))),ω (γ .i64 (Xqs n ((24:Nat):Int))),ω (γ .i64 (((3:Nat):Int)*(Xq4 (γ .i64 (Xqs n ((8:Nat):Int))) ((2:Nat):Int))))]] (.ret (.agg [.bool w.neg,.str (aa w.n),.str (aa w.d)]))) (h:CO 32 [ω (((1+k8):Nat):Int)] (.ret (.bool a))) (g:CO 33 [ω (γ .i64 (Xqs n ((8:Nat):Int)))] (.ret (.str c))):CO 31 [ω n] (.ret (.agg [ω (((1+k8):Nat):Int),.bool false,.str [],.str [],.str c])):=pK [] 2 2 (.k 7 h0 (.c d (.n 5 .nil))) (.c g (.c h (.c e (.v 7 (.eq (Cn b)) (.c f .nil)))))
theorem WY (n:Int) (k8 k2:Nat) (w:RQ) (a:Bool) (g:List UInt8) (b:k8<4611686018427387904) (h0:lit false a=true) (c:lit false ((((1+k8):Nat):Int)==((4:Nat):Int))=true) (e:CO 29 [ω n,ω 8] (.ret (ω (k8:Int)))) (d:CO 19 [.agg [ω (γ .i64 (Xqs n ((8:Nat):Int))),ω (γ .i64 (Xqs n ((24:Nat):Int))),ω (γ .i64 (((3:Nat):Int)*(Xq4 (γ .i64 (Xqs n ((8:Nat):Int))) ((2:Nat):Int))))]] (.ret (.agg [.bool w.neg,.str (aa w.n),.str (aa w.d)]))) (f:CO 32 [ω (((1+k8):Nat):Int)] (.ret (.bool a))):CO 31 [ω n] (.ret (.agg [ω (((1+k8):Nat):Int),.bool w.neg,.str (aa w.n),.str (aa w.d),.str []])):=pK [] 2 0 (.k 9 h0 (.c c (.n 5 .nil))) (.c f (.c d (.v 7 (.eq (Cn b)) (.c e .nil))))
theorem ce0:CO 76 [.str [0,0,0,0,0,0,0,1]] (.ret (.str [1])):=cK (.nil)
theorem ce1:CO 49 [ω 1] (.ret (.str [1])):=cK (.c ce0 .nil)
theorem ce2:CO 76 [.str [0,0,0,0,0,0,0,100]] (.ret (.str [100])):=cK (.nil)
theorem ce3:CO 49 [ω 100] (.ret (.str [100])):=cK (.c ce2 .nil)
theorem ce4:CO 128 [.str [1]] (.ret (.bool true)):=cK (.nil)
theorem ce5:CO 128 [.str [100]] (.ret (.bool true)):=cK (.nil)
theorem Zp:CO 76 [.str [1]] (.ret (.str [1])):=cK (.nil)
theorem ce7:CO 76 [.str [100]] (.ret (.str [100])):=cK (.nil)
theorem ce8:CO 107 [.str [1]] (.ret (.tup [ω 1,.bool true])):=cK (.c Zp .nil)
theorem ce9:CO 77 [.str [1],ω 7] (.ret (.tup [ω 1,.bool true])):=cK (.c ce8 (.c Zp .nil))
theorem aeQ:CO 107 [.str [100]] (.ret (.tup [ω 100,.bool true])):=cK (.c ce7 .nil)
theorem Zn:CO 77 [.str [100],ω 7] (.ret (.tup [ω 100,.bool true])):=cK (.c aeQ (.c ce7 .nil))
theorem aeR:CO 76 [.str []] (.ret (.str [])):=cK (.nil)
theorem VE:CO 49 [ω 0] (.ret (.str [])):=cK (.c aeR .nil)
theorem aeS:CO 81 [.str [1],.str [100]] (.ret (.tup [.str [],.str [1],.bool true])):=cK (.c ce1 (.c VE (.c Zn (.c ce9 (.c ce7 .nil)))))
theorem Zo:CO 81 [.str [100],.str [1]] (.ret (.tup [.str [100],.str [],.bool true])):=cK (.c VE (.c ce3 (.c ce9 (.c Zn (.c Zp .nil)))))
theorem aeT:CO 80 [.str [1],.str [100]] (.ret (.str [1])):=cK (.c Zo (.c aeS (.c ce7 (.c Zp .nil))))
theorem aeU:CO 81 [.str [1],.str [1]] (.ret (.tup [.str [1],.str [],.bool true])):=cK (.c VE (.c ce1 (.c ce9 (.c ce9 (.c Zp .nil)))))
theorem aeV:CO 51 [.bool false,.str [1],.str [100]] (.ret (Ω false [1] [100])):=cK (.c Zo (.c aeU (.c aeT .nil)))
theorem aeW:CO 96 [.bool false,.str [1],.str [100]] (.ret (.tup [Ω false [1] [100],.bool true])):=cK (.c aeV (.c ce5 (.c ce4 .nil)))
theorem aeX:CO 60 [] (.ret (Ω false [1] [100])):=cK (.c aeW (.c ce3 (.c ce1 .nil)))
theorem nS {s:List UInt8} (h:nR s=true):aa (ae s)=s:=by
 rw [ui];cases s with
 |nil=>rfl
 |cons c r=>
  have:(c==0)=false:=by simpa [nR] using h
  rw [Xxv,if_neg (by rw [this];decide)]
theorem dx {x:Nat} (h:x<2^128):(aa x).length<2^33:=υ (bC (k:=16) h) (by decide)
theorem Iq {w:RQ} (b:w.ok) (a:w.n<2^128) (hd:w.d<2^128):dK w.neg (aa w.n) (aa w.d)=true:=by
 have c:=fk a;have d:=fk hd;unfold dK;rw [pu w b,aC,aC,Yq0 (by omega),Yq0 (by omega)];rfl
theorem Hv {w:RQ} (c:w.ok) (a:w.neg=false) (b:0<w.n):jK w.neg (aa w.n) (aa w.d)=1:=by
 unfold jK;rw [if_pos ⟨pu w c,by rw [aC];exact b⟩,a];rfl
theorem Tg {w:RQ} (a:w.n=0):jK w.neg (aa w.n) (aa w.d)=0:=by
 unfold jK;rw [if_neg];rw [aC];omega
theorem G8 (neg:Bool) (n d:Nat) (a:n<2^128) (hd:d<2^128):(il neg n d).n<2^128∧(il neg n d).d<2^128:=
 ⟨υ (Xji _ _) a,υ (Xji _ _) hd⟩
theorem O6 (q0 a:Int):∃ w:RQ,w.ok∧w.neg=false∧0<w.n∧w.n<2^128∧w.d<2^128∧CO 35 [.agg [ω q0,ω a,ω 3]] (.ret (qA w)):=by
 have h:=uh q0 a 3 (fun h=>absurd h (by decide));obtain ⟨n,m⟩:=IP q0 a 3;obtain ⟨d,e⟩:=G8 (decide (q0<((0:Nat):Int))) _ _ n m;have c:(il (decide (q0<((0:Nat):Int))) (RL q0 a 3) (PL q0 a 3)).ok:=lp (De _ _ _);generalize il (decide (q0<((0:Nat):Int))) (RL q0 a 3) (PL q0 a 3)=w at*
 have f:qA ⟨false,1,100⟩= Ω false [1] [100]:=by
  unfold qA;rw [show aa 1= [1] from nS (s:= [1]) rfl,show aa 100= [100] from nS (s:= [100]) rfl]
 have l:(⟨false,1,100⟩:RQ).ok:=⟨by decide,by decide,by simp⟩
 rcases tf w.neg with b0|b0
 ·have hp:=c.2.2 b0;have i:(!((aa w.n)== []))=true:=by
   have:aa w.n ≠ []:=fun h=>by have:=dL.1 h;omega
   simpa using this
  have k:=eY w.neg (aa w.n) (aa w.d) (dx d) (dx e);rw [show vQ w.neg (aa w.n) (aa w.d)=w by unfold vQ;rw [if_pos (pu w c),aC,aC]] at k;have j:=abE w (aw i) k;rw [show (!w.neg)=false by rw [b0];rfl] at j;have g:(⟨false,w.n,w.d⟩:RQ).ok:=⟨c.1,c.2.1,by simp⟩
  have b:=vu false (aa w.n) (aa w.d) (dx d) (dx e);rw [Hv (w:=⟨false,w.n,w.d⟩) g rfl hp] at b;exact ⟨⟨false,w.n,w.d⟩,g,rfl,hp,d,e,Ye q0 a 3 w 1 (ay (by decide)) (aw b0) h j b⟩
 ·have b:=vu w.neg (aa w.n) (aa w.d) (dx d) (dx e);rcases Ξ w.n with hz|hp
  ·rw [Tg hz] at b;have:=Yf q0 a 3 w 0 (aw (by decide)) (ay b0) h b aeX;exact ⟨⟨false,1,100⟩,l,rfl,by decide,by decide,by decide,by rw [f];exact this⟩
  ·rw [Hv c b0 hp] at b;exact ⟨w,c,b0,hp,d,e,Yg q0 a 3 w 1 (ay (by decide)) (ay b0) h b⟩
theorem Cq {a:Int} (h:a=1∨a=2∨a=3) {w:RQ} (d:w.ok) (b:w.n<2^128) (hd:w.d<2^128):aH ⟨a,w.neg,aa w.n,aa w.d,[]⟩=0:=by
 have c:=Iq d b hd;rcases h with rfl|rfl|rfl<;>simp [aH,fo,Iz,iY,wJ,lX,c]
theorem HS {b:Int} (h:b=21∨b=22∨b=23) {w:RQ} (c:w.ok) (a:w.neg=false) (hp:0<w.n) (d:w.n<2^128) (hd:w.d<2^128):aH ⟨b,w.neg,aa w.n,aa w.d,[]⟩=0:=by
 have e:=Iq c d hd;have hs:=Hv c a hp;rcases h with rfl|rfl|rfl<;>simp [aH,fo,Iz,iY,wJ,lX,e,hs]
theorem F4 {k:Nat} (h:k<2):aH ⟨4,false,aa k,aa 1,[]⟩=0:=by
 have:k=0∨k=1:=by omega
 rcases this with rfl|rfl<;>simp [aH,fo,Iz,iY,sO]
theorem Ao {a:Int} (h:a=5∨a=6∨a=7∨a=8∨a=24) {b:List UInt8} (c:rz b=true):aH ⟨a,false,[],[],b⟩=0:=by
 rcases h with rfl|rfl|rfl|rfl|rfl<;>simp [aH,fo,Iz,iY,wJ,lX,c]
theorem F3 {a:Int} (h:9≤a∧a≤20):aH ⟨a,false,[],[],[]⟩=0:=by
 have b:Iz a=true:=Yq0 (by omega);have f:iY a=false:=Yq1 (by omega);have e:wJ a=false:=Yq1 (by omega);have c:lX a=false:=Yq1 (by omega);have d:(a==((4:Nat):Int))=false:=beq_eq_false_iff_ne.2 (by omega);unfold aH fo;rw [b,f,e,c,d];rfl
theorem Rt (n:Int):∃ x:Nd,x.sm∧aH x=0∧cT x.op=0∧CO 31 [ω n] (.ret (.agg (nJ x))):=by
 have c:=cB n 8 (by omega) (by omega);have y:aI n 8<8:=cL (by omega);generalize aI n 8=k8 at*
 generalize l:(γ .i64 (Xqs n ((8:Nat):Int)))=q at*
 have v: -2<Xq4 q 2∧Xq4 q 2<2:=by
  have u:=Xwt q (b:=2) (by omega);have e:=Xwt (-q) (b:=2) (by omega);rw [Yx5] at e;omega
 have f:aI (γ .i64 (((3:Nat):Int)*(Xq4 q ((2:Nat):Int)))) 4 ≠ 2:=by
  rw [show ((2:Nat):Int)=2 from rfl];rw [bU (by omega) (by omega)];have:Xq4 q 2= -1∨Xq4 q 2=0∨Xq4 q 2=1:=by omega
  rcases this with h|h|h<;>rw [h]<;>decide
 have d:=uh q (γ .i64 (Xqs n ((24:Nat):Int))) (γ .i64 (((3:Nat):Int)*(Xq4 q ((2:Nat):Int)))) (fun h=>absurd h f);obtain ⟨k,p⟩:=IP q (γ .i64 (Xqs n ((24:Nat):Int))) (γ .i64 (((3:Nat):Int)*(Xq4 q ((2:Nat):Int))));obtain ⟨g,i⟩:=G8 (decide (q<((0:Nat):Int))) _ _ k p;have t:=lp (neg:=decide (q<((0:Nat):Int))) (n:=RL q (γ .i64 (Xqs n ((24:Nat):Int))) (γ .i64 (((3:Nat):Int)*(Xq4 q ((2:Nat):Int))))) (De q (γ .i64 (Xqs n ((24:Nat):Int))) (γ .i64 (((3:Nat):Int)*(Xq4 q ((2:Nat):Int)))));generalize il (decide (q<((0:Nat):Int))) (RL q (γ .i64 (Xqs n ((24:Nat):Int))) (γ .i64 (((3:Nat):Int)*(Xq4 q ((2:Nat):Int))))) (PL q (γ .i64 (Xqs n ((24:Nat):Int))) (γ .i64 (((3:Nat):Int)*(Xq4 q ((2:Nat):Int)))))=w at*
 have a:=IW (((1+k8:Nat):Int));have s:=xj q;have hp:=BW (aI q 6) (cL (by omega));generalize ul (aI q 6)=nm at*
 have m:=cB q 2 (by omega) (by omega);have e:aI q 2<2:=cL (by omega);generalize aI q 2=k2 at*
 have j:=cQ k2 (by omega);have o:(aa k2).length<2^33:=dx (by omega);have r:(aa 1).length<2^33:=dx (by decide);subst l;by_cases e4:k8=3
 ·rw [show iY ((1+k8:Nat):Int)=false by subst e4;rfl] at a;refine ⟨⟨((1+k8:Nat):Int),false,aa k2,aa 1,[]⟩,⟨o,r⟩, ?_,by subst e4;rfl,WW n k8 k2 w false nm (by omega) (ay rfl) (aw (Bm (by omega))) c d m j a⟩;subst e4;exact F4 e
 ·by_cases e5:k8<3
  ·rw [show iY ((1+k8:Nat):Int)=false from Yq1 (by omega)] at a;exact ⟨⟨((1+k8:Nat):Int),w.neg,aa w.n,aa w.d,[]⟩,⟨dx g,dx i⟩,Cq (by omega) t g i,by unfold cT;simp only;(repeat' split)<;>omega,WY n k8 k2 w false nm (by omega) (ay rfl) (ay (k_ (by omega))) c d a⟩
  ·rw [show iY ((1+k8:Nat):Int)=true from Yq0 (by omega)] at a;exact ⟨⟨((1+k8:Nat):Int),false,[],[],nm⟩,⟨by simp,by simp⟩,Ao (by omega) hp,by unfold cT;simp only;(repeat' split)<;>omega,WX n k8 k2 w true nm (by omega) (aw rfl) (ay (k_ (by omega))) c d a s⟩
theorem Y0 {k:Nat} (h:k<2^62):ω (γ .i64 ((k:Int)+((1:Nat):Int)))= ω ((k+1:Nat):Int):=by
 have e:γ .i64 ((k:Int)+((1:Nat):Int))=((k+1:Nat):Int):=by rw [bU]<;>omega
 rw [e]
theorem bw (k:Nat):decide (((0:Nat):Int)≤(k:Int))=true:=Yq0 (by omega)
theorem aF {k n:Nat} (h:k<n):decide ((k:Int)<(n:Int))=true:=Yq0 (by omega)
theorem J5 {k n:Nat} (h:k≤n):decide ((k:Int)≤(n:Int))=true:=Yq0 (by omega)
def nj (w:List UInt8):List UInt8→Nat
 | []=>0
 |c::r=>if w.any (fun b=>c==b) then nj w r+1 else 0
theorem CA (w:List UInt8):∀ s,nj w s≤s.length
 | []=>φ _
 |c::r=>by
  unfold nj;split
  ·have:=CA w r;simp only [μ];omega
  ·exact Xxf _
theorem Ui (a b:UInt8):((a.toNat:Int)==(b.toNat:Int))=(a==b):=by
 by_cases h:a=b
 ·subst h;simp
 ·have:a.toNat ≠ b.toNat:=fun e=>h (UInt8.toNat_inj.1 e)
  rw [beq_eq_false_iff_ne.2 h,beq_eq_false_iff_ne.2 (by omega)]
def wia (s w:List UInt8) (bg:Int) (bd:Bool) (n:Nat) (p:Nat × Bool):St:=⟨[(0,.ptr 0 0 0),(1,.str w),(5,ω (n:Int)),(6,.bool p.2),(7,ω (p.1:Int))],[(0,⟨[.str s,.nilS,ω bg,.bool bd],0,false,0,0,true⟩)],.dead,[]⟩
def woa (s w:List UInt8) (bg:Int) (bd:Bool) (n:Nat) (inn:Bool):St:=⟨[(0,.ptr 0 0 0),(1,.str w),(5,ω (n:Int)),(6,.bool inn)],[(0,⟨[.str s,.nilS,ω bg,.bool bd],0,false,0,0,true⟩)],.dead,[]⟩
theorem wla {nt:Nat} (h:55≤nt) (s w:List UInt8) (g:Int) (f:Bool) (n:Nat) (i:n<s.length) (j:w.length<2^40):∀ (d k:Nat) (a:Bool),k+d=w.length→
  az prog ap [⟨[.str s,.nilS,ω g,.bool f],0,false,0,0,true⟩] nt (ac 2 (af f92)) (fun _=> .exit 2) (wia s w g f n) (woa s w g f n) (k,a) (a||(w.drop k).any (fun b=>s.getD n 0==b)):=by
 intro d
 induction d with
 |zero=>
  intro k a m;have e:(decide ((k:Int)<(((η w):Nat):Int)))=false:=Yq1 (by omega);rw [Xxy (by omega),Yx7,Yxq];exact .done (pN 92 [] 1 0 (.c (ay e) .nil) (.nil) h)
 | succ d ih=>
  intro k a m;have e:(decide ((k:Int)<(((η w):Nat):Int)))=true:=Yq0 (by omega);have c:k<w.length:=by omega
  have j:k<2^62:=by omega
  have o:(w.drop k).any (fun b=>s.getD n 0==b)=(s.getD n 0==w.getD k 0||(w.drop (k+1)).any (fun b=>s.getD n 0==b)):=by
   rw [Xxh c,Xwu,ν,ν (l:=w),ξ c];rfl
  rw [o];rcases tf a with b1|b1
  ·have:=ih (k+1) true (by omega);rw [Xkk] at this;rw [show (a||(s.getD n 0==w.getD k 0||(w.drop (k+1)).any (fun b=>s.getD n 0==b)))=true by rw [b1,Xkk]];exact .next (pN 92 [] 2 3 (.c (aw b1) (.c (aw e) .nil)) (.v 7 (.eq (Y0 j)) .nil) h) this
  ·have:=ih (k+1) (s.getD n 0==w.getD k 0) (by omega);rw [show (a||(s.getD n 0==w.getD k 0||(w.drop (k+1)).any (fun b=>s.getD n 0==b)))=(s.getD n 0==w.getD k 0||(w.drop (k+1)).any (fun b=>s.getD n 0==b)) by rw [b1,Xzk]];rw [← Ui (s.getD n 0) (w.getD k 0)] at this ⊢;exact .next (pN 92 [] 2 1 (.c (bw k) (.c (aF c) (.c (bw n) (.c (aF i) (.k 1 (ay b1) (.c (aw e) .nil)))))) (.v 7 (.eq (Y0 j)) .nil) h) this
def wsa (s w:List UInt8) (bg:Int) (bd:Bool) (n:Nat):St:=⟨[(0,.ptr 0 0 0),(1,.str w),(5,ω (n:Int))],[(0,⟨[.str s,.nilS,ω bg,.bool bd],0,false,0,0,true⟩)],.dead,[]⟩
def wra (s w:List UInt8) (bg:Int) (bd:Bool) (n:Nat):St:=⟨[(0,.ptr 0 0 0),(5,ω (n:Int))],[(0,⟨[.str s,.nilS,ω bg,.bool bd],0,false,0,0,true⟩)],.dead,[]⟩
theorem wma {nt:Nat} (j:55≤nt) (s w:List UInt8) (d:Int) (a:Bool) (hs:s.length<2^40) (m:w.length<2^40):∀ (r p:List UInt8),p++r=s→
  az prog ap [⟨[.str s,.nilS,ω d,.bool a],0,false,0,0,true⟩] nt (ac 0 (af f92)) (fun _=> .exit 0) (wsa s w d a) (wra s w d a) p.length (p.length+nj w r):=by
 intro r
 induction r with
 |nil=>
  intro p hp;have o:p.length=s.length:=by rw [← hp];simp
  generalize p.length=n at*
  have k:(decide ((n:Int)<(((η s):Nat):Int)))=false:=Yq1 (by omega);exact .done (pN 92 [2] 1 0 (.c (ay k) (.n 1 .nil)) (.nil) j)
 | cons c r ih=>
  intro p hp;have o:p.length<s.length:=by rw [← hp];simp
  have q:s.getD p.length 0=c:=by rw [← hp,ν];simp
  have g:=ih (p++ [c]) (by rw [← hp];simp);rw [κ,τ] at g;unfold nj;generalize p.length=n at*
  have k:(decide ((n:Int)<(((η s):Nat):Int)))=true:=Yq0 (by omega);have l:n<2^62:=by omega
  have f:∀ e,e=w.any (fun b=>c==b)→aG prog ap [⟨[.str s,.nilS,ω d,.bool a],0,false,0,0,true⟩] 55 (.block 2 (.loop (ac 2 (af f92)))) ⟨[(0,.ptr 0 0 0),(1,.str w),(4,.dead),(5,ω (n:Int)),(6,.bool false),(7,ω 0),(8,.dead),(15,.bool (decide ((n:Int)<(((η s):Nat):Int)))),(19,.dead),(36,.dead)],[(0,⟨[.str s,.nilS,ω d,.bool a],0,false,0,0,true⟩)],.dead,[]⟩ (.normal) ⟨[(0,.ptr 0 0 0),(1,.str w),(5,ω (n:Int)),(6,.bool e)],[(0,⟨[.str s,.nilS,ω d,.bool a],0,false,0,0,true⟩)],.dead,[]⟩:=by
   intro e i;have h:∀ nt,55≤nt→az prog ap [⟨[.str s,.nilS,ω d,.bool a],0,false,0,0,true⟩] nt (ac 2 (af f92)) (fun _=> .exit 2) (wia s w d a n) (woa s w d a n) (0,false) e:=by
    intro nt j;have:=wla j s w d a n o m w.length 0 false (Θ _);rw [Xjq,q,Xzk,← i] at this;exact this
   exact az.blk h (by simp) rfl (aJ.of ⟨rfl,rfl,rfl,rfl,rfl,trivial⟩) (aJ.of ⟨rfl,rfl,rfl,rfl,trivial⟩)
  rcases tf (w.any (fun b=>c==b)) with b1|b1
  ·rw [if_pos b1];have i:(true:Bool)=w.any (fun b=>c==b):=b1.symm;have f:=f true i;rw [show n+(nj w r+1)=n+1+nj w r by omega];have m:=l;exact .next (pN 92 [2] 2 1 (.k 1 (aw k) (.n 1 .nil)) (.v 38 (.eq (Y0 m)) (.l f .nil)) j) g
  ·rw [if_neg (by rw [b1];decide)];have i:(false:Bool)=w.any (fun b=>c==b):=b1.symm;have f:=f false i;exact .done (pN 92 [2] 2 3 (.k 1 (aw k) (.n 1 .nil)) (.l f .nil) j)
theorem wfa (s w:List UInt8) (b:Int) (a:Bool) (n:Nat) (c:n≤s.length) (d:aG prog ap [⟨[.str s,.nilS,ω b,.bool a],0,false,0,0,true⟩] 55 (.block 0 (.loop (ac 0 (af f92)))) ⟨[(0,.ptr 0 0 0),(1,.str w),(4,.str []),(5,ω 0),(6,.dead),(7,.dead),(8,.dead),(15,.dead),(19,.dead),(36,.dead)],[(0,⟨[.str s,.nilS,ω b,.bool a],0,false,0,0,true⟩)],.dead,[]⟩ (.normal) ⟨[(0,.ptr 0 0 0),(5,ω (n:Int))],[(0,⟨[.str s,.nilS,ω b,.bool a],0,false,0,0,true⟩)],.dead,[]⟩):aj prog ap 92 [.ptr 0 0 0,.str w] [⟨[.str s,.nilS,ω b,.bool a],0,false,0,0,true⟩] (.ret (.str (ε 0 (ο (δ (n:Int)) s)))) [⟨[.str (ε (δ (n:Int)) (ο (δ (((η s):Nat):Int)) s)),.nilS,ω b,.bool a],0,false,0,0,true⟩]:=pK [0] 0 0 (.k 1 (bw n) (.c (J5 c) (.c (J5 (φ s.length)) (.k 2 (bw n) (.c (J5 c) (.n 1 .nil)))))) (.l d .nil)
theorem dI (s w:List UInt8) (b:Int) (a:Bool) (hs:s.length<2^40) (d:w.length<2^40):aj prog ap 92 [.ptr 0 0 0,.str w] [⟨[.str s,.nilS,ω b,.bool a],0,false,0,0,true⟩] (.ret (.str (ε 0 (ο (δ ((nj w s:Nat):Int)) s)))) [⟨[.str (ε (δ ((nj w s:Nat):Int)) (ο (δ (((η s):Nat):Int)) s)),.nilS,ω b,.bool a],0,false,0,0,true⟩]:=by
 have h:∀ nt,55≤nt→az prog ap [⟨[.str s,.nilS,ω b,.bool a],0,false,0,0,true⟩] nt (ac 0 (af f92)) (fun _=> .exit 0) (wsa s w b a) (wra s w b a) 0 (nj w s):=by
  intro nt c;have:=wma c s w b a hs d s [] rfl;rw [χ,Θ] at this;exact this
 exact wfa s w b a (nj w s) (CA w s) (az.blk h (by simp) rfl (aJ.of ⟨rfl,rfl,rfl,trivial⟩) (aJ.of ⟨rfl,rfl,trivial⟩))
def wib (s w:List UInt8) (bg:Int) (bd:Bool) (m:Nat) (os:List AV) (n:Nat) (p:Nat × Bool):St:=⟨[(0,.ptr 0 0 0),(1,.str w),(5,ω (n:Int)),(6,.bool p.2),(7,ω (p.1:Int))],[(0,⟨[.str s,.ref 1 0 0 m,ω bg,.bool bd],0,false,0,0,false⟩),(1,⟨os,0,false,0,5,true⟩)],.dead,[]⟩
def wob (s w:List UInt8) (bg:Int) (bd:Bool) (m:Nat) (os:List AV) (n:Nat) (inn:Bool):St:=⟨[(0,.ptr 0 0 0),(1,.str w),(5,ω (n:Int)),(6,.bool inn)],[(0,⟨[.str s,.ref 1 0 0 m,ω bg,.bool bd],0,false,0,0,false⟩),(1,⟨os,0,false,0,5,true⟩)],.dead,[]⟩
theorem wlb {nt:Nat} (h:55≤nt) (s w:List UInt8) (g:Int) (f:Bool) (m:Nat) (os:List AV) (n:Nat) (i:n<s.length) (j:w.length<2^40):∀ (d k:Nat) (a:Bool),k+d=w.length→
  az prog ap [⟨[.str s,.ref 1 0 0 m,ω g,.bool f],0,false,0,0,false⟩,⟨os,0,false,0,5,true⟩] nt (ac 2 (af f92)) (fun _=> .exit 2) (wib s w g f m os n) (wob s w g f m os n) (k,a) (a||(w.drop k).any (fun b=>s.getD n 0==b)):=by
 intro d
 induction d with
 |zero=>
  intro k a o;have e:(decide ((k:Int)<(((η w):Nat):Int)))=false:=Yq1 (by omega);rw [Xxy (by omega),Yx7,Yxq];exact .done (pN 92 [] 1 0 (.c (ay e) .nil) (.nil) h)
 | succ d ih=>
  intro k a o;have e:(decide ((k:Int)<(((η w):Nat):Int)))=true:=Yq0 (by omega);have c:k<w.length:=by omega
  have j:k<2^62:=by omega
  have p:(w.drop k).any (fun b=>s.getD n 0==b)=(s.getD n 0==w.getD k 0||(w.drop (k+1)).any (fun b=>s.getD n 0==b)):=by
   rw [Xxh c,Xwu,ν,ν (l:=w),ξ c];rfl
  rw [p];rcases tf a with b1|b1
  ·have:=ih (k+1) true (by omega);rw [Xkk] at this;rw [show (a||(s.getD n 0==w.getD k 0||(w.drop (k+1)).any (fun b=>s.getD n 0==b)))=true by rw [b1,Xkk]];exact .next (pN 92 [] 2 3 (.c (aw b1) (.c (aw e) .nil)) (.v 7 (.eq (Y0 j)) .nil) h) this
  ·have:=ih (k+1) (s.getD n 0==w.getD k 0) (by omega);rw [show (a||(s.getD n 0==w.getD k 0||(w.drop (k+1)).any (fun b=>s.getD n 0==b)))=(s.getD n 0==w.getD k 0||(w.drop (k+1)).any (fun b=>s.getD n 0==b)) by rw [b1,Xzk]];rw [← Ui (s.getD n 0) (w.getD k 0)] at this ⊢;exact .next (pN 92 [] 2 1 (.c (bw k) (.c (aF c) (.c (bw n) (.c (aF i) (.k 1 (ay b1) (.c (aw e) .nil)))))) (.v 7 (.eq (Y0 j)) .nil) h) this
def wsb (s w:List UInt8) (bg:Int) (bd:Bool) (m:Nat) (os:List AV) (n:Nat):St:=⟨[(0,.ptr 0 0 0),(1,.str w),(5,ω (n:Int))],[(0,⟨[.str s,.ref 1 0 0 m,ω bg,.bool bd],0,false,0,0,false⟩),(1,⟨os,0,false,0,5,true⟩)],.dead,[]⟩
def wrb (s w:List UInt8) (bg:Int) (bd:Bool) (m:Nat) (os:List AV) (n:Nat):St:=⟨[(0,.ptr 0 0 0),(5,ω (n:Int))],[(0,⟨[.str s,.ref 1 0 0 m,ω bg,.bool bd],0,false,0,0,false⟩),(1,⟨os,0,false,0,5,true⟩)],.dead,[]⟩
theorem wmb {nt:Nat} (j:55≤nt) (s w:List UInt8) (d:Int) (a:Bool) (m:Nat) (os:List AV) (hs:s.length<2^40) (o:w.length<2^40):∀ (r p:List UInt8),p++r=s→
  az prog ap [⟨[.str s,.ref 1 0 0 m,ω d,.bool a],0,false,0,0,false⟩,⟨os,0,false,0,5,true⟩] nt (ac 0 (af f92)) (fun _=> .exit 0) (wsb s w d a m os) (wrb s w d a m os) p.length (p.length+nj w r):=by
 intro r
 induction r with
 |nil=>
  intro p hp;have q:p.length=s.length:=by rw [← hp];simp
  generalize p.length=n at*
  have k:(decide ((n:Int)<(((η s):Nat):Int)))=false:=Yq1 (by omega);exact .done (pN 92 [2] 1 0 (.c (ay k) (.n 1 .nil)) (.nil) j)
 | cons c r ih=>
  intro p hp;have q:p.length<s.length:=by rw [← hp];simp
  have t:s.getD p.length 0=c:=by rw [← hp,ν];simp
  have g:=ih (p++ [c]) (by rw [← hp];simp);rw [κ,τ] at g;unfold nj;generalize p.length=n at*
  have k:(decide ((n:Int)<(((η s):Nat):Int)))=true:=Yq0 (by omega);have l:n<2^62:=by omega
  have f:∀ e,e=w.any (fun b=>c==b)→aG prog ap [⟨[.str s,.ref 1 0 0 m,ω d,.bool a],0,false,0,0,false⟩,⟨os,0,false,0,5,true⟩] 55 (.block 2 (.loop (ac 2 (af f92)))) ⟨[(0,.ptr 0 0 0),(1,.str w),(4,.dead),(5,ω (n:Int)),(6,.bool false),(7,ω 0),(8,.dead),(15,.bool (decide ((n:Int)<(((η s):Nat):Int)))),(19,.dead),(36,.dead)],[(0,⟨[.str s,.ref 1 0 0 m,ω d,.bool a],0,false,0,0,false⟩),(1,⟨os,0,false,0,5,true⟩)],.dead,[]⟩ (.normal) ⟨[(0,.ptr 0 0 0),(1,.str w),(5,ω (n:Int)),(6,.bool e)],[(0,⟨[.str s,.ref 1 0 0 m,ω d,.bool a],0,false,0,0,false⟩),(1,⟨os,0,false,0,5,true⟩)],.dead,[]⟩:=by
   intro e i;have h:∀ nt,55≤nt→az prog ap [⟨[.str s,.ref 1 0 0 m,ω d,.bool a],0,false,0,0,false⟩,⟨os,0,false,0,5,true⟩] nt (ac 2 (af f92)) (fun _=> .exit 2) (wib s w d a m os n) (wob s w d a m os n) (0,false) e:=by
    intro nt j;have:=wlb j s w d a m os n q o w.length 0 false (Θ _);rw [Xjq,t,Xzk,← i] at this;exact this
   exact az.blk h (by simp) rfl (aJ.of ⟨rfl,rfl,rfl,rfl,rfl,trivial⟩) (aJ.of ⟨rfl,rfl,rfl,rfl,trivial⟩)
  rcases tf (w.any (fun b=>c==b)) with b1|b1
  ·rw [if_pos b1];have i:(true:Bool)=w.any (fun b=>c==b):=b1.symm;have f:=f true i;rw [show n+(nj w r+1)=n+1+nj w r by omega];have o:=l;exact .next (pN 92 [2] 2 1 (.k 1 (aw k) (.n 1 .nil)) (.v 38 (.eq (Y0 o)) (.l f .nil)) j) g
  ·rw [if_neg (by rw [b1];decide)];have i:(false:Bool)=w.any (fun b=>c==b):=b1.symm;have f:=f false i;exact .done (pN 92 [2] 2 3 (.k 1 (aw k) (.n 1 .nil)) (.l f .nil) j)
theorem wfb (s w:List UInt8) (b:Int) (a:Bool) (m:Nat) (os:List AV) (n:Nat) (c:n≤s.length) (d:aG prog ap [⟨[.str s,.ref 1 0 0 m,ω b,.bool a],0,false,0,0,false⟩,⟨os,0,false,0,5,true⟩] 55 (.block 0 (.loop (ac 0 (af f92)))) ⟨[(0,.ptr 0 0 0),(1,.str w),(4,.str []),(5,ω 0),(6,.dead),(7,.dead),(8,.dead),(15,.dead),(19,.dead),(36,.dead)],[(0,⟨[.str s,.ref 1 0 0 m,ω b,.bool a],0,false,0,0,false⟩),(1,⟨os,0,false,0,5,true⟩)],.dead,[]⟩ (.normal) ⟨[(0,.ptr 0 0 0),(5,ω (n:Int))],[(0,⟨[.str s,.ref 1 0 0 m,ω b,.bool a],0,false,0,0,false⟩),(1,⟨os,0,false,0,5,true⟩)],.dead,[]⟩):aj prog ap 92 [.ptr 0 0 0,.str w] [⟨[.str s,.ref 1 0 0 m,ω b,.bool a],0,false,0,0,false⟩,⟨os,0,false,0,5,true⟩] (.ret (.str (ε 0 (ο (δ (n:Int)) s)))) [⟨[.str (ε (δ (n:Int)) (ο (δ (((η s):Nat):Int)) s)),.ref 1 0 0 m,ω b,.bool a],0,false,0,0,false⟩,⟨os,0,false,0,5,true⟩]:=pK [0] 0 0 (.k 1 (bw n) (.c (J5 c) (.c (J5 (φ s.length)) (.k 2 (bw n) (.c (J5 c) (.n 1 .nil)))))) (.l d .nil)
theorem gu (s w:List UInt8) (b:Int) (a:Bool) (m:Nat) (os:List AV) (hs:s.length<2^40) (d:w.length<2^40):aj prog ap 92 [.ptr 0 0 0,.str w] [⟨[.str s,.ref 1 0 0 m,ω b,.bool a],0,false,0,0,false⟩,⟨os,0,false,0,5,true⟩] (.ret (.str (ε 0 (ο (δ ((nj w s:Nat):Int)) s)))) [⟨[.str (ε (δ ((nj w s:Nat):Int)) (ο (δ (((η s):Nat):Int)) s)),.ref 1 0 0 m,ω b,.bool a],0,false,0,0,false⟩,⟨os,0,false,0,5,true⟩]:=by
 have h:∀ nt,55≤nt→az prog ap [⟨[.str s,.ref 1 0 0 m,ω b,.bool a],0,false,0,0,false⟩,⟨os,0,false,0,5,true⟩] nt (ac 0 (af f92)) (fun _=> .exit 0) (wsb s w b a m os) (wrb s w b a m os) 0 (nj w s):=by
  intro nt c;have:=wmb c s w b a m os hs d s [] rfl;rw [χ,Θ] at this;exact this
 exact wfb s w b a m os (nj w s) (CA w s) (az.blk h (by simp) rfl (aJ.of ⟨rfl,rfl,rfl,trivial⟩) (aJ.of ⟨rfl,rfl,trivial⟩))
def iL (l:List Int):List AV:=l.map fun a=> ω a
theorem Rb {a:List Int} {i:Nat} (h:i<a.length):ε (δ (i:Int)*1) (iL a)= [ω (a.getD i 0)]++iL (a.drop (i+1)):=by
 unfold iL;rw [av,Φ,← Xjz,Xxh h,ν,ξ h];rfl
theorem DW {k:Nat} (h:k<2^62):ω (γ .i64 ((k:Int)+((1:Nat):Int)))= ω ((k+1:Nat):Int):=by
 have e:γ .i64 ((k:Int)+((1:Nat):Int))=((k+1:Nat):Int):=by rw [bU]<;>omega
 rw [e]
theorem wms {a b:Nat} (h:a≤b) (c:b<2^62):ω (γ .i64 ((b:Int) - (a:Int)))= ω ((b - a:Nat):Int):=by
 have e:γ .i64 ((b:Int) - (a:Int))=((b - a:Nat):Int):=by rw [bU]<;>omega
 rw [e]
theorem lms {a b:Nat} (h:b<2^62):b - a<2^62:=υ (Nat.sub_le _ _) h
theorem abx {nt:Nat} (m:85≤nt) (a:List Int) (f:Bool) (k c mX e:Nat) (y:Nd) (x:Int) (l:List AV) (g:k<2^62) (d:c<2^62) (b:mX<4611686018427387904) (q:(ε ((δ (k:Int))*1) (iL a))= [ω x]++l) (h0:lit true ((e:Int)==((0:Nat):Int))=true) (n:(decide (((0:Nat):Int)≤(k:Int)))=true) (j:(decide ((k:Int)<(a.length:Int)))=true) (p:lit true (decide ((k:Int)<((30:Nat):Int)))=true) (r:lit true (decide ((k:Int)<(a.length:Int)))=true) (i:CO 29 [ω x,ω 24] (.ret (ω (mX:Int)))) (h:CO 30 [ω (((1+mX):Nat):Int)] (.ret (ω (e:Int)))) (o:CO 31 [ω (γ .i64 (Xqs x ((24:Nat):Int)))] (.ret (.agg [ω y.op,.bool y.neg,.str y.num,.str y.den,.str y.name]))):ψ nt f11 ⟨[(0,.sl (iL a) a.length f),(3,.nilS),(4,ω (c:Int)),(5,ω (k:Int))],[],.dead,[]⟩ (.normal) ⟨[(0,.sl (iL a) a.length f),(3,.ref 0 0 0 1),(4,ω (((c+1):Nat):Int)),(5,ω (((k+1):Nat):Int))],[(0,⟨[ω y.op,.bool y.neg,.str y.num,.str y.den,.str y.name],0,false,0,5,true⟩)],.dead,[]⟩:=pN 11 [] 5 15 (.k 5 h0 (.k 1 n (.c j (.c p (.c r .nil))))) (.v 19 (.eq (DW g)) (.v 43 (.eq (DW d)) (.c o (.c h (.v 26 (.eq (Cn b)) (.c i (.v 22 (.ppt q) .nil))))))) m
theorem aby {nt:Nat} (n:85≤nt) (a:List Int) (f:Bool) (k c mX d:Nat) (y:Nd) (x:Int) (m:List AV) (g:k<2^62) (e:c<2^62) (b:mX<4611686018427387904) (r:(ε ((δ (k:Int))*1) (iL a))= [ω x]++m) (h0:lit true (decide ((c:Int)<(d:Int)))=true) (o:lit false ((d:Int)==((0:Nat):Int))=true) (l:(decide (((0:Nat):Int)≤(k:Int)))=true) (q:(decide ((k:Int)<(a.length:Int)))=true) (s:lit true (decide ((k:Int)<((30:Nat):Int)))=true) (j:lit true (decide ((k:Int)<(a.length:Int)))=true) (i:CO 29 [ω x,ω 24] (.ret (ω (mX:Int)))) (h:CO 30 [ω (((1+mX):Nat):Int)] (.ret (ω (d:Int)))) (p:CO 31 [ω (γ .i64 (Xqs x ((24:Nat):Int)))] (.ret (.agg [ω y.op,.bool y.neg,.str y.num,.str y.den,.str y.name]))):ψ nt f11 ⟨[(0,.sl (iL a) a.length f),(3,.nilS),(4,ω (c:Int)),(5,ω (k:Int))],[],.dead,[]⟩ (.normal) ⟨[(0,.sl (iL a) a.length f),(3,.ref 0 0 0 1),(4,ω (((c+1):Nat):Int)),(5,ω (((k+1):Nat):Int))],[(0,⟨[ω y.op,.bool y.neg,.str y.num,.str y.den,.str y.name],0,false,0,5,true⟩)],.dead,[]⟩:=pN 11 [] 5 11 (.k 4 h0 (.c o (.k 1 l (.c q (.c s (.c j .nil)))))) (.v 19 (.eq (DW g)) (.v 43 (.eq (DW e)) (.c p (.c h (.v 26 (.eq (Cn b)) (.c i (.v 22 (.ppt r) .nil))))))) n
theorem abz {nt:Nat} (d:85≤nt) (a:List Int) (c:Bool) (k b:Nat) (h0:lit false (decide ((k:Int)<(a.length:Int)))=true):ψ nt f11 ⟨[(0,.sl (iL a) a.length c),(3,.nilS),(4,ω (b:Int)),(5,ω (k:Int))],[],.dead,[]⟩ (.exit 0) ⟨[(3,.nilS),(4,ω (b:Int))],[],.dead,[]⟩:=pN 11 [] 2 0 (.k 1 h0 .nil) (.nil) d
theorem abp {nt:Nat} (o:85≤nt) (a:List Int) (f:Bool) (k c mX e:Nat) (y:Nd) (x:Int) (n:List AV) (os:List Nd) (g:k<2^62) (d:c<2^62) (b:mX<4611686018427387904) (s:(ε ((δ (k:Int))*1) (iL a))= [ω x]++n) (h0:(Xqk (k+1) 1099511627776)=true) (p:(Xqk (k*5) (η (aP os)))=true) (l:lit true ((e:Int)==((0:Nat):Int))=true) (r:(decide (((0:Nat):Int)≤(k:Int)))=true) (t:(decide ((k:Int)<(a.length:Int)))=true) (j:lit true (decide ((k:Int)<((30:Nat):Int)))=true) (m:lit true (decide ((k:Int)<(a.length:Int)))=true) (i:CO 29 [ω x,ω 24] (.ret (ω (mX:Int)))) (h:CO 30 [ω (((1+mX):Nat):Int)] (.ret (ω (e:Int)))) (q:CO 31 [ω (γ .i64 (Xqs x ((24:Nat):Int)))] (.ret (.agg [ω y.op,.bool y.neg,.str y.num,.str y.den,.str y.name]))):ψ nt f11 ⟨[(0,.sl (iL a) a.length f),(3,.ref 0 0 0 k),(4,ω (c:Int)),(5,ω (k:Int))],[(0,⟨(aP os),0,false,0,5,true⟩)],.dead,[]⟩ (.normal) ⟨[(0,.sl (iL a) a.length f),(3,.ref 0 0 0 (k+1)),(4,ω (((c+1):Nat):Int)),(5,ω (((k+1):Nat):Int))],[(0,⟨((ο (k*5) (aP os))++ [ω y.op,.bool y.neg,.str y.num,.str y.den,.str y.name]),0,false,0,5,true⟩)],.dead,[]⟩:=pN 11 [] 4 15 (.k 1 h0 (.c p (.k 3 l (.k 1 r (.c t (.c j (.c m .nil))))))) (.v 19 (.eq (DW g)) (.v 43 (.eq (DW d)) (.c q (.c h (.v 26 (.eq (Cn b)) (.c i (.v 22 (.ppt s) .nil))))))) o
theorem abq {nt:Nat} (o:85≤nt) (a:List Int) (f:Bool) (k c mX d:Nat) (y:Nd) (x:Int) (n:List AV) (os:List Nd) (g:k<2^62) (e:c<2^62) (b:mX<4611686018427387904) (t:(ε ((δ (k:Int))*1) (iL a))= [ω x]++n) (h0:(Xqk (k+1) 1099511627776)=true) (q:(Xqk (k*5) (η (aP os)))=true) (l:lit true (decide ((c:Int)<(d:Int)))=true) (s:lit false ((d:Int)==((0:Nat):Int))=true) (u:(decide (((0:Nat):Int)≤(k:Int)))=true) (j:(decide ((k:Int)<(a.length:Int)))=true) (m:lit true (decide ((k:Int)<((30:Nat):Int)))=true) (p:lit true (decide ((k:Int)<(a.length:Int)))=true) (i:CO 29 [ω x,ω 24] (.ret (ω (mX:Int)))) (h:CO 30 [ω (((1+mX):Nat):Int)] (.ret (ω (d:Int)))) (r:CO 31 [ω (γ .i64 (Xqs x ((24:Nat):Int)))] (.ret (.agg [ω y.op,.bool y.neg,.str y.num,.str y.den,.str y.name]))):ψ nt f11 ⟨[(0,.sl (iL a) a.length f),(3,.ref 0 0 0 k),(4,ω (c:Int)),(5,ω (k:Int))],[(0,⟨(aP os),0,false,0,5,true⟩)],.dead,[]⟩ (.normal) ⟨[(0,.sl (iL a) a.length f),(3,.ref 0 0 0 (k+1)),(4,ω (((c+1):Nat):Int)),(5,ω (((k+1):Nat):Int))],[(0,⟨((ο (k*5) (aP os))++ [ω y.op,.bool y.neg,.str y.num,.str y.den,.str y.name]),0,false,0,5,true⟩)],.dead,[]⟩:=pN 11 [] 4 11 (.k 1 h0 (.c q (.k 2 l (.c s (.k 1 u (.c j (.c m (.c p .nil)))))))) (.v 19 (.eq (DW g)) (.v 43 (.eq (DW e)) (.c r (.c h (.v 26 (.eq (Cn b)) (.c i (.v 22 (.ppt t) .nil))))))) o
theorem abr {nt:Nat} (t:85≤nt) (b:List Int) (l:Bool) (k e mX c:Nat) (f d:Bool) (j:List UInt8) (x:Int) (s:List AV) (os:List Nd) (m:k<2^62) (h:e<2^62) (g:mX<4611686018427387904) (i:c≤e) (C:(ε ((δ (k:Int))*1) (iL b))= [ω x]++s) (h0:(Xqk (k+1) 1099511627776)=true) (v:(Xqk (k*5) (η (aP os)))=true) (q:lit false d=true) (B:lit true f=true) (D:lit false (decide ((e:Int)<(c:Int)))=true) (p:lit false ((c:Int)==((0:Nat):Int))=true) (r:(decide (((0:Nat):Int)≤(k:Int)))=true) (u:(decide ((k:Int)<(b.length:Int)))=true) (A:lit true (decide ((k:Int)<((30:Nat):Int)))=true) (z:lit true (decide ((k:Int)<(b.length:Int)))=true) (o:CO 29 [ω x,ω 24] (.ret (ω (mX:Int)))) (n:CO 30 [ω (((1+mX):Nat):Int)] (.ret (ω (c:Int)))) (w:CO 32 [ω (((1+mX):Nat):Int)] (.ret (.bool f))) (y:CO 33 [ω (γ .i64 (Xqs x ((24:Nat):Int)))] (.ret (.str j))) (E:CO 34 [ω (((1+mX):Nat):Int)] (.ret (.bool d))):ψ nt f11 ⟨[(0,.sl (iL b) b.length l),(3,.ref 0 0 0 k),(4,ω (e:Int)),(5,ω (k:Int))],[(0,⟨(aP os),0,false,0,5,true⟩)],.dead,[]⟩ (.normal) ⟨[(0,.sl (iL b) b.length l),(3,.ref 0 0 0 (k+1)),(4,ω (((e - c+1):Nat):Int)),(5,ω (((k+1):Nat):Int))],[(0,⟨((ο (k*5) (aP os))++ [ω (((1+mX):Nat):Int),.bool false,.str [],.str [],.str j]),0,false,0,5,true⟩)],.dead,[]⟩:=pN 11 [] 6 19 (.k 1 h0 (.c v (.k 6 q (.k 2 B (.k 1 D (.c p (.k 1 r (.c u (.c A (.c z .nil)))))))))) (.v 19 (.eq (DW m)) (.v 68 (.eq (DW (lms (a:=c) h))) (.v 67 (.eq (wms i h)) (.c E (.c y (.c w (.c n (.v 26 (.eq (Cn g)) (.c o (.v 22 (.ppt C) .nil)))))))))) t
theorem abt {nt:Nat} (s:85≤nt) (b:List Int) (j:Bool) (k e mX c:Nat) (f d:Bool) (w:RQ) (x:Int) (r:List AV) (os:List Nd) (l:k<2^62) (h:e<2^62) (g:mX<4611686018427387904) (i:c≤e) (C:(ε ((δ (k:Int))*1) (iL b))= [ω x]++r) (h0:(Xqk (k+1) 1099511627776)=true) (u:(Xqk (k*5) (η (aP os)))=true) (p:lit true d=true) (B:lit false f=true) (D:lit false (decide ((e:Int)<(c:Int)))=true) (o:lit false ((c:Int)==((0:Nat):Int))=true) (q:(decide (((0:Nat):Int)≤(k:Int)))=true) (t:(decide ((k:Int)<(b.length:Int)))=true) (A:lit true (decide ((k:Int)<((30:Nat):Int)))=true) (z:lit true (decide ((k:Int)<(b.length:Int)))=true) (n:CO 29 [ω x,ω 24] (.ret (ω (mX:Int)))) (m:CO 30 [ω (((1+mX):Nat):Int)] (.ret (ω (c:Int)))) (v:CO 32 [ω (((1+mX):Nat):Int)] (.ret (.bool f))) (y:CO 34 [ω (((1+mX):Nat):Int)] (.ret (.bool d))) (E:CO 35 [.agg [ω (γ .i64 (Xqs x ((24:Nat):Int))),ω (γ .i64 (Xqs x ((48:Nat):Int))),ω 3]] (.ret (.agg [.bool w.neg,.str (aa w.n),.str (aa w.d)]))):ψ nt f11 ⟨[(0,.sl (iL b) b.length j),(3,.ref 0 0 0 k),(4,ω (e:Int)),(5,ω (k:Int))],[(0,⟨(aP os),0,false,0,5,true⟩)],.dead,[]⟩ (.normal) ⟨[(0,.sl (iL b) b.length j),(3,.ref 0 0 0 (k+1)),(4,ω (((e - c+1):Nat):Int)),(5,ω (((k+1):Nat):Int))],[(0,⟨((ο (k*5) (aP os))++ [ω (((1+mX):Nat):Int),.bool w.neg,.str (aa w.n),.str (aa w.d),.str []]),0,false,0,5,true⟩)],.dead,[]⟩:=pN 11 [] 6 35 (.k 1 h0 (.c u (.k 9 p (.c B (.k 1 D (.c o (.k 1 q (.c t (.c A (.c z .nil)))))))))) (.v 19 (.eq (DW l)) (.v 68 (.eq (DW (lms (a:=c) h))) (.v 67 (.eq (wms i h)) (.c E (.c y (.c v (.c m (.v 26 (.eq (Cn g)) (.c n (.v 22 (.ppt C) .nil)))))))))) s
theorem abu {nt:Nat} (s:85≤nt) (b:List Int) (j:Bool) (k e mX c:Nat) (f d:Bool) (x:Int) (r:List AV) (os:List Nd) (l:k<2^62) (h:e<2^62) (g:mX<4611686018427387904) (i:c≤e) (B:(ε ((δ (k:Int))*1) (iL b))= [ω x]++r) (h0:(Xqk (k+1) 1099511627776)=true) (u:(Xqk (k*5) (η (aP os)))=true) (p:lit false d=true) (A:lit false f=true) (C:lit false (decide ((e:Int)<(c:Int)))=true) (o:lit false ((c:Int)==((0:Nat):Int))=true) (q:(decide (((0:Nat):Int)≤(k:Int)))=true) (t:(decide ((k:Int)<(b.length:Int)))=true) (z:lit true (decide ((k:Int)<((30:Nat):Int)))=true) (y:lit true (decide ((k:Int)<(b.length:Int)))=true) (n:CO 29 [ω x,ω 24] (.ret (ω (mX:Int)))) (m:CO 30 [ω (((1+mX):Nat):Int)] (.ret (ω (c:Int)))) (v:CO 32 [ω (((1+mX):Nat):Int)] (.ret (.bool f))) (w:CO 34 [ω (((1+mX):Nat):Int)] (.ret (.bool d))):ψ nt f11 ⟨[(0,.sl (iL b) b.length j),(3,.ref 0 0 0 k),(4,ω (e:Int)),(5,ω (k:Int))],[(0,⟨(aP os),0,false,0,5,true⟩)],.dead,[]⟩ (.normal) ⟨[(0,.sl (iL b) b.length j),(3,.ref 0 0 0 (k+1)),(4,ω (((e - c+1):Nat):Int)),(5,ω (((k+1):Nat):Int))],[(0,⟨((ο (k*5) (aP os))++ [ω (((1+mX):Nat):Int),.bool false,.str [],.str [],.str []]),0,false,0,5,true⟩)],.dead,[]⟩:=pN 11 [] 6 3 (.k 1 h0 (.c u (.k 6 p (.c A (.k 1 C (.c o (.k 1 q (.c t (.c z (.c y .nil)))))))))) (.v 19 (.eq (DW l)) (.v 68 (.eq (DW (lms (a:=c) h))) (.v 67 (.eq (wms i h)) (.c w (.c v (.c m (.v 26 (.eq (Cn g)) (.c n (.v 22 (.ppt B) .nil))))))))) s
theorem abv {nt:Nat} (e:85≤nt) (a:List Int) (d:Bool) (k b:Nat) (os:List Nd) (h0:lit false (decide ((k:Int)<((30:Nat):Int)))=true) (c:lit true (decide ((k:Int)<(a.length:Int)))=true):ψ nt f11 ⟨[(0,.sl (iL a) a.length d),(3,.ref 0 0 0 k),(4,ω (b:Int)),(5,ω (k:Int))],[(0,⟨(aP os),0,false,0,5,true⟩)],.dead,[]⟩ (.exit 0) ⟨[(3,.ref 0 0 0 k),(4,ω (b:Int))],[(0,⟨(aP os),0,false,0,5,true⟩)],.dead,[]⟩:=pN 11 [] 2 1 (.c h0 (.c c .nil)) (.nil) e
theorem abw {nt:Nat} (d:85≤nt) (a:List Int) (c:Bool) (k b:Nat) (os:List Nd) (h0:lit false (decide ((k:Int)<(a.length:Int)))=true):ψ nt f11 ⟨[(0,.sl (iL a) a.length c),(3,.ref 0 0 0 k),(4,ω (b:Int)),(5,ω (k:Int))],[(0,⟨(aP os),0,false,0,5,true⟩)],.dead,[]⟩ (.exit 0) ⟨[(3,.ref 0 0 0 k),(4,ω (b:Int))],[(0,⟨(aP os),0,false,0,5,true⟩)],.dead,[]⟩:=pN 11 [] 2 0 (.k 1 h0 .nil) (.nil) d
theorem kQ {k n:Nat} (h:n≤k):decide ((k:Int)<(n:Int))=false:=Yq1 (by omega)
def apN (os:List Nd) (k:Nat):AV:=match os with| []=> .nilS|_::_=> .ref 0 0 0 k
def hpN (os:List Nd):Hp:=match os with| []=> []|a::r=> [(0,⟨aP (a::r),0,false,0,5,true⟩)]
def W8 (xs:List Int) (nn:Bool) (p:Nat × List Nd × Nat):St:=⟨[(0,.sl (iL xs) xs.length nn),(3,apN p.2.1 p.1),(4,ω (p.2.2:Int)),(5,ω (p.1:Int))],hpN p.2.1,.dead,[]⟩
def abm (p:Nat × List Nd × Nat):St:=⟨[(3,apN p.2.1 p.1),(4,ω (p.2.2:Int))],hpN p.2.1,.dead,[]⟩
structure JM (os:List Nd) (dp:Nat):Prop where
 sm:∀ x ∈ os,x.sm
 ck:fj os 0= .inl dp
theorem Eh {y:Nd} (a:aH y=0):∀ (os:List Nd) (d e:Nat),fj os d= .inl e→cT y.op≤e→fj (os++ [y]) d= .inl (e - cT y.op+1)
 | [],d,e,h,ha=>by
  simp only [fj,Sum.inl.injEq] at h;subst h;simp only [Xqd,fj,if_pos a];rw [if_neg (by omega)]
 | x::r,d,e,h,ha=>by
  simp only [Xqx,fj] at h ⊢;split at h
  ·rename_i b;rw [if_pos b];split at h
   ·cases h
   ·rename_i hd;rw [if_neg hd];exact Eh a r _ e h ha
  ·cases h
theorem Dh:∀ (os:List Nd) (d e:Nat),fj os d= .inl e→e≤d+os.length∧(os ≠ []→1≤e)
 | [],d,e,h=>by
  simp only [fj,Sum.inl.injEq] at h;subst h;exact ⟨by simp,by simp⟩
 | x::r,d,e,h=>by
  simp only [fj] at h;split at h
  ·split at h
   ·cases h
   ·obtain ⟨b,a⟩:=Dh r _ e h;refine ⟨by simp only [μ];omega,fun _=> ?_⟩;cases r with
    |nil=>simp only [fj,Sum.inl.injEq] at h;omega
    |cons _ _=>exact a (by simp)
  ·cases h
theorem JM.snoc {os:List Nd} {b:Nat} (h:JM os b) {y:Nd} (hs:y.sm) (d:aH y=0) (c:cT y.op≤b):JM (os++ [y]) (b - cT y.op+1):=by
 refine ⟨fun x a=> ?_,Eh d os 0 b h.ck c⟩;rcases List.mem_append.1 a with a|a
 ·exact h.sm x a
 ·rw [List.mem_singleton] at a;subst a;exact hs
theorem qC {os:List Nd} {k:Nat} (h:os.length=k) (y:Nd):ο (k*5) (aP os)++ [ω y.op,.bool y.neg,.str y.num,.str y.den,.str y.name]=aP (os++ [y]):=by
 rw [Xqi (by rw [jf];omega),IY];rfl
theorem NG (m:List Int) (o:Bool) (os:List Nd) (k c:Nat) (u:JM os c) (j:os.length=k) (f:k<30) (b:k<m.length):
  ∃ (y:Nd) (dp':Nat),JM (os++ [y]) dp'∧∀ nt,85≤nt→ψ nt f11 (W8 m o (k,os,c)) .normal (W8 m o (k+1,os++ [y],dp')):=by
 obtain ⟨G,_⟩:=Dh os 0 c u.ck;have g:c<2^62:=by omega
 have p:=Rb b;generalize m.getD k 0=x at p;have d:=cB x 24 (by omega) (by omega);have I:aI x 24<24:=cL (by omega);have e:=Qa ((1+aI x 24:Nat):Int);have t:=IW ((1+aI x 24:Nat):Int);have q:=Tm ((1+aI x 24:Nat):Int);obtain ⟨y,z,D,C,cy⟩:=Rt (γ .i64 (Xqs x ((24:Nat):Int)));have hleaf:JM (os++ [y]) (c+1):=by
  have:=u.snoc z D (by omega);rwa [C,Xjv] at this
 by_cases e0:cT ((1+aI x 24:Nat):Int)=0
 ·refine ⟨y,c+1,hleaf,fun nt l=> ?_⟩;cases os with
  |nil=>
   simp only [χ] at j;subst j;exact abx l m o 0 c (aI x 24) (cT ((1+aI x 24:Nat):Int)) y x _ (by omega) g (by omega) p (aw (Bm e0)) (bw 0) (aF b) (aw (aF f)) (aw (aF b)) d e cy
  |cons a r=>
   have h:=qC j y;have i:=abp l m o k c (aI x 24) (cT ((1+aI x 24:Nat):Int)) y x _ (a::r) (by omega) g (by omega) p (Xqg (by omega)) (Xqg (by rw [jf];omega)) (aw (Bm e0)) (bw k) (aF b) (aw (aF f)) (aw (aF b)) d e cy;rw [h] at i;exact i
 ·by_cases n:c<cT ((1+aI x 24:Nat):Int)
  ·refine ⟨y,c+1,hleaf,fun nt l=> ?_⟩;cases os with
   |nil=>
    simp only [χ] at j;subst j;exact aby l m o 0 c (aI x 24) (cT ((1+aI x 24:Nat):Int)) y x _ (by omega) g (by omega) p (aw (aF n)) (ay (k_ e0)) (bw 0) (aF b) (aw (aF f)) (aw (aF b)) d e cy
   |cons a r=>
    have h:=qC j y;have i:=abq l m o k c (aI x 24) (cT ((1+aI x 24:Nat):Int)) y x _ (a::r) (by omega) g (by omega) p (Xqg (by omega)) (Xqg (by rw [jf];omega)) (aw (aF n)) (ay (k_ e0)) (bw k) (aF b) (aw (aF f)) (aw (aF b)) d e cy;rw [h] at i;exact i
  ·have n:cT ((1+aI x 24:Nat):Int)≤c:=by omega
   cases os with
   |nil=>
    exfalso;have:=u.ck;simp only [fj,Sum.inl.injEq] at this;omega
   | cons a r=>
    have j:=j;rcases tf (iY ((1+aI x 24:Nat):Int)) with e2|e2
    ·have N:=xj (γ .i64 (Xqs x ((24:Nat):Int)));have hp:=BW (aI (γ .i64 (Xqs x ((24:Nat):Int))) 6) (cL (by omega));generalize ul (aI (γ .i64 (Xqs x ((24:Nat):Int))) 6)=nm at*
     have B:=of_decide_eq_true e2;have s:lX ((1+aI x 24:Nat):Int)=false:=Yq1 (by omega);refine ⟨⟨((1+aI x 24:Nat):Int),false,[],[],nm⟩,_,u.snoc ⟨by simp,by simp⟩ (Ao (by omega) hp) n,fun nt l=> ?_⟩;have h:=qC j ⟨((1+aI x 24:Nat):Int),false,[],[],nm⟩;have i:=abr l m o k c (aI x 24) (cT ((1+aI x 24:Nat):Int)) (iY ((1+aI x 24:Nat):Int)) (lX ((1+aI x 24:Nat):Int)) nm x _ (a::r) (by omega) g (by omega) (by omega) p (Xqg (by omega)) (Xqg (by rw [jf];omega)) (ay s) (aw e2) (ay (kQ n)) (ay (k_ e0)) (bw k) (aF b) (aw (aF f)) (aw (aF b)) d e t N q;rw [h] at i;exact i
    ·rcases tf (lX ((1+aI x 24:Nat):Int)) with s|s
     ·obtain ⟨w,J,K,L,E,F,H⟩:=O6 (γ .i64 (Xqs x ((24:Nat):Int))) (γ .i64 (Xqs x ((48:Nat):Int)));have A:=of_decide_eq_true s;refine ⟨⟨((1+aI x 24:Nat):Int),w.neg,aa w.n,aa w.d,[]⟩,_,u.snoc ⟨dx E,dx F⟩ (HS (by omega) J K L E F) n,fun nt l=> ?_⟩;have h:=qC j ⟨((1+aI x 24:Nat):Int),w.neg,aa w.n,aa w.d,[]⟩;have i:=abt l m o k c (aI x 24) (cT ((1+aI x 24:Nat):Int)) (iY ((1+aI x 24:Nat):Int)) (lX ((1+aI x 24:Nat):Int)) w x _ (a::r) (by omega) g (by omega) (by omega) p (Xqg (by omega)) (Xqg (by rw [jf];omega)) (aw s) (ay e2) (ay (kQ n)) (ay (k_ e0)) (bw k) (aF b) (aw (aF f)) (aw (aF b)) d e t q H;rw [h] at i;exact i
     ·have B:=of_decide_eq_false e2;have A:=of_decide_eq_false s;have v:9≤((1+aI x 24:Nat):Int)∧((1+aI x 24:Nat):Int)≤20:=by
       have:¬ ((1+aI x 24:Nat):Int)<9:=by
        intro M;apply e0;unfold cT;rw [if_neg (by omega),if_neg (by omega),if_neg (by omega)]
       omega
      refine ⟨⟨((1+aI x 24:Nat):Int),false,[],[],[]⟩,_,u.snoc ⟨by simp,by simp⟩ (F3 v) n,fun nt l=> ?_⟩;have h:=qC j ⟨((1+aI x 24:Nat):Int),false,[],[],[]⟩;have i:=abu l m o k c (aI x 24) (cT ((1+aI x 24:Nat):Int)) (iY ((1+aI x 24:Nat):Int)) (lX ((1+aI x 24:Nat):Int)) x _ (a::r) (by omega) g (by omega) (by omega) p (Xqg (by omega)) (Xqg (by rw [jf];omega)) (ay s) (ay e2) (ay (kQ n)) (ay (k_ e0)) (bw k) (aF b) (aw (aF f)) (aw (aF b)) d e t q;rw [h] at i;exact i
theorem RU (c:List Int) (i:Bool):∀ (d k:Nat) (os:List Nd) (b:Nat),k+d=min c.length 30→os.length=k→JM os b→
  ∃ (os':List Nd) (f:Nat),JM os' f∧os'.length=min c.length 30∧∀ nt,85≤nt→az prog ap [] nt (ac 0 (af f11)) (fun _=> .exit 0) (W8 c i) abm (k,os,b) (os'.length,os',f):=by
 intro d
 induction d with
 | zero=>
  intro k os b hd h j;refine ⟨os,b,j,by omega,fun nt g=> ?_⟩;rw [h];refine .done ?_;obtain ⟨o,_⟩:=Dh os 0 b j.ck;have t:b<2^62:=by omega
  by_cases e:c.length≤k
  ·cases os with
   |nil=>exact abz g c i k b (ay (kQ e))
   |cons a r=>exact abw g c i k b (a::r) (ay (kQ e))
  ·have m:30≤k:=by omega
   have e:k<c.length:=by omega
   cases os with
   |nil=>simp only [χ] at h;omega
   |cons a r=>exact abv g c i k b (a::r) (ay (kQ m)) (aw (aF e))
 |succ d ih=>
  intro k os b hd h j;obtain ⟨y,l,n,q⟩:=NG c i os k b j h (by omega) (by omega);obtain ⟨os',f,s,u,p⟩:=ih (k+1) (os++ [y]) l (by omega) (by simp [h]) n;exact ⟨os',f,s,u,fun nt g=> .next (q nt g) (p nt g)⟩
theorem ajg {nt:Nat} (w:92≤nt) (u v o:List Nat) (i j c a x y:Nat) (n:ω (Γ (ζ (ε ((0+(δ (((i+j):Nat):Int)))*1) (ag o)) .dead))= ω (x:Int)) (k:ω (Γ (ζ (ε ((δ (i:Int))*1) (ag u)) .dead))= ω (a:Int)) (l:ω (Γ (ζ (ε ((δ (j:Int))*1) (ag v)) .dead))= ω (y:Int)) (m:ω (γ .i64 ((a:Int)*(y:Int)))= ω (((a*y):Nat):Int)) (f:ω (γ .i64 ((x:Int)+(((a*y):Nat):Int)))= ω (((x+a*y):Nat):Int)) (h:ω (γ .i64 ((((x+a*y):Nat):Int)+(c:Int)))= ω (((x+a*y+c):Nat):Int)) (d:ω (γ .i64 ((i:Int)+(j:Int)))= ω (((i+j):Nat):Int)) (e:ω (Xq4 (((x+a*y+c):Nat):Int) ((16777216:Nat):Int))= ω ((((x+a*y+c) % 16777216):Nat):Int)) (g:ω (γ .i64 (Xqs (((x+a*y+c):Nat):Int) ((16777216:Nat):Int)))= ω ((((x+a*y+c) / 16777216):Nat):Int)) (p:ω (γ .i64 ((j:Int)+((1:Nat):Int)))= ω (((j+1):Nat):Int)) (s:(Xqk (((0+(δ (((i+j):Nat):Int)))*1)+1) (η (ag o)))=true) (q:(decide (((0:Nat):Int)≤(((i+j):Nat):Int)))=true) (r:(decide ((((i+j):Nat):Int)<(o.length:Int)))=true) (z:(chk (.int .i64) (ζ (ε ((δ (j:Int))*1) (ag v)) .dead))=true) (A:(decide (((0:Nat):Int)≤(j:Int)))=true) (t:(chk (.int .i64) (ζ (ε ((δ (i:Int))*1) (ag u)) .dead))=true) (B:(decide (((0:Nat):Int)≤(i:Int)))=true) (C:(decide ((i:Int)<(u.length:Int)))=true) (D:(chk (.int .i64) (ζ (ε ((0+(δ (((i+j):Nat):Int)))*1) (ag o)) .dead))=true) (b:(decide ((j:Int)<(v.length:Int)))=true):ai prog ap [] nt (ac 2 (af f50)) ⟨[(9,.sl (ag u) u.length false),(10,.sl (ag v) v.length false),(11,.ref 0 0 0 o.length),(12,ω (i:Int)),(13,ω (c:Int)),(14,ω (j:Int))],[(0,⟨(ag o),0,false,0,1,true⟩)],.dead,[]⟩ (.normal) ⟨[(9,.sl (ag u) u.length false),(10,.sl (ag v) v.length false),(11,.ref 0 0 0 o.length),(12,ω (i:Int)),(13,ω ((((x+a*y+c) / 16777216):Nat):Int)),(14,ω (((j+1):Nat):Int))],[(0,⟨(ο ((0+(δ (((i+j):Nat):Int)))*1) (ag o)++ [ω ((((x+a*y+c) % 16777216):Nat):Int)]++ε (((0+(δ (((i+j):Nat):Int)))*1)+1) (ag o)),0,false,0,1,true⟩)],.dead,[]⟩:=pN 50 [] 1 1 (.k 1 s (.c q (.c r (.k 1 z (.c A (.c b (.c t (.c B (.c C (.c D (.c q (.c r (.c (aw b) .nil))))))))))))) (.v 55 (.eq p) (.v 82 (.eq g) (.v 79 (.eq e) (.v 77 (.eq d) (.v 73 (.eq h) (.v 71 (.eq f) (.v 70 (.eq m) (.v 69 (.eq l) (.v 65 (.eq k) (.v 61 (.eq n) (.v 59 (.eq d) .nil))))))))))) w
theorem ajh {nt:Nat} (d:92≤nt) (u v o:List Nat) (i j c a x y:Nat) (b:(decide ((j:Int)<(v.length:Int)))=false):ai prog ap [] nt (ac 2 (af f50)) ⟨[(9,.sl (ag u) u.length false),(10,.sl (ag v) v.length false),(11,.ref 0 0 0 o.length),(12,ω (i:Int)),(13,ω (c:Int)),(14,ω (j:Int))],[(0,⟨(ag o),0,false,0,1,true⟩)],.dead,[]⟩ (.exit 2) ⟨[(9,.sl (ag u) u.length false),(10,.sl (ag v) v.length false),(11,.ref 0 0 0 o.length),(12,ω (i:Int)),(13,ω (c:Int))],[(0,⟨(ag o),0,false,0,1,true⟩)],.dead,[]⟩:=pN 50 [] 1 0 (.c (ay b) .nil) (.nil) d
theorem aji {nt:Nat} (j:92≤nt) (u v o a:List Nat) (i d:Nat) (b:ω (γ .i64 ((i:Int)+(v.length:Int)))= ω (((i+v.length):Nat):Int)) (c:ω (γ .i64 ((i:Int)+((1:Nat):Int)))= ω (((i+1):Nat):Int)) (e:(Xqk (((0+(δ (((i+v.length):Nat):Int)))*1)+1) (η (ag a)))=true) (g:(decide (((0:Nat):Int)≤(((i+v.length):Nat):Int)))=true) (h:(decide ((((i+v.length):Nat):Int)<(a.length:Int)))=true) (f:(decide ((i:Int)<(u.length:Int)))=true) (k:aG prog ap [] 92 (.block 2 (.loop (ac 2 (af f50)))) ⟨[(0,.dead),(1,.dead),(4,.dead),(5,.dead),(6,.dead),(7,.dead),(8,.dead),(9,.sl (ag u) u.length false),(10,.sl (ag v) v.length false),(11,.ref 0 0 0 o.length),(12,ω (i:Int)),(13,ω 0),(14,ω 0),(15,.dead),(29,.dead),(47,.bool (decide ((i:Int)<(u.length:Int)))),(53,.dead)],[(0,⟨(ag o),0,false,0,1,true⟩)],.dead,[]⟩ (.normal) ⟨[(9,.sl (ag u) u.length false),(10,.sl (ag v) v.length false),(11,.ref 0 0 0 a.length),(12,ω (i:Int)),(13,ω (d:Int))],[(0,⟨(ag a),0,false,0,1,true⟩)],.dead,[]⟩):ψ nt f50 ⟨[(9,.sl (ag u) u.length false),(10,.sl (ag v) v.length false),(11,.ref 0 0 0 o.length),(12,ω (i:Int))],[(0,⟨(ag o),0,false,0,1,true⟩)],.dead,[]⟩ (.normal) ⟨[(9,.sl (ag u) u.length false),(10,.sl (ag v) v.length false),(11,.ref 0 0 0 a.length),(12,ω (((i+1):Nat):Int))],[(0,⟨(ο ((0+(δ (((i+v.length):Nat):Int)))*1) (ag a)++ [ω (d:Int)]++ε (((0+(δ (((i+v.length):Nat):Int)))*1)+1) (ag a)),0,false,0,1,true⟩)],.dead,[]⟩:=pN 50 [2] 1 1 (.c e (.c g (.c h (.c (aw f) .nil)))) (.v 49 (.eq c) (.v 87 (.eq b) (.l k .nil))) j
theorem ajj {nt:Nat} (b:92≤nt) (u v o c:List Nat) (i d:Nat) (a:(decide ((i:Int)<(u.length:Int)))=false):ψ nt f50 ⟨[(9,.sl (ag u) u.length false),(10,.sl (ag v) v.length false),(11,.ref 0 0 0 o.length),(12,ω (i:Int))],[(0,⟨(ag o),0,false,0,1,true⟩)],.dead,[]⟩ (.exit 0) ⟨[(11,.ref 0 0 0 o.length)],[(0,⟨(ag o),0,false,0,1,true⟩)],.dead,[]⟩:=pN 50 [] 1 0 (.c (ay a) .nil) (.nil) b
theorem ajd (s t:List UInt8) (x y z:Nat) (a:List Nat) (b:(decide (((0:Nat):Int)≤(γ .i64 ((((ak (ae s)).length:Nat):Int)+(((ak (ae t)).length:Nat):Int)))))=true) (f:(decide ((γ .i64 ((((ak (ae s)).length:Nat):Int)+(((ak (ae t)).length:Nat):Int)))=(γ .i64 ((((ak (ae s)).length:Nat):Int)+(((ak (ae t)).length:Nat):Int)))))=true) (e:(decide ((γ .i64 ((((ak (ae s)).length:Nat):Int)+(((ak (ae t)).length:Nat):Int)))≤((1099511627776:Nat):Int)))=true) (j:CO 77 [.str s,ω 3] (.ret (.tup [ω (x:Int),.bool true]))) (g:CO 77 [.str t,ω 4] (.ret (.tup [ω (y:Int),.bool false]))) (c:CO 78 [.str s] (.ret (.sl (ag (ak (ae s))) (ak (ae s)).length false))) (h:CO 78 [.str t] (.ret (.sl (ag (ak (ae t))) (ak (ae t)).length false))) (d:CO 79 [.sl (ο (a.length*1) (ag a)) a.length true] (.ret (.str (aa z)))) (i:aG prog ap [] 92 (.block 0 (.loop (ac 0 (af f50)))) ⟨[(0,.str s),(1,.str t),(4,.str []),(5,ω (x:Int)),(6,.bool true),(7,ω (y:Int)),(8,.bool false),(9,.sl (ag (ak (ae s))) (ak (ae s)).length false),(10,.sl (ag (ak (ae t))) (ak (ae t)).length false),(11,.ref 0 0 0 (δ (γ .i64 ((((ak (ae s)).length:Nat):Int)+(((ak (ae t)).length:Nat):Int))))),(12,ω 0),(13,.dead),(14,.dead),(15,.dead),(29,.bool false),(47,.dead),(53,.dead)],[(0,⟨(dX (δ (γ .i64 ((((ak (ae s)).length:Nat):Int)+(((ak (ae t)).length:Nat):Int)))) [ω 0]),0,false,0,1,true⟩)],.dead,[]⟩ (.normal) ⟨[(11,.ref 0 0 0 a.length)],[(0,⟨(ag a),0,false,0,1,true⟩)],.dead,[]⟩):CO 50 [.str s,.str t] (.ret (.str (aa z))):=pK [0] 2 1 (.c b (.c f (.c e (.n 2 .nil)))) (.c d (.l i (.c h (.c c (.c g (.c j .nil))))))
theorem aje (s t:List UInt8) (x y z:Nat) (a:List Nat) (b:(decide (((0:Nat):Int)≤(γ .i64 ((((ak (ae s)).length:Nat):Int)+(((ak (ae t)).length:Nat):Int)))))=true) (f:(decide ((γ .i64 ((((ak (ae s)).length:Nat):Int)+(((ak (ae t)).length:Nat):Int)))=(γ .i64 ((((ak (ae s)).length:Nat):Int)+(((ak (ae t)).length:Nat):Int)))))=true) (e:(decide ((γ .i64 ((((ak (ae s)).length:Nat):Int)+(((ak (ae t)).length:Nat):Int)))≤((1099511627776:Nat):Int)))=true) (j:CO 77 [.str s,ω 3] (.ret (.tup [ω (x:Int),.bool false]))) (g:CO 77 [.str t,ω 4] (.ret (.tup [ω (y:Int),.bool true]))) (c:CO 78 [.str s] (.ret (.sl (ag (ak (ae s))) (ak (ae s)).length false))) (h:CO 78 [.str t] (.ret (.sl (ag (ak (ae t))) (ak (ae t)).length false))) (d:CO 79 [.sl (ο (a.length*1) (ag a)) a.length true] (.ret (.str (aa z)))) (i:aG prog ap [] 92 (.block 0 (.loop (ac 0 (af f50)))) ⟨[(0,.str s),(1,.str t),(4,.str []),(5,ω (x:Int)),(6,.bool false),(7,ω (y:Int)),(8,.bool true),(9,.sl (ag (ak (ae s))) (ak (ae s)).length false),(10,.sl (ag (ak (ae t))) (ak (ae t)).length false),(11,.ref 0 0 0 (δ (γ .i64 ((((ak (ae s)).length:Nat):Int)+(((ak (ae t)).length:Nat):Int))))),(12,ω 0),(13,.dead),(14,.dead),(15,.dead),(29,.bool false),(47,.dead),(53,.dead)],[(0,⟨(dX (δ (γ .i64 ((((ak (ae s)).length:Nat):Int)+(((ak (ae t)).length:Nat):Int)))) [ω 0]),0,false,0,1,true⟩)],.dead,[]⟩ (.normal) ⟨[(11,.ref 0 0 0 a.length)],[(0,⟨(ag a),0,false,0,1,true⟩)],.dead,[]⟩):CO 50 [.str s,.str t] (.ret (.str (aa z))):=pK [0] 2 0 (.c b (.c f (.c e (.n 2 .nil)))) (.c d (.l i (.c h (.c c (.c g (.c j .nil))))))
theorem ajf (s t:List UInt8) (x y z:Nat) (a:List Nat) (b:(decide (((0:Nat):Int)≤(γ .i64 ((((ak (ae s)).length:Nat):Int)+(((ak (ae t)).length:Nat):Int)))))=true) (f:(decide ((γ .i64 ((((ak (ae s)).length:Nat):Int)+(((ak (ae t)).length:Nat):Int)))=(γ .i64 ((((ak (ae s)).length:Nat):Int)+(((ak (ae t)).length:Nat):Int)))))=true) (e:(decide ((γ .i64 ((((ak (ae s)).length:Nat):Int)+(((ak (ae t)).length:Nat):Int)))≤((1099511627776:Nat):Int)))=true) (j:CO 77 [.str s,ω 3] (.ret (.tup [ω (x:Int),.bool false]))) (g:CO 77 [.str t,ω 4] (.ret (.tup [ω (y:Int),.bool false]))) (c:CO 78 [.str s] (.ret (.sl (ag (ak (ae s))) (ak (ae s)).length false))) (h:CO 78 [.str t] (.ret (.sl (ag (ak (ae t))) (ak (ae t)).length false))) (d:CO 79 [.sl (ο (a.length*1) (ag a)) a.length true] (.ret (.str (aa z)))) (i:aG prog ap [] 92 (.block 0 (.loop (ac 0 (af f50)))) ⟨[(0,.str s),(1,.str t),(4,.str []),(5,ω (x:Int)),(6,.bool false),(7,ω (y:Int)),(8,.bool false),(9,.sl (ag (ak (ae s))) (ak (ae s)).length false),(10,.sl (ag (ak (ae t))) (ak (ae t)).length false),(11,.ref 0 0 0 (δ (γ .i64 ((((ak (ae s)).length:Nat):Int)+(((ak (ae t)).length:Nat):Int))))),(12,ω 0),(13,.dead),(14,.dead),(15,.dead),(29,.bool false),(47,.dead),(53,.dead)],[(0,⟨(dX (δ (γ .i64 ((((ak (ae s)).length:Nat):Int)+(((ak (ae t)).length:Nat):Int)))) [ω 0]),0,false,0,1,true⟩)],.dead,[]⟩ (.normal) ⟨[(11,.ref 0 0 0 a.length)],[(0,⟨(ag a),0,false,0,1,true⟩)],.dead,[]⟩):CO 50 [.str s,.str t] (.ret (.str (aa z))):=pK [0] 2 0 (.c b (.c f (.c e (.n 2 .nil)))) (.c d (.l i (.c h (.c c (.c g (.c j .nil))))))
def AH (a:Nat):List Nat→List Nat→Nat→List Nat × Nat
 |x::m,y::v,c=>((x+a*y+c) % 16777216::(AH a m v ((x+a*y+c) / 16777216)).1,(AH a m v ((x+a*y+c) / 16777216)).2)
 |_,_,c=>([],c)
theorem E5 {a x y c:Nat} (d:a<16777216) (f:x<16777216) (g:y<16777216) (e:c<16777216):a*y<281474976710656∧x+a*y+c<281474976710656∧(x+a*y+c) / 16777216<16777216:=by
 have b:a*y≤16777215*16777215:=Xj7 (by omega) (by omega);omega
theorem Di {a:Nat} (b:a<16777216):∀ (m v:List Nat) (c:Nat),m.length=v.length→c<16777216→aV m→aV v→(AH a m v c).2<16777216∧aV (AH a m v c).1∧(AH a m v c).1.length=v.length∧bM (AH a m v c).1+16777216^v.length*(AH a m v c).2=bM m+a*bM v+c
 | [],[],c,_,hc,_,_=> ⟨hc,aV.nil,rfl,by simp [AH,bM]⟩
 |x::m,y::v,c,hl,hc,hm,hv=>by
  obtain ⟨_,_,f⟩:=E5 b hm.head hv.head hc;obtain ⟨g,e,d,i⟩:=Di b m v _ (by simpa using hl) f hm.tail hv.tail;simp only [AH];refine ⟨g,aV.cons (Xqh _ (by omega)) e,by simp [d], ?_⟩;simp only [bM,μ,Xq2];rw [Xqb (16777216^v.length),Xqo,Xq9,Xw1 a];omega
 | [],_::_,_,h,_,_,_=>by simp at h
 |_::_,[],_,h,_,_,_=>by simp at h
def LO (v:List Nat):List Nat→List Nat→List Nat
 | [],m=>m
 |a::u,m=>((AH a m v 0).1++ [(AH a m v 0).2]).headD 0::LO v u ((AH a m v 0).1++ [(AH a m v 0).2]).tail
theorem C3 (l:List Nat) (y:Nat):∃ z m,l++ [y]=z::m∧m.length=l.length:=by
 cases l with
 |nil=>exact ⟨y,[],rfl,rfl⟩
 |cons b l=>exact ⟨b,l++ [y],rfl,by simp⟩
theorem IV {v:List Nat} (e:aV v):∀ (u m:List Nat),aV u→aV m→m.length=v.length→aV (LO v u m)∧(LO v u m).length=u.length+v.length∧bM (LO v u m)=bM m+bM u*bM v
 | [],m,_,hm,hl=> ⟨hm,by simp [LO,hl],by simp [LO,bM]⟩
 | a::u,m,hu,hm,hl=>by
  obtain ⟨f,j,g,o⟩:=Di hu.head m v 0 hl (by omega) hm e;obtain ⟨z,b,c,n⟩:=C3 (AH a m v 0).1 (AH a m v 0).2;have d:aV (z::b):=by rw [← c];exact aV.app j (aV.cons f aV.nil)
  have l:bM (z::b)=bM m+a*bM v:=by
   rw [← c,uF,g];simp only [bM];omega
  simp only [LO,c,Xjh,Xzm];obtain ⟨k,i,h⟩:=IV e u b hu.tail d.tail (by omega);refine ⟨aV.cons d.head k,by simp [i];omega, ?_⟩;simp only [bM] at l ⊢;rw [h,Xxn,Xq9,Xqo];omega
def abB (u v:List Nat) (i:Nat) (p:Nat × List Nat × Nat):St:=⟨[(9,.sl (ag u) u.length false),(10,.sl (ag v) v.length false),(11,.ref 0 0 0 p.2.1.length),(12,ω (i:Int)),(13,ω (p.2.2:Int)),(14,ω (p.1:Int))],[(0,⟨ag p.2.1,0,false,0,1,true⟩)],.dead,[]⟩
def ajk (u v:List Nat) (i:Nat) (p:List Nat × Nat):St:=⟨[(9,.sl (ag u) u.length false),(10,.sl (ag v) v.length false),(11,.ref 0 0 0 p.1.length),(12,ω (i:Int)),(13,ω (p.2:Int))],[(0,⟨ag p.1,0,false,0,1,true⟩)],.dead,[]⟩
theorem OX {p s:List Nat} {x y k:Nat} (h:k=p.length):ο ((0+(δ (k:Int)))*1) (ag (p++x::s))++ [ω (y:Int)]++ε (((0+(δ (k:Int)))*1)+1) (ag (p++x::s))=ag (p++y::s):=by
 rw [Θ,Φ,av,Iy (by rw [h];simp)];subst h;simp
theorem WC {p s:List Nat} {x k:Nat} (h:k=p.length):(ζ (ε ((0+(δ (k:Int)))*1) (ag (p++x::s))) .dead)= ω (x:Int):=by
 rw [Θ,Φ,av];exact Iw h
theorem Ir {p s:List Nat} {x k:Nat} (h:k=p.length):(ζ (ε ((δ (k:Int))*1) (ag (p++x::s))) .dead)= ω (x:Int):=by
 rw [Φ,av];exact Iw h
theorem JG {a b:Nat} (h:a+b<9223372036854775808):ω (γ .i64 ((a:Int)+(b:Int)))= ω ((a+b:Nat):Int):=by
 rw [bQ,aS h]
theorem Rc {nt:Nat} (q:92≤nt) (u u1 u2 v:List Nat) (a:Nat) (A:u=u1++a::u2) (R:a<16777216) (U:aV v) (Q:u.length<2^36) (N:v.length<2^36):∀ (w m b d pp z:List Nat) (c:Nat),b++w=v→m.length=w.length→d.length=b.length→pp.length=u1.length→aV m→c<16777216→
  az prog ap [] nt (ac 2 (af f50)) (fun _=> .exit 2) (abB u v u1.length) (ajk u v u1.length) (b.length,pp++d++m++z,c) (pp++d++(AH a m w c).1++z,(AH a m w c).2):=by
 intro w
 induction w with
 |nil=>
  intro m b d pp z c f g t B i o;have V:m= []:=List.length_eq_zero_iff.1 (by simpa using g);subst V;have h:b=v:=by simpa using f
  simp only [AH];exact .done (ajh q u v _ _ _ _ 0 0 0 (by rw [h];exact Yq1 (by omega)))
 | cons y w ih=>
  intro m b d pp z c f g t B i o;cases m with
  |nil=>simp at g
  | cons x m=>
   have I:b.length+(w.length+1)=v.length:=by rw [← f];simp
   have J:u1.length+(u2.length+1)=u.length:=by rw [A];simp
   have T:y<16777216:=U y (by rw [← f];simp);obtain ⟨W,X,M⟩:=E5 R i.head T o;have e:=ih m (b++ [y]) (d++ [(x+a*y+c) % 16777216]) pp z ((x+a*y+c) / 16777216) (by simp [f]) (by simpa using g) (by simp [t]) B i.tail M;simp only [AH];rw [κ,τ] at e;have K:pp++d++x::m++z=(pp++d)++x::(m++z):=by simp
   have C:pp++(d++ [(x+a*y+c) % 16777216])++m++z=(pp++d)++(x+a*y+c) % 16777216::(m++z):=by simp
   have P:pp++(d++ [(x+a*y+c) % 16777216])++(AH a m w ((x+a*y+c) / 16777216)).1++z=pp++d++(x+a*y+c) % 16777216::(AH a m w ((x+a*y+c) / 16777216)).1++z:=by simp
   rw [P] at e;refine .next ?_ e
   have n:u1.length+b.length=(pp++d).length:=by rw [κ];omega
   have r:((pp++d)++x::(m++z)).length=(pp++d).length+(m++z).length+1:=by simp;omega
   have hlen2:((pp++d)++(x+a*y+c) % 16777216::(m++z)).length=((pp++d)++x::(m++z)).length:=by simp
   have S:=WC (p:=pp++d) (s:=m++z) (x:=x) n;have O:(ζ (ε ((δ (u1.length:Int))*1) (ag u)) .dead)= ω (a:Int):=by rw [A];exact Ir rfl
   have D:(ζ (ε ((δ (b.length:Int))*1) (ag v)) .dead)= ω (y:Int):=by rw [← f];exact Ir rfl
   have F:=OX (p:=pp++d) (s:=m++z) (x:=x) (y:=(x+a*y+c) % 16777216) n;unfold abB;simp only [K,C,hlen2];have hs:=ajg q u v ((pp++d)++x::(m++z)) u1.length b.length c a x y;rw [F,S,O,D] at hs;have j:u1.length<u.length:=by omega
   have k:b.length<v.length:=by omega
   have l:u1.length+b.length<((pp++d)++x::(m++z)).length:=by omega
   have E:ω (Xq4 (((x+a*y+c):Nat):Int) ((16777216:Nat):Int))= ω ((((x+a*y+c) % 16777216):Nat):Int):=by rw [rR]
   have H:ω (γ .i64 (Xqs (((x+a*y+c):Nat):Int) ((16777216:Nat):Int)))= ω ((((x+a*y+c) / 16777216):Nat):Int):=by rw [lL,aS (by omega)]
   have L:ω (γ .i64 ((a:Int)*(y:Int)))= ω ((a*y:Nat):Int):=by rw [JF (by omega)]
   have G:Xqk (((0+(δ (((u1.length+b.length):Nat):Int)))*1)+1) (η (ag ((pp++d)++x::(m++z))))=true:=by
    rw [Xxw,av,bK];omega
   apply hs<;>first|exact rfl|exact JG (by omega)|exact E|exact H|exact L|exact G|exact bw _|exact aF j|exact aF k|exact aF l
def NK (u v:List Nat) (p:Nat × List Nat):St:=⟨[(9,.sl (ag u) u.length false),(10,.sl (ag v) v.length false),(11,.ref 0 0 0 p.2.length),(12,ω (p.1:Int))],[(0,⟨ag p.2,0,false,0,1,true⟩)],.dead,[]⟩
def W_ (o:List Nat):St:=⟨[(11,.ref 0 0 0 o.length)],[(0,⟨ag o,0,false,0,1,true⟩)],.dead,[]⟩
theorem Od {nt:Nat} (g:92≤nt) (u v:List Nat) (d:aV u) (B:aV v) (o:u.length<2^36) (n:v.length<2^36):∀ (u2 u1 m pp:List Nat),u1++u2=u→m.length=v.length→pp.length=u1.length→aV m→
  az prog ap [] nt (ac 0 (af f50)) (fun _=> .exit 0) (NK u v) W_ (u1.length,pp++m++θ u2.length 0) (pp++LO v u2 m):=by
 intro u2
 induction u2 with
 |nil=>
  intro u1 m pp c i q w;have k:u1=u:=by simpa using c
  simp only [LO,χ,Xzc,Xqa];exact .done (ajj g u v _ [] _ 0 (by rw [k];exact Yq1 (by omega)))
 | cons a u2 ih=>
  intro u1 m pp c i q w;have H:u1.length+(u2.length+1)=u.length:=by rw [← c];simp
  have A:a<16777216:=d a (by rw [← c];simp);obtain ⟨E,L,N,O⟩:=Di A m v 0 i (by omega) w B;have l:=fun nt (g:92≤nt)=>Rc g u u1 u2 v a c.symm A B o n v m [] [] pp (θ (u2.length+1) 0) 0 rfl i rfl q w (by omega)
  simp only [LO];generalize AH a m v 0=r at*
  obtain ⟨z,e,h,M⟩:=C3 r.1 r.2;have K:aV (z::e):=by rw [← h];exact aV.app L (aV.cons E aV.nil)
  have b:=ih (u1++ [a]) e (pp++ [z]) (by simp [c]) (by omega) (by simp [q]) K.tail;simp only [h,Xjh,Xzm];rw [κ,τ] at b;have J:pp++ [z]++LO v u2 e=pp++z::LO v u2 e:=by simp
  rw [J] at b;refine .next ?_ b
  rw [Xqa] at l;have C:u1.length+v.length=(pp++r.1).length:=by rw [κ];omega
  have I:pp++r.1++θ (u2.length+1) 0=(pp++r.1)++0::θ u2.length 0:=by rw [Xxd]
  have D:pp++ [z]++e++θ u2.length 0=(pp++r.1)++r.2::θ u2.length 0:=by
   rw [Ψ pp,Xxl,← h];simp
  have G:=OX (p:=pp++r.1) (s:=θ u2.length 0) (x:=0) (y:=r.2) C;rw [I] at l;have f:((pp++r.1)++0::θ u2.length 0).length=((pp++r.1)++r.2::θ u2.length 0).length:=by simp
  have hlen2:((pp++r.1)++0::θ u2.length 0).length=(pp++r.1).length+u2.length+1:=by simp;omega
  have hs:=aji g u v (pp++m++θ (u2.length+1) 0) ((pp++r.1)++0::θ u2.length 0) u1.length r.2;rw [G] at hs;have j:u1.length<u.length:=by omega
  have t:u1.length+v.length<((pp++r.1)++0::θ u2.length 0).length:=by omega
  have F:Xqk (((0+(δ (((u1.length+v.length):Nat):Int)))*1)+1) (η (ag ((pp++r.1)++0::θ u2.length 0)))=true:=by
   rw [Xxw,av,bK];omega
  unfold NK;simp only [D,μ];rw [← f];apply hs<;>first|exact JG (by omega)|exact F|exact bw _|exact aF j|exact aF t|skip
  exact az.blk l (by simp) rfl (aJ.of ⟨rfl,rfl,rfl,rfl,rfl,rfl,trivial⟩) (aJ.refl _)
theorem rV {s:List UInt8} (h:s.length<2^35):(ak (ae s)).length<2^35:=by
 have a:(ak (ae s)).length≤s.length:=ny (σ (gJ s) (by rw [Xja];exact Nat.pow_le_pow_left (by decide) _));omega
theorem KD (s t:List UInt8) (hs:s.length<2^35) (d:t.length<2^35):∃ o3:List Nat,o3.length<2^36∧aV o3∧bM o3=ae s*ae t∧∀ nt,92≤nt→az prog ap [] nt (ac 0 (af f50)) (fun _=> .exit 0) (NK (ak (ae s)) (ak (ae t))) W_ (0,θ ((ak (ae s)).length+(ak (ae t)).length) 0) o3:=by
 have f:=rV hs;have g:=rV d;obtain ⟨e,a,b⟩:=IV (aV.dig (ae t)) (ak (ae s)) (θ (ak (ae t)).length 0) (aV.dig _) (aV.zeros _) (by simp);refine ⟨_,by rw [a];omega,e, ?_,fun nt c=> ?_⟩
 ·rw [b,HR,dm,dm,Θ]
 ·have:=Od c (ak (ae s)) (ak (ae t)) (aV.dig _) (aV.dig _) (by omega) (by omega) (ak (ae s)) [] (θ (ak (ae t)).length 0) [] rfl (by simp) rfl (aV.zeros _);rw [Xqd,Xqd,List.replicate_append_replicate,Xxr] at this;exact this
theorem E6 (s t:List UInt8) (hs:s.length<2^35) (r:t.length<2^35):CO 50 [.str s,.str t] (.ret (.str (aa (ae s*ae t)))):=by
 obtain ⟨a,v,y,z,A⟩:=KD s t hs r;have B:=rV hs;have C:=rV r;have j:=wq s (by omega);have g:=wq t (by omega);have f:=pH a true v y;rw [z] at f;have k:ο (a.length*1) (ag a)=ag a:=by rw [Φ,ct,Xqw]
 rw [← k] at f;have w:γ .i64 ((((ak (ae s)).length:Nat):Int)+(((ak (ae t)).length:Nat):Int))=(((ak (ae s)).length+(ak (ae t)).length:Nat):Int):=by
  rw [bQ,aS (by omega)]
 have q:=ajd s t (ae s) 0 (ae s*ae t) a;have o:=aje s t 0 (ae t) (ae s*ae t) a;have m:=ajf s t 0 0 (ae s*ae t) a;rw [w,av,xm] at q o m;have l:=Yq0 (p:=((0:Nat):Int)≤(((ak (ae s)).length+(ak (ae t)).length:Nat):Int)) (by omega);have i:=Yq0 (p:=(((ak (ae s)).length+(ak (ae t)).length:Nat):Int)=(((ak (ae s)).length+(ak (ae t)).length:Nat):Int)) rfl;have h:=Yq0 (p:=(((ak (ae s)).length+(ak (ae t)).length:Nat):Int)≤((1099511627776:Nat):Int)) (by omega);have c:=az.blk (s:=NK (ak (ae s)) (ak (ae t)) (0,θ ((ak (ae s)).length+(ak (ae t)).length) 0)) (s':=W_ a) (id:=0) A (by simp) rfl (aJ.refl _) (aJ.refl _);have x:((ak (ae s)).length+(ak (ae t)).length)=(θ ((ak (ae s)).length+(ak (ae t)).length) 0).length:=by rw [Xxi]
 unfold NK at c;simp only [← x] at c;rcases Xq8 (ae s) (2^(8*3)) with c1|c1
 ·have d:=gF s 3 (by omega) (by omega) c1;rcases Xq8 (ae t) (2^(8*4)) with c2|c2
  ·have b:=gF t 4 (by omega) (by omega) c2;have u:ae s*ae t<9223372036854775808:=υ (Xj7 (show ae s≤16777215 by omega) (show ae t≤4294967295 by omega)) (by omega);have n:=cH (ae s*ae t) u;rw [← JF u] at n;exact XY s t _ _ _ d b n
  ·have b:=iK t 4 (by omega) c2;exact q l i h d b j g f fun nt e=>(c nt e).weak (aJ.of ⟨rfl,rfl,rfl,rfl,trivial⟩) (aJ.refl _)
 ·have d:=iK s 3 (by omega) c1;rcases Xq8 (ae t) (2^(8*4)) with c2|c2
  ·have b:=gF t 4 (by omega) (by omega) c2;exact o l i h d b j g f fun nt e=>(c nt e).weak (aJ.of ⟨rfl,rfl,rfl,rfl,trivial⟩) (aJ.refl _)
  ·have b:=iK t 4 (by omega) c2;exact m l i h d b j g f fun nt e=>(c nt e).weak (aJ.of ⟨rfl,rfl,rfl,rfl,trivial⟩) (aJ.refl _)
end Go.Proofs.Tryz
