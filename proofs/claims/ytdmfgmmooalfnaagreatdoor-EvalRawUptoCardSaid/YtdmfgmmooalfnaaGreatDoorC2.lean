/- Contracts of functions that the law reaches, each by its own hypotheses; joined by a program of mine. -/
import Derived.Test.YtdmfgmmooalfnaaGreatDoorC1
import Derived.Test.YtdmfgmmooalfnaaGreatDoorM5
set_option linter.unusedSimpArgs false
set_option linter.unusedVariables false
set_option maxRecDepth 100000
open Go AM
open List renaming eq_nil_of_length_eq_zero→Xxh,length_cons→μ,nil_append→Xqk,map_cons→Xqh,map_nil→Xx4,length_nil→Xqb,take_length→Xqx,length_append→θ,length_singleton→σ,getD_eq_getElem?_getD→ο,getElem?_eq_none→Xq4,append_nil→Γ,append_assoc→Xqd,drop_zero→Xj6,take_add_one→Xwn,getElem?_eq_getElem→ξ,length_take→Xqz,take→ν,headD→ζ,drop→ε,length→η,all→Xzu,map→Xw4,getD→Xqm,foldl_append→Xwr,map_append→Xx0,all_eq_true→Xzb,take_append_drop→Xjy,take_of_length_le→Ξ,getD_cons_zero→Xjw,drop_of_length_le→Xx6,range→Xq6,ext_getElem?→Xjv,getElem?_set→Xzl,replicate→κ,drop_eq_getElem_cons→Xxp,headD_cons→Xjd,dropWhile_cons→Xxv,singleton_append→Xxe,tail→Xjs,length_drop→Xxz,replicate_succ→Xxc,replicate_zero→Xwa,length_replicate→Xxu,tail_cons→Xzj
open Nat renaming pow_succ→Xq2,mul_comm→Ψ,mul_assoc→Xqn,mul_one→φ,not_lt→Xku,add_zero→Xq0,eq_zero_or_pos→Θ,pow_le_pow_right→Xqc,mul_zero→Xjc,min_eq_left→Xx1,lt_or_ge→Xq5,mul_le_mul_left→Xqy,mul_add→Xq8,le_refl→Δ,ble→Xqg,beq→Xqq,mul_pos→Xx7,lt_of_lt_of_le→Xqa,mul_lt_mul_of_pos_right→Xw6,lt_of_not_le→Xk4,div_lt_iff_lt_mul→Xqs,mod_eq_of_lt→υ,mod_lt→Xqv,add_mul→Xxm,zero_mul→Xwb,zero_add→Xqf,le_trans→Xq1,pow_mul→Xx5,lt_trichotomy→Xj7,mul_le_mul_right→Xqu,one_mul→Xzy,lt_irrefl→Xvt,div_div_eq_div_mul→Xxr,mul_left_comm→Xwo,add_comm→Xxq,div_add_mod→Xq7,lt_trans→Xxa,le_of_lt→Xww,div_eq_of_lt→Xxy,div_le_self→Xjq,lt_of_le_of_lt→χ,gcd→Xxn,gcd_comm→Xv8,gcd_zero_left→Xwp,gcd_le_right→Xwz,gcd_pos_of_pos_right→Xjz,div_pos→Xvr,div_self→Yxi,sub_zero→Xjk,succ_pos→Xkz,mul_le_mul→Xwu,ble_eq→Xzm
open Decidable renaming em→Xxf
open IntKind renaming wrap→γ
open Bool renaming not_true→Xwh,not_false→Xjj,eq_iff_iff→Xx2,not_eq_true'→Xqo
open Int renaming tdiv→Xxg,toNat→δ,fdiv→Xqw,tmod→Xju
open AV renaming toInt→τ,toBool→Xkc,nilS→Xkw
open UInt8 renaming ofNat→Xql,toNat→Φ,toNat_lt→Xvg
namespace Go.Proofs.Tryz
abbrev zcc2_0 : List AV := [.str [],ω 0,.bool false,.bool false,.bool false]
def Ol:List Nat→List Nat→Nat→List Nat × Nat
 | [],_,c=>([],c)
 |x::u,v,c=>((if x<v.headD 0+c then x+16777216 - (v.headD 0+c) else x - (v.headD 0+c))::(Ol u v.tail (if x<v.headD 0+c then 1 else 0)).1,(Ol u v.tail (if x<v.headD 0+c then 1 else 0)).2)
theorem aid {v:List Nat} (h:bf v):v.headD 0<16777216:=by cases v with|nil=>show 0<16777216;omega|cons d l=>exact h.head
theorem alu {v:List Nat} (h:bf v):bf v.tail:=by cases v with|nil=>exact h|cons d l=>exact h.tail
theorem Ui (v:List Nat):cO v=v.headD 0+16777216*cO v.tail:=by cases v with|nil=>rfl|cons d l=>rfl
theorem ZH (u:List Nat):∀ (v:List Nat) (c:Nat),c≤1→bf u→bf v→v.length≤u.length→(Ol u v c).2≤1∧bf (Ol u v c).1∧(Ol u v c).1.length=u.length∧cO (Ol u v c).1+cO v+c=cO u+16777216^u.length*(Ol u v c).2:=by
 induction u with
 |nil=>
  intro v c d _ _ b;have:v= []:=Xxh (by simpa using b);subst this;exact ⟨d,bf.nil,rfl,by simp [Ol,cO]⟩
 |cons x u ih=>
  intro v c d g f b;have m:=g.head;have l:=aid f;have a:v.tail.length≤u.length:=by simp at b ⊢;omega
  obtain ⟨i,h,k,j⟩:=ih v.tail (if x<v.headD 0+c then 1 else 0) (by split<;>omega) g.tail (alu f) a;simp only [Ol];refine ⟨i,bf.cons (by split<;>omega) h,by rw [μ,k,μ], ?_⟩;rw [Ui v];simp only [cO,μ,Xq2];rw [Ψ (16777216^u.length),Xqn];generalize Ol u v.tail (if x<v.headD 0+c then 1 else 0)=r at*
  split at j<;>rename_i e
  ·rw [if_pos e];omega
  ·rw [if_neg e];omega
def SG (a b:List Nat) (na nb:Bool) (p:Nat × Nat × List Nat):St:=⟨[(0,.sl (ai a) a.length na),(1,.sl (ai b) b.length nb),(6,ω (p.2.1:Int)),(7,ω (p.1:Int)),(5,Nj p.2.2)],Nk p.2.2,.dead,[]⟩
def Qh (p:Nat × List Nat):St:=⟨[(5,Nj p.2)],Nk p.2,.dead,[]⟩
theorem ZK {nt:Nat} (i:41≤nt) (a b o:List Nat) (g f:Bool) (c k x y:Nat) (t:a.length<2^40) (p:b.length<2^40) (s:k<a.length) (q:o.length=k) (h:a.getD k 0=x) (j:b.getD k 0=y) (m:x<16777216) (n:y<16777216) (r:c≤1):
  ψ nt f151 (SG a b g f (k,c,o)) .normal (SG a b g f (k+1,if x<y+c then 1 else 0,o++ [if x<y+c then x+16777216 - (y+c) else x - (y+c)])):=by
 unfold SG;by_cases hkb:k<b.length<;>by_cases hlt:x<y+c<;>simp only [hlt,if_true,if_false]
 ·have e:((x:Int) - (c:Int) - (y:Int)+((16777216:Nat):Int))=((x+16777216 - (y+c):Nat):Int):=by omega
  rcases Xxf (o= []) with rfl|hne
  ·have d:=afi i a b [] g f c k;simp (disch:=first|omega|(simp [au,ay]<;>omega)) only [aB,φ,fG,h,aY,dC,j,bu,a_,dU,dw,aW,bJ] at d;rw [e] at d;simp only [Xqk,Nj,Nk,ai,Xqh,Xx4,μ,Xqb] at d ⊢;apply d<;>first|exact True.intro|omega|assumption|exact rfl
  ·have d:=afd i a b o g f c k;rw [gG hne,gI hne,gG (iC _ _),gI (iC _ _)];simp (disch:=first|omega|(simp [au,ay]<;>omega)) only [fE,a_,φ,aB,fG,h,aY,dC,j,bu,dU,dw,aW,bJ] at d;rw [e] at d;simp (disch:=first|omega|(simp [au,ay]<;>omega)) only [bI,dh,Xqx,iO] at d;simp only [θ,σ];apply d<;>first|exact True.intro|omega|assumption|exact rfl
 ·have e:((x:Int) - (c:Int) - (y:Int))=((x - (y+c):Nat):Int):=by omega
  rcases Xxf (o= []) with rfl|hne
  ·have d:=afj i a b [] g f c k;simp (disch:=first|omega|(simp [au,ay]<;>omega)) only [aB,φ,fG,h,aY,dC,j,dH,dQ,eG,dU,dw,a_,aW,bu,bJ] at d;rw [e] at d;simp only [Xqk,Nj,Nk,ai,Xqh,Xx4,μ,Xqb] at d ⊢;apply d<;>first|exact True.intro|omega|assumption|exact rfl
  ·have d:=afe i a b o g f c k;rw [gG hne,gI hne,gG (iC _ _),gI (iC _ _)];simp (disch:=first|omega|(simp [au,ay]<;>omega)) only [fE,a_,φ,aB,fG,h,aY,dC,j,dH,dQ,eG,dU,dw,aW,bu,bJ] at d;rw [e] at d;simp (disch:=first|omega|(simp [au,ay]<;>omega)) only [bI,dh,Xqx,iO] at d;simp only [θ,σ];apply d<;>first|exact True.intro|omega|assumption|exact rfl
 ·have l:y=0:=by rw [← j,ο,Xq4 (by omega)];rfl
  have e:((x:Int) - (c:Int)+((16777216:Nat):Int))=((x+16777216 - (y+c):Nat):Int):=by omega
  rcases Xxf (o= []) with rfl|hne
  ·have d:=afk i a b [] g f c k;simp (disch:=first|omega|(simp [au,ay]<;>omega)) only [aB,φ,fG,h,aY,dC,bu,a_,aW,dH,dQ,eG,Xku,dU,dw,bJ] at d;rw [e] at d;simp only [Xqk,Nj,Nk,ai,Xqh,Xx4,μ,Xqb] at d ⊢;apply d<;>first|exact True.intro|omega|assumption|exact rfl
  ·have d:=aff i a b o g f c k;rw [gG hne,gI hne,gG (iC _ _),gI (iC _ _)];simp (disch:=first|omega|(simp [au,ay]<;>omega)) only [fE,a_,φ,aB,fG,h,aY,dC,bu,aW,dH,dQ,eG,Xku,dU,dw,bJ] at d;rw [e] at d;simp (disch:=first|omega|(simp [au,ay]<;>omega)) only [bI,dh,Xqx,iO] at d;simp only [θ,σ];apply d<;>first|exact True.intro|omega|assumption|exact rfl
 ·have l:y=0:=by rw [← j,ο,Xq4 (by omega)];rfl
  have e:((x:Int) - (c:Int))=((x - (y+c):Nat):Int):=by omega
  rcases Xxf (o= []) with rfl|hne
  ·have d:=afl i a b [] g f c k;simp (disch:=first|omega|(simp [au,ay]<;>omega)) only [aB,φ,fG,h,aY,dC,dH,dQ,eG,aW,Xku,dU,dw,a_,bu,bJ] at d;rw [e] at d;simp only [Xqk,Nj,Nk,ai,Xqh,Xx4,μ,Xqb] at d ⊢;apply d<;>first|exact True.intro|omega|assumption|exact rfl
  ·have d:=afg i a b o g f c k;rw [gG hne,gI hne,gG (iC _ _),gI (iC _ _)];simp (disch:=first|omega|(simp [au,ay]<;>omega)) only [fE,a_,φ,aB,fG,h,aY,dC,dH,dQ,eG,aW,Xku,dU,dw,bu,bJ] at d;rw [e] at d;simp (disch:=first|omega|(simp [au,ay]<;>omega)) only [bI,dh,Xqx,iO] at d;simp only [θ,σ];apply d<;>first|exact True.intro|omega|assumption|exact rfl
theorem ZI {nt:Nat} (f:41≤nt) (a b o:List Nat) (d e:Bool) (c:Nat):ψ nt f151 (SG a b d e (a.length,c,o)) (.exit 0) (Qh (c,o)):=by
 unfold SG Qh;rcases Xxf (o= []) with rfl|hne
 ·exact afm f a b [] d e c a.length (by rw [aW];simp [lit])
 ·have g:=afh f a b o d e c a.length (by rw [aW];simp [lit]);rw [gG hne,gI hne];exact g
theorem ZJ {nt:Nat} (n:41≤nt) (a b:List Nat) (i f:Bool) (t:a.length<2^40) (k:b.length<2^40) (j:bf a) (e:bf b):∀ (l p o:List Nat) (c:Nat),p++l=a→o.length=p.length→c≤1→
  az prog ap [] nt (af 0 (ah f151)) (fun _=> .exit 0) (SG a b i f) Qh (p.length,c,o) ((Ol l (b.drop p.length) c).2,o++(Ol l (b.drop p.length) c).1):=by
 intro l
 induction l with
 |nil=>
  intro p o c h g m;have hp:p=a:=by simpa using h
  rw [hp];simp only [Ol,Γ];exact .done (ZI n a b o i f c)
 | cons x l ih=>
  intro p o c h g m;have u:p.length+(l.length+1)=a.length:=by rw [← h];simp
  have r:x<16777216:=j x (by rw [← h];simp);have s:a.getD p.length 0=x:=by rw [← h];simp
  have q:(b.drop p.length).headD 0=b.getD p.length 0:=by
   rw [List.headD_eq_head?_getD,List.head?_drop,ο]
  have d:(b.drop p.length).tail=b.drop (p.length+1):=by rw [List.tail_drop]
  have hnext:=ih (p++ [x]) (o++ [if x<b.getD p.length 0+c then x+16777216 - (b.getD p.length 0+c) else x - (b.getD p.length 0+c)]) (if x<b.getD p.length 0+c then 1 else 0) (by simp [h]) (by simp [g]) (by split<;>omega);rw [θ,σ,Xqd] at hnext;simp only [Ol];rw [q,d];exact .next (ZK n a b o i f c p.length x _ t k (by omega) g s rfl r (e.getD _) m) hnext
theorem Lc (x y:Nat) (e b:Bool) (h:y≤x) (s:(ax x).length<2^36):CO 151 [.sl (ai (ax x)) (ax x).length e,.sl (ai (ax y)) (ax y).length b] (.ret (.sl (ai (ax (x - y))) (ax (x - y)).length false)):=by
 have k:=qF h;obtain ⟨m,f,i,d⟩:=ZH (ax x) (ax y) 0 (by omega) (bf.dig x) (bf.dig y) k;have hloop:=fun nt (hn:41≤nt)=>ZJ hn (ax x) (ax y) e b (by omega) (by omega) (bf.dig x) (bf.dig y) (ax x) [] [] 0 rfl rfl (by omega)
 rw [Xqb,Xj6] at hloop;generalize u:Ol (ax x) (ax y) 0=r at*
 obtain ⟨o,c⟩:=r;simp only [Xqk] at hloop m f i d;rw [fA,fA,Xq0] at d;have g:=zh f;have n:c=0:=by
  rcases Θ c with h0|h0
  ·exact h0
  ·have p:c=1:=by omega
   have t:=uX y;have q:=Xqc (show 0<16777216 by omega) k;rw [p,φ] at d;rw [i] at g;omega
 subst n;have l:cO o=x - y:=by rw [Xjc] at d;omega
 have j:=yO o true (by omega);rw [QZ f,l] at j;rcases Xxf (o= []) with rfl|hne
 ·have h:=aaR (ax x) (ax y) [] (ax (x - y)) e b;have a:=yO [] false (by simp);rw [QZ bf.nil,l] at a;apply h
  ·exact az.blk hloop (by simp) rfl (aH.of ⟨rfl,rfl,rfl,rfl,rfl,trivial⟩) (aH.of ⟨rfl,trivial⟩)
  ·exact a.args (fC.cons (aS.nilS false rfl) fC.nil)
 ·have h:=aaQ (ax x) (ax y) o (ax (x - y)) e b;rw [φ,dh,Xqx] at h;apply h
  ·exact az.blk hloop (by simp) rfl (aH.of ⟨rfl,rfl,rfl,rfl,rfl,trivial⟩) (by unfold Qh;rw [gG hne,gI hne];exact aH.of ⟨rfl,trivial⟩)
  ·exact j.out (j_.sl1 _ _ _)
def YH (a b:List Nat):Nat→Option Int
 |0=>none
 |k+1=>if a.getD k 0=b.getD k 0 then YH a b k else some ((a.getD k 0:Int) - (b.getD k 0:Int))
def J_ (a b:List Nat):Int:=if a.length=b.length then (YH a b a.length).getD 0 else (a.length:Int) - (b.length:Int)
theorem oN {l:List Nat} {k:Nat} (h:k<l.length):cO (l.take (k+1))=cO (l.take k)+16777216^k*l.getD k 0:=by
 rw [Xwn,zg,ξ h,Xqz,Xx1 (by omega),ο,ξ h];simp [cO]
theorem Kq {a b:List Nat} (j:a.length=b.length) (d:bf a) (e:bf b):∀ k,k≤a.length→(0≤(YH a b k).getD 0↔cO (b.take k)≤cO (a.take k))∧((YH a b k).getD 0≤0↔cO (a.take k)≤cO (b.take k))
 |0,_=>by simp [YH]
 | k+1,h=>by
  obtain ⟨g,i⟩:=Kq j d e k (by omega);rw [oN (l:=a) (by omega),oN (l:=b) (by omega)];have f:=zh (d.take k);have tb:=zh (e.take k);rw [Xqz,Xx1 (by omega)] at f tb;simp only [YH];by_cases he:a.getD k 0=b.getD k 0
  ·rw [if_pos he,he];exact ⟨g.trans (by omega),i.trans (by omega)⟩
  ·rw [if_neg he];simp only [Option.getD_some];generalize a.getD k 0=x at*
   generalize b.getD k 0=y at*
   generalize cO (ν k a)=u at*
   generalize cO (ν k b)=v at*
   generalize 16777216^k=M at*
   rcases Xq5 x y with hlt|hge
   ·have c:M*(x+1)≤M*y:=Xqy _ hlt;rw [Xq8,φ] at c;constructor<;>constructor<;>intro<;>omega
   ·have c:M*(y+1)≤M*x:=Xqy _ (by omega);rw [Xq8,φ] at c;constructor<;>constructor<;>intro<;>omega
theorem GU (x y:Nat):(0≤J_ (ax x) (ax y)↔y≤x)∧(J_ (ax x) (ax y)≤0↔x≤y):=by
 unfold J_;by_cases h:(ax x).length=(ax y).length
 ·rw [if_pos h];have:=Kq h (bf.dig x) (bf.dig y) _ (Δ _);rw [Xqx,h,Xqx,fA,fA] at this;rw [h];exact this
 ·rw [if_neg h];rcases Xq5 (ax x).length (ax y).length with h1|h1
  ·have b:¬ y≤x:=fun a=>by have:=qF a;omega
   constructor<;>constructor<;>intro<;>omega
  ·have b:¬ x≤y:=fun a=>by have:=qF a;omega
   constructor<;>constructor<;>intro<;>omega
def ads (a b:List Nat) (na nb:Bool) (k:Nat):St:=⟨[(0,.sl (ai a) a.length na),(1,.sl (ai b) b.length nb),(5,ω ((k:Int) - 1))],[],.dead,[]⟩
def ag_:Option Int→St
 |none=> ⟨[],[],.dead,[]⟩
 |some c=> ⟨[(4,.int .i64 c)],[],.dead,[]⟩
def cqE:Option Int→bG
 |none=> .exit 0
 |some _=> .ret
theorem YI {nt:Nat} (h:41≤nt) (a b:List Nat) (e d:Bool) (p:a.length=b.length) (g:bf a) (f:bf b) (q:a.length<2^40):∀ k,k≤a.length→az prog ap [] nt (af 0 (ah f186)) cqE (ads a b e d) ag_ k (YH a b k):=by
  intro k
  induction k with
  |zero=>exact fun _=> .done (ae7 h a b e d)
  | succ k ih=>
    intro o;have m:=g.getD k;have n:=f.getD k;have i:(((k+1:Nat):Int) - 1)=(k:Int):=by omega
    have l:γ .i64 ((k:Int) - ((1:Nat):Int))=(k:Int) - 1:=dC (by omega) (by omega);have j:γ .i64 (((a.getD k 0:Nat):Int) - ((b.getD k 0:Nat):Int))=((a.getD k 0:Nat):Int) - ((b.getD k 0:Nat):Int):=dC (by omega) (by omega);simp only [YH];by_cases he:a.getD k 0=b.getD k 0
    · rw [if_pos he];refine .next ?_ (ih (by omega))
      unfold ads;rw [i]
      first
        | (have c:=akj h a b e d k
           simp (disch:=first|omega|(simp [au,ay]<;>omega)) only [aB,φ,fG,he,aY,jG,decide_true,Xwh,dH,Xjj,dU,dw,a_,aW,bu,l] at c;apply c<;>first|exact True.intro|omega|assumption|exact rfl)
    · rw [if_neg he];refine .done ?_;unfold ads;rw [i];have c:=aki h a b e d k;simp (disch:=first|omega|(simp [au,ay]<;>omega)) only [aB,φ,fG,dU,dw,a_,aW,aY,jG,he,decide_false,Xjj,bu,j] at c;apply c<;>first|exact True.intro|omega|assumption|exact rfl
theorem QE (a b:List Nat) (d e:Bool) (f:bf a) (g:bf b) (j:a.length<2^40) (m:b.length<2^40):CO 186 [.sl (ai a) a.length d,.sl (ai b) b.length e] (.ret (ω (J_ a b))):=by
 unfold J_;by_cases hl:a.length=b.length
 ·rw [if_pos hl];have hloop:=fun nt (hn:41≤nt)=>YI hn a b d e hl f g j a.length (Δ _)
  have k:γ .i64 ((a.length:Int) - ((1:Nat):Int))=(a.length:Int) - 1:=Eu j;cases i:YH a b a.length with
  |none=>
   rw [i] at hloop;exact ae9 a b d e (by rw [hl];simp [lit]) (az.blk hloop (by simp [cqE]) rfl (aH.of ⟨rfl,rfl,congrArg _ k,trivial⟩) (aH.of trivial))
  |some c=>
   rw [i] at hloop;exact ae_ a b d e c (by rw [hl];simp [lit]) (az.blk hloop (by simp [cqE]) rfl (aH.of ⟨rfl,rfl,congrArg _ k,trivial⟩) (aH.of ⟨rfl,trivial⟩))
 ·rw [if_neg hl];have h:=ae8 a b d e;have l:γ .i64 ((a.length:Int) - (b.length:Int))=(a.length:Int) - (b.length:Int):=dC (by omega) (by omega);simp (disch:=first|omega|(simp [au,ay]<;>omega)) only [jG,bu,dQ,eG,l] at h;apply h<;>first|exact True.intro|omega|assumption|exact rfl
theorem ahb {nt:Nat} (g:26≤nt) (x y w b a:Nat) (c:Int) (d e:Bool) (j:lit true (decide (c≤((0:Nat):Int)))=true) (f:lit true (decide ((b:Int)<(a:Int)))=true) (h:CO 188 [.sl (ai (ax y)) (ax y).length e,ω (γ .i64 (Xxg (γ .i64 ((γ .i64 ((b:Int)+(a:Int)))+((1:Nat):Int))) ((2:Nat):Int)))] (.ret (.sl (ai (ax w)) (ax w).length true))) (i:CO 186 [.sl (ai (ax w)) (ax w).length true,.sl (ai (ax x)) (ax x).length d] (.ret (ω c))):ψ nt f187 ⟨[(0,.sl (ai (ax x)) (ax x).length d),(1,.sl (ai (ax y)) (ax y).length e),(5,ω (b:Int)),(6,ω (a:Int))],[],.dead,[]⟩ (.normal) ⟨[(0,.sl (ai (ax x)) (ax x).length d),(1,.sl (ai (ax y)) (ax y).length e),(5,ω (γ .i64 (Xxg (γ .i64 ((γ .i64 ((b:Int)+(a:Int)))+((1:Nat):Int))) ((2:Nat):Int)))),(6,ω (a:Int))],[],.dead,[]⟩:=pJ 187 [] 2 3 (.c j (.k 1 f .nil)) (.c i (.c h .nil)) g
theorem ahc {nt:Nat} (g:26≤nt) (x y w a b:Nat) (c:Int) (d e:Bool) (j:lit false (decide (c≤((0:Nat):Int)))=true) (f:lit true (decide ((a:Int)<(b:Int)))=true) (h:CO 188 [.sl (ai (ax y)) (ax y).length e,ω (γ .i64 (Xxg (γ .i64 ((γ .i64 ((a:Int)+(b:Int)))+((1:Nat):Int))) ((2:Nat):Int)))] (.ret (.sl (ai (ax w)) (ax w).length true))) (i:CO 186 [.sl (ai (ax w)) (ax w).length true,.sl (ai (ax x)) (ax x).length d] (.ret (ω c))):ψ nt f187 ⟨[(0,.sl (ai (ax x)) (ax x).length d),(1,.sl (ai (ax y)) (ax y).length e),(5,ω (a:Int)),(6,ω (b:Int))],[],.dead,[]⟩ (.normal) ⟨[(0,.sl (ai (ax x)) (ax x).length d),(1,.sl (ai (ax y)) (ax y).length e),(5,ω (a:Int)),(6,ω (γ .i64 ((γ .i64 (Xxg (γ .i64 ((γ .i64 ((a:Int)+(b:Int)))+((1:Nat):Int))) ((2:Nat):Int))) - ((1:Nat):Int))))],[],.dead,[]⟩:=pJ 187 [] 2 1 (.c j (.k 1 f .nil)) (.c i (.c h .nil)) g
theorem ahd {nt:Nat} (e:26≤nt) (x y w a b:Nat) (c:Int) (d f:Bool) (g:lit false (decide ((a:Int)<(b:Int)))=true):ψ nt f187 ⟨[(0,.sl (ai (ax x)) (ax x).length d),(1,.sl (ai (ax y)) (ax y).length f),(5,ω (a:Int)),(6,ω (b:Int))],[],.dead,[]⟩ (.exit 0) ⟨[(5,ω (a:Int))],[],.dead,[]⟩:=pJ 187 [] 1 0 (.c g .nil) (.nil) e
theorem adt (x y q:Nat) (a b:Bool) (c:aG prog ap [] 26 (.block 0 (.loop (af 0 (ah f187)))) ⟨[(0,.sl (ai (ax x)) (ax x).length a),(1,.sl (ai (ax y)) (ax y).length b),(4,ω 0),(5,ω 0),(6,ω 16777215),(7,.dead),(10,.dead),(21,.dead)],[],.dead,[]⟩ (.normal) ⟨[(5,ω (q:Int))],[],.dead,[]⟩):CO 187 [.sl (ai (ax x)) (ax x).length a,.sl (ai (ax y)) (ax y).length b] (.ret (ω (q:Int))):=pK [0] 0 0 .nil (.l c .nil)
theorem aeI {nt:Nat} (f:35≤nt) (l o:List Nat) (k:Nat) (d:Bool) (c:(chk (.int .i64) (ζ (ε ((δ (k:Int))*1) (ai l)) .dead))=true) (a:(decide (((0:Nat):Int)≤(k:Int)))=true) (b:(decide ((k:Int)<(l.length:Int)))=true) (e:lit true (decide (((0:Nat):Int)≤(k:Int)))=true):ψ nt f136 ⟨[(0,.sl (ai l) l.length d),(3,.nilS),(4,ω (k:Int))],[],.dead,[]⟩ (.normal) ⟨[(0,.sl (ai l) l.length d),(3,.ref 0 0 0 3),(4,ω (γ .i64 ((k:Int) - ((1:Nat):Int))))],[(0,⟨[.int .u8 (γ .u8 (Xqw (τ (ζ (ε ((δ (k:Int))*1) (ai l)) .dead)) (2^(min 16 64)))),.int .u8 (γ .u8 (Xqw (τ (ζ (ε ((δ (k:Int))*1) (ai l)) .dead)) (2^(min 8 64)))),.int .u8 (γ .u8 (τ (ζ (ε ((δ (k:Int))*1) (ai l)) .dead)))],0,false,0,1,true⟩)],.dead,[]⟩:=pJ 136 [] 2 1 (.k 3 c (.c a (.c b (.k 1 c (.c a (.c b (.k 1 c (.c a (.c b (.c e .nil)))))))))) (.nil) f
theorem Z9 {nt:Nat} (a:35≤nt) (l o:List Nat) (b:Bool):ψ nt f136 ⟨[(0,.sl (ai l) l.length b),(3,.nilS),(4,ω (-1))],[],.dead,[]⟩ (.exit 0) ⟨[(3,.nilS)],[],.dead,[]⟩:=pJ 136 [] 1 0 (.n 1 .nil) (.nil) a
theorem Z_ (l o:List Nat) (a:Bool) (b:aG prog ap [] 35 (.block 0 (.loop (af 0 (ah f136)))) ⟨[(0,.sl (ai l) l.length a),(2,.str []),(3,.nilS),(4,ω (γ .i64 ((l.length:Int) - ((1:Nat):Int)))),(9,.dead)],[],.dead,[]⟩ (.normal) ⟨[(3,.nilS)],[],.dead,[]⟩) (c:CO 133 [.str []] (.ret (.str (ae (ag []))))):CO 136 [.sl (ai l) l.length a] (.ret (.str (ae (ag [])))):=pK [0] 0 0 (.n 2 .nil) (.c c (.l b .nil))
theorem aeH {nt:Nat} (g:35≤nt) (l o:List Nat) (k:Nat) (d:Bool) (h:(Xqg (o.length+3) 1099511627776)=true) (f:(Xqg (o.length*1) (η (oP o)))=true) (c:(chk (.int .i64) (ζ (ε ((δ (k:Int))*1) (ai l)) .dead))=true) (a:(decide (((0:Nat):Int)≤(k:Int)))=true) (b:(decide ((k:Int)<(l.length:Int)))=true) (e:lit true (decide (((0:Nat):Int)≤(k:Int)))=true):ψ nt f136 ⟨[(0,.sl (ai l) l.length d),(3,.ref 0 0 0 o.length),(4,ω (k:Int))],[(0,⟨(oP o),0,false,0,1,true⟩)],.dead,[]⟩ (.normal) ⟨[(0,.sl (ai l) l.length d),(3,.ref 0 0 0 (o.length+3)),(4,ω (γ .i64 ((k:Int) - ((1:Nat):Int))))],[(0,⟨((ν (o.length*1) (oP o))++ [.int .u8 (γ .u8 (Xqw (τ (ζ (ε ((δ (k:Int))*1) (ai l)) .dead)) (2^(min 16 64)))),.int .u8 (γ .u8 (Xqw (τ (ζ (ε ((δ (k:Int))*1) (ai l)) .dead)) (2^(min 8 64)))),.int .u8 (γ .u8 (τ (ζ (ε ((δ (k:Int))*1) (ai l)) .dead)))]),0,false,0,1,true⟩)],.dead,[]⟩:=pJ 136 [] 1 1 (.k 1 h (.c f (.k 1 c (.c a (.c b (.k 1 c (.c a (.c b (.k 1 c (.c a (.c b (.c e .nil)))))))))))) (.nil) g
theorem Z7 {nt:Nat} (a:35≤nt) (l o:List Nat) (b:Bool):ψ nt f136 ⟨[(0,.sl (ai l) l.length b),(3,.ref 0 0 0 o.length),(4,ω (-1))],[(0,⟨(oP o),0,false,0,1,true⟩)],.dead,[]⟩ (.exit 0) ⟨[(3,.ref 0 0 0 o.length)],[(0,⟨(oP o),0,false,0,1,true⟩)],.dead,[]⟩:=pJ 136 [] 1 0 (.n 1 .nil) (.nil) a
theorem Z8 (l o:List Nat) (a:Bool) (f:(Xqq (η (ν (o.length*1) (oP o))) o.length)=true) (b:(Xzu (ν (o.length*1) (oP o)) (chk (.int .u8)))=true) (d:aG prog ap [] 35 (.block 0 (.loop (af 0 (ah f136)))) ⟨[(0,.sl (ai l) l.length a),(2,.str []),(3,.nilS),(4,ω (γ .i64 ((l.length:Int) - ((1:Nat):Int)))),(9,.dead)],[],.dead,[]⟩ (.normal) ⟨[(3,.ref 0 0 0 o.length)],[(0,⟨(oP o),0,false,0,1,true⟩)],.dead,[]⟩) (e:CO 133 [.str (Xw4 (fun c=>Xql (δ (τ c))) (ν (o.length*1) (oP o)))] (.ret (.str (ae (ag (Xw4 (fun c=>Xql (δ (τ c))) (ν (o.length*1) (oP o)))))))):CO 136 [.sl (ai l) l.length a] (.ret (.str (ae (ag (Xw4 (fun c=>Xql (δ (τ c))) (ν (o.length*1) (oP o))))))):=pK [0] 0 0 (.c f (.c b .nil)) (.c e (.l d .nil))
theorem afw (x:Nat) (a:lit true (decide (((0:Nat):Int)<(x:Int)))=true) (b:CO 133 [.str [Xql (δ (γ .u8 (Xqw (x:Int) (2^(min 56 64))))),Xql (δ (γ .u8 (Xqw (x:Int) (2^(min 48 64))))),Xql (δ (γ .u8 (Xqw (x:Int) (2^(min 40 64))))),Xql (δ (γ .u8 (Xqw (x:Int) (2^(min 32 64))))),Xql (δ (γ .u8 (Xqw (x:Int) (2^(min 24 64))))),Xql (δ (γ .u8 (Xqw (x:Int) (2^(min 16 64))))),Xql (δ (γ .u8 (Xqw (x:Int) (2^(min 8 64))))),Xql (δ (γ .u8 (Xqw (x:Int) (2^(min 0 64)))))]] (.ret (.str (ae (ag [Xql (δ (γ .u8 (Xqw (x:Int) (2^(min 56 64))))),Xql (δ (γ .u8 (Xqw (x:Int) (2^(min 48 64))))),Xql (δ (γ .u8 (Xqw (x:Int) (2^(min 40 64))))),Xql (δ (γ .u8 (Xqw (x:Int) (2^(min 32 64))))),Xql (δ (γ .u8 (Xqw (x:Int) (2^(min 24 64))))),Xql (δ (γ .u8 (Xqw (x:Int) (2^(min 16 64))))),Xql (δ (γ .u8 (Xqw (x:Int) (2^(min 8 64))))),Xql (δ (γ .u8 (Xqw (x:Int) (2^(min 0 64)))))]))))):CO 79 [ω (x:Int)] (.ret (.str (ae (ag [Xql (δ (γ .u8 (Xqw (x:Int) (2^(min 56 64))))),Xql (δ (γ .u8 (Xqw (x:Int) (2^(min 48 64))))),Xql (δ (γ .u8 (Xqw (x:Int) (2^(min 40 64))))),Xql (δ (γ .u8 (Xqw (x:Int) (2^(min 32 64))))),Xql (δ (γ .u8 (Xqw (x:Int) (2^(min 24 64))))),Xql (δ (γ .u8 (Xqw (x:Int) (2^(min 16 64))))),Xql (δ (γ .u8 (Xqw (x:Int) (2^(min 8 64))))),Xql (δ (γ .u8 (Xqw (x:Int) (2^(min 0 64)))))])))):=pK [] 19 131067 (.k 9 a (.k 6 a (.k 6 a (.k 6 a (.k 6 a (.k 6 a (.k 6 a (.k 5 a (.n 1 .nil))))))))) (.c b .nil)
theorem afx (x:Nat) (b:lit false (decide (((0:Nat):Int)<(x:Int)))=true) (a:CO 133 [.str []] (.ret (.str (ae (ag []))))):CO 79 [ω (x:Int)] (.ret (.str (ae (ag [])))):=pK [] 2 1 (.k 2 b (.n 1 .nil)) (.c a .nil)
theorem afb {nt:Nat} (c:35≤nt) (s:List UInt8) (n k:Nat) (d:(decide (((0:Nat):Int)≤(k:Int)))=true) (a:(decide ((k:Int)<(((η s):Nat):Int)))=true) (b:lit true (decide ((k:Int)<(((η s):Nat):Int)))=true):ψ nt f178 ⟨[(0,.str s),(4,ω (n:Int)),(5,ω (k:Int))],[],.dead,[]⟩ (.normal) ⟨[(0,.str s),(4,ω (γ .i64 ((γ .i64 ((n:Int)*2^(min 8 64)))+(γ .i64 ((Φ (Xqm s (δ (k:Int)) 0):Nat):Int))))),(5,ω (γ .i64 ((k:Int)+((1:Nat):Int))))],[],.dead,[]⟩:=pJ 178 [] 1 1 (.c d (.c a (.k 1 b .nil))) (.nil) c
theorem afc {nt:Nat} (a:35≤nt) (s:List UInt8) (n k:Nat) (b:lit false (decide ((k:Int)<(((η s):Nat):Int)))=true):ψ nt f178 ⟨[(0,.str s),(4,ω (n:Int)),(5,ω (k:Int))],[],.dead,[]⟩ (.exit 0) ⟨[(4,ω (n:Int))],[],.dead,[]⟩:=pJ 178 [] 1 0 (.c b .nil) (.nil) a
theorem aaO (s:List UInt8) (n:Nat) (f:lit false (decide (((127:Nat):Int)<((Φ (Xqm (ae (ag s)) 0 0):Nat):Int)))=true) (a:(decide (((0:Nat):Int)<(((η (ae (ag s))):Nat):Int)))=true) (d:lit true ((((η (ae (ag s))):Nat):Int)==((8:Nat):Int))=true) (b:lit false (decide (((8:Nat):Int)<(((η (ae (ag s))):Nat):Int)))=true) (e:CO 133 [.str s] (.ret (.str (ae (ag s))))) (c:aG prog ap [] 35 (.block 0 (.loop (af 0 (ah f178)))) ⟨[(0,.str (ae (ag s))),(2,ω 0),(3,.bool false),(4,ω 0),(5,ω 0),(20,.bool (decide (((127:Nat):Int)<((Φ (Xqm (ae (ag s)) 0 0):Nat):Int)))),(24,.dead)],[],.dead,[]⟩ (.normal) ⟨[(4,ω (n:Int))],[],.dead,[]⟩):CO 178 [.str s] (.ret (.tup [ω (n:Int),.bool true])):=pK [0] 3 2 (.c f (.k 1 a (.c d (.c b .nil)))) (.l c (.c e .nil))
theorem aaP (s:List UInt8) (n:Nat) (d:lit false ((((η (ae (ag s))):Nat):Int)==((8:Nat):Int))=true) (a:lit false (decide (((8:Nat):Int)<(((η (ae (ag s))):Nat):Int)))=true) (c:CO 133 [.str s] (.ret (.str (ae (ag s))))) (b:aG prog ap [] 35 (.block 0 (.loop (af 0 (ah f178)))) ⟨[(0,.str (ae (ag s))),(2,ω 0),(3,.bool false),(4,ω 0),(5,ω 0),(20,.bool false),(24,.dead)],[],.dead,[]⟩ (.normal) ⟨[(4,ω (n:Int))],[],.dead,[]⟩):CO 178 [.str s] (.ret (.tup [ω (n:Int),.bool true])):=pK [0] 3 0 (.k 1 d (.c a .nil)) (.l b (.c c .nil))
theorem ak9 (s:List UInt8) (n b:Nat) (a:lit true (decide ((b:Int)<(((η (ae (ag s))):Nat):Int)))=true) (c:CO 133 [.str s] (.ret (.str (ae (ag s))))):CO 134 [.str s,ω (b:Int)] (.ret (.tup [ω 0,.bool false])):=pK [] 1 1 (.c a .nil) (.c c .nil)
theorem ak_ (s:List UInt8) (n b:Nat) (a:lit false (decide ((b:Int)<(((η (ae (ag s))):Nat):Int)))=true) (c:CO 133 [.str s] (.ret (.str (ae (ag s))))) (d:CO 178 [.str s] (.ret (.tup [ω (n:Int),.bool true]))):CO 134 [.str s,ω (b:Int)] (.ret (.tup [ω (n:Int),.bool true])):=pK [] 1 0 (.c a .nil) (.c d (.c c .nil))
theorem aj0 {nt:Nat} (a:24≤nt) (n d:Nat) (b:lit true (decide (((0:Nat):Int)<(d:Int)))=true):ψ nt f138 ⟨[(3,ω (n:Int)),(4,ω (d:Int))],[],.dead,[]⟩ (.normal) ⟨[(3,ω (γ .i64 ((n:Int)+((1:Nat):Int)))),(4,ω (γ .i64 (Xxg (d:Int) ((2:Nat):Int))))],[],.dead,[]⟩:=pJ 138 [] 1 1 (.k 1 b .nil) (.nil) a
theorem aj1 {nt:Nat} (a:24≤nt) (n d:Nat) (b:lit false (decide (((0:Nat):Int)<(d:Int)))=true):ψ nt f138 ⟨[(3,ω (n:Int)),(4,ω (d:Int))],[],.dead,[]⟩ (.exit 0) ⟨[(3,ω (n:Int))],[],.dead,[]⟩:=pJ 138 [] 1 0 (.c b .nil) (.nil) a
theorem ae1 (s:List UInt8) (n:Nat) (a:lit true ((((η (ae (ag s))):Nat):Int)==((0:Nat):Int))=true) (b:CO 133 [.str s] (.ret (.str (ae (ag s))))):CO 138 [.str s] (.ret (ω 0)):=pK [0] 1 1 (.c a .nil) (.c b .nil)
theorem ae2 (s:List UInt8) (n:Nat) (d:(decide (((0:Nat):Int)<(((η (ae (ag s))):Nat):Int)))=true) (a:lit false ((((η (ae (ag s))):Nat):Int)==((0:Nat):Int))=true) (c:CO 133 [.str s] (.ret (.str (ae (ag s))))) (b:aG prog ap [] 24 (.block 0 (.loop (af 0 (ah f138)))) ⟨[(0,.str (ae (ag s))),(2,ω 0),(3,ω (γ .i64 (((8:Nat):Int)*(γ .i64 ((((η (ae (ag s))):Nat):Int) - ((1:Nat):Int)))))),(4,ω (γ .i64 ((Φ (Xqm (ae (ag s)) 0 0):Nat):Int))),(9,.bool ((((η (ae (ag s))):Nat):Int)==((0:Nat):Int))),(18,.dead)],[],.dead,[]⟩ (.normal) ⟨[(3,ω (n:Int))],[],.dead,[]⟩):CO 138 [.str s] (.ret (ω (n:Int))):=pK [0] 1 0 (.k 1 d (.c a .nil)) (.l b (.c c .nil))
theorem akH (s:List UInt8) (a:lit true ((((η s):Nat):Int)==((0:Nat):Int))=true):CO 179 [.str s] (.ret (.bool true)):=pK [] 1 1 (.c a .nil) (.nil)
theorem akI (s:List UInt8) (b:(decide (((0:Nat):Int)<(((η s):Nat):Int)))=true) (a:lit false ((((η s):Nat):Int)==((0:Nat):Int))=true):CO 179 [.str s] (.ret (.bool (!(((Φ (Xqm s 0 0):Nat):Int)==((0:Nat):Int))))):=pK [] 1 0 (.k 1 b (.c a .nil)) (.nil)
theorem aaH (s t:List UInt8) (d:lit true (decide ((((η (ae (ag s))):Nat):Int)<(((η (ae (ag t))):Nat):Int)))=true) (a:lit true (!((((η (ae (ag s))):Nat):Int)==(((η (ae (ag t))):Nat):Int)))=true) (b:CO 133 [.str s] (.ret (.str (ae (ag s))))) (c:CO 133 [.str t] (.ret (.str (ae (ag t))))):CO 101 [.str s,.str t] (.ret (ω (-1))):=pK [] 2 3 (.c d (.c a .nil)) (.c c (.c b .nil))
theorem aaI (s t:List UInt8) (d:lit false (decide ((((η (ae (ag s))):Nat):Int)<(((η (ae (ag t))):Nat):Int)))=true) (a:lit true (!((((η (ae (ag s))):Nat):Int)==(((η (ae (ag t))):Nat):Int)))=true) (b:CO 133 [.str s] (.ret (.str (ae (ag s))))) (c:CO 133 [.str t] (.ret (.str (ae (ag t))))):CO 101 [.str s,.str t] (.ret (ω 1)):=pK [] 2 1 (.c d (.c a .nil)) (.c c (.c b .nil))
theorem aaJ (s t:List UInt8) (d:lit true (iy (ae (ag s)) (ae (ag t)))=true) (a:lit false (!((((η (ae (ag s))):Nat):Int)==(((η (ae (ag t))):Nat):Int)))=true) (b:CO 133 [.str s] (.ret (.str (ae (ag s))))) (c:CO 133 [.str t] (.ret (.str (ae (ag t))))):CO 101 [.str s,.str t] (.ret (ω (-1))):=pK [] 2 2 (.c d (.c a .nil)) (.c c (.c b .nil))
theorem aaK (s t:List UInt8) (e:lit true (!(iy (ae (ag s)) (ae (ag t))||(ae (ag s))==(ae (ag t))))=true) (a:lit false (iy (ae (ag s)) (ae (ag t)))=true) (b:lit false (!((((η (ae (ag s))):Nat):Int)==(((η (ae (ag t))):Nat):Int)))=true) (c:CO 133 [.str s] (.ret (.str (ae (ag s))))) (d:CO 133 [.str t] (.ret (.str (ae (ag t))))):CO 101 [.str s,.str t] (.ret (ω 1)):=pK [] 3 4 (.c e (.c a (.c b .nil))) (.c d (.c c .nil))
theorem aaL (s t:List UInt8) (e:lit false (!(iy (ae (ag s)) (ae (ag t))||(ae (ag s))==(ae (ag t))))=true) (a:lit false (iy (ae (ag s)) (ae (ag t)))=true) (b:lit false (!((((η (ae (ag s))):Nat):Int)==(((η (ae (ag t))):Nat):Int)))=true) (c:CO 133 [.str s] (.ret (.str (ae (ag s))))) (d:CO 133 [.str t] (.ret (.str (ae (ag t))))):CO 101 [.str s,.str t] (.ret (ω 0)):=pK [] 3 0 (.c e (.c a (.c b .nil))) (.c d (.c c .nil))
def amh (x y:Nat) (na nb:Bool) (p:Nat × Nat):St:=⟨[(0,.sl (ai (ax x)) (ax x).length na),(1,.sl (ai (ax y)) (ax y).length nb),(5,ω (p.1:Int)),(6,ω (p.2:Int))],[],.dead,[]⟩
def aha (q:Nat):St:=⟨[(5,ω (q:Int))],[],.dead,[]⟩
theorem U3 {x d:Nat} (hd:d<16777216):(ax (x*d)).length≤(ax x).length+1:=by
 apply rJ;have a:=uX x;have hp:=WP (ax x).length;rw [Xq2];rcases Θ d with rfl|h0
 ·rw [Xjc];exact Xx7 hp (by omega)
 ·exact Xqa (Xw6 a h0) (Xqy _ (by omega))
theorem YK {nt:Nat} (l:26≤nt) (x y:Nat) (i f:Bool) (r:0<y) (u:(ax x).length<2^36) (w:(ax y).length<2^35):∀ (n a b:Nat),b - a<n→a≤x / y→x / y≤b→b<16777216→az prog ap [] nt (af 0 (ah f187)) (fun _=> .exit 0) (amh x y i f) aha (a,b) (x / y):=by
 intro n
 induction n with
 |zero=>intro a b h;omega
 | succ n ih=>
  intro a b h s v q;rcases Xq5 a b with hlt|hge
  ·have j:(a+b+1) / 2<16777216:=by omega
   have m:=GU (y*((a+b+1) / 2)) x;have o:=MK y ((a+b+1) / 2) f j (by omega);have t:=U3 (x:=y) j;have g:=QE (ax (y*((a+b+1) / 2))) (ax x) true i (bf.dig _) (bf.dig _) (by omega) (by omega);have c:=Nat.le_div_iff_mul_le (x:=(a+b+1) / 2) (y:=x) r;rw [Ψ] at c;have z:((0:Nat):Int)=0:=rfl;by_cases hle:y*((a+b+1) / 2)≤x
   ·have e:=c.2 hle;refine .next ?_ (ih ((a+b+1) / 2) b (by omega) e v q)
    have d:=ahb l x y (y*((a+b+1) / 2)) a b (J_ (ax (y*((a+b+1) / 2))) (ax x)) i f;simp (disch:=first|omega|(simp [au,ay]<;>omega)) only [bu,a_,aW,bJ,aO,qg] at d;exact d (m.2.2 hle) hlt o g
   ·have e:x / y<(a+b+1) / 2:=Xk4 (fun k=>hle (c.1 k));refine .next ?_ (ih a ((a+b+1) / 2 - 1) (by omega) s (by omega) (by omega))
    have d:=ahc l x y (y*((a+b+1) / 2)) a b (J_ (ax (y*((a+b+1) / 2))) (ax x)) i f;simp (disch:=first|omega|(simp [au,ay]<;>omega)) only [dH,dQ,eG,aW,bu,a_,bJ,aO,qg,jT] at d;exact d (fun k=>hle (m.2.1 k)) hlt o g
  ·have p:a=x / y:=by omega
   have d:=ahd l x y 0 a b 0 i f (by rw [aW];simp [lit];omega);rw [← p];exact .done d
theorem U4 (x y:Nat) (a c:Bool) (f:0<y) (e:x<y*16777216) (b:(ax x).length<2^36) (d:(ax y).length<2^35):CO 187 [.sl (ai (ax x)) (ax x).length a,.sl (ai (ax y)) (ax y).length c] (.ret (ω ((x / y:Nat):Int))):=by
 have g:x / y<16777216:=by rw [Xqs f,Ψ];exact e
 exact adt x y (x / y) a c (az.blk (fun nt h=>YK h x y a c f b d 16777216 0 16777215 (by omega) (Nat.zero_le _) (Nat.le_of_lt_succ g) (by omega)) (by simp) rfl (aH.of ⟨rfl,rfl,rfl,rfl,trivial⟩) (aH.of ⟨rfl,trivial⟩))
theorem nU (l:List UInt8) (c:UInt8):ag (l++ [c])=ag l*256+c.toNat:=by
 unfold ag;rw [Xwr];rfl
theorem toNat_ofNat {x:Nat} (h:x<256):(Xql x).toNat=x:=by
 rw [UInt8.toNat_ofNat'];exact υ h
def bS (o:List Nat):List UInt8:=o.map Xql
theorem agT (o:List Nat):Xw4 (fun c=>Xql (δ (τ c))) (oP o)=bS o:=by
 unfold oP bS;rw [List.map_map];rfl
theorem QX (l:List Nat) (k:Nat):ν k (oP l)=oP (l.take k):=by unfold oP;rw [List.map_take]
def UG (l:List Nat):Nat→List Nat
 |0=> []
 |k+1=> [l.getD k 0 / 65536,l.getD k 0 / 256 % 256,l.getD k 0 % 256]++UG l k
theorem Nw (a b:List Nat):bS (a++b)=bS a++bS b:=by unfold bS;rw [Xx0]
theorem Px {l:List Nat} (a:bf l):∀ (k:Nat) (o:List Nat),k≤l.length→ag (bS (o++UG l k))=ag (bS o)*16777216^k+cO (l.take k)
 |0,o,_=>by simp [UG,cO]
 | k+1,o,h=>by
  simp only [UG];rw [← Xqd,Px a k _ (by omega),oN (by omega)];have hd:=a.getD k;generalize l.getD k 0=d at*
  have e:ag (bS (o++ [d / 65536,d / 256 % 256,d % 256]))=ag (bS o)*16777216+d:=by
   rw [show o++ [d / 65536,d / 256 % 256,d % 256]=((o++ [d / 65536])++ [d / 256 % 256])++ [d % 256] by simp,Nw,Nw,Nw];simp only [bS,Xqh,Xx4];rw [nU,nU,nU,toNat_ofNat (show d / 65536<256 by omega),toNat_ofNat (Xqv _ (by omega)),toNat_ofNat (Xqv _ (by omega))];omega
  rw [e,Xxm,Xq2,Ψ (16777216^k) 16777216,Xqn,Ψ d];omega
def Yk (l:List Nat):AV:=match l with| []=> .nilS|x::l=> .ref 0 0 0 (x::l).length
def Yl (l:List Nat):Hp:=match l with| []=> []|x::l=> [(0,⟨oP (x::l),0,false,0,1,true⟩)]
theorem CG {l:List Nat} (h:l ≠ []):Yk l= .ref 0 0 0 l.length:=by cases l with|nil=>exact absurd rfl h|cons _ _=>rfl
theorem CJ {l:List Nat} (h:l ≠ []):Yl l= [(0,⟨oP l,0,false,0,1,true⟩)]:=by cases l with|nil=>exact absurd rfl h|cons _ _=>rfl
def aeG (l:List Nat) (nn:Bool) (p:Nat × List Nat):St:=⟨[(0,.sl (ai l) l.length nn),(3,Yk p.2),(4,ω ((p.1:Int) - 1))],Yl p.2,.dead,[]⟩
def Ws (o:List Nat):St:=⟨[(3,Yk o)],Yl o,.dead,[]⟩
theorem abX (o:List Nat) (a b c:Nat):oP o++ [AV.int .u8 (a:Int),AV.int .u8 (b:Int),AV.int .u8 (c:Int)]=oP (o++ [a,b,c]):=by simp [oP]
theorem acy:(2:Nat)^16=65536:=by decide
theorem ai4:(2:Nat)^8=256:=by decide
theorem Z5 {nt:Nat} (e:35≤nt) (l:List Nat) (c:Bool) (n:l.length<2^36) (f:bf l):∀ (k:Nat) (o:List Nat),k≤l.length→o.length+3*k=3*l.length→az prog ap [] nt (af 0 (ah f136)) (fun _=> .exit 0) (aeG l c) Ws (k,o) (o++UG l k):=by
 intro k
 induction k with
 | zero=>
  intro o _ _;simp only [UG,Γ];refine .done ?_;unfold aeG Ws;rcases Xxf (o= []) with rfl|hne
  ·exact Z9 e l [] c
  ·rw [CG hne,CJ hne];exact Z7 e l o c
 | succ k ih=>
  intro o j m;have hd:=f.getD k;have i:(((k+1:Nat):Int) - 1)=(k:Int):=by omega
  have h:γ .i64 ((k:Int) - ((1:Nat):Int))=(k:Int) - 1:=dC (by omega) (by omega);have hnext:=ih (o++ [l.getD k 0 / 65536,l.getD k 0 / 256 % 256,l.getD k 0 % 256]) (by omega) (by simp;omega);rw [Xqd] at hnext;simp only [UG];refine .next ?_ hnext
  unfold aeG;rw [i];generalize g:l.getD k 0=d at*
  have a:o++ [d / 65536,d / 256 % 256,d % 256] ≠ []:=by simp
  rcases Xxf (o= []) with rfl|hne
  ·have b:=aeI e l [] k c;simp (disch:=first|omega|(simp [au,ay]<;>omega)) only [aB,φ,fG,g,dU,dw,a_,aW,bu,h,aY,show min 16 64=16 from rfl,lD,acy,w8u,υ,show min 8 64=8 from rfl,ai4] at b;simp only [Xqk,Yk,Yl,oP,Xqh,Xx4,μ,Xqb] at b ⊢;apply b<;>first|exact True.intro|omega|assumption|exact rfl
  ·have b:=aeH e l o k c;rw [CG hne,CJ hne,CG a,CJ a];simp (disch:=first|omega|(simp [au,ay]<;>omega)) only [fE,a_,φ,ay,aB,fG,g,dU,dw,aW,bu,h,QX,Xqx,aY,show min 16 64=16 from rfl,lD,acy,w8u,υ,show min 8 64=8 from rfl,ai4,abX] at b;simp only [θ,μ,Xqb];apply b<;>first|exact True.intro|omega|assumption|exact rfl
theorem uA (l:List Nat) (c:Bool) (m:l.length<2^36) (b:bf l):CO 136 [.sl (ai l) l.length c] (.ret (.str (ae (cO l)))):=by
 have hloop:=fun nt (hn:35≤nt)=>Z5 hn l c m b l.length [] (Δ _) (by simp)
 have a:=Px b l.length [] (Δ _);have j:(UG l l.length).length=3*l.length:=by
  have:∀ k,(UG l k).length=3*k:=by
   intro k
   induction k with
   |zero=>rfl
   |succ k ih=>simp only [UG,θ,μ,Xqb,ih];omega
  exact this _
 have f:γ .i64 ((l.length:Int) - ((1:Nat):Int))=(l.length:Int) - 1:=Eu (by omega);simp only [Xqk] at hloop a;rw [Xqx,show ag (bS [])=0 from rfl,Xwb,Xqf] at a;generalize UG l l.length=o at*
 rcases Xxf (o= []) with rfl|hne
 ·rw [← a];exact Z_ l [] c (az.blk hloop (by simp) rfl (aH.of ⟨rfl,rfl,congrArg _ f,trivial⟩) (aH.of ⟨rfl,trivial⟩)) (gQ [] (by simp))
 ·have h:=Z8 l o c;have g:=gQ (bS o) (by simp [bS];omega);rw [a] at g;have e:ν o.length (oP o)=oP o:=by rw [QX,Xqx]
  simp (disch:=first|omega|(simp [au,ay]<;>omega)) only [φ,e,Jb,a_,agT,a] at h;apply h<;>first|exact True.intro|omega|assumption|exact rfl|skip
  ·exact ay o
  ·have:Xzu (oP o) (chk (.int .u8))=true:=by
    rw [Xzb];intro x i;obtain ⟨d,_,rfl⟩:=List.mem_map.1 i;rfl
   exact this
  ·exact az.blk hloop (by simp) rfl (aH.of ⟨rfl,rfl,congrArg _ f,trivial⟩) (by unfold Ws;rw [CG hne,CJ hne];exact aH.of ⟨rfl,trivial⟩)
theorem lg (x:Nat) (c:x<9223372036854775808):CO 79 [ω (x:Int)] (.ret (.str (ae x))):=by
 rcases Θ x with rfl|h0
 ·exact afx 0 rfl (gQ [] (by simp))
 ·have h:=afw x;have e:∀ k,δ (γ .u8 (Xqw (x:Int) (2^k)))=x / 2^k % 256:=by
   intro k;rw [lD,w8u,aB]
  simp only [show min 56 64=56 from rfl,show min 48 64=48 from rfl,show min 40 64=40 from rfl,show min 32 64=32 from rfl,show min 24 64=24 from rfl,show min 16 64=16 from rfl,show min 8 64=8 from rfl,show min 0 64=0 from rfl,e] at h;have a:=gQ [Xql (x / 2^56 % 256),Xql (x / 2^48 % 256),Xql (x / 2^40 % 256),Xql (x / 2^32 % 256),Xql (x / 2^24 % 256),Xql (x / 2^16 % 256),Xql (x / 2^8 % 256),Xql (x / 2^0 % 256)] (by simp);have b:ag [Xql (x / 2^56 % 256),Xql (x / 2^48 % 256),Xql (x / 2^40 % 256),Xql (x / 2^32 % 256),Xql (x / 2^24 % 256),Xql (x / 2^16 % 256),Xql (x / 2^8 % 256),Xql (x / 2^0 % 256)]=x:=by
   have t:∀ y,(Xql (y % 256)).toNat=y % 256:=fun y=>toNat_ofNat (Xqv _ (by omega))
   simp only [ag,List.foldl_cons,List.foldl_nil,t];omega
  rw [b] at a h;apply h
  ·rw [aW];exact Yq0 h0
  ·exact a
def acp (s:List UInt8) (k:Nat):St:=⟨[(0,.str s),(4,ω ((ag (s.take k):Nat):Int)),(5,ω (k:Int))],[],.dead,[]⟩
def Ob (s:List UInt8) (k:Nat):St:=⟨[(4,ω ((ag (s.take k):Nat):Int))],[],.dead,[]⟩
theorem FV {s:List UInt8} {k:Nat} (h:k<s.length):ag (s.take (k+1))=ag (s.take k)*256+(s.getD k 0).toNat:=by
 rw [Xwn,ξ h,ο,ξ h];exact nU _ _
theorem JH (s:List UInt8) (k:Nat):ag (s.take k)≤ag s:=by
 rcases Xq5 k s.length with h|h
 ·have e:s=s.take k++s.drop k:=(Xjy k s).symm;have:∀ (b a:List UInt8),ag a≤ag (a++b):=by
   intro b
   induction b with
   |nil=>intro a;simp
   |cons c r ih=>
    intro a;have d:=ih (a++ [c]);rw [nU,Xqd] at d;simp only [List.cons_append,Xqk] at d;omega
  calc ag (s.take k)≤ag (s.take k++s.drop k):=this _ _
   _=ag s:=by rw [← e]
 ·rw [Ξ h];exact Δ _
theorem VX {nt:Nat} (g:35≤nt) (s:List UInt8) (hs:s.length<2^40) (o:ag s<9223372036854775808):∀ (d k:Nat),k+d=s.length→az prog ap [] nt (af 0 (ah f178)) (fun _=> .exit 0) (acp s) (Ob s) k s.length:=by
 intro d
 induction d with
 |zero=>
  intro k h;have e:k=s.length:=by omega
  subst e;exact .done (afc g s _ _ (by rw [aW];simp [lit]))
 | succ d ih=>
  intro k h;have b:k<s.length:=by omega
  refine .next ?_ (ih (k+1) (by omega))
  have a:=afb g s (ag (s.take k)) k;rw [aB] at a;have j:=JH s (k+1);have f:=FV b;have n:(s.getD k 0).toNat<256:=Xvg _;unfold acp;rw [f];rw [f] at j;generalize (s.getD k 0).toNat=c at*
  generalize ag (s.take k)=v at*
  have m:γ .i64 ((v:Int)*2^(min 8 64))=((v*256:Nat):Int):=by
   rw [show min 8 64=8 from rfl,dC]<;>omega
  have l:(((v*256:Nat):Int))+(c:Int)=((v*256+c:Nat):Int):=by omega
  have i:γ .i64 (c:Int)=(c:Int):=aO (by omega);rw [i,m,l,aO (by omega)] at a;simp (disch:=first|omega|(simp [au,ay]<;>omega)) only [dw,a_,aW,bu,bJ,aO] at a;apply a<;>first|exact True.intro|omega|assumption|exact rfl
theorem rV {x k:Nat}:(ae x).length≤k↔x<2^(8*k):=by
 constructor
 ·intro h;have a:=jO (ae x);rw [aC] at a;exact Xqa a (Xqc (by omega) (by omega))
 ·exact bY
theorem aes (s:List UInt8) (hs:s.length<2^40) (g:ag s<9223372036854775808):CO 178 [.str s] (.ret (.tup [ω ((ag s:Nat):Int),.bool true])):=by
 have j:=gQ s hs;have a:=aC (ag s);have k:(ae (ag s)).length≤8:=bY (Xqa g (by decide));have hloop:=fun nt (e:35≤nt)=>VX e (ae (ag s)) (by omega) (by rw [a];exact g) (ae (ag s)).length 0 (by omega)
 have hless:aH ⟨[(4,ω ((ag s:Nat):Int))],[],.dead,[]⟩ (Ob (ae (ag s)) (ae (ag s)).length):=by
  unfold Ob;rw [Xqx,a];exact aH.refl _
 have i:=aaO s (ag s);have h:=aaP s (ag s);have d:(ae (ag s)).length=8→((ae (ag s)).getD 0 0).toNat≤127:=by
  intro b;cases e:ae (ag s) with
  |nil=>rw [e] at b;cases b
  |cons c r=>
   rw [e] at b a;rw [iW] at a;have:r.length=7:=by simpa using b
   rw [this,show 256^7=72057594037927936 from rfl] at a;simp only [Xjw];omega
 generalize ae (ag s)=t at*
 by_cases b:t.length=8
 ·have f:=d b;simp (disch:=first|omega|(simp [au,ay]<;>omega)) only [aW,dH,dQ,eG,b,a_,jG,decide_true,bu] at i;apply i<;>first|exact True.intro|omega|assumption|exact rfl|skip
  exact az.blk hloop (by simp) rfl (aH.of ⟨rfl,rfl,rfl,trivial⟩) hless
 ·simp (disch:=first|omega|(simp [au,ay]<;>omega)) only [jG,b,decide_false,dH,Xjj,aW,dQ,eG] at h;apply h<;>first|exact True.intro|omega|assumption|exact rfl|skip
  exact az.blk hloop (by simp) rfl (aH.of ⟨rfl,rfl,rfl,trivial⟩) hless
theorem gX (s:List UInt8) (b:Nat) (hs:s.length<2^40) (e:b≤7) (c:ag s<2^(8*b)):CO 134 [.str s,ω (b:Int)] (.ret (.tup [ω ((ag s:Nat):Int),.bool true])):=by
 have h:=ak_ s (ag s) b;have a:ag s<9223372036854775808:=Xqa c (Xq1 (Xqc (by omega) (show 8*b≤63 by omega)) (by decide));have d:=rV.2 c;simp (disch:=first|omega|(simp [au,ay]<;>omega)) only [aW,dH,dQ,eG] at h;exact h (by omega) (gQ s hs) (aes s hs a)
theorem lu (s:List UInt8) (b:Nat) (hs:s.length<2^40) (a:2^(8*b)≤ag s):CO 134 [.str s,ω (b:Int)] (.ret (.tup [ω 0,.bool false])):=by
 have h:=ak9 s 0 b;have c:¬ (ae (ag s)).length≤b:=fun h=>by have:=rV.1 h;omega
 simp (disch:=first|omega|(simp [au,ay]<;>omega)) only [aW,bu,a_] at h;exact h (by omega) (gQ s hs)
theorem SA {d:Nat} (h:0<d):dZ d=dZ (d / 2)+1:=by
 rcases Xq5 d 2 with h1|h1
 ·have:d=1:=by omega
  subst this;rfl
 ·have:=uu (x:=d) (k:=1) (by omega);rw [Nat.pow_one] at this;omega
def al9 (p:Nat × Nat):St:=⟨[(3,ω (p.1:Int)),(4,ω (p.2:Int))],[],.dead,[]⟩
def agU (n:Nat):St:=⟨[(3,ω (n:Int))],[],.dead,[]⟩
theorem Yx {nt:Nat} (c:24≤nt):∀ (b n d:Nat),d<b→d<256→n+dZ d<2^45→az prog ap [] nt (af 0 (ah f138)) (fun _=> .exit 0) al9 agU (n,d) (n+dZ d):=by
 intro b
 induction b with
 |zero=>intro n d h;omega
 | succ b ih=>
  intro n d h hd f;rcases Θ d with rfl|h0
  ·exact .done (aj1 c n 0 rfl)
  ·have a:=SA h0;rw [a,show n+(dZ (d / 2)+1)=n+1+dZ (d / 2) by omega];refine .next ?_ (ih (n+1) (d / 2) (by omega) (by omega) (by omega))
   have e:=aj0 c n d;clear ih a;simp (disch:=first|omega|(simp [au,ay]<;>omega)) only [aW,bu,a_,bJ,aO,qg] at e;apply e<;>first|exact True.intro|omega|assumption|exact rfl
theorem LP (s:List UInt8) (hs:s.length<2^40):CO 138 [.str s] (.ret (ω ((dZ (ag s):Nat):Int))):=by
 have d:=gQ s hs;have a:=aC (ag s);have k:=vw (ag s);have b:(ae (ag s)).length≤s.length:=lV (Δ _);have l:=ae1 s 0;have f:=ae2 s (dZ (ag s));cases g:ae (ag s) with
 |nil=>
  rw [g] at l a d;rw [← a];exact l rfl d
 | cons c r=>
  rw [g] at f a d k b;have i:c ≠ 0:=by simpa [nR] using k
  have j:0<c.toNat:=by
   rcases Θ c.toNat with h|h
   ·exact absurd (by apply UInt8.toNat_inj.1;simpa using h) i
   ·exact h
  have hc256:c.toNat<256:=Xvg c;have o:dZ (ag s)=8*r.length+dZ c.toNat:=by
   have e:=Es (x:=c.toNat) (y:=ag r) (8*r.length) j (jO r);rw [← e,← a,iW,Ψ,show (256:Nat)=2^8 from rfl,← Xx5]
  have m:dZ c.toNat≤8:=lQ (by omega);simp only [μ] at b;have hloop:=fun nt (g:24≤nt)=>Yx g 256 (8*r.length) c.toNat hc256 hc256 (by omega)
  rw [← o] at hloop;simp only [μ,Xjw] at f;have u:r.length+1 - 1=r.length:=rfl;have q:(((r.length+1:Nat):Int)) - ((1:Nat):Int)=(r.length:Int):=by omega
  have n:γ .i64 (r.length:Int)=(r.length:Int):=aO (by omega);have t:γ .i64 (((8:Nat):Int)*(r.length:Int))=((8*r.length:Nat):Int):=by rw [dC]<;>omega
  have p:γ .i64 (c.toNat:Int)=(c.toNat:Int):=aO (by omega);rw [q,n,t,p] at f;refine f (by rw [aW];exact Yq0 (by omega)) (by rw [jG];simp [lit]) d ?_;exact az.blk hloop (by simp) rfl (aH.of ⟨rfl,rfl,trivial⟩) (aH.of ⟨rfl,trivial⟩)
theorem Ju (s:List UInt8):CO 179 [.str s] (.ret (.bool (nR s))):=by
 cases s with
 |nil=>exact akH [] rfl
 | cons c r=>
  have h:=akI (c::r);have e:(!((((c::r).getD 0 0).toNat:Int)==((0:Nat):Int)))=nR (c::r):=by
   simp only [Xjw,nR];by_cases hc:c=0
   ·subst hc;rfl
   ·have:c.toNat ≠ 0:=fun h=>hc (by apply UInt8.toNat_inj.1;simpa using h)
    have a:((c.toNat:Int)==((0:Nat):Int))=false:=by simp;omega
    rw [a];simp [hc]
  rw [e] at h;apply h
  ·simp
  ·simp [lit];omega
theorem A8:∀ (a b:List UInt8),a.length=b.length→iy a b=decide (ag a<ag b)
 | [],[],_=>rfl
 | [],_::_,h=>by simp at h
 |_::_,[],h=>by simp at h
 | x::a,y::b,h=>by
  have e:a.length=b.length:=by simpa using h
  have j:=A8 a b e;have g:=jO a;have k:=jO b;simp only [iy,j];rw [iW,iW,e,show (256:Nat)=2^8 from rfl,← Xx5];rw [e] at g;have f:decide (x<y)=decide (x.toNat<y.toNat):=by simp [UInt8.lt_iff_toNat_lt]
  have c:(x==y)=decide (x.toNat=y.toNat):=by
   by_cases h:x=y
   ·subst h;simp
   ·have:x.toNat ≠ y.toNat:=fun i=>h (UInt8.toNat_inj.1 i)
    simp [h,this]
  rw [f,c];generalize 2^(8*b.length)=M at*
  generalize ag a=u at*
  generalize ag b=v at*
  generalize x.toNat=p at*
  generalize y.toNat=q at*
  rcases Xj7 p q with h3|h3|h3
  ·have d:(p+1)*M≤q*M:=Xqu _ h3;rw [Xxm,Xzy] at d;rw [Yq0 h3,Yq0 (show p*M+u<q*M+v by omega)];rfl
  ·subst h3;rw [Yq1 (Xvt _),Yq0 rfl];simp
  ·have d:(q+1)*M≤p*M:=Xqu _ h3;rw [Xxm,Xzy] at d;rw [Yq1 (show ¬ p<q by omega),Yq1 (show ¬ p=q by omega),Yq1 (show ¬ p*M+u<q*M+v by omega)];rfl
theorem BH {x y:Nat} (h:(ae x).length<(ae y).length):x<y:=by
 rcases Xq5 x y with h1|h1
 ·exact h1
 ·have a:y≤ag (ae x):=by rw [aC];exact h1
  have:=lV a;omega
theorem Jo (s t:List UInt8) (hs:s.length<2^40) (k:t.length<2^40):CO 101 [.str s,.str t] (.ret (ω (lZ (ag s) (ag t)))):=by
 have c:=gQ s hs;have d:=gQ t k;have j:=aC (ag s);have i:=aC (ag t);unfold lZ;by_cases hl:(ae (ag s)).length=(ae (ag t)).length
 ·have b:=A8 _ _ hl;rw [j,i] at b;have f:(ae (ag s)==ae (ag t))=decide (ag s=ag t):=by
   by_cases h:ag s=ag t
   ·rw [h];simp
   ·have:ae (ag s) ≠ ae (ag t):=fun g=>h (EM g)
    simp [h,this]
  have a:lit false (!((((ae (ag s)).length:Nat):Int)==(((ae (ag t)).length:Nat):Int)))=true:=by rw [hl];simp [lit]
  by_cases h1:ag s<ag t
  ·rw [if_pos h1];exact aaJ s t (by rw [b,Yq0 h1];rfl) a c d
  ·rw [if_neg h1];by_cases e:ag t<ag s
   ·rw [if_pos e];exact aaK s t (by rw [b,f,Yq1 h1,Yq1 (show ¬ ag s=ag t by omega)];rfl) (by rw [b,Yq1 h1];rfl) a c d
   ·rw [if_neg e];exact aaL s t (by rw [b,f,Yq1 h1,Yq0 (show ag s=ag t by omega)];rfl) (by rw [b,Yq1 h1];rfl) a c d
 ·have a:lit true (!((((ae (ag s)).length:Nat):Int)==(((ae (ag t)).length:Nat):Int)))=true:=by rw [jG,Yq1 hl];rfl
  by_cases h1:(ae (ag s)).length<(ae (ag t)).length
  ·rw [if_pos (BH h1)];exact aaH s t (by rw [aW,Yq0 h1];rfl) a c d
  ·have e:=BH (show (ae (ag t)).length<(ae (ag s)).length by omega);rw [if_neg (by omega),if_pos e];exact aaI s t (by rw [aW,Yq1 h1];rfl) a c d
theorem aiV {nt:Nat} (c:35≤nt) (s:List UInt8) (o:List Nat) (e d k:Nat) (f:(decide (((0:Nat):Int)≤(k:Int)))=true) (a:(decide ((k:Int)<(((η s):Nat):Int)))=true) (b:lit true (decide ((k:Int)<(e:Int)))=true):ak prog ap [] nt (af 2 (ah f135)) ⟨[(0,.str s),(3,.nilS),(4,ω (e:Int)),(5,ω (d:Int)),(6,ω (k:Int))],[],.dead,[]⟩ (.normal) ⟨[(0,.str s),(3,.nilS),(4,ω (e:Int)),(5,ω (γ .i64 ((γ .i64 ((d:Int)*((256:Nat):Int)))+(γ .i64 ((Φ (Xqm s (δ (k:Int)) 0):Nat):Int))))),(6,ω (γ .i64 ((k:Int)+((1:Nat):Int))))],[],.dead,[]⟩:=pJ 135 [] 1 1 (.c f (.c a (.c b .nil))) (.nil) c
theorem aiW {nt:Nat} (a:35≤nt) (s:List UInt8) (o:List Nat) (e d k:Nat) (b:lit false (decide ((k:Int)<(e:Int)))=true):ak prog ap [] nt (af 2 (ah f135)) ⟨[(0,.str s),(3,.nilS),(4,ω (e:Int)),(5,ω (d:Int)),(6,ω (k:Int))],[],.dead,[]⟩ (.exit 2) ⟨[(0,.str s),(3,.nilS),(4,ω (e:Int)),(5,ω (d:Int))],[],.dead,[]⟩:=pJ 135 [] 1 0 (.c b .nil) (.nil) a
theorem aiT {nt:Nat} (c:35≤nt) (s:List UInt8) (o:List Nat) (e d k:Nat) (f:(decide (((0:Nat):Int)≤(k:Int)))=true) (a:(decide ((k:Int)<(((η s):Nat):Int)))=true) (b:lit true (decide ((k:Int)<(e:Int)))=true):ak prog ap [] nt (af 2 (ah f135)) ⟨[(0,.str s),(3,.ref 0 0 0 o.length),(4,ω (e:Int)),(5,ω (d:Int)),(6,ω (k:Int))],[(0,⟨(ai o),0,false,0,1,true⟩)],.dead,[]⟩ (.normal) ⟨[(0,.str s),(3,.ref 0 0 0 o.length),(4,ω (e:Int)),(5,ω (γ .i64 ((γ .i64 ((d:Int)*((256:Nat):Int)))+(γ .i64 ((Φ (Xqm s (δ (k:Int)) 0):Nat):Int))))),(6,ω (γ .i64 ((k:Int)+((1:Nat):Int))))],[(0,⟨(ai o),0,false,0,1,true⟩)],.dead,[]⟩:=pJ 135 [] 1 1 (.c f (.c a (.c b .nil))) (.nil) c
theorem aiU {nt:Nat} (a:35≤nt) (s:List UInt8) (o:List Nat) (e d k:Nat) (b:lit false (decide ((k:Int)<(e:Int)))=true):ak prog ap [] nt (af 2 (ah f135)) ⟨[(0,.str s),(3,.ref 0 0 0 o.length),(4,ω (e:Int)),(5,ω (d:Int)),(6,ω (k:Int))],[(0,⟨(ai o),0,false,0,1,true⟩)],.dead,[]⟩ (.exit 2) ⟨[(0,.str s),(3,.ref 0 0 0 o.length),(4,ω (e:Int)),(5,ω (d:Int))],[(0,⟨(ai o),0,false,0,1,true⟩)],.dead,[]⟩:=pJ 135 [] 1 0 (.c b .nil) (.nil) a
theorem aiP {nt:Nat} (b:35≤nt) (s:List UInt8) (o:List Nat) (z:Int) (d:Nat) (c:lit true (decide (((0:Nat):Int)<z))=true) (a:aG prog ap [] 35 (.block 2 (.loop (af 2 (ah f135)))) ⟨[(0,.str s),(2,.dead),(3,.nilS),(4,ω z),(5,ω 0),(6,ω (if ((0:Nat):Int)>(γ .i64 (z - ((3:Nat):Int))) then ((0:Nat):Int) else (γ .i64 (z - ((3:Nat):Int))))),(12,.bool (decide (((0:Nat):Int)<z))),(20,.dead)],[],.dead,[]⟩ (.normal) ⟨[(0,.str s),(4,ω z),(5,ω (d:Int)),(3,.nilS)],[],.dead,[]⟩):ψ nt f135 ⟨[(0,.str s),(3,.nilS),(4,ω z)],[],.dead,[]⟩ (.normal) ⟨[(0,.str s),(3,.ref 0 0 0 1),(4,ω (γ .i64 (z - ((3:Nat):Int))))],[(0,⟨[ω (d:Int)],0,false,0,1,true⟩)],.dead,[]⟩:=pJ 135 [2] 2 1 (.k 3 c .nil) (.l a .nil) b
theorem aiQ {nt:Nat} (a:35≤nt) (s:List UInt8) (o:List Nat) (z:Int) (d:Nat) (b:lit false (decide (((0:Nat):Int)<z))=true):ψ nt f135 ⟨[(0,.str s),(3,.nilS),(4,ω z)],[],.dead,[]⟩ (.exit 0) ⟨[(3,.nilS)],[],.dead,[]⟩:=pJ 135 [2] 1 0 (.c b .nil) (.nil) a
theorem aeL (s:List UInt8) (o:List Nat) (b:CO 133 [.str s] (.ret (.str (ae (ag s))))) (a:aG prog ap [] 35 (.block 0 (.loop (af 0 (ah f135)))) ⟨[(0,.str (ae (ag s))),(2,.nilS),(3,.nilS),(4,ω (((η (ae (ag s))):Nat):Int)),(5,.dead),(6,.dead),(12,.dead),(20,.dead)],[],.dead,[]⟩ (.normal) ⟨[(3,.nilS)],[],.dead,[]⟩):CO 135 [.str s] (.ret (.nilS)):=pK [0] 0 0 .nil (.l a (.c b .nil))
theorem aiK {nt:Nat} (e:35≤nt) (s:List UInt8) (o:List Nat) (z:Int) (d:Nat) (f:(Xqg (o.length+1) 1099511627776)=true) (a:(Xqg (o.length*1) (η (ai o)))=true) (c:lit true (decide (((0:Nat):Int)<z))=true) (b:aG prog ap [] 35 (.block 2 (.loop (af 2 (ah f135)))) ⟨[(0,.str s),(2,.dead),(3,.ref 0 0 0 o.length),(4,ω z),(5,ω 0),(6,ω (if ((0:Nat):Int)>(γ .i64 (z - ((3:Nat):Int))) then ((0:Nat):Int) else (γ .i64 (z - ((3:Nat):Int))))),(12,.bool (decide (((0:Nat):Int)<z))),(20,.dead)],[(0,⟨(ai o),0,false,0,1,true⟩)],.dead,[]⟩ (.normal) ⟨[(0,.str s),(4,ω z),(5,ω (d:Int)),(3,.ref 0 0 0 o.length)],[(0,⟨(ai o),0,false,0,1,true⟩)],.dead,[]⟩):ψ nt f135 ⟨[(0,.str s),(3,.ref 0 0 0 o.length),(4,ω z)],[(0,⟨(ai o),0,false,0,1,true⟩)],.dead,[]⟩ (.normal) ⟨[(0,.str s),(3,.ref 0 0 0 (o.length+1)),(4,ω (γ .i64 (z - ((3:Nat):Int))))],[(0,⟨((ν (o.length*1) (ai o))++ [ω (d:Int)]),0,false,0,1,true⟩)],.dead,[]⟩:=pJ 135 [2] 1 1 (.k 1 f (.c a (.k 1 c .nil))) (.l b .nil) e
theorem aiL {nt:Nat} (a:35≤nt) (s:List UInt8) (o:List Nat) (z:Int) (d:Nat) (b:lit false (decide (((0:Nat):Int)<z))=true):ψ nt f135 ⟨[(0,.str s),(3,.ref 0 0 0 o.length),(4,ω z)],[(0,⟨(ai o),0,false,0,1,true⟩)],.dead,[]⟩ (.exit 0) ⟨[(3,.ref 0 0 0 o.length)],[(0,⟨(ai o),0,false,0,1,true⟩)],.dead,[]⟩:=pJ 135 [2] 1 0 (.c b .nil) (.nil) a
theorem aeK (s:List UInt8) (o:List Nat) (b:CO 133 [.str s] (.ret (.str (ae (ag s))))) (a:aG prog ap [] 35 (.block 0 (.loop (af 0 (ah f135)))) ⟨[(0,.str (ae (ag s))),(2,.nilS),(3,.nilS),(4,ω (((η (ae (ag s))):Nat):Int)),(5,.dead),(6,.dead),(12,.dead),(20,.dead)],[],.dead,[]⟩ (.normal) ⟨[(3,.ref 0 0 0 o.length)],[(0,⟨(ai o),0,false,0,1,true⟩)],.dead,[]⟩):CO 135 [.str s] (.ret (.own (ν (o.length*1) (ai o)) o.length 1)):=pK [0] 0 0 .nil (.l a (.c b .nil))
def WG (s:List UInt8) (o:List Nat) (e j k:Nat):St:=⟨[(0,.str s),(3,Nj o),(4,ω (e:Int)),(5,ω ((ag ((s.take k).drop j):Nat):Int)),(6,ω (k:Int))],Nk o,.dead,[]⟩
def WF (s:List UInt8) (o:List Nat) (e d:Nat):St:=⟨[(0,.str s),(3,Nj o),(4,ω (e:Int)),(5,ω (d:Int))],Nk o,.dead,[]⟩
theorem S_ {s:List UInt8} {j k:Nat} (h:k<s.length) (a:j≤k):ag ((s.take (k+1)).drop j)=ag ((s.take k).drop j)*256+(s.getD k 0).toNat:=by
 rw [Xwn,ξ h,List.drop_append_of_le_length (by simp;omega),ο,ξ h];exact nU _ _
theorem Qr {s:List UInt8} {j k:Nat} (h:k≤j+3):ag ((s.take k).drop j)<16777216:=by
 have a:=jO ((s.take k).drop j);have b:((s.take k).drop j).length≤3:=by simp;omega
 exact Xqa a (Xq1 (Xqc (by omega) (show 8*((s.take k).drop j).length≤24 by omega)) (by decide))
theorem aad {nt:Nat} (f:35≤nt) (s:List UInt8) (o:List Nat) (e j:Nat) (hs:s.length<2^40) (q:e≤s.length) (u:e≤j+3):∀ (n k:Nat),k+n=e→j≤k→az prog ap [] nt (af 2 (ah f135)) (fun _=> .exit 2) (WG s o e j) (WF s o e) k (ag ((s.take e).drop j)):=by
 intro n
 induction n with
 | zero=>
  intro k p a;have h:k=e:=by omega
  subst h;refine .done ?_;unfold WG WF;rcases Xxf (o= []) with rfl|hne
  ·exact aiW f s [] k _ k (by rw [aW];simp [lit])
  ·rw [gG hne,gI hne];exact aiU f s o k _ k (by rw [aW];simp [lit])
 | succ n ih=>
  intro k p a;refine .next ?_ (ih (k+1) (by omega) (by omega))
  have g:k<s.length:=by omega
  have t:=Qr (s:=s) (j:=j) (k:=k) (by omega);have r:(s.getD k 0).toNat<256:=Xvg _;have l:=S_ g a;unfold WG;rw [l];generalize i:(s.getD k 0).toNat=c at*
  generalize ag ((s.take k).drop j)=d at*
  clear ih l;have v:γ .i64 ((d:Int)*((256:Nat):Int))=((d*256:Nat):Int):=by rw [dC]<;>omega
  have m:(((d*256:Nat):Int))+(c:Int)=((d*256+c:Nat):Int):=by omega
  rcases Xxf (o= []) with rfl|hne
  ·have b:=aiV f s [] e d k;simp (disch:=first|omega|(simp [au,ay]<;>omega)) only [dw,a_,aW,bu,xX,aO,aB,i,m,bJ] at b;apply b<;>first|exact True.intro|omega|assumption|exact rfl
  ·have b:=aiT f s o e d k;rw [gG hne,gI hne];simp (disch:=first|omega|(simp [au,ay]<;>omega)) only [dw,a_,aW,bu,xX,aO,aB,i,m,bJ] at b;apply b<;>first|exact True.intro|omega|assumption|exact rfl
def S9 (s:List UInt8) (p:Int × List Nat):St:=⟨[(0,.str s),(3,Nj p.2),(4,ω p.1)],Nk p.2,.dead,[]⟩
def Qq (o:List Nat):St:=⟨[(3,Nj o)],Nk o,.dead,[]⟩
theorem aac {nt:Nat} (c:35≤nt) (s:List UInt8) (o:List Nat) (e:Nat) (hs:s.length<2^38) (h:e≤s.length) (k:0<e) (j:o.length<2^39):
  ψ nt f135 (S9 s ((e:Int),o)) .normal (S9 s ((e:Int) - 3,o++ [ag ((s.take e).drop (e - 3))])):=by
 have hloop:=fun nt (c:35≤nt)=>aad c s o e (e - 3) (by omega) h (by omega) (e - (e - 3)) (e - 3) (by omega) (Δ _)
 have f:γ .i64 ((e:Int) - ((3:Nat):Int))=(e:Int) - 3:=dC (by omega) (by omega);have g:(if ((0:Nat):Int)>(e:Int) - 3 then ((0:Nat):Int) else (e:Int) - 3)=((e - 3:Nat):Int):=by
  split<;>omega
 have b:ag ((s.take (e - 3)).drop (e - 3))=0:=by
  rw [Xx6 (by simp;omega)];rfl
 have i:(ε (e - 3) (ν e s)).length≤3:=by simp;omega
 unfold S9;generalize ag ((s.take e).drop (e - 3))=d at*
 rcases Xxf (o= []) with rfl|hne
 ·have a:=aiP c s [] (e:Int) d;rw [f,g] at a;simp (disch:=first|omega|(simp [au,ay]<;>omega)) only [aW,bu,a_] at a;simp only [Xqk,Nj,Nk,ai,Xqh,Xx4,μ,Xqb] at a ⊢;apply a
  ·omega
  ·refine az.blk hloop (by simp) rfl ?_ (aH.of ⟨rfl,rfl,rfl,rfl,trivial⟩);unfold WG;rw [b];exact aH.of ⟨rfl,rfl,rfl,rfl,rfl,trivial⟩
 ·have a:=aiK c s o (e:Int) d;rw [f,g] at a;rw [gG hne,gI hne,gG (iC _ _),gI (iC _ _)];simp (disch:=first|omega|(simp [au,ay]<;>omega)) only [fE,a_,φ,bI,aW,bu,dh,Xqx,iO] at a;simp only [θ,σ];apply a<;>first|exact True.intro|omega|assumption|exact rfl|skip
  ·refine az.blk hloop (by simp) rfl ?_ ?_
   ·unfold WG;rw [b,gG hne,gI hne];exact aH.of ⟨rfl,rfl,rfl,rfl,rfl,trivial⟩
   ·unfold WF;rw [gG hne,gI hne];exact aH.of ⟨rfl,rfl,rfl,rfl,trivial⟩
theorem WA {nt:Nat} (b:35≤nt) (s:List UInt8) (o:List Nat) (z:Int) (c:z≤0):ψ nt f135 (S9 s (z,o)) (.exit 0) (Qq o):=by
 unfold S9 Qq;have a:lit false (decide (((0:Nat):Int)<z))=true:=by simp [lit];exact c
 rcases Xxf (o= []) with rfl|hne
 ·exact aiQ b s [] z 0 a
 ·rw [gG hne,gI hne];exact aiL b s o z 0 a
theorem ag1 {s:List UInt8} {e:Nat} (g:e≤s.length):ag (s.take e)=16777216*ag (s.take (e - 3))+ag ((s.take e).drop (e - 3)):=by
 have c:∀ (b a:List UInt8),ag (a++b)=ag a*256^b.length+ag b:=by
  intro b a;unfold ag;rw [Xwr,G9];rfl
 have hs:s.take e=s.take (e - 3)++(s.take e).drop (e - 3):=by
  have d:=Xjy (e - 3) (s.take e);rw [List.take_take,Xx1 (by omega)] at d;exact d.symm
 have f:=c ((s.take e).drop (e - 3)) (s.take (e - 3));rw [← hs] at f;rw [f];rcases Xq5 e 3 with h3|h3
 ·have:e - 3=0:=by omega
  rw [this];simp [ag]
 ·have:((s.take e).drop (e - 3)).length=3:=by simp;omega
  rw [this,Ψ,show 256^3=16777216 from rfl]
theorem WB {nt:Nat} (d:35≤nt) (s:List UInt8) (hs:s.length<2^38) (l:nR s=true):∀ (n e:Nat) (o:List Nat),e<n→e≤s.length→o.length+e<2^39→az prog ap [] nt (af 0 (ah f135)) (fun _=> .exit 0) (S9 s) Qq ((e:Int),o) (o++ax (ag (s.take e))):=by
 intro n
 induction n with
 |zero=>intro e o h;omega
 | succ n ih=>
  intro e o h a q;rcases Θ e with rfl|h0
  ·have:ag (s.take 0)=0:=rfl;rw [this,fP,Γ];exact .done (WA d s o _ (by omega))
  ·have p:0<ag (s.take e):=by
    cases s with
    |nil=>simp at a;omega
    | cons c r=>
     have m:c ≠ 0:=by simpa [nR] using l
     have b:0<c.toNat:=by
      rcases Θ c.toNat with h|h
      ·exact absurd (by apply UInt8.toNat_inj.1;simpa using h) m
      ·exact h
     obtain ⟨e',rfl⟩:∃ e',e=e'+1:=⟨e - 1,by omega⟩
     rw [List.take_succ_cons,iW];have:=Xx7 b (show 0<256^(r.take e').length from Nat.pow_pos (by omega));omega
   have g:=ag1 a;have hd:=Qr (s:=s) (j:=e - 3) (k:=e) (by omega);have hstep:=aac d s o e hs a h0 (by omega);rw [nZ p,show ag (s.take e) % 16777216=ag ((s.take e).drop (e - 3)) by omega,show ag (s.take e) / 16777216=ag (s.take (e - 3)) by omega];rcases Xq5 e 3 with h3|h3
   ·have i:e - 3=0:=by omega
    have f:ag (s.take (e - 3))=0:=by rw [i];rfl
    rw [f,fP];exact .next hstep (.done (WA d s _ _ (by omega)))
   ·have hnext:=ih (e - 3) (o++ [ag ((s.take e).drop (e - 3))]) (by omega) (by omega) (by simp;omega);rw [Xqd] at hnext;rw [show ((e:Int) - 3)=((e - 3:Nat):Int) by omega] at hstep;exact .next hstep hnext
theorem BM (s:List UInt8) (hs:s.length<2^37):CO 135 [.str s] (.ret (.sl (ai (ax (ag s))) (ax (ag s)).length false)):=by
 have b:=gQ s (by omega);have c:(ae (ag s)).length≤s.length:=lV (Δ _);have a:=aC (ag s);have hloop:=fun nt (hn:35≤nt)=>WB hn (ae (ag s)) (by omega) (vw _) ((ae (ag s)).length+1) (ae (ag s)).length [] (by omega) (Δ _) (by simp;omega)
 rw [Xqx,a,Xqk] at hloop;generalize hd:ax (ag s)=o at*
 rcases Xxf (o= []) with rfl|hne
 ·have h:=aeL s [] b (az.blk hloop (by simp) rfl (aH.of ⟨rfl,rfl,rfl,trivial⟩) (aH.of ⟨rfl,trivial⟩));exact h.out (j_.ret rfl rfl (aS.nilS false rfl))
 ·have h:=(aeK s o b (az.blk hloop (by simp) rfl (aH.of ⟨rfl,rfl,rfl,trivial⟩) (by unfold Qq;rw [gG hne,gI hne];exact aH.of ⟨rfl,trivial⟩))).thaw (by simp);simp only [wL,thaw,φ,dh,Xqx] at h;exact h.out (j_.sl1 _ _ _)
theorem amS (s t:List UInt8) (x y q r:Nat) (a:(!((y:Int)==((0:Nat):Int)))=true) (b:lit false ((((η (ae (ag t))):Nat):Int)==((0:Nat):Int))=true) (e:CO 133 [.str t] (.ret (.str (ae (ag t))))) (f:CO 134 [.str s,ω 7] (.ret (.tup [ω (x:Int),.bool true]))) (g:CO 134 [.str (ae (ag t)),ω 7] (.ret (.tup [ω (y:Int),.bool true]))) (d:CO 79 [ω (γ .i64 (Xxg (x:Int) (y:Int)))] (.ret (.str (ae q)))) (c:CO 79 [ω (Xju (x:Int) (y:Int))] (.ret (.str (ae r)))):CO 150 [.str s,.str t] (.ret (.tup [.str (ae q),.str (ae r),.bool true])):=pK [0] 3 6 (.c a (.c a (.k 2 b .nil))) (.c c (.c d (.c g (.c f (.c e .nil)))))
theorem amQ (s t:List UInt8) (x y q r m:Nat) (Q:List Nat) (b:Int) (a:Bool) (e:(decide (((0:Nat):Int)≤(((ax (ag s)).length:Nat):Int)))=true) (l:(decide ((((ax (ag s)).length:Nat):Int)=(((ax (ag s)).length:Nat):Int)))=true) (d:(decide ((((ax (ag s)).length:Nat):Int)≤((1099511627776:Nat):Int)))=true) (c:lit false ((((η (ae (ag t))):Nat):Int)==((0:Nat):Int))=true) (o:CO 133 [.str t] (.ret (.str (ae (ag t))))) (k:CO 134 [.str s,ω 7] (.ret (.tup [ω 0,.bool false]))) (f:CO 134 [.str (ae (ag t)),ω 7] (.ret (.tup [ω b,.bool a]))) (h:CO 135 [.str s] (.ret (.sl (ai (ax (ag s))) (ax (ag s)).length false))) (n:CO 135 [.str (ae (ag t))] (.ret (.sl (ai (ax (ag (ae (ag t))))) (ax (ag (ae (ag t)))).length false))) (g:aG prog ap [] 87 (.block 0 (.loop (af 0 (ah f150)))) ⟨[(0,.str s),(1,.str (ae (ag t))),(4,.str []),(5,.str []),(6,.bool false),(7,ω 0),(8,.bool false),(9,ω b),(10,.bool a),(11,.sl (ai (ax (ag s))) (ax (ag s)).length false),(12,.sl (ai (ax (ag (ae (ag t))))) (ax (ag (ae (ag t)))).length false),(13,.ref 0 0 0 (δ (((ax (ag s)).length:Nat):Int))),(14,.nilS),(15,ω (γ .i64 ((((ax (ag s)).length:Nat):Int) - ((1:Nat):Int)))),(20,.bool ((((η (ae (ag t))):Nat):Int)==((0:Nat):Int))),(34,.bool false),(54,.dead),(68,.dead)],[(0,⟨(gz (δ (((ax (ag s)).length:Nat):Int)) [ω 0]),0,false,0,1,true⟩)],.dead,[]⟩ (.normal) ⟨[(13,.ref 0 0 0 m),(14,.sl (ai (ax r)) (ax r).length false)],[(0,⟨(ai Q),0,false,0,1,true⟩)],.dead,[]⟩) (i:CO 136 [.sl (ν (m*1) (ai Q)) m true] (.ret (.str (ae q)))) (j:CO 136 [.sl (ai (ax r)) (ax r).length false] (.ret (.str (ae r)))):CO 150 [.str s,.str t] (.ret (.tup [.str (ae q),.str (ae r),.bool true])):=pK [0] 3 0 (.c e (.c l (.c d (.k 2 c .nil)))) (.c j (.c i (.l g (.c n (.c h (.c f (.c k (.c o .nil))))))))
theorem amR (s t:List UInt8) (x y q r m:Nat) (Q:List Nat) (o:Int) (n:Bool) (c:(decide (((0:Nat):Int)≤(((ax (ag s)).length:Nat):Int)))=true) (j:(decide ((((ax (ag s)).length:Nat):Int)=(((ax (ag s)).length:Nat):Int)))=true) (b:(decide ((((ax (ag s)).length:Nat):Int)≤((1099511627776:Nat):Int)))=true) (a:lit false ((((η (ae (ag t))):Nat):Int)==((0:Nat):Int))=true) (l:CO 133 [.str t] (.ret (.str (ae (ag t))))) (i:CO 134 [.str s,ω 7] (.ret (.tup [ω (x:Int),.bool true]))) (d:CO 134 [.str (ae (ag t)),ω 7] (.ret (.tup [ω 0,.bool false]))) (f:CO 135 [.str s] (.ret (.sl (ai (ax (ag s))) (ax (ag s)).length false))) (k:CO 135 [.str (ae (ag t))] (.ret (.sl (ai (ax (ag (ae (ag t))))) (ax (ag (ae (ag t)))).length false))) (e:aG prog ap [] 87 (.block 0 (.loop (af 0 (ah f150)))) ⟨[(0,.str s),(1,.str (ae (ag t))),(4,.str []),(5,.str []),(6,.bool false),(7,ω (x:Int)),(8,.bool true),(9,ω 0),(10,.bool false),(11,.sl (ai (ax (ag s))) (ax (ag s)).length false),(12,.sl (ai (ax (ag (ae (ag t))))) (ax (ag (ae (ag t)))).length false),(13,.ref 0 0 0 (δ (((ax (ag s)).length:Nat):Int))),(14,.nilS),(15,ω (γ .i64 ((((ax (ag s)).length:Nat):Int) - ((1:Nat):Int)))),(20,.bool ((((η (ae (ag t))):Nat):Int)==((0:Nat):Int))),(34,.bool false),(54,.dead),(68,.dead)],[(0,⟨(gz (δ (((ax (ag s)).length:Nat):Int)) [ω 0]),0,false,0,1,true⟩)],.dead,[]⟩ (.normal) ⟨[(13,.ref 0 0 0 m),(14,.sl (ai (ax r)) (ax r).length false)],[(0,⟨(ai Q),0,false,0,1,true⟩)],.dead,[]⟩) (g:CO 136 [.sl (ν (m*1) (ai Q)) m true] (.ret (.str (ae q)))) (h:CO 136 [.sl (ai (ax r)) (ax r).length false] (.ret (.str (ae r)))):CO 150 [.str s,.str t] (.ret (.tup [.str (ae q),.str (ae r),.bool true])):=pK [0] 3 2 (.c c (.c j (.c b (.k 2 a .nil)))) (.c h (.c g (.l e (.c k (.c f (.c d (.c i (.c l .nil))))))))
theorem amT {nt:Nat} (v:87≤nt) (x y r w q p a m k:Nat) (c:Int) (Q:List Nat) (l:(chk (.int .i64) (ζ (ε ((0+(δ (k:Int)))*1) (ν ((0+(δ (k:Int)))*1) (ai Q)++ [ω (q:Int)]++ε (((0+(δ (k:Int)))*1)+1) (ai Q))) .dead))=true) (b:(decide (((0:Nat):Int)≤(k:Int)))=true) (d:(decide ((k:Int)<(m:Int)))=true) (g:(Xqg (((0+(δ (k:Int)))*1)+1) (η (ai Q)))=true) (h:lit true (decide (((0:Nat):Int)≤c))=true) (i:(Xqq (η (ai (ax r))) ((ax r).length*1))=true) (f:(Xqg (1+(ax r).length) 1099511627776)=true) (j:(chk (.int .i64) (ζ (ε ((δ (k:Int))*1) (ai (ax x))) .dead))=true) (s:(decide ((k:Int)<(((ax x).length:Nat):Int)))=true) (e:lit true (decide (((0:Nat):Int)≤(k:Int)))=true) (z:CO 185 [.sl (ν ((1+(ax r).length)*1) ([ω (τ (ζ (ε ((δ (k:Int))*1) (ai (ax x))) .dead))]++(ai (ax r)))) (1+(ax r).length) true] (.ret (.sl (ai (ax w)) (ax w).length false))) (t:CO 186 [.sl (ai (ax w)) (ax w).length false,.sl (ai (ax y)) (ax y).length false] (.ret (ω c))) (n:CO 187 [.sl (ai (ax w)) (ax w).length false,.sl (ai (ax y)) (ax y).length false] (.ret (ω (q:Int)))) (o:CO 188 [.sl (ai (ax y)) (ax y).length false,ω (τ (ζ (ε ((0+(δ (k:Int)))*1) (ν ((0+(δ (k:Int)))*1) (ai Q)++ [ω (q:Int)]++ε (((0+(δ (k:Int)))*1)+1) (ai Q))) .dead))] (.ret (.sl (ai (ax p)) (ax p).length true))) (u:CO 151 [.sl (ai (ax w)) (ax w).length false,.sl (ai (ax p)) (ax p).length true] (.ret (.sl (ai (ax a)) (ax a).length false))):ψ nt f150 ⟨[(11,.sl (ai (ax x)) (ax x).length false),(12,.sl (ai (ax y)) (ax y).length false),(13,.ref 0 0 0 m),(14,.sl (ai (ax r)) (ax r).length false),(15,ω (k:Int))],[(0,⟨(ai Q),0,false,0,1,true⟩)],.dead,[]⟩ (.normal) ⟨[(11,.sl (ai (ax x)) (ax x).length false),(12,.sl (ai (ax y)) (ax y).length false),(13,.ref 0 0 0 m),(14,.sl (ai (ax a)) (ax a).length false),(15,ω (γ .i64 ((k:Int) - ((1:Nat):Int))))],[(0,⟨(ν ((0+(δ (k:Int)))*1) (ai Q)++ [ω (q:Int)]++ε (((0+(δ (k:Int)))*1)+1) (ai Q)),0,false,0,1,true⟩)],.dead,[]⟩:=pJ 150 [] 2 3 (.c l (.c b (.c d (.c g (.c b (.c d (.c h (.c i (.c f (.k 2 j (.c b (.c s (.c e .nil))))))))))))) (.c u (.c o (.c n (.c t (.c z .nil))))) v
theorem amU {nt:Nat} (j:87≤nt) (x y r w q p n m k:Nat) (c:Int) (Q:List Nat) (g:lit false (decide (((0:Nat):Int)≤c))=true) (i:(Xqq (η (ai (ax r))) ((ax r).length*1))=true) (f:(Xqg (1+(ax r).length) 1099511627776)=true) (b:(chk (.int .i64) (ζ (ε ((δ (k:Int))*1) (ai (ax x))) .dead))=true) (d:(decide (((0:Nat):Int)≤(k:Int)))=true) (e:(decide ((k:Int)<(((ax x).length:Nat):Int)))=true) (a:lit true (decide (((0:Nat):Int)≤(k:Int)))=true) (l:CO 185 [.sl (ν ((1+(ax r).length)*1) ([ω (τ (ζ (ε ((δ (k:Int))*1) (ai (ax x))) .dead))]++(ai (ax r)))) (1+(ax r).length) true] (.ret (.sl (ai (ax w)) (ax w).length false))) (h:CO 186 [.sl (ai (ax w)) (ax w).length false,.sl (ai (ax y)) (ax y).length false] (.ret (ω c))):ψ nt f150 ⟨[(11,.sl (ai (ax x)) (ax x).length false),(12,.sl (ai (ax y)) (ax y).length false),(13,.ref 0 0 0 m),(14,.sl (ai (ax r)) (ax r).length false),(15,ω (k:Int))],[(0,⟨(ai Q),0,false,0,1,true⟩)],.dead,[]⟩ (.normal) ⟨[(11,.sl (ai (ax x)) (ax x).length false),(12,.sl (ai (ax y)) (ax y).length false),(13,.ref 0 0 0 m),(14,.sl (ai (ax w)) (ax w).length false),(15,ω (γ .i64 ((k:Int) - ((1:Nat):Int))))],[(0,⟨(ai Q),0,false,0,1,true⟩)],.dead,[]⟩:=pJ 150 [] 2 1 (.c g (.c i (.c f (.k 2 b (.c d (.c e (.c a .nil))))))) (.c h (.c l .nil)) j
theorem ajy {nt:Nat} (a:87≤nt) (x y r w q p b m k:Nat) (c:Int) (Q:List Nat):ψ nt f150 ⟨[(11,.sl (ai (ax x)) (ax x).length false),(12,.sl (ai (ax y)) (ax y).length false),(13,.ref 0 0 0 m),(14,.sl (ai (ax r)) (ax r).length false),(15,ω (-1))],[(0,⟨(ai Q),0,false,0,1,true⟩)],.dead,[]⟩ (.exit 0) ⟨[(13,.ref 0 0 0 m),(14,.sl (ai (ax r)) (ax r).length false)],[(0,⟨(ai Q),0,false,0,1,true⟩)],.dead,[]⟩:=pJ 150 [] 1 0 (.n 1 .nil) (.nil) a
def Ah (x y m k:Nat):List Nat:=(Xq6 m).map fun i=>if i<k then 0 else x / 16777216^i / y % 16777216
theorem xu (x y m k:Nat):(Ah x y m k).length=m:=by simp [Ah]
theorem aaw {x y m k:Nat} (a:k<m):(Ah x y m (k+1)).set k (x / 16777216^k / y % 16777216)=Ah x y m k:=by
 apply Xjv;intro i;rw [Xzl,xu];unfold Ah;by_cases hi:k=i
 ·subst hi;simp [a]
 ·rw [if_neg hi];by_cases him:i<m
  ·simp only [List.getElem?_map,List.getElem?_range him,Option.map_some];by_cases h1:i<k
   ·rw [if_pos (by omega),if_pos h1]
   ·rw [if_neg (by omega),if_neg h1]
  ·rw [Xq4 (by simp;omega),Xq4 (by simp;omega)]
theorem Hy (x y m:Nat):Ah x y m m=κ m 0:=by
 unfold Ah;apply Xjv;intro i;by_cases him:i<m
 ·simp [him]
 ·rw [Xq4 (by simp;omega),Xq4 (by simp;omega)]
theorem aav (x y m k:Nat):bf (Ah x y m k):=by
 intro d hd;obtain ⟨i,_,rfl⟩:=List.mem_map.1 hd;show (if i<k then 0 else _)<_;split<;>omega
theorem X3 (z:Nat):∀ m,cO ((Xq6 m).map fun i=>z / 16777216^i % 16777216)=z % 16777216^m:=by
 intro m
 induction m with
 |zero=>simp [cO,Nat.mod_one]
 |succ m ih=>
  rw [List.range_succ,Xx0,zg,ih,List.length_map,List.length_range,Xq2,Nat.mod_mul];simp only [Xqh,Xx4,cO,Xjc,Xq0]
theorem aax {x y m:Nat} (h:x / y<16777216^m):cO (Ah x y m 0)=x / y:=by
 have e:Ah x y m 0=(Xq6 m).map fun i=>x / y / 16777216^i % 16777216:=by
  unfold Ah;apply List.map_congr_left;intro i _;rw [if_neg (by omega),Xxr,Xxr,Ψ]
 rw [e,X3,υ h]
theorem UZ:∀ (k x:Nat),(ax x).getD k 0=x / 16777216^k % 16777216:=by
 intro k
 induction k with
 |zero=>
  intro x;rcases Θ x with rfl|h
  ·rw [fP];rfl
  ·rw [nZ h];simp
 |succ k ih=>
  intro x;rcases Θ x with rfl|h
  ·rw [fP];simp
  ·rw [nZ h,List.getD_cons_succ,ih,Xxr,Xq2,Ψ]
theorem PP {V R' Q' x H:Nat} (a:0<V) (h:H=V*Q'+R'):(x+16777216*H) / V=16777216*Q'+(x+16777216*R') / V∧(x+16777216*H) % V=(x+16777216*R') % V:=by
 subst h;have e:x+16777216*(V*Q'+R')=x+16777216*R'+V*(16777216*Q'):=by
  rw [Xq8,Xwo];omega
 rw [e];constructor
 ·rw [Nat.add_mul_div_left _ _ a,Xxq]
 ·rw [Nat.add_mul_mod_self_left]
def Td (x y m k:Nat):St:=⟨[(11,.sl (ai (ax x)) (ax x).length false),(12,.sl (ai (ax y)) (ax y).length false),(13,.ref 0 0 0 m),(14,.sl (ai (ax (x / 16777216^k % y))) (ax (x / 16777216^k % y)).length false),(15,ω ((k:Int) - 1))],[(0,⟨ai (Ah x y m k),0,false,0,1,true⟩)],.dead,[]⟩
theorem amW {nt:Nat} (u:87≤nt) (x y r w q p b m k d:Nat) (c:Int) (Q Q2:List Nat) (A:k<(ax x).length) (hd:(ax x).getD k 0=d) (i:Q.length=m) (v:k<m) (z:m<2^40) (o:(ax r).length<2^39) (a:Q.set k q=Q2) (h:0≤c)
  (c0:CO 185 [.sl (ai (d::ax r)) (1+(ax r).length) true] (.ret (.sl (ai (ax w)) (ax w).length false)))
  (c1:CO 186 [.sl (ai (ax w)) (ax w).length false,.sl (ai (ax y)) (ax y).length false] (.ret (ω c)))
  (c2:CO 187 [.sl (ai (ax w)) (ax w).length false,.sl (ai (ax y)) (ax y).length false] (.ret (ω (q:Int))))
  (c3:CO 188 [.sl (ai (ax y)) (ax y).length false,ω (q:Int)] (.ret (.sl (ai (ax p)) (ax p).length true)))
  (c4:CO 151 [.sl (ai (ax w)) (ax w).length false,.sl (ai (ax p)) (ax p).length true] (.ret (.sl (ai (ax b)) (ax b).length false))):
  ψ nt f150 ⟨[(11,.sl (ai (ax x)) (ax x).length false),(12,.sl (ai (ax y)) (ax y).length false),(13,.ref 0 0 0 m),(14,.sl (ai (ax r)) (ax r).length false),(15,ω (k:Int))],[(0,⟨ai Q,0,false,0,1,true⟩)],.dead,[]⟩ .normal
   ⟨[(11,.sl (ai (ax x)) (ax x).length false),(12,.sl (ai (ax y)) (ax y).length false),(13,.ref 0 0 0 m),(14,.sl (ai (ax b)) (ax b).length false),(15,ω ((k:Int) - 1))],[(0,⟨ai Q2,0,false,0,1,true⟩)],.dead,[]⟩:=by
 have g:=amT u x y r w q p b m k c Q;have s:γ .i64 ((k:Int) - ((1:Nat):Int))=(k:Int) - 1:=dC (by omega) (by omega);have hset':=P5 (l:=Q) (j:=k) (by omega) q;rw [a] at hset';have f:Q2.getD k 0=q:=by rw [← a,ο,List.getElem?_set_self (by omega)];rfl
 have t:Q2.length=m:=by rw [← a];simp [i]
 have e:ν (1+(ax r).length) (ai (d::ax r))=ai (d::ax r):=by rw [dh,Ξ (by simp;omega)]
 have n:(((0:Nat):Int)≤c)=True:=by simp [h]
 simp (disch:=first|omega|(simp [au,ay]<;>omega)) only [aB,Xqf,φ,hset',fG,f,dU,dw,a_,aW,bI,fE,n,decide_true,bu,Jb,hd,aY,KN,e,s] at g;apply g<;>first|exact True.intro|omega|assumption|exact rfl
theorem amV {nt:Nat} (i:87≤nt) (x y r w m k d:Nat) (c:Int) (Q:List Nat) (l:k<(ax x).length) (hd:(ax x).getD k 0=d) (o:Q.length=m) (j:k<m) (n:m<2^40) (f:(ax r).length<2^39) (g:c<0)
  (c0:CO 185 [.sl (ai (d::ax r)) (1+(ax r).length) true] (.ret (.sl (ai (ax w)) (ax w).length false)))
  (c1:CO 186 [.sl (ai (ax w)) (ax w).length false,.sl (ai (ax y)) (ax y).length false] (.ret (ω c))):
  ψ nt f150 ⟨[(11,.sl (ai (ax x)) (ax x).length false),(12,.sl (ai (ax y)) (ax y).length false),(13,.ref 0 0 0 m),(14,.sl (ai (ax r)) (ax r).length false),(15,ω (k:Int))],[(0,⟨ai Q,0,false,0,1,true⟩)],.dead,[]⟩ .normal
   ⟨[(11,.sl (ai (ax x)) (ax x).length false),(12,.sl (ai (ax y)) (ax y).length false),(13,.ref 0 0 0 m),(14,.sl (ai (ax w)) (ax w).length false),(15,ω ((k:Int) - 1))],[(0,⟨ai Q,0,false,0,1,true⟩)],.dead,[]⟩:=by
 have b:=amU i x y r w 0 0 0 m k c Q;have h:γ .i64 ((k:Int) - ((1:Nat):Int))=(k:Int) - 1:=dC (by omega) (by omega);have a:ν (1+(ax r).length) (ai (d::ax r))=ai (d::ax r):=by rw [dh,Ξ (by simp;omega)]
 have e:(((0:Nat):Int)≤c)=False:=by simp [g]
 simp (disch:=first|omega|(simp [au,ay]<;>omega)) only [e,decide_false,dH,Xjj,bI,φ,Jb,decide_true,fE,a_,aB,fG,hd,dU,dw,aW,bu,aY,KN,a,h] at b;apply b<;>first|exact True.intro|omega|assumption|exact rfl
theorem aar (x y m k:Nat) (c:0<y) (j:k<m):∃ d r w:Nat,(ax x).getD k 0=d∧x / 16777216^(k+1) % y=r∧d+16777216*r=w∧d<16777216∧r<y∧x / 16777216^k % y=w % y∧(Ah x y m (k+1)).set k (w / y)=Ah x y m k∧(Ah x y m (k+1)).getD k 0=0:=by
 have f:=Xqv (x / 16777216^k) (show 0<16777216 by omega);have g:=Xqv (x / 16777216^(k+1)) c;refine ⟨x / 16777216^k % 16777216,x / 16777216^(k+1) % y,_,UZ k x,rfl,rfl,f,g, ?_, ?_, ?_⟩
 ·have b:=Xq7 (x / 16777216^(k+1)) y;obtain ⟨_,l⟩:=PP (x:=x / 16777216^k % 16777216) c b.symm;have e:x / 16777216^k % 16777216+16777216*(x / 16777216^(k+1))=x / 16777216^k:=by
   rw [Xq2,← Xxr];omega
  rw [e] at l;exact l
 ·have b:=Xq7 (x / 16777216^(k+1)) y;obtain ⟨v1,_⟩:=PP (x:=x / 16777216^k % 16777216) c b.symm;have e:x / 16777216^k % 16777216+16777216*(x / 16777216^(k+1))=x / 16777216^k:=by
   rw [Xq2,← Xxr];omega
  rw [e] at v1;have a:=aaw (x:=x) (y:=y) j;rw [v1] at a;have h:x / 16777216^k % 16777216+16777216*(x / 16777216^(k+1) % y)<y*16777216:=by omega
  have i:(x / 16777216^k % 16777216+16777216*(x / 16777216^(k+1) % y)) / y<16777216:=by rw [Xqs c,Ψ 16777216 y];exact h
  rw [Nat.mul_add_mod,υ i] at a;exact a
 ·unfold Ah;rw [ο];simp [j]
theorem RF {w y:Nat} (h:w<y*16777216):(ax w).length≤(ax y).length+1:=by
 apply rJ;have a:=uX y;rw [Xq2];exact Xxa h (Xw6 a (by omega))
theorem aas {nt:Nat} (E:87≤nt) (x y m k:Nat) (B:0<y) (L:(ax x).length=m) (v:k<m) (G:m<2^35) (H:(ax y).length<2^34):ψ nt f150 (Td x y m (k+1)) .normal (Td x y m k):=by
 obtain ⟨d,r,w,hd,J,I,z,A,q,a,j⟩:=aar x y m k B v;have g:=xu x y m (k+1);unfold Td;rw [show (((k+1:Nat):Int) - 1)=(k:Int) by omega,J,q];have e:w<y*16777216:=by omega
 have F:=qF (Xww A);have b:=yO (d::ax r) true (by simp;omega);rw [QZ (bf.cons z (bf.dig r))] at b;simp only [cO,fA,I,μ] at b;rw [Xxq (ax r).length 1] at b;have c:=b.out (j_.sl1 _ _ _);have u:w / y<16777216:=by rw [Xqs B,Ψ];exact e
 have K:=RF e;have l:=QE (ax w) (ax y) false false (bf.dig _) (bf.dig _) (by omega) (by omega);have p:=GU w y;generalize Ah x y m k=Q2 at*
 generalize Ah x y m (k+1)=Q1 at*
 by_cases hc:0≤J_ (ax w) (ax y)
 ·have f:=p.1.1 hc;have n:=U4 w y false false B e (by omega) (by omega);have C:=MK y (w / y) false u (by omega);have t:y*(w / y)≤w:=Nat.mul_div_le w y;have o:=Lc w (y*(w / y)) false true t (by omega);have D:w - y*(w / y)=w % y:=by have:=Xq7 w y;omega
  rw [D] at o;exact amW E x y r w (w / y) (y*(w / y)) (w % y) m k d _ Q1 Q2 (by omega) hd g v (by omega) (by omega) a hc c l n C o
 ·have f:w<y:=Xk4 (fun h=>hc (p.1.2 h));have s:w / y=0:=Xxy f;rw [υ f];rw [s] at a;have hsame:Q1.set k 0=Q1:=by
   apply Xjv;intro i;rw [Xzl];by_cases hi:k=i
   ·subst hi;rw [ο,ξ (by omega)] at j;rw [if_pos rfl,if_pos (by omega),ξ (by omega)];simpa using j.symm
   ·rw [if_neg hi]
  rw [hsame] at a;subst a;exact amV E x y r w m k d _ Q1 (by omega) hd g v (by omega) (by omega) (by omega) c l
def Qz (x y m k:Nat):St:=⟨[(13,.ref 0 0 0 m),(14,.sl (ai (ax (x / 16777216^k % y))) (ax (x / 16777216^k % y)).length false)],[(0,⟨ai (Ah x y m k),0,false,0,1,true⟩)],.dead,[]⟩
theorem aaq {nt:Nat} (c:87≤nt) (x y m:Nat) (d:0<y) (e:(ax x).length=m) (a:m<2^35) (b:(ax y).length<2^34):∀ k,k≤m→az prog ap [] nt (af 0 (ah f150)) (fun _=> .exit 0) (Td x y m) (Qz x y m) k 0:=by
 intro k
 induction k with
 |zero=>
  intro _;refine .done ?_;unfold Qz;have h:=ajy c x y (x / 16777216^0 % y) 0 0 0 0 m 0 0 (Ah x y m 0);exact h
 |succ k ih=>exact fun f=> .next (aas c x y m k d e (by omega) a b) (ih (by omega))
theorem Ia {s:List UInt8}:(ax (ag s)).length≤s.length:=by
 apply rJ;have h:=jO s;refine Xqa h ?_;rw [show (16777216:Nat)=2^24 from rfl,← Xx5];exact Xqc (by omega) (by omega)
theorem CX (s t:List UInt8) (hs:s.length<2^33) (L:t.length<2^33) (x:0<ag t):CO 150 [.str s,.str t] (.ret (.tup [.str (ae (ag s / ag t)),.str (ae (ag s % ag t)),.bool true])):=by
 have K:=gQ t (by omega);have a:=aC (ag t);have G:(ae (ag t)).length≤t.length:=lV (Δ _);have g:ae (ag t) ≠ []:=fun h=>by have:=eP.1 h;omega
 have E:0<(ae (ag t)).length:=by
  cases C:ae (ag t) with
  |nil=>exact absurd C g
  |cons _ _=>simp
 have e:((ae (ag t)).length=0)=False:=by simp;exact g
 have M:((7:Nat):Int)=7:=rfl;by_cases hb:ag s<2^(8*7)∧ag t<2^(8*7)
 ·have d:=gX s 7 (by omega) (by omega) hb.1;have b:=gX (ae (ag t)) 7 (by omega) (by omega) (by rw [a];exact hb.2);rw [a] at b;have y:ag s<9223372036854775808:=Xqa hb.1 (by decide);have w:ag t<9223372036854775808:=Xqa hb.2 (by decide);have I:=Xjq (ag s) (ag t);have J:=Nat.mod_le (ag s) (ag t);have N:=lg (ag s / ag t) (by omega);have H:=lg (ag s % ag t) (by omega);have h:=amS s t (ag s) (ag t) (ag s / ag t) (ag s % ag t);have o:(ag t=0)=False:=by simp;omega
  clear hb hs;simp (disch:=first|omega|(simp [au,ay]<;>omega)) only [jG,o,decide_false,Xjj,e,dH,qg,aO,wU] at h;apply h<;>first|exact True.intro|omega|assumption|exact rfl
 ·have A:=BM s (by omega);have k:=BM (ae (ag t)) (by omega);rw [a] at k;have D:=Ia (s:=s);have F:=Ia (s:=t);have hloop:=fun nt (hn:87≤nt)=>aaq hn (ag s) (ag t) _ x rfl (by omega) (by omega) _ (Δ _)
  have m:=xu (ag s) (ag t) (ax (ag s)).length 0;have l:cO (Ah (ag s) (ag t) (ax (ag s)).length 0)=ag s / ag t:=aax (χ (Xjq _ _) (uX _));have p:=uA (Ah (ag s) (ag t) (ax (ag s)).length 0) true (by omega) (aav _ _ _ _);rw [l,m] at p;have u:ag s / 16777216^0 % ag t=ag s % ag t:=by rw [Nat.pow_zero,Nat.div_one]
  have B:=qF (Xww (Xqv (ag s) x));have q:=uA (ax (ag s % ag t)) false (by omega) (bf.dig _);rw [fA] at q;have j:ag s / 16777216^(ax (ag s)).length % ag t=0:=by rw [Xxy (uX _),Nat.zero_mod]
  have i:γ .i64 ((((ax (ag s)).length:Nat):Int) - ((1:Nat):Int))=((ax (ag s)).length:Int) - 1:=Eu (by omega);have c:Qz (ag s) (ag t) (ax (ag s)).length 0=⟨[(13,.ref 0 0 0 (ax (ag s)).length),(14,.sl (ai (ax (ag s % ag t))) (ax (ag s % ag t)).length false)],[(0,⟨ai (Ah (ag s) (ag t) (ax (ag s)).length 0),0,false,0,1,true⟩)],.dead,[]⟩:=by unfold Qz;rw [u]
  have v:(ax (ag s)).length<2^35:=by omega
  have f:ν (ax (ag s)).length (ai (Ah (ag s) (ag t) (ax (ag s)).length 0))=ai (Ah (ag s) (ag t) (ax (ag s)).length 0):=by rw [dh,Ξ (by omega)]
  by_cases hx:ag s<2^(8*7)
  ·have z:2^(8*7)≤ag t:=by
    rcases Xq5 (ag t) (2^(8*7)) with h|h
    ·exact absurd ⟨hx,h⟩ hb
    ·exact h
   have d:=gX s 7 (by omega) (by omega) hx;have b:=lu (ae (ag t)) 7 (by omega) (by rw [a];exact z);clear hb hx z;have h:=amR s t (ag s) 0 (ag s / ag t) (ag s % ag t) (ax (ag s)).length (Ah (ag s) (ag t) (ax (ag s)).length 0) 0 true;rw [a] at h;simp (disch:=first|omega|(simp [au,ay]<;>omega)) only [dw,a_,decide_true,jG,e,decide_false,dH,Xjj,aB,i,Jr,φ,f] at h;apply h<;>first|exact True.intro|omega|assumption|exact rfl|skip
   ·refine az.blkF hloop (by simp) rfl ?_ (by rw [c];exact qx.refl _);unfold Td;rw [Hy,j,fP];exact qx.of ⟨aS.refl _,aS.refl _,aS.refl _,aS.nilS false rfl,aS.refl _,trivial⟩
  ·have d:=lu s 7 (by omega) (Nat.le_of_not_lt hx);have b:∃ r n,CO 134 [.str (ae (ag t)),ω 7] (.ret (.tup [ω r,.bool n])):=by
    rcases Xq5 (ag t) (2^(8*7)) with h|h
    ·exact ⟨_,_,gX (ae (ag t)) 7 (by omega) (by omega) (by rw [a];exact h)⟩
    ·exact ⟨_,_,lu (ae (ag t)) 7 (by omega) (by rw [a];exact h)⟩
   obtain ⟨r,n,b⟩:=b;clear hb hx;have h:=amQ s t 0 0 (ag s / ag t) (ag s % ag t) (ax (ag s)).length (Ah (ag s) (ag t) (ax (ag s)).length 0) r n;rw [a] at h;simp (disch:=first|omega|(simp [au,ay]<;>omega)) only [dw,a_,decide_true,jG,e,decide_false,dH,Xjj,aB,i,Jr,φ,f] at h;apply h<;>first|exact True.intro|omega|assumption|exact rfl|skip
   ·refine az.blkF hloop (by simp) rfl ?_ (by rw [c];exact qx.refl _);unfold Td;rw [Hy,j,fP];exact qx.of ⟨aS.refl _,aS.refl _,aS.refl _,aS.nilS false rfl,aS.refl _,trivial⟩
theorem akp {nt:Nat} (a:25≤nt) (s t q r:List UInt8) (c:lit true (decide (((0:Nat):Int)<(((η t):Nat):Int)))=true) (b:CO 150 [.str s,.str t] (.ret (.tup [.str q,.str r,.bool true]))):ψ nt f149 ⟨[(0,.str s),(1,.str t)],[],.dead,[]⟩ (.normal) ⟨[(0,.str t),(1,.str r)],[],.dead,[]⟩:=pJ 149 [] 1 1 (.c c .nil) (.c b .nil) a
theorem akq {nt:Nat} (a:25≤nt) (s t q r:List UInt8) (b:lit false (decide (((0:Nat):Int)<(((η t):Nat):Int)))=true):ψ nt f149 ⟨[(0,.str s),(1,.str t)],[],.dead,[]⟩ (.exit 0) ⟨[(0,.str s)],[],.dead,[]⟩:=pJ 149 [] 1 0 (.c b .nil) (.nil) a
theorem akn (s t g:List UInt8) (b:CO 133 [.str s] (.ret (.str (ae (ag s))))) (c:CO 133 [.str t] (.ret (.str (ae (ag t))))) (a:aG prog ap [] 25 (.block 0 (.loop (af 0 (ah f149)))) ⟨[(0,.str (ae (ag s))),(1,.str (ae (ag t))),(4,.str []),(6,.dead),(14,.dead)],[],.dead,[]⟩ (.normal) ⟨[(0,.str g)],[],.dead,[]⟩):CO 149 [.str s,.str t] (.ret (.str g)):=pK [0] 0 0 .nil (.l a (.c c (.c b .nil)))
def ako (p:Nat × Nat):St:=⟨[(0,.str (ae p.1)),(1,.str (ae p.2))],[],.dead,[]⟩
def acD (x:Nat):St:=⟨[(0,.str (ae x))],[],.dead,[]⟩
theorem Tz {nt:Nat} (d:25≤nt):∀ (n y x:Nat),y<n→(ae x).length<2^33→(ae y).length<2^33→az prog ap [] nt (af 0 (ah f149)) (fun _=> .exit 0) ako acD (x,y) (Xxn x y):=by
 intro n
 induction n with
 |zero=>intro y x h;omega
 | succ n ih=>
  intro y x h f e;rcases Θ y with rfl|h0
  ·rw [Nat.gcd_zero_right];refine .done ?_;unfold ako acD;rw [dB];exact akq d (ae x) [] [] [] rfl
  ·have i:=Xqv x h0;have g:(ae (x % y)).length<2^33:=by
    have:x % y≤ag (ae y):=by rw [aC];omega
    have:=lV this;omega
   have hnext:=ih (x % y) y (by omega) e g;rw [show Xxn y (x % y)=Xxn x y by rw [Xv8 y,← Nat.gcd_rec,Xv8]] at hnext;refine .next ?_ hnext
   have b:=CX (ae x) (ae y) f e (by rw [aC];exact h0);rw [aC,aC] at b;have c:ae y ≠ []:=fun h=>by have:=eP.1 h;omega
   have a:0<(ae y).length:=by
    cases b:ae y with
    |nil=>exact absurd b c
    |cons _ _=>simp
   exact akp d (ae x) (ae y) _ _ (by rw [aW,bu];exact Yq0 a) b
theorem QH (s t:List UInt8) (hs:s.length<2^33) (d:t.length<2^33):CO 149 [.str s,.str t] (.ret (.str (ae (Xxn (ag s) (ag t))))):=by
 have c:(ae (ag s)).length≤s.length:=lV (Δ _);have b:(ae (ag t)).length≤t.length:=lV (Δ _);exact akn s t _ (gQ s (by omega)) (gQ t (by omega)) (az.blk (fun nt a=>Tz a (ag t+1) (ag t) (ag s) (by omega) (by omega) (by omega)) (by simp) rfl (aH.of ⟨rfl,rfl,trivial⟩) (aH.of ⟨rfl,trivial⟩))
theorem ajk (a:Bool) (n d:List UInt8) (g:Nat) (e:lit true (!(nR n))=true) (b:CO 179 [.str n] (.ret (.bool (nR n)))) (c:CO 179 [.str d] (.ret (.bool (nR d)))):CO 137 [Ω a n d] (.ret (.bool false)):=pK [] 3 7 (.k 2 e (.n 2 .nil)) (.c c (.c b .nil))
theorem ajl (a:Bool) (n d:List UInt8) (g:Nat) (f:lit true (!(nR d))=true) (b:lit false (!(nR n))=true) (c:CO 179 [.str n] (.ret (.bool (nR n)))) (e:CO 179 [.str d] (.ret (.bool (nR d)))):CO 137 [Ω a n d] (.ret (.bool false)):=pK [] 3 6 (.k 1 f (.c b (.n 2 .nil))) (.c e (.c c .nil))
theorem ajm (a:Bool) (n d:List UInt8) (g:Nat) (h:lit true (d== [])=true) (b:lit false (!(nR d))=true) (c:lit false (!(nR n))=true) (e:CO 179 [.str n] (.ret (.bool (nR n)))) (f:CO 179 [.str d] (.ret (.bool (nR d)))):CO 137 [Ω a n d] (.ret (.bool false)):=pK [] 3 4 (.c h (.k 1 b (.c c (.n 2 .nil)))) (.c f (.c e .nil))
theorem ajn (a:Bool) (n d:List UInt8) (g:Nat) (k:lit true (!a)=true) (b:lit true (n== [])=true) (f:lit false (d== [])=true) (c:lit false (!(nR d))=true) (e:lit false (!(nR n))=true) (i:CO 179 [.str n] (.ret (.bool (nR n)))) (j:CO 179 [.str d] (.ret (.bool (nR d)))) (l:CO 79 [ω 1] (.ret (.str (ae 1)))) (h:CO 101 [.str d,.str (ae 1)] (.ret (ω (lZ (ag d) (ag (ae 1)))))):CO 137 [Ω a n d] (.ret (.bool ((lZ (ag d) (ag (ae 1)))==((0:Nat):Int)))):=pK [] 5 24 (.k 1 k (.k 1 b (.k 1 f (.k 1 c (.c e (.n 2 .nil)))))) (.c h (.c l (.c j (.c i .nil))))
theorem ajo (a:Bool) (n d:List UInt8) (g:Nat) (j:lit false (!a)=true) (b:lit true (n== [])=true) (f:lit false (d== [])=true) (c:lit false (!(nR d))=true) (e:lit false (!(nR n))=true) (h:CO 179 [.str n] (.ret (.bool (nR n)))) (i:CO 179 [.str d] (.ret (.bool (nR d)))):CO 137 [Ω a n d] (.ret (.bool false)):=pK [] 5 8 (.c j (.k 1 b (.k 1 f (.k 1 c (.c e (.n 2 .nil)))))) (.c i (.c h .nil))
theorem ajp (a:Bool) (n d:List UInt8) (g:Nat) (k:lit false (n== [])=true) (b:lit false (d== [])=true) (f:lit false (!(nR d))=true) (c:lit false (!(nR n))=true) (i:CO 179 [.str n] (.ret (.bool (nR n)))) (j:CO 179 [.str d] (.ret (.bool (nR d)))) (l:CO 149 [.str n,.str d] (.ret (.str (ae g)))) (h:CO 79 [ω 1] (.ret (.str (ae 1)))) (e:CO 101 [.str (ae g),.str (ae 1)] (.ret (ω (lZ (ag (ae g)) (ag (ae 1)))))):CO 137 [Ω a n d] (.ret (.bool ((lZ (ag (ae g)) (ag (ae 1)))==((0:Nat):Int)))):=pK [] 4 0 (.k 2 k (.k 1 b (.k 1 f (.c c (.n 2 .nil))))) (.c e (.c h (.c l (.c j (.c i .nil)))))
theorem ajg (a:Bool) (n d:List UInt8) (g:Nat) (c:lit true (n== [])=true) (b:CO 79 [ω 1] (.ret (.str (ae 1)))):CO 99 [.bool a,.str n,.str d] (.ret (Ω false [] (ae 1))):=pK [] 1 1 (.k 4 c .nil) (.c b .nil)
theorem ajh (a:Bool) (n d:List UInt8) (g:Nat) (e:lit false (n== [])=true) (b:CO 149 [.str n,.str d] (.ret (.str (ae g)))) (c:CO 150 [.str n,.str (ae g)] (.ret (.tup [.str (ae (ag n / g)),.str (ae (ag n % g)),.bool true]))) (f:CO 150 [.str d,.str (ae g)] (.ret (.tup [.str (ae (ag d / g)),.str (ae (ag d % g)),.bool true]))):CO 99 [.bool a,.str n,.str d] (.ret (Ω a (ae (ag n / g)) (ae (ag d / g)))):=pK [] 1 0 (.k 4 e .nil) (.c f (.c c (.c b .nil)))
theorem ajd (a:Bool) (n d:List UInt8) (f:lit true (decide ((((dZ (ag n)):Nat):Int)≤((400:Nat):Int)))=true) (b:lit true (iG a n d)=true) (c:CO 137 [Ω a n d] (.ret (.bool (iG a n d)))) (e:CO 138 [.str n] (.ret (ω (((dZ (ag n)):Nat):Int)))) (g:CO 138 [.str d] (.ret (ω (((dZ (ag d)):Nat):Int)))):CO 81 [Ω a n d] (.ret (.bool (decide ((((dZ (ag d)):Nat):Int)≤((400:Nat):Int))))):=pK [] 2 3 (.k 1 f (.k 1 b (.n 3 .nil))) (.c g (.c e (.c c .nil)))
theorem aje (a:Bool) (n d:List UInt8) (f:lit false (decide ((((dZ (ag n)):Nat):Int)≤((400:Nat):Int)))=true) (b:lit true (iG a n d)=true) (c:CO 137 [Ω a n d] (.ret (.bool (iG a n d)))) (e:CO 138 [.str n] (.ret (ω (((dZ (ag n)):Nat):Int)))):CO 81 [Ω a n d] (.ret (.bool false)):=pK [] 2 1 (.c f (.k 1 b (.n 3 .nil))) (.c e (.c c .nil))
theorem ajf (a:Bool) (n d:List UInt8) (c:lit false (iG a n d)=true) (b:CO 137 [Ω a n d] (.ret (.bool (iG a n d)))):CO 81 [Ω a n d] (.ret (.bool false)):=pK [] 2 0 (.k 1 c (.n 3 .nil)) (.c b .nil)
theorem ajt (a:Bool) (n d:List UInt8) (e:lit true (!(iG a n d))=true) (b:CO 137 [Ω a n d] (.ret (.bool (iG a n d)))) (c:CO 79 [ω 1] (.ret (.str (ae 1)))):CO 98 [Ω a n d] (.ret (Ω false [] (ae 1))):=pK [] 1 1 (.k 4 e (.n 3 .nil)) (.c c (.c b .nil))
theorem aju (a:Bool) (n d:List UInt8) (c:lit false (!(iG a n d))=true) (b:CO 137 [Ω a n d] (.ret (.bool (iG a n d)))):CO 98 [Ω a n d] (.ret (Ω a n d)):=pK [] 1 0 (.k 7 c (.n 3 .nil)) (.c b .nil)
theorem aji (v:Int) (x z:Nat) (c:lit true (decide (((0:Nat):Int)≤v))=true) (a:CO 79 [ω v] (.ret (.str (ae z)))) (b:CO 79 [ω 1] (.ret (.str (ae 1)))):CO 48 [ω v] (.ret (Ω false (ae z) (ae 1))):=pK [] 1 1 (.k 4 c .nil) (.c b (.c a .nil))
theorem ajj (v:Int) (x z:Nat) (d:lit false (decide (((0:Nat):Int)≤v))=true) (b:CO 79 [ω (γ .i64 (0 - (γ .i64 (v+((1:Nat):Int)))))] (.ret (.str (ae z)))) (c:CO 79 [ω 1] (.ret (.str (ae 1)))) (e:CO 80 [.str (ae z),.str (ae 1)] (.ret (.str (ae x)))) (a:CO 79 [ω 1] (.ret (.str (ae 1)))):CO 48 [ω v] (.ret (Ω true (ae x) (ae 1))):=pK [] 1 0 (.k 4 d .nil) (.c a (.c e (.c c (.c b .nil))))
theorem ajq (a c:Bool) (n d b e:List UInt8) (g:lit true (b== [])=true) (f:CO 98 [Ω a n d] (.ret (Ω c b e))):CO 141 [Ω a n d] (.ret (ω 0)):=pK [] 1 1 (.c g (.n 5 .nil)) (.c f .nil)
theorem ajr (a b:Bool) (n d c f:List UInt8) (h:lit true b=true) (e:lit false (c== [])=true) (g:CO 98 [Ω a n d] (.ret (Ω b c f))):CO 141 [Ω a n d] (.ret (ω (-1))):=pK [] 2 2 (.c h (.k 1 e (.n 5 .nil))) (.c g .nil)
theorem ajs (a b:Bool) (n d c f:List UInt8) (h:lit false b=true) (e:lit false (c== [])=true) (g:CO 98 [Ω a n d] (.ret (Ω b c f))):CO 141 [Ω a n d] (.ret (ω 1)):=pK [] 2 0 (.c h (.k 1 e (.n 5 .nil))) (.c g .nil)
theorem afW (s t:List UInt8) (x y z:Nat) (a:CO 134 [.str s,ω 7] (.ret (.tup [ω (x:Int),.bool true]))) (b:CO 134 [.str t,ω 7] (.ret (.tup [ω (y:Int),.bool true]))) (c:CO 79 [ω (γ .i64 ((x:Int)+(y:Int)))] (.ret (.str (ae z)))):CO 80 [.str s,.str t] (.ret (.str (ae z))):=pK [] 2 3 (.n 2 .nil) (.c c (.c b (.c a .nil)))
theorem afX (s t:List UInt8) (x y z:Nat) (a:CO 134 [.str s,ω 3] (.ret (.tup [ω (x:Int),.bool true]))) (b:CO 134 [.str t,ω 4] (.ret (.tup [ω (y:Int),.bool true]))) (c:CO 79 [ω (γ .i64 ((x:Int)*(y:Int)))] (.ret (.str (ae z)))):CO 100 [.str s,.str t] (.ret (.str (ae z))):=pK [] 2 3 (.n 2 .nil) (.c c (.c b (.c a .nil)))
theorem QR {x:Nat}:((lZ x (ag (ae 1)))==((0:Nat):Int))=decide (x=1):=by
 rw [aC];unfold lZ;rcases Xj7 x 1 with h|h|h
 ·rw [if_pos h,Yq1 (by omega)];rfl
 ·rw [if_neg (by omega),if_neg (by omega),Yq0 h];rfl
 ·rw [if_neg (by omega),if_pos h,Yq1 (by omega)];rfl
theorem oI (a:Bool) (n d:List UInt8) (x:n.length<2^33) (hd:d.length<2^33):CO 137 [Ω a n d] (.ret (.bool (iG a n d))):=by
 have i:=Ju n;have j:=Ju d;have r:=lg 1 (by omega);have t:(ae 1).length≤1:=bY (by omega);have w:=Jo d (ae 1) (by omega) (by omega);have u:=QH n d x hd;have m:=@QR (ag d);cases b:nR n with
 |false=>
  have e:iG a n d=false:=by unfold iG;rw [b];rfl
  rw [e];exact ajk a n d 0 (by rw [b];rfl) i j
 | true=>
  cases c:nR d with
  |false=>
   have e:iG a n d=false:=by unfold iG;rw [c];simp
   rw [e];exact ajl a n d 0 (by rw [c];rfl) (by rw [b];rfl) i j
  | true=>
   have s:=(mX n).1 b;have q:=(mX d).1 c;by_cases hd0:d= []
   ·have e:iG a n d=false:=by
     subst hd0;unfold iG;simp [show ag []=0 from rfl]
    rw [e];exact ajm a n d 0 (by rw [hd0];rfl) (by rw [c];rfl) (by rw [b];rfl) i j
   ·have k:0<ag d:=by
     rcases Θ (ag d) with h|h
     ·rw [h,dB] at q;exact absurd q.symm hd0
     ·exact h
    have g:(d== [])=false:=by simpa using hd0
    by_cases hn0:n= []
    ·have f:(n== [])=true:=by simpa using hn0
     have p:ag n=0:=by rw [hn0];rfl
     cases a with
     | false=>
      have h:=ajn false n d 0 rfl (by rw [f];rfl) (by rw [g];rfl) (by rw [c];rfl) (by rw [b];rfl) i j r w;rw [m] at h;have e:iG false n d=decide (ag d=1):=by
       rw [Xx2,kT,p,Xwp];simp [b,c];omega
      rw [e];exact h
     | true=>
      have h:=ajo true n d 0 rfl (by rw [f];rfl) (by rw [g];rfl) (by rw [c];rfl) (by rw [b];rfl) i j;have e:iG true n d=false:=by
       rw [Bool.eq_false_iff];intro h;have:=(kT.1 h).2.2.2.2 rfl;omega
      rw [e];exact h
    ·have f:(n== [])=false:=by simpa using hn0
     have l:0<ag n:=by
      rcases Θ (ag n) with h|h
      ·rw [h,dB] at s;exact absurd s.symm hn0
      ·exact h
     have v:(ae (Xxn (ag n) (ag d))).length≤d.length:=lV (Xwz _ k);have o:=Jo (ae (Xxn (ag n) (ag d))) (ae 1) (by omega) (by omega);have h:=ajp a n d (Xxn (ag n) (ag d)) (by rw [f];rfl) (by rw [g];rfl) (by rw [c];rfl) (by rw [b];rfl) i j u r o;rw [QR,aC] at h;have e:iG a n d=decide (Xxn (ag n) (ag d)=1):=by
      rw [Xx2,kT];simp [b,c,k,l]
     rw [e];exact h
theorem lL (a:Bool) (n d:List UInt8) (g:n.length<2^33) (hd:d.length<2^33):CO 81 [Ω a n d] (.ret (.bool (fB a n d))):=by
 have b:=oI a n d g hd;have e:=LP n (by omega);have f:=LP d (by omega);unfold fB;cases c:iG a n d with
 |false=>exact ajf a n d (by rw [c];rfl) b
 | true=>
  by_cases h3:dZ (ag n)≤400
  ·have h:=ajd a n d (by rw [dw,Yq0 h3];rfl) (by rw [c];rfl) b e f;rw [dw] at h;rw [Yq0 h3];exact h
  ·have h:=aje a n d (by rw [dw,Yq1 h3];rfl) (by rw [c];rfl) b e;rw [Yq1 h3];exact h
structure RQ where
 neg:Bool
 n:Nat
 d:Nat
def RQ.ok (q:RQ):Prop:=0<q.d∧Xxn q.n q.d=1∧(q.neg=true→0<q.n)
def qA (q:RQ):AV:= .agg [.bool q.neg,.str (ae q.n),.str (ae q.d)]
def q0:RQ:=⟨false,0,1⟩
def jV (neg:Bool) (n d:Nat):RQ:=⟨neg && decide (0<n),n / Xxn n d,d / Xxn n d⟩
def vQ (neg:Bool) (n d:List UInt8):RQ:=if iG neg n d=true then ⟨neg,ag n,ag d⟩ else q0
theorem wJ:q0.ok:=⟨by decide,by decide,by simp [q0]⟩
theorem xg (q:RQ) (h:q.ok):iG q.neg (ae q.n) (ae q.d)=true:=by
 rw [kT,aC,aC];exact ⟨vw _,vw _,h⟩
theorem P9 {a:Bool} {n d:List UInt8} (h:iG a n d=true):Ω a n d=qA ⟨a,ag n,ag d⟩:=by
 obtain ⟨b,c,_⟩:=kT.1 h;unfold qA;rw [(mX n).1 b,(mX d).1 c]
theorem jo (a:Bool) (n d:List UInt8):(vQ a n d).ok:=by
 unfold vQ;split
 ·rename_i h;obtain ⟨_,_,c,e,b⟩:=kT.1 h;exact ⟨c,e,b⟩
 ·exact wJ
theorem vk {a:Bool} {n d:Nat} (h:0<d):(jV a n d).ok:=by
 have b:0<Xxn n d:=Xjz _ h;refine ⟨Xvr (Xwz _ h) b, ?_, ?_⟩
 ·show Xxn (n / Xxn n d) (d / Xxn n d)=1;rw [Nat.gcd_div (Nat.gcd_dvd_left _ _) (Nat.gcd_dvd_right _ _),Yxi b]
 ·intro c;have:0<n:=by simp [jV] at c;exact c.2
  exact Xvr (Nat.gcd_le_left _ this) b
theorem iQ (a:Bool) (n d:List UInt8) (e:n.length<2^33) (hd:d.length<2^33):CO 98 [Ω a n d] (.ret (qA (vQ a n d))):=by
 have c:=oI a n d e hd;unfold vQ;cases b:iG a n d with
 |false=>
  have h:=ajt a n d (by rw [b];rfl) c (lg 1 (by omega));rw [if_neg (by simp)];unfold qA q0;rw [dB];exact h
 |true=>
  have h:=aju a n d (by rw [b];rfl) c;rw [if_pos rfl,← P9 b];exact h
theorem oH (a:Bool) (n d:Nat) (g:(ae n).length<2^33) (hd:(ae d).length<2^33) (e:0<d):CO 99 [.bool a,.str (ae n),.str (ae d)] (.ret (qA (jV a n d))):=by
 have j:=QH (ae n) (ae d) g hd;rw [aC,aC] at j;have b:0<Xxn n d:=Xjz _ e;have k:(ae (Xxn n d)).length≤(ae d).length:=lV (by rw [aC];exact Xwz _ e);have f:=CX (ae n) (ae (Xxn n d)) g (by omega) (by rw [aC];exact b);have i:=CX (ae d) (ae (Xxn n d)) hd (by omega) (by rw [aC];exact b);simp only [aC] at f i;rcases Θ n with rfl|hp
 ·have h:=ajg a (ae 0) (ae d) 0 (by rw [dB];rfl) (lg 1 (by omega));unfold qA jV;simp only [Xvt,decide_false,Bool.and_false,Xwp,Nat.zero_div,Yxi e,dB];rw [dB] at h;exact h
 ·have c:ae n ≠ []:=fun h=>by have:=eP.1 h;omega
  have h:=ajh a (ae n) (ae d) (Xxn n d) (by simp [lit,c]);simp only [aC] at h;unfold qA jV;simp only [hp,decide_true,Bool.and_true];exact h j f i
def iU (q:RQ):Int:=if q.n=0 then 0 else if q.neg then -1 else 1
theorem FI (a:Bool) (n d:List UInt8):jD a n d=iU (vQ a n d):=by
 unfold jD iU vQ;cases c:iG a n d with
 |false=>simp [q0]
 | true=>
  simp only [true_and,if_true];by_cases h:0<ag n
  ·have b:¬ ag n=0:=by omega
   simp [h,b]
  ·have b:ag n=0:=by omega
   simp [b]
theorem Ag (a:Bool) (n d:List UInt8) (g:n.length<2^33) (hd:d.length<2^33):CO 141 [Ω a n d] (.ret (ω (jD a n d))):=by
 have c:=iQ a n d g hd;rw [FI];generalize vQ a n d=q at*
 obtain ⟨f,N,D⟩:=q;unfold qA at c;unfold iU;simp only at c ⊢;rcases Θ N with rfl|hp
 ·rw [if_pos rfl];exact ajq a f n d (ae 0) (ae D) (by rw [dB];rfl) c
 ·have e:ae N ≠ []:=fun h=>by have:=eP.1 h;omega
  have b:(ae N== [])=false:=by simpa using e
  rw [if_neg (by omega)];cases f with
  |true=>exact ajr a true n d (ae N) (ae D) rfl (by rw [b];rfl) c
  |false=>exact ajs a false n d (ae N) (ae D) rfl (by rw [b];rfl) c
def uh (neg:Bool) (n d:List UInt8) (a:Nat):Bool:=((neg==false) && ((n==(ae a)) && ((d==(ae 1)) && true)))
theorem aam (a:Nat) (b:a<9223372036854775808):CO 48 [ω (a:Int)] (.ret (LM false a 1)):=
 aji (a:Int) 0 a (by simp [lit]) (lg a b) (lg 1 (by omega))
theorem uF:CO 48 [ω 0] (.ret (LM false 0 1)):=aam 0 (by omega)
theorem yL:CO 48 [ω 1] (.ret (LM false 1 1)):=aam 1 (by omega)
def Rq:List UInt8:= [97,98,99,100,101,102,103,104,105,106,107,108,109,110,111,112,113,114,115,116,117,118,119,120,121,122,48,49,50,51,52,53,54,55,56,57,95]
def Ik:List AV:= [.bool false,.bool false,.bool false,.bool false,.bool false,.bool false,.bool false,.bool false,.bool false,.bool false,.bool false,.bool false,.bool false,.bool false,.bool false,.bool false,.bool false,.bool false,.bool false,.bool false,.bool false,.bool false,.bool false,.bool false,.bool false,.bool false,.bool false,.bool false,.bool false,.bool false,.bool false,.bool false,.bool false,.bool false,.bool false,.bool false,.bool false,.bool false,.bool false,.bool false,.bool false,.bool false,.bool false,.bool false,.bool false,.bool false,.bool false,.bool false,.bool true,.bool true,.bool true,.bool true,.bool true,.bool true,.bool true,.bool true,.bool true,.bool true,.bool false,.bool false,.bool false,.bool false,.bool false,.bool false,.bool false,.bool false,.bool false,.bool false,.bool false,.bool false,.bool false,.bool false,.bool false,.bool false,.bool false,.bool false,.bool false,.bool false,.bool false,.bool false,.bool false,.bool false,.bool false,.bool false,.bool false,.bool false,.bool false,.bool false,.bool false,.bool false,.bool false,.bool false,.bool false,.bool false,.bool false,.bool true,.bool false,.bool true,.bool true,.bool true,.bool true,.bool true,.bool true,.bool true,.bool true,.bool true,.bool true,.bool true,.bool true,.bool true,.bool true,.bool true,.bool true,.bool true,.bool true,.bool true,.bool true,.bool true,.bool true,.bool true,.bool true,.bool true,.bool true,.bool false,.bool false,.bool false,.bool false,.bool false,.bool false,.bool false,.bool false,.bool false,.bool false,.bool false,.bool false,.bool false,.bool false,.bool false,.bool false,.bool false,.bool false,.bool false,.bool false,.bool false,.bool false,.bool false,.bool false,.bool false,.bool false,.bool false,.bool false,.bool false,.bool false,.bool false,.bool false,.bool false,.bool false,.bool false,.bool false,.bool false,.bool false,.bool false,.bool false,.bool false,.bool false,.bool false,.bool false,.bool false,.bool false,.bool false,.bool false,.bool false,.bool false,.bool false,.bool false,.bool false,.bool false,.bool false,.bool false,.bool false,.bool false,.bool false,.bool false,.bool false,.bool false,.bool false,.bool false,.bool false,.bool false,.bool false,.bool false,.bool false,.bool false,.bool false,.bool false,.bool false,.bool false,.bool false,.bool false,.bool false,.bool false,.bool false,.bool false,.bool false,.bool false,.bool false,.bool false,.bool false,.bool false,.bool false,.bool false,.bool false,.bool false,.bool false,.bool false,.bool false,.bool false,.bool false,.bool false,.bool false,.bool false,.bool false,.bool false,.bool false,.bool false,.bool false,.bool false,.bool false,.bool false,.bool false,.bool false,.bool false,.bool false,.bool false,.bool false,.bool false,.bool false,.bool false,.bool false,.bool false,.bool false,.bool false,.bool false,.bool false,.bool false,.bool false,.bool false,.bool false,.bool false,.bool false,.bool false,.bool false,.bool false,.bool false,.bool false,.bool false]
theorem ac_:CO 193 [.str Rq] (.ret (.tup [.agg Ik,.bool true])):=GR VN (lf:=3000) (n:=4) (ans:= []) .nil (by kernel_rfl)
theorem ag9 (a:List AV) (c:Nat) (e:(chk .bool (ζ (ε (0+((δ (c:Int))*1)) a) .dead))=true) (b:(decide (((0:Nat):Int)≤(c:Int)))=true) (d:(decide ((c:Int)<((256:Nat):Int)))=true):CO 212 [.pp a 0,.int .u8 (c:Int)] (.ret (.bool (Xkc (ζ (ε (0+((δ (c:Int))*1)) a) .dead)))):=pK [] 0 0 (.c e (.c b (.c d .nil))) (.nil)
theorem am_ {nt:Nat} (f:16≤nt) (s:List UInt8) (a:List AV) (b:Bool) (d:lit true (!b)=true) (c:(decide (((0:Nat):Int)<(((η s):Nat):Int)))=true) (e:lit true (decide (((0:Nat):Int)<(((η s):Nat):Int)))=true) (g:CO 212 [.pp a 0,.int .u8 ((Φ (Xqm s 0 0):Nat):Int)] (.ret (.bool b))):ψ nt f194 ⟨[(0,.str s),(1,.pp a 0)],[],.dead,[]⟩ (.exit 0) ⟨[(0,.str s)],[],.dead,[]⟩:=pJ 194 [] 2 3 (.c d (.k 1 c (.c e .nil))) (.c g .nil) f
theorem ana {nt:Nat} (h:16≤nt) (s:List UInt8) (a:List AV) (b:Bool) (e:(decide (((1:Nat):Int)≤(((η s):Nat):Int)))=true) (c:(decide ((((η s):Nat):Int)≤(((η s):Nat):Int)))=true) (g:lit false (!b)=true) (d:(decide (((0:Nat):Int)<(((η s):Nat):Int)))=true) (f:lit true (decide (((0:Nat):Int)<(((η s):Nat):Int)))=true) (i:CO 212 [.pp a 0,.int .u8 ((Φ (Xqm s 0 0):Nat):Int)] (.ret (.bool b))):ψ nt f194 ⟨[(0,.str s),(1,.pp a 0)],[],.dead,[]⟩ (.normal) ⟨[(0,.str (ε 1 (ν (δ (((η s):Nat):Int)) s))),(1,.pp a 0)],[],.dead,[]⟩:=pJ 194 [] 2 1 (.k 1 e (.c c (.c g (.k 1 d (.c f .nil))))) (.c i .nil) h
theorem anb {nt:Nat} (c:16≤nt) (s:List UInt8) (d:List AV) (b:Bool) (a:lit false (decide (((0:Nat):Int)<(((η s):Nat):Int)))=true):ψ nt f194 ⟨[(0,.str s),(1,.pp d 0)],[],.dead,[]⟩ (.exit 0) ⟨[(0,.str s)],[],.dead,[]⟩:=pJ 194 [] 1 0 (.c a .nil) (.nil) c
theorem alx (s r:List UInt8) (a:List AV) (b:aG prog ap [] 16 (.block 0 (.loop (af 0 (ah f194)))) ⟨[(0,.str s),(1,.pp a 0),(4,.str []),(7,.dead),(12,.dead)],[],.dead,[]⟩ (.normal) ⟨[(0,.str r)],[],.dead,[]⟩):CO 194 [.str s,.pp a 0] (.ret (.str r)):=pK [0] 0 0 .nil (.l b .nil)
theorem anc {nt:Nat} (g:22≤nt) (s:List UInt8) (a:List AV) (b:Bool) (e:lit true (!b)=true) (c:(decide (((0:Nat):Int)≤(γ .i64 ((((η s):Nat):Int) - ((1:Nat):Int)))))=true) (f:(decide ((γ .i64 ((((η s):Nat):Int) - ((1:Nat):Int)))<(((η s):Nat):Int)))=true) (d:lit true (decide (((0:Nat):Int)<(((η s):Nat):Int)))=true) (h:CO 212 [.pp a 0,.int .u8 ((Φ (Xqm s (δ (γ .i64 ((((η s):Nat):Int) - ((1:Nat):Int)))) 0):Nat):Int)] (.ret (.bool b))):ψ nt f197 ⟨[(0,.str s),(1,.pp a 0)],[],.dead,[]⟩ (.exit 0) ⟨[(0,.str s)],[],.dead,[]⟩:=pJ 197 [] 2 3 (.c e (.c c (.c f (.c d .nil)))) (.c h .nil) g
theorem ane {nt:Nat} (h:22≤nt) (s:List UInt8) (a:List AV) (b:Bool) (c:(decide (((0:Nat):Int)≤(γ .i64 ((((η s):Nat):Int) - ((1:Nat):Int)))))=true) (d:(decide ((γ .i64 ((((η s):Nat):Int) - ((1:Nat):Int)))≤(((η s):Nat):Int)))=true) (g:lit false (!b)=true) (e:(decide ((γ .i64 ((((η s):Nat):Int) - ((1:Nat):Int)))<(((η s):Nat):Int)))=true) (f:lit true (decide (((0:Nat):Int)<(((η s):Nat):Int)))=true) (i:CO 212 [.pp a 0,.int .u8 ((Φ (Xqm s (δ (γ .i64 ((((η s):Nat):Int) - ((1:Nat):Int)))) 0):Nat):Int)] (.ret (.bool b))):ψ nt f197 ⟨[(0,.str s),(1,.pp a 0)],[],.dead,[]⟩ (.normal) ⟨[(0,.str (ε 0 (ν (δ (γ .i64 ((((η s):Nat):Int) - ((1:Nat):Int)))) s))),(1,.pp a 0)],[],.dead,[]⟩:=pJ 197 [] 2 1 (.k 1 c (.c d (.c g (.c c (.c e (.c f .nil)))))) (.c i .nil) h
theorem anf {nt:Nat} (c:22≤nt) (s:List UInt8) (d:List AV) (b:Bool) (a:lit false (decide (((0:Nat):Int)<(((η s):Nat):Int)))=true):ψ nt f197 ⟨[(0,.str s),(1,.pp d 0)],[],.dead,[]⟩ (.exit 0) ⟨[(0,.str s)],[],.dead,[]⟩:=pJ 197 [] 1 0 (.c a .nil) (.nil) c
theorem alA (s r:List UInt8) (a:List AV) (b:aG prog ap [] 22 (.block 0 (.loop (af 0 (ah f197)))) ⟨[(0,.str s),(1,.pp a 0),(4,.str []),(7,.dead),(15,.dead)],[],.dead,[]⟩ (.normal) ⟨[(0,.str r)],[],.dead,[]⟩):CO 197 [.str s,.pp a 0] (.ret (.str r)):=pK [0] 0 0 .nil (.l b .nil)
def ac8:List Bool:= [false,false,false,false,false,false,false,false,false,false,false,false,false,false,false,false,false,false,false,false,false,false,false,false,false,false,false,false,false,false,false,false,false,false,false,false,false,false,false,false,false,false,false,false,false,false,false,false,true,true,true,true,true,true,true,true,true,true,false,false,false,false,false,false,false,false,false,false,false,false,false,false,false,false,false,false,false,false,false,false,false,false,false,false,false,false,false,false,false,false,false,false,false,false,false,true,false,true,true,true,true,true,true,true,true,true,true,true,true,true,true,true,true,true,true,true,true,true,true,true,true,true,true,false,false,false,false,false,false,false,false,false,false,false,false,false,false,false,false,false,false,false,false,false,false,false,false,false,false,false,false,false,false,false,false,false,false,false,false,false,false,false,false,false,false,false,false,false,false,false,false,false,false,false,false,false,false,false,false,false,false,false,false,false,false,false,false,false,false,false,false,false,false,false,false,false,false,false,false,false,false,false,false,false,false,false,false,false,false,false,false,false,false,false,false,false,false,false,false,false,false,false,false,false,false,false,false,false,false,false,false,false,false,false,false,false,false,false,false,false,false,false,false,false,false,false,false,false,false,false,false,false,false,false,false,false]
theorem ac9:Ik=ac8.map AV.bool:=rfl
def inN (c:Nat):Bool:=(decide (97≤c) && decide (c≤122))||(decide (48≤c) && decide (c≤57))||decide (c=95)
def iq (c:UInt8):Bool:=inN c.toNat
theorem Yw:∀ i:Fin 256,ac8.getD i.val false=inN i.val:=by decide
theorem UX (c:UInt8):CO 212 [.pp Ik 0,.int .u8 (c.toNat:Int)] (.ret (.bool (iq c))):=by
 have b:c.toNat<256:=Xvg c;have e:ac8.length=256:=by decide
 have d:ζ (ε c.toNat Ik) .dead= .bool (iq c):=by
  have a:=Yw ⟨c.toNat,b⟩;simp only at a;rw [ac9,← List.map_drop,Xxp (by omega),Xqh,Xjd];rw [ο,ξ (by omega)] at a;unfold iq;rw [← a];rfl
 have h:=ag9 Ik c.toNat;rw [aB,Xqf,φ,d] at h;exact h rfl (by rw [dw];exact Yq0 (by omega)) (by rw [aW];exact Yq0 b)
def ak5 (s:List UInt8):St:=⟨[(0,.str s),(1,.pp Ik 0)],[],.dead,[]⟩
def acF (s:List UInt8):St:=⟨[(0,.str s)],[],.dead,[]⟩
theorem abM {nt:Nat} (a:16≤nt):∀ (s:List UInt8),s.length<2^40→az prog ap [] nt (af 0 (ah f194)) (fun _=> .exit 0) ak5 acF s (s.dropWhile iq):=by
 intro s
 induction s with
 |nil=>exact fun _=> .done (anb a [] Ik true rfl)
 | cons c s ih=>
  intro f;simp only [μ] at f;rw [Xxv];have b:=UX c;cases d:iq c with
  |true=>
   rw [d] at b;refine .next ?_ (by simpa using ih (by omega))
   have h:=ana a (c::s) Ik true;have e:ε 1 (ν (s.length+1) (c::s))=s:=by simp
   simp only [μ,Xjw] at h;simp (disch:=first|omega|(simp [au,ay]<;>omega)) only [dw,a_,Xwh,dH,Xjj,aW,bu,aB,e] at h;apply h<;>first|exact True.intro|omega|assumption|exact rfl
  |false=>
   rw [d] at b;refine .done ?_;have h:=am_ a (c::s) Ik false;simp only [μ,Xjw] at h;simp (disch:=first|omega|(simp [au,ay]<;>omega)) only [Xjj,bu,aW,a_] at h;apply h<;>first|exact True.intro|omega|assumption|exact rfl
def XR (s:List UInt8):List UInt8:=(s.reverse.dropWhile iq).reverse
theorem XT (s:List UInt8) (c:UInt8):XR (s++ [c])=if iq c=true then XR s else s++ [c]:=by
 unfold XR;rw [List.reverse_append];simp only [List.reverse_cons,List.reverse_nil,Xqk,Xxe,Xxv];by_cases h:iq c=true
 ·simp [h]
 ·simp [h]
theorem abS {nt:Nat} (d:22≤nt):∀ (k:Nat) (s:List UInt8),s.length=k→k<2^40→az prog ap [] nt (af 0 (ah f197)) (fun _=> .exit 0) ak5 acF s (XR s):=by
 intro k
 induction k with
 |zero=>
  intro s hs _;have:s= []:=Xxh hs;subst this;exact .done (anf d [] Ik true rfl)
 | succ k ih=>
  intro s hs j;rcases List.eq_nil_or_concat s with rfl|⟨s',c,rfl⟩
  ·simp at hs
  ·rw [List.concat_eq_append] at hs ⊢;have b:s'.length=k:=by simpa using hs
   rw [XT];have e:=UX c;have g:(s'++ [c]).getD s'.length 0=c:=by simp
   have f:s'.length+1 - 1=s'.length:=rfl;have a:ν s'.length (s'++ [c])=s':=by simp
   cases i:iq c with
   |true=>
    rw [i] at e;rw [if_pos rfl];refine .next ?_ (ih s' b (by omega))
    have h:=ane d (s'++ [c]) Ik true;simp (disch:=first|omega|(simp [au,ay]<;>omega)) only [θ,μ,Xqb,Xqf,jT,f,dw,a_,Xwh,dH,Xjj,aW,bu,aB,g,a,Xj6] at h;apply h<;>first|exact True.intro|omega|assumption|exact rfl
   |false=>
    rw [i] at e;rw [if_neg (by simp)];refine .done ?_;have h:=anc d (s'++ [c]) Ik false;simp (disch:=first|omega|(simp [au,ay]<;>omega)) only [Xjj,bu,θ,μ,Xqb,Xqf,jT,f,dw,a_,aW,aB,g] at h;apply h<;>first|exact True.intro|omega|assumption|exact rfl
theorem abT (s u v:List UInt8) (a:lit true (s== [])=true):CO 164 [.str s,.str Rq] (.ret (.str s)):=pK [] 2 3 (.k 1 a .nil) (.nil)
theorem abU (s u v:List UInt8) (c:lit false (s== [])=true) (a:CO 193 [.str Rq] (.ret (.tup [.agg Ik,.bool true]))) (b:CO 197 [.str s,.pp Ik 0] (.ret (.str u))) (d:CO 194 [.str u,.pp Ik 0] (.ret (.str v))):CO 164 [.str s,.str Rq] (.ret (.str v)):=pK [] 5 16 (.k 5 c .nil) (.c d (.c b (.c a .nil)))
theorem ZO (s v:List UInt8) (a:lit true (s== [])=true):CO 122 [.str s] (.ret (.bool false)):=pK [] 4 15 (.k 3 a .nil) (.nil)
theorem ZP (s v:List UInt8) (a:lit true (decide (((20:Nat):Int)<(((η s):Nat):Int)))=true) (b:lit false (s== [])=true):CO 122 [.str s] (.ret (.bool false)):=pK [] 4 14 (.k 2 a (.c b .nil)) (.nil)
theorem ZQ (s v:List UInt8) (d:lit true (decide (((Φ (Xqm s 0 0):Nat):Int)<((97:Nat):Int)))=true) (a:(decide (((0:Nat):Int)<(((η s):Nat):Int)))=true) (c:lit false (decide (((20:Nat):Int)<(((η s):Nat):Int)))=true) (b:lit false (s== [])=true):CO 122 [.str s] (.ret (.bool false)):=pK [] 4 12 (.k 1 d (.k 1 a (.c c (.c b .nil)))) (.nil)
theorem ZR (s v:List UInt8) (e:lit true (decide (((122:Nat):Int)<((Φ (Xqm s 0 0):Nat):Int)))=true) (a:(decide (((0:Nat):Int)<(((η s):Nat):Int)))=true) (d:lit false (decide (((Φ (Xqm s 0 0):Nat):Int)<((97:Nat):Int)))=true) (b:lit false (decide (((20:Nat):Int)<(((η s):Nat):Int)))=true) (c:lit false (s== [])=true):CO 122 [.str s] (.ret (.bool false)):=pK [] 4 8 (.c e (.k 1 a (.c d (.k 1 a (.c b (.c c .nil)))))) (.nil)
theorem ZT (s v:List UInt8) (f:lit false (decide (((122:Nat):Int)<((Φ (Xqm s 0 0):Nat):Int)))=true) (a:(decide (((0:Nat):Int)<(((η s):Nat):Int)))=true) (d:lit false (decide (((Φ (Xqm s 0 0):Nat):Int)<((97:Nat):Int)))=true) (b:lit false (decide (((20:Nat):Int)<(((η s):Nat):Int)))=true) (c:lit false (s== [])=true) (e:CO 164 [.str s,.str Rq] (.ret (.str v))):CO 122 [.str s] (.ret (.bool (v== []))):=pK [] 4 0 (.c f (.k 1 a (.c d (.k 1 a (.c b (.c c .nil)))))) (.c e .nil)
theorem akv {nt:Nat} (f:50≤nt) (s:List UInt8) (k:Nat) (g:lit true (!(((Φ (Xqm s (δ (k:Int)) 0):Nat):Int)==((95:Nat):Int)))=true) (b:lit true (decide (((Φ (Xqm s (δ (k:Int)) 0):Nat):Int)<((48:Nat):Int)))=true) (e:lit true (decide (((Φ (Xqm s (δ (k:Int)) 0):Nat):Int)<((97:Nat):Int)))=true) (c:(decide (((0:Nat):Int)≤(k:Int)))=true) (d:(decide ((k:Int)<(((η s):Nat):Int)))=true) (a:lit true (decide ((k:Int)<(((η s):Nat):Int)))=true):ψ nt f84 ⟨[(0,.str s),(3,ω (k:Int))],[],.dead,[]⟩ (.ret) ⟨[(2,.bool false)],[],.dead,[]⟩:=pJ 84 [] 6 63 (.c g (.k 1 b (.k 1 e (.c c (.c d (.c a .nil)))))) (.nil) f
theorem akw {nt:Nat} (f:50≤nt) (s:List UInt8) (k:Nat) (g:lit false (!(((Φ (Xqm s (δ (k:Int)) 0):Nat):Int)==((95:Nat):Int)))=true) (b:lit true (decide (((Φ (Xqm s (δ (k:Int)) 0):Nat):Int)<((48:Nat):Int)))=true) (e:lit true (decide (((Φ (Xqm s (δ (k:Int)) 0):Nat):Int)<((97:Nat):Int)))=true) (c:(decide (((0:Nat):Int)≤(k:Int)))=true) (d:(decide ((k:Int)<(((η s):Nat):Int)))=true) (a:lit true (decide ((k:Int)<(((η s):Nat):Int)))=true):ψ nt f84 ⟨[(0,.str s),(3,ω (k:Int))],[],.dead,[]⟩ (.normal) ⟨[(0,.str s),(3,ω (γ .i64 ((k:Int)+((1:Nat):Int))))],[],.dead,[]⟩:=pJ 84 [] 6 31 (.c g (.k 1 b (.k 1 e (.c c (.c d (.c a .nil)))))) (.nil) f
theorem akx {nt:Nat} (g:50≤nt) (s:List UInt8) (k:Nat) (h:lit true (!(((Φ (Xqm s (δ (k:Int)) 0):Nat):Int)==((95:Nat):Int)))=true) (c:lit true (decide (((57:Nat):Int)<((Φ (Xqm s (δ (k:Int)) 0):Nat):Int)))=true) (f:lit false (decide (((Φ (Xqm s (δ (k:Int)) 0):Nat):Int)<((48:Nat):Int)))=true) (d:lit true (decide (((Φ (Xqm s (δ (k:Int)) 0):Nat):Int)<((97:Nat):Int)))=true) (e:(decide (((0:Nat):Int)≤(k:Int)))=true) (a:(decide ((k:Int)<(((η s):Nat):Int)))=true) (b:lit true (decide ((k:Int)<(((η s):Nat):Int)))=true):ψ nt f84 ⟨[(0,.str s),(3,ω (k:Int))],[],.dead,[]⟩ (.ret) ⟨[(2,.bool false)],[],.dead,[]⟩:=pJ 84 [] 6 55 (.c h (.c c (.c f (.k 1 d (.c e (.c a (.c b .nil))))))) (.nil) g
theorem aky {nt:Nat} (g:50≤nt) (s:List UInt8) (k:Nat) (h:lit false (!(((Φ (Xqm s (δ (k:Int)) 0):Nat):Int)==((95:Nat):Int)))=true) (c:lit true (decide (((57:Nat):Int)<((Φ (Xqm s (δ (k:Int)) 0):Nat):Int)))=true) (f:lit false (decide (((Φ (Xqm s (δ (k:Int)) 0):Nat):Int)<((48:Nat):Int)))=true) (d:lit true (decide (((Φ (Xqm s (δ (k:Int)) 0):Nat):Int)<((97:Nat):Int)))=true) (e:(decide (((0:Nat):Int)≤(k:Int)))=true) (a:(decide ((k:Int)<(((η s):Nat):Int)))=true) (b:lit true (decide ((k:Int)<(((η s):Nat):Int)))=true):ψ nt f84 ⟨[(0,.str s),(3,ω (k:Int))],[],.dead,[]⟩ (.normal) ⟨[(0,.str s),(3,ω (γ .i64 ((k:Int)+((1:Nat):Int))))],[],.dead,[]⟩:=pJ 84 [] 6 23 (.c h (.c c (.c f (.k 1 d (.c e (.c a (.c b .nil))))))) (.nil) g
theorem akz {nt:Nat} (f:50≤nt) (s:List UInt8) (k:Nat) (g:lit false (decide (((57:Nat):Int)<((Φ (Xqm s (δ (k:Int)) 0):Nat):Int)))=true) (b:lit false (decide (((Φ (Xqm s (δ (k:Int)) 0):Nat):Int)<((48:Nat):Int)))=true) (e:lit true (decide (((Φ (Xqm s (δ (k:Int)) 0):Nat):Int)<((97:Nat):Int)))=true) (c:(decide (((0:Nat):Int)≤(k:Int)))=true) (d:(decide ((k:Int)<(((η s):Nat):Int)))=true) (a:lit true (decide ((k:Int)<(((η s):Nat):Int)))=true):ψ nt f84 ⟨[(0,.str s),(3,ω (k:Int))],[],.dead,[]⟩ (.normal) ⟨[(0,.str s),(3,ω (γ .i64 ((k:Int)+((1:Nat):Int))))],[],.dead,[]⟩:=pJ 84 [] 6 7 (.k 1 g (.c b (.k 1 e (.c c (.c d (.c a .nil)))))) (.nil) f
theorem akA {nt:Nat} (g:50≤nt) (s:List UInt8) (k:Nat) (h:lit true (!(((Φ (Xqm s (δ (k:Int)) 0):Nat):Int)==((95:Nat):Int)))=true) (c:lit true (decide (((Φ (Xqm s (δ (k:Int)) 0):Nat):Int)<((48:Nat):Int)))=true) (f:lit true (decide (((122:Nat):Int)<((Φ (Xqm s (δ (k:Int)) 0):Nat):Int)))=true) (d:lit false (decide (((Φ (Xqm s (δ (k:Int)) 0):Nat):Int)<((97:Nat):Int)))=true) (e:(decide (((0:Nat):Int)≤(k:Int)))=true) (a:(decide ((k:Int)<(((η s):Nat):Int)))=true) (b:lit true (decide ((k:Int)<(((η s):Nat):Int)))=true):ψ nt f84 ⟨[(0,.str s),(3,ω (k:Int))],[],.dead,[]⟩ (.ret) ⟨[(2,.bool false)],[],.dead,[]⟩:=pJ 84 [] 6 61 (.c h (.k 1 c (.c f (.c d (.c e (.c a (.c b .nil))))))) (.nil) g
theorem akB {nt:Nat} (g:50≤nt) (s:List UInt8) (k:Nat) (h:lit false (!(((Φ (Xqm s (δ (k:Int)) 0):Nat):Int)==((95:Nat):Int)))=true) (c:lit true (decide (((Φ (Xqm s (δ (k:Int)) 0):Nat):Int)<((48:Nat):Int)))=true) (f:lit true (decide (((122:Nat):Int)<((Φ (Xqm s (δ (k:Int)) 0):Nat):Int)))=true) (d:lit false (decide (((Φ (Xqm s (δ (k:Int)) 0):Nat):Int)<((97:Nat):Int)))=true) (e:(decide (((0:Nat):Int)≤(k:Int)))=true) (a:(decide ((k:Int)<(((η s):Nat):Int)))=true) (b:lit true (decide ((k:Int)<(((η s):Nat):Int)))=true):ψ nt f84 ⟨[(0,.str s),(3,ω (k:Int))],[],.dead,[]⟩ (.normal) ⟨[(0,.str s),(3,ω (γ .i64 ((k:Int)+((1:Nat):Int))))],[],.dead,[]⟩:=pJ 84 [] 6 29 (.c h (.k 1 c (.c f (.c d (.c e (.c a (.c b .nil))))))) (.nil) g
theorem akC {nt:Nat} (h:50≤nt) (s:List UInt8) (k:Nat) (i:lit true (!(((Φ (Xqm s (δ (k:Int)) 0):Nat):Int)==((95:Nat):Int)))=true) (d:lit true (decide (((57:Nat):Int)<((Φ (Xqm s (δ (k:Int)) 0):Nat):Int)))=true) (g:lit false (decide (((Φ (Xqm s (δ (k:Int)) 0):Nat):Int)<((48:Nat):Int)))=true) (e:lit true (decide (((122:Nat):Int)<((Φ (Xqm s (δ (k:Int)) 0):Nat):Int)))=true) (f:lit false (decide (((Φ (Xqm s (δ (k:Int)) 0):Nat):Int)<((97:Nat):Int)))=true) (a:(decide (((0:Nat):Int)≤(k:Int)))=true) (b:(decide ((k:Int)<(((η s):Nat):Int)))=true) (c:lit true (decide ((k:Int)<(((η s):Nat):Int)))=true):ψ nt f84 ⟨[(0,.str s),(3,ω (k:Int))],[],.dead,[]⟩ (.ret) ⟨[(2,.bool false)],[],.dead,[]⟩:=pJ 84 [] 6 53 (.c i (.c d (.c g (.c e (.c f (.c a (.c b (.c c .nil)))))))) (.nil) h
theorem akD {nt:Nat} (h:50≤nt) (s:List UInt8) (k:Nat) (i:lit false (!(((Φ (Xqm s (δ (k:Int)) 0):Nat):Int)==((95:Nat):Int)))=true) (d:lit true (decide (((57:Nat):Int)<((Φ (Xqm s (δ (k:Int)) 0):Nat):Int)))=true) (g:lit false (decide (((Φ (Xqm s (δ (k:Int)) 0):Nat):Int)<((48:Nat):Int)))=true) (e:lit true (decide (((122:Nat):Int)<((Φ (Xqm s (δ (k:Int)) 0):Nat):Int)))=true) (f:lit false (decide (((Φ (Xqm s (δ (k:Int)) 0):Nat):Int)<((97:Nat):Int)))=true) (a:(decide (((0:Nat):Int)≤(k:Int)))=true) (b:(decide ((k:Int)<(((η s):Nat):Int)))=true) (c:lit true (decide ((k:Int)<(((η s):Nat):Int)))=true):ψ nt f84 ⟨[(0,.str s),(3,ω (k:Int))],[],.dead,[]⟩ (.normal) ⟨[(0,.str s),(3,ω (γ .i64 ((k:Int)+((1:Nat):Int))))],[],.dead,[]⟩:=pJ 84 [] 6 21 (.c i (.c d (.c g (.c e (.c f (.c a (.c b (.c c .nil)))))))) (.nil) h
theorem akE {nt:Nat} (g:50≤nt) (s:List UInt8) (k:Nat) (h:lit false (decide (((57:Nat):Int)<((Φ (Xqm s (δ (k:Int)) 0):Nat):Int)))=true) (c:lit false (decide (((Φ (Xqm s (δ (k:Int)) 0):Nat):Int)<((48:Nat):Int)))=true) (f:lit true (decide (((122:Nat):Int)<((Φ (Xqm s (δ (k:Int)) 0):Nat):Int)))=true) (d:lit false (decide (((Φ (Xqm s (δ (k:Int)) 0):Nat):Int)<((97:Nat):Int)))=true) (e:(decide (((0:Nat):Int)≤(k:Int)))=true) (a:(decide ((k:Int)<(((η s):Nat):Int)))=true) (b:lit true (decide ((k:Int)<(((η s):Nat):Int)))=true):ψ nt f84 ⟨[(0,.str s),(3,ω (k:Int))],[],.dead,[]⟩ (.normal) ⟨[(0,.str s),(3,ω (γ .i64 ((k:Int)+((1:Nat):Int))))],[],.dead,[]⟩:=pJ 84 [] 6 5 (.k 1 h (.c c (.c f (.c d (.c e (.c a (.c b .nil))))))) (.nil) g
theorem aft {nt:Nat} (e:50≤nt) (s:List UInt8) (k:Nat) (f:lit false (decide (((122:Nat):Int)<((Φ (Xqm s (δ (k:Int)) 0):Nat):Int)))=true) (a:lit false (decide (((Φ (Xqm s (δ (k:Int)) 0):Nat):Int)<((97:Nat):Int)))=true) (d:(decide (((0:Nat):Int)≤(k:Int)))=true) (b:(decide ((k:Int)<(((η s):Nat):Int)))=true) (c:lit true (decide ((k:Int)<(((η s):Nat):Int)))=true):ψ nt f84 ⟨[(0,.str s),(3,ω (k:Int))],[],.dead,[]⟩ (.normal) ⟨[(0,.str s),(3,ω (γ .i64 ((k:Int)+((1:Nat):Int))))],[],.dead,[]⟩:=pJ 84 [] 5 1 (.k 2 f (.c a (.c d (.c b (.c c .nil))))) (.nil) e
theorem afu {nt:Nat} (a:50≤nt) (s:List UInt8) (k:Nat) (b:lit false (decide ((k:Int)<(((η s):Nat):Int)))=true):ψ nt f84 ⟨[(0,.str s),(3,ω (k:Int))],[],.dead,[]⟩ (.exit 0) ⟨[],[],.dead,[]⟩:=pJ 84 [] 1 0 (.c b .nil) (.nil) a
theorem afn (s:List UInt8) (a:lit true (decide ((((η s):Nat):Int)<((1:Nat):Int)))=true):CO 84 [.str s] (.ret (.bool false)):=pK [0] 4 15 (.k 3 a .nil) (.nil)
theorem afo (s:List UInt8) (b:lit true (decide (((20:Nat):Int)<(((η s):Nat):Int)))=true) (a:lit false (decide ((((η s):Nat):Int)<((1:Nat):Int)))=true):CO 84 [.str s] (.ret (.bool false)):=pK [0] 4 14 (.k 2 b (.c a .nil)) (.nil)
theorem afp (s:List UInt8) (d:lit true (decide (((Φ (Xqm s 0 0):Nat):Int)<((97:Nat):Int)))=true) (b:(decide (((0:Nat):Int)<(((η s):Nat):Int)))=true) (c:lit false (decide (((20:Nat):Int)<(((η s):Nat):Int)))=true) (a:lit false (decide ((((η s):Nat):Int)<((1:Nat):Int)))=true):CO 84 [.str s] (.ret (.bool false)):=pK [0] 4 12 (.k 1 d (.k 1 b (.c c (.c a .nil)))) (.nil)
theorem afq (s:List UInt8) (e:lit true (decide (((122:Nat):Int)<((Φ (Xqm s 0 0):Nat):Int)))=true) (a:(decide (((0:Nat):Int)<(((η s):Nat):Int)))=true) (d:lit false (decide (((Φ (Xqm s 0 0):Nat):Int)<((97:Nat):Int)))=true) (b:lit false (decide (((20:Nat):Int)<(((η s):Nat):Int)))=true) (c:lit false (decide ((((η s):Nat):Int)<((1:Nat):Int)))=true):CO 84 [.str s] (.ret (.bool false)):=pK [0] 4 8 (.c e (.k 1 a (.c d (.k 1 a (.c b (.c c .nil)))))) (.nil)
theorem afr (s:List UInt8) (f:lit false (decide (((122:Nat):Int)<((Φ (Xqm s 0 0):Nat):Int)))=true) (a:(decide (((0:Nat):Int)<(((η s):Nat):Int)))=true) (e:lit false (decide (((Φ (Xqm s 0 0):Nat):Int)<((97:Nat):Int)))=true) (b:lit false (decide (((20:Nat):Int)<(((η s):Nat):Int)))=true) (c:lit false (decide ((((η s):Nat):Int)<((1:Nat):Int)))=true) (d:aG prog ap [] 50 (.block 0 (.loop (af 0 (ah f84)))) ⟨[(0,.str s),(2,.bool false),(3,ω 0),(4,.dead),(22,.bool (decide (((122:Nat):Int)<((Φ (Xqm s 0 0):Nat):Int)))),(26,.dead),(49,.dead)],[],.dead,[]⟩ (.normal) ⟨[],[],.dead,[]⟩):CO 84 [.str s] (.ret (.bool true)):=pK [0] 4 0 (.c f (.k 1 a (.c e (.k 1 a (.c b (.c c .nil)))))) (.l d .nil)
theorem afs (s:List UInt8) (f:lit false (decide (((122:Nat):Int)<((Φ (Xqm s 0 0):Nat):Int)))=true) (a:(decide (((0:Nat):Int)<(((η s):Nat):Int)))=true) (e:lit false (decide (((Φ (Xqm s 0 0):Nat):Int)<((97:Nat):Int)))=true) (b:lit false (decide (((20:Nat):Int)<(((η s):Nat):Int)))=true) (c:lit false (decide ((((η s):Nat):Int)<((1:Nat):Int)))=true) (d:aG prog ap [] 50 (.block 0 (.loop (af 0 (ah f84)))) ⟨[(0,.str s),(2,.bool false),(3,ω 0),(4,.dead),(22,.bool (decide (((122:Nat):Int)<((Φ (Xqm s 0 0):Nat):Int)))),(26,.dead),(49,.dead)],[],.dead,[]⟩ (.ret) ⟨[(2,.bool false)],[],.dead,[]⟩):CO 84 [.str s] (.ret (.bool false)):=pK [0] 4 0 (.c f (.k 1 a (.c e (.k 1 a (.c b (.c c .nil)))))) (.l d .nil)
def uz (s:List UInt8):Bool:= !(s== []) && decide (s.length≤20) && decide (97≤(s.getD 0 0).toNat) && decide ((s.getD 0 0).toNat≤122) && s.all iq
theorem IB {p:UInt8→Bool}:∀ {l:List UInt8},l.dropWhile p= []↔∀ x ∈ l,p x=true
 | []=>by simp
 |c::l=>by
  rw [Xxv];cases h:p c with
  |true=>simp [h,IB (l:=l)]
  |false=>simp [h]
theorem XW {s:List UInt8}:(XR s).dropWhile iq= []↔s.all iq=true:=by
 unfold XR;rw [Xzb];constructor
 ·intro h;have d:∀ x ∈ (s.reverse.dropWhile iq),iq x=true:=by
   intro x a;exact IB.1 h x (by simpa using a)
  have f:s.reverse.dropWhile iq= []:=by
   cases hd:s.reverse.dropWhile iq with
   |nil=>rfl
   | cons y r=>
    exfalso;have b:=d y (by rw [hd];simp);have e:∀ (l:List UInt8),l.dropWhile iq=y::r→iq y=false:=by
     intro l
     induction l with
     |nil=>intro h;simp at h
     | cons z l ih=>
      intro h;rw [Xxv] at h;split at h
      ·exact ih h
      ·rename_i c;cases h;simpa using c
    rw [e _ hd] at b;cases b
  intro x a;exact IB.1 f x (by simpa using a)
 ·intro h;have:s.reverse.dropWhile iq= []:=IB.2 fun x a=>h x (by simpa using a)
  rw [this];rfl
theorem agi (s:List UInt8) (hs:s.length<2^40):CO 194 [.str s,.pp Ik 0] (.ret (.str (s.dropWhile iq))):=
 alx s _ Ik (az.blk (fun nt a=>abM a s hs) (by simp) rfl (aH.of ⟨rfl,rfl,trivial⟩) (aH.of ⟨rfl,trivial⟩))
theorem agj (s:List UInt8) (hs:s.length<2^40):CO 197 [.str s,.pp Ik 0] (.ret (.str (XR s))):=
 alA s _ Ik (az.blk (fun nt a=>abS a _ s rfl hs) (by simp) rfl (aH.of ⟨rfl,rfl,trivial⟩) (aH.of ⟨rfl,trivial⟩))
theorem abR (s:List UInt8):(XR s).length≤s.length:=by
 unfold XR;rw [List.length_reverse];have:=(List.dropWhile_sublist iq (l:=s.reverse)).length_le;simpa using this
theorem abV (s:List UInt8) (hs:s.length<2^40):CO 164 [.str s,.str Rq] (.ret (.str ((XR s).dropWhile iq))):=by
 by_cases h:s= []
 ·subst h;exact abT [] [] [] rfl
 ·have a:=abR s;exact abU s _ _ (by simp [lit,h]) ac_ (agj s hs) (agi _ (by omega))
theorem lT (s:List UInt8):CO 122 [.str s] (.ret (.bool (uz s))):=by
 unfold uz;by_cases h0:s= []
 ·subst h0;exact ZO [] [] rfl
 ·have a:(s== [])=false:=by simpa using h0
  have b:0<s.length:=by cases s with|nil=>exact absurd rfl h0|cons _ _=>simp
  rw [a];by_cases h1:s.length≤20
  ·have c:lit false (decide (((20:Nat):Int)<(s.length:Int)))=true:=by rw [aW];simp [lit,h1]
   have cl:decide (((0:Nat):Int)<(s.length:Int))=true:=by rw [aW];exact Yq0 b
   rw [Yq0 h1];by_cases h2:97≤(s.getD 0 0).toNat
   ·rw [Yq0 h2];have d:lit false (decide (((s.getD 0 0).toNat:Int)<((97:Nat):Int)))=true:=by rw [aW];simp only [lit,Xqo];exact Yq1 (by omega)
    by_cases h3:(s.getD 0 0).toNat≤122
    ·rw [Yq0 h3];have f:lit false (decide (((122:Nat):Int)<((s.getD 0 0).toNat:Int)))=true:=by rw [aW];simp only [lit,Xqo];exact Yq1 (by omega)
     have h:=ZT s _ f cl d c (by rw [a];rfl) (abV s (by omega));have e:((XR s).dropWhile iq== [])=s.all iq:=by
      rw [Xx2,← XW];simp
     rw [e] at h;exact h
    ·rw [Yq1 h3];exact ZR s [] (by rw [aW];exact Yq0 (by omega)) cl d c (by rw [a];rfl)
   ·rw [Yq1 h2];exact ZQ s [] (by rw [aW];exact Yq0 (by omega)) cl c (by rw [a];rfl)
  ·rw [Yq1 h1];exact ZP s [] (by rw [aW];exact Yq0 (by omega)) (by rw [a];rfl)
def Xf (s:List UInt8) (k:Nat):St:=⟨[(0,.str s),(3,ω (k:Int))],[],.dead,[]⟩
def Xe:Bool→St
 |true=> ⟨[],[],.dead,[]⟩
 |false=> ⟨[(2,.bool false)],[],.dead,[]⟩
def rnE:Bool→bG
 |true=> .exit 0
 |false=> .ret
theorem Xg {nt:Nat} (d:50≤nt) (s:List UInt8) (k c:Nat) (u:k<s.length) (hs:s.length<2^40) (a:(s.getD k 0).toNat=c):
  (inN c=true→ψ nt f84 (Xf s k) .normal (Xf s (k+1)))∧(inN c=false→ψ nt f84 (Xf s k) .ret (Xe false)):=by
 have f:inN c=true↔((97≤c∧c≤122)∨(48≤c∧c≤57))∨c=95:=by unfold inN;simp
 unfold Xf Xe;have i:=akv d s k;simp (disch:=first|omega|(simp [au,ay]<;>omega)) only [aB,a,jG,bu,dQ,eG,aW,a_,dw] at i;have p:=akw d s k;simp (disch:=first|omega|(simp [au,ay]<;>omega)) only [aB,a,jG,dH,dQ,BI,a_,aW,bu,dw,bJ,aO] at p;have o:=akx d s k;simp (disch:=first|omega|(simp [au,ay]<;>omega)) only [aB,a,jG,bu,dQ,eG,aW,a_,dH,dw] at o;have t:=aky d s k;simp (disch:=first|omega|(simp [au,ay]<;>omega)) only [aB,a,jG,dH,dQ,BI,a_,aW,bu,eG,dw,bJ,aO] at t;have n:=akz d s k;simp (disch:=first|omega|(simp [au,ay]<;>omega)) only [aB,a,aW,dH,dQ,eG,bu,a_,dw,bJ,aO] at n;have j:=akA d s k;simp (disch:=first|omega|(simp [au,ay]<;>omega)) only [aB,a,jG,bu,dQ,eG,aW,a_,dH,dw] at j;have l:=akB d s k;simp (disch:=first|omega|(simp [au,ay]<;>omega)) only [aB,a,jG,dH,dQ,BI,a_,aW,bu,eG,dw,bJ,aO] at l;have m:=akC d s k;simp (disch:=first|omega|(simp [au,ay]<;>omega)) only [aB,a,jG,bu,dQ,eG,aW,a_,dH,dw] at m;have r:=akD d s k;simp (disch:=first|omega|(simp [au,ay]<;>omega)) only [aB,a,jG,dH,dQ,BI,a_,aW,bu,eG,dw,bJ,aO] at r;have q:=akE d s k;simp (disch:=first|omega|(simp [au,ay]<;>omega)) only [aB,a,aW,dH,dQ,eG,bu,a_,dw,bJ,aO] at q;have e:=aft d s k;simp (disch:=first|omega|(simp [au,ay]<;>omega)) only [aB,a,aW,dH,dQ,eG,dw,a_,bu,bJ,aO] at e;constructor
 ·intro g;have b:=f.1 g;by_cases h1:c<97<;>by_cases h2:122<c<;>by_cases h3:c<48<;>by_cases h4:57<c<;>by_cases h5:c=95<;>first
   |(exfalso;omega)
   |(apply p<;>omega)
   |(apply t<;>omega)
   |(apply n<;>omega)
   |(apply l<;>omega)
   |(apply r<;>omega)
   |(apply q<;>omega)
   |(apply e<;>omega)
 ·intro g;have b:¬ (((97≤c∧c≤122)∨(48≤c∧c≤57))∨c=95):=by rw [← f,g];simp
  have x:c ≠ 95:=fun h=>b (.inr h)
  have w:c<97∨122<c:=by
   rcases Xq5 c 97 with h|h
   ·exact .inl h
   ·rcases Xq5 122 c with h'|h'
    ·exact .inr h'
    ·exact absurd (.inl (.inl ⟨h,h'⟩)) b
  have v:c<48∨57<c:=by
   rcases Xq5 c 48 with h|h
   ·exact .inl h
   ·rcases Xq5 57 c with h'|h'
    ·exact .inr h'
    ·exact absurd (.inl (.inr ⟨h,h'⟩)) b
  clear b;by_cases h1:c<97<;>by_cases h2:122<c<;>by_cases h3:c<48<;>by_cases h4:57<c<;>by_cases h5:c=95<;>first
   |(exfalso;omega)
   |(apply i<;>omega)
   |(apply o<;>omega)
   |(apply j<;>omega)
   |(apply m<;>omega)
theorem aaS {nt:Nat} (a:50≤nt) (s:List UInt8) (hs:s.length<2^40):∀ (r p:List UInt8),p++r=s→az prog ap [] nt (af 0 (ah f84)) rnE (Xf s) Xe p.length (r.all iq):=by
 intro r
 induction r with
 |nil=>
  intro p h;have hp:p.length=s.length:=by rw [← h];simp
  rw [hp];exact .done (afu a s _ (by rw [aW];simp [lit]))
 | cons c r ih=>
  intro p h;have i:p.length+(r.length+1)=s.length:=by rw [← h];simp
  have g:s.getD p.length 0=c:=by rw [← h];exact QV rfl
  obtain ⟨d,f⟩:=Xg a s p.length c.toNat (by omega) hs (by rw [g]);rw [List.all_cons];have e:iq c=inN c.toNat:=rfl;cases b:iq c with
  |true=>
   have hnext:=ih (p++ [c]) (by simp [h]);rw [θ,σ] at hnext;rw [Bool.true_and];exact .next (d (e ▸ b)) hnext
  |false=>exact .done (f (e ▸ b))
theorem Xh (s:List UInt8):CO 84 [.str s] (.ret (.bool (uz s))):=by
 unfold uz;by_cases h0:s= []
 ·subst h0;exact afn [] rfl
 ·have d:(s== [])=false:=by simpa using h0
  have c:0<s.length:=by cases s with|nil=>exact absurd rfl h0|cons _ _=>simp
  have a:lit false (decide ((s.length:Int)<((1:Nat):Int)))=true:=by rw [aW];simp only [lit,Xqo];exact Yq1 (by omega)
  rw [d];by_cases h1:s.length≤20
  ·have b:lit false (decide (((20:Nat):Int)<(s.length:Int)))=true:=by rw [aW];simp [lit,h1]
   have cl:decide (((0:Nat):Int)<(s.length:Int))=true:=by rw [aW];exact Yq0 c
   rw [Yq0 h1];by_cases h2:97≤(s.getD 0 0).toNat
   ·rw [Yq0 h2];have e:lit false (decide (((s.getD 0 0).toNat:Int)<((97:Nat):Int)))=true:=by rw [aW];simp only [lit,Xqo];exact Yq1 (by omega)
    by_cases h3:(s.getD 0 0).toNat≤122
    ·rw [Yq0 h3];have f:lit false (decide (((122:Nat):Int)<((s.getD 0 0).toNat:Int)))=true:=by rw [aW];simp only [lit,Xqo];exact Yq1 (by omega)
     have hloop:=fun nt (hn:50≤nt)=>aaS hn s (by omega) s [] rfl
     cases g:s.all iq with
     |true=>
      rw [g] at hloop;have h:=afr s f cl e b a;exact h (az.blk hloop (by simp [rnE]) rfl (aH.of ⟨rfl,rfl,trivial⟩) (aH.of trivial))
     |false=>
      rw [g] at hloop;have h:=afs s f cl e b a;exact h (az.blk hloop (by simp [rnE]) rfl (aH.of ⟨rfl,rfl,trivial⟩) (aH.of ⟨rfl,trivial⟩))
    ·rw [Yq1 h3];exact afq s (by rw [aW];exact Yq0 (by omega)) cl e b a
   ·rw [Yq1 h2];exact afp s (by rw [aW];exact Yq0 (by omega)) cl b a
  ·rw [Yq1 h1];exact afo s (by rw [aW];exact Yq0 (by omega)) a
def jL:List AV:= [.str [],ω 0,.bool false,.bool false,.bool false,.str [36],ω 0,.bool true,.bool false,.bool false,.str [],ω 0,.bool true,.bool false,.bool false,.str [],ω 0,.bool true,.bool false,.bool false,.str [],ω 0,.bool true,.bool false,.bool false,.str [102,97,99,116,46],ω 0,.bool false,.bool true,.bool false,.str [111,119,110,46],ω 0,.bool false,.bool true,.bool false,.str [112,114,105,111,114,46],ω 0,.bool false,.bool true,.bool false,.str [115,112,111,117,115,101,46],ω 0,.bool false,.bool true,.bool false,.str [97,100,100],ω 2,.bool false,.bool false,.bool false,.str [115,117,98],ω 2,.bool false,.bool false,.bool false,.str [109,117,108],ω 2,.bool false,.bool false,.bool false,.str [100,105,118],ω 2,.bool false,.bool false,.bool false,.str [109,105,110],ω 2,.bool false,.bool false,.bool false,.str [109,97,120],ω 2,.bool false,.bool false,.bool false,.str [105,102],ω 3,.bool false,.bool false,.bool false,.str [108,101,115,115],ω 2,.bool false,.bool false,.bool false,.str [101,113,117,97,108],ω 2,.bool false,.bool false,.bool false,.str [97,110,100],ω 2,.bool false,.bool false,.bool false,.str [111,114],ω 2,.bool false,.bool false,.bool false,.str [110,111,116],ω 1,.bool false,.bool false,.bool false,.str [100,111,119,110],ω 1,.bool false,.bool false,.bool true,.str [117,112],ω 1,.bool false,.bool false,.bool true,.str [110,101,97,114],ω 1,.bool false,.bool false,.bool true,.str [114,97,116,101,46],ω 1,.bool false,.bool true,.bool false]
theorem aiM (a:Int) (b:lit true (decide (a<((1:Nat):Int)))=true):CO 120 [ω a] (.ret (.tup [.agg zcc2_0,.bool false])):=pK [] 2 3 (.k 7 b .nil) (.nil)
theorem aiN (a:Int) (c:lit true (decide (((24:Nat):Int)<a))=true) (b:lit false (decide (a<((1:Nat):Int)))=true):CO 120 [ω a] (.ret (.tup [.agg zcc2_0,.bool false])):=pK [] 2 2 (.k 6 c (.c b .nil)) (.nil)
theorem aiO (a:Int) (j:(chk .str (ζ (ε (0+((δ a)*5)) jL) .dead))=true) (e:(chk (.int .i64) (ζ (Xjs (ε (0+((δ a)*5)) jL)) .dead))=true) (h:(chk .bool (ζ (Xjs (Xjs (ε (0+((δ a)*5)) jL))) .dead))=true) (f:(chk .bool (ζ (Xjs (Xjs (Xjs (ε (0+((δ a)*5)) jL)))) .dead))=true) (g:(chk .bool (ζ (Xjs (Xjs (Xjs (Xjs (ε (0+((δ a)*5)) jL))))) .dead))=true) (b:(decide (((0:Nat):Int)≤a))=true) (c:(decide (a<((25:Nat):Int)))=true) (d:lit false (decide (((24:Nat):Int)<a))=true) (i:lit false (decide (a<((1:Nat):Int)))=true):CO 120 [ω a] (.ret (.tup [.agg [.str (AV.toStr (ζ (ε (0+((δ a)*5)) jL) .dead)),ω (τ (ζ (Xjs (ε (0+((δ a)*5)) jL)) .dead)),.bool (Xkc (ζ (Xjs (Xjs (ε (0+((δ a)*5)) jL))) .dead)),.bool (Xkc (ζ (Xjs (Xjs (Xjs (ε (0+((δ a)*5)) jL)))) .dead)),.bool (Xkc (ζ (Xjs (Xjs (Xjs (Xjs (ε (0+((δ a)*5)) jL))))) .dead))],.bool true])):=pK [] 2 0 (.k 6 j (.c e (.c h (.c f (.c g (.c b (.c c (.c d (.c i .nil))))))))) (.nil)
theorem acY (a:Int) (b:lit true (a==((15:Nat):Int))=true):CO 85 [ω a] (.ret (ω 3)):=pK [] 1 1 (.c b .nil) (.nil)
theorem acZ (a:Int) (d:lit true (decide (a≤((14:Nat):Int)))=true) (b:lit true (decide (((9:Nat):Int)≤a))=true) (c:lit false (a==((15:Nat):Int))=true):CO 85 [ω a] (.ret (ω 2)):=pK [] 4 14 (.k 1 d (.c b (.c c .nil))) (.nil)
theorem ac0 (a:Int) (f:lit true (decide (a≤((19:Nat):Int)))=true) (b:lit true (decide (((16:Nat):Int)≤a))=true) (e:lit false (decide (a≤((14:Nat):Int)))=true) (c:lit true (decide (((9:Nat):Int)≤a))=true) (d:lit false (a==((15:Nat):Int))=true):CO 85 [ω a] (.ret (ω 2)):=pK [] 5 26 (.c f (.c b (.c e (.c c (.c d .nil))))) (.nil)
theorem ac1 (a:Int) (h:lit true (decide (a≤((24:Nat):Int)))=true) (d:lit true (decide (((20:Nat):Int)≤a))=true) (g:lit false (decide (a≤((19:Nat):Int)))=true) (e:lit true (decide (((16:Nat):Int)≤a))=true) (f:lit false (decide (a≤((14:Nat):Int)))=true) (b:lit true (decide (((9:Nat):Int)≤a))=true) (c:lit false (a==((15:Nat):Int))=true):CO 85 [ω a] (.ret (ω 1)):=pK [] 7 106 (.c h (.c d (.c g (.c e (.c f (.c b (.c c .nil))))))) (.nil)
theorem ac2 (a:Int) (h:lit false (decide (a≤((24:Nat):Int)))=true) (d:lit true (decide (((20:Nat):Int)≤a))=true) (g:lit false (decide (a≤((19:Nat):Int)))=true) (e:lit true (decide (((16:Nat):Int)≤a))=true) (f:lit false (decide (a≤((14:Nat):Int)))=true) (b:lit true (decide (((9:Nat):Int)≤a))=true) (c:lit false (a==((15:Nat):Int))=true):CO 85 [ω a] (.ret (ω 0)):=pK [] 7 42 (.c h (.c d (.c g (.c e (.c f (.c b (.c c .nil))))))) (.nil)
theorem ac3 (a:Int) (g:lit false (decide (((20:Nat):Int)≤a))=true) (c:lit false (decide (a≤((19:Nat):Int)))=true) (f:lit true (decide (((16:Nat):Int)≤a))=true) (d:lit false (decide (a≤((14:Nat):Int)))=true) (e:lit true (decide (((9:Nat):Int)≤a))=true) (b:lit false (a==((15:Nat):Int))=true):CO 85 [ω a] (.ret (ω 0)):=pK [] 7 10 (.k 1 g (.c c (.c f (.c d (.c e (.c b .nil)))))) (.nil)
theorem ac4 (a:Int) (g:lit true (decide (a≤((24:Nat):Int)))=true) (c:lit true (decide (((20:Nat):Int)≤a))=true) (f:lit false (decide (((16:Nat):Int)≤a))=true) (d:lit false (decide (a≤((14:Nat):Int)))=true) (e:lit true (decide (((9:Nat):Int)≤a))=true) (b:lit false (a==((15:Nat):Int))=true):CO 85 [ω a] (.ret (ω 1)):=pK [] 7 98 (.c g (.c c (.k 1 f (.c d (.c e (.c b .nil)))))) (.nil)
theorem ac5 (a:Int) (g:lit false (decide (a≤((24:Nat):Int)))=true) (c:lit true (decide (((20:Nat):Int)≤a))=true) (f:lit false (decide (((16:Nat):Int)≤a))=true) (d:lit false (decide (a≤((14:Nat):Int)))=true) (e:lit true (decide (((9:Nat):Int)≤a))=true) (b:lit false (a==((15:Nat):Int))=true):CO 85 [ω a] (.ret (ω 0)):=pK [] 7 34 (.c g (.c c (.k 1 f (.c d (.c e (.c b .nil)))))) (.nil)
theorem ac6 (a:Int) (f:lit false (decide (((20:Nat):Int)≤a))=true) (b:lit false (decide (((16:Nat):Int)≤a))=true) (e:lit false (decide (a≤((14:Nat):Int)))=true) (c:lit true (decide (((9:Nat):Int)≤a))=true) (d:lit false (a==((15:Nat):Int))=true):CO 85 [ω a] (.ret (ω 0)):=pK [] 7 2 (.k 1 f (.k 1 b (.c e (.c c (.c d .nil))))) (.nil)
theorem ac7 (a:Int) (e:lit true (decide (a≤((19:Nat):Int)))=true) (b:lit true (decide (((16:Nat):Int)≤a))=true) (d:lit false (decide (((9:Nat):Int)≤a))=true) (c:lit false (a==((15:Nat):Int))=true):CO 85 [ω a] (.ret (ω 2)):=pK [] 5 24 (.c e (.c b (.k 1 d (.c c .nil)))) (.nil)
theorem Yp (a:Int) (g:lit true (decide (a≤((24:Nat):Int)))=true) (c:lit true (decide (((20:Nat):Int)≤a))=true) (f:lit false (decide (a≤((19:Nat):Int)))=true) (d:lit true (decide (((16:Nat):Int)≤a))=true) (e:lit false (decide (((9:Nat):Int)≤a))=true) (b:lit false (a==((15:Nat):Int))=true):CO 85 [ω a] (.ret (ω 1)):=pK [] 7 104 (.c g (.c c (.c f (.c d (.k 1 e (.c b .nil)))))) (.nil)
theorem Yq (a:Int) (g:lit false (decide (a≤((24:Nat):Int)))=true) (c:lit true (decide (((20:Nat):Int)≤a))=true) (f:lit false (decide (a≤((19:Nat):Int)))=true) (d:lit true (decide (((16:Nat):Int)≤a))=true) (e:lit false (decide (((9:Nat):Int)≤a))=true) (b:lit false (a==((15:Nat):Int))=true):CO 85 [ω a] (.ret (ω 0)):=pK [] 7 40 (.c g (.c c (.c f (.c d (.k 1 e (.c b .nil)))))) (.nil)
theorem Yr (a:Int) (f:lit false (decide (((20:Nat):Int)≤a))=true) (b:lit false (decide (a≤((19:Nat):Int)))=true) (e:lit true (decide (((16:Nat):Int)≤a))=true) (c:lit false (decide (((9:Nat):Int)≤a))=true) (d:lit false (a==((15:Nat):Int))=true):CO 85 [ω a] (.ret (ω 0)):=pK [] 7 8 (.k 1 f (.c b (.c e (.k 1 c (.c d .nil))))) (.nil)
theorem Yt (a:Int) (f:lit true (decide (a≤((24:Nat):Int)))=true) (b:lit true (decide (((20:Nat):Int)≤a))=true) (e:lit false (decide (((16:Nat):Int)≤a))=true) (c:lit false (decide (((9:Nat):Int)≤a))=true) (d:lit false (a==((15:Nat):Int))=true):CO 85 [ω a] (.ret (ω 1)):=pK [] 7 96 (.c f (.c b (.k 1 e (.k 1 c (.c d .nil))))) (.nil)
theorem Yu (a:Int) (f:lit false (decide (a≤((24:Nat):Int)))=true) (b:lit true (decide (((20:Nat):Int)≤a))=true) (e:lit false (decide (((16:Nat):Int)≤a))=true) (c:lit false (decide (((9:Nat):Int)≤a))=true) (d:lit false (a==((15:Nat):Int))=true):CO 85 [ω a] (.ret (ω 0)):=pK [] 7 32 (.c f (.c b (.k 1 e (.k 1 c (.c d .nil))))) (.nil)
theorem Yv (a:Int) (e:lit false (decide (((20:Nat):Int)≤a))=true) (b:lit false (decide (((16:Nat):Int)≤a))=true) (d:lit false (decide (((9:Nat):Int)≤a))=true) (c:lit false (a==((15:Nat):Int))=true):CO 85 [ω a] (.ret (ω 0)):=pK [] 7 0 (.k 1 e (.k 1 b (.k 1 d (.c c .nil)))) (.nil)
theorem aeD (a:Int) (c:lit true (decide (a≤((8:Nat):Int)))=true) (b:lit true (decide (((5:Nat):Int)≤a))=true):CO 82 [ω a] (.ret (.bool true)):=pK [] 2 3 (.c c (.c b .nil)) (.nil)
theorem aeE (a:Int) (c:lit false (decide (a≤((8:Nat):Int)))=true) (b:lit true (decide (((5:Nat):Int)≤a))=true):CO 82 [ω a] (.ret (.bool (a==((24:Nat):Int)))):=pK [] 2 1 (.c c (.c b .nil)) (.nil)
theorem aeF (a:Int) (b:lit false (decide (((5:Nat):Int)≤a))=true):CO 82 [ω a] (.ret (.bool (a==((24:Nat):Int)))):=pK [] 2 0 (.k 1 b .nil) (.nil)
theorem aev (a:Int) (b:lit true (decide (((1:Nat):Int)≤a))=true):CO 139 [ω a] (.ret (.bool (decide (a≤((4:Nat):Int))))):=pK [] 1 1 (.c b .nil) (.nil)
theorem aew (a:Int) (b:lit false (decide (((1:Nat):Int)≤a))=true):CO 139 [ω a] (.ret (.bool false)):=pK [] 1 0 (.c b .nil) (.nil)
theorem af2 (a:Int) (b:lit true (decide (((21:Nat):Int)≤a))=true):CO 140 [ω a] (.ret (.bool (decide (a≤((23:Nat):Int))))):=pK [] 1 1 (.c b .nil) (.nil)
theorem af4 (a:Int) (b:lit false (decide (((21:Nat):Int)≤a))=true):CO 140 [ω a] (.ret (.bool false)):=pK [] 1 0 (.c b .nil) (.nil)
def dD (op:Int):Nat:=if op=15 then 3 else if (9≤op∧op≤14)∨(16≤op∧op≤19) then 2 else if 20≤op∧op≤24 then 1 else 0
def iL (op:Int):Bool:=decide ((5≤op∧op≤8)∨op=24)
def zQ (op:Int):Bool:=decide (1≤op∧op≤4)
def AB (op:Int):Bool:=decide (21≤op∧op≤23)
def X5 (op:Int):List UInt8:=AV.toStr (ζ (ε (0+((δ op)*5)) jL) .dead)
theorem Pm (a:Int):CO 85 [ω a] (.ret (ω ((dD a:Nat):Int))):=by
 cases b:(a==((15:Nat):Int)) with
 | true=>
  have h:=acY a (by rw [b];rfl);have e:dD a=3:=by
   clear h;simp only [decide_eq_true_eq,decide_eq_false_iff_not,beq_iff_eq,Yq2] at*
   unfold dD;(repeat' split)<;>omega
  rw [e];exact h
 | false =>
  cases g:(decide (((9:Nat):Int)≤a)) with
  | true =>
   cases d:(decide (a≤((14:Nat):Int))) with
   | true=>
    have h:=acZ a (by rw [d];rfl) (by rw [g];rfl) (by rw [b];rfl);have e:dD a=2:=by
     clear h;simp only [decide_eq_true_eq,decide_eq_false_iff_not,beq_iff_eq,Yq2] at*
     unfold dD;(repeat' split)<;>omega
    rw [e];exact h
   | false=>
    cases c:(decide (((16:Nat):Int)≤a)) with
    | true=>
     cases f:(decide (a≤((19:Nat):Int))) with
     | true=>
      have h:=ac0 a (by rw [f];rfl) (by rw [c];rfl) (by rw [d];rfl) (by rw [g];rfl) (by rw [b];rfl);have e:dD a=2:=by
       clear h;simp only [decide_eq_true_eq,decide_eq_false_iff_not,beq_iff_eq,Yq2] at*
       unfold dD;(repeat' split)<;>omega
      rw [e];exact h
     | false=>
      cases i:(decide (((20:Nat):Int)≤a)) with
      | true=>
       cases j:(decide (a≤((24:Nat):Int))) with
       | true=>
        have h:=ac1 a (by rw [j];rfl) (by rw [i];rfl) (by rw [f];rfl) (by rw [c];rfl) (by rw [d];rfl) (by rw [g];rfl) (by rw [b];rfl);have e:dD a=1:=by
         clear h;simp only [decide_eq_true_eq,decide_eq_false_iff_not,beq_iff_eq,Yq2] at*
         unfold dD;(repeat' split)<;>omega
        rw [e];exact h
       | false=>
        have h:=ac2 a (by rw [j];rfl) (by rw [i];rfl) (by rw [f];rfl) (by rw [c];rfl) (by rw [d];rfl) (by rw [g];rfl) (by rw [b];rfl);have e:dD a=0:=by
         clear h;simp only [decide_eq_true_eq,decide_eq_false_iff_not,beq_iff_eq,Yq2] at*
         unfold dD;(repeat' split)<;>omega
        rw [e];exact h
      | false=>
       have h:=ac3 a (by rw [i];rfl) (by rw [f];rfl) (by rw [c];rfl) (by rw [d];rfl) (by rw [g];rfl) (by rw [b];rfl);have e:dD a=0:=by
        clear h;simp only [decide_eq_true_eq,decide_eq_false_iff_not,beq_iff_eq,Yq2] at*
        unfold dD;(repeat' split)<;>omega
       rw [e];exact h
    | false=>
     cases f:(decide (((20:Nat):Int)≤a)) with
     | true=>
      cases i:(decide (a≤((24:Nat):Int))) with
      | true=>
       have h:=ac4 a (by rw [i];rfl) (by rw [f];rfl) (by rw [c];rfl) (by rw [d];rfl) (by rw [g];rfl) (by rw [b];rfl);have e:dD a=1:=by
        clear h;simp only [decide_eq_true_eq,decide_eq_false_iff_not,beq_iff_eq,Yq2] at*
        unfold dD;(repeat' split)<;>omega
       rw [e];exact h
      | false=>
       have h:=ac5 a (by rw [i];rfl) (by rw [f];rfl) (by rw [c];rfl) (by rw [d];rfl) (by rw [g];rfl) (by rw [b];rfl);have e:dD a=0:=by
        clear h;simp only [decide_eq_true_eq,decide_eq_false_iff_not,beq_iff_eq,Yq2] at*
        unfold dD;(repeat' split)<;>omega
       rw [e];exact h
     | false=>
      have h:=ac6 a (by rw [f];rfl) (by rw [c];rfl) (by rw [d];rfl) (by rw [g];rfl) (by rw [b];rfl);have e:dD a=0:=by
       clear h;simp only [decide_eq_true_eq,decide_eq_false_iff_not,beq_iff_eq,Yq2] at*
       unfold dD;(repeat' split)<;>omega
      rw [e];exact h
  | false=>
   cases d:(decide (((16:Nat):Int)≤a)) with
   | true=>
    cases c:(decide (a≤((19:Nat):Int))) with
    | true=>
     have h:=ac7 a (by rw [c];rfl) (by rw [d];rfl) (by rw [g];rfl) (by rw [b];rfl);have e:dD a=2:=by
      clear h;simp only [decide_eq_true_eq,decide_eq_false_iff_not,beq_iff_eq,Yq2] at*
      unfold dD;(repeat' split)<;>omega
     rw [e];exact h
    | false=>
     cases f:(decide (((20:Nat):Int)≤a)) with
     | true=>
      cases i:(decide (a≤((24:Nat):Int))) with
      | true=>
       have h:=Yp a (by rw [i];rfl) (by rw [f];rfl) (by rw [c];rfl) (by rw [d];rfl) (by rw [g];rfl) (by rw [b];rfl);have e:dD a=1:=by
        clear h;simp only [decide_eq_true_eq,decide_eq_false_iff_not,beq_iff_eq,Yq2] at*
        unfold dD;(repeat' split)<;>omega
       rw [e];exact h
      | false=>
       have h:=Yq a (by rw [i];rfl) (by rw [f];rfl) (by rw [c];rfl) (by rw [d];rfl) (by rw [g];rfl) (by rw [b];rfl);have e:dD a=0:=by
        clear h;simp only [decide_eq_true_eq,decide_eq_false_iff_not,beq_iff_eq,Yq2] at*
        unfold dD;(repeat' split)<;>omega
       rw [e];exact h
     | false=>
      have h:=Yr a (by rw [f];rfl) (by rw [c];rfl) (by rw [d];rfl) (by rw [g];rfl) (by rw [b];rfl);have e:dD a=0:=by
       clear h;simp only [decide_eq_true_eq,decide_eq_false_iff_not,beq_iff_eq,Yq2] at*
       unfold dD;(repeat' split)<;>omega
      rw [e];exact h
   | false=>
    cases c:(decide (((20:Nat):Int)≤a)) with
    | true=>
     cases f:(decide (a≤((24:Nat):Int))) with
     | true=>
      have h:=Yt a (by rw [f];rfl) (by rw [c];rfl) (by rw [d];rfl) (by rw [g];rfl) (by rw [b];rfl);have e:dD a=1:=by
       clear h;simp only [decide_eq_true_eq,decide_eq_false_iff_not,beq_iff_eq,Yq2] at*
       unfold dD;(repeat' split)<;>omega
      rw [e];exact h
     | false=>
      have h:=Yu a (by rw [f];rfl) (by rw [c];rfl) (by rw [d];rfl) (by rw [g];rfl) (by rw [b];rfl);have e:dD a=0:=by
       clear h;simp only [decide_eq_true_eq,decide_eq_false_iff_not,beq_iff_eq,Yq2] at*
       unfold dD;(repeat' split)<;>omega
      rw [e];exact h
    | false=>
     have h:=Yv a (by rw [c];rfl) (by rw [d];rfl) (by rw [g];rfl) (by rw [b];rfl);have e:dD a=0:=by
      clear h;simp only [decide_eq_true_eq,decide_eq_false_iff_not,beq_iff_eq,Yq2] at*
      unfold dD;(repeat' split)<;>omega
     rw [e];exact h
theorem ZN (a:Int):CO 82 [ω a] (.ret (.bool (iL a))):=by
 cases b:(decide (((5:Nat):Int)≤a)) with
 | true=>
  cases c:(decide (a≤((8:Nat):Int))) with
  | true=>
   have h:=aeD a (by rw [c];rfl) (by rw [b];rfl);have e:iL a=true:=by
    clear h;simp only [decide_eq_true_eq,decide_eq_false_iff_not,beq_iff_eq,Yq2] at*
    unfold iL;first|(rw [decide_eq_true_eq];omega)|(rw [Xx2];simp only [decide_eq_true_eq,beq_iff_eq];omega)
   rw [e];exact h
  | false=>
   have h:=aeE a (by rw [c];rfl) (by rw [b];rfl);have e:iL a=(a==((24:Nat):Int)):=by
    clear h;simp only [decide_eq_true_eq,decide_eq_false_iff_not,beq_iff_eq,Yq2] at*
    unfold iL;first|(rw [decide_eq_true_eq];omega)|(rw [Xx2];simp only [decide_eq_true_eq,beq_iff_eq];omega)
   rw [e];exact h
 | false=>
  have h:=aeF a (by rw [b];rfl);have e:iL a=(a==((24:Nat):Int)):=by
   clear h;simp only [decide_eq_true_eq,decide_eq_false_iff_not,beq_iff_eq,Yq2] at*
   unfold iL;first|(rw [decide_eq_true_eq];omega)|(rw [Xx2];simp only [decide_eq_true_eq,beq_iff_eq];omega)
  rw [e];exact h
theorem CU (a:Int):CO 139 [ω a] (.ret (.bool (zQ a))):=by
 cases b:(decide (((1:Nat):Int)≤a)) with
 | true=>
  have h:=aev a (by rw [b];rfl);have e:zQ a=(decide (a≤((4:Nat):Int))):=by
   clear h;simp only [decide_eq_true_eq,decide_eq_false_iff_not,beq_iff_eq,Yq2] at*
   unfold zQ;first|(rw [decide_eq_false_iff_not];omega)|(rw [Xx2];simp only [decide_eq_true_eq,beq_iff_eq];omega)
  rw [e];exact h
 | false=>
  have h:=aew a (by rw [b];rfl);have e:zQ a=false:=by
   clear h;simp only [decide_eq_true_eq,decide_eq_false_iff_not,beq_iff_eq,Yq2] at*
   unfold zQ;first|(rw [decide_eq_false_iff_not];omega)|(rw [Xx2];simp only [decide_eq_true_eq,beq_iff_eq];omega)
  rw [e];exact h
theorem JD (a:Int):CO 140 [ω a] (.ret (.bool (AB a))):=by
 cases b:(decide (((21:Nat):Int)≤a)) with
 | true=>
  have h:=af2 a (by rw [b];rfl);have e:AB a=(decide (a≤((23:Nat):Int))):=by
   clear h;simp only [decide_eq_true_eq,decide_eq_false_iff_not,beq_iff_eq,Yq2] at*
   unfold AB;first|(rw [decide_eq_false_iff_not];omega)|(rw [Xx2];simp only [decide_eq_true_eq,beq_iff_eq];omega)
  rw [e];exact h
 | false=>
  have h:=af4 a (by rw [b];rfl);have e:AB a=false:=by
   clear h;simp only [decide_eq_true_eq,decide_eq_false_iff_not,beq_iff_eq,Yq2] at*
   unfold AB;first|(rw [decide_eq_false_iff_not];omega)|(rw [Xx2];simp only [decide_eq_true_eq,beq_iff_eq];omega)
  rw [e];exact h
theorem Lr {a:Int} (h:1≤a) (b:a≤24):a=1∨a=2∨a=3∨a=4∨a=5∨a=6∨a=7∨a=8∨a=9∨a=10∨a=11∨a=12∨a=13∨a=14∨a=15∨a=16∨a=17∨a=18∨a=19∨a=20∨a=21∨a=22∨a=23∨a=24:=by omega
abbrev shA (op:Int):AV:= .agg [.str (X5 op),ω ((dD op:Nat):Int),.bool (zQ op),.bool (iL op),.bool (AB op)]
theorem aiS {a:Int} (h:1≤a) (b:a≤24):CO 120 [ω a] (.ret (.tup [shA a,.bool true])):=by
 rcases Lr h b with rfl|rfl|rfl|rfl|rfl|rfl|rfl|rfl|rfl|rfl|rfl|rfl|rfl|rfl|rfl|rfl|rfl|rfl|rfl|rfl|rfl|rfl|rfl|rfl
 all_goals exact aiO _ rfl rfl rfl rfl rfl rfl rfl rfl rfl
theorem aeM {a:Int} (h:a<1∨24<a):CO 120 [ω a] (.ret (.tup [.agg zcc2_0,.bool false])):=by
 by_cases h1:a<1
 ·exact aiM a (by simp [lit];omega)
 ·exact aiN a (by simp [lit];omega) (by simp [lit];omega)
theorem O1 {a:Int} (h:1≤a) (b:a≤24):ζ (ε (a.toNat*5+1) jL) .dead= ω ((dD a:Nat):Int):=by
 rcases Lr h b with rfl|rfl|rfl|rfl|rfl|rfl|rfl|rfl|rfl|rfl|rfl|rfl|rfl|rfl|rfl|rfl|rfl|rfl|rfl|rfl|rfl|rfl|rfl|rfl
 all_goals rfl
def P6 (op:Int):Bool:=decide (1≤op∧op≤24)
theorem bZ (a:Int):CO 120 [ω a] (.ret (.tup [shA a,.bool (P6 a)])):=by
 by_cases h:1≤a∧a≤24
 ·have e:P6 a=true:=Yq0 h;rw [e];exact aiS h.1 h.2
 ·have e:P6 a=false:=Yq1 h;have f:dD a=0:=by unfold dD;(repeat' split)<;>omega
  have c:zQ a=false:=by unfold zQ;rw [decide_eq_false_iff_not];omega
  have g:iL a=false:=by unfold iL;rw [decide_eq_false_iff_not];omega
  have d:AB a=false:=by unfold AB;rw [decide_eq_false_iff_not];omega
  have b:X5 a= []:=by
   unfold X5;by_cases h1:a<1
   ·have:a.toNat=0:=by omega
    rw [this];rfl
   ·have i:jL.length=125:=by decide
    rw [Xx6 (by omega)];rfl
  unfold shA;rw [e,f,c,g,d,b];exact aeM (by omega)
structure Nd where
 op:Int
 neg:Bool
 num:List UInt8
 den:List UInt8
 name:List UInt8
def nI (x:Nd):List AV:= [ω x.op,.bool x.neg,.str x.num,.str x.den,.str x.name]
def Nd.sm (x:Nd):Prop:=x.num.length<2^33∧x.den.length<2^33
def fQ (x:Nd):Bool:=cond (x.op==((4:Nat):Int)) (uh x.neg x.num x.den 0||uh x.neg x.num x.den 1) (cond (zQ x.op) (fB x.neg x.num x.den) (cond (AB x.op) (fB x.neg x.num x.den && decide (((0:Nat):Int)<jD x.neg x.num x.den)) ((x.neg==false) && ((x.num== []) && ((x.den== []) && true)))))
def aI (x:Nd):Int:=cond (!P6 x.op||(!iL x.op && !(x.name== []))) 11 (cond (!fQ x) 11 (cond (iL x.op && !uz x.name) 12 0))
theorem X6 (x:Nd) (c:x.sm):CO 73 [.agg (nI x)] (.ret (ω (aI x))):=by
 have a:x.num.length<2^36:=Xxa c.1 (by decide);have b:x.den.length<2^36:=Xxa c.2 (by decide);rcases tf (P6 x.op) with b0|b0
 ·rcases tf (iL x.op) with b1|b1
  ·rcases tf (x.op==((4:Nat):Int)) with b2|b2
   ·rcases tf ((x.neg==false) && ((x.num==(ae 0)) && ((x.den==(ae 1)) && true))) with b3|b3
    ·rcases tf (uz x.name) with b4|b4
     ·rw [show aI x=0 by simp only [aI,fQ,uh,b0,b1,b2,b3,b4]<;>rfl];exact pK [] 8 88 (.c (aU b4) (.k 1 (aK b1) (.k 2 (aK b3) (.k 3 (aK b2) (.k 2 (aU b1) (.k 1 (aU b0) (.n 2 .nil))))))) (.c (lT x.name) (.c (jC) (.c (bZ x.op) .nil)))
     ·rw [show aI x=12 by simp only [aI,fQ,uh,b0,b1,b2,b3,b4]<;>rfl];exact pK [] 8 216 (.c (dW b4) (.k 1 (aK b1) (.k 2 (aK b3) (.k 3 (aK b2) (.k 2 (aU b1) (.k 1 (aU b0) (.n 2 .nil))))))) (.c (lT x.name) (.c (jC) (.c (bZ x.op) .nil)))
    ·rcases tf ((x.neg==false) && ((x.num==(ae 1)) && ((x.den==(ae 1)) && true))) with b4|b4
     ·rcases tf (uz x.name) with b5|b5
      ·rw [show aI x=0 by simp only [aI,fQ,uh,b0,b1,b2,b3,b4,b5]<;>rfl];exact pK [] 8 72 (.c (aU b5) (.k 1 (aK b1) (.k 1 (aU b4) (.k 3 (aN b3) (.k 3 (aK b2) (.k 2 (aU b1) (.k 1 (aU b0) (.n 2 .nil)))))))) (.c (lT x.name) (.c (uH) (.c (jC) (.c (bZ x.op) .nil))))
      ·rw [show aI x=12 by simp only [aI,fQ,uh,b0,b1,b2,b3,b4,b5]<;>rfl];exact pK [] 8 200 (.c (dW b5) (.k 1 (aK b1) (.k 1 (aU b4) (.k 3 (aN b3) (.k 3 (aK b2) (.k 2 (aU b1) (.k 1 (aU b0) (.n 2 .nil)))))))) (.c (lT x.name) (.c (uH) (.c (jC) (.c (bZ x.op) .nil))))
     ·rw [show aI x=11 by simp only [aI,fQ,uh,b0,b1,b2,b3,b4]<;>rfl];exact pK [] 6 40 (.c (dW b4) (.k 3 (aN b3) (.k 3 (aK b2) (.k 2 (aU b1) (.k 1 (aU b0) (.n 2 .nil)))))) (.c (uH) (.c (jC) (.c (bZ x.op) .nil)))
   ·rcases tf (zQ x.op) with b3|b3
    ·rcases tf (fB x.neg x.num x.den) with b4|b4
     ·rcases tf (uz x.name) with b5|b5
      ·rw [show aI x=0 by simp only [aI,fQ,uh,b0,b1,b2,b3,b4,b5]<;>rfl];exact pK [] 8 80 (.c (aU b5) (.k 1 (aK b1) (.k 1 (aU b4) (.k 3 (aK b3) (.k 1 (aN b2) (.k 2 (aU b1) (.k 1 (aU b0) (.n 2 .nil)))))))) (.c (lT x.name) (.c (gu x.neg x.num x.den a b) (.c (bZ x.op) .nil)))
      ·rw [show aI x=12 by simp only [aI,fQ,uh,b0,b1,b2,b3,b4,b5]<;>rfl];exact pK [] 8 208 (.c (dW b5) (.k 1 (aK b1) (.k 1 (aU b4) (.k 3 (aK b3) (.k 1 (aN b2) (.k 2 (aU b1) (.k 1 (aU b0) (.n 2 .nil)))))))) (.c (lT x.name) (.c (gu x.neg x.num x.den a b) (.c (bZ x.op) .nil)))
     ·rw [show aI x=11 by simp only [aI,fQ,uh,b0,b1,b2,b3,b4]<;>rfl];exact pK [] 6 48 (.c (dW b4) (.k 3 (aK b3) (.k 1 (aN b2) (.k 2 (aU b1) (.k 1 (aU b0) (.n 2 .nil)))))) (.c (gu x.neg x.num x.den a b) (.c (bZ x.op) .nil))
    ·rcases tf (AB x.op) with b4|b4
     ·rcases tf (fB x.neg x.num x.den) with b5|b5
      ·rcases tf (decide (((0:Nat):Int)<(jD x.neg x.num x.den))) with b6|b6
       ·rcases tf (uz x.name) with b7|b7
        ·rw [show aI x=0 by simp only [aI,fQ,uh,b0,b1,b2,b3,b4,b5,b6,b7]<;>rfl];exact pK [] 10 352 (.c (aU b7) (.k 1 (aK b1) (.k 1 (aU b6) (.k 3 (aK b5) (.k 3 (aK b4) (.k 1 (aN b3) (.k 1 (aN b2) (.k 2 (aU b1) (.k 1 (aU b0) (.n 2 .nil)))))))))) (.c (lT x.name) (.c (oJ x.neg x.num x.den a b) (.c (gu x.neg x.num x.den a b) (.c (bZ x.op) .nil))))
        ·rw [show aI x=12 by simp only [aI,fQ,uh,b0,b1,b2,b3,b4,b5,b6,b7]<;>rfl];exact pK [] 10 864 (.c (dW b7) (.k 1 (aK b1) (.k 1 (aU b6) (.k 3 (aK b5) (.k 3 (aK b4) (.k 1 (aN b3) (.k 1 (aN b2) (.k 2 (aU b1) (.k 1 (aU b0) (.n 2 .nil)))))))))) (.c (lT x.name) (.c (oJ x.neg x.num x.den a b) (.c (gu x.neg x.num x.den a b) (.c (bZ x.op) .nil))))
       ·rw [show aI x=11 by simp only [aI,fQ,uh,b0,b1,b2,b3,b4,b5,b6]<;>rfl];exact pK [] 8 224 (.c (dW b6) (.k 3 (aK b5) (.k 3 (aK b4) (.k 1 (aN b3) (.k 1 (aN b2) (.k 2 (aU b1) (.k 1 (aU b0) (.n 2 .nil)))))))) (.c (oJ x.neg x.num x.den a b) (.c (gu x.neg x.num x.den a b) (.c (bZ x.op) .nil)))
      ·rw [show aI x=11 by simp only [aI,fQ,uh,b0,b1,b2,b3,b4,b5]<;>rfl];exact pK [] 8 160 (.k 1 (aN b5) (.k 3 (aK b4) (.k 1 (aN b3) (.k 1 (aN b2) (.k 2 (aU b1) (.k 1 (aU b0) (.n 2 .nil))))))) (.c (gu x.neg x.num x.den a b) (.c (bZ x.op) .nil))
     ·rcases tf ((x.neg==false) && ((x.num== []) && ((x.den== []) && true))) with b5|b5
      ·rcases tf (uz x.name) with b6|b6
       ·rw [show aI x=0 by simp only [aI,fQ,uh,b0,b1,b2,b3,b4,b5,b6]<;>rfl];exact pK [] 9 128 (.c (aU b6) (.k 1 (aK b1) (.k 1 (aU b5) (.k 3 (aN b4) (.k 1 (aN b3) (.k 1 (aN b2) (.k 2 (aU b1) (.k 1 (aU b0) (.n 2 .nil))))))))) (.c (lT x.name) (.c (bZ x.op) .nil))
       ·rw [show aI x=12 by simp only [aI,fQ,uh,b0,b1,b2,b3,b4,b5,b6]<;>rfl];exact pK [] 9 384 (.c (dW b6) (.k 1 (aK b1) (.k 1 (aU b5) (.k 3 (aN b4) (.k 1 (aN b3) (.k 1 (aN b2) (.k 2 (aU b1) (.k 1 (aU b0) (.n 2 .nil))))))))) (.c (lT x.name) (.c (bZ x.op) .nil))
      ·rw [show aI x=11 by simp only [aI,fQ,uh,b0,b1,b2,b3,b4,b5]<;>rfl];exact pK [] 7 64 (.c (dW b5) (.k 3 (aN b4) (.k 1 (aN b3) (.k 1 (aN b2) (.k 2 (aU b1) (.k 1 (aU b0) (.n 2 .nil))))))) (.c (bZ x.op) .nil)
  ·rcases tf (x.name== []) with b2|b2
   ·rcases tf (x.op==((4:Nat):Int)) with b3|b3
    ·rcases tf ((x.neg==false) && ((x.num==(ae 0)) && ((x.den==(ae 1)) && true))) with b4|b4
     ·rw [show aI x=0 by simp only [aI,fQ,uh,b0,b1,b2,b3,b4]<;>rfl];exact pK [] 8 26 (.k 1 (aN b1) (.k 2 (aK b4) (.k 3 (aK b3) (.k 1 (aU b2) (.k 1 (dW b1) (.k 1 (aU b0) (.n 2 .nil))))))) (.c (jC) (.c (bZ x.op) .nil))
     ·rcases tf ((x.neg==false) && ((x.num==(ae 1)) && ((x.den==(ae 1)) && true))) with b5|b5
      ·rw [show aI x=0 by simp only [aI,fQ,uh,b0,b1,b2,b3,b4,b5]<;>rfl];exact pK [] 8 10 (.k 1 (aN b1) (.k 1 (aU b5) (.k 3 (aN b4) (.k 3 (aK b3) (.k 1 (aU b2) (.k 1 (dW b1) (.k 1 (aU b0) (.n 2 .nil)))))))) (.c (uH) (.c (jC) (.c (bZ x.op) .nil)))
      ·rw [show aI x=11 by simp only [aI,fQ,uh,b0,b1,b2,b3,b4,b5]<;>rfl];exact pK [] 6 42 (.c (dW b5) (.k 3 (aN b4) (.k 3 (aK b3) (.k 1 (aU b2) (.k 1 (dW b1) (.k 1 (aU b0) (.n 2 .nil))))))) (.c (uH) (.c (jC) (.c (bZ x.op) .nil)))
    ·rcases tf (zQ x.op) with b4|b4
     ·rcases tf (fB x.neg x.num x.den) with b5|b5
      ·rw [show aI x=0 by simp only [aI,fQ,uh,b0,b1,b2,b3,b4,b5]<;>rfl];exact pK [] 8 18 (.k 1 (aN b1) (.k 1 (aU b5) (.k 3 (aK b4) (.k 1 (aN b3) (.k 1 (aU b2) (.k 1 (dW b1) (.k 1 (aU b0) (.n 2 .nil)))))))) (.c (gu x.neg x.num x.den a b) (.c (bZ x.op) .nil))
      ·rw [show aI x=11 by simp only [aI,fQ,uh,b0,b1,b2,b3,b4,b5]<;>rfl];exact pK [] 6 50 (.c (dW b5) (.k 3 (aK b4) (.k 1 (aN b3) (.k 1 (aU b2) (.k 1 (dW b1) (.k 1 (aU b0) (.n 2 .nil))))))) (.c (gu x.neg x.num x.den a b) (.c (bZ x.op) .nil))
     ·rcases tf (AB x.op) with b5|b5
      ·rcases tf (fB x.neg x.num x.den) with b6|b6
       ·rcases tf (decide (((0:Nat):Int)<(jD x.neg x.num x.den))) with b7|b7
        ·rw [show aI x=0 by simp only [aI,fQ,uh,b0,b1,b2,b3,b4,b5,b6,b7]<;>rfl];exact pK [] 10 98 (.k 1 (aN b1) (.k 1 (aU b7) (.k 3 (aK b6) (.k 3 (aK b5) (.k 1 (aN b4) (.k 1 (aN b3) (.k 1 (aU b2) (.k 1 (dW b1) (.k 1 (aU b0) (.n 2 .nil)))))))))) (.c (oJ x.neg x.num x.den a b) (.c (gu x.neg x.num x.den a b) (.c (bZ x.op) .nil)))
        ·rw [show aI x=11 by simp only [aI,fQ,uh,b0,b1,b2,b3,b4,b5,b6,b7]<;>rfl];exact pK [] 8 226 (.c (dW b7) (.k 3 (aK b6) (.k 3 (aK b5) (.k 1 (aN b4) (.k 1 (aN b3) (.k 1 (aU b2) (.k 1 (dW b1) (.k 1 (aU b0) (.n 2 .nil))))))))) (.c (oJ x.neg x.num x.den a b) (.c (gu x.neg x.num x.den a b) (.c (bZ x.op) .nil)))
       ·rw [show aI x=11 by simp only [aI,fQ,uh,b0,b1,b2,b3,b4,b5,b6]<;>rfl];exact pK [] 8 162 (.k 1 (aN b6) (.k 3 (aK b5) (.k 1 (aN b4) (.k 1 (aN b3) (.k 1 (aU b2) (.k 1 (dW b1) (.k 1 (aU b0) (.n 2 .nil)))))))) (.c (gu x.neg x.num x.den a b) (.c (bZ x.op) .nil))
      ·rcases tf ((x.neg==false) && ((x.num== []) && ((x.den== []) && true))) with b6|b6
       ·rw [show aI x=0 by simp only [aI,fQ,uh,b0,b1,b2,b3,b4,b5,b6]<;>rfl];exact pK [] 9 2 (.k 1 (aN b1) (.k 1 (aU b6) (.k 3 (aN b5) (.k 1 (aN b4) (.k 1 (aN b3) (.k 1 (aU b2) (.k 1 (dW b1) (.k 1 (aU b0) (.n 2 .nil))))))))) (.c (bZ x.op) .nil)
       ·rw [show aI x=11 by simp only [aI,fQ,uh,b0,b1,b2,b3,b4,b5,b6]<;>rfl];exact pK [] 7 66 (.c (dW b6) (.k 3 (aN b5) (.k 1 (aN b4) (.k 1 (aN b3) (.k 1 (aU b2) (.k 1 (dW b1) (.k 1 (aU b0) (.n 2 .nil)))))))) (.c (bZ x.op) .nil)
   ·rw [show aI x=11 by simp only [aI,fQ,uh,b0,b1,b2]<;>rfl];exact pK [] 3 6 (.c (dW b2) (.k 1 (dW b1) (.k 1 (aU b0) (.n 2 .nil)))) (.c (bZ x.op) .nil)
 ·rw [show aI x=11 by simp only [aI,fQ,uh,b0]<;>rfl];exact pK [] 2 3 (.k 1 (dW b0) (.n 2 .nil)) (.c (bZ x.op) .nil)
theorem Lm (x:Nd) (a:x.sm):CO 83 [.agg (nI x)] (.ret (.bool (fQ x))):=by
 rcases tf (x.op==((4:Nat):Int)) with b0|b0
 ·rcases tf ((x.neg==false) && ((x.num==(ae 0)) && ((x.den==(ae 1)) && true))) with b1|b1
  ·rw [show fQ x=true by simp only [fQ,uh,b0,b1]<;>rfl];exact pK [] 2 3 (.c (aK b1) (.k 3 (aK b0) (.n 1 .nil))) (.c (uF) .nil)
  ·rw [show fQ x=((x.neg==false) && ((x.num==(ae 1)) && ((x.den==(ae 1)) && true))) by simp only [fQ,uh,b0,b1]<;>rfl];exact pK [] 2 1 (.k 3 (aN b1) (.k 3 (aK b0) (.n 1 .nil))) (.c (yL) (.c (uF) .nil))
 ·rcases tf (zQ x.op) with b1|b1
  ·rw [show fQ x=(fB x.neg x.num x.den) by simp only [fQ,uh,b0,b1]<;>rfl];exact pK [] 2 2 (.k 3 (aK b1) (.k 1 (aN b0) (.n 1 .nil))) (.c (lL x.neg x.num x.den a.1 a.2) (.c (CU x.op) .nil))
  ·rcases tf (AB x.op) with b2|b2
   ·rcases tf (fB x.neg x.num x.den) with b3|b3
    ·rw [show fQ x=(decide (((0:Nat):Int)<(jD x.neg x.num x.den))) by simp only [fQ,uh,b0,b1,b2,b3]<;>rfl];exact pK [] 4 12 (.k 3 (aK b3) (.k 3 (aK b2) (.k 1 (aN b1) (.k 1 (aN b0) (.n 1 .nil))))) (.c (Ag x.neg x.num x.den a.1 a.2) (.c (lL x.neg x.num x.den a.1 a.2) (.c (JD x.op) (.c (CU x.op) .nil))))
    ·rw [show fQ x=false by simp only [fQ,uh,b0,b1,b2,b3]<;>rfl];exact pK [] 4 4 (.c (aN b3) (.k 3 (aK b2) (.k 1 (aN b1) (.k 1 (aN b0) (.n 1 .nil))))) (.c (lL x.neg x.num x.den a.1 a.2) (.c (JD x.op) (.c (CU x.op) .nil)))
   ·rw [show fQ x=((x.neg==false) && ((x.num== []) && ((x.den== []) && true))) by simp only [fQ,uh,b0,b1,b2]<;>rfl];exact pK [] 3 0 (.k 3 (aN b2) (.k 1 (aN b1) (.k 1 (aN b0) (.n 1 .nil)))) (.c (JD x.op) (.c (CU x.op) .nil))
def aV (l:List Nd):List AV:=l.flatMap nI
theorem ama {nt:Nat} (g:35≤nt) (l:List Nd) (b:Bool) (k d:Nat) (w:Int) (x:Nd) (r:List Nd) (a:(ε ((δ (k:Int))*5) (aV l))=nI x++aV r) (j:lit true (!(w==((0:Nat):Int)))=true) (c:(decide (((0:Nat):Int)≤(k:Int)))=true) (f:(decide ((k:Int)<(l.length:Int)))=true) (e:lit true (decide ((k:Int)<(l.length:Int)))=true) (i:CO 73 [.agg [ω x.op,.bool x.neg,.str x.num,.str x.den,.str x.name]] (.ret (ω w))):ψ nt f44 ⟨[(10,.sl (aV l) l.length b),(11,ω (l.length:Int)),(12,ω (k:Int)),(3,ω (d:Int))],[],.dead,[]⟩ (.ret) ⟨[(2,ω w)],[],.dead,[]⟩:=
 have h:ψ nt f44 ⟨[(10,.sl (aV l) l.length b),(11,ω (l.length:Int)),(12,ω (k:Int)),(3,ω (d:Int))],[],.dead,[]⟩ (.ret) ⟨[(2,ω w)],[(0,⟨[ω x.op,.bool x.neg,.str x.num,.str x.den,.str x.name],0,false,0,0,true⟩)],.dead,[]⟩:=pJ 44 [] 2 3 (.c j (.k 11 c (.c f (.c e .nil)))) (.c i (.v 14 (.ppt a) .nil)) g
 h.forgetD 0 ⟨[ω x.op,.bool x.neg,.str x.num,.str x.den,.str x.name],0,false,0,0,true⟩ (by intro v h;cases h) (by decide) rfl ⟨Fz.same rfl,trivial⟩ rfl rfl
theorem amb {nt:Nat} (o:35≤nt) (l:List Nd) (b:Bool) (k d:Nat) (w:Int) (x:Nd) (r:List Nd) (a:(ε ((δ (k:Int))*5) (aV l))=nI x++aV r) (m:lit true (decide ((γ .i64 ((d:Int) - (τ (ζ (ε ((0+((δ x.op)*5))+1) jL) .dead))))<((0:Nat):Int)))=true) (n:(chk (.int .i64) (ζ (ε ((0+((δ x.op)*5))+1) jL) .dead))=true) (j:(decide (((0:Nat):Int)≤x.op))=true) (e:(decide (x.op<((25:Nat):Int)))=true) (f:lit false (!(w==((0:Nat):Int)))=true) (g:(decide (((0:Nat):Int)≤(k:Int)))=true) (c:(decide ((k:Int)<(l.length:Int)))=true) (i:lit true (decide ((k:Int)<(l.length:Int)))=true) (p:CO 73 [.agg [ω x.op,.bool x.neg,.str x.num,.str x.den,.str x.name]] (.ret (ω w))):ψ nt f44 ⟨[(10,.sl (aV l) l.length b),(11,ω (l.length:Int)),(12,ω (k:Int)),(3,ω (d:Int))],[],.dead,[]⟩ (.ret) ⟨[(2,ω 11)],[],.dead,[]⟩:=
 have h:ψ nt f44 ⟨[(10,.sl (aV l) l.length b),(11,ω (l.length:Int)),(12,ω (k:Int)),(3,ω (d:Int))],[],.dead,[]⟩ (.ret) ⟨[(2,ω 11)],[(0,⟨[ω x.op,.bool x.neg,.str x.num,.str x.den,.str x.name],0,false,0,0,true⟩)],.dead,[]⟩:=pJ 44 [] 3 5 (.c m (.c n (.c j (.c e (.k 1 f (.k 11 g (.c c (.c i .nil)))))))) (.c p (.v 14 (.ppt a) .nil)) o
 h.forgetD 0 ⟨[ω x.op,.bool x.neg,.str x.num,.str x.den,.str x.name],0,false,0,0,true⟩ (by intro v h;cases h) (by decide) rfl ⟨Fz.same rfl,trivial⟩ rfl rfl
theorem amc {nt:Nat} (o:35≤nt) (l:List Nd) (a:Bool) (k d:Nat) (w:Int) (x:Nd) (r:List Nd) (b:(ε ((δ (k:Int))*5) (aV l))=nI x++aV r) (m:lit false (decide ((γ .i64 ((d:Int) - (τ (ζ (ε ((0+((δ x.op)*5))+1) jL) .dead))))<((0:Nat):Int)))=true) (n:(chk (.int .i64) (ζ (ε ((0+((δ x.op)*5))+1) jL) .dead))=true) (j:(decide (((0:Nat):Int)≤x.op))=true) (e:(decide (x.op<((25:Nat):Int)))=true) (f:lit false (!(w==((0:Nat):Int)))=true) (g:(decide (((0:Nat):Int)≤(k:Int)))=true) (c:(decide ((k:Int)<(l.length:Int)))=true) (i:lit true (decide ((k:Int)<(l.length:Int)))=true) (p:CO 73 [.agg [ω x.op,.bool x.neg,.str x.num,.str x.den,.str x.name]] (.ret (ω w))):ψ nt f44 ⟨[(10,.sl (aV l) l.length a),(11,ω (l.length:Int)),(12,ω (k:Int)),(3,ω (d:Int))],[],.dead,[]⟩ (.normal) ⟨[(10,.sl (aV l) l.length a),(11,ω (l.length:Int)),(12,ω (γ .i64 ((k:Int)+((1:Nat):Int)))),(3,ω (γ .i64 ((γ .i64 ((d:Int) - (τ (ζ (ε ((0+((δ x.op)*5))+1) jL) .dead))))+((1:Nat):Int))))],[],.dead,[]⟩:=
 have h:ψ nt f44 ⟨[(10,.sl (aV l) l.length a),(11,ω (l.length:Int)),(12,ω (k:Int)),(3,ω (d:Int))],[],.dead,[]⟩ (.normal) ⟨[(10,.sl (aV l) l.length a),(11,ω (l.length:Int)),(12,ω (γ .i64 ((k:Int)+((1:Nat):Int)))),(3,ω (γ .i64 ((γ .i64 ((d:Int) - (τ (ζ (ε ((0+((δ x.op)*5))+1) jL) .dead))))+((1:Nat):Int))))],[(0,⟨[ω x.op,.bool x.neg,.str x.num,.str x.den,.str x.name],0,false,0,0,true⟩)],.dead,[]⟩:=pJ 44 [] 3 1 (.c m (.c n (.c j (.c e (.k 1 f (.k 11 g (.c c (.c i .nil)))))))) (.c p (.v 14 (.ppt b) .nil)) o
 h.forgetD 0 ⟨[ω x.op,.bool x.neg,.str x.num,.str x.den,.str x.name],0,false,0,0,true⟩ (by intro v h;cases h) (by decide) rfl ⟨Fz.same rfl,Fz.same rfl,Fz.same rfl,Fz.same rfl,trivial⟩ rfl rfl
theorem UN {nt:Nat} (a:35≤nt) (l:List Nd) (b:Bool) (k d:Nat) (w:Int) (c:lit false (decide ((k:Int)<(l.length:Int)))=true):ψ nt f44 ⟨[(10,.sl (aV l) l.length b),(11,ω (l.length:Int)),(12,ω (k:Int)),(3,ω (d:Int))],[],.dead,[]⟩ (.exit 0) ⟨[(3,ω (d:Int))],[],.dead,[]⟩:=pJ 44 [] 1 0 (.c c .nil) (.nil) a
theorem ag2 (l:List Nd) (b:Bool) (d:Nat) (a:lit true (decide (((60:Nat):Int)<(l.length:Int)))=true):CO 44 [.sl (aV l) l.length b] (.ret (ω 2)):=pK [0] 1 1 (.c a .nil) (.nil)
theorem ag3 (l:List Nd) (a:Bool) (d:Nat) (e:lit true (!((d:Int)==((1:Nat):Int)))=true) (b:lit false (decide (((60:Nat):Int)<(l.length:Int)))=true) (c:aG prog ap [] 35 (.block 0 (.loop (af 0 (ah f44)))) ⟨[(0,.sl (aV l) l.length a),(2,ω 0),(3,ω 0),(5,.dead),(6,.dead),(9,.bool (decide (((60:Nat):Int)<(l.length:Int)))),(10,.sl (aV l) l.length a),(11,ω (l.length:Int)),(12,ω 0),(13,.dead),(19,.dead),(29,.dead),(34,.dead)],[],.dead,[]⟩ (.normal) ⟨[(3,ω (d:Int))],[],.dead,[]⟩):CO 44 [.sl (aV l) l.length a] (.ret (ω 11)):=pK [0] 2 2 (.c e (.c b .nil)) (.l c .nil)
theorem ag4 (l:List Nd) (a:Bool) (d:Nat) (e:lit false (!((d:Int)==((1:Nat):Int)))=true) (b:lit false (decide (((60:Nat):Int)<(l.length:Int)))=true) (c:aG prog ap [] 35 (.block 0 (.loop (af 0 (ah f44)))) ⟨[(0,.sl (aV l) l.length a),(2,ω 0),(3,ω 0),(5,.dead),(6,.dead),(9,.bool (decide (((60:Nat):Int)<(l.length:Int)))),(10,.sl (aV l) l.length a),(11,ω (l.length:Int)),(12,ω 0),(13,.dead),(19,.dead),(29,.dead),(34,.dead)],[],.dead,[]⟩ (.normal) ⟨[(3,ω (d:Int))],[],.dead,[]⟩):CO 44 [.sl (aV l) l.length a] (.ret (ω 0)):=pK [0] 2 0 (.c e (.c b .nil)) (.l c .nil)
theorem ag5 (l:List Nd) (a:Bool) (w:Int) (c:lit false (decide (((60:Nat):Int)<(l.length:Int)))=true) (b:aG prog ap [] 35 (.block 0 (.loop (af 0 (ah f44)))) ⟨[(0,.sl (aV l) l.length a),(2,ω 0),(3,ω 0),(5,.dead),(6,.dead),(9,.bool (decide (((60:Nat):Int)<(l.length:Int)))),(10,.sl (aV l) l.length a),(11,ω (l.length:Int)),(12,ω 0),(13,.dead),(19,.dead),(29,.dead),(34,.dead)],[],.dead,[]⟩ (.ret) ⟨[(2,ω w)],[],.dead,[]⟩):CO 44 [.sl (aV l) l.length a] (.ret (ω w)):=pK [0] 1 0 (.c c .nil) (.l b .nil)
theorem aj_ {nt:Nat} (j:69≤nt) (l:List Nd) (b:Bool) (k d:Nat) (g o:Bool) (x:Nd) (r:List Nd) (a:(ε ((δ (k:Int))*5) (aV l))=nI x++aV r) (n:lit true (decide (x.op<((1:Nat):Int)))=true) (f:(decide (((0:Nat):Int)≤(k:Int)))=true) (i:(decide ((k:Int)<(l.length:Int)))=true) (c:lit true (decide ((k:Int)<(l.length:Int)))=true) (m:CO 82 [ω x.op] (.ret (.bool (iL x.op)))) (e:CO 83 [.agg [ω x.op,.bool x.neg,.str x.num,.str x.den,.str x.name]] (.ret (.bool g))):ψ nt f50 ⟨[(0,.sl (aV l) l.length b),(4,ω (k:Int)),(3,ω (d:Int))],[],.dead,[]⟩ (.ret) ⟨[(2,ω 11)],[],.dead,[]⟩:=
 have h:ψ nt f50 ⟨[(0,.sl (aV l) l.length b),(4,ω (k:Int)),(3,ω (d:Int))],[],.dead,[]⟩ (.ret) ⟨[(2,ω 11)],[(0,⟨[ω x.op,.bool x.neg,.str x.num,.str x.den,.str x.name],0,false,0,0,true⟩)],.dead,[]⟩:=pJ 50 [] 5 31 (.k 3 n (.k 13 f (.c i (.c c .nil)))) (.c e (.c m (.v 21 (.ppt a) .nil))) j
 h.forgetD 0 ⟨[ω x.op,.bool x.neg,.str x.num,.str x.den,.str x.name],0,false,0,0,true⟩ (by intro v h;cases h) (by decide) rfl ⟨Fz.same rfl,trivial⟩ rfl rfl
theorem aka {nt:Nat} (m:69≤nt) (l:List Nd) (b:Bool) (k d:Nat) (i p:Bool) (x:Nd) (r:List Nd) (a:(ε ((δ (k:Int))*5) (aV l))=nI x++aV r) (o:lit true (decide (((24:Nat):Int)<x.op))=true) (g:lit false (decide (x.op<((1:Nat):Int)))=true) (j:(decide (((0:Nat):Int)≤(k:Int)))=true) (c:(decide ((k:Int)<(l.length:Int)))=true) (e:lit true (decide ((k:Int)<(l.length:Int)))=true) (n:CO 82 [ω x.op] (.ret (.bool (iL x.op)))) (f:CO 83 [.agg [ω x.op,.bool x.neg,.str x.num,.str x.den,.str x.name]] (.ret (.bool i))):ψ nt f50 ⟨[(0,.sl (aV l) l.length b),(4,ω (k:Int)),(3,ω (d:Int))],[],.dead,[]⟩ (.ret) ⟨[(2,ω 11)],[],.dead,[]⟩:=
 have h:ψ nt f50 ⟨[(0,.sl (aV l) l.length b),(4,ω (k:Int)),(3,ω (d:Int))],[],.dead,[]⟩ (.ret) ⟨[(2,ω 11)],[(0,⟨[ω x.op,.bool x.neg,.str x.num,.str x.den,.str x.name],0,false,0,0,true⟩)],.dead,[]⟩:=pJ 50 [] 5 29 (.k 2 o (.k 1 g (.k 13 j (.c c (.c e .nil))))) (.c f (.c n (.v 21 (.ppt a) .nil))) m
 h.forgetD 0 ⟨[ω x.op,.bool x.neg,.str x.num,.str x.den,.str x.name],0,false,0,0,true⟩ (by intro v h;cases h) (by decide) rfl ⟨Fz.same rfl,trivial⟩ rfl rfl
theorem akb {nt:Nat} (o:69≤nt) (l:List Nd) (c:Bool) (k d:Nat) (b q:Bool) (x:Nd) (r:List Nd) (a:(ε ((δ (k:Int))*5) (aV l))=nI x++aV r) (j:lit true (!b)=true) (n:lit false (decide (((24:Nat):Int)<x.op))=true) (i:lit false (decide (x.op<((1:Nat):Int)))=true) (e:(decide (((0:Nat):Int)≤(k:Int)))=true) (f:(decide ((k:Int)<(l.length:Int)))=true) (g:lit true (decide ((k:Int)<(l.length:Int)))=true) (p:CO 82 [ω x.op] (.ret (.bool (iL x.op)))) (m:CO 83 [.agg [ω x.op,.bool x.neg,.str x.num,.str x.den,.str x.name]] (.ret (.bool b))):ψ nt f50 ⟨[(0,.sl (aV l) l.length c),(4,ω (k:Int)),(3,ω (d:Int))],[],.dead,[]⟩ (.ret) ⟨[(2,ω 11)],[],.dead,[]⟩:=
 have h:ψ nt f50 ⟨[(0,.sl (aV l) l.length c),(4,ω (k:Int)),(3,ω (d:Int))],[],.dead,[]⟩ (.ret) ⟨[(2,ω 11)],[(0,⟨[ω x.op,.bool x.neg,.str x.num,.str x.den,.str x.name],0,false,0,0,true⟩)],.dead,[]⟩:=pJ 50 [] 5 25 (.k 1 j (.c n (.k 1 i (.k 13 e (.c f (.c g .nil)))))) (.c m (.c p (.v 21 (.ppt a) .nil))) o
 h.forgetD 0 ⟨[ω x.op,.bool x.neg,.str x.num,.str x.den,.str x.name],0,false,0,0,true⟩ (by intro v h;cases h) (by decide) rfl ⟨Fz.same rfl,trivial⟩ rfl rfl
theorem akc {nt:Nat} (q:69≤nt) (l:List Nd) (c:Bool) (k d:Nat) (b t:Bool) (x:Nd) (r:List Nd) (a:(ε ((δ (k:Int))*5) (aV l))=nI x++aV r) (n:lit true (!(x.name== []))=true) (p:lit true (!(iL x.op))=true) (m:lit false (!b)=true) (f:lit false (decide (((24:Nat):Int)<x.op))=true) (g:lit false (decide (x.op<((1:Nat):Int)))=true) (i:(decide (((0:Nat):Int)≤(k:Int)))=true) (e:(decide ((k:Int)<(l.length:Int)))=true) (j:lit true (decide ((k:Int)<(l.length:Int)))=true) (s:CO 82 [ω x.op] (.ret (.bool (iL x.op)))) (o:CO 83 [.agg [ω x.op,.bool x.neg,.str x.num,.str x.den,.str x.name]] (.ret (.bool b))):ψ nt f50 ⟨[(0,.sl (aV l) l.length c),(4,ω (k:Int)),(3,ω (d:Int))],[],.dead,[]⟩ (.ret) ⟨[(2,ω 11)],[],.dead,[]⟩:=
 have h:ψ nt f50 ⟨[(0,.sl (aV l) l.length c),(4,ω (k:Int)),(3,ω (d:Int))],[],.dead,[]⟩ (.ret) ⟨[(2,ω 11)],[(0,⟨[ω x.op,.bool x.neg,.str x.num,.str x.den,.str x.name],0,false,0,0,true⟩)],.dead,[]⟩:=pJ 50 [] 6 49 (.c n (.k 1 p (.c m (.c f (.k 1 g (.k 13 i (.c e (.c j .nil)))))))) (.c o (.c s (.v 21 (.ppt a) .nil))) q
 h.forgetD 0 ⟨[ω x.op,.bool x.neg,.str x.num,.str x.den,.str x.name],0,false,0,0,true⟩ (by intro v h;cases h) (by decide) rfl ⟨Fz.same rfl,trivial⟩ rfl rfl
theorem akd {nt:Nat} (y:69≤nt) (l:List Nd) (c:Bool) (k d:Nat) (b m:Bool) (x:Nd) (r:List Nd) (a:(ε ((δ (k:Int))*5) (aV l))=nI x++aV r) (p:lit true (decide ((d:Int)<(((dD x.op):Nat):Int)))=true) (w:lit false (iL x.op)=true) (o:lit false (!(x.name== []))=true) (g:lit true (!(iL x.op))=true) (i:lit false (!b)=true) (j:lit false (decide (((24:Nat):Int)<x.op))=true) (f:lit false (decide (x.op<((1:Nat):Int)))=true) (n:(decide (((0:Nat):Int)≤(k:Int)))=true) (t:(decide ((k:Int)<(l.length:Int)))=true) (e:lit true (decide ((k:Int)<(l.length:Int)))=true) (z:CO 82 [ω x.op] (.ret (.bool (iL x.op)))) (u:CO 83 [.agg [ω x.op,.bool x.neg,.str x.num,.str x.den,.str x.name]] (.ret (.bool b))) (q:CO 84 [.str x.name] (.ret (.bool m))) (s:CO 85 [ω x.op] (.ret (ω (((dD x.op):Nat):Int)))):ψ nt f50 ⟨[(0,.sl (aV l) l.length c),(4,ω (k:Int)),(3,ω (d:Int))],[],.dead,[]⟩ (.ret) ⟨[(2,ω 11)],[],.dead,[]⟩:=
 have h:ψ nt f50 ⟨[(0,.sl (aV l) l.length c),(4,ω (k:Int)),(3,ω (d:Int))],[],.dead,[]⟩ (.ret) ⟨[(2,ω 11)],[(0,⟨[ω x.op,.bool x.neg,.str x.num,.str x.den,.str x.name],0,false,0,0,true⟩)],.dead,[]⟩:=pJ 50 [] 9 273 (.c p (.k 2 w (.k 1 o (.k 1 g (.c i (.c j (.k 1 f (.k 13 n (.c t (.c e .nil)))))))))) (.c s (.c q (.c u (.c z (.v 21 (.ppt a) .nil))))) y
 h.forgetD 0 ⟨[ω x.op,.bool x.neg,.str x.num,.str x.den,.str x.name],0,false,0,0,true⟩ (by intro v h;cases h) (by decide) rfl ⟨Fz.same rfl,trivial⟩ rfl rfl
theorem ake {nt:Nat} (y:69≤nt) (l:List Nd) (a:Bool) (k d:Nat) (c m:Bool) (x:Nd) (r:List Nd) (b:(ε ((δ (k:Int))*5) (aV l))=nI x++aV r) (p:lit false (decide ((d:Int)<(((dD x.op):Nat):Int)))=true) (w:lit false (iL x.op)=true) (o:lit false (!(x.name== []))=true) (g:lit true (!(iL x.op))=true) (i:lit false (!c)=true) (j:lit false (decide (((24:Nat):Int)<x.op))=true) (f:lit false (decide (x.op<((1:Nat):Int)))=true) (n:(decide (((0:Nat):Int)≤(k:Int)))=true) (t:(decide ((k:Int)<(l.length:Int)))=true) (e:lit true (decide ((k:Int)<(l.length:Int)))=true) (z:CO 82 [ω x.op] (.ret (.bool (iL x.op)))) (u:CO 83 [.agg [ω x.op,.bool x.neg,.str x.num,.str x.den,.str x.name]] (.ret (.bool c))) (q:CO 84 [.str x.name] (.ret (.bool m))) (s:CO 85 [ω x.op] (.ret (ω (((dD x.op):Nat):Int)))):ψ nt f50 ⟨[(0,.sl (aV l) l.length a),(4,ω (k:Int)),(3,ω (d:Int))],[],.dead,[]⟩ (.normal) ⟨[(0,.sl (aV l) l.length a),(4,ω (γ .i64 ((k:Int)+((1:Nat):Int)))),(3,ω (γ .i64 ((γ .i64 ((d:Int) - (((dD x.op):Nat):Int)))+((1:Nat):Int))))],[],.dead,[]⟩:=
 have h:ψ nt f50 ⟨[(0,.sl (aV l) l.length a),(4,ω (k:Int)),(3,ω (d:Int))],[],.dead,[]⟩ (.normal) ⟨[(0,.sl (aV l) l.length a),(4,ω (γ .i64 ((k:Int)+((1:Nat):Int)))),(3,ω (γ .i64 ((γ .i64 ((d:Int) - (((dD x.op):Nat):Int)))+((1:Nat):Int))))],[(0,⟨[ω x.op,.bool x.neg,.str x.num,.str x.den,.str x.name],0,false,0,0,true⟩)],.dead,[]⟩:=pJ 50 [] 9 17 (.c p (.k 2 w (.k 1 o (.k 1 g (.c i (.c j (.k 1 f (.k 13 n (.c t (.c e .nil)))))))))) (.c s (.c q (.c u (.c z (.v 21 (.ppt b) .nil))))) y
 h.forgetD 0 ⟨[ω x.op,.bool x.neg,.str x.num,.str x.den,.str x.name],0,false,0,0,true⟩ (by intro v h;cases h) (by decide) rfl ⟨Fz.same rfl,Fz.same rfl,Fz.same rfl,trivial⟩ rfl rfl
theorem akf {nt:Nat} (u:69≤nt) (l:List Nd) (e:Bool) (k d:Nat) (c b:Bool) (x:Nd) (r:List Nd) (a:(ε ((δ (k:Int))*5) (aV l))=nI x++aV r) (o:lit true (!b)=true) (t:lit true (iL x.op)=true) (n:lit false (!(iL x.op))=true) (g:lit false (!c)=true) (i:lit false (decide (((24:Nat):Int)<x.op))=true) (j:lit false (decide (x.op<((1:Nat):Int)))=true) (f:(decide (((0:Nat):Int)≤(k:Int)))=true) (m:(decide ((k:Int)<(l.length:Int)))=true) (q:lit true (decide ((k:Int)<(l.length:Int)))=true) (w:CO 82 [ω x.op] (.ret (.bool (iL x.op)))) (s:CO 83 [.agg [ω x.op,.bool x.neg,.str x.num,.str x.den,.str x.name]] (.ret (.bool c))) (p:CO 84 [.str x.name] (.ret (.bool b))):ψ nt f50 ⟨[(0,.sl (aV l) l.length e),(4,ω (k:Int)),(3,ω (d:Int))],[],.dead,[]⟩ (.ret) ⟨[(2,ω 12)],[],.dead,[]⟩:=
 have h:ψ nt f50 ⟨[(0,.sl (aV l) l.length e),(4,ω (k:Int)),(3,ω (d:Int))],[],.dead,[]⟩ (.ret) ⟨[(2,ω 12)],[(0,⟨[ω x.op,.bool x.neg,.str x.num,.str x.den,.str x.name],0,false,0,0,true⟩)],.dead,[]⟩:=pJ 50 [] 8 193 (.c o (.c t (.k 2 n (.c g (.c i (.k 1 j (.k 13 f (.c m (.c q .nil))))))))) (.c p (.c s (.c w (.v 21 (.ppt a) .nil)))) u
 h.forgetD 0 ⟨[ω x.op,.bool x.neg,.str x.num,.str x.den,.str x.name],0,false,0,0,true⟩ (by intro v h;cases h) (by decide) rfl ⟨Fz.same rfl,trivial⟩ rfl rfl
theorem akg {nt:Nat} (y:69≤nt) (l:List Nd) (e:Bool) (k d:Nat) (c b:Bool) (x:Nd) (r:List Nd) (a:(ε ((δ (k:Int))*5) (aV l))=nI x++aV r) (p:lit true (decide ((d:Int)<(((dD x.op):Nat):Int)))=true) (w:lit false (!b)=true) (o:lit true (iL x.op)=true) (i:lit false (!(iL x.op))=true) (j:lit false (!c)=true) (m:lit false (decide (((24:Nat):Int)<x.op))=true) (g:lit false (decide (x.op<((1:Nat):Int)))=true) (n:(decide (((0:Nat):Int)≤(k:Int)))=true) (t:(decide ((k:Int)<(l.length:Int)))=true) (f:lit true (decide ((k:Int)<(l.length:Int)))=true) (z:CO 82 [ω x.op] (.ret (.bool (iL x.op)))) (u:CO 83 [.agg [ω x.op,.bool x.neg,.str x.num,.str x.den,.str x.name]] (.ret (.bool c))) (q:CO 84 [.str x.name] (.ret (.bool b))) (s:CO 85 [ω x.op] (.ret (ω (((dD x.op):Nat):Int)))):ψ nt f50 ⟨[(0,.sl (aV l) l.length e),(4,ω (k:Int)),(3,ω (d:Int))],[],.dead,[]⟩ (.ret) ⟨[(2,ω 11)],[],.dead,[]⟩:=
 have h:ψ nt f50 ⟨[(0,.sl (aV l) l.length e),(4,ω (k:Int)),(3,ω (d:Int))],[],.dead,[]⟩ (.ret) ⟨[(2,ω 11)],[(0,⟨[ω x.op,.bool x.neg,.str x.num,.str x.den,.str x.name],0,false,0,0,true⟩)],.dead,[]⟩:=pJ 50 [] 9 321 (.c p (.k 1 w (.c o (.k 2 i (.c j (.c m (.k 1 g (.k 13 n (.c t (.c f .nil)))))))))) (.c s (.c q (.c u (.c z (.v 21 (.ppt a) .nil))))) y
 h.forgetD 0 ⟨[ω x.op,.bool x.neg,.str x.num,.str x.den,.str x.name],0,false,0,0,true⟩ (by intro v h;cases h) (by decide) rfl ⟨Fz.same rfl,trivial⟩ rfl rfl
theorem akh {nt:Nat} (y:69≤nt) (l:List Nd) (a:Bool) (k d:Nat) (e c:Bool) (x:Nd) (r:List Nd) (b:(ε ((δ (k:Int))*5) (aV l))=nI x++aV r) (p:lit false (decide ((d:Int)<(((dD x.op):Nat):Int)))=true) (w:lit false (!c)=true) (o:lit true (iL x.op)=true) (i:lit false (!(iL x.op))=true) (j:lit false (!e)=true) (m:lit false (decide (((24:Nat):Int)<x.op))=true) (g:lit false (decide (x.op<((1:Nat):Int)))=true) (n:(decide (((0:Nat):Int)≤(k:Int)))=true) (t:(decide ((k:Int)<(l.length:Int)))=true) (f:lit true (decide ((k:Int)<(l.length:Int)))=true) (z:CO 82 [ω x.op] (.ret (.bool (iL x.op)))) (u:CO 83 [.agg [ω x.op,.bool x.neg,.str x.num,.str x.den,.str x.name]] (.ret (.bool e))) (q:CO 84 [.str x.name] (.ret (.bool c))) (s:CO 85 [ω x.op] (.ret (ω (((dD x.op):Nat):Int)))):ψ nt f50 ⟨[(0,.sl (aV l) l.length a),(4,ω (k:Int)),(3,ω (d:Int))],[],.dead,[]⟩ (.normal) ⟨[(0,.sl (aV l) l.length a),(4,ω (γ .i64 ((k:Int)+((1:Nat):Int)))),(3,ω (γ .i64 ((γ .i64 ((d:Int) - (((dD x.op):Nat):Int)))+((1:Nat):Int))))],[],.dead,[]⟩:=
 have h:ψ nt f50 ⟨[(0,.sl (aV l) l.length a),(4,ω (k:Int)),(3,ω (d:Int))],[],.dead,[]⟩ (.normal) ⟨[(0,.sl (aV l) l.length a),(4,ω (γ .i64 ((k:Int)+((1:Nat):Int)))),(3,ω (γ .i64 ((γ .i64 ((d:Int) - (((dD x.op):Nat):Int)))+((1:Nat):Int))))],[(0,⟨[ω x.op,.bool x.neg,.str x.num,.str x.den,.str x.name],0,false,0,0,true⟩)],.dead,[]⟩:=pJ 50 [] 9 65 (.c p (.k 1 w (.c o (.k 2 i (.c j (.c m (.k 1 g (.k 13 n (.c t (.c f .nil)))))))))) (.c s (.c q (.c u (.c z (.v 21 (.ppt b) .nil))))) y
 h.forgetD 0 ⟨[ω x.op,.bool x.neg,.str x.num,.str x.den,.str x.name],0,false,0,0,true⟩ (by intro v h;cases h) (by decide) rfl ⟨Fz.same rfl,Fz.same rfl,Fz.same rfl,trivial⟩ rfl rfl
theorem Tj {nt:Nat} (a:69≤nt) (l:List Nd) (b:Bool) (k d:Nat) (f e:Bool) (c:lit false (decide ((k:Int)<(l.length:Int)))=true):ψ nt f50 ⟨[(0,.sl (aV l) l.length b),(4,ω (k:Int)),(3,ω (d:Int))],[],.dead,[]⟩ (.exit 0) ⟨[(3,ω (d:Int))],[],.dead,[]⟩:=pJ 50 [] 1 0 (.c c .nil) (.nil) a
theorem ae3 (l:List Nd) (b:Bool) (d:Nat) (a:lit true (decide (((60:Nat):Int)<(l.length:Int)))=true):CO 50 [.sl (aV l) l.length b] (.ret (ω 2)):=pK [0] 1 1 (.c a .nil) (.nil)
theorem ae4 (l:List Nd) (a:Bool) (d:Nat) (e:lit true (!((d:Int)==((1:Nat):Int)))=true) (b:lit false (decide (((60:Nat):Int)<(l.length:Int)))=true) (c:aG prog ap [] 69 (.block 0 (.loop (af 0 (ah f50)))) ⟨[(0,.sl (aV l) l.length a),(2,ω 0),(3,ω 0),(4,ω 0),(5,.dead),(6,.dead),(7,.dead),(8,.dead),(9,.dead),(12,.bool (decide (((60:Nat):Int)<(l.length:Int)))),(16,.dead),(48,.dead),(56,.dead),(62,.dead),(68,.dead)],[],.dead,[]⟩ (.normal) ⟨[(3,ω (d:Int))],[],.dead,[]⟩):CO 50 [.sl (aV l) l.length a] (.ret (ω 11)):=pK [0] 2 2 (.c e (.c b .nil)) (.l c .nil)
theorem ae5 (l:List Nd) (a:Bool) (d:Nat) (e:lit false (!((d:Int)==((1:Nat):Int)))=true) (b:lit false (decide (((60:Nat):Int)<(l.length:Int)))=true) (c:aG prog ap [] 69 (.block 0 (.loop (af 0 (ah f50)))) ⟨[(0,.sl (aV l) l.length a),(2,ω 0),(3,ω 0),(4,ω 0),(5,.dead),(6,.dead),(7,.dead),(8,.dead),(9,.dead),(12,.bool (decide (((60:Nat):Int)<(l.length:Int)))),(16,.dead),(48,.dead),(56,.dead),(62,.dead),(68,.dead)],[],.dead,[]⟩ (.normal) ⟨[(3,ω (d:Int))],[],.dead,[]⟩):CO 50 [.sl (aV l) l.length a] (.ret (ω 0)):=pK [0] 2 0 (.c e (.c b .nil)) (.l c .nil)
theorem ae6 (l:List Nd) (a:Bool) (w:Int) (c:lit false (decide (((60:Nat):Int)<(l.length:Int)))=true) (b:aG prog ap [] 69 (.block 0 (.loop (af 0 (ah f50)))) ⟨[(0,.sl (aV l) l.length a),(2,ω 0),(3,ω 0),(4,ω 0),(5,.dead),(6,.dead),(7,.dead),(8,.dead),(9,.dead),(12,.bool (decide (((60:Nat):Int)<(l.length:Int)))),(16,.dead),(48,.dead),(56,.dead),(62,.dead),(68,.dead)],[],.dead,[]⟩ (.ret) ⟨[(2,ω w)],[],.dead,[]⟩):CO 50 [.sl (aV l) l.length a] (.ret (ω w)):=pK [0] 1 0 (.c c .nil) (.l b .nil)
theorem Le (x:Nd) (r:List Nd):aV (x::r)=nI x++aV r:=rfl
theorem ZX (a b:List Nd):aV (a++b)=aV a++aV b:=by unfold aV;rw [List.flatMap_append]
theorem vz (l:List Nd):(aV l).length=l.length*5:=by
 induction l with
 |nil=>rfl
 |cons x r ih=>rw [Le,θ,ih,μ];simp [nI];omega
theorem vC {p r:List Nd} {x:Nd} {k:Nat} (h:k=p.length):ε (δ (k:Int)*5) (aV (p++x::r))=nI x++aV r:=by
 subst h;rw [aB,ZX,Le,← vz,List.drop_left]
def je:List Nd→Nat→Nat ⊕ Int
 | [],d=> .inl d
 |x::r,d=>if aI x=0 then (if d<dD x.op then .inr 11 else je r (d - dD x.op+1)) else .inr (aI x)
def b_ (l:List Nd):Int:=if 60<l.length then 2 else match je l 0 with| .inl d=>if d=1 then 0 else 11| .inr w=>w
def J7:Nat ⊕ Int→bG
 | .inl _=> .exit 0
 | .inr _=> .ret
def Rx (l:List Nd) (nn:Bool) (p:Nat × Nat):St:=⟨[(10,.sl (aV l) l.length nn),(11,ω (l.length:Int)),(12,ω (p.1:Int)),(3,ω (p.2:Int))],[],.dead,[]⟩
def Be:Nat ⊕ Int→St
 | .inl d=> ⟨[(3,.int .i64 (d:Int))],[],.dead,[]⟩
 | .inr w=> ⟨[(2,.int .i64 w)],[],.dead,[]⟩
theorem wR (a:Int):dD a≤3:=by unfold dD;(repeat' split)<;>omega
theorem ry {x:Nd} (h:aI x=0):1≤x.op∧x.op≤24:=by
 cases a:P6 x.op with
 |true=>simpa [P6] using a
 |false=>unfold aI at h;rw [a] at h;simp at h
theorem UO {nt:Nat} (j:35≤nt) (l p r:List Nd) (e:Bool) (x:Nd) (d:Nat) (s:x.sm) (n:l=p++x::r) (u:l.length<2^40) (hd:d<2^41):
  (¬ aI x=0→ψ nt f44 (Rx l e (p.length,d)) .ret (Be (.inr (aI x))))∧
  (aI x=0→d<dD x.op→ψ nt f44 (Rx l e (p.length,d)) .ret (Be (.inr 11)))∧
  (aI x=0→¬ d<dD x.op→ψ nt f44 (Rx l e (p.length,d)) .normal (Rx l e (p.length+1,d - dD x.op+1))):=by
 have b:ε (δ (p.length:Int)*5) (aV l)=nI x++aV r:=by rw [n];exact vC rfl
 have m:p.length+(r.length+1)=l.length:=by rw [n];simp
 have o:=X6 x s;have q:=wR x.op;unfold Rx Be;refine ⟨fun c=> ?_,fun c t=> ?_,fun c t=> ?_⟩
 ·have a:=ama j l e p.length d (aI x) x r b;have h:(!(aI x==((0:Nat):Int)))=true:=by simpa using c
  simp (disch:=first|omega|(simp [au,ay]<;>omega)) only [h,bu,dw,a_,aW] at a;apply a<;>first|exact True.intro|omega|assumption|exact rfl
 ·obtain ⟨g,k⟩:=ry c;have f:=O1 g k;rw [c] at o;have a:=amb j l e p.length d 0 x r b;have i:γ .i64 ((d:Int) - ((dD x.op:Nat):Int))=(d:Int) - (dD x.op:Int):=dC (by omega) (by omega);simp (disch:=first|omega|(simp [au,ay]<;>omega)) only [Xqf,f,aY,i,bu,a_,dU,dH,dQ,BI,dw,aW] at a;apply a<;>first|exact True.intro|omega|assumption|exact rfl
 ·obtain ⟨g,k⟩:=ry c;have f:=O1 g k;rw [c] at o;have a:=amc j l e p.length d 0 x r b;have i:γ .i64 ((d:Int) - ((dD x.op:Nat):Int))=((d - dD x.op:Nat):Int):=by rw [dC]<;>omega
  simp (disch:=first|omega|(simp [au,ay]<;>omega)) only [Xqf,f,aY,i,aW,dH,dQ,eG,dU,a_,BI,dw,bu,bJ,aO] at a;apply a<;>first|exact True.intro|omega|assumption|exact rfl
theorem YC {nt:Nat} (e:35≤nt) (l:List Nd) (b:Bool) (c:l.length<2^40) (a:∀ x ∈ l,x.sm):∀ (r p:List Nd) (d:Nat),p++r=l→d≤p.length→az prog ap [] nt (af 0 (ah f44)) J7 (Rx l b) Be (p.length,d) (je r d):=by
 intro r
 induction r with
 |nil=>
  intro p d h _;have hp:p.length=l.length:=by rw [← h];simp
  rw [hp];exact .done (UN e l b l.length d 0 (by rw [aW];simp [lit]))
 | cons x r ih=>
  intro p d h hd;have j:p.length+(r.length+1)=l.length:=by rw [← h];simp
  obtain ⟨i,f,g⟩:=UO e l p r b x d (a x (by rw [← h];simp)) h.symm c (by omega);simp only [je];by_cases h1:aI x=0
  ·rw [if_pos h1];by_cases h2:d<dD x.op
   ·rw [if_pos h2];exact .done (f h1 h2)
   ·rw [if_neg h2];have hnext:=ih (p++ [x]) (d - dD x.op+1) (by simp [h]) (by simp;omega);rw [θ,σ] at hnext;exact .next (g h1 h2) hnext
  ·rw [if_neg h1];exact .done (i h1)
theorem DI (l:List Nd) (a:Bool) (b:∀ x ∈ l,x.sm):CO 44 [.sl (aV l) l.length a] (.ret (ω (b_ l))):=by
 unfold b_;by_cases h60:60<l.length
 ·rw [if_pos h60];exact ag2 l a 0 (by rw [aW];exact Yq0 h60)
 ·rw [if_neg h60];have c:lit false (decide (((60:Nat):Int)<(l.length:Int)))=true:=by rw [aW];simp only [lit,Xqo];exact Yq1 h60
  have hloop:=fun nt (hn:35≤nt)=>YC hn l a (by omega) b l [] 0 rfl (by simp)
  cases e:je l 0 with
  | inl d=>
   rw [e] at hloop;by_cases hd:d=1
   ·have h:=ag4 l a d (by rw [jG,Yq0 hd];rfl) c;simp only [if_pos hd];exact h (az.blk hloop (by simp [J7]) rfl (aH.of ⟨rfl,rfl,rfl,rfl,trivial⟩) (aH.of ⟨rfl,trivial⟩))
   ·have h:=ag3 l a d (by rw [jG,Yq1 hd];rfl) c;simp only [if_neg hd];exact h (az.blk hloop (by simp [J7]) rfl (aH.of ⟨rfl,rfl,rfl,rfl,trivial⟩) (aH.of ⟨rfl,trivial⟩))
  |inr w=>
   rw [e] at hloop;exact ag5 l a w c (az.blk hloop (by simp [J7]) rfl (aH.of ⟨rfl,rfl,rfl,rfl,trivial⟩) (aH.of ⟨rfl,trivial⟩))
def Hz (l:List Nd) (nn:Bool) (p:Nat × Nat):St:=⟨[(0,.sl (aV l) l.length nn),(4,ω (p.1:Int)),(3,ω (p.2:Int))],[],.dead,[]⟩
theorem FY {x:Nd} (h:P6 x.op=false∨fQ x=false∨(iL x.op=false∧(x.name== [])=false)):aI x=11:=by
 unfold aI;rcases h with h|h|⟨h,a⟩
 ·rw [h];rfl
 ·rw [h];cases (!P6 x.op||(!iL x.op && !(x.name== [])))<;>rfl
 ·rw [h,a];cases P6 x.op<;>rfl
theorem Tn {nt:Nat} (k:69≤nt) (l p r:List Nd) (e:Bool) (x:Nd) (d:Nat) (C:x.sm) (z:l=p++x::r) (D:l.length<2^40) (hd:d<2^41):
  (¬ aI x=0→ψ nt f50 (Hz l e (p.length,d)) .ret (Be (.inr (aI x))))∧
  (aI x=0→d<dD x.op→ψ nt f50 (Hz l e (p.length,d)) .ret (Be (.inr 11)))∧
  (aI x=0→¬ d<dD x.op→ψ nt f50 (Hz l e (p.length,d)) .normal (Hz l e (p.length+1,d - dD x.op+1))):=by
 have b:ε (δ (p.length:Int)*5) (aV l)=nI x++aV r:=by rw [z];exact vC rfl
 have y:p.length+(r.length+1)=l.length:=by rw [z];simp
 have k0:=ZN x.op;have k1:=Lm x C;have k2:=Xh x.name;have k3:=Pm x.op;have B:=wR x.op;have n:decide (((0:Nat):Int)≤(p.length:Int))=true:=by simp
 have i:decide ((p.length:Int)<(l.length:Int))=true:=by rw [aW];exact Yq0 (by omega)
 have o:lit true (decide ((p.length:Int)<(l.length:Int)))=true:=i;have A:¬ d<dD x.op→γ .i64 ((d:Int) - ((dD x.op:Nat):Int))=((d - dD x.op:Nat):Int):=fun h=>by rw [dC]<;>omega
 unfold Hz Be;cases t:P6 x.op with
 | false=>
  have f:aI x=11:=FY (.inl t);rw [f];refine ⟨fun _=> ?_,fun c=>(by simp at c),fun c=>(by simp at c)⟩;have w:x.op<1∨24<x.op:=by
   have:¬ (1≤x.op∧x.op≤24):=by simpa [P6] using t
   omega
  by_cases c:x.op<1
  ·exact aj_ k l e p.length d (fQ x) true x r b (by simp [lit];omega) n i o k0 k1
  ·exact aka k l e p.length d (fQ x) true x r b (by simp [lit];omega) (by simp [lit];omega) n i o k0 k1
 | true=>
  have w:1≤x.op∧x.op≤24:=by simpa [P6] using t
  have q:lit false (decide (((24:Nat):Int)<x.op))=true:=by simp [lit];omega
  have s:lit false (decide (x.op<((1:Nat):Int)))=true:=by simp [lit];omega
  cases u:fQ x with
  |false=>
   have f:aI x=11:=FY (.inr (.inl u));rw [f];rw [u] at k1;refine ⟨fun _=> ?_,fun c=>(by simp at c),fun c=>(by simp at c)⟩;exact akb k l e p.length d false true x r b rfl q s n i o k0 k1
  | true=>
   rw [u] at k1;cases a:iL x.op with
   | false=>
    rw [a] at k0;cases g:(x.name== []) with
    |false=>
     have f:aI x=11:=FY (.inr (.inr ⟨a,g⟩));rw [f];refine ⟨fun _=> ?_,fun c=>(by simp at c),fun c=>(by simp at c)⟩;exact akc k l e p.length d true true x r b (by rw [g];rfl) (by rw [a];rfl) rfl q s n i o (by rw [a];exact k0) k1
    | true=>
     have f:aI x=0:=by unfold aI;rw [t,a,g,u];rfl
     refine ⟨fun h=>absurd f h,fun _ m=> ?_,fun _ m=> ?_⟩
     ·exact akd k l e p.length d true _ x r b (by rw [aW,Yq0 m];rfl) (by rw [a];rfl) (by rw [g];rfl) (by rw [a];rfl) rfl q s n i o (by rw [a];exact k0) k1 k2 k3
     ·have v:=ake k l e p.length d true _ x r b (by rw [aW,Yq1 m];rfl) (by rw [a];rfl) (by rw [g];rfl) (by rw [a];rfl) rfl q s n i o (by rw [a];exact k0) k1 k2 k3;rw [A m,zl (by omega),zl (by omega)] at v;exact v
   | true=>
    rw [a] at k0;cases j:uz x.name with
    |false=>
     have f:aI x=12:=by unfold aI;rw [t,a,u,j];rfl
     rw [f];rw [j] at k2;refine ⟨fun _=> ?_,fun c=>(by simp at c),fun c=>(by simp at c)⟩;exact akf k l e p.length d true false x r b rfl (by rw [a];rfl) (by rw [a];rfl) rfl q s n i o (by rw [a];exact k0) k1 k2
    | true=>
     have f:aI x=0:=by unfold aI;rw [t,a,u,j];rfl
     rw [j] at k2;refine ⟨fun h=>absurd f h,fun _ m=> ?_,fun _ m=> ?_⟩
     ·exact akg k l e p.length d true true x r b (by rw [aW,Yq0 m];rfl) rfl (by rw [a];rfl) (by rw [a];rfl) rfl q s n i o (by rw [a];exact k0) k1 k2 k3
     ·have v:=akh k l e p.length d true true x r b (by rw [aW,Yq1 m];rfl) rfl (by rw [a];rfl) (by rw [a];rfl) rfl q s n i o (by rw [a];exact k0) k1 k2 k3;rw [A m,zl (by omega),zl (by omega)] at v;exact v
theorem W9 {nt:Nat} (e:69≤nt) (l:List Nd) (b:Bool) (c:l.length<2^40) (a:∀ x ∈ l,x.sm):∀ (r p:List Nd) (d:Nat),p++r=l→d≤p.length→az prog ap [] nt (af 0 (ah f50)) J7 (Hz l b) Be (p.length,d) (je r d):=by
 intro r
 induction r with
 |nil=>
  intro p d h _;have hp:p.length=l.length:=by rw [← h];simp
  rw [hp];exact .done (Tj e l b l.length d true true (by rw [aW];simp [lit]))
 | cons x r ih=>
  intro p d h hd;have j:p.length+(r.length+1)=l.length:=by rw [← h];simp
  obtain ⟨i,f,g⟩:=Tn e l p r b x d (a x (by rw [← h];simp)) h.symm c (by omega);simp only [je];by_cases h1:aI x=0
  ·rw [if_pos h1];by_cases h2:d<dD x.op
   ·rw [if_pos h2];exact .done (f h1 h2)
   ·rw [if_neg h2];have hnext:=ih (p++ [x]) (d - dD x.op+1) (by simp [h]) (by simp;omega);rw [θ,σ] at hnext;exact .next (g h1 h2) hnext
  ·rw [if_neg h1];exact .done (i h1)
theorem Ak (l:List Nd) (a:Bool) (b:∀ x ∈ l,x.sm):CO 50 [.sl (aV l) l.length a] (.ret (ω (b_ l))):=by
 unfold b_;by_cases h60:60<l.length
 ·rw [if_pos h60];exact ae3 l a 0 (by rw [aW];exact Yq0 h60)
 ·rw [if_neg h60];have c:lit false (decide (((60:Nat):Int)<(l.length:Int)))=true:=by rw [aW];simp only [lit,Xqo];exact Yq1 h60
  have hloop:=fun nt (hn:69≤nt)=>W9 hn l a (by omega) b l [] 0 rfl (by simp)
  cases e:je l 0 with
  | inl d=>
   rw [e] at hloop;by_cases hd:d=1
   ·have h:=ae5 l a d (by rw [jG,Yq0 hd];rfl) c;simp only [if_pos hd];exact h (az.blk hloop (by simp [J7]) rfl (aH.of ⟨rfl,rfl,rfl,trivial⟩) (aH.of ⟨rfl,trivial⟩))
   ·have h:=ae4 l a d (by rw [jG,Yq1 hd];rfl) c;simp only [if_neg hd];exact h (az.blk hloop (by simp [J7]) rfl (aH.of ⟨rfl,rfl,rfl,trivial⟩) (aH.of ⟨rfl,trivial⟩))
  |inr w=>
   rw [e] at hloop;exact ae6 l a w c (az.blk hloop (by simp [J7]) rfl (aH.of ⟨rfl,rfl,rfl,trivial⟩) (aH.of ⟨rfl,trivial⟩))
theorem agK {nt:Nat} (n:45≤nt) (l:List Nd) (a:Bool) (k:Nat) (C:List AV) (p own:List Nat) (x:Nd) (r:List Nd) (b:(ε ((δ (k:Int))*5) (aV l))=nI x++aV r) (e:(decide ((γ .i64 (((0:Nat):Int) - (τ (ζ (ε ((0+((δ x.op)*5))+1) jL) .dead))))=0))=true) (m:(Xqg (((0+(δ (k:Int)))*1)+1) (η C))=true) (d:(decide (((0:Nat):Int)≤(k:Int)))=true) (c:(decide ((k:Int)<(l.length:Int)))=true) (g:(chk (.int .i64) (ζ (ε ((0+((δ x.op)*5))+1) jL) .dead))=true) (i:(decide (((0:Nat):Int)≤x.op))=true) (f:(decide (x.op<((25:Nat):Int)))=true) (j:lit true (decide ((k:Int)<(l.length:Int)))=true) (o:CO 59 [.nilS] (.ret (.sl (ai own) own.length false))):ψ nt f24 ⟨[(15,.sl (aV l) l.length a),(16,ω (l.length:Int)),(17,ω (k:Int)),(4,.ref 0 0 0 l.length),(5,.nilS)],[(0,⟨C,0,false,0,1,true⟩)],.dead,[]⟩ (.normal) ⟨[(15,.sl (aV l) l.length a),(16,ω (l.length:Int)),(17,ω (γ .i64 ((k:Int)+((1:Nat):Int)))),(4,.ref 0 0 0 l.length),(5,.ref 1 0 0 1)],[(0,⟨(ν ((0+(δ (k:Int)))*1) C++ [.sl (ai own) own.length false]++ε (((0+(δ (k:Int)))*1)+1) C),0,false,0,1,true⟩),(1,⟨[ω (k:Int)],0,false,0,1,true⟩)],.dead,[]⟩:=
 have h:ψ nt f24 ⟨[(15,.sl (aV l) l.length a),(16,ω (l.length:Int)),(17,ω (k:Int)),(4,.ref 0 0 0 l.length),(5,.nilS)],[(0,⟨C,0,false,0,1,true⟩)],.dead,[]⟩ (.normal) ⟨[(15,.sl (aV l) l.length a),(16,ω (l.length:Int)),(17,ω (γ .i64 ((k:Int)+((1:Nat):Int)))),(4,.ref 0 0 0 l.length),(5,.ref 1 0 0 1)],[(0,⟨(ν ((0+(δ (k:Int)))*1) C++ [.sl (ai own) own.length false]++ε (((0+(δ (k:Int)))*1)+1) C),0,false,0,1,true⟩),(1,⟨[ω (k:Int)],0,false,0,1,true⟩),(2,⟨[ω x.op,.bool x.neg,.str x.num,.str x.den,.str x.name],0,false,0,0,true⟩)],.dead,[]⟩:=pJ 24 [] 2 1 (.k 4 e (.c m (.c d (.c c (.c e (.k 1 g (.c i (.c f (.k 7 d (.c c (.c j .nil))))))))))) (.c o (.v 20 (.ppt b) .nil)) n
 h.forgetD 2 ⟨[ω x.op,.bool x.neg,.str x.num,.str x.den,.str x.name],0,false,0,0,true⟩ (by intro v h;cases h) (by decide) rfl ⟨Fz.same rfl,Fz.same rfl,Fz.same rfl,Fz.same rfl,Fz.same rfl,trivial⟩ ⟨rfl,JK.same rfl,by decide,rfl,JK.same rfl,by decide,rfl⟩ rfl
theorem Rk {nt:Nat} (a:45≤nt) (l:List Nd) (b:Bool) (k:Nat) (C:List AV) (d own:List Nat) (c:lit false (decide ((k:Int)<(l.length:Int)))=true):ψ nt f24 ⟨[(15,.sl (aV l) l.length b),(16,ω (l.length:Int)),(17,ω (k:Int)),(4,.ref 0 0 0 l.length),(5,.nilS)],[(0,⟨C,0,false,0,1,true⟩)],.dead,[]⟩ (.exit 0) ⟨[(4,.ref 0 0 0 l.length)],[(0,⟨C,0,false,0,1,true⟩)],.dead,[]⟩:=pJ 24 [] 1 0 (.c c .nil) (.nil) a
theorem agG {nt:Nat} (t:45≤nt) (l:List Nd) (b:Bool) (k:Nat) (C:List AV) (a own:List Nat) (x:Nd) (r:List Nd) (e:(ε ((δ (k:Int))*5) (aV l))=nI x++aV r) (p:(Xqg (((δ (γ .i64 ((a.length:Int) - (τ (ζ (ε ((0+((δ x.op)*5))+1) jL) .dead))))) - 0)+1) 1099511627776)=true) (s:(Xqg (((δ (γ .i64 ((a.length:Int) - (τ (ζ (ε ((0+((δ x.op)*5))+1) jL) .dead))))) - 0)*1) (η (ai a)))=true) (j:(decide (((0:Nat):Int)≤(γ .i64 ((a.length:Int) - (τ (ζ (ε ((0+((δ x.op)*5))+1) jL) .dead))))))=true) (g:(decide ((γ .i64 ((a.length:Int) - (τ (ζ (ε ((0+((δ x.op)*5))+1) jL) .dead))))≤(a.length:Int)))=true) (n:(Xqg (((0+(δ (k:Int)))*1)+1) (η C))=true) (i:(decide (((0:Nat):Int)≤(k:Int)))=true) (f:(decide ((k:Int)<(l.length:Int)))=true) (o:(decide ((a.length:Int)≤(a.length:Int)))=true) (q:(chk (.int .i64) (ζ (ε ((0+((δ x.op)*5))+1) jL) .dead))=true) (m:(decide (((0:Nat):Int)≤x.op))=true) (c:(decide (x.op<((25:Nat):Int)))=true) (d:lit true (decide ((k:Int)<(l.length:Int)))=true) (u:bD prog ap 59 [.ref 0 0 (0+(δ (γ .i64 ((a.length:Int) - (τ (ζ (ε ((0+((δ x.op)*5))+1) jL) .dead)))))) ((δ (a.length:Int)) - (δ (γ .i64 ((a.length:Int) - (τ (ζ (ε ((0+((δ x.op)*5))+1) jL) .dead))))))] [⟨(ai a),0,false,0,1,true⟩] (.ret (.sl (ai own) own.length false)) [⟨(ai a),0,false,0,1,true⟩]):ψ nt f24 ⟨[(15,.sl (aV l) l.length b),(16,ω (l.length:Int)),(17,ω (k:Int)),(4,.ref 0 0 0 l.length),(5,.ref 1 0 0 a.length)],[(0,⟨C,0,false,0,1,true⟩),(1,⟨(ai a),0,false,0,1,true⟩)],.dead,[]⟩ (.normal) ⟨[(15,.sl (aV l) l.length b),(16,ω (l.length:Int)),(17,ω (γ .i64 ((k:Int)+((1:Nat):Int)))),(4,.ref 0 0 0 l.length),(5,.ref 1 0 0 (((δ (γ .i64 ((a.length:Int) - (τ (ζ (ε ((0+((δ x.op)*5))+1) jL) .dead))))) - 0)+1))],[(0,⟨(ν ((0+(δ (k:Int)))*1) C++ [.sl (ai own) own.length false]++ε (((0+(δ (k:Int)))*1)+1) C),0,false,0,1,true⟩),(1,⟨((ν (((δ (γ .i64 ((a.length:Int) - (τ (ζ (ε ((0+((δ x.op)*5))+1) jL) .dead))))) - 0)*1) (ai a))++ [ω (k:Int)]),0,false,0,1,true⟩)],.dead,[]⟩:=
 have h:ψ nt f24 ⟨[(15,.sl (aV l) l.length b),(16,ω (l.length:Int)),(17,ω (k:Int)),(4,.ref 0 0 0 l.length),(5,.ref 1 0 0 a.length)],[(0,⟨C,0,false,0,1,true⟩),(1,⟨(ai a),0,false,0,1,true⟩)],.dead,[]⟩ (.normal) ⟨[(15,.sl (aV l) l.length b),(16,ω (l.length:Int)),(17,ω (γ .i64 ((k:Int)+((1:Nat):Int)))),(4,.ref 0 0 0 l.length),(5,.ref 1 0 0 (((δ (γ .i64 ((a.length:Int) - (τ (ζ (ε ((0+((δ x.op)*5))+1) jL) .dead))))) - 0)+1))],[(0,⟨(ν ((0+(δ (k:Int)))*1) C++ [.sl (ai own) own.length false]++ε (((0+(δ (k:Int)))*1)+1) C),0,false,0,1,true⟩),(1,⟨((ν (((δ (γ .i64 ((a.length:Int) - (τ (ζ (ε ((0+((δ x.op)*5))+1) jL) .dead))))) - 0)*1) (ai a))++ [ω (k:Int)]),0,false,0,1,true⟩),(2,⟨[ω x.op,.bool x.neg,.str x.num,.str x.den,.str x.name],0,false,0,0,true⟩)],.dead,[]⟩:=pJ 24 [] 1 1 (.k 1 p (.c s (.k 2 j (.c g (.c n (.c i (.c f (.c j (.c g (.c o (.c q (.c m (.c c (.k 7 i (.c f (.c d .nil)))))))))))))))) (.c u (.v 20 (.ppt e) .nil)) t
 h.forgetD 2 ⟨[ω x.op,.bool x.neg,.str x.num,.str x.den,.str x.name],0,false,0,0,true⟩ (by intro v h;cases h) (by decide) rfl ⟨Fz.same rfl,Fz.same rfl,Fz.same rfl,Fz.same rfl,Fz.same rfl,trivial⟩ ⟨rfl,JK.same rfl,by decide,rfl,JK.same rfl,by decide,rfl⟩ rfl
theorem Rj {nt:Nat} (b:45≤nt) (l:List Nd) (c:Bool) (k:Nat) (C:List AV) (a own:List Nat) (d:lit false (decide ((k:Int)<(l.length:Int)))=true):ψ nt f24 ⟨[(15,.sl (aV l) l.length c),(16,ω (l.length:Int)),(17,ω (k:Int)),(4,.ref 0 0 0 l.length),(5,.ref 1 0 0 a.length)],[(0,⟨C,0,false,0,1,true⟩),(1,⟨(ai a),0,false,0,1,true⟩)],.dead,[]⟩ (.exit 0) ⟨[(4,.ref 0 0 0 l.length)],[(0,⟨C,0,false,0,1,true⟩),(1,⟨(ai a),0,false,0,1,true⟩)],.dead,[]⟩:=pJ 24 [] 1 0 (.c d .nil) (.nil) b
theorem agI (l:List Nd) (a:Bool) (w:Int) (C:List AV) (c:lit true (!(w==((0:Nat):Int)))=true) (b:CO 44 [.sl (aV l) l.length a] (.ret (ω w))):CO 24 [.sl (aV l) l.length a] (.ret (.tup [.nilS,.bool false])):=pK [0] 1 1 (.c c .nil) (.c b .nil)
theorem agJ (l:List Nd) (a:Bool) (w:Int) (C:List AV) (g:(decide (((0:Nat):Int)≤(l.length:Int)))=true) (b:(decide ((l.length:Int)=(l.length:Int)))=true) (e:(decide ((l.length:Int)≤((1099511627776:Nat):Int)))=true) (c:lit false (!(w==((0:Nat):Int)))=true) (f:CO 44 [.sl (aV l) l.length a] (.ret (ω w))) (d:aG prog ap [] 45 (.block 0 (.loop (af 0 (ah f24)))) ⟨[(0,.sl (aV l) l.length a),(2,.nilS),(3,.bool false),(4,.ref 0 0 0 (δ (l.length:Int))),(5,.nilS),(6,.dead),(7,.dead),(8,.dead),(11,.bool (!(w==((0:Nat):Int)))),(15,.sl (aV l) l.length a),(16,ω (l.length:Int)),(17,ω 0),(18,.dead)],[(0,⟨(gz (δ (l.length:Int)) [.nilS]),0,false,0,1,true⟩)],.dead,[]⟩ (.normal) ⟨[(4,.ref 0 0 0 l.length)],[(0,⟨C,0,false,0,1,true⟩)],.dead,[]⟩):CO 24 [.sl (aV l) l.length a] (.ret (.tup [.own (ν (l.length*1) C) l.length 1,.bool true])):=pK [0] 1 0 (.c g (.c b (.c e (.c c .nil)))) (.l d (.c f .nil))
theorem ag7:CO 59 [.nilS] (.ret (.nilS)):=pK [] 1 1 (.n 1 .nil) (.nil)
theorem ag6 (a:List Nat) (i n:Nat) (c:(Xqq (η (ν (n*1) (ε (i*1) (ai a)))) (n*1))=true) (b:(Xqg (0+n) 1099511627776)=true):bD prog ap 59 [.ref 0 0 i n] [⟨(ai a),0,false,0,1,true⟩] (.ret (.own (ν ((0+n)*1) ([]++(ν (n*1) (ε (i*1) (ai a))))) (0+n) 1)) [⟨(ai a),0,false,0,1,true⟩]:=pK [] 1 0 (.c c (.c b (.n 3 .nil))) (.nil)
def vX:List Nd→Nat→List Nat→List (List Nat)
 | [],_,_=> []
 |x::r,k,st=>st.drop (st.length - dD x.op)::vX r (k+1) (st.take (st.length - dD x.op)++ [k])
def bF (l:List Nd):List (List Nat):=vX l 0 []
def Rl (a:List Nat):AV:= .sl (ai a) a.length false
def dA (ll:List (List Nat)):List AV:=ll.map Rl
def Um:List Nd→Nat→List Nat→List Nat
 | [],_,st=>st
 |x::r,k,st=>Um r (k+1) (st.take (st.length - dD x.op)++ [k])
theorem Dw (r:List Nd):∀ k a,(vX r k a).length=r.length:=by
 induction r with
 |nil=>intros;rfl
 |cons x r ih=>intro k a;simp only [vX,μ,ih]
def agE (st:List Nat):AV:=match st with| []=> .nilS|x::l=> .ref 1 0 0 (x::l).length
def agH (st:List Nat):Hp:=match st with| []=> []|x::l=> [(1,⟨ai (x::l),0,false,0,1,true⟩)]
theorem Nh {l:List Nat} (h:l ≠ []):agE l= .ref 1 0 0 l.length:=by cases l with|nil=>exact absurd rfl h|cons _ _=>rfl
theorem Ih {l:List Nat} (h:l ≠ []):agH l= [(1,⟨ai l,0,false,0,1,true⟩)]:=by cases l with|nil=>exact absurd rfl h|cons _ _=>rfl
def Ii (l:List Nd) (nn:Bool) (p:Nat × List Nat × List AV):St:=⟨[(15,.sl (aV l) l.length nn),(16,ω (l.length:Int)),(17,ω (p.1:Int)),(4,.ref 0 0 0 l.length),(5,agE p.2.1)],(0,⟨p.2.2,0,false,0,1,true⟩)::agH p.2.1,.dead,[]⟩
def Gz (l:List Nd) (p:List Nat × List AV):St:=⟨[(4,.ref 0 0 0 l.length)],(0,⟨p.2,0,false,0,1,true⟩)::agH p.1,.dead,[]⟩
theorem RD:bD prog ap 59 [.nilS] [] (.ret (.sl (ai []) ([]:List Nat).length false)) []:=ag7.out (j_.ret rfl rfl (aS.nilS false rfl))
theorem UU (a:List Nat) (i n:Nat) (h:i+n=a.length) (g:a.length<2^40):bD prog ap 59 [.ref 0 0 i n] [⟨ai a,0,false,0,1,true⟩] (.ret (.sl (ai (a.drop i)) n false)) [⟨ai a,0,false,0,1,true⟩]:=by
 have e:=ag6 a i n;have f:n≤a.length:=by omega
 have c:ν n (ε i (ai a))=ai (a.drop i):=by
  rw [Ku,dh,Ξ (by simp;omega)]
 have b:(ai (a.drop i)).length=n:=by rw [bI,Xxz];omega
 simp (disch:=first|omega|(simp [au,ay]<;>omega)) only [φ,c,b,Jb,decide_true,Xqf,fE,a_,Xqk] at e;have d:=(e True.intro (by omega)).thaw (by simp);simp only [wL,thaw,φ] at d;rw [Ξ (by rw [Xqz,b];omega),Ξ (by omega)] at d;exact d.out (j_.sl1 _ _ _)
theorem Yi {nt:Nat} (n:45≤nt) (l p r:List Nd) (e:Bool) (x:Nd) (a:List Nat) (C C2:List AV) (j:l=p++x::r) (A:l.length<2^39) (h:1≤x.op∧x.op≤24) (f:dD x.op≤a.length) (y:a.length≤p.length) (o:C.length=l.length)
  (hset:ν p.length C++ [Rl (a.drop (a.length - dD x.op))]++ε (p.length+1) C=C2):
  ψ nt f24 (Ii l e (p.length,a,C)) .normal (Ii l e (p.length+1,a.take (a.length - dD x.op)++ [p.length],C2)):=by
 have c:ε (δ (p.length:Int)*5) (aV l)=nI x++aV r:=by rw [j];exact vC rfl
 have i:p.length+(r.length+1)=l.length:=by rw [j];simp
 obtain ⟨u,t⟩:=h;have k:=O1 u t;unfold Ii;simp only;rw [Nh (iC _ _),Ih (iC _ _)];rcases Xxf (a= []) with rfl|hne
 ·have v:dD x.op=0:=by simpa using f
  have b:=agK n l e p.length C [] [] x r c;simp only [Xqb,Nat.zero_sub,List.drop_nil,List.take_nil,Xqk] at hset ⊢;unfold Rl at hset;have g:=RD;simp (disch:=first|omega|(simp [au,ay]<;>omega)) only [Xqf,k,v,aY,jT,Xjk,a_,aB,φ,o,fE,dw,aW,dU,bu,Xqb,bJ,aO] at b;simp only [agE,agH,ai,Xqh,Xx4,μ,Xqb,Xqf] at b hset g ⊢;rw [hset] at b;apply b<;>first|exact True.intro|omega|assumption|exact rfl|skip
 ·have q:=UU a (a.length - dD x.op) (dD x.op) (by omega) (by omega);have b:=agG n l e p.length C a (a.drop (a.length - dD x.op)) x r c;rw [Nh hne,Ih hne];unfold Rl at hset;generalize B:a.length - dD x.op=m at*
  have d:(a.drop m).length=dD x.op:=by rw [Xxz];omega
  have w:γ .i64 ((a.length:Int) - ((dD x.op:Nat):Int))=(m:Int):=by rw [dC]<;>omega
  have s:a.length - m=dD x.op:=by omega
  rw [d] at b hset;have z:(a.take m).length=m:=by rw [Xqz];omega
  simp (disch:=first|omega|(simp [au,ay]<;>omega)) only [Xqf,k,aY,w,aB,Xjk,fE,a_,φ,bI,dw,o,aW,dU,bu,s,bJ,aO,hset,dh,iO] at b;simp only [θ,σ,z];apply b<;>first|exact True.intro|omega|assumption|exact rfl|skip
theorem Pz {r:List Nd} {d e:Nat} {x:Nd} (h:je (x::r) d= .inl e):(1≤x.op∧x.op≤24)∧dD x.op≤d∧je r (d - dD x.op+1)= .inl e:=by
 simp only [je] at h;by_cases h1:aI x=0
 ·rw [if_pos h1] at h;by_cases h2:d<dD x.op
  ·rw [if_pos h2] at h;cases h
  ·rw [if_neg h2] at h;exact ⟨ry h1,by omega,h⟩
 ·rw [if_neg h1] at h;cases h
theorem uT (a:List (List Nat)):(dA a).length=a.length:=by simp [dA]
theorem Rn (done:List (List Nat)) (a:List Nat) (m:Nat):ν done.length (dA done++κ (m+1) Xkw)++ [Rl a]++ε (done.length+1) (dA done++κ (m+1) Xkw)=dA (done++ [a])++κ m Xkw:=by
 have b:=uT done;rw [List.take_append_of_le_length (by omega),Ξ (by omega),List.drop_append,Xx6 (by omega),Xqk,show done.length+1 - (dA done).length=1 by omega,Xxc,List.drop_succ_cons,Xj6];unfold dA;rw [Xx0];rfl
theorem Yh {nt:Nat} (k:45≤nt) (l:List Nd) (f:Bool) (m:l.length<2^39) (e:Nat):∀ (r p:List Nd) (a:List Nat) (done:List (List Nat)),p++r=l→je r a.length= .inl e→a.length≤p.length→done.length=p.length→az prog ap [] nt (af 0 (ah f24)) (fun _=> .exit 0) (Ii l f) (Gz l) (p.length,a,dA done++κ r.length .nilS) (Um r p.length a,dA (done++vX r p.length a)):=by
 intro r
 induction r with
 | nil=>
  intro p a done h n d hd;have hp:p.length=l.length:=by rw [← h];simp
  rw [hp];simp only [vX,Um,Γ,Xqb,Xwa];refine .done ?_;unfold Ii Gz;have o:ψ nt f24 (Ii l f (l.length,a,dA done)) (.exit 0) (Gz l (a,dA done)):=by
   unfold Ii Gz;rcases Xxf (a= []) with rfl|hne
   ·exact Rk k l f l.length (dA done) [] [] (by rw [aW];simp [lit])
   ·simp only;rw [Nh hne,Ih hne];exact Rj k l f l.length (dA done) a [] (by rw [aW];simp [lit])
  exact o
 | cons x r ih=>
  intro p a done h n d hd;obtain ⟨i,g,j⟩:=Pz n;have q:p.length+(r.length+1)=l.length:=by rw [← h];simp
  have b:(a.take (a.length - dD x.op)++ [p.length]).length=a.length - dD x.op+1:=by
   rw [θ,Xqz,σ,Xx1 (by omega)]
  have hnext:=ih (p++ [x]) (a.take (a.length - dD x.op)++ [p.length]) (done++ [a.drop (a.length - dD x.op)]) (by simp [h]) (by rw [b];exact j) (by rw [b];simp;omega) (by simp [hd]);rw [θ,σ,Xqd] at hnext;simp only [vX,Um,μ];have c:=Rn done (a.drop (a.length - dD x.op)) r.length;rw [hd] at c;have hstep:=Yi k l p r f x a (dA done++κ (r.length+1) .nilS) _ h.symm m i g d (by rw [θ,uT,Xxu];omega) c;exact .next hstep hnext
theorem Xb (n:Nat):gz n [Xkw]=κ n Xkw:=by
 unfold gz
 induction n with
 |zero=>rfl
 |succ n ih=>rw [Xxc,List.flatten_cons,ih,Xxc];rfl
theorem DF {l:List Nd} (h:b_ l=0):l.length≤60∧je l 0= .inl 1:=by
 unfold b_ at h;by_cases h60:60<l.length
 ·rw [if_pos h60] at h;cases h
 ·rw [if_neg h60] at h;refine ⟨by omega, ?_⟩;have b:∀ (r:List Nd) (d:Nat) (w:Int),je r d= .inr w→w ≠ 0:=by
   intro r
   induction r with
   |nil=>intro d w h;cases h
   | cons x r ih=>
    intro d w h;simp only [je] at h;by_cases h1:aI x=0
    ·rw [if_pos h1] at h;by_cases h2:d<dD x.op
     ·rw [if_pos h2] at h;cases h;decide
     ·rw [if_neg h2] at h;exact ih _ _ h
    ·rw [if_neg h1] at h;cases h;exact h1
  cases a:je l 0 with
  |inl d=>
   rw [a] at h;by_cases hd:d=1
   ·rw [hd]
   ·simp only [if_neg hd] at h;cases h
  |inr w=>rw [a] at h;exact absurd h (b l 0 w a)
theorem Yo (l:List Nd) (b:Bool) (e:∀ x ∈ l,x.sm) (m:b_ l=0):CO 24 [.sl (aV l) l.length b] (.ret (.tup [.sl (dA (bF l)) l.length true,.bool true])):=by
 have c:ν l.length (dA (bF l))=dA (bF l):=Ξ (by rw [uT];unfold bF;rw [Dw];omega)
 suffices hown:CO 24 [.sl (aV l) l.length b] (.ret (.tup [.own (dA (bF l)) l.length 1,.bool true])) by
  have h:=hown.thaw (by simp);simp only [wL,Xqh,Xx4,thaw,φ,c] at h;exact h
 have f:=DI l b e;obtain ⟨o,g⟩:=DF m;rw [m] at f;have hloop:=fun nt (hn:45≤nt)=>Yh hn l b (by omega) 1 l [] [] [] rfl g (by simp) rfl
 have d:(bF l).length=l.length:=Dw l 0 [];have h:=agJ l b 0 (dA (bF l));simp (disch:=first|omega|(simp [au,ay]<;>omega)) only [dw,a_,decide_true,dH,dQ,BI,aB,Xb,φ,c] at h;have k:(dA (bF l)).length=l.length:=by rw [uT,d]
 have p:l.length<1099511627776:=by omega
 apply h<;>first|exact True.intro|omega|assumption|exact rfl|skip
 intro nt i;have j:=az.blk (s:=Ii l b (0,[],κ l.length Xkw)) (s':=Gz l (Um l 0 [],dA (bF l))) (id:=0) hloop (by simp) rfl (aH.refl _) (aH.refl _) nt i;unfold Ii Gz at j;simp only [agE,agH] at j;have a:=j.weak (s':=⟨[(0,.sl (aV l) l.length b),(2,.nilS),(3,.bool false),(4,.ref 0 0 0 l.length),(5,.nilS),(6,.dead),(7,.dead),(8,.dead),(11,.bool false),(15,.sl (aV l) l.length b),(16,ω (l.length:Int)),(17,ω 0),(18,.dead)],[(0,⟨κ l.length Xkw,0,false,0,1,true⟩)],.dead,[]⟩) (aH.of ⟨rfl,rfl,rfl,rfl,rfl,trivial⟩) (aH.refl _);rcases Xxf (Um l 0 []= []) with he|he
 ·rw [he] at a;exact a
 ·have n:=Ih he;unfold agH at n;rw [n] at a;exact a.forget 1 _ (by intro v h;cases h) (by decide) rfl ⟨Fz.same rfl,trivial⟩ ⟨rfl,JK.same rfl,by decide,rfl⟩
theorem ajJ {nt:Nat} (d:59≤nt) (l:List Nd) (a:Bool) (f:(chk (.int .i64) (ζ (aV l) .dead))=true) (b:(decide (((0:Nat):Int)<(l.length:Int)))=true) (c:lit true (decide (((0:Nat):Int)<(l.length:Int)))=true) (e:CO 85 [ω (τ (ζ (aV l) .dead))] (.ret (ω 0))):ψ nt f56 ⟨[(0,.sl (aV l) l.length a),(5,.nilS),(6,.nilS),(7,ω 0)],[],.dead,[]⟩ (.normal) ⟨[(0,.sl (aV l) l.length a),(5,.ref 0 0 0 1),(6,.ref 1 0 0 1),(7,ω 1)],[(0,⟨[.nilS],0,false,0,1,true⟩),(1,⟨[ω 0],0,false,0,1,true⟩)],.dead,[]⟩:=pJ 56 [] 4 1 (.k 9 f (.k 1 b (.c c .nil))) (.c e .nil) d
theorem aeZ {nt:Nat} (g:59≤nt) (l:List Nd) (c:Bool) (C:List AV) (b own:List Nat) (i k a:Nat) (h:(chk (.int .i64) (ζ (ε ((0+(δ (i:Int)))*1) (ai b)) .dead))=true) (d:(decide (((0:Nat):Int)≤(i:Int)))=true) (f:(decide ((i:Int)<(b.length:Int)))=true) (e:lit true (decide ((i:Int)<(b.length:Int)))=true):ak prog ap [] nt (af 2 (ah f56)) ⟨[(0,.sl (aV l) l.length c),(7,ω (k:Int)),(8,ω (a:Int)),(5,.ref 0 0 0 k),(6,.ref 1 0 0 b.length),(9,.nilS),(10,ω (i:Int))],[(0,⟨C,0,false,0,1,true⟩),(1,⟨(ai b),0,false,0,1,true⟩)],.dead,[]⟩ (.normal) ⟨[(0,.sl (aV l) l.length c),(7,ω (k:Int)),(8,ω (a:Int)),(5,.ref 0 0 0 k),(6,.ref 1 0 0 b.length),(9,.ref 2 0 0 1),(10,ω (γ .i64 ((i:Int)+((1:Nat):Int))))],[(0,⟨C,0,false,0,1,true⟩),(1,⟨(ai b),0,false,0,1,true⟩),(2,⟨[ω (τ (ζ (ε ((0+(δ (i:Int)))*1) (ai b)) .dead))],0,false,0,1,true⟩)],.dead,[]⟩:=pJ 56 [] 2 1 (.k 3 h (.c d (.c f (.c e .nil)))) (.nil) g
theorem ae0 {nt:Nat} (d:59≤nt) (l:List Nd) (c:Bool) (C:List AV) (b own:List Nat) (i k a:Nat) (e:lit false (decide ((i:Int)<(b.length:Int)))=true):ak prog ap [] nt (af 2 (ah f56)) ⟨[(0,.sl (aV l) l.length c),(7,ω (k:Int)),(8,ω (a:Int)),(5,.ref 0 0 0 k),(6,.ref 1 0 0 b.length),(9,.nilS),(10,ω (i:Int))],[(0,⟨C,0,false,0,1,true⟩),(1,⟨(ai b),0,false,0,1,true⟩)],.dead,[]⟩ (.exit 2) ⟨[(0,.sl (aV l) l.length c),(7,ω (k:Int)),(8,ω (a:Int)),(5,.ref 0 0 0 k),(6,.ref 1 0 0 b.length),(9,.nilS)],[(0,⟨C,0,false,0,1,true⟩),(1,⟨(ai b),0,false,0,1,true⟩)],.dead,[]⟩:=pJ 56 [] 1 0 (.c e .nil) (.nil) d
theorem aeX {nt:Nat} (j:59≤nt) (l:List Nd) (c:Bool) (C:List AV) (b own:List Nat) (i k a:Nat) (m:(Xqg (own.length+1) 1099511627776)=true) (e:(Xqg (own.length*1) (η (ai own)))=true) (h:(chk (.int .i64) (ζ (ε ((0+(δ (i:Int)))*1) (ai b)) .dead))=true) (f:(decide (((0:Nat):Int)≤(i:Int)))=true) (g:(decide ((i:Int)<(b.length:Int)))=true) (d:lit true (decide ((i:Int)<(b.length:Int)))=true):ak prog ap [] nt (af 2 (ah f56)) ⟨[(0,.sl (aV l) l.length c),(7,ω (k:Int)),(8,ω (a:Int)),(5,.ref 0 0 0 k),(6,.ref 1 0 0 b.length),(9,.ref 2 0 0 own.length),(10,ω (i:Int))],[(0,⟨C,0,false,0,1,true⟩),(1,⟨(ai b),0,false,0,1,true⟩),(2,⟨(ai own),0,false,0,1,true⟩)],.dead,[]⟩ (.normal) ⟨[(0,.sl (aV l) l.length c),(7,ω (k:Int)),(8,ω (a:Int)),(5,.ref 0 0 0 k),(6,.ref 1 0 0 b.length),(9,.ref 2 0 0 (own.length+1)),(10,ω (γ .i64 ((i:Int)+((1:Nat):Int))))],[(0,⟨C,0,false,0,1,true⟩),(1,⟨(ai b),0,false,0,1,true⟩),(2,⟨((ν (own.length*1) (ai own))++ [ω (τ (ζ (ε ((0+(δ (i:Int)))*1) (ai b)) .dead))]),0,false,0,1,true⟩)],.dead,[]⟩:=pJ 56 [] 1 1 (.k 1 m (.c e (.k 1 h (.c f (.c g (.c d .nil)))))) (.nil) j
theorem aeY {nt:Nat} (d:59≤nt) (l:List Nd) (c:Bool) (C:List AV) (b own:List Nat) (i k a:Nat) (e:lit false (decide ((i:Int)<(b.length:Int)))=true):ak prog ap [] nt (af 2 (ah f56)) ⟨[(0,.sl (aV l) l.length c),(7,ω (k:Int)),(8,ω (a:Int)),(5,.ref 0 0 0 k),(6,.ref 1 0 0 b.length),(9,.ref 2 0 0 own.length),(10,ω (i:Int))],[(0,⟨C,0,false,0,1,true⟩),(1,⟨(ai b),0,false,0,1,true⟩),(2,⟨(ai own),0,false,0,1,true⟩)],.dead,[]⟩ (.exit 2) ⟨[(0,.sl (aV l) l.length c),(7,ω (k:Int)),(8,ω (a:Int)),(5,.ref 0 0 0 k),(6,.ref 1 0 0 b.length),(9,.ref 2 0 0 own.length)],[(0,⟨C,0,false,0,1,true⟩),(1,⟨(ai b),0,false,0,1,true⟩),(2,⟨(ai own),0,false,0,1,true⟩)],.dead,[]⟩:=pJ 56 [] 1 0 (.c e .nil) (.nil) d
theorem ajK {nt:Nat} (q:59≤nt) (l:List Nd) (c:Bool) (k a:Nat) (C:List AV) (b own:List Nat) (x:Nd) (r:List Nd) (d:(ε (((δ (k:Int))*5)+0) (aV l))=nI x++aV r) (m:(Xqg (k+1) 1099511627776)=true) (p:(Xqg (k*1) (η C))=true) (j:(Xqg (((δ (γ .i64 ((b.length:Int) - (a:Int)))) - 0)+1) 1099511627776)=true) (f:(Xqg (((δ (γ .i64 ((b.length:Int) - (a:Int)))) - 0)*1) (η (ai b)))=true) (g:(decide (((0:Nat):Int)≤(γ .i64 ((b.length:Int) - (a:Int)))))=true) (h:(decide ((γ .i64 ((b.length:Int) - (a:Int)))≤(b.length:Int)))=true) (e:(decide (((0:Nat):Int)≤(k:Int)))=true) (i:(decide ((k:Int)<(l.length:Int)))=true) (o:lit true (decide ((k:Int)<(l.length:Int)))=true) (s:CO 85 [ω x.op] (.ret (ω (a:Int)))) (n:aG prog ap [] 59 (.block 2 (.loop (af 2 (ah f56)))) ⟨[(0,.sl (aV l) l.length c),(2,.dead),(3,.dead),(4,.dead),(5,.ref 0 0 0 k),(6,.ref 1 0 0 b.length),(7,ω (k:Int)),(8,ω (a:Int)),(9,.nilS),(10,ω (γ .i64 ((b.length:Int) - (a:Int)))),(14,.dead),(18,.bool (decide ((k:Int)<(l.length:Int)))),(34,.dead)],[(0,⟨C,0,false,0,1,true⟩),(1,⟨(ai b),0,false,0,1,true⟩)],.dead,[]⟩ (.normal) ⟨[(0,.sl (aV l) l.length c),(5,.ref 0 0 0 k),(6,.ref 1 0 0 b.length),(7,ω (k:Int)),(8,ω (a:Int)),(9,.nilS)],[(0,⟨C,0,false,0,1,true⟩),(1,⟨(ai b),0,false,0,1,true⟩)],.dead,[]⟩):ψ nt f56 ⟨[(0,.sl (aV l) l.length c),(5,.ref 0 0 0 k),(6,.ref 1 0 0 b.length),(7,ω (k:Int))],[(0,⟨C,0,false,0,1,true⟩),(1,⟨(ai b),0,false,0,1,true⟩)],.dead,[]⟩ (.normal) ⟨[(0,.sl (aV l) l.length c),(5,.ref 0 0 0 (k+1)),(6,.ref 1 0 0 (((δ (γ .i64 ((b.length:Int) - (a:Int)))) - 0)+1)),(7,ω (γ .i64 ((k:Int)+((1:Nat):Int))))],[(0,⟨((ν (k*1) C)++ [.nilS]),0,false,0,1,true⟩),(1,⟨((ν (((δ (γ .i64 ((b.length:Int) - (a:Int)))) - 0)*1) (ai b))++ [ω (k:Int)]),0,false,0,1,true⟩)],.dead,[]⟩:=pJ 56 [2] 1 1 (.k 1 m (.c p (.k 2 j (.c f (.k 2 g (.c h (.k 1 e (.c i (.c o .nil))))))))) (.l n (.c s (.v 24 (.ppt d) .nil))) q
theorem Tf {nt:Nat} (c:59≤nt) (l:List Nd) (d:Bool) (k a:Nat) (C:List AV) (b own:List Nat) (e:lit false (decide ((k:Int)<(l.length:Int)))=true):ψ nt f56 ⟨[(0,.sl (aV l) l.length d),(5,.ref 0 0 0 k),(6,.ref 1 0 0 b.length),(7,ω (k:Int))],[(0,⟨C,0,false,0,1,true⟩),(1,⟨(ai b),0,false,0,1,true⟩)],.dead,[]⟩ (.exit 0) ⟨[(5,.ref 0 0 0 k)],[(0,⟨C,0,false,0,1,true⟩),(1,⟨(ai b),0,false,0,1,true⟩)],.dead,[]⟩:=pJ 56 [2] 1 0 (.c e .nil) (.nil) c
theorem ajI {nt:Nat} (q:59≤nt) (l:List Nd) (c:Bool) (k a:Nat) (C:List AV) (b own:List Nat) (x:Nd) (r:List Nd) (d:(ε (((δ (k:Int))*5)+0) (aV l))=nI x++aV r) (m:(Xqg (k+1) 1099511627776)=true) (p:(Xqg (k*1) (η C))=true) (j:(Xqg (((δ (γ .i64 ((b.length:Int) - (a:Int)))) - 0)+1) 1099511627776)=true) (f:(Xqg (((δ (γ .i64 ((b.length:Int) - (a:Int)))) - 0)*1) (η (ai b)))=true) (g:(decide (((0:Nat):Int)≤(γ .i64 ((b.length:Int) - (a:Int)))))=true) (h:(decide ((γ .i64 ((b.length:Int) - (a:Int)))≤(b.length:Int)))=true) (e:(decide (((0:Nat):Int)≤(k:Int)))=true) (i:(decide ((k:Int)<(l.length:Int)))=true) (o:lit true (decide ((k:Int)<(l.length:Int)))=true) (s:CO 85 [ω x.op] (.ret (ω (a:Int)))) (n:aG prog ap [] 59 (.block 2 (.loop (af 2 (ah f56)))) ⟨[(0,.sl (aV l) l.length c),(2,.dead),(3,.dead),(4,.dead),(5,.ref 0 0 0 k),(6,.ref 1 0 0 b.length),(7,ω (k:Int)),(8,ω (a:Int)),(9,.nilS),(10,ω (γ .i64 ((b.length:Int) - (a:Int)))),(14,.dead),(18,.bool (decide ((k:Int)<(l.length:Int)))),(34,.dead)],[(0,⟨C,0,false,0,1,true⟩),(1,⟨(ai b),0,false,0,1,true⟩)],.dead,[]⟩ (.normal) ⟨[(0,.sl (aV l) l.length c),(5,.ref 0 0 0 k),(6,.ref 1 0 0 b.length),(7,ω (k:Int)),(8,ω (a:Int)),(9,.sl (ai own) own.length true)],[(0,⟨C,0,false,0,1,true⟩),(1,⟨(ai b),0,false,0,1,true⟩)],.dead,[]⟩):ψ nt f56 ⟨[(0,.sl (aV l) l.length c),(5,.ref 0 0 0 k),(6,.ref 1 0 0 b.length),(7,ω (k:Int))],[(0,⟨C,0,false,0,1,true⟩),(1,⟨(ai b),0,false,0,1,true⟩)],.dead,[]⟩ (.normal) ⟨[(0,.sl (aV l) l.length c),(5,.ref 0 0 0 (k+1)),(6,.ref 1 0 0 (((δ (γ .i64 ((b.length:Int) - (a:Int)))) - 0)+1)),(7,ω (γ .i64 ((k:Int)+((1:Nat):Int))))],[(0,⟨((ν (k*1) C)++ [.sl (ai own) own.length true]),0,false,0,1,true⟩),(1,⟨((ν (((δ (γ .i64 ((b.length:Int) - (a:Int)))) - 0)*1) (ai b))++ [ω (k:Int)]),0,false,0,1,true⟩)],.dead,[]⟩:=pJ 56 [2] 1 1 (.k 1 m (.c p (.k 2 j (.c f (.k 2 g (.c h (.k 1 e (.c i (.c o .nil))))))))) (.l n (.c s (.v 24 (.ppt d) .nil))) q
theorem aeU (l:List Nd) (a:Bool) (w:Int) (C:List AV) (n:Nat) (c:lit true (!(w==((0:Nat):Int)))=true) (b:CO 50 [.sl (aV l) l.length a] (.ret (ω w))):CO 56 [.sl (aV l) l.length a] (.ret (.tup [.nilS,.bool false])):=pK [0] 1 1 (.c c .nil) (.c b .nil)
theorem aeV (l:List Nd) (a:Bool) (w:Int) (C:List AV) (n:Nat) (d:lit false (!(w==((0:Nat):Int)))=true) (c:CO 50 [.sl (aV l) l.length a] (.ret (ω w))) (b:aG prog ap [] 59 (.block 0 (.loop (af 0 (ah f56)))) ⟨[(0,.sl (aV l) l.length a),(2,.nilS),(3,.bool false),(4,ω w),(5,.nilS),(6,.nilS),(7,ω 0),(8,.dead),(9,.dead),(10,.dead),(14,.bool (!(w==((0:Nat):Int)))),(18,.dead),(34,.dead)],[],.dead,[]⟩ (.normal) ⟨[(5,.ref 0 0 0 n)],[(0,⟨C,0,false,0,1,true⟩)],.dead,[]⟩):CO 56 [.sl (aV l) l.length a] (.ret (.tup [.own (ν (n*1) C) n 1,.bool true])):=pK [0] 1 0 (.c d .nil) (.l b (.c c .nil))
def Np (a:List Nat):AV:=match a with| []=> .nilS|x::l=> .sl (ai (x::l)) (x::l).length true
def dE (ll:List (List Nat)):List AV:=ll.map Np
theorem Yn {a:List Nat} (h:a ≠ []):Np a= .sl (ai a) a.length true:=by cases a with|nil=>exact absurd rfl h|cons _ _=>rfl
theorem GH (a:List (List Nat)):(dE a).length=a.length:=by simp [dE]
theorem Nr (b:List (List Nat)) (a:List Nat):dE b++ [Np a]=dE (b++ [a]):=by simp [dE]
theorem Wp {p r:List Nd} {x:Nd} {k:Nat} (h:k=p.length):ε (δ (k:Int)*5+0) (aV (p++x::r))=nI x++aV r:=by rw [Xq0];exact vC h
def riE (own:List Nat):AV:=match own with| []=> .nilS|x::l=> .ref 2 0 0 (x::l).length
def riH (own:List Nat):Hp:=match own with| []=> []|x::l=> [(2,⟨ai (x::l),0,false,0,1,true⟩)]
theorem Js {l:List Nat} (h:l ≠ []):riE l= .ref 2 0 0 l.length:=by cases l with|nil=>exact absurd rfl h|cons _ _=>rfl
theorem Jt {l:List Nat} (h:l ≠ []):riH l= [(2,⟨ai l,0,false,0,1,true⟩)]:=by cases l with|nil=>exact absurd rfl h|cons _ _=>rfl
def JL (C:List AV) (st:List Nat):Hp:= [(0,⟨C,0,false,0,1,true⟩),(1,⟨ai st,0,false,0,1,true⟩)]
def TA (l:List Nd) (nn:Bool) (C:List AV) (st:List Nat) (k a:Nat) (p:Nat × List Nat):St:=⟨[(0,.sl (aV l) l.length nn),(7,ω (k:Int)),(8,ω (a:Int)),(5,.ref 0 0 0 k),(6,.ref 1 0 0 st.length),(9,riE p.2),(10,ω (p.1:Int))],JL C st++riH p.2,.dead,[]⟩
def LY (l:List Nd) (nn:Bool) (C:List AV) (st:List Nat) (k a:Nat) (own:List Nat):St:=⟨[(0,.sl (aV l) l.length nn),(7,ω (k:Int)),(8,ω (a:Int)),(5,.ref 0 0 0 k),(6,.ref 1 0 0 st.length),(9,riE own)],JL C st++riH own,.dead,[]⟩
theorem aaN {nt:Nat} (h:59≤nt) (l:List Nd) (c:Bool) (C:List AV) (b:List Nat) (k a:Nat) (o:b.length<2^39):∀ (d i:Nat) (own:List Nat),i+d=b.length→own.length≤i→az prog ap [] nt (af 2 (ah f56)) (fun _=> .exit 2) (TA l c C b k a) (LY l c C b k a) (i,own) (own++b.drop i):=by
 intro d
 induction d with
 | zero=>
  intro i own n m;rw [Xx6 (by omega),Γ];have j:i=b.length:=by omega
  subst j;refine .done ?_;unfold TA LY JL;rcases Xxf (own= []) with rfl|hne
  ·exact ae0 h l c C b [] b.length k a (by rw [aW];simp [lit])
  ·simp only;rw [Js hne,Jt hne];exact aeY h l c C b own b.length k a (by rw [aW];simp [lit])
 | succ d ih=>
  intro i own n m;have g:i<b.length:=by omega
  have hnext:=ih (i+1) (own++ [b.getD i 0]) (by omega) (by simp;omega);have e:b.drop i=b.getD i 0::b.drop (i+1):=by
   rw [Xxp g,ο,ξ g];rfl
  rw [Xqd,Xxe,← e] at hnext;refine .next ?_ hnext
  unfold TA JL;simp only;rw [Js (iC _ _),Jt (iC _ _)];rcases Xxf (own= []) with rfl|hne
  ·have f:=aeZ h l c C b [] i k a;simp (disch:=first|omega|(simp [au,ay]<;>omega)) only [aB,Xqf,φ,fG,dU,dw,a_,aW,bu,bJ,aO,aY] at f;simp only [riE,riH,ai,Xqh,Xx4,μ,Xqb,Xqk,Xqf] at f ⊢;apply f<;>first|exact True.intro|omega|assumption|exact rfl
  ·have f:=aeX h l c C b own i k a;simp (disch:=first|omega|(simp [au,ay]<;>omega)) only [fE,a_,φ,bI,aB,Xqf,fG,dU,dw,aW,bu,bJ,aO,dh,Xqx,aY,iO] at f;rw [Js hne,Jt hne];simp only [θ,σ];apply f<;>first|exact True.intro|omega|assumption|exact rfl
def LG (l:List Nd) (nn:Bool) (p:Nat × List Nat × List AV):St:=⟨[(0,.sl (aV l) l.length nn),(5,match p.1 with|0=> .nilS|_=> .ref 0 0 0 p.1),(6,match p.1 with|0=> .nilS|_=> .ref 1 0 0 p.2.1.length),(7,.int .i64 (p.1:Int))],match p.1 with|0=> []|_=>JL p.2.2 p.2.1,.dead,[]⟩
def E_ (p:Nat × List Nat × List AV):St:=⟨[(5,match p.1 with|0=> .nilS|_=> .ref 0 0 0 p.1)],match p.1 with|0=> []|_=>JL p.2.2 p.2.1,.dead,[]⟩
theorem aaA {nt:Nat} (q:59≤nt) (l p r:List Nd) (c:Bool) (x:Nd) (a:List Nat) (C:List AV) (t:l=p++x::r) (L:l.length<2^38) (w:dD x.op≤a.length) (K:a.length≤p.length) (o:p= []→a= []∧C= []) (A:C.length=p.length):
  ψ nt f56 (LG l c (p.length,a,C)) .normal (LG l c (p.length+1,a.take (a.length - dD x.op)++ [p.length],C++ [Np (a.drop (a.length - dD x.op))])):=by
 have E:p.length+(r.length+1)=l.length:=by rw [t];simp
 have k3:=Pm x.op;have G:=wR x.op;rcases Xxf (p= []) with hp|hp
 ·obtain ⟨rfl,rfl⟩:=o hp;subst hp;have D:dD x.op=0:=by simpa using w
  rw [D] at k3;rw [D];have y:l=x::r:=by rw [t];rfl
  subst y;exact ajJ q (x::r) c rfl (by rw [aW];exact Yq0 (Xkz r.length)) (by rw [aW];exact Yq0 (Xkz r.length)) k3
 ·obtain ⟨k,J⟩:∃ k,p.length=k+1:=⟨p.length - 1,by cases p with|nil=>exact absurd rfl hp|cons _ _=>simp⟩
  have n:ε (δ (p.length:Int)*5+0) (aV l)=nI x++aV r:=by rw [t];exact Wp rfl
  have hloop:=fun nt (q:59≤nt)=>aaN q l c C a p.length (dD x.op) (by omega) (dD x.op) (a.length - dD x.op) [] (by omega) (by simp)
  rw [Xqk] at hloop;have g:LG l c (p.length,a,C)=⟨[(0,.sl (aV l) l.length c),(5,.ref 0 0 0 p.length),(6,.ref 1 0 0 a.length),(7,ω (p.length:Int))],JL C a,.dead,[]⟩:=by rw [J];rfl
  rw [g];generalize M:a.length - dD x.op=m at*
  have z:γ .i64 ((a.length:Int) - ((dD x.op:Nat):Int))=(m:Int):=by rw [dC]<;>omega
  have i:(a.take m).length=m:=by rw [Xqz];omega
  have I:C.length<2^38:=by omega
  have e:ν p.length C=C:=Ξ (by omega);rcases Xxf (a.drop m= []) with ho|ho
  ·have j:=ajK q l c p.length (dD x.op) C a [] x r n;rw [ho] at hloop ⊢;simp (disch:=first|omega|(simp [au,ay]<;>omega)) only [fE,a_,φ,A,z,aB,Xjk,bI,dw,aW,bu,bJ,aO,e,dh,iO] at j;show ak prog ap [] nt _ _ .normal ⟨[(0,.sl (aV l) l.length c),(5,.ref 0 0 0 (p.length+1)),(6,.ref 1 0 0 (a.take m++ [p.length]).length),(7,ω ((p.length+1:Nat):Int))],JL (C++ [Np []]) (a.take m++ [p.length]),.dead,[]⟩;simp only [θ,σ,i];unfold JL;apply j<;>first|exact True.intro|omega|assumption|exact rfl|skip
   ·refine az.blk hloop (by simp) rfl ?_ ?_
    ·unfold TA JL;exact aH.of ⟨rfl,rfl,rfl,rfl,rfl,rfl,rfl,trivial⟩
    ·unfold LY JL;exact aH.of ⟨rfl,rfl,rfl,rfl,rfl,rfl,trivial⟩
  ·have j:=ajI q l c p.length (dD x.op) C a (a.drop m) x r n;simp (disch:=first|omega|(simp [au,ay]<;>omega)) only [fE,a_,φ,A,z,aB,Xjk,bI,dw,aW,bu,bJ,aO,e,dh,iO] at j;show ak prog ap [] nt _ _ .normal ⟨[(0,.sl (aV l) l.length c),(5,.ref 0 0 0 (p.length+1)),(6,.ref 1 0 0 (a.take m++ [p.length]).length),(7,ω ((p.length+1:Nat):Int))],JL (C++ [Np (a.drop m)]) (a.take m++ [p.length]),.dead,[]⟩;rw [Yn ho];simp only [θ,σ,i];unfold JL;apply j<;>first|exact True.intro|omega|assumption|exact rfl|skip
   ·intro nt u;have d:=(az.blk (s:=TA l c C a p.length (dD x.op) (m,[])) (s':=LY l c C a p.length (dD x.op) (a.drop m)) (id:=2) hloop (by simp) rfl (aH.refl _) (aH.refl _) nt u)
    unfold TA LY JL at d;simp only [riE,riH,Γ] at d;have H:=Jt ho;have F:=Js ho;unfold riE at F;unfold riH at H;rw [H,F] at d;have f:=d.forget (b:=2) (B:=⟨ai (a.drop m),0,false,0,1,true⟩) (hp':= [(0,⟨C,0,false,0,1,true⟩),(1,⟨ai a,0,false,0,1,true⟩)]) (en':= [(0,.sl (aV l) l.length c),(5,.ref 0 0 0 p.length),(6,.ref 1 0 0 a.length),(7,ω (p.length:Int)),(8,ω ((dD x.op:Nat):Int)),(9,.sl (ν ((a.drop m).length*1) (ε (0*1) (ai (a.drop m)))) (a.drop m).length true)]) (by intro v h;cases h) (by decide) rfl ⟨Fz.same rfl,Fz.same rfl,Fz.same rfl,Fz.same rfl,Fz.same rfl,Fz.ref,trivial⟩ ⟨rfl,JK.same rfl,by decide,rfl,JK.same rfl,by decide,rfl⟩;rw [φ,Xwb,Xj6,dh,Xqx] at f;exact f.weak (aH.of ⟨rfl,rfl,rfl,rfl,rfl,rfl,rfl,trivial⟩) (aH.refl _)
theorem aeW {nt:Nat} (e:59≤nt) (l:List Nd) (b:Bool) (a:List Nat) (C:List AV) (g:0<l.length):ψ nt f56 (LG l b (l.length,a,C)) (.exit 0) (E_ (l.length,a,C)):=by
 obtain ⟨k,c⟩:∃ k,l.length=k+1:=⟨l.length - 1,by omega⟩
 have f:LG l b (l.length,a,C)=⟨[(0,.sl (aV l) l.length b),(5,.ref 0 0 0 l.length),(6,.ref 1 0 0 a.length),(7,ω (l.length:Int))],JL C a,.dead,[]⟩:=by
  unfold LG;simp only [c]
 have d:E_ (l.length,a,C)=⟨[(5,.ref 0 0 0 l.length)],JL C a,.dead,[]⟩:=by
  unfold E_;simp only [c]
 rw [f,d];exact Tf e l b l.length 0 C a [] (by rw [aW];simp [lit])
theorem aaz {nt:Nat} (m:59≤nt) (l:List Nd) (i:Bool) (j:l.length<2^38) (o:0<l.length) (e:Nat):∀ (r p:List Nd) (a:List Nat) (done:List (List Nat)),p++r=l→je r a.length= .inl e→a.length≤p.length→done.length=p.length→(p= []→a= [])→az prog ap [] nt (af 0 (ah f56)) (fun _=> .exit 0) (LG l i) E_ (p.length,a,dE done) (l.length,Um r p.length a,dE (done++vX r p.length a)):=by
 intro r
 induction r with
 |nil=>
  intro p a done h k d hd c;have hp:p.length=l.length:=by rw [← h];simp
  rw [hp];simp only [vX,Um,Γ];exact .done (aeW m l i a _ o)
 | cons x r ih=>
  intro p a done h k d hd c;obtain ⟨n,f,g⟩:=Pz k;have b:(a.take (a.length - dD x.op)++ [p.length]).length=a.length - dD x.op+1:=by
   rw [θ,Xqz,σ,Xx1 (by omega)]
  have hnext:=ih (p++ [x]) (a.take (a.length - dD x.op)++ [p.length]) (done++ [a.drop (a.length - dD x.op)]) (by simp [h]) (by rw [b];exact g) (by rw [b];simp;omega) (by simp [hd]) (fun h=>by simp at h);rw [θ,σ,Xqd,← Nr] at hnext;simp only [vX,Um];refine .next (aaA m l p r i x a (dE done) h.symm j f d (fun hp=> ⟨c hp, ?_⟩) (by rw [GH];exact hd)) hnext
  have:done= []:=Xxh (by rw [hd,hp];rfl);rw [this];rfl
theorem WY (l:List Nd) (a:Bool) (e:∀ x ∈ l,x.sm) (m:b_ l=0):CO 56 [.sl (aV l) l.length a] (.ret (.tup [.sl (dE (bF l)) l.length true,.bool true])):=by
 have j:(dE (bF l)).length=l.length:=by rw [GH];unfold bF;rw [Dw]
 have b:ν l.length (dE (bF l))=dE (bF l):=Ξ (by omega)
 suffices hown:CO 56 [.sl (aV l) l.length a] (.ret (.tup [.own (dE (bF l)) l.length 1,.bool true])) by
  have h:=hown.thaw (by simp);simp only [wL,Xqh,Xx4,thaw,φ,b] at h;exact h
 have f:=Ak l a e;obtain ⟨o,c⟩:=DF m;rw [m] at f;have q:0<l.length:=by
  cases l with
  |nil=>simp [je] at c
  |cons _ _=>simp
 have hloop:=fun nt (hn:59≤nt)=>aaz hn l a (by omega) q 1 l [] [] [] rfl c (by simp) rfl (fun _=>rfl)
 have h:=aeV l a 0 (dE (bF l)) l.length;have r:l.length<1099511627776:=by omega
 simp (disch:=first|omega|(simp [au,ay]<;>omega)) only [dH,dQ,BI,φ,b] at h;apply h<;>first|exact True.intro|omega|assumption|exact rfl|skip
 intro nt g;have i:=az.blk (s:=LG l a (0,[],dE [])) (s':=E_ (l.length,Um l 0 [],dE (bF l))) (id:=0) hloop (by simp) rfl (aH.refl _) (aH.refl _) nt g;obtain ⟨k,n⟩:∃ k,l.length=k+1:=⟨l.length - 1,by omega⟩
 have p:E_ (l.length,Um l 0 [],dE (bF l))=⟨[(5,.ref 0 0 0 l.length)],JL (dE (bF l)) (Um l 0 []),.dead,[]⟩:=by
  unfold E_;simp only [n]
 rw [p] at i;unfold JL at i;have d:=i.forget 1 _ (en':= [(5,.ref 0 0 0 l.length)]) (hp':= [(0,⟨dE (bF l),0,false,0,1,true⟩)]) (by intro v h;cases h) (by decide) rfl ⟨Fz.same rfl,trivial⟩ ⟨rfl,JK.same rfl,by decide,rfl⟩;exact d.weak (aH.of ⟨rfl,rfl,rfl,rfl,trivial⟩) (aH.refl _)
theorem Ul (k:Nat):decide (((0:Nat):Int)≤(k:Int))=true:=Yq0 (by omega)
theorem qJ {k n:Nat} (h:k<n):decide ((k:Int)<(n:Int))=true:=Yq0 (by omega)
theorem Cb {k n:Nat} (h:n≤k):decide ((k:Int)<(n:Int))=false:=Yq1 (by omega)
def ixE:Option Nat→bG
 |none=> .exit 0
 |some _=> .ret
def ixI:Option Nat→Int
 |none=> -1
 |some i=>(i:Int)
theorem sJ {p q:Prop} (h:p) (e:p=q):q:=e ▸ h
theorem amB {nt:Nat} (D:92≤nt) (u v o:List Nat) (i j c a x y:Nat) (n:ω (τ (ζ (ε ((0+(δ (((i+j):Nat):Int)))*1) (ai o)) .dead))= ω (x:Int)) (f:ω (τ (ζ (ε ((δ (i:Int))*1) (ai u)) .dead))= ω (a:Int)) (m:ω (τ (ζ (ε ((δ (j:Int))*1) (ai v)) .dead))= ω (y:Int)) (g:ω (γ .i64 ((a:Int)*(y:Int)))= ω (((a*y):Nat):Int)) (e:ω (γ .i64 ((x:Int)+(((a*y):Nat):Int)))= ω (((x+a*y):Nat):Int)) (p:ω (γ .i64 ((((x+a*y):Nat):Int)+(c:Int)))= ω (((x+a*y+c):Nat):Int)) (d:ω (γ .i64 ((i:Int)+(j:Int)))= ω (((i+j):Nat):Int)) (h:ω (Xju (((x+a*y+c):Nat):Int) ((16777216:Nat):Int))= ω ((((x+a*y+c) % 16777216):Nat):Int)) (k:ω (γ .i64 (Xxg (((x+a*y+c):Nat):Int) ((16777216:Nat):Int)))= ω ((((x+a*y+c) / 16777216):Nat):Int)) (l:ω (γ .i64 ((j:Int)+((1:Nat):Int)))= ω (((j+1):Nat):Int)) (B:(Xqg (((0+(δ (((i+j):Nat):Int)))*1)+1) (η (ai o)))=true) (r:(decide (((0:Nat):Int)≤(((i+j):Nat):Int)))=true) (q:(decide ((((i+j):Nat):Int)<(o.length:Int)))=true) (A:(chk (.int .i64) (ζ (ε ((δ (j:Int))*1) (ai v)) .dead))=true) (t:(decide (((0:Nat):Int)≤(j:Int)))=true) (s:(chk (.int .i64) (ζ (ε ((δ (i:Int))*1) (ai u)) .dead))=true) (C:(decide (((0:Nat):Int)≤(i:Int)))=true) (z:(decide ((i:Int)<(u.length:Int)))=true) (w:(chk (.int .i64) (ζ (ε ((0+(δ (((i+j):Nat):Int)))*1) (ai o)) .dead))=true) (b:(decide ((j:Int)<(v.length:Int)))=true):ak prog ap [] nt (af 2 (ah f100)) ⟨[(9,.sl (ai u) u.length false),(10,.sl (ai v) v.length false),(11,.ref 0 0 0 o.length),(12,ω (i:Int)),(13,ω (c:Int)),(14,ω (j:Int))],[(0,⟨(ai o),0,false,0,1,true⟩)],.dead,[]⟩ (.normal) ⟨[(9,.sl (ai u) u.length false),(10,.sl (ai v) v.length false),(11,.ref 0 0 0 o.length),(12,ω (i:Int)),(13,ω ((((x+a*y+c) / 16777216):Nat):Int)),(14,ω (((j+1):Nat):Int))],[(0,⟨(ν ((0+(δ (((i+j):Nat):Int)))*1) (ai o)++ [ω ((((x+a*y+c) % 16777216):Nat):Int)]++ε (((0+(δ (((i+j):Nat):Int)))*1)+1) (ai o)),0,false,0,1,true⟩)],.dead,[]⟩:=pN 100 [] 1 1 (.k 1 B (.c r (.c q (.k 1 A (.c t (.c b (.c s (.c C (.c z (.c w (.c r (.c q (.c (aK b) .nil))))))))))))) (.v 55 (.eq l) (.v 82 (.eq k) (.v 79 (.eq h) (.v 77 (.eq d) (.v 73 (.eq p) (.v 71 (.eq e) (.v 70 (.eq g) (.v 69 (.eq m) (.v 65 (.eq f) (.v 61 (.eq n) (.v 59 (.eq d) .nil))))))))))) D
theorem amC {nt:Nat} (d:92≤nt) (u v o:List Nat) (i j c a x y:Nat) (b:(decide ((j:Int)<(v.length:Int)))=false):ak prog ap [] nt (af 2 (ah f100)) ⟨[(9,.sl (ai u) u.length false),(10,.sl (ai v) v.length false),(11,.ref 0 0 0 o.length),(12,ω (i:Int)),(13,ω (c:Int)),(14,ω (j:Int))],[(0,⟨(ai o),0,false,0,1,true⟩)],.dead,[]⟩ (.exit 2) ⟨[(9,.sl (ai u) u.length false),(10,.sl (ai v) v.length false),(11,.ref 0 0 0 o.length),(12,ω (i:Int)),(13,ω (c:Int))],[(0,⟨(ai o),0,false,0,1,true⟩)],.dead,[]⟩:=pN 100 [] 1 0 (.c (aN b) .nil) (.nil) d
theorem amD {nt:Nat} (g:92≤nt) (u v o a:List Nat) (i d:Nat) (c:ω (γ .i64 ((i:Int)+(v.length:Int)))= ω (((i+v.length):Nat):Int)) (b:ω (γ .i64 ((i:Int)+((1:Nat):Int)))= ω (((i+1):Nat):Int)) (e:(Xqg (((0+(δ (((i+v.length):Nat):Int)))*1)+1) (η (ai a)))=true) (j:(decide (((0:Nat):Int)≤(((i+v.length):Nat):Int)))=true) (f:(decide ((((i+v.length):Nat):Int)<(a.length:Int)))=true) (k:(decide ((i:Int)<(u.length:Int)))=true) (h:aG prog ap [] 92 (.block 2 (.loop (af 2 (ah f100)))) ⟨[(0,.dead),(1,.dead),(4,.dead),(5,.dead),(6,.dead),(7,.dead),(8,.dead),(9,.sl (ai u) u.length false),(10,.sl (ai v) v.length false),(11,.ref 0 0 0 o.length),(12,ω (i:Int)),(13,ω 0),(14,ω 0),(15,.dead),(29,.dead),(47,.bool (decide ((i:Int)<(u.length:Int)))),(53,.dead)],[(0,⟨(ai o),0,false,0,1,true⟩)],.dead,[]⟩ (.normal) ⟨[(9,.sl (ai u) u.length false),(10,.sl (ai v) v.length false),(11,.ref 0 0 0 a.length),(12,ω (i:Int)),(13,ω (d:Int))],[(0,⟨(ai a),0,false,0,1,true⟩)],.dead,[]⟩):ψ nt f100 ⟨[(9,.sl (ai u) u.length false),(10,.sl (ai v) v.length false),(11,.ref 0 0 0 o.length),(12,ω (i:Int))],[(0,⟨(ai o),0,false,0,1,true⟩)],.dead,[]⟩ (.normal) ⟨[(9,.sl (ai u) u.length false),(10,.sl (ai v) v.length false),(11,.ref 0 0 0 a.length),(12,ω (((i+1):Nat):Int))],[(0,⟨(ν ((0+(δ (((i+v.length):Nat):Int)))*1) (ai a)++ [ω (d:Int)]++ε (((0+(δ (((i+v.length):Nat):Int)))*1)+1) (ai a)),0,false,0,1,true⟩)],.dead,[]⟩:=pN 100 [2] 1 1 (.c e (.c j (.c f (.c (aK k) .nil)))) (.v 49 (.eq b) (.v 87 (.eq c) (.l h .nil))) g
theorem amE {nt:Nat} (b:92≤nt) (u v o c:List Nat) (i d:Nat) (a:(decide ((i:Int)<(u.length:Int)))=false):ψ nt f100 ⟨[(9,.sl (ai u) u.length false),(10,.sl (ai v) v.length false),(11,.ref 0 0 0 o.length),(12,ω (i:Int))],[(0,⟨(ai o),0,false,0,1,true⟩)],.dead,[]⟩ (.exit 0) ⟨[(11,.ref 0 0 0 o.length)],[(0,⟨(ai o),0,false,0,1,true⟩)],.dead,[]⟩:=pN 100 [] 1 0 (.c (aN a) .nil) (.nil) b
theorem amy (s t:List UInt8) (x y z:Nat) (a:List Nat) (c:(decide (((0:Nat):Int)≤(γ .i64 ((((ax (ag s)).length:Nat):Int)+(((ax (ag t)).length:Nat):Int)))))=true) (i:(decide ((γ .i64 ((((ax (ag s)).length:Nat):Int)+(((ax (ag t)).length:Nat):Int)))=(γ .i64 ((((ax (ag s)).length:Nat):Int)+(((ax (ag t)).length:Nat):Int)))))=true) (d:(decide ((γ .i64 ((((ax (ag s)).length:Nat):Int)+(((ax (ag t)).length:Nat):Int)))≤((1099511627776:Nat):Int)))=true) (h:CO 134 [.str s,ω 3] (.ret (.tup [ω (x:Int),.bool true]))) (j:CO 134 [.str t,ω 4] (.ret (.tup [ω (y:Int),.bool false]))) (b:CO 135 [.str s] (.ret (.sl (ai (ax (ag s))) (ax (ag s)).length false))) (g:CO 135 [.str t] (.ret (.sl (ai (ax (ag t))) (ax (ag t)).length false))) (e:CO 136 [.sl (ν (a.length*1) (ai a)) a.length true] (.ret (.str (ae z)))) (f:aG prog ap [] 92 (.block 0 (.loop (af 0 (ah f100)))) ⟨[(0,.str s),(1,.str t),(4,.str []),(5,ω (x:Int)),(6,.bool true),(7,ω (y:Int)),(8,.bool false),(9,.sl (ai (ax (ag s))) (ax (ag s)).length false),(10,.sl (ai (ax (ag t))) (ax (ag t)).length false),(11,.ref 0 0 0 (δ (γ .i64 ((((ax (ag s)).length:Nat):Int)+(((ax (ag t)).length:Nat):Int))))),(12,ω 0),(13,.dead),(14,.dead),(15,.dead),(29,.bool false),(47,.dead),(53,.dead)],[(0,⟨(gz (δ (γ .i64 ((((ax (ag s)).length:Nat):Int)+(((ax (ag t)).length:Nat):Int)))) [ω 0]),0,false,0,1,true⟩)],.dead,[]⟩ (.normal) ⟨[(11,.ref 0 0 0 a.length)],[(0,⟨(ai a),0,false,0,1,true⟩)],.dead,[]⟩):CO 100 [.str s,.str t] (.ret (.str (ae z))):=pK [0] 2 1 (.c c (.c i (.c d (.n 2 .nil)))) (.c e (.l f (.c g (.c b (.c j (.c h .nil))))))
theorem amz (s t:List UInt8) (x y z:Nat) (a:List Nat) (c:(decide (((0:Nat):Int)≤(γ .i64 ((((ax (ag s)).length:Nat):Int)+(((ax (ag t)).length:Nat):Int)))))=true) (i:(decide ((γ .i64 ((((ax (ag s)).length:Nat):Int)+(((ax (ag t)).length:Nat):Int)))=(γ .i64 ((((ax (ag s)).length:Nat):Int)+(((ax (ag t)).length:Nat):Int)))))=true) (d:(decide ((γ .i64 ((((ax (ag s)).length:Nat):Int)+(((ax (ag t)).length:Nat):Int)))≤((1099511627776:Nat):Int)))=true) (h:CO 134 [.str s,ω 3] (.ret (.tup [ω (x:Int),.bool false]))) (j:CO 134 [.str t,ω 4] (.ret (.tup [ω (y:Int),.bool true]))) (b:CO 135 [.str s] (.ret (.sl (ai (ax (ag s))) (ax (ag s)).length false))) (g:CO 135 [.str t] (.ret (.sl (ai (ax (ag t))) (ax (ag t)).length false))) (e:CO 136 [.sl (ν (a.length*1) (ai a)) a.length true] (.ret (.str (ae z)))) (f:aG prog ap [] 92 (.block 0 (.loop (af 0 (ah f100)))) ⟨[(0,.str s),(1,.str t),(4,.str []),(5,ω (x:Int)),(6,.bool false),(7,ω (y:Int)),(8,.bool true),(9,.sl (ai (ax (ag s))) (ax (ag s)).length false),(10,.sl (ai (ax (ag t))) (ax (ag t)).length false),(11,.ref 0 0 0 (δ (γ .i64 ((((ax (ag s)).length:Nat):Int)+(((ax (ag t)).length:Nat):Int))))),(12,ω 0),(13,.dead),(14,.dead),(15,.dead),(29,.bool false),(47,.dead),(53,.dead)],[(0,⟨(gz (δ (γ .i64 ((((ax (ag s)).length:Nat):Int)+(((ax (ag t)).length:Nat):Int)))) [ω 0]),0,false,0,1,true⟩)],.dead,[]⟩ (.normal) ⟨[(11,.ref 0 0 0 a.length)],[(0,⟨(ai a),0,false,0,1,true⟩)],.dead,[]⟩):CO 100 [.str s,.str t] (.ret (.str (ae z))):=pK [0] 2 0 (.c c (.c i (.c d (.n 2 .nil)))) (.c e (.l f (.c g (.c b (.c j (.c h .nil))))))
theorem amA (s t:List UInt8) (x y z:Nat) (a:List Nat) (c:(decide (((0:Nat):Int)≤(γ .i64 ((((ax (ag s)).length:Nat):Int)+(((ax (ag t)).length:Nat):Int)))))=true) (i:(decide ((γ .i64 ((((ax (ag s)).length:Nat):Int)+(((ax (ag t)).length:Nat):Int)))=(γ .i64 ((((ax (ag s)).length:Nat):Int)+(((ax (ag t)).length:Nat):Int)))))=true) (d:(decide ((γ .i64 ((((ax (ag s)).length:Nat):Int)+(((ax (ag t)).length:Nat):Int)))≤((1099511627776:Nat):Int)))=true) (h:CO 134 [.str s,ω 3] (.ret (.tup [ω (x:Int),.bool false]))) (j:CO 134 [.str t,ω 4] (.ret (.tup [ω (y:Int),.bool false]))) (b:CO 135 [.str s] (.ret (.sl (ai (ax (ag s))) (ax (ag s)).length false))) (g:CO 135 [.str t] (.ret (.sl (ai (ax (ag t))) (ax (ag t)).length false))) (e:CO 136 [.sl (ν (a.length*1) (ai a)) a.length true] (.ret (.str (ae z)))) (f:aG prog ap [] 92 (.block 0 (.loop (af 0 (ah f100)))) ⟨[(0,.str s),(1,.str t),(4,.str []),(5,ω (x:Int)),(6,.bool false),(7,ω (y:Int)),(8,.bool false),(9,.sl (ai (ax (ag s))) (ax (ag s)).length false),(10,.sl (ai (ax (ag t))) (ax (ag t)).length false),(11,.ref 0 0 0 (δ (γ .i64 ((((ax (ag s)).length:Nat):Int)+(((ax (ag t)).length:Nat):Int))))),(12,ω 0),(13,.dead),(14,.dead),(15,.dead),(29,.bool false),(47,.dead),(53,.dead)],[(0,⟨(gz (δ (γ .i64 ((((ax (ag s)).length:Nat):Int)+(((ax (ag t)).length:Nat):Int)))) [ω 0]),0,false,0,1,true⟩)],.dead,[]⟩ (.normal) ⟨[(11,.ref 0 0 0 a.length)],[(0,⟨(ai a),0,false,0,1,true⟩)],.dead,[]⟩):CO 100 [.str s,.str t] (.ret (.str (ae z))):=pK [0] 2 0 (.c c (.c i (.c d (.n 2 .nil)))) (.c e (.l f (.c g (.c b (.c j (.c h .nil))))))
def F6 (a:Nat):List Nat→List Nat→Nat→List Nat × Nat
 |x::m,y::v,c=>((x+a*y+c) % 16777216::(F6 a m v ((x+a*y+c) / 16777216)).1,(F6 a m v ((x+a*y+c) / 16777216)).2)
 |_,_,c=>([],c)
theorem Ld {a x y c:Nat} (d:a<16777216) (f:x<16777216) (g:y<16777216) (b:c<16777216):a*y<281474976710656∧x+a*y+c<281474976710656∧(x+a*y+c) / 16777216<16777216:=by
 have e:a*y≤16777215*16777215:=Xwu (by omega) (by omega);omega
theorem Ja {a:Nat} (b:a<16777216):∀ (m v:List Nat) (c:Nat),m.length=v.length→c<16777216→bf m→bf v→(F6 a m v c).2<16777216∧bf (F6 a m v c).1∧(F6 a m v c).1.length=v.length∧cO (F6 a m v c).1+16777216^v.length*(F6 a m v c).2=cO m+a*cO v+c
 | [],[],c,_,hc,_,_=> ⟨hc,bf.nil,rfl,by simp [F6,cO]⟩
 |x::m,y::v,c,hl,hc,hm,hv=>by
  obtain ⟨_,_,e⟩:=Ld b hm.head hv.head hc;obtain ⟨d,g,f,i⟩:=Ja b m v _ (by simpa using hl) e hm.tail hv.tail;simp only [F6];refine ⟨d,bf.cons (Xqv _ (by omega)) g,by simp [f], ?_⟩;simp only [cO,μ,Xq2];rw [Ψ (16777216^v.length),Xqn,Xq8,Xwo a];omega
 | [],_::_,_,h,_,_,_=>by simp at h
 |_::_,[],_,h,_,_,_=>by simp at h
def Uk (v:List Nat):List Nat→List Nat→List Nat
 | [],m=>m
 |a::u,m=>((F6 a m v 0).1++ [(F6 a m v 0).2]).headD 0::Uk v u ((F6 a m v 0).1++ [(F6 a m v 0).2]).tail
theorem IQ (l:List Nat) (y:Nat):∃ z m,l++ [y]=z::m∧m.length=l.length:=by
 cases l with
 |nil=>exact ⟨y,[],rfl,rfl⟩
 |cons b l=>exact ⟨b,l++ [y],rfl,by simp⟩
theorem Qk {v:List Nat} (d:bf v):∀ (u m:List Nat),bf u→bf m→m.length=v.length→bf (Uk v u m)∧(Uk v u m).length=u.length+v.length∧cO (Uk v u m)=cO m+cO u*cO v
 | [],m,_,hm,hl=> ⟨hm,by simp [Uk,hl],by simp [Uk,cO]⟩
 | a::u,m,hu,hm,hl=>by
  obtain ⟨f,i,g,o⟩:=Ja hu.head m v 0 hl (by omega) hm d;obtain ⟨z,c,b,n⟩:=IQ (F6 a m v 0).1 (F6 a m v 0).2;have e:bf (z::c):=by rw [← b];exact bf.app i (bf.cons f bf.nil)
  have h:cO (z::c)=cO m+a*cO v:=by
   rw [← b,zg,g];simp only [cO];omega
  simp only [Uk,b,Xjd,Xzj];obtain ⟨j,l,k⟩:=Qk d u c hu.tail e.tail (by omega);refine ⟨bf.cons e.head j,by simp [l];omega, ?_⟩;simp only [cO] at h ⊢;rw [k,Xxm,Xq8,Xqn];omega
def aiz (u v:List Nat) (i:Nat) (p:Nat × List Nat × Nat):St:=⟨[(9,.sl (ai u) u.length false),(10,.sl (ai v) v.length false),(11,.ref 0 0 0 p.2.1.length),(12,ω (i:Int)),(13,ω (p.2.2:Int)),(14,ω (p.1:Int))],[(0,⟨ai p.2.1,0,false,0,1,true⟩)],.dead,[]⟩
def amF (u v:List Nat) (i:Nat) (p:List Nat × Nat):St:=⟨[(9,.sl (ai u) u.length false),(10,.sl (ai v) v.length false),(11,.ref 0 0 0 p.1.length),(12,ω (i:Int)),(13,ω (p.2:Int))],[(0,⟨ai p.1,0,false,0,1,true⟩)],.dead,[]⟩
theorem Xy {p s:List Nat} {x y k:Nat} (h:k=p.length):ν ((0+(δ (k:Int)))*1) (ai (p++x::s))++ [ω (y:Int)]++ε (((0+(δ (k:Int)))*1)+1) (ai (p++x::s))=ai (p++y::s):=by
 rw [Xqf,φ,aB,P5 (by rw [h];simp)];subst h;simp
theorem ael {p s:List Nat} {x k:Nat} (h:k=p.length):(ζ (ε ((0+(δ (k:Int)))*1) (ai (p++x::s))) .dead)= ω (x:Int):=by
 rw [Xqf,φ,aB];exact PZ h
theorem PW {p s:List Nat} {x k:Nat} (h:k=p.length):(ζ (ε ((δ (k:Int))*1) (ai (p++x::s))) .dead)= ω (x:Int):=by
 rw [φ,aB];exact PZ h
theorem Q9 {a b:Nat} (h:a+b<9223372036854775808):ω (γ .i64 ((a:Int)+(b:Int)))= ω ((a+b:Nat):Int):=by
 rw [bJ,aO h]
theorem Zr {nt:Nat} (A:92≤nt) (u u1 u2 v:List Nat) (a:Nat) (B:u=u1++a::u2) (S:a<16777216) (K:bf v) (C:u.length<2^36) (D:v.length<2^36):∀ (w m b d pp z:List Nat) (c:Nat),b++w=v→m.length=w.length→d.length=b.length→pp.length=u1.length→bf m→c<16777216→
  az prog ap [] nt (af 2 (ah f100)) (fun _=> .exit 2) (aiz u v u1.length) (amF u v u1.length) (b.length,pp++d++m++z,c) (pp++d++(F6 a m w c).1++z,(F6 a m w c).2):=by
 intro w
 induction w with
 |nil=>
  intro m b d pp z c f g o q h n;have I:m= []:=List.length_eq_zero_iff.1 (by simpa using g);subst I;have i:b=v:=by simpa using f
  simp only [F6];exact .done (amC A u v _ _ _ _ 0 0 0 (by rw [i];exact Yq1 (by omega)))
 | cons y w ih=>
  intro m b d pp z c f g o q h n;cases m with
  |nil=>simp at g
  | cons x m=>
   have J:b.length+(w.length+1)=v.length:=by rw [← f];simp
   have O:u1.length+(u2.length+1)=u.length:=by rw [B];simp
   have P:y<16777216:=K y (by rw [← f];simp);obtain ⟨X,W,M⟩:=Ld S h.head P n;have e:=ih m (b++ [y]) (d++ [(x+a*y+c) % 16777216]) pp z ((x+a*y+c) / 16777216) (by simp [f]) (by simpa using g) (by simp [o]) q h.tail M;simp only [F6];rw [θ,σ] at e;have U:pp++d++x::m++z=(pp++d)++x::(m++z):=by simp
   have L:pp++(d++ [(x+a*y+c) % 16777216])++m++z=(pp++d)++(x+a*y+c) % 16777216::(m++z):=by simp
   have R:pp++(d++ [(x+a*y+c) % 16777216])++(F6 a m w ((x+a*y+c) / 16777216)).1++z=pp++d++(x+a*y+c) % 16777216::(F6 a m w ((x+a*y+c) / 16777216)).1++z:=by simp
   rw [R] at e;refine .next ?_ e
   have r:u1.length+b.length=(pp++d).length:=by rw [θ];omega
   have t:((pp++d)++x::(m++z)).length=(pp++d).length+(m++z).length+1:=by simp;omega
   have hlen2:((pp++d)++(x+a*y+c) % 16777216::(m++z)).length=((pp++d)++x::(m++z)).length:=by simp
   have V:=ael (p:=pp++d) (s:=m++z) (x:=x) r;have H:(ζ (ε ((δ (u1.length:Int))*1) (ai u)) .dead)= ω (a:Int):=by rw [B];exact PW rfl
   have T:(ζ (ε ((δ (b.length:Int))*1) (ai v)) .dead)= ω (y:Int):=by rw [← f];exact PW rfl
   have Q:=Xy (p:=pp++d) (s:=m++z) (x:=x) (y:=(x+a*y+c) % 16777216) r;unfold aiz;simp only [U,L,hlen2];have hs:=amB A u v ((pp++d)++x::(m++z)) u1.length b.length c a x y;rw [Q,V,H,T] at hs;have k:u1.length<u.length:=by omega
   have l:b.length<v.length:=by omega
   have j:u1.length+b.length<((pp++d)++x::(m++z)).length:=by omega
   have F:ω (Xju (((x+a*y+c):Nat):Int) ((16777216:Nat):Int))= ω ((((x+a*y+c) % 16777216):Nat):Int):=by rw [wU]
   have E:ω (γ .i64 (Xxg (((x+a*y+c):Nat):Int) ((16777216:Nat):Int)))= ω ((((x+a*y+c) / 16777216):Nat):Int):=by rw [qg,aO (by omega)]
   have N:ω (γ .i64 ((a:Int)*(y:Int)))= ω ((a*y:Nat):Int):=by rw [Q8 (by omega)]
   have G:Xqg (((0+(δ (((u1.length+b.length):Nat):Int)))*1)+1) (η (ai ((pp++d)++x::(m++z))))=true:=by
    rw [Xzm,aB,bI];omega
   apply hs<;>first|exact rfl|exact Q9 (by omega)|exact F|exact E|exact N|exact G|exact Ul _|exact qJ k|exact qJ l|exact qJ j
def Wi (u v:List Nat) (p:Nat × List Nat):St:=⟨[(9,.sl (ai u) u.length false),(10,.sl (ai v) v.length false),(11,.ref 0 0 0 p.2.length),(12,ω (p.1:Int))],[(0,⟨ai p.2,0,false,0,1,true⟩)],.dead,[]⟩
def aeB (o:List Nat):St:=⟨[(11,.ref 0 0 0 o.length)],[(0,⟨ai o,0,false,0,1,true⟩)],.dead,[]⟩
theorem WJ {nt:Nat} (g:92≤nt) (u v:List Nat) (d:bf u) (A:bf v) (h:u.length<2^36) (k:v.length<2^36):∀ (u2 u1 m pp:List Nat),u1++u2=u→m.length=v.length→pp.length=u1.length→bf m→
  az prog ap [] nt (af 0 (ah f100)) (fun _=> .exit 0) (Wi u v) aeB (u1.length,pp++m++κ u2.length 0) (pp++Uk v u2 m):=by
 intro u2
 induction u2 with
 |nil=>
  intro u1 m pp c o i j;have q:u1=u:=by simpa using c
  simp only [Uk,Xqb,Xwa,Γ];exact .done (amE g u v _ [] _ 0 (by rw [q];exact Yq1 (by omega)))
 | cons a u2 ih=>
  intro u1 m pp c o i j;have F:u1.length+(u2.length+1)=u.length:=by rw [← c];simp
  have B:a<16777216:=d a (by rw [← c];simp);obtain ⟨J,E,O,N⟩:=Ja B m v 0 o (by omega) j A;have l:=fun nt (g:92≤nt)=>Zr g u u1 u2 v a c.symm B A h k v m [] [] pp (κ (u2.length+1) 0) 0 rfl o rfl i j (by omega)
  simp only [Uk];generalize F6 a m v 0=r at*
  obtain ⟨z,f,n,M⟩:=IQ r.1 r.2;have L:bf (z::f):=by rw [← n];exact bf.app E (bf.cons J bf.nil)
  have b:=ih (u1++ [a]) f (pp++ [z]) (by simp [c]) (by omega) (by simp [i]) L.tail;simp only [n,Xjd,Xzj];rw [θ,σ] at b;have I:pp++ [z]++Uk v u2 f=pp++z::Uk v u2 f:=by simp
  rw [I] at b;refine .next ?_ b
  rw [Γ] at l;have G:u1.length+v.length=(pp++r.1).length:=by rw [θ];omega
  have K:pp++r.1++κ (u2.length+1) 0=(pp++r.1)++0::κ u2.length 0:=by rw [Xxc]
  have D:pp++ [z]++f++κ u2.length 0=(pp++r.1)++r.2::κ u2.length 0:=by
   rw [Xqd pp,Xxe,← n];simp
  have H:=Xy (p:=pp++r.1) (s:=κ u2.length 0) (x:=0) (y:=r.2) G;rw [K] at l;have e:((pp++r.1)++0::κ u2.length 0).length=((pp++r.1)++r.2::κ u2.length 0).length:=by simp
  have hlen2:((pp++r.1)++0::κ u2.length 0).length=(pp++r.1).length+u2.length+1:=by simp;omega
  have hs:=amD g u v (pp++m++κ (u2.length+1) 0) ((pp++r.1)++0::κ u2.length 0) u1.length r.2;rw [H] at hs;have w:u1.length<u.length:=by omega
  have t:u1.length+v.length<((pp++r.1)++0::κ u2.length 0).length:=by omega
  have C:Xqg (((0+(δ (((u1.length+v.length):Nat):Int)))*1)+1) (η (ai ((pp++r.1)++0::κ u2.length 0)))=true:=by
   rw [Xzm,aB,bI];omega
  unfold Wi;simp only [D,μ];rw [← e];apply hs<;>first|exact Q9 (by omega)|exact C|exact Ul _|exact qJ w|exact qJ t|skip
  exact az.blk l (by simp) rfl (aH.of ⟨rfl,rfl,rfl,rfl,rfl,rfl,trivial⟩) (aH.refl _)
theorem wX {s:List UInt8} (h:s.length<2^35):(ax (ag s)).length<2^35:=by
 have a:(ax (ag s)).length≤s.length:=rJ (Xqa (jO s) (by rw [Xx5];exact Nat.pow_le_pow_left (by decide) _));omega
theorem SI (s t:List UInt8) (hs:s.length<2^35) (d:t.length<2^35):∃ o3:List Nat,o3.length<2^36∧bf o3∧cO o3=ag s*ag t∧∀ nt,92≤nt→az prog ap [] nt (af 0 (ah f100)) (fun _=> .exit 0) (Wi (ax (ag s)) (ax (ag t))) aeB (0,κ ((ax (ag s)).length+(ax (ag t)).length) 0) o3:=by
 have f:=wX hs;have g:=wX d;obtain ⟨e,c,b⟩:=Qk (bf.dig (ag t)) (ax (ag s)) (κ (ax (ag t)).length 0) (bf.dig _) (bf.zeros _) (by simp);refine ⟨_,by rw [c];omega,e, ?_,fun nt a=> ?_⟩
 ·rw [b,O_,fA,fA,Xqf]
 ·have:=WJ a (ax (ag s)) (ax (ag t)) (bf.dig _) (bf.dig _) (by omega) (by omega) (ax (ag s)) [] (κ (ax (ag t)).length 0) [] rfl (by simp) rfl (bf.zeros _);rw [Xqk,Xqk,List.replicate_append_replicate,Xxq] at this;exact this
theorem Wh (s t:List UInt8) (hs:s.length<2^35) (u:t.length<2^35):CO 100 [.str s,.str t] (.ret (.str (ae (ag s*ag t)))):=by
 obtain ⟨a,y,z,v,w⟩:=SI s t hs u;have B:=wX hs;have C:=wX u;have h:=BM s (by omega);have i:=BM t (by omega);have c:=uA a true y z;rw [v] at c;have g:ν (a.length*1) (ai a)=ai a:=by rw [φ,dh,Xqx]
 rw [← g] at c;have x:γ .i64 ((((ax (ag s)).length:Nat):Int)+(((ax (ag t)).length:Nat):Int))=(((ax (ag s)).length+(ax (ag t)).length:Nat):Int):=by
  rw [bJ,aO (by omega)]
 have m:=amy s t (ag s) 0 (ag s*ag t) a;have r:=amz s t 0 (ag t) (ag s*ag t) a;have n:=amA s t 0 0 (ag s*ag t) a;rw [x,aB,Jr] at m r n;have k:=Yq0 (p:=((0:Nat):Int)≤(((ax (ag s)).length+(ax (ag t)).length:Nat):Int)) (by omega);have l:=Yq0 (p:=(((ax (ag s)).length+(ax (ag t)).length:Nat):Int)=(((ax (ag s)).length+(ax (ag t)).length:Nat):Int)) rfl;have j:=Yq0 (p:=(((ax (ag s)).length+(ax (ag t)).length:Nat):Int)≤((1099511627776:Nat):Int)) (by omega);have d:=az.blk (s:=Wi (ax (ag s)) (ax (ag t)) (0,κ ((ax (ag s)).length+(ax (ag t)).length) 0)) (s':=aeB a) (id:=0) w (by simp) rfl (aH.refl _) (aH.refl _);have A:((ax (ag s)).length+(ax (ag t)).length)=(κ ((ax (ag s)).length+(ax (ag t)).length) 0).length:=by rw [Xxu]
 unfold Wi at d;simp only [← A] at d;rcases Xq5 (ag s) (2^(8*3)) with c1|c1
 ·have f:=gX s 3 (by omega) (by omega) c1;rcases Xq5 (ag t) (2^(8*4)) with c2|c2
  ·have b:=gX t 4 (by omega) (by omega) c2;have q:ag s*ag t<9223372036854775808:=χ (Xwu (show ag s≤16777215 by omega) (show ag t≤4294967295 by omega)) (by omega);have o:=lg (ag s*ag t) q;rw [← Q8 q] at o;exact afX s t _ _ _ f b o
  ·have b:=lu t 4 (by omega) c2;exact m k l j f b h i c fun nt e=>(d nt e).weak (aH.of ⟨rfl,rfl,rfl,rfl,trivial⟩) (aH.refl _)
 ·have f:=lu s 3 (by omega) c1;rcases Xq5 (ag t) (2^(8*4)) with c2|c2
  ·have b:=gX t 4 (by omega) (by omega) c2;exact r k l j f b h i c fun nt e=>(d nt e).weak (aH.of ⟨rfl,rfl,rfl,rfl,trivial⟩) (aH.refl _)
  ·have b:=lu t 4 (by omega) c2;exact n k l j f b h i c fun nt e=>(d nt e).weak (aH.of ⟨rfl,rfl,rfl,rfl,trivial⟩) (aH.refl _)
end Go.Proofs.Tryz
