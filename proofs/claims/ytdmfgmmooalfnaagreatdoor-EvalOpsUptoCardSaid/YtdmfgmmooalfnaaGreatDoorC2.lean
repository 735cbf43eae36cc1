/- Contracts of functions that the law reaches, each by its own hypotheses; joined by a program of mine. -/
import Derived.Test.YtdmfgmmooalfnaaGreatDoorC1
import Derived.Test.YtdmfgmmooalfnaaGreatDoorM5
set_option linter.unusedSimpArgs false
set_option linter.unusedVariables false
set_option maxRecDepth 100000
open Go AM
open List renaming eq_nil_of_length_eq_zero→Xxl,length_cons→μ,nil_append→Xqk,map_cons→Xqi,map_nil→Xjd,length_nil→Xqb,take_length→Xq1,length_append→θ,length_singleton→σ,getD_eq_getElem?_getD→π,getElem?_eq_none→Xq4,append_nil→Θ,append_assoc→Xqe,drop_zero→Xzh,take_add_one→Xwm,getElem?_eq_getElem→ξ,length_take→Xq2,take→ν,headD→ζ,drop→ε,length→η,all→Xzu,map→Xw4,getD→Xql,foldl_append→Xwq,map_append→Xxy,all_eq_true→Xza,take_append_drop→Xjy,take_of_length_le→Xqc,getD_cons_zero→Xjv,drop_of_length_le→Xjf,range→Xq6,ext_getElem?→Xju,getElem?_set→Xzk,replicate→κ,headD_cons→Xx9,dropWhile_cons→Xxt,singleton_append→Xxh,tail→Xjr,length_drop→Xxx,replicate_succ→Xxb,replicate_zero→Xz9,length_replicate→Xxs,tail_cons→Xzi,replicate_append_replicate→Xwr
open Nat renaming pow_succ→Xqz,mul_comm→Φ,mul_assoc→Xqn,mul_one→χ,not_lt→Xks,add_zero→Xq0,eq_zero_or_pos→Γ,pow_le_pow_right→Xqa,mul_zero→Xx8,min_eq_left→Xx7,lt_or_ge→Xq5,mul_le_mul_left→Xqx,mul_add→Xq8,le_refl→Δ,ble→Xqm,beq→Xqq,mul_pos→Xx3,lt_of_lt_of_le→Ψ,mul_lt_mul_of_pos_right→Xw6,lt_of_not_le→Xk2,div_lt_iff_lt_mul→Xqs,mod_eq_of_lt→υ,mod_lt→Xqu,add_mul→Xxj,zero_add→Xqf,le_trans→Xqy,pow_mul→Xx2,lt_trichotomy→Xj6,mul_le_mul_right→Xqt,one_mul→Xzy,lt_irrefl→Xvr,div_div_eq_div_mul→Xxq,mul_left_comm→Xwn,add_comm→Xxp,div_add_mod→Xq7,lt_trans→Xxa,le_of_lt→Xww,div_eq_of_lt→Xxw,div_le_self→Xjp,lt_of_le_of_lt→φ,gcd→Xxk,gcd_comm→Xv6,gcd_zero_left→Xwo,gcd_le_right→Xwz,gcd_pos_of_pos_right→Xjz,div_pos→Xvp,div_self→Yxh,sub_zero→Xjx,mul_le_mul→Xwt,ble_eq→Xzl
open Decidable renaming em→Xxn
open IntKind renaming wrap→γ
open Bool renaming not_true→Xwg,not_false→Xji,eq_iff_iff→Xxz,not_eq_true'→Xqo
open Int renaming tdiv→Xxd,toNat→δ,fdiv→Xqw,tmod→Xjt
open AV renaming toInt→τ,int→Xxm,toBool→Xka,nilS→Xku
open UInt8 renaming ofNat→Xqj,toNat→Ξ,toNat_lt→Xvg
namespace Go.Proofs.Tryz
abbrev zcc2_0 : List AV := [.str [],ω 0,.bool false,.bool false,.bool false]
def NT:List Nat→List Nat→Nat→List Nat × Nat
 | [],_,c=>([],c)
 |x::u,v,c=>((if x<v.headD 0+c then x+16777216 - (v.headD 0+c) else x - (v.headD 0+c))::(NT u v.tail (if x<v.headD 0+c then 1 else 0)).1,(NT u v.tail (if x<v.headD 0+c then 1 else 0)).2)
theorem ahw {v:List Nat} (h:aZ v):v.headD 0<16777216:=by cases v with|nil=>show 0<16777216;omega|cons d l=>exact h.head
theorem akJ {v:List Nat} (h:aZ v):aZ v.tail:=by cases v with|nil=>exact h|cons d l=>exact h.tail
theorem TL (v:List Nat):bY v=v.headD 0+16777216*bY v.tail:=by cases v with|nil=>rfl|cons d l=>rfl
theorem Zg (u:List Nat):∀ (v:List Nat) (c:Nat),c≤1→aZ u→aZ v→v.length≤u.length→(NT u v c).2≤1∧aZ (NT u v c).1∧(NT u v c).1.length=u.length∧bY (NT u v c).1+bY v+c=bY u+16777216^u.length*(NT u v c).2:=by
 induction u with
 |nil=>
  intro v c g _ _ a;have:v= []:=Xxl (by simpa using a);subst this;exact ⟨g,aZ.nil,rfl,by simp [NT,bY]⟩
 |cons x u ih=>
  intro v c g f d a;have l:=f.head;have m:=ahw d;have b:v.tail.length≤u.length:=by simp at a ⊢;omega
  obtain ⟨i,h,j,k⟩:=ih v.tail (if x<v.headD 0+c then 1 else 0) (by split<;>omega) f.tail (akJ d) b;simp only [NT];refine ⟨i,aZ.cons (by split<;>omega) h,by rw [μ,j,μ], ?_⟩;rw [TL v];simp only [bY,μ,Xqz];rw [Φ (16777216^u.length),Xqn];generalize NT u v.tail (if x<v.headD 0+c then 1 else 0)=r at*
  split at k<;>rename_i e
  ·rw [if_pos e];omega
  ·rw [if_neg e];omega
def RP (a b:List Nat) (na nb:Bool) (p:Nat × Nat × List Nat):St:=⟨[(0,.sl (aj a) a.length na),(1,.sl (aj b) b.length nb),(6,ω (p.2.1:Int)),(7,ω (p.1:Int)),(5,MN p.2.2)],MO p.2.2,.dead,[]⟩
def PQ (p:Nat × List Nat):St:=⟨[(5,MN p.2)],MO p.2,.dead,[]⟩
theorem Zj {nt:Nat} (h:41≤nt) (a b o:List Nat) (f g:Bool) (c k x y:Nat) (q:a.length<2^40) (m:b.length<2^40) (s:k<a.length) (r:o.length=k) (i:a.getD k 0=x) (j:b.getD k 0=y) (p:x<16777216) (n:y<16777216) (t:c≤1):
  ψ nt f151 (RP a b f g (k,c,o)) .normal (RP a b f g (k+1,if x<y+c then 1 else 0,o++ [if x<y+c then x+16777216 - (y+c) else x - (y+c)])):=by
 unfold RP;by_cases hkb:k<b.length<;>by_cases hlt:x<y+c<;>simp only [hlt,if_true,if_false]
 ·have e:((x:Int) - (c:Int) - (y:Int)+((16777216:Nat):Int))=((x+16777216 - (y+c):Nat):Int):=by omega
  rcases Xxn (o= []) with rfl|hne
  ·have d:=aeG h a b [] f g c k;simp (disch:=first|omega|(simp [au,ay]<;>omega)) only [aC,χ,f_,i,aY,dn,j,bz,bf,eF,dm,aX,bJ] at d;rw [e] at d;simp only [Xqk,MN,MO,aj,Xqi,Xjd,μ,Xqb] at d ⊢;apply d<;>first|exact True.intro|omega|assumption|exact rfl
  ·have d:=aeB h a b o f g c k;rw [gu hne,gy hne,gu (ja _ _),gy (ja _ _)];simp (disch:=first|omega|(simp [au,ay]<;>omega)) only [fQ,bf,χ,aC,f_,i,aY,dn,j,bz,eF,dm,aX,bJ] at d;rw [e] at d;simp (disch:=first|omega|(simp [au,ay]<;>omega)) only [bW,dF,Xq1,kK] at d;simp only [θ,σ];apply d<;>first|exact True.intro|omega|assumption|exact rfl
 ·have e:((x:Int) - (c:Int) - (y:Int))=((x - (y+c):Nat):Int):=by omega
  rcases Xxn (o= []) with rfl|hne
  ·have d:=aeH h a b [] f g c k;simp (disch:=first|omega|(simp [au,ay]<;>omega)) only [aC,χ,f_,i,aY,dn,j,dC,dJ,dW,eF,dm,bf,aX,bz,bJ] at d;rw [e] at d;simp only [Xqk,MN,MO,aj,Xqi,Xjd,μ,Xqb] at d ⊢;apply d<;>first|exact True.intro|omega|assumption|exact rfl
  ·have d:=aeC h a b o f g c k;rw [gu hne,gy hne,gu (ja _ _),gy (ja _ _)];simp (disch:=first|omega|(simp [au,ay]<;>omega)) only [fQ,bf,χ,aC,f_,i,aY,dn,j,dC,dJ,dW,eF,dm,aX,bz,bJ] at d;rw [e] at d;simp (disch:=first|omega|(simp [au,ay]<;>omega)) only [bW,dF,Xq1,kK] at d;simp only [θ,σ];apply d<;>first|exact True.intro|omega|assumption|exact rfl
 ·have l:y=0:=by rw [← j,π,Xq4 (by omega)];rfl
  have e:((x:Int) - (c:Int)+((16777216:Nat):Int))=((x+16777216 - (y+c):Nat):Int):=by omega
  rcases Xxn (o= []) with rfl|hne
  ·have d:=aeI h a b [] f g c k;simp (disch:=first|omega|(simp [au,ay]<;>omega)) only [aC,χ,f_,i,aY,dn,bz,bf,aX,dC,dJ,dW,Xks,eF,dm,bJ] at d;rw [e] at d;simp only [Xqk,MN,MO,aj,Xqi,Xjd,μ,Xqb] at d ⊢;apply d<;>first|exact True.intro|omega|assumption|exact rfl
  ·have d:=aeD h a b o f g c k;rw [gu hne,gy hne,gu (ja _ _),gy (ja _ _)];simp (disch:=first|omega|(simp [au,ay]<;>omega)) only [fQ,bf,χ,aC,f_,i,aY,dn,bz,aX,dC,dJ,dW,Xks,eF,dm,bJ] at d;rw [e] at d;simp (disch:=first|omega|(simp [au,ay]<;>omega)) only [bW,dF,Xq1,kK] at d;simp only [θ,σ];apply d<;>first|exact True.intro|omega|assumption|exact rfl
 ·have l:y=0:=by rw [← j,π,Xq4 (by omega)];rfl
  have e:((x:Int) - (c:Int))=((x - (y+c):Nat):Int):=by omega
  rcases Xxn (o= []) with rfl|hne
  ·have d:=aeJ h a b [] f g c k;simp (disch:=first|omega|(simp [au,ay]<;>omega)) only [aC,χ,f_,i,aY,dn,dC,dJ,dW,aX,Xks,eF,dm,bf,bz,bJ] at d;rw [e] at d;simp only [Xqk,MN,MO,aj,Xqi,Xjd,μ,Xqb] at d ⊢;apply d<;>first|exact True.intro|omega|assumption|exact rfl
  ·have d:=aeE h a b o f g c k;rw [gu hne,gy hne,gu (ja _ _),gy (ja _ _)];simp (disch:=first|omega|(simp [au,ay]<;>omega)) only [fQ,bf,χ,aC,f_,i,aY,dn,dC,dJ,dW,aX,Xks,eF,dm,bz,bJ] at d;rw [e] at d;simp (disch:=first|omega|(simp [au,ay]<;>omega)) only [bW,dF,Xq1,kK] at d;simp only [θ,σ];apply d<;>first|exact True.intro|omega|assumption|exact rfl
theorem Zh {nt:Nat} (f:41≤nt) (a b o:List Nat) (d e:Bool) (c:Nat):ψ nt f151 (RP a b d e (a.length,c,o)) (.exit 0) (PQ (c,o)):=by
 unfold RP PQ;rcases Xxn (o= []) with rfl|hne
 ·exact aeK f a b [] d e c a.length (by rw [aX];simp [lit])
 ·have g:=aeF f a b o d e c a.length (by rw [aX];simp [lit]);rw [gu hne,gy hne];exact g
theorem Zi {nt:Nat} (m:41≤nt) (a b:List Nat) (i j:Bool) (r:a.length<2^40) (d:b.length<2^40) (e:aZ a) (k:aZ b):∀ (l p o:List Nat) (c:Nat),p++l=a→o.length=p.length→c≤1→
  aA prog ap [] nt (af 0 (ah f151)) (fun _=> .exit 0) (RP a b i j) PQ (p.length,c,o) ((NT l (b.drop p.length) c).2,o++(NT l (b.drop p.length) c).1):=by
 intro l
 induction l with
 |nil=>
  intro p o c h f n;have hp:p=a:=by simpa using h
  rw [hp];simp only [NT,Θ];exact .done (Zh m a b o i j c)
 | cons x l ih=>
  intro p o c h f n;have u:p.length+(l.length+1)=a.length:=by rw [← h];simp
  have s:x<16777216:=e x (by rw [← h];simp);have t:a.getD p.length 0=x:=by rw [← h];simp
  have q:(b.drop p.length).headD 0=b.getD p.length 0:=by
   rw [List.headD_eq_head?_getD,List.head?_drop,π]
  have g:(b.drop p.length).tail=b.drop (p.length+1):=by rw [List.tail_drop]
  have hnext:=ih (p++ [x]) (o++ [if x<b.getD p.length 0+c then x+16777216 - (b.getD p.length 0+c) else x - (b.getD p.length 0+c)]) (if x<b.getD p.length 0+c then 1 else 0) (by simp [h]) (by simp [f]) (by split<;>omega);rw [θ,σ,Xqe] at hnext;simp only [NT];rw [q,g];exact .next (Zj m a b o i j c p.length x _ r d (by omega) f t rfl s (k.getD _) n) hnext
theorem KN (x y:Nat) (d e:Bool) (h:y≤x) (t:(ax x).length<2^36):CO 151 [.sl (aj (ax x)) (ax x).length d,.sl (aj (ax y)) (ax y).length e] (.ret (.sl (aj (ax (x - y))) (ax (x - y)).length false)):=by
 have j:=qC h;obtain ⟨m,f,k,b⟩:=Zg (ax x) (ax y) 0 (by omega) (aZ.dig x) (aZ.dig y) j;have hloop:=fun nt (hn:41≤nt)=>Zi hn (ax x) (ax y) d e (by omega) (by omega) (aZ.dig x) (aZ.dig y) (ax x) [] [] 0 rfl rfl (by omega)
 rw [Xqb,Xzh] at hloop;generalize u:NT (ax x) (ax y) 0=r at*
 obtain ⟨o,c⟩:=r;simp only [Xqk] at hloop m f k b;rw [eP,eP,Xq0] at b;have g:=yU f;have p:c=0:=by
  rcases Γ c with h0|h0
  ·exact h0
  ·have n:c=1:=by omega
   have q:=uV y;have s:=Xqa (show 0<16777216 by omega) j;rw [n,χ] at b;rw [k] at g;omega
 subst p;have i:bY o=x - y:=by rw [Xx8] at b;omega
 have l:=yJ o true (by omega);rw [QF f,i] at l;rcases Xxn (o= []) with rfl|hne
 ·have h:=aao (ax x) (ax y) [] (ax (x - y)) d e;have a:=yJ [] false (by simp);rw [QF aZ.nil,i] at a;apply h
  ·exact aA.blk hloop (by simp) rfl (aH.of ⟨rfl,rfl,rfl,rfl,rfl,trivial⟩) (aH.of ⟨rfl,trivial⟩)
  ·exact a.args (gZ.cons (aT.nilS false rfl) gZ.nil)
 ·have h:=aan (ax x) (ax y) o (ax (x - y)) d e;rw [χ,dF,Xq1] at h;apply h
  ·exact aA.blk hloop (by simp) rfl (aH.of ⟨rfl,rfl,rfl,rfl,rfl,trivial⟩) (by unfold PQ;rw [gu hne,gy hne];exact aH.of ⟨rfl,trivial⟩)
  ·exact l.out (jW.sl1 _ _ _)
def Yh (a b:List Nat):Nat→Option Int
 |0=>none
 |k+1=>if a.getD k 0=b.getD k 0 then Yh a b k else some ((a.getD k 0:Int) - (b.getD k 0:Int))
def JV (a b:List Nat):Int:=if a.length=b.length then (Yh a b a.length).getD 0 else (a.length:Int) - (b.length:Int)
theorem oJ {l:List Nat} {k:Nat} (h:k<l.length):bY (l.take (k+1))=bY (l.take k)+16777216^k*l.getD k 0:=by
 rw [Xwm,yT,ξ h,Xq2,Xx7 (by omega),π,ξ h];simp [bY]
theorem JX {a b:List Nat} (f:a.length=b.length) (e:aZ a) (d:aZ b):∀ k,k≤a.length→(0≤(Yh a b k).getD 0↔bY (b.take k)≤bY (a.take k))∧((Yh a b k).getD 0≤0↔bY (a.take k)≤bY (b.take k))
 |0,_=>by simp [Yh]
 | k+1,h=>by
  obtain ⟨g,i⟩:=JX f e d k (by omega);rw [oJ (l:=a) (by omega),oJ (l:=b) (by omega)];have j:=yU (e.take k);have tb:=yU (d.take k);rw [Xq2,Xx7 (by omega)] at j tb;simp only [Yh];by_cases he:a.getD k 0=b.getD k 0
  ·rw [if_pos he,he];exact ⟨g.trans (by omega),i.trans (by omega)⟩
  ·rw [if_neg he];simp only [Option.getD_some];generalize a.getD k 0=x at*
   generalize b.getD k 0=y at*
   generalize bY (ν k a)=u at*
   generalize bY (ν k b)=v at*
   generalize 16777216^k=M at*
   rcases Xq5 x y with hlt|hge
   ·have c:M*(x+1)≤M*y:=Xqx _ hlt;rw [Xq8,χ] at c;constructor<;>constructor<;>intro<;>omega
   ·have c:M*(y+1)≤M*x:=Xqx _ (by omega);rw [Xq8,χ] at c;constructor<;>constructor<;>intro<;>omega
theorem Gy (x y:Nat):(0≤JV (ax x) (ax y)↔y≤x)∧(JV (ax x) (ax y)≤0↔x≤y):=by
 unfold JV;by_cases h:(ax x).length=(ax y).length
 ·rw [if_pos h];have:=JX h (aZ.dig x) (aZ.dig y) _ (Δ _);rw [Xq1,h,Xq1,eP,eP] at this;rw [h];exact this
 ·rw [if_neg h];rcases Xq5 (ax x).length (ax y).length with h1|h1
  ·have b:¬ y≤x:=fun a=>by have:=qC a;omega
   constructor<;>constructor<;>intro<;>omega
  ·have b:¬ x≤y:=fun a=>by have:=qC a;omega
   constructor<;>constructor<;>intro<;>omega
def acW (a b:List Nat) (na nb:Bool) (k:Nat):St:=⟨[(0,.sl (aj a) a.length na),(1,.sl (aj b) b.length nb),(5,ω ((k:Int) - 1))],[],.dead,[]⟩
def agr:Option Int→St
 |none=> ⟨[],[],.dead,[]⟩
 |some c=> ⟨[(4,.int .i64 c)],[],.dead,[]⟩
def cqE:Option Int→bD
 |none=> .exit 0
 |some _=> .ret
theorem Yi {nt:Nat} (h:41≤nt) (a b:List Nat) (d e:Bool) (o:a.length=b.length) (f:aZ a) (g:aZ b) (p:a.length<2^40):∀ k,k≤a.length→aA prog ap [] nt (af 0 (ah f186)) cqE (acW a b d e) agr k (Yh a b k):=by
  intro k
  induction k with
  |zero=>exact fun _=> .done (aeu h a b d e)
  | succ k ih=>
    intro q;have j:=f.getD k;have n:=g.getD k;have i:(((k+1:Nat):Int) - 1)=(k:Int):=by omega
    have l:γ .i64 ((k:Int) - ((1:Nat):Int))=(k:Int) - 1:=dn (by omega) (by omega);have m:γ .i64 (((a.getD k 0:Nat):Int) - ((b.getD k 0:Nat):Int))=((a.getD k 0:Nat):Int) - ((b.getD k 0:Nat):Int):=dn (by omega) (by omega);simp only [Yh];by_cases he:a.getD k 0=b.getD k 0
    · rw [if_pos he];refine .next ?_ (ih (by omega))
      unfold acW;rw [i]
      first
        | (have c:=ajz h a b d e k
           simp (disch:=first|omega|(simp [au,ay]<;>omega)) only [aC,χ,f_,he,aY,jC,decide_true,Xwg,dC,Xji,eF,dm,bf,aX,bz,l] at c;apply c<;>first|exact True.intro|omega|assumption|exact rfl)
    · rw [if_neg he];refine .done ?_;unfold acW;rw [i];have c:=ajy h a b d e k;simp (disch:=first|omega|(simp [au,ay]<;>omega)) only [aC,χ,f_,eF,dm,bf,aX,aY,jC,he,decide_false,Xji,bz,m] at c;apply c<;>first|exact True.intro|omega|assumption|exact rfl
theorem Qj (a b:List Nat) (d e:Bool) (g:aZ a) (f:aZ b) (i:a.length<2^40) (l:b.length<2^40):CO 186 [.sl (aj a) a.length d,.sl (aj b) b.length e] (.ret (ω (JV a b))):=by
 unfold JV;by_cases hl:a.length=b.length
 ·rw [if_pos hl];have hloop:=fun nt (hn:41≤nt)=>Yi hn a b d e hl g f i a.length (Δ _)
  have j:γ .i64 ((a.length:Int) - ((1:Nat):Int))=(a.length:Int) - 1:=Eg i;cases k:Yh a b a.length with
  |none=>
   rw [k] at hloop;exact aew a b d e (by rw [hl];simp [lit]) (aA.blk hloop (by simp [cqE]) rfl (aH.of ⟨rfl,rfl,congrArg _ j,trivial⟩) (aH.of trivial))
  |some c=>
   rw [k] at hloop;exact aex a b d e c (by rw [hl];simp [lit]) (aA.blk hloop (by simp [cqE]) rfl (aH.of ⟨rfl,rfl,congrArg _ j,trivial⟩) (aH.of ⟨rfl,trivial⟩))
 ·rw [if_neg hl];have h:=aev a b d e;have m:γ .i64 ((a.length:Int) - (b.length:Int))=(a.length:Int) - (b.length:Int):=dn (by omega) (by omega);simp (disch:=first|omega|(simp [au,ay]<;>omega)) only [jC,bz,dJ,dW,m] at h;apply h<;>first|exact True.intro|omega|assumption|exact rfl
theorem agt {nt:Nat} (g:26≤nt) (x y w b a:Nat) (c:Int) (d e:Bool) (i:lit true (decide (c≤((0:Nat):Int)))=true) (f:lit true (decide ((b:Int)<(a:Int)))=true) (h:CO 188 [.sl (aj (ax y)) (ax y).length e,ω (γ .i64 (Xxd (γ .i64 ((γ .i64 ((b:Int)+(a:Int)))+((1:Nat):Int))) ((2:Nat):Int)))] (.ret (.sl (aj (ax w)) (ax w).length true))) (j:CO 186 [.sl (aj (ax w)) (ax w).length true,.sl (aj (ax x)) (ax x).length d] (.ret (ω c))):ψ nt f187 ⟨[(0,.sl (aj (ax x)) (ax x).length d),(1,.sl (aj (ax y)) (ax y).length e),(5,ω (b:Int)),(6,ω (a:Int))],[],.dead,[]⟩ (.normal) ⟨[(0,.sl (aj (ax x)) (ax x).length d),(1,.sl (aj (ax y)) (ax y).length e),(5,ω (γ .i64 (Xxd (γ .i64 ((γ .i64 ((b:Int)+(a:Int)))+((1:Nat):Int))) ((2:Nat):Int)))),(6,ω (a:Int))],[],.dead,[]⟩:=pJ 187 [] 2 3 (.c i (.k 1 f .nil)) (.c j (.c h .nil)) g
theorem agu {nt:Nat} (g:26≤nt) (x y w a b:Nat) (c:Int) (d e:Bool) (i:lit false (decide (c≤((0:Nat):Int)))=true) (f:lit true (decide ((a:Int)<(b:Int)))=true) (h:CO 188 [.sl (aj (ax y)) (ax y).length e,ω (γ .i64 (Xxd (γ .i64 ((γ .i64 ((a:Int)+(b:Int)))+((1:Nat):Int))) ((2:Nat):Int)))] (.ret (.sl (aj (ax w)) (ax w).length true))) (j:CO 186 [.sl (aj (ax w)) (ax w).length true,.sl (aj (ax x)) (ax x).length d] (.ret (ω c))):ψ nt f187 ⟨[(0,.sl (aj (ax x)) (ax x).length d),(1,.sl (aj (ax y)) (ax y).length e),(5,ω (a:Int)),(6,ω (b:Int))],[],.dead,[]⟩ (.normal) ⟨[(0,.sl (aj (ax x)) (ax x).length d),(1,.sl (aj (ax y)) (ax y).length e),(5,ω (a:Int)),(6,ω (γ .i64 ((γ .i64 (Xxd (γ .i64 ((γ .i64 ((a:Int)+(b:Int)))+((1:Nat):Int))) ((2:Nat):Int))) - ((1:Nat):Int))))],[],.dead,[]⟩:=pJ 187 [] 2 1 (.c i (.k 1 f .nil)) (.c j (.c h .nil)) g
theorem agv {nt:Nat} (f:26≤nt) (x y w a b:Nat) (c:Int) (d e:Bool) (g:lit false (decide ((a:Int)<(b:Int)))=true):ψ nt f187 ⟨[(0,.sl (aj (ax x)) (ax x).length d),(1,.sl (aj (ax y)) (ax y).length e),(5,ω (a:Int)),(6,ω (b:Int))],[],.dead,[]⟩ (.exit 0) ⟨[(5,ω (a:Int))],[],.dead,[]⟩:=pJ 187 [] 1 0 (.c g .nil) (.nil) f
theorem acX (x y q:Nat) (a b:Bool) (c:aG prog ap [] 26 (.block 0 (.loop (af 0 (ah f187)))) ⟨[(0,.sl (aj (ax x)) (ax x).length a),(1,.sl (aj (ax y)) (ax y).length b),(4,ω 0),(5,ω 0),(6,ω 16777215),(7,.dead),(10,.dead),(21,.dead)],[],.dead,[]⟩ (.normal) ⟨[(5,ω (q:Int))],[],.dead,[]⟩):CO 187 [.sl (aj (ax x)) (ax x).length a,.sl (aj (ax y)) (ax y).length b] (.ret (ω (q:Int))):=pK [0] 0 0 .nil (.l c .nil)
theorem aed {nt:Nat} (e:35≤nt) (l o:List Nat) (k:Nat) (d:Bool) (b:(chk (.int .i64) (ζ (ε ((δ (k:Int))*1) (aj l)) .dead))=true) (a:(decide (((0:Nat):Int)≤(k:Int)))=true) (c:(decide ((k:Int)<(l.length:Int)))=true) (f:lit true (decide (((0:Nat):Int)≤(k:Int)))=true):ψ nt f136 ⟨[(0,.sl (aj l) l.length d),(3,.nilS),(4,ω (k:Int))],[],.dead,[]⟩ (.normal) ⟨[(0,.sl (aj l) l.length d),(3,.ref 0 0 0 3),(4,ω (γ .i64 ((k:Int) - ((1:Nat):Int))))],[(0,⟨[.int .u8 (γ .u8 (Xqw (τ (ζ (ε ((δ (k:Int))*1) (aj l)) .dead)) (2^(min 16 64)))),.int .u8 (γ .u8 (Xqw (τ (ζ (ε ((δ (k:Int))*1) (aj l)) .dead)) (2^(min 8 64)))),.int .u8 (γ .u8 (τ (ζ (ε ((δ (k:Int))*1) (aj l)) .dead)))],0,false,0,1,true⟩)],.dead,[]⟩:=pJ 136 [] 2 1 (.k 3 b (.c a (.c c (.k 1 b (.c a (.c c (.k 1 b (.c a (.c c (.c f .nil)))))))))) (.nil) e
theorem ZE {nt:Nat} (a:35≤nt) (l o:List Nat) (b:Bool):ψ nt f136 ⟨[(0,.sl (aj l) l.length b),(3,.nilS),(4,ω (-1))],[],.dead,[]⟩ (.exit 0) ⟨[(3,.nilS)],[],.dead,[]⟩:=pJ 136 [] 1 0 (.n 1 .nil) (.nil) a
theorem ZF (l o:List Nat) (a:Bool) (b:aG prog ap [] 35 (.block 0 (.loop (af 0 (ah f136)))) ⟨[(0,.sl (aj l) l.length a),(2,.str []),(3,.nilS),(4,ω (γ .i64 ((l.length:Int) - ((1:Nat):Int)))),(9,.dead)],[],.dead,[]⟩ (.normal) ⟨[(3,.nilS)],[],.dead,[]⟩) (c:CO 133 [.str []] (.ret (.str (ae (ag []))))):CO 136 [.sl (aj l) l.length a] (.ret (.str (ae (ag [])))):=pK [0] 0 0 (.n 2 .nil) (.c c (.l b .nil))
theorem aec {nt:Nat} (f:35≤nt) (l o:List Nat) (k:Nat) (d:Bool) (h:(Xqm (o.length+3) 1099511627776)=true) (e:(Xqm (o.length*1) (η (oL o)))=true) (c:(chk (.int .i64) (ζ (ε ((δ (k:Int))*1) (aj l)) .dead))=true) (a:(decide (((0:Nat):Int)≤(k:Int)))=true) (b:(decide ((k:Int)<(l.length:Int)))=true) (g:lit true (decide (((0:Nat):Int)≤(k:Int)))=true):ψ nt f136 ⟨[(0,.sl (aj l) l.length d),(3,.ref 0 0 0 o.length),(4,ω (k:Int))],[(0,⟨(oL o),0,false,0,1,true⟩)],.dead,[]⟩ (.normal) ⟨[(0,.sl (aj l) l.length d),(3,.ref 0 0 0 (o.length+3)),(4,ω (γ .i64 ((k:Int) - ((1:Nat):Int))))],[(0,⟨((ν (o.length*1) (oL o))++ [.int .u8 (γ .u8 (Xqw (τ (ζ (ε ((δ (k:Int))*1) (aj l)) .dead)) (2^(min 16 64)))),.int .u8 (γ .u8 (Xqw (τ (ζ (ε ((δ (k:Int))*1) (aj l)) .dead)) (2^(min 8 64)))),.int .u8 (γ .u8 (τ (ζ (ε ((δ (k:Int))*1) (aj l)) .dead)))]),0,false,0,1,true⟩)],.dead,[]⟩:=pJ 136 [] 1 1 (.k 1 h (.c e (.k 1 c (.c a (.c b (.k 1 c (.c a (.c b (.k 1 c (.c a (.c b (.c g .nil)))))))))))) (.nil) f
theorem ZB {nt:Nat} (a:35≤nt) (l o:List Nat) (b:Bool):ψ nt f136 ⟨[(0,.sl (aj l) l.length b),(3,.ref 0 0 0 o.length),(4,ω (-1))],[(0,⟨(oL o),0,false,0,1,true⟩)],.dead,[]⟩ (.exit 0) ⟨[(3,.ref 0 0 0 o.length)],[(0,⟨(oL o),0,false,0,1,true⟩)],.dead,[]⟩:=pJ 136 [] 1 0 (.n 1 .nil) (.nil) a
theorem ZC (l o:List Nat) (a:Bool) (f:(Xqq (η (ν (o.length*1) (oL o))) o.length)=true) (d:(Xzu (ν (o.length*1) (oL o)) (chk (.int .u8)))=true) (b:aG prog ap [] 35 (.block 0 (.loop (af 0 (ah f136)))) ⟨[(0,.sl (aj l) l.length a),(2,.str []),(3,.nilS),(4,ω (γ .i64 ((l.length:Int) - ((1:Nat):Int)))),(9,.dead)],[],.dead,[]⟩ (.normal) ⟨[(3,.ref 0 0 0 o.length)],[(0,⟨(oL o),0,false,0,1,true⟩)],.dead,[]⟩) (e:CO 133 [.str (Xw4 (fun c=>Xqj (δ (τ c))) (ν (o.length*1) (oL o)))] (.ret (.str (ae (ag (Xw4 (fun c=>Xqj (δ (τ c))) (ν (o.length*1) (oL o)))))))):CO 136 [.sl (aj l) l.length a] (.ret (.str (ae (ag (Xw4 (fun c=>Xqj (δ (τ c))) (ν (o.length*1) (oL o))))))):=pK [0] 0 0 (.c f (.c d .nil)) (.c e (.l b .nil))
theorem aeT (x:Nat) (a:lit true (decide (((0:Nat):Int)<(x:Int)))=true) (b:CO 133 [.str [Xqj (δ (γ .u8 (Xqw (x:Int) (2^(min 56 64))))),Xqj (δ (γ .u8 (Xqw (x:Int) (2^(min 48 64))))),Xqj (δ (γ .u8 (Xqw (x:Int) (2^(min 40 64))))),Xqj (δ (γ .u8 (Xqw (x:Int) (2^(min 32 64))))),Xqj (δ (γ .u8 (Xqw (x:Int) (2^(min 24 64))))),Xqj (δ (γ .u8 (Xqw (x:Int) (2^(min 16 64))))),Xqj (δ (γ .u8 (Xqw (x:Int) (2^(min 8 64))))),Xqj (δ (γ .u8 (Xqw (x:Int) (2^(min 0 64)))))]] (.ret (.str (ae (ag [Xqj (δ (γ .u8 (Xqw (x:Int) (2^(min 56 64))))),Xqj (δ (γ .u8 (Xqw (x:Int) (2^(min 48 64))))),Xqj (δ (γ .u8 (Xqw (x:Int) (2^(min 40 64))))),Xqj (δ (γ .u8 (Xqw (x:Int) (2^(min 32 64))))),Xqj (δ (γ .u8 (Xqw (x:Int) (2^(min 24 64))))),Xqj (δ (γ .u8 (Xqw (x:Int) (2^(min 16 64))))),Xqj (δ (γ .u8 (Xqw (x:Int) (2^(min 8 64))))),Xqj (δ (γ .u8 (Xqw (x:Int) (2^(min 0 64)))))]))))):CO 79 [ω (x:Int)] (.ret (.str (ae (ag [Xqj (δ (γ .u8 (Xqw (x:Int) (2^(min 56 64))))),Xqj (δ (γ .u8 (Xqw (x:Int) (2^(min 48 64))))),Xqj (δ (γ .u8 (Xqw (x:Int) (2^(min 40 64))))),Xqj (δ (γ .u8 (Xqw (x:Int) (2^(min 32 64))))),Xqj (δ (γ .u8 (Xqw (x:Int) (2^(min 24 64))))),Xqj (δ (γ .u8 (Xqw (x:Int) (2^(min 16 64))))),Xqj (δ (γ .u8 (Xqw (x:Int) (2^(min 8 64))))),Xqj (δ (γ .u8 (Xqw (x:Int) (2^(min 0 64)))))])))):=pK [] 19 131067 (.k 9 a (.k 6 a (.k 6 a (.k 6 a (.k 6 a (.k 6 a (.k 6 a (.k 5 a (.n 1 .nil))))))))) (.c b .nil)
theorem aeU (x:Nat) (b:lit false (decide (((0:Nat):Int)<(x:Int)))=true) (a:CO 133 [.str []] (.ret (.str (ae (ag []))))):CO 79 [ω (x:Int)] (.ret (.str (ae (ag [])))):=pK [] 2 1 (.k 2 b (.n 1 .nil)) (.c a .nil)
theorem aez {nt:Nat} (b:35≤nt) (s:List UInt8) (n k:Nat) (c:(decide (((0:Nat):Int)≤(k:Int)))=true) (a:(decide ((k:Int)<(((η s):Nat):Int)))=true) (d:lit true (decide ((k:Int)<(((η s):Nat):Int)))=true):ψ nt f178 ⟨[(0,.str s),(4,ω (n:Int)),(5,ω (k:Int))],[],.dead,[]⟩ (.normal) ⟨[(0,.str s),(4,ω (γ .i64 ((γ .i64 ((n:Int)*2^(min 8 64)))+(γ .i64 ((Ξ (Xql s (δ (k:Int)) 0):Nat):Int))))),(5,ω (γ .i64 ((k:Int)+((1:Nat):Int))))],[],.dead,[]⟩:=pJ 178 [] 1 1 (.c c (.c a (.k 1 d .nil))) (.nil) b
theorem aeA {nt:Nat} (a:35≤nt) (s:List UInt8) (n k:Nat) (b:lit false (decide ((k:Int)<(((η s):Nat):Int)))=true):ψ nt f178 ⟨[(0,.str s),(4,ω (n:Int)),(5,ω (k:Int))],[],.dead,[]⟩ (.exit 0) ⟨[(4,ω (n:Int))],[],.dead,[]⟩:=pJ 178 [] 1 0 (.c b .nil) (.nil) a
theorem aal (s:List UInt8) (n:Nat) (d:lit false (decide (((127:Nat):Int)<((Ξ (Xql (ae (ag s)) 0 0):Nat):Int)))=true) (b:(decide (((0:Nat):Int)<(((η (ae (ag s))):Nat):Int)))=true) (f:lit true ((((η (ae (ag s))):Nat):Int)==((8:Nat):Int))=true) (c:lit false (decide (((8:Nat):Int)<(((η (ae (ag s))):Nat):Int)))=true) (e:CO 133 [.str s] (.ret (.str (ae (ag s))))) (a:aG prog ap [] 35 (.block 0 (.loop (af 0 (ah f178)))) ⟨[(0,.str (ae (ag s))),(2,ω 0),(3,.bool false),(4,ω 0),(5,ω 0),(20,.bool (decide (((127:Nat):Int)<((Ξ (Xql (ae (ag s)) 0 0):Nat):Int)))),(24,.dead)],[],.dead,[]⟩ (.normal) ⟨[(4,ω (n:Int))],[],.dead,[]⟩):CO 178 [.str s] (.ret (.tup [ω (n:Int),.bool true])):=pK [0] 3 2 (.c d (.k 1 b (.c f (.c c .nil)))) (.l a (.c e .nil))
theorem aam (s:List UInt8) (n:Nat) (d:lit false ((((η (ae (ag s))):Nat):Int)==((8:Nat):Int))=true) (b:lit false (decide (((8:Nat):Int)<(((η (ae (ag s))):Nat):Int)))=true) (c:CO 133 [.str s] (.ret (.str (ae (ag s))))) (a:aG prog ap [] 35 (.block 0 (.loop (af 0 (ah f178)))) ⟨[(0,.str (ae (ag s))),(2,ω 0),(3,.bool false),(4,ω 0),(5,ω 0),(20,.bool false),(24,.dead)],[],.dead,[]⟩ (.normal) ⟨[(4,ω (n:Int))],[],.dead,[]⟩):CO 178 [.str s] (.ret (.tup [ω (n:Int),.bool true])):=pK [0] 3 0 (.k 1 d (.c b .nil)) (.l a (.c c .nil))
theorem akp (s:List UInt8) (n b:Nat) (c:lit true (decide ((b:Int)<(((η (ae (ag s))):Nat):Int)))=true) (a:CO 133 [.str s] (.ret (.str (ae (ag s))))):CO 134 [.str s,ω (b:Int)] (.ret (.tup [ω 0,.bool false])):=pK [] 1 1 (.c c .nil) (.c a .nil)
theorem akq (s:List UInt8) (n b:Nat) (c:lit false (decide ((b:Int)<(((η (ae (ag s))):Nat):Int)))=true) (a:CO 133 [.str s] (.ret (.str (ae (ag s))))) (d:CO 178 [.str s] (.ret (.tup [ω (n:Int),.bool true]))):CO 134 [.str s,ω (b:Int)] (.ret (.tup [ω (n:Int),.bool true])):=pK [] 1 0 (.c c .nil) (.c d (.c a .nil))
theorem ajh {nt:Nat} (a:24≤nt) (n d:Nat) (b:lit true (decide (((0:Nat):Int)<(d:Int)))=true):ψ nt f138 ⟨[(3,ω (n:Int)),(4,ω (d:Int))],[],.dead,[]⟩ (.normal) ⟨[(3,ω (γ .i64 ((n:Int)+((1:Nat):Int)))),(4,ω (γ .i64 (Xxd (d:Int) ((2:Nat):Int))))],[],.dead,[]⟩:=pJ 138 [] 1 1 (.k 1 b .nil) (.nil) a
theorem aji {nt:Nat} (a:24≤nt) (n d:Nat) (b:lit false (decide (((0:Nat):Int)<(d:Int)))=true):ψ nt f138 ⟨[(3,ω (n:Int)),(4,ω (d:Int))],[],.dead,[]⟩ (.exit 0) ⟨[(3,ω (n:Int))],[],.dead,[]⟩:=pJ 138 [] 1 0 (.c b .nil) (.nil) a
theorem aeo (s:List UInt8) (n:Nat) (b:lit true ((((η (ae (ag s))):Nat):Int)==((0:Nat):Int))=true) (a:CO 133 [.str s] (.ret (.str (ae (ag s))))):CO 138 [.str s] (.ret (ω 0)):=pK [0] 1 1 (.c b .nil) (.c a .nil)
theorem aep (s:List UInt8) (n:Nat) (d:(decide (((0:Nat):Int)<(((η (ae (ag s))):Nat):Int)))=true) (b:lit false ((((η (ae (ag s))):Nat):Int)==((0:Nat):Int))=true) (c:CO 133 [.str s] (.ret (.str (ae (ag s))))) (a:aG prog ap [] 24 (.block 0 (.loop (af 0 (ah f138)))) ⟨[(0,.str (ae (ag s))),(2,ω 0),(3,ω (γ .i64 (((8:Nat):Int)*(γ .i64 ((((η (ae (ag s))):Nat):Int) - ((1:Nat):Int)))))),(4,ω (γ .i64 ((Ξ (Xql (ae (ag s)) 0 0):Nat):Int))),(9,.bool ((((η (ae (ag s))):Nat):Int)==((0:Nat):Int))),(18,.dead)],[],.dead,[]⟩ (.normal) ⟨[(3,ω (n:Int))],[],.dead,[]⟩):CO 138 [.str s] (.ret (ω (n:Int))):=pK [0] 1 0 (.k 1 d (.c b .nil)) (.l a (.c c .nil))
theorem ajW (s:List UInt8) (a:lit true ((((η s):Nat):Int)==((0:Nat):Int))=true):CO 179 [.str s] (.ret (.bool true)):=pK [] 1 1 (.c a .nil) (.nil)
theorem ajX (s:List UInt8) (b:(decide (((0:Nat):Int)<(((η s):Nat):Int)))=true) (a:lit false ((((η s):Nat):Int)==((0:Nat):Int))=true):CO 179 [.str s] (.ret (.bool (!(((Ξ (Xql s 0 0):Nat):Int)==((0:Nat):Int))))):=pK [] 1 0 (.k 1 b (.c a .nil)) (.nil)
theorem aaf (s t:List UInt8) (c:lit true (decide ((((η (ae (ag s))):Nat):Int)<(((η (ae (ag t))):Nat):Int)))=true) (a:lit true (!((((η (ae (ag s))):Nat):Int)==(((η (ae (ag t))):Nat):Int)))=true) (b:CO 133 [.str s] (.ret (.str (ae (ag s))))) (d:CO 133 [.str t] (.ret (.str (ae (ag t))))):CO 101 [.str s,.str t] (.ret (ω (-1))):=pK [] 2 3 (.c c (.c a .nil)) (.c d (.c b .nil))
theorem aag (s t:List UInt8) (c:lit false (decide ((((η (ae (ag s))):Nat):Int)<(((η (ae (ag t))):Nat):Int)))=true) (a:lit true (!((((η (ae (ag s))):Nat):Int)==(((η (ae (ag t))):Nat):Int)))=true) (b:CO 133 [.str s] (.ret (.str (ae (ag s))))) (d:CO 133 [.str t] (.ret (.str (ae (ag t))))):CO 101 [.str s,.str t] (.ret (ω 1)):=pK [] 2 1 (.c c (.c a .nil)) (.c d (.c b .nil))
theorem aah (s t:List UInt8) (c:lit true (ig (ae (ag s)) (ae (ag t)))=true) (a:lit false (!((((η (ae (ag s))):Nat):Int)==(((η (ae (ag t))):Nat):Int)))=true) (b:CO 133 [.str s] (.ret (.str (ae (ag s))))) (d:CO 133 [.str t] (.ret (.str (ae (ag t))))):CO 101 [.str s,.str t] (.ret (ω (-1))):=pK [] 2 2 (.c c (.c a .nil)) (.c d (.c b .nil))
theorem aai (s t:List UInt8) (c:lit true (!(ig (ae (ag s)) (ae (ag t))||(ae (ag s))==(ae (ag t))))=true) (a:lit false (ig (ae (ag s)) (ae (ag t)))=true) (d:lit false (!((((η (ae (ag s))):Nat):Int)==(((η (ae (ag t))):Nat):Int)))=true) (b:CO 133 [.str s] (.ret (.str (ae (ag s))))) (e:CO 133 [.str t] (.ret (.str (ae (ag t))))):CO 101 [.str s,.str t] (.ret (ω 1)):=pK [] 3 4 (.c c (.c a (.c d .nil))) (.c e (.c b .nil))
theorem aaj (s t:List UInt8) (c:lit false (!(ig (ae (ag s)) (ae (ag t))||(ae (ag s))==(ae (ag t))))=true) (a:lit false (ig (ae (ag s)) (ae (ag t)))=true) (d:lit false (!((((η (ae (ag s))):Nat):Int)==(((η (ae (ag t))):Nat):Int)))=true) (b:CO 133 [.str s] (.ret (.str (ae (ag s))))) (e:CO 133 [.str t] (.ret (.str (ae (ag t))))):CO 101 [.str s,.str t] (.ret (ω 0)):=pK [] 3 0 (.c c (.c a (.c d .nil))) (.c e (.c b .nil))
def aly (x y:Nat) (na nb:Bool) (p:Nat × Nat):St:=⟨[(0,.sl (aj (ax x)) (ax x).length na),(1,.sl (aj (ax y)) (ax y).length nb),(5,ω (p.1:Int)),(6,ω (p.2:Int))],[],.dead,[]⟩
def ags (q:Nat):St:=⟨[(5,ω (q:Int))],[],.dead,[]⟩
theorem UB {x d:Nat} (hd:d<16777216):(ax (x*d)).length≤(ax x).length+1:=by
 apply rG;have a:=uV x;have hp:=Wl (ax x).length;rw [Xqz];rcases Γ d with rfl|h0
 ·rw [Xx8];exact Xx3 hp (by omega)
 ·exact Ψ (Xw6 a h0) (Xqx _ (by omega))
theorem Yk {nt:Nat} (l:26≤nt) (x y:Nat) (g i:Bool) (r:0<y) (t:(ax x).length<2^36) (p:(ax y).length<2^35):∀ (n b a:Nat),a - b<n→b≤x / y→x / y≤a→a<16777216→aA prog ap [] nt (af 0 (ah f187)) (fun _=> .exit 0) (aly x y g i) ags (b,a) (x / y):=by
 intro n
 induction n with
 |zero=>intro b a h;omega
 | succ n ih=>
  intro b a h q s u;rcases Xq5 b a with hlt|hge
  ·have j:(b+a+1) / 2<16777216:=by omega
   have o:=Gy (y*((b+a+1) / 2)) x;have m:=LY y ((b+a+1) / 2) i j (by omega);have w:=UB (x:=y) j;have e:=Qj (ax (y*((b+a+1) / 2))) (ax x) true g (aZ.dig _) (aZ.dig _) (by omega) (by omega);have c:=Nat.le_div_iff_mul_le (x:=(b+a+1) / 2) (y:=x) r;rw [Φ] at c;have z:((0:Nat):Int)=0:=rfl;by_cases hle:y*((b+a+1) / 2)≤x
   ·have f:=c.2 hle;refine .next ?_ (ih ((b+a+1) / 2) a (by omega) f s u)
    have d:=agt l x y (y*((b+a+1) / 2)) b a (JV (ax (y*((b+a+1) / 2))) (ax x)) g i;simp (disch:=first|omega|(simp [au,ay]<;>omega)) only [bz,bf,aX,bJ,aS,pY] at d;exact d (o.2.2 hle) hlt m e
   ·have f:x / y<(b+a+1) / 2:=Xk2 (fun k=>hle (c.1 k));refine .next ?_ (ih b ((b+a+1) / 2 - 1) (by omega) q (by omega) (by omega))
    have d:=agu l x y (y*((b+a+1) / 2)) b a (JV (ax (y*((b+a+1) / 2))) (ax x)) g i;simp (disch:=first|omega|(simp [au,ay]<;>omega)) only [dC,dJ,dW,aX,bz,bf,bJ,aS,pY,jP] at d;exact d (fun k=>hle (o.2.1 k)) hlt m e
  ·have v:b=x / y:=by omega
   have d:=agv l x y 0 b a 0 g i (by rw [aX];simp [lit];omega);rw [← v];exact .done d
theorem UC (x y:Nat) (a c:Bool) (f:0<y) (b:x<y*16777216) (d:(ax x).length<2^36) (e:(ax y).length<2^35):CO 187 [.sl (aj (ax x)) (ax x).length a,.sl (aj (ax y)) (ax y).length c] (.ret (ω ((x / y:Nat):Int))):=by
 have g:x / y<16777216:=by rw [Xqs f,Φ];exact b
 exact acX x y (x / y) a c (aA.blk (fun nt h=>Yk h x y a c f d e 16777216 0 16777215 (by omega) (Nat.zero_le _) (Nat.le_of_lt_succ g) (by omega)) (by simp) rfl (aH.of ⟨rfl,rfl,rfl,rfl,trivial⟩) (aH.of ⟨rfl,trivial⟩))
theorem nN (l:List UInt8) (c:UInt8):ag (l++ [c])=ag l*256+c.toNat:=by
 unfold ag;rw [Xwq];rfl
theorem toNat_ofNat {x:Nat} (h:x<256):(Xqj x).toNat=x:=by
 rw [UInt8.toNat_ofNat'];exact υ h
def bS (o:List Nat):List UInt8:=o.map Xqj
theorem af9 (o:List Nat):Xw4 (fun c=>Xqj (δ (τ c))) (oL o)=bS o:=by
 unfold oL bS;rw [List.map_map];rfl
theorem QD (l:List Nat) (k:Nat):ν k (oL l)=oL (l.take k):=by unfold oL;rw [List.map_take]
def Uh (l:List Nat):Nat→List Nat
 |0=> []
 |k+1=> [l.getD k 0 / 65536,l.getD k 0 / 256 % 256,l.getD k 0 % 256]++Uh l k
theorem MR (a b:List Nat):bS (a++b)=bS a++bS b:=by unfold bS;rw [Xxy]
theorem OZ {l:List Nat} (a:aZ l):∀ (k:Nat) (o:List Nat),k≤l.length→ag (bS (o++Uh l k))=ag (bS o)*16777216^k+bY (l.take k)
 |0,o,_=>by simp [Uh,bY]
 | k+1,o,h=>by
  simp only [Uh];rw [← Xqe,OZ a k _ (by omega),oJ (by omega)];have hd:=a.getD k;generalize l.getD k 0=d at*
  have e:ag (bS (o++ [d / 65536,d / 256 % 256,d % 256]))=ag (bS o)*16777216+d:=by
   rw [show o++ [d / 65536,d / 256 % 256,d % 256]=((o++ [d / 65536])++ [d / 256 % 256])++ [d % 256] by simp,MR,MR,MR];simp only [bS,Xqi,Xjd];rw [nN,nN,nN,toNat_ofNat (show d / 65536<256 by omega),toNat_ofNat (Xqu _ (by omega)),toNat_ofNat (Xqu _ (by omega))];omega
  rw [e,Xxj,Xqz,Φ (16777216^k) 16777216,Xqn,Φ d];omega
def XT (l:List Nat):AV:=match l with| []=> .nilS|x::l=> .ref 0 0 0 (x::l).length
def XU (l:List Nat):Hp:=match l with| []=> []|x::l=> [(0,⟨oL (x::l),0,false,0,1,true⟩)]
theorem B_ {l:List Nat} (h:l ≠ []):XT l= .ref 0 0 0 l.length:=by cases l with|nil=>exact absurd rfl h|cons _ _=>rfl
theorem Cb {l:List Nat} (h:l ≠ []):XU l= [(0,⟨oL l,0,false,0,1,true⟩)]:=by cases l with|nil=>exact absurd rfl h|cons _ _=>rfl
def aeb (l:List Nat) (nn:Bool) (p:Nat × List Nat):St:=⟨[(0,.sl (aj l) l.length nn),(3,XT p.2),(4,ω ((p.1:Int) - 1))],XU p.2,.dead,[]⟩
def VT (o:List Nat):St:=⟨[(3,XT o)],XU o,.dead,[]⟩
theorem abo (o:List Nat) (a b c:Nat):oL o++ [Xxm .u8 (a:Int),Xxm .u8 (b:Int),Xxm .u8 (c:Int)]=oL (o++ [a,b,c]):=by simp [oL]
theorem ab1:(2:Nat)^16=65536:=by decide
theorem aio:(2:Nat)^8=256:=by decide
theorem ZA {nt:Nat} (e:35≤nt) (l:List Nat) (c:Bool) (j:l.length<2^36) (f:aZ l):∀ (k:Nat) (o:List Nat),k≤l.length→o.length+3*k=3*l.length→aA prog ap [] nt (af 0 (ah f136)) (fun _=> .exit 0) (aeb l c) VT (k,o) (o++Uh l k):=by
 intro k
 induction k with
 | zero=>
  intro o _ _;simp only [Uh,Θ];refine .done ?_;unfold aeb VT;rcases Xxn (o= []) with rfl|hne
  ·exact ZE e l [] c
  ·rw [B_ hne,Cb hne];exact ZB e l o c
 | succ k ih=>
  intro o n m;have hd:=f.getD k;have i:(((k+1:Nat):Int) - 1)=(k:Int):=by omega
  have g:γ .i64 ((k:Int) - ((1:Nat):Int))=(k:Int) - 1:=dn (by omega) (by omega);have hnext:=ih (o++ [l.getD k 0 / 65536,l.getD k 0 / 256 % 256,l.getD k 0 % 256]) (by omega) (by simp;omega);rw [Xqe] at hnext;simp only [Uh];refine .next ?_ hnext
  unfold aeb;rw [i];generalize h:l.getD k 0=d at*
  have a:o++ [d / 65536,d / 256 % 256,d % 256] ≠ []:=by simp
  rcases Xxn (o= []) with rfl|hne
  ·have b:=aed e l [] k c;simp (disch:=first|omega|(simp [au,ay]<;>omega)) only [aC,χ,f_,h,eF,dm,bf,aX,bz,g,aY,show min 16 64=16 from rfl,lh,ab1,w8u,υ,show min 8 64=8 from rfl,aio] at b;simp only [Xqk,XT,XU,oL,Xqi,Xjd,μ,Xqb] at b ⊢;apply b<;>first|exact True.intro|omega|assumption|exact rfl
  ·have b:=aec e l o k c;rw [B_ hne,Cb hne,B_ a,Cb a];simp (disch:=first|omega|(simp [au,ay]<;>omega)) only [fQ,bf,χ,ay,aC,f_,h,eF,dm,aX,bz,g,QD,Xq1,aY,show min 16 64=16 from rfl,lh,ab1,w8u,υ,show min 8 64=8 from rfl,aio,abo] at b;simp only [θ,μ,Xqb];apply b<;>first|exact True.intro|omega|assumption|exact rfl
theorem uA (l:List Nat) (c:Bool) (i:l.length<2^36) (b:aZ l):CO 136 [.sl (aj l) l.length c] (.ret (.str (ae (bY l)))):=by
 have hloop:=fun nt (hn:35≤nt)=>ZA hn l c i b l.length [] (Δ _) (by simp)
 have a:=OZ b l.length [] (Δ _);have g:(Uh l l.length).length=3*l.length:=by
  have:∀ k,(Uh l k).length=3*k:=by
   intro k
   induction k with
   |zero=>rfl
   |succ k ih=>simp only [Uh,θ,μ,Xqb,ih];omega
  exact this _
 have f:γ .i64 ((l.length:Int) - ((1:Nat):Int))=(l.length:Int) - 1:=Eg (by omega);simp only [Xqk] at hloop a;rw [Xq1,show ag (bS [])=0 from rfl,Nat.zero_mul,Xqf] at a;generalize Uh l l.length=o at*
 rcases Xxn (o= []) with rfl|hne
 ·rw [← a];exact ZF l [] c (aA.blk hloop (by simp) rfl (aH.of ⟨rfl,rfl,congrArg _ f,trivial⟩) (aH.of ⟨rfl,trivial⟩)) (gI [] (by simp))
 ·have h:=ZC l o c;have m:=gI (bS o) (by simp [bS];omega);rw [a] at m;have e:ν o.length (oL o)=oL o:=by rw [QD,Xq1]
  simp (disch:=first|omega|(simp [au,ay]<;>omega)) only [χ,e,IW,bf,af9,a] at h;apply h<;>first|exact True.intro|omega|assumption|exact rfl|skip
  ·exact ay o
  ·have:Xzu (oL o) (chk (.int .u8))=true:=by
    rw [Xza];intro x j;obtain ⟨d,_,rfl⟩:=List.mem_map.1 j;rfl
   exact this
  ·exact aA.blk hloop (by simp) rfl (aH.of ⟨rfl,rfl,congrArg _ f,trivial⟩) (by unfold VT;rw [B_ hne,Cb hne];exact aH.of ⟨rfl,trivial⟩)
theorem kW (x:Nat) (c:x<9223372036854775808):CO 79 [ω (x:Int)] (.ret (.str (ae x))):=by
 rcases Γ x with rfl|h0
 ·exact aeU 0 rfl (gI [] (by simp))
 ·have h:=aeT x;have e:∀ k,δ (γ .u8 (Xqw (x:Int) (2^k)))=x / 2^k % 256:=by
   intro k;rw [lh,w8u,aC]
  simp only [show min 56 64=56 from rfl,show min 48 64=48 from rfl,show min 40 64=40 from rfl,show min 32 64=32 from rfl,show min 24 64=24 from rfl,show min 16 64=16 from rfl,show min 8 64=8 from rfl,show min 0 64=0 from rfl,e] at h;have a:=gI [Xqj (x / 2^56 % 256),Xqj (x / 2^48 % 256),Xqj (x / 2^40 % 256),Xqj (x / 2^32 % 256),Xqj (x / 2^24 % 256),Xqj (x / 2^16 % 256),Xqj (x / 2^8 % 256),Xqj (x / 2^0 % 256)] (by simp);have b:ag [Xqj (x / 2^56 % 256),Xqj (x / 2^48 % 256),Xqj (x / 2^40 % 256),Xqj (x / 2^32 % 256),Xqj (x / 2^24 % 256),Xqj (x / 2^16 % 256),Xqj (x / 2^8 % 256),Xqj (x / 2^0 % 256)]=x:=by
   have t:∀ y,(Xqj (y % 256)).toNat=y % 256:=fun y=>toNat_ofNat (Xqu _ (by omega))
   simp only [ag,List.foldl_cons,List.foldl_nil,t];omega
  rw [b] at a h;apply h
  ·rw [aX];exact Yq0 h0
  ·exact a
def abS (s:List UInt8) (k:Nat):St:=⟨[(0,.str s),(4,ω ((ag (s.take k):Nat):Int)),(5,ω (k:Int))],[],.dead,[]⟩
def NK (s:List UInt8) (k:Nat):St:=⟨[(4,ω ((ag (s.take k):Nat):Int))],[],.dead,[]⟩
theorem FH {s:List UInt8} {k:Nat} (h:k<s.length):ag (s.take (k+1))=ag (s.take k)*256+(s.getD k 0).toNat:=by
 rw [Xwm,ξ h,π,ξ h];exact nN _ _
theorem Ju (s:List UInt8) (k:Nat):ag (s.take k)≤ag s:=by
 rcases Xq5 k s.length with h|h
 ·have e:s=s.take k++s.drop k:=(Xjy k s).symm;have:∀ (b a:List UInt8),ag a≤ag (a++b):=by
   intro b
   induction b with
   |nil=>intro a;simp
   |cons c r ih=>
    intro a;have d:=ih (a++ [c]);rw [nN,Xqe] at d;simp only [List.cons_append,Xqk] at d;omega
  calc ag (s.take k)≤ag (s.take k++s.drop k):=this _ _
   _=ag s:=by rw [← e]
 ·rw [Xqc h];exact Δ _
theorem Vz {nt:Nat} (g:35≤nt) (s:List UInt8) (hs:s.length<2^40) (n:ag s<9223372036854775808):∀ (d k:Nat),k+d=s.length→aA prog ap [] nt (af 0 (ah f178)) (fun _=> .exit 0) (abS s) (NK s) k s.length:=by
 intro d
 induction d with
 |zero=>
  intro k m;have b:k=s.length:=by omega
  subst b;exact .done (aeA g s _ _ (by rw [aX];simp [lit]))
 | succ d ih=>
  intro k m;have e:k<s.length:=by omega
  refine .next ?_ (ih (k+1) (by omega))
  have a:=aez g s (ag (s.take k)) k;rw [aC] at a;have i:=Ju s (k+1);have f:=FH e;have o:(s.getD k 0).toNat<256:=Xvg _;unfold abS;rw [f];rw [f] at i;generalize (s.getD k 0).toNat=c at*
  generalize ag (s.take k)=v at*
  have h:γ .i64 ((v:Int)*2^(min 8 64))=((v*256:Nat):Int):=by
   rw [show min 8 64=8 from rfl,dn]<;>omega
  have l:(((v*256:Nat):Int))+(c:Int)=((v*256+c:Nat):Int):=by omega
  have j:γ .i64 (c:Int)=(c:Int):=aS (by omega);rw [j,h,l,aS (by omega)] at a;simp (disch:=first|omega|(simp [au,ay]<;>omega)) only [dm,bf,aX,bz,bJ,aS] at a;apply a<;>first|exact True.intro|omega|assumption|exact rfl
theorem rQ {x k:Nat}:(ae x).length≤k↔x<2^(8*k):=by
 constructor
 ·intro h;have a:=jK (ae x);rw [aB] at a;exact Ψ a (Xqa (by omega) (by omega))
 ·exact bU
theorem adX (s:List UInt8) (hs:s.length<2^40) (f:ag s<9223372036854775808):CO 178 [.str s] (.ret (.tup [ω ((ag s:Nat):Int),.bool true])):=by
 have k:=gI s hs;have a:=aB (ag s);have j:(ae (ag s)).length≤8:=bU (Ψ f (by decide));have hloop:=fun nt (e:35≤nt)=>Vz e (ae (ag s)) (by omega) (by rw [a];exact f) (ae (ag s)).length 0 (by omega)
 have hless:aH ⟨[(4,ω ((ag s:Nat):Int))],[],.dead,[]⟩ (NK (ae (ag s)) (ae (ag s)).length):=by
  unfold NK;rw [Xq1,a];exact aH.refl _
 have h:=aal s (ag s);have g:=aam s (ag s);have d:(ae (ag s)).length=8→((ae (ag s)).getD 0 0).toNat≤127:=by
  intro b;cases e:ae (ag s) with
  |nil=>rw [e] at b;cases b
  |cons c r=>
   rw [e] at b a;rw [iT] at a;have:r.length=7:=by simpa using b
   rw [this,show 256^7=72057594037927936 from rfl] at a;simp only [Xjv];omega
 generalize ae (ag s)=t at*
 by_cases b:t.length=8
 ·have i:=d b;simp (disch:=first|omega|(simp [au,ay]<;>omega)) only [aX,dC,dJ,dW,b,bf,jC,decide_true,bz] at h;apply h<;>first|exact True.intro|omega|assumption|exact rfl|skip
  exact aA.blk hloop (by simp) rfl (aH.of ⟨rfl,rfl,rfl,trivial⟩) hless
 ·simp (disch:=first|omega|(simp [au,ay]<;>omega)) only [jC,b,decide_false,dC,Xji,aX,dJ,dW] at g;apply g<;>first|exact True.intro|omega|assumption|exact rfl|skip
  exact aA.blk hloop (by simp) rfl (aH.of ⟨rfl,rfl,rfl,trivial⟩) hless
theorem gQ (s:List UInt8) (b:Nat) (hs:s.length<2^40) (d:b≤7) (c:ag s<2^(8*b)):CO 134 [.str s,ω (b:Int)] (.ret (.tup [ω ((ag s:Nat):Int),.bool true])):=by
 have h:=akq s (ag s) b;have a:ag s<9223372036854775808:=Ψ c (Xqy (Xqa (by omega) (show 8*b≤63 by omega)) (by decide));have e:=rQ.2 c;simp (disch:=first|omega|(simp [au,ay]<;>omega)) only [aX,dC,dJ,dW] at h;exact h (by omega) (gI s hs) (adX s hs a)
theorem kY (s:List UInt8) (b:Nat) (hs:s.length<2^40) (a:2^(8*b)≤ag s):CO 134 [.str s,ω (b:Int)] (.ret (.tup [ω 0,.bool false])):=by
 have h:=akp s 0 b;have c:¬ (ae (ag s)).length≤b:=fun h=>by have:=rQ.1 h;omega
 simp (disch:=first|omega|(simp [au,ay]<;>omega)) only [aX,bz,bf] at h;exact h (by omega) (gI s hs)
theorem RH {d:Nat} (h:0<d):dQ d=dQ (d / 2)+1:=by
 rcases Xq5 d 2 with h1|h1
 ·have:d=1:=by omega
  subst this;rfl
 ·have:=uu (x:=d) (k:=1) (by omega);rw [Nat.pow_one] at this;omega
def aln (p:Nat × Nat):St:=⟨[(3,ω (p.1:Int)),(4,ω (p.2:Int))],[],.dead,[]⟩
def af_ (n:Nat):St:=⟨[(3,ω (n:Int))],[],.dead,[]⟩
theorem X7 {nt:Nat} (c:24≤nt):∀ (b n d:Nat),d<b→d<256→n+dQ d<2^45→aA prog ap [] nt (af 0 (ah f138)) (fun _=> .exit 0) aln af_ (n,d) (n+dQ d):=by
 intro b
 induction b with
 |zero=>intro n d h;omega
 | succ b ih=>
  intro n d h hd f;rcases Γ d with rfl|h0
  ·exact .done (aji c n 0 rfl)
  ·have e:=RH h0;rw [e,show n+(dQ (d / 2)+1)=n+1+dQ (d / 2) by omega];refine .next ?_ (ih (n+1) (d / 2) (by omega) (by omega) (by omega))
   have a:=ajh c n d;clear ih e;simp (disch:=first|omega|(simp [au,ay]<;>omega)) only [aX,bz,bf,bJ,aS,pY] at a;apply a<;>first|exact True.intro|omega|assumption|exact rfl
theorem Lh (s:List UInt8) (hs:s.length<2^40):CO 138 [.str s] (.ret (ω ((dQ (ag s):Nat):Int))):=by
 have g:=gI s hs;have a:=aB (ag s);have k:=vk (ag s);have b:(ae (ag s)).length≤s.length:=lQ (Δ _);have l:=aeo s 0;have d:=aep s (dQ (ag s));cases f:ae (ag s) with
 |nil=>
  rw [f] at l a g;rw [← a];exact l rfl g
 | cons c r=>
  rw [f] at d a g k b;have j:c ≠ 0:=by simpa [nR] using k
  have i:0<c.toNat:=by
   rcases Γ c.toNat with h|h
   ·exact absurd (by apply UInt8.toNat_inj.1;simpa using h) j
   ·exact h
  have hc256:c.toNat<256:=Xvg c;have n:dQ (ag s)=8*r.length+dQ c.toNat:=by
   have e:=Ed (x:=c.toNat) (y:=ag r) (8*r.length) i (jK r);rw [← e,← a,iT,Φ,show (256:Nat)=2^8 from rfl,← Xx2]
  have m:dQ c.toNat≤8:=lK (by omega);simp only [μ] at b;have hloop:=fun nt (f:24≤nt)=>X7 f 256 (8*r.length) c.toNat hc256 hc256 (by omega)
  rw [← n] at hloop;simp only [μ,Xjv] at d;have u:r.length+1 - 1=r.length:=rfl;have t:(((r.length+1:Nat):Int)) - ((1:Nat):Int)=(r.length:Int):=by omega
  have p:γ .i64 (r.length:Int)=(r.length:Int):=aS (by omega);have o:γ .i64 (((8:Nat):Int)*(r.length:Int))=((8*r.length:Nat):Int):=by rw [dn]<;>omega
  have q:γ .i64 (c.toNat:Int)=(c.toNat:Int):=aS (by omega);rw [t,p,o,q] at d;refine d (by rw [aX];exact Yq0 (by omega)) (by rw [jC];simp [lit]) g ?_;exact aA.blk hloop (by simp) rfl (aH.of ⟨rfl,rfl,trivial⟩) (aH.of ⟨rfl,trivial⟩)
theorem Ji (s:List UInt8):CO 179 [.str s] (.ret (.bool (nR s))):=by
 cases s with
 |nil=>exact ajW [] rfl
 | cons c r=>
  have h:=ajX (c::r);have e:(!((((c::r).getD 0 0).toNat:Int)==((0:Nat):Int)))=nR (c::r):=by
   simp only [Xjv,nR];by_cases hc:c=0
   ·subst hc;rfl
   ·have:c.toNat ≠ 0:=fun h=>hc (by apply UInt8.toNat_inj.1;simpa using h)
    have a:((c.toNat:Int)==((0:Nat):Int))=false:=by simp;omega
    rw [a];simp [hc]
  rw [e] at h;apply h
  ·simp
  ·simp [lit];omega
theorem AL:∀ (a b:List UInt8),a.length=b.length→ig a b=decide (ag a<ag b)
 | [],[],_=>rfl
 | [],_::_,h=>by simp at h
 |_::_,[],h=>by simp at h
 | x::a,y::b,h=>by
  have d:a.length=b.length:=by simpa using h
  have g:=AL a b d;have i:=jK a;have k:=jK b;simp only [ig,g];rw [iT,iT,d,show (256:Nat)=2^8 from rfl,← Xx2];rw [d] at i;have c:decide (x<y)=decide (x.toNat<y.toNat):=by simp [UInt8.lt_iff_toNat_lt]
  have e:(x==y)=decide (x.toNat=y.toNat):=by
   by_cases h:x=y
   ·subst h;simp
   ·have:x.toNat ≠ y.toNat:=fun j=>h (UInt8.toNat_inj.1 j)
    simp [h,this]
  rw [c,e];generalize 2^(8*b.length)=M at*
  generalize ag a=u at*
  generalize ag b=v at*
  generalize x.toNat=p at*
  generalize y.toNat=q at*
  rcases Xj6 p q with h3|h3|h3
  ·have f:(p+1)*M≤q*M:=Xqt _ h3;rw [Xxj,Xzy] at f;rw [Yq0 h3,Yq0 (show p*M+u<q*M+v by omega)];rfl
  ·subst h3;rw [Yq1 (Xvr _),Yq0 rfl];simp
  ·have f:(q+1)*M≤p*M:=Xqt _ h3;rw [Xxj,Xzy] at f;rw [Yq1 (show ¬ p<q by omega),Yq1 (show ¬ p=q by omega),Yq1 (show ¬ p*M+u<q*M+v by omega)];rfl
theorem Bl {x y:Nat} (h:(ae x).length<(ae y).length):x<y:=by
 rcases Xq5 x y with h1|h1
 ·exact h1
 ·have a:y≤ag (ae x):=by rw [aB];exact h1
  have:=lQ a;omega
theorem Je (s t:List UInt8) (hs:s.length<2^40) (j:t.length<2^40):CO 101 [.str s,.str t] (.ret (ω (lU (ag s) (ag t)))):=by
 have d:=gI s hs;have c:=gI t j;have g:=aB (ag s);have i:=aB (ag t);unfold lU;by_cases hl:(ae (ag s)).length=(ae (ag t)).length
 ·have a:=AL _ _ hl;rw [g,i] at a;have f:(ae (ag s)==ae (ag t))=decide (ag s=ag t):=by
   by_cases h:ag s=ag t
   ·rw [h];simp
   ·have:ae (ag s) ≠ ae (ag t):=fun k=>h (EC k)
    simp [h,this]
  have b:lit false (!((((ae (ag s)).length:Nat):Int)==(((ae (ag t)).length:Nat):Int)))=true:=by rw [hl];simp [lit]
  by_cases h1:ag s<ag t
  ·rw [if_pos h1];exact aah s t (by rw [a,Yq0 h1];rfl) b d c
  ·rw [if_neg h1];by_cases e:ag t<ag s
   ·rw [if_pos e];exact aai s t (by rw [a,f,Yq1 h1,Yq1 (show ¬ ag s=ag t by omega)];rfl) (by rw [a,Yq1 h1];rfl) b d c
   ·rw [if_neg e];exact aaj s t (by rw [a,f,Yq1 h1,Yq0 (show ag s=ag t by omega)];rfl) (by rw [a,Yq1 h1];rfl) b d c
 ·have b:lit true (!((((ae (ag s)).length:Nat):Int)==(((ae (ag t)).length:Nat):Int)))=true:=by rw [jC,Yq1 hl];rfl
  by_cases h1:(ae (ag s)).length<(ae (ag t)).length
  ·rw [if_pos (Bl h1)];exact aaf s t (by rw [aX,Yq0 h1];rfl) b d c
  ·have e:=Bl (show (ae (ag t)).length<(ae (ag s)).length by omega);rw [if_neg (by omega),if_pos e];exact aag s t (by rw [aX,Yq1 h1];rfl) b d c
theorem aid {nt:Nat} (c:35≤nt) (s:List UInt8) (o:List Nat) (e d k:Nat) (f:(decide (((0:Nat):Int)≤(k:Int)))=true) (b:(decide ((k:Int)<(((η s):Nat):Int)))=true) (a:lit true (decide ((k:Int)<(e:Int)))=true):ak prog ap [] nt (af 2 (ah f135)) ⟨[(0,.str s),(3,.nilS),(4,ω (e:Int)),(5,ω (d:Int)),(6,ω (k:Int))],[],.dead,[]⟩ (.normal) ⟨[(0,.str s),(3,.nilS),(4,ω (e:Int)),(5,ω (γ .i64 ((γ .i64 ((d:Int)*((256:Nat):Int)))+(γ .i64 ((Ξ (Xql s (δ (k:Int)) 0):Nat):Int))))),(6,ω (γ .i64 ((k:Int)+((1:Nat):Int))))],[],.dead,[]⟩:=pJ 135 [] 1 1 (.c f (.c b (.c a .nil))) (.nil) c
theorem aie {nt:Nat} (a:35≤nt) (s:List UInt8) (o:List Nat) (e d k:Nat) (b:lit false (decide ((k:Int)<(e:Int)))=true):ak prog ap [] nt (af 2 (ah f135)) ⟨[(0,.str s),(3,.nilS),(4,ω (e:Int)),(5,ω (d:Int)),(6,ω (k:Int))],[],.dead,[]⟩ (.exit 2) ⟨[(0,.str s),(3,.nilS),(4,ω (e:Int)),(5,ω (d:Int))],[],.dead,[]⟩:=pJ 135 [] 1 0 (.c b .nil) (.nil) a
theorem aib {nt:Nat} (c:35≤nt) (s:List UInt8) (o:List Nat) (e d k:Nat) (f:(decide (((0:Nat):Int)≤(k:Int)))=true) (b:(decide ((k:Int)<(((η s):Nat):Int)))=true) (a:lit true (decide ((k:Int)<(e:Int)))=true):ak prog ap [] nt (af 2 (ah f135)) ⟨[(0,.str s),(3,.ref 0 0 0 o.length),(4,ω (e:Int)),(5,ω (d:Int)),(6,ω (k:Int))],[(0,⟨(aj o),0,false,0,1,true⟩)],.dead,[]⟩ (.normal) ⟨[(0,.str s),(3,.ref 0 0 0 o.length),(4,ω (e:Int)),(5,ω (γ .i64 ((γ .i64 ((d:Int)*((256:Nat):Int)))+(γ .i64 ((Ξ (Xql s (δ (k:Int)) 0):Nat):Int))))),(6,ω (γ .i64 ((k:Int)+((1:Nat):Int))))],[(0,⟨(aj o),0,false,0,1,true⟩)],.dead,[]⟩:=pJ 135 [] 1 1 (.c f (.c b (.c a .nil))) (.nil) c
theorem aic {nt:Nat} (a:35≤nt) (s:List UInt8) (o:List Nat) (e d k:Nat) (b:lit false (decide ((k:Int)<(e:Int)))=true):ak prog ap [] nt (af 2 (ah f135)) ⟨[(0,.str s),(3,.ref 0 0 0 o.length),(4,ω (e:Int)),(5,ω (d:Int)),(6,ω (k:Int))],[(0,⟨(aj o),0,false,0,1,true⟩)],.dead,[]⟩ (.exit 2) ⟨[(0,.str s),(3,.ref 0 0 0 o.length),(4,ω (e:Int)),(5,ω (d:Int))],[(0,⟨(aj o),0,false,0,1,true⟩)],.dead,[]⟩:=pJ 135 [] 1 0 (.c b .nil) (.nil) a
theorem ah8 {nt:Nat} (b:35≤nt) (s:List UInt8) (o:List Nat) (z:Int) (d:Nat) (c:lit true (decide (((0:Nat):Int)<z))=true) (a:aG prog ap [] 35 (.block 2 (.loop (af 2 (ah f135)))) ⟨[(0,.str s),(2,.dead),(3,.nilS),(4,ω z),(5,ω 0),(6,ω (if ((0:Nat):Int)>(γ .i64 (z - ((3:Nat):Int))) then ((0:Nat):Int) else (γ .i64 (z - ((3:Nat):Int))))),(12,.bool (decide (((0:Nat):Int)<z))),(20,.dead)],[],.dead,[]⟩ (.normal) ⟨[(0,.str s),(4,ω z),(5,ω (d:Int)),(3,.nilS)],[],.dead,[]⟩):ψ nt f135 ⟨[(0,.str s),(3,.nilS),(4,ω z)],[],.dead,[]⟩ (.normal) ⟨[(0,.str s),(3,.ref 0 0 0 1),(4,ω (γ .i64 (z - ((3:Nat):Int))))],[(0,⟨[ω (d:Int)],0,false,0,1,true⟩)],.dead,[]⟩:=pJ 135 [2] 2 1 (.k 3 c .nil) (.l a .nil) b
theorem ah9 {nt:Nat} (a:35≤nt) (s:List UInt8) (o:List Nat) (z:Int) (d:Nat) (b:lit false (decide (((0:Nat):Int)<z))=true):ψ nt f135 ⟨[(0,.str s),(3,.nilS),(4,ω z)],[],.dead,[]⟩ (.exit 0) ⟨[(3,.nilS)],[],.dead,[]⟩:=pJ 135 [2] 1 0 (.c b .nil) (.nil) a
theorem aeg (s:List UInt8) (o:List Nat) (b:CO 133 [.str s] (.ret (.str (ae (ag s))))) (a:aG prog ap [] 35 (.block 0 (.loop (af 0 (ah f135)))) ⟨[(0,.str (ae (ag s))),(2,.nilS),(3,.nilS),(4,ω (((η (ae (ag s))):Nat):Int)),(5,.dead),(6,.dead),(12,.dead),(20,.dead)],[],.dead,[]⟩ (.normal) ⟨[(3,.nilS)],[],.dead,[]⟩):CO 135 [.str s] (.ret (.nilS)):=pK [0] 0 0 .nil (.l a (.c b .nil))
theorem ah3 {nt:Nat} (c:35≤nt) (s:List UInt8) (o:List Nat) (z:Int) (d:Nat) (e:(Xqm (o.length+1) 1099511627776)=true) (b:(Xqm (o.length*1) (η (aj o)))=true) (f:lit true (decide (((0:Nat):Int)<z))=true) (a:aG prog ap [] 35 (.block 2 (.loop (af 2 (ah f135)))) ⟨[(0,.str s),(2,.dead),(3,.ref 0 0 0 o.length),(4,ω z),(5,ω 0),(6,ω (if ((0:Nat):Int)>(γ .i64 (z - ((3:Nat):Int))) then ((0:Nat):Int) else (γ .i64 (z - ((3:Nat):Int))))),(12,.bool (decide (((0:Nat):Int)<z))),(20,.dead)],[(0,⟨(aj o),0,false,0,1,true⟩)],.dead,[]⟩ (.normal) ⟨[(0,.str s),(4,ω z),(5,ω (d:Int)),(3,.ref 0 0 0 o.length)],[(0,⟨(aj o),0,false,0,1,true⟩)],.dead,[]⟩):ψ nt f135 ⟨[(0,.str s),(3,.ref 0 0 0 o.length),(4,ω z)],[(0,⟨(aj o),0,false,0,1,true⟩)],.dead,[]⟩ (.normal) ⟨[(0,.str s),(3,.ref 0 0 0 (o.length+1)),(4,ω (γ .i64 (z - ((3:Nat):Int))))],[(0,⟨((ν (o.length*1) (aj o))++ [ω (d:Int)]),0,false,0,1,true⟩)],.dead,[]⟩:=pJ 135 [2] 1 1 (.k 1 e (.c b (.k 1 f .nil))) (.l a .nil) c
theorem ah4 {nt:Nat} (a:35≤nt) (s:List UInt8) (o:List Nat) (z:Int) (d:Nat) (b:lit false (decide (((0:Nat):Int)<z))=true):ψ nt f135 ⟨[(0,.str s),(3,.ref 0 0 0 o.length),(4,ω z)],[(0,⟨(aj o),0,false,0,1,true⟩)],.dead,[]⟩ (.exit 0) ⟨[(3,.ref 0 0 0 o.length)],[(0,⟨(aj o),0,false,0,1,true⟩)],.dead,[]⟩:=pJ 135 [2] 1 0 (.c b .nil) (.nil) a
theorem aef (s:List UInt8) (o:List Nat) (b:CO 133 [.str s] (.ret (.str (ae (ag s))))) (a:aG prog ap [] 35 (.block 0 (.loop (af 0 (ah f135)))) ⟨[(0,.str (ae (ag s))),(2,.nilS),(3,.nilS),(4,ω (((η (ae (ag s))):Nat):Int)),(5,.dead),(6,.dead),(12,.dead),(20,.dead)],[],.dead,[]⟩ (.normal) ⟨[(3,.ref 0 0 0 o.length)],[(0,⟨(aj o),0,false,0,1,true⟩)],.dead,[]⟩):CO 135 [.str s] (.ret (.own (ν (o.length*1) (aj o)) o.length 1)):=pK [0] 0 0 .nil (.l a (.c b .nil))
def V6 (s:List UInt8) (o:List Nat) (e j k:Nat):St:=⟨[(0,.str s),(3,MN o),(4,ω (e:Int)),(5,ω ((ag ((s.take k).drop j):Nat):Int)),(6,ω (k:Int))],MO o,.dead,[]⟩
def V5 (s:List UInt8) (o:List Nat) (e d:Nat):St:=⟨[(0,.str s),(3,MN o),(4,ω (e:Int)),(5,ω (d:Int))],MO o,.dead,[]⟩
theorem Su {s:List UInt8} {j k:Nat} (h:k<s.length) (a:j≤k):ag ((s.take (k+1)).drop j)=ag ((s.take k).drop j)*256+(s.getD k 0).toNat:=by
 rw [Xwm,ξ h,List.drop_append_of_le_length (by simp;omega),π,ξ h];exact nN _ _
theorem P7 {s:List UInt8} {j k:Nat} (h:k≤j+3):ag ((s.take k).drop j)<16777216:=by
 have a:=jK ((s.take k).drop j);have b:((s.take k).drop j).length≤3:=by simp;omega
 exact Ψ a (Xqy (Xqa (by omega) (show 8*((s.take k).drop j).length≤24 by omega)) (by decide))
theorem ZI {nt:Nat} (f:35≤nt) (s:List UInt8) (o:List Nat) (e j:Nat) (hs:s.length<2^40) (v:e≤s.length) (u:e≤j+3):∀ (n k:Nat),k+n=e→j≤k→aA prog ap [] nt (af 2 (ah f135)) (fun _=> .exit 2) (V6 s o e j) (V5 s o e) k (ag ((s.take e).drop j)):=by
 intro n
 induction n with
 | zero=>
  intro k p b;have g:k=e:=by omega
  subst g;refine .done ?_;unfold V6 V5;rcases Xxn (o= []) with rfl|hne
  ·exact aie f s [] k _ k (by rw [aX];simp [lit])
  ·rw [gu hne,gy hne];exact aic f s o k _ k (by rw [aX];simp [lit])
 | succ n ih=>
  intro k p b;refine .next ?_ (ih (k+1) (by omega) (by omega))
  have h:k<s.length:=by omega
  have r:=P7 (s:=s) (j:=j) (k:=k) (by omega);have t:(s.getD k 0).toNat<256:=Xvg _;have l:=Su h b;unfold V6;rw [l];generalize m:(s.getD k 0).toNat=c at*
  generalize ag ((s.take k).drop j)=d at*
  clear ih l;have q:γ .i64 ((d:Int)*((256:Nat):Int))=((d*256:Nat):Int):=by rw [dn]<;>omega
  have i:(((d*256:Nat):Int))+(c:Int)=((d*256+c:Nat):Int):=by omega
  rcases Xxn (o= []) with rfl|hne
  ·have a:=aid f s [] e d k;simp (disch:=first|omega|(simp [au,ay]<;>omega)) only [dm,bf,aX,bz,xN,aS,aC,m,i,bJ] at a;apply a<;>first|exact True.intro|omega|assumption|exact rfl
  ·have a:=aib f s o e d k;rw [gu hne,gy hne];simp (disch:=first|omega|(simp [au,ay]<;>omega)) only [dm,bf,aX,bz,xN,aS,aC,m,i,bJ] at a;apply a<;>first|exact True.intro|omega|assumption|exact rfl
def Sr (s:List UInt8) (p:Int × List Nat):St:=⟨[(0,.str s),(3,MN p.2),(4,ω p.1)],MO p.2,.dead,[]⟩
def P6 (o:List Nat):St:=⟨[(3,MN o)],MO o,.dead,[]⟩
theorem ZH {nt:Nat} (c:35≤nt) (s:List UInt8) (o:List Nat) (e:Nat) (hs:s.length<2^38) (i:e≤s.length) (j:0<e) (k:o.length<2^39):
  ψ nt f135 (Sr s ((e:Int),o)) .normal (Sr s ((e:Int) - 3,o++ [ag ((s.take e).drop (e - 3))])):=by
 have hloop:=fun nt (c:35≤nt)=>ZI c s o e (e - 3) (by omega) i (by omega) (e - (e - 3)) (e - 3) (by omega) (Δ _)
 have g:γ .i64 ((e:Int) - ((3:Nat):Int))=(e:Int) - 3:=dn (by omega) (by omega);have f:(if ((0:Nat):Int)>(e:Int) - 3 then ((0:Nat):Int) else (e:Int) - 3)=((e - 3:Nat):Int):=by
  split<;>omega
 have b:ag ((s.take (e - 3)).drop (e - 3))=0:=by
  rw [Xjf (by simp;omega)];rfl
 have h:(ε (e - 3) (ν e s)).length≤3:=by simp;omega
 unfold Sr;generalize ag ((s.take e).drop (e - 3))=d at*
 rcases Xxn (o= []) with rfl|hne
 ·have a:=ah8 c s [] (e:Int) d;rw [g,f] at a;simp (disch:=first|omega|(simp [au,ay]<;>omega)) only [aX,bz,bf] at a;simp only [Xqk,MN,MO,aj,Xqi,Xjd,μ,Xqb] at a ⊢;apply a
  ·omega
  ·refine aA.blk hloop (by simp) rfl ?_ (aH.of ⟨rfl,rfl,rfl,rfl,trivial⟩);unfold V6;rw [b];exact aH.of ⟨rfl,rfl,rfl,rfl,rfl,trivial⟩
 ·have a:=ah3 c s o (e:Int) d;rw [g,f] at a;rw [gu hne,gy hne,gu (ja _ _),gy (ja _ _)];simp (disch:=first|omega|(simp [au,ay]<;>omega)) only [fQ,bf,χ,bW,aX,bz,dF,Xq1,kK] at a;simp only [θ,σ];apply a<;>first|exact True.intro|omega|assumption|exact rfl|skip
  ·refine aA.blk hloop (by simp) rfl ?_ ?_
   ·unfold V6;rw [b,gu hne,gy hne];exact aH.of ⟨rfl,rfl,rfl,rfl,rfl,trivial⟩
   ·unfold V5;rw [gu hne,gy hne];exact aH.of ⟨rfl,rfl,rfl,rfl,trivial⟩
theorem VY {nt:Nat} (a:35≤nt) (s:List UInt8) (o:List Nat) (z:Int) (c:z≤0):ψ nt f135 (Sr s (z,o)) (.exit 0) (P6 o):=by
 unfold Sr P6;have b:lit false (decide (((0:Nat):Int)<z))=true:=by simp [lit];exact c
 rcases Xxn (o= []) with rfl|hne
 ·exact ah9 a s [] z 0 b
 ·rw [gu hne,gy hne];exact ah4 a s o z 0 b
theorem agh {s:List UInt8} {e:Nat} (g:e≤s.length):ag (s.take e)=16777216*ag (s.take (e - 3))+ag ((s.take e).drop (e - 3)):=by
 have c:∀ (b a:List UInt8),ag (a++b)=ag a*256^b.length+ag b:=by
  intro b a;unfold ag;rw [Xwq,GN];rfl
 have hs:s.take e=s.take (e - 3)++(s.take e).drop (e - 3):=by
  have f:=Xjy (e - 3) (s.take e);rw [List.take_take,Xx7 (by omega)] at f;exact f.symm
 have d:=c ((s.take e).drop (e - 3)) (s.take (e - 3));rw [← hs] at d;rw [d];rcases Xq5 e 3 with h3|h3
 ·have:e - 3=0:=by omega
  rw [this];simp [ag]
 ·have:((s.take e).drop (e - 3)).length=3:=by simp;omega
  rw [this,Φ,show 256^3=16777216 from rfl]
theorem VZ {nt:Nat} (b:35≤nt) (s:List UInt8) (hs:s.length<2^38) (g:nR s=true):∀ (n e:Nat) (o:List Nat),e<n→e≤s.length→o.length+e<2^39→aA prog ap [] nt (af 0 (ah f135)) (fun _=> .exit 0) (Sr s) P6 ((e:Int),o) (o++ax (ag (s.take e))):=by
 intro n
 induction n with
 |zero=>intro e o h;omega
 | succ n ih=>
  intro e o h d q;rcases Γ e with rfl|h0
  ·have:ag (s.take 0)=0:=rfl;rw [this,fH,Θ];exact .done (VY b s o _ (by omega))
  ·have f:0<ag (s.take e):=by
    cases s with
    |nil=>simp at d;omega
    | cons c r=>
     have p:c ≠ 0:=by simpa [nR] using g
     have a:0<c.toNat:=by
      rcases Γ c.toNat with h|h
      ·exact absurd (by apply UInt8.toNat_inj.1;simpa using h) p
      ·exact h
     obtain ⟨e',rfl⟩:∃ e',e=e'+1:=⟨e - 1,by omega⟩
     rw [List.take_succ_cons,iT];have:=Xx3 a (show 0<256^(r.take e').length from Nat.pow_pos (by omega));omega
   have l:=agh d;have hd:=P7 (s:=s) (j:=e - 3) (k:=e) (by omega);have hstep:=ZH b s o e hs d h0 (by omega);rw [nT f,show ag (s.take e) % 16777216=ag ((s.take e).drop (e - 3)) by omega,show ag (s.take e) / 16777216=ag (s.take (e - 3)) by omega];rcases Xq5 e 3 with h3|h3
   ·have m:e - 3=0:=by omega
    have i:ag (s.take (e - 3))=0:=by rw [m];rfl
    rw [i,fH];exact .next hstep (.done (VY b s _ _ (by omega)))
   ·have hnext:=ih (e - 3) (o++ [ag ((s.take e).drop (e - 3))]) (by omega) (by omega) (by simp;omega);rw [Xqe] at hnext;rw [show ((e:Int) - 3)=((e - 3:Nat):Int) by omega] at hstep;exact .next hstep hnext
theorem BB (s:List UInt8) (hs:s.length<2^37):CO 135 [.str s] (.ret (.sl (aj (ax (ag s))) (ax (ag s)).length false)):=by
 have c:=gI s (by omega);have b:(ae (ag s)).length≤s.length:=lQ (Δ _);have a:=aB (ag s);have hloop:=fun nt (hn:35≤nt)=>VZ hn (ae (ag s)) (by omega) (vk _) ((ae (ag s)).length+1) (ae (ag s)).length [] (by omega) (Δ _) (by simp;omega)
 rw [Xq1,a,Xqk] at hloop;generalize hd:ax (ag s)=o at*
 rcases Xxn (o= []) with rfl|hne
 ·have h:=aeg s [] c (aA.blk hloop (by simp) rfl (aH.of ⟨rfl,rfl,rfl,trivial⟩) (aH.of ⟨rfl,trivial⟩));exact h.out (jW.ret rfl rfl (aT.nilS false rfl))
 ·have h:=(aef s o c (aA.blk hloop (by simp) rfl (aH.of ⟨rfl,rfl,rfl,trivial⟩) (by unfold P6;rw [gu hne,gy hne];exact aH.of ⟨rfl,trivial⟩))).thaw (by simp);simp only [yO,thaw,χ,dF,Xq1] at h;exact h.out (jW.sl1 _ _ _)
theorem al8 (s t:List UInt8) (x y q r:Nat) (a:(!((y:Int)==((0:Nat):Int)))=true) (c:lit false ((((η (ae (ag t))):Nat):Int)==((0:Nat):Int))=true) (d:CO 133 [.str t] (.ret (.str (ae (ag t))))) (g:CO 134 [.str s,ω 7] (.ret (.tup [ω (x:Int),.bool true]))) (e:CO 134 [.str (ae (ag t)),ω 7] (.ret (.tup [ω (y:Int),.bool true]))) (b:CO 79 [ω (γ .i64 (Xxd (x:Int) (y:Int)))] (.ret (.str (ae q)))) (f:CO 79 [ω (Xjt (x:Int) (y:Int))] (.ret (.str (ae r)))):CO 150 [.str s,.str t] (.ret (.tup [.str (ae q),.str (ae r),.bool true])):=pK [0] 3 6 (.c a (.c a (.k 2 c .nil))) (.c f (.c b (.c e (.c g (.c d .nil)))))
theorem al6 (s t:List UInt8) (x y q r m:Nat) (Q:List Nat) (a:Int) (b:Bool) (l:(decide (((0:Nat):Int)≤(((ax (ag s)).length:Nat):Int)))=true) (k:(decide ((((ax (ag s)).length:Nat):Int)=(((ax (ag s)).length:Nat):Int)))=true) (e:(decide ((((ax (ag s)).length:Nat):Int)≤((1099511627776:Nat):Int)))=true) (i:lit false ((((η (ae (ag t))):Nat):Int)==((0:Nat):Int))=true) (d:CO 133 [.str t] (.ret (.str (ae (ag t))))) (n:CO 134 [.str s,ω 7] (.ret (.tup [ω 0,.bool false]))) (j:CO 134 [.str (ae (ag t)),ω 7] (.ret (.tup [ω a,.bool b]))) (h:CO 135 [.str s] (.ret (.sl (aj (ax (ag s))) (ax (ag s)).length false))) (o:CO 135 [.str (ae (ag t))] (.ret (.sl (aj (ax (ag (ae (ag t))))) (ax (ag (ae (ag t)))).length false))) (c:aG prog ap [] 87 (.block 0 (.loop (af 0 (ah f150)))) ⟨[(0,.str s),(1,.str (ae (ag t))),(4,.str []),(5,.str []),(6,.bool false),(7,ω 0),(8,.bool false),(9,ω a),(10,.bool b),(11,.sl (aj (ax (ag s))) (ax (ag s)).length false),(12,.sl (aj (ax (ag (ae (ag t))))) (ax (ag (ae (ag t)))).length false),(13,.ref 0 0 0 (δ (((ax (ag s)).length:Nat):Int))),(14,.nilS),(15,ω (γ .i64 ((((ax (ag s)).length:Nat):Int) - ((1:Nat):Int)))),(20,.bool ((((η (ae (ag t))):Nat):Int)==((0:Nat):Int))),(34,.bool false),(54,.dead),(68,.dead)],[(0,⟨(gp (δ (((ax (ag s)).length:Nat):Int)) [ω 0]),0,false,0,1,true⟩)],.dead,[]⟩ (.normal) ⟨[(13,.ref 0 0 0 m),(14,.sl (aj (ax r)) (ax r).length false)],[(0,⟨(aj Q),0,false,0,1,true⟩)],.dead,[]⟩) (f:CO 136 [.sl (ν (m*1) (aj Q)) m true] (.ret (.str (ae q)))) (g:CO 136 [.sl (aj (ax r)) (ax r).length false] (.ret (.str (ae r)))):CO 150 [.str s,.str t] (.ret (.tup [.str (ae q),.str (ae r),.bool true])):=pK [0] 3 0 (.c l (.c k (.c e (.k 2 i .nil)))) (.c g (.c f (.l c (.c o (.c h (.c j (.c n (.c d .nil))))))))
theorem al7 (s t:List UInt8) (x y q r m:Nat) (Q:List Nat) (n:Int) (o:Bool) (j:(decide (((0:Nat):Int)≤(((ax (ag s)).length:Nat):Int)))=true) (i:(decide ((((ax (ag s)).length:Nat):Int)=(((ax (ag s)).length:Nat):Int)))=true) (c:(decide ((((ax (ag s)).length:Nat):Int)≤((1099511627776:Nat):Int)))=true) (g:lit false ((((η (ae (ag t))):Nat):Int)==((0:Nat):Int))=true) (b:CO 133 [.str t] (.ret (.str (ae (ag t))))) (k:CO 134 [.str s,ω 7] (.ret (.tup [ω (x:Int),.bool true]))) (h:CO 134 [.str (ae (ag t)),ω 7] (.ret (.tup [ω 0,.bool false]))) (f:CO 135 [.str s] (.ret (.sl (aj (ax (ag s))) (ax (ag s)).length false))) (l:CO 135 [.str (ae (ag t))] (.ret (.sl (aj (ax (ag (ae (ag t))))) (ax (ag (ae (ag t)))).length false))) (a:aG prog ap [] 87 (.block 0 (.loop (af 0 (ah f150)))) ⟨[(0,.str s),(1,.str (ae (ag t))),(4,.str []),(5,.str []),(6,.bool false),(7,ω (x:Int)),(8,.bool true),(9,ω 0),(10,.bool false),(11,.sl (aj (ax (ag s))) (ax (ag s)).length false),(12,.sl (aj (ax (ag (ae (ag t))))) (ax (ag (ae (ag t)))).length false),(13,.ref 0 0 0 (δ (((ax (ag s)).length:Nat):Int))),(14,.nilS),(15,ω (γ .i64 ((((ax (ag s)).length:Nat):Int) - ((1:Nat):Int)))),(20,.bool ((((η (ae (ag t))):Nat):Int)==((0:Nat):Int))),(34,.bool false),(54,.dead),(68,.dead)],[(0,⟨(gp (δ (((ax (ag s)).length:Nat):Int)) [ω 0]),0,false,0,1,true⟩)],.dead,[]⟩ (.normal) ⟨[(13,.ref 0 0 0 m),(14,.sl (aj (ax r)) (ax r).length false)],[(0,⟨(aj Q),0,false,0,1,true⟩)],.dead,[]⟩) (d:CO 136 [.sl (ν (m*1) (aj Q)) m true] (.ret (.str (ae q)))) (e:CO 136 [.sl (aj (ax r)) (ax r).length false] (.ret (.str (ae r)))):CO 150 [.str s,.str t] (.ret (.tup [.str (ae q),.str (ae r),.bool true])):=pK [0] 3 2 (.c j (.c i (.c c (.k 2 g .nil)))) (.c e (.c d (.l a (.c l (.c f (.c h (.c k (.c b .nil))))))))
theorem al9 {nt:Nat} (i:87≤nt) (x y r w q p a m k:Nat) (c:Int) (Q:List Nat) (o:(chk (.int .i64) (ζ (ε ((0+(δ (k:Int)))*1) (ν ((0+(δ (k:Int)))*1) (aj Q)++ [ω (q:Int)]++ε (((0+(δ (k:Int)))*1)+1) (aj Q))) .dead))=true) (b:(decide (((0:Nat):Int)≤(k:Int)))=true) (d:(decide ((k:Int)<(m:Int)))=true) (j:(Xqm (((0+(δ (k:Int)))*1)+1) (η (aj Q)))=true) (n:lit true (decide (((0:Nat):Int)≤c))=true) (e:(Xqq (η (aj (ax r))) ((ax r).length*1))=true) (v:(Xqm (1+(ax r).length) 1099511627776)=true) (s:(chk (.int .i64) (ζ (ε ((δ (k:Int))*1) (aj (ax x))) .dead))=true) (z:(decide ((k:Int)<(((ax x).length:Nat):Int)))=true) (h:lit true (decide (((0:Nat):Int)≤(k:Int)))=true) (f:CO 185 [.sl (ν ((1+(ax r).length)*1) ([ω (τ (ζ (ε ((δ (k:Int))*1) (aj (ax x))) .dead))]++(aj (ax r)))) (1+(ax r).length) true] (.ret (.sl (aj (ax w)) (ax w).length false))) (t:CO 186 [.sl (aj (ax w)) (ax w).length false,.sl (aj (ax y)) (ax y).length false] (.ret (ω c))) (l:CO 187 [.sl (aj (ax w)) (ax w).length false,.sl (aj (ax y)) (ax y).length false] (.ret (ω (q:Int)))) (g:CO 188 [.sl (aj (ax y)) (ax y).length false,ω (τ (ζ (ε ((0+(δ (k:Int)))*1) (ν ((0+(δ (k:Int)))*1) (aj Q)++ [ω (q:Int)]++ε (((0+(δ (k:Int)))*1)+1) (aj Q))) .dead))] (.ret (.sl (aj (ax p)) (ax p).length true))) (u:CO 151 [.sl (aj (ax w)) (ax w).length false,.sl (aj (ax p)) (ax p).length true] (.ret (.sl (aj (ax a)) (ax a).length false))):ψ nt f150 ⟨[(11,.sl (aj (ax x)) (ax x).length false),(12,.sl (aj (ax y)) (ax y).length false),(13,.ref 0 0 0 m),(14,.sl (aj (ax r)) (ax r).length false),(15,ω (k:Int))],[(0,⟨(aj Q),0,false,0,1,true⟩)],.dead,[]⟩ (.normal) ⟨[(11,.sl (aj (ax x)) (ax x).length false),(12,.sl (aj (ax y)) (ax y).length false),(13,.ref 0 0 0 m),(14,.sl (aj (ax a)) (ax a).length false),(15,ω (γ .i64 ((k:Int) - ((1:Nat):Int))))],[(0,⟨(ν ((0+(δ (k:Int)))*1) (aj Q)++ [ω (q:Int)]++ε (((0+(δ (k:Int)))*1)+1) (aj Q)),0,false,0,1,true⟩)],.dead,[]⟩:=pJ 150 [] 2 3 (.c o (.c b (.c d (.c j (.c b (.c d (.c n (.c e (.c v (.k 2 s (.c b (.c z (.c h .nil))))))))))))) (.c u (.c g (.c l (.c t (.c f .nil))))) i
theorem al_ {nt:Nat} (e:87≤nt) (x y r w q p n m k:Nat) (c:Int) (Q:List Nat) (i:lit false (decide (((0:Nat):Int)≤c))=true) (h:(Xqq (η (aj (ax r))) ((ax r).length*1))=true) (d:(Xqm (1+(ax r).length) 1099511627776)=true) (f:(chk (.int .i64) (ζ (ε ((δ (k:Int))*1) (aj (ax x))) .dead))=true) (g:(decide (((0:Nat):Int)≤(k:Int)))=true) (a:(decide ((k:Int)<(((ax x).length:Nat):Int)))=true) (l:lit true (decide (((0:Nat):Int)≤(k:Int)))=true) (b:CO 185 [.sl (ν ((1+(ax r).length)*1) ([ω (τ (ζ (ε ((δ (k:Int))*1) (aj (ax x))) .dead))]++(aj (ax r)))) (1+(ax r).length) true] (.ret (.sl (aj (ax w)) (ax w).length false))) (j:CO 186 [.sl (aj (ax w)) (ax w).length false,.sl (aj (ax y)) (ax y).length false] (.ret (ω c))):ψ nt f150 ⟨[(11,.sl (aj (ax x)) (ax x).length false),(12,.sl (aj (ax y)) (ax y).length false),(13,.ref 0 0 0 m),(14,.sl (aj (ax r)) (ax r).length false),(15,ω (k:Int))],[(0,⟨(aj Q),0,false,0,1,true⟩)],.dead,[]⟩ (.normal) ⟨[(11,.sl (aj (ax x)) (ax x).length false),(12,.sl (aj (ax y)) (ax y).length false),(13,.ref 0 0 0 m),(14,.sl (aj (ax w)) (ax w).length false),(15,ω (γ .i64 ((k:Int) - ((1:Nat):Int))))],[(0,⟨(aj Q),0,false,0,1,true⟩)],.dead,[]⟩:=pJ 150 [] 2 1 (.c i (.c h (.c d (.k 2 f (.c g (.c a (.c l .nil))))))) (.c j (.c b .nil)) e
theorem aiT {nt:Nat} (a:87≤nt) (x y r w q p b m k:Nat) (c:Int) (Q:List Nat):ψ nt f150 ⟨[(11,.sl (aj (ax x)) (ax x).length false),(12,.sl (aj (ax y)) (ax y).length false),(13,.ref 0 0 0 m),(14,.sl (aj (ax r)) (ax r).length false),(15,ω (-1))],[(0,⟨(aj Q),0,false,0,1,true⟩)],.dead,[]⟩ (.exit 0) ⟨[(13,.ref 0 0 0 m),(14,.sl (aj (ax r)) (ax r).length false)],[(0,⟨(aj Q),0,false,0,1,true⟩)],.dead,[]⟩:=pJ 150 [] 1 0 (.n 1 .nil) (.nil) a
def z_ (x y m k:Nat):List Nat:=(Xq6 m).map fun i=>if i<k then 0 else x / 16777216^i / y % 16777216
theorem xh (x y m k:Nat):(z_ x y m k).length=m:=by simp [z_]
theorem Z5 {x y m k:Nat} (a:k<m):(z_ x y m (k+1)).set k (x / 16777216^k / y % 16777216)=z_ x y m k:=by
 apply Xju;intro i;rw [Xzk,xh];unfold z_;by_cases hi:k=i
 ·subst hi;simp [a]
 ·rw [if_neg hi];by_cases him:i<m
  ·simp only [List.getElem?_map,List.getElem?_range him,Option.map_some];by_cases h1:i<k
   ·rw [if_pos (by omega),if_pos h1]
   ·rw [if_neg (by omega),if_neg h1]
  ·rw [Xq4 (by simp;omega),Xq4 (by simp;omega)]
theorem He (x y m:Nat):z_ x y m m=κ m 0:=by
 unfold z_;apply Xju;intro i;by_cases him:i<m
 ·simp [him]
 ·rw [Xq4 (by simp;omega),Xq4 (by simp;omega)]
theorem Z4 (x y m k:Nat):aZ (z_ x y m k):=by
 intro d hd;obtain ⟨i,_,rfl⟩:=List.mem_map.1 hd;show (if i<k then 0 else _)<_;split<;>omega
theorem Xz (z:Nat):∀ m,bY ((Xq6 m).map fun i=>z / 16777216^i % 16777216)=z % 16777216^m:=by
 intro m
 induction m with
 |zero=>simp [bY,Nat.mod_one]
 |succ m ih=>
  rw [List.range_succ,Xxy,yT,ih,List.length_map,List.length_range,Xqz,Nat.mod_mul];simp only [Xqi,Xjd,bY,Xx8,Xq0]
theorem Z7 {x y m:Nat} (h:x / y<16777216^m):bY (z_ x y m 0)=x / y:=by
 have e:z_ x y m 0=(Xq6 m).map fun i=>x / y / 16777216^i % 16777216:=by
  unfold z_;apply List.map_congr_left;intro i _;rw [if_neg (by omega),Xxq,Xxq,Φ]
 rw [e,Xz,υ h]
theorem UA:∀ (k x:Nat),(ax x).getD k 0=x / 16777216^k % 16777216:=by
 intro k
 induction k with
 |zero=>
  intro x;rcases Γ x with rfl|h
  ·rw [fH];rfl
  ·rw [nT h];simp
 |succ k ih=>
  intro x;rcases Γ x with rfl|h
  ·rw [fH];simp
  ·rw [nT h,List.getD_cons_succ,ih,Xxq,Xqz,Φ]
theorem Ph {V R' Q' x H:Nat} (a:0<V) (h:H=V*Q'+R'):(x+16777216*H) / V=16777216*Q'+(x+16777216*R') / V∧(x+16777216*H) % V=(x+16777216*R') % V:=by
 subst h;have e:x+16777216*(V*Q'+R')=x+16777216*R'+V*(16777216*Q'):=by
  rw [Xq8,Xwn];omega
 rw [e];constructor
 ·rw [Nat.add_mul_div_left _ _ a,Xxp]
 ·rw [Nat.add_mul_mod_self_left]
def Sz (x y m k:Nat):St:=⟨[(11,.sl (aj (ax x)) (ax x).length false),(12,.sl (aj (ax y)) (ax y).length false),(13,.ref 0 0 0 m),(14,.sl (aj (ax (x / 16777216^k % y))) (ax (x / 16777216^k % y)).length false),(15,ω ((k:Int) - 1))],[(0,⟨aj (z_ x y m k),0,false,0,1,true⟩)],.dead,[]⟩
theorem amb {nt:Nat} (i:87≤nt) (x y r w q p b m k d:Nat) (c:Int) (Q Q2:List Nat) (A:k<(ax x).length) (hd:(ax x).getD k 0=d) (s:Q.length=m) (h:k<m) (z:m<2^40) (o:(ax r).length<2^39) (a:Q.set k q=Q2) (v:0≤c)
  (c0:CO 185 [.sl (aj (d::ax r)) (1+(ax r).length) true] (.ret (.sl (aj (ax w)) (ax w).length false)))
  (c1:CO 186 [.sl (aj (ax w)) (ax w).length false,.sl (aj (ax y)) (ax y).length false] (.ret (ω c)))
  (c2:CO 187 [.sl (aj (ax w)) (ax w).length false,.sl (aj (ax y)) (ax y).length false] (.ret (ω (q:Int))))
  (c3:CO 188 [.sl (aj (ax y)) (ax y).length false,ω (q:Int)] (.ret (.sl (aj (ax p)) (ax p).length true)))
  (c4:CO 151 [.sl (aj (ax w)) (ax w).length false,.sl (aj (ax p)) (ax p).length true] (.ret (.sl (aj (ax b)) (ax b).length false))):
  ψ nt f150 ⟨[(11,.sl (aj (ax x)) (ax x).length false),(12,.sl (aj (ax y)) (ax y).length false),(13,.ref 0 0 0 m),(14,.sl (aj (ax r)) (ax r).length false),(15,ω (k:Int))],[(0,⟨aj Q,0,false,0,1,true⟩)],.dead,[]⟩ .normal
   ⟨[(11,.sl (aj (ax x)) (ax x).length false),(12,.sl (aj (ax y)) (ax y).length false),(13,.ref 0 0 0 m),(14,.sl (aj (ax b)) (ax b).length false),(15,ω ((k:Int) - 1))],[(0,⟨aj Q2,0,false,0,1,true⟩)],.dead,[]⟩:=by
 have g:=al9 i x y r w q p b m k c Q;have t:γ .i64 ((k:Int) - ((1:Nat):Int))=(k:Int) - 1:=dn (by omega) (by omega);have hset':=Pz (l:=Q) (j:=k) (by omega) q;rw [a] at hset';have f:Q2.getD k 0=q:=by rw [← a,π,List.getElem?_set_self (by omega)];rfl
 have n:Q2.length=m:=by rw [← a];simp [s]
 have e:ν (1+(ax r).length) (aj (d::ax r))=aj (d::ax r):=by rw [dF,Xqc (by simp;omega)]
 have u:(((0:Nat):Int)≤c)=True:=by simp [v]
 simp (disch:=first|omega|(simp [au,ay]<;>omega)) only [aC,Xqf,χ,hset',f_,f,eF,dm,bf,aX,bW,fQ,u,decide_true,bz,IW,hd,aY,Kw,e,t] at g;apply g<;>first|exact True.intro|omega|assumption|exact rfl
theorem ama {nt:Nat} (i:87≤nt) (x y r w m k d:Nat) (c:Int) (Q:List Nat) (o:k<(ax x).length) (hd:(ax x).getD k 0=d) (l:Q.length=m) (h:k<m) (n:m<2^40) (e:(ax r).length<2^39) (j:c<0)
  (c0:CO 185 [.sl (aj (d::ax r)) (1+(ax r).length) true] (.ret (.sl (aj (ax w)) (ax w).length false)))
  (c1:CO 186 [.sl (aj (ax w)) (ax w).length false,.sl (aj (ax y)) (ax y).length false] (.ret (ω c))):
  ψ nt f150 ⟨[(11,.sl (aj (ax x)) (ax x).length false),(12,.sl (aj (ax y)) (ax y).length false),(13,.ref 0 0 0 m),(14,.sl (aj (ax r)) (ax r).length false),(15,ω (k:Int))],[(0,⟨aj Q,0,false,0,1,true⟩)],.dead,[]⟩ .normal
   ⟨[(11,.sl (aj (ax x)) (ax x).length false),(12,.sl (aj (ax y)) (ax y).length false),(13,.ref 0 0 0 m),(14,.sl (aj (ax w)) (ax w).length false),(15,ω ((k:Int) - 1))],[(0,⟨aj Q,0,false,0,1,true⟩)],.dead,[]⟩:=by
 have b:=al_ i x y r w 0 0 0 m k c Q;have f:γ .i64 ((k:Int) - ((1:Nat):Int))=(k:Int) - 1:=dn (by omega) (by omega);have a:ν (1+(ax r).length) (aj (d::ax r))=aj (d::ax r):=by rw [dF,Xqc (by simp;omega)]
 have g:(((0:Nat):Int)≤c)=False:=by simp [j]
 simp (disch:=first|omega|(simp [au,ay]<;>omega)) only [g,decide_false,dC,Xji,bW,χ,IW,decide_true,fQ,bf,aC,f_,hd,eF,dm,aX,bz,aY,Kw,a,f] at b;apply b<;>first|exact True.intro|omega|assumption|exact rfl
theorem ZW (x y m k:Nat) (c:0<y) (j:k<m):∃ d r w:Nat,(ax x).getD k 0=d∧x / 16777216^(k+1) % y=r∧d+16777216*r=w∧d<16777216∧r<y∧x / 16777216^k % y=w % y∧(z_ x y m (k+1)).set k (w / y)=z_ x y m k∧(z_ x y m (k+1)).getD k 0=0:=by
 have i:=Xqu (x / 16777216^k) (show 0<16777216 by omega);have g:=Xqu (x / 16777216^(k+1)) c;refine ⟨x / 16777216^k % 16777216,x / 16777216^(k+1) % y,_,UA k x,rfl,rfl,i,g, ?_, ?_, ?_⟩
 ·have b:=Xq7 (x / 16777216^(k+1)) y;obtain ⟨_,l⟩:=Ph (x:=x / 16777216^k % 16777216) c b.symm;have h:x / 16777216^k % 16777216+16777216*(x / 16777216^(k+1))=x / 16777216^k:=by
   rw [Xqz,← Xxq];omega
  rw [h] at l;exact l
 ·have b:=Xq7 (x / 16777216^(k+1)) y;obtain ⟨v1,_⟩:=Ph (x:=x / 16777216^k % 16777216) c b.symm;have h:x / 16777216^k % 16777216+16777216*(x / 16777216^(k+1))=x / 16777216^k:=by
   rw [Xqz,← Xxq];omega
  rw [h] at v1;have a:=Z5 (x:=x) (y:=y) j;rw [v1] at a;have e:x / 16777216^k % 16777216+16777216*(x / 16777216^(k+1) % y)<y*16777216:=by omega
  have f:(x / 16777216^k % 16777216+16777216*(x / 16777216^(k+1) % y)) / y<16777216:=by rw [Xqs c,Φ 16777216 y];exact e
  rw [Nat.mul_add_mod,υ f] at a;exact a
 ·unfold z_;rw [π];simp [j]
theorem Q5 {w y:Nat} (h:w<y*16777216):(ax w).length≤(ax y).length+1:=by
 apply rG;have a:=uV y;rw [Xqz];exact Xxa h (Xw6 a (by omega))
theorem ZX {nt:Nat} (E:87≤nt) (x y m k:Nat) (u:0<y) (L:(ax x).length=m) (C:k<m) (J:m<2^35) (H:(ax y).length<2^34):ψ nt f150 (Sz x y m (k+1)) .normal (Sz x y m k):=by
 obtain ⟨d,r,w,hd,K,F,D,A,j,a,p⟩:=ZW x y m k u C;have q:=xh x y m (k+1);unfold Sz;rw [show (((k+1:Nat):Int) - 1)=(k:Int) by omega,K,j];have e:w<y*16777216:=by omega
 have G:=qC (Xww A);have b:=yJ (d::ax r) true (by simp;omega);rw [QF (aZ.cons D (aZ.dig r))] at b;simp only [bY,eP,F,μ] at b;rw [Xxp (ax r).length 1] at b;have c:=b.out (jW.sl1 _ _ _);have z:w / y<16777216:=by rw [Xqs u,Φ];exact e
 have I:=Q5 e;have o:=Qj (ax w) (ax y) false false (aZ.dig _) (aZ.dig _) (by omega) (by omega);have g:=Gy w y;generalize z_ x y m k=Q2 at*
 generalize z_ x y m (k+1)=Q1 at*
 by_cases hc:0≤JV (ax w) (ax y)
 ·have f:=g.1.1 hc;have n:=UC w y false false u e (by omega) (by omega);have t:=LY y (w / y) false z (by omega);have v:y*(w / y)≤w:=Nat.mul_div_le w y;have l:=KN w (y*(w / y)) false true v (by omega);have B:w - y*(w / y)=w % y:=by have:=Xq7 w y;omega
  rw [B] at l;exact amb E x y r w (w / y) (y*(w / y)) (w % y) m k d _ Q1 Q2 (by omega) hd q C (by omega) (by omega) a hc c o n t l
 ·have f:w<y:=Xk2 (fun h=>hc (g.1.2 h));have s:w / y=0:=Xxw f;rw [υ f];rw [s] at a;have hsame:Q1.set k 0=Q1:=by
   apply Xju;intro i;rw [Xzk];by_cases hi:k=i
   ·subst hi;rw [π,ξ (by omega)] at p;rw [if_pos rfl,if_pos (by omega),ξ (by omega)];simpa using p.symm
   ·rw [if_neg hi]
  rw [hsame] at a;subst a;exact ama E x y r w m k d _ Q1 (by omega) hd q C (by omega) (by omega) (by omega) c o
def Qd (x y m k:Nat):St:=⟨[(13,.ref 0 0 0 m),(14,.sl (aj (ax (x / 16777216^k % y))) (ax (x / 16777216^k % y)).length false)],[(0,⟨aj (z_ x y m k),0,false,0,1,true⟩)],.dead,[]⟩
theorem ZV {nt:Nat} (c:87≤nt) (x y m:Nat) (e:0<y) (d:(ax x).length=m) (a:m<2^35) (b:(ax y).length<2^34):∀ k,k≤m→aA prog ap [] nt (af 0 (ah f150)) (fun _=> .exit 0) (Sz x y m) (Qd x y m) k 0:=by
 intro k
 induction k with
 |zero=>
  intro _;refine .done ?_;unfold Qd;have h:=aiT c x y (x / 16777216^0 % y) 0 0 0 0 m 0 0 (z_ x y m 0);exact h
 |succ k ih=>exact fun f=> .next (ZX c x y m k e d (by omega) a b) (ih (by omega))
theorem Hr {s:List UInt8}:(ax (ag s)).length≤s.length:=by
 apply rG;have h:=jK s;refine Ψ h ?_;rw [show (16777216:Nat)=2^24 from rfl,← Xx2];exact Xqa (by omega) (by omega)
theorem CE (s t:List UInt8) (hs:s.length<2^33) (M:t.length<2^33) (z:0<ag t):CO 150 [.str s,.str t] (.ret (.tup [.str (ae (ag s / ag t)),.str (ae (ag s % ag t)),.bool true])):=by
 have N:=gI t (by omega);have b:=aB (ag t);have F:(ae (ag t)).length≤t.length:=lQ (Δ _);have j:ae (ag t) ≠ []:=fun h=>by have:=dY.1 h;omega
 have B:0<(ae (ag t)).length:=by
  cases D:ae (ag t) with
  |nil=>exact absurd D j
  |cons _ _=>simp
 have e:((ae (ag t)).length=0)=False:=by simp;exact j
 have H:((7:Nat):Int)=7:=rfl;by_cases hb:ag s<2^(8*7)∧ag t<2^(8*7)
 ·have d:=gQ s 7 (by omega) (by omega) hb.1;have a:=gQ (ae (ag t)) 7 (by omega) (by omega) (by rw [b];exact hb.2);rw [b] at a;have v:ag s<9223372036854775808:=Ψ hb.1 (by decide);have x:ag t<9223372036854775808:=Ψ hb.2 (by decide);have I:=Xjp (ag s) (ag t);have L:=Nat.mod_le (ag s) (ag t);have K:=kW (ag s / ag t) (by omega);have J:=kW (ag s % ag t) (by omega);have h:=al8 s t (ag s) (ag t) (ag s / ag t) (ag s % ag t);have n:(ag t=0)=False:=by simp;omega
  clear hb hs;simp (disch:=first|omega|(simp [au,ay]<;>omega)) only [jC,n,decide_false,Xji,e,dC,pY,aS,wO] at h;apply h<;>first|exact True.intro|omega|assumption|exact rfl
 ·have A:=BB s (by omega);have k:=BB (ae (ag t)) (by omega);rw [b] at k;have G:=Hr (s:=s);have E:=Hr (s:=t);have hloop:=fun nt (hn:87≤nt)=>ZV hn (ag s) (ag t) _ z rfl (by omega) (by omega) _ (Δ _)
  have q:=xh (ag s) (ag t) (ax (ag s)).length 0;have l:bY (z_ (ag s) (ag t) (ax (ag s)).length 0)=ag s / ag t:=Z7 (φ (Xjp _ _) (uV _));have o:=uA (z_ (ag s) (ag t) (ax (ag s)).length 0) true (by omega) (Z4 _ _ _ _);rw [l,q] at o;have u:ag s / 16777216^0 % ag t=ag s % ag t:=by rw [Nat.pow_zero,Nat.div_one]
  have C:=qC (Xww (Xqu (ag s) z));have p:=uA (ax (ag s % ag t)) false (by omega) (aZ.dig _);rw [eP] at p;have i:ag s / 16777216^(ax (ag s)).length % ag t=0:=by rw [Xxw (uV _),Nat.zero_mod]
  have f:γ .i64 ((((ax (ag s)).length:Nat):Int) - ((1:Nat):Int))=((ax (ag s)).length:Int) - 1:=Eg (by omega);have c:Qd (ag s) (ag t) (ax (ag s)).length 0=⟨[(13,.ref 0 0 0 (ax (ag s)).length),(14,.sl (aj (ax (ag s % ag t))) (ax (ag s % ag t)).length false)],[(0,⟨aj (z_ (ag s) (ag t) (ax (ag s)).length 0),0,false,0,1,true⟩)],.dead,[]⟩:=by unfold Qd;rw [u]
  have y:(ax (ag s)).length<2^35:=by omega
  have g:ν (ax (ag s)).length (aj (z_ (ag s) (ag t) (ax (ag s)).length 0))=aj (z_ (ag s) (ag t) (ax (ag s)).length 0):=by rw [dF,Xqc (by omega)]
  by_cases hx:ag s<2^(8*7)
  ·have w:2^(8*7)≤ag t:=by
    rcases Xq5 (ag t) (2^(8*7)) with h|h
    ·exact absurd ⟨hx,h⟩ hb
    ·exact h
   have d:=gQ s 7 (by omega) (by omega) hx;have a:=kY (ae (ag t)) 7 (by omega) (by rw [b];exact w);clear hb hx w;have h:=al7 s t (ag s) 0 (ag s / ag t) (ag s % ag t) (ax (ag s)).length (z_ (ag s) (ag t) (ax (ag s)).length 0) 0 true;rw [b] at h;simp (disch:=first|omega|(simp [au,ay]<;>omega)) only [dm,bf,decide_true,jC,e,decide_false,dC,Xji,aC,f,Jh,χ,g] at h;apply h<;>first|exact True.intro|omega|assumption|exact rfl|skip
   ·refine aA.blkF hloop (by simp) rfl ?_ (by rw [c];exact qo.refl _);unfold Sz;rw [He,i,fH];exact qo.of ⟨aT.refl _,aT.refl _,aT.refl _,aT.nilS false rfl,aT.refl _,trivial⟩
  ·have d:=kY s 7 (by omega) (Nat.le_of_not_lt hx);have a:∃ m r,CO 134 [.str (ae (ag t)),ω 7] (.ret (.tup [ω m,.bool r])):=by
    rcases Xq5 (ag t) (2^(8*7)) with h|h
    ·exact ⟨_,_,gQ (ae (ag t)) 7 (by omega) (by omega) (by rw [b];exact h)⟩
    ·exact ⟨_,_,kY (ae (ag t)) 7 (by omega) (by rw [b];exact h)⟩
   obtain ⟨m,r,a⟩:=a;clear hb hx;have h:=al6 s t 0 0 (ag s / ag t) (ag s % ag t) (ax (ag s)).length (z_ (ag s) (ag t) (ax (ag s)).length 0) m r;rw [b] at h;simp (disch:=first|omega|(simp [au,ay]<;>omega)) only [dm,bf,decide_true,jC,e,decide_false,dC,Xji,aC,f,Jh,χ,g] at h;apply h<;>first|exact True.intro|omega|assumption|exact rfl|skip
   ·refine aA.blkF hloop (by simp) rfl ?_ (by rw [c];exact qo.refl _);unfold Sz;rw [He,i,fH];exact qo.of ⟨aT.refl _,aT.refl _,aT.refl _,aT.nilS false rfl,aT.refl _,trivial⟩
theorem ajD {nt:Nat} (a:25≤nt) (s t q r:List UInt8) (c:lit true (decide (((0:Nat):Int)<(((η t):Nat):Int)))=true) (b:CO 150 [.str s,.str t] (.ret (.tup [.str q,.str r,.bool true]))):ψ nt f149 ⟨[(0,.str s),(1,.str t)],[],.dead,[]⟩ (.normal) ⟨[(0,.str t),(1,.str r)],[],.dead,[]⟩:=pJ 149 [] 1 1 (.c c .nil) (.c b .nil) a
theorem ajE {nt:Nat} (a:25≤nt) (s t q r:List UInt8) (b:lit false (decide (((0:Nat):Int)<(((η t):Nat):Int)))=true):ψ nt f149 ⟨[(0,.str s),(1,.str t)],[],.dead,[]⟩ (.exit 0) ⟨[(0,.str s)],[],.dead,[]⟩:=pJ 149 [] 1 0 (.c b .nil) (.nil) a
theorem ajB (s t g:List UInt8) (b:CO 133 [.str s] (.ret (.str (ae (ag s))))) (c:CO 133 [.str t] (.ret (.str (ae (ag t))))) (a:aG prog ap [] 25 (.block 0 (.loop (af 0 (ah f149)))) ⟨[(0,.str (ae (ag s))),(1,.str (ae (ag t))),(4,.str []),(6,.dead),(14,.dead)],[],.dead,[]⟩ (.normal) ⟨[(0,.str g)],[],.dead,[]⟩):CO 149 [.str s,.str t] (.ret (.str g)):=pK [0] 0 0 .nil (.l a (.c c (.c b .nil)))
def ajC (p:Nat × Nat):St:=⟨[(0,.str (ae p.1)),(1,.str (ae p.2))],[],.dead,[]⟩
def ab6 (x:Nat):St:=⟨[(0,.str (ae x))],[],.dead,[]⟩
theorem SK {nt:Nat} (d:25≤nt):∀ (n y x:Nat),y<n→(ae x).length<2^33→(ae y).length<2^33→aA prog ap [] nt (af 0 (ah f149)) (fun _=> .exit 0) ajC ab6 (x,y) (Xxk x y):=by
 intro n
 induction n with
 |zero=>intro y x h;omega
 | succ n ih=>
  intro y x h g e;rcases Γ y with rfl|h0
  ·rw [Nat.gcd_zero_right];refine .done ?_;unfold ajC ab6;rw [di];exact ajE d (ae x) [] [] [] rfl
  ·have i:=Xqu x h0;have f:(ae (x % y)).length<2^33:=by
    have:x % y≤ag (ae y):=by rw [aB];omega
    have:=lQ this;omega
   have hnext:=ih (x % y) y (by omega) e f;rw [show Xxk y (x % y)=Xxk x y by rw [Xv6 y,← Nat.gcd_rec,Xv6]] at hnext;refine .next ?_ hnext
   have b:=CE (ae x) (ae y) g e (by rw [aB];exact h0);rw [aB,aB] at b;have c:ae y ≠ []:=fun h=>by have:=dY.1 h;omega
   have a:0<(ae y).length:=by
    cases b:ae y with
    |nil=>exact absurd b c
    |cons _ _=>simp
   exact ajD d (ae x) (ae y) _ _ (by rw [aX,bz];exact Yq0 a) b
theorem Qm (s t:List UInt8) (hs:s.length<2^33) (b:t.length<2^33):CO 149 [.str s,.str t] (.ret (.str (ae (Xxk (ag s) (ag t))))):=by
 have c:(ae (ag s)).length≤s.length:=lQ (Δ _);have d:(ae (ag t)).length≤t.length:=lQ (Δ _);exact ajB s t _ (gI s (by omega)) (gI t (by omega)) (aA.blk (fun nt a=>SK a (ag t+1) (ag t) (ag s) (by omega) (by omega) (by omega)) (by simp) rfl (aH.of ⟨rfl,rfl,trivial⟩) (aH.of ⟨rfl,trivial⟩))
theorem aiF (a:Bool) (n d:List UInt8) (g:Nat) (c:lit true (!(nR n))=true) (b:CO 179 [.str n] (.ret (.bool (nR n)))) (e:CO 179 [.str d] (.ret (.bool (nR d)))):CO 137 [Ω a n d] (.ret (.bool false)):=pK [] 3 7 (.k 2 c (.n 2 .nil)) (.c e (.c b .nil))
theorem aiG (a:Bool) (n d:List UInt8) (g:Nat) (e:lit true (!(nR d))=true) (b:lit false (!(nR n))=true) (c:CO 179 [.str n] (.ret (.bool (nR n)))) (f:CO 179 [.str d] (.ret (.bool (nR d)))):CO 137 [Ω a n d] (.ret (.bool false)):=pK [] 3 6 (.k 1 e (.c b (.n 2 .nil))) (.c f (.c c .nil))
theorem aiH (a:Bool) (n d:List UInt8) (g:Nat) (e:lit true (d== [])=true) (b:lit false (!(nR d))=true) (f:lit false (!(nR n))=true) (c:CO 179 [.str n] (.ret (.bool (nR n)))) (h:CO 179 [.str d] (.ret (.bool (nR d)))):CO 137 [Ω a n d] (.ret (.bool false)):=pK [] 3 4 (.c e (.k 1 b (.c f (.n 2 .nil)))) (.c h (.c c .nil))
theorem aiI (a:Bool) (n d:List UInt8) (g:Nat) (f:lit true (!a)=true) (c:lit true (n== [])=true) (j:lit false (d== [])=true) (e:lit false (!(nR d))=true) (h:lit false (!(nR n))=true) (i:CO 179 [.str n] (.ret (.bool (nR n)))) (k:CO 179 [.str d] (.ret (.bool (nR d)))) (l:CO 79 [ω 1] (.ret (.str (ae 1)))) (b:CO 101 [.str d,.str (ae 1)] (.ret (ω (lU (ag d) (ag (ae 1)))))):CO 137 [Ω a n d] (.ret (.bool ((lU (ag d) (ag (ae 1)))==((0:Nat):Int)))):=pK [] 5 24 (.k 1 f (.k 1 c (.k 1 j (.k 1 e (.c h (.n 2 .nil)))))) (.c b (.c l (.c k (.c i .nil))))
theorem aiJ (a:Bool) (n d:List UInt8) (g:Nat) (e:lit false (!a)=true) (b:lit true (n== [])=true) (i:lit false (d== [])=true) (c:lit false (!(nR d))=true) (f:lit false (!(nR n))=true) (h:CO 179 [.str n] (.ret (.bool (nR n)))) (j:CO 179 [.str d] (.ret (.bool (nR d)))):CO 137 [Ω a n d] (.ret (.bool false)):=pK [] 5 8 (.c e (.k 1 b (.k 1 i (.k 1 c (.c f (.n 2 .nil)))))) (.c j (.c h .nil))
theorem aiK (a:Bool) (n d:List UInt8) (g:Nat) (f:lit false (n== [])=true) (c:lit false (d== [])=true) (j:lit false (!(nR d))=true) (e:lit false (!(nR n))=true) (h:CO 179 [.str n] (.ret (.bool (nR n)))) (k:CO 179 [.str d] (.ret (.bool (nR d)))) (i:CO 149 [.str n,.str d] (.ret (.str (ae g)))) (b:CO 79 [ω 1] (.ret (.str (ae 1)))) (l:CO 101 [.str (ae g),.str (ae 1)] (.ret (ω (lU (ag (ae g)) (ag (ae 1)))))):CO 137 [Ω a n d] (.ret (.bool ((lU (ag (ae g)) (ag (ae 1)))==((0:Nat):Int)))):=pK [] 4 0 (.k 2 f (.k 1 c (.k 1 j (.c e (.n 2 .nil))))) (.c l (.c b (.c i (.c k (.c h .nil)))))
theorem aiB (a:Bool) (n d:List UInt8) (g:Nat) (c:lit true (n== [])=true) (b:CO 79 [ω 1] (.ret (.str (ae 1)))):CO 99 [.bool a,.str n,.str d] (.ret (Ω false [] (ae 1))):=pK [] 1 1 (.k 4 c .nil) (.c b .nil)
theorem aiC (a:Bool) (n d:List UInt8) (g:Nat) (c:lit false (n== [])=true) (b:CO 149 [.str n,.str d] (.ret (.str (ae g)))) (f:CO 150 [.str n,.str (ae g)] (.ret (.tup [.str (ae (ag n / g)),.str (ae (ag n % g)),.bool true]))) (e:CO 150 [.str d,.str (ae g)] (.ret (.tup [.str (ae (ag d / g)),.str (ae (ag d % g)),.bool true]))):CO 99 [.bool a,.str n,.str d] (.ret (Ω a (ae (ag n / g)) (ae (ag d / g)))):=pK [] 1 0 (.k 4 c .nil) (.c e (.c f (.c b .nil)))
theorem aiy (a:Bool) (n d:List UInt8) (e:lit true (decide ((((dQ (ag n)):Nat):Int)≤((400:Nat):Int)))=true) (b:lit true (iE a n d)=true) (c:CO 137 [Ω a n d] (.ret (.bool (iE a n d)))) (g:CO 138 [.str n] (.ret (ω (((dQ (ag n)):Nat):Int)))) (f:CO 138 [.str d] (.ret (ω (((dQ (ag d)):Nat):Int)))):CO 81 [Ω a n d] (.ret (.bool (decide ((((dQ (ag d)):Nat):Int)≤((400:Nat):Int))))):=pK [] 2 3 (.k 1 e (.k 1 b (.n 3 .nil))) (.c f (.c g (.c c .nil)))
theorem aiz (a:Bool) (n d:List UInt8) (e:lit false (decide ((((dQ (ag n)):Nat):Int)≤((400:Nat):Int)))=true) (b:lit true (iE a n d)=true) (c:CO 137 [Ω a n d] (.ret (.bool (iE a n d)))) (f:CO 138 [.str n] (.ret (ω (((dQ (ag n)):Nat):Int)))):CO 81 [Ω a n d] (.ret (.bool false)):=pK [] 2 1 (.c e (.k 1 b (.n 3 .nil))) (.c f (.c c .nil))
theorem aiA (a:Bool) (n d:List UInt8) (c:lit false (iE a n d)=true) (b:CO 137 [Ω a n d] (.ret (.bool (iE a n d)))):CO 81 [Ω a n d] (.ret (.bool false)):=pK [] 2 0 (.k 1 c (.n 3 .nil)) (.c b .nil)
theorem aiO (a:Bool) (n d:List UInt8) (c:lit true (!(iE a n d))=true) (b:CO 137 [Ω a n d] (.ret (.bool (iE a n d)))) (e:CO 79 [ω 1] (.ret (.str (ae 1)))):CO 98 [Ω a n d] (.ret (Ω false [] (ae 1))):=pK [] 1 1 (.k 4 c (.n 3 .nil)) (.c e (.c b .nil))
theorem aiP (a:Bool) (n d:List UInt8) (c:lit false (!(iE a n d))=true) (b:CO 137 [Ω a n d] (.ret (.bool (iE a n d)))):CO 98 [Ω a n d] (.ret (Ω a n d)):=pK [] 1 0 (.k 7 c (.n 3 .nil)) (.c b .nil)
theorem aiD (v:Int) (x z:Nat) (b:lit true (decide (((0:Nat):Int)≤v))=true) (a:CO 79 [ω v] (.ret (.str (ae z)))) (c:CO 79 [ω 1] (.ret (.str (ae 1)))):CO 48 [ω v] (.ret (Ω false (ae z) (ae 1))):=pK [] 1 1 (.k 4 b .nil) (.c c (.c a .nil))
theorem aiE (v:Int) (x z:Nat) (d:lit false (decide (((0:Nat):Int)≤v))=true) (b:CO 79 [ω (γ .i64 (0 - (γ .i64 (v+((1:Nat):Int)))))] (.ret (.str (ae z)))) (e:CO 79 [ω 1] (.ret (.str (ae 1)))) (c:CO 80 [.str (ae z),.str (ae 1)] (.ret (.str (ae x)))) (a:CO 79 [ω 1] (.ret (.str (ae 1)))):CO 48 [ω v] (.ret (Ω true (ae x) (ae 1))):=pK [] 1 0 (.k 4 d .nil) (.c a (.c c (.c e (.c b .nil))))
theorem aiL (a c:Bool) (n d b f:List UInt8) (g:lit true (b== [])=true) (e:CO 98 [Ω a n d] (.ret (Ω c b f))):CO 141 [Ω a n d] (.ret (ω 0)):=pK [] 1 1 (.c g (.n 5 .nil)) (.c e .nil)
theorem aiM (a b:Bool) (n d c g:List UInt8) (h:lit true b=true) (e:lit false (c== [])=true) (f:CO 98 [Ω a n d] (.ret (Ω b c g))):CO 141 [Ω a n d] (.ret (ω (-1))):=pK [] 2 2 (.c h (.k 1 e (.n 5 .nil))) (.c f .nil)
theorem aiN (a b:Bool) (n d c g:List UInt8) (h:lit false b=true) (e:lit false (c== [])=true) (f:CO 98 [Ω a n d] (.ret (Ω b c g))):CO 141 [Ω a n d] (.ret (ω 1)):=pK [] 2 0 (.c h (.k 1 e (.n 5 .nil))) (.c f .nil)
theorem afh (s t:List UInt8) (x y z:Nat) (a:CO 134 [.str s,ω 7] (.ret (.tup [ω (x:Int),.bool true]))) (c:CO 134 [.str t,ω 7] (.ret (.tup [ω (y:Int),.bool true]))) (b:CO 79 [ω (γ .i64 ((x:Int)+(y:Int)))] (.ret (.str (ae z)))):CO 80 [.str s,.str t] (.ret (.str (ae z))):=pK [] 2 3 (.n 2 .nil) (.c b (.c c (.c a .nil)))
theorem afi (s t:List UInt8) (x y z:Nat) (a:CO 134 [.str s,ω 3] (.ret (.tup [ω (x:Int),.bool true]))) (c:CO 134 [.str t,ω 4] (.ret (.tup [ω (y:Int),.bool true]))) (b:CO 79 [ω (γ .i64 ((x:Int)*(y:Int)))] (.ret (.str (ae z)))):CO 100 [.str s,.str t] (.ret (.str (ae z))):=pK [] 2 3 (.n 2 .nil) (.c b (.c c (.c a .nil)))
theorem Qx {x:Nat}:((lU x (ag (ae 1)))==((0:Nat):Int))=decide (x=1):=by
 rw [aB];unfold lU;rcases Xj6 x 1 with h|h|h
 ·rw [if_pos h,Yq1 (by omega)];rfl
 ·rw [if_neg (by omega),if_neg (by omega),Yq0 h];rfl
 ·rw [if_neg (by omega),if_pos h,Yq1 (by omega)];rfl
theorem oC (a:Bool) (n d:List UInt8) (v:n.length<2^33) (hd:d.length<2^33):CO 137 [Ω a n d] (.ret (.bool (iE a n d))):=by
 have i:=Ji n;have j:=Ji d;have s:=kW 1 (by omega);have u:(ae 1).length≤1:=bU (by omega);have x:=Je d (ae 1) (by omega) (by omega);have w:=Qm n d v hd;have o:=@Qx (ag d);cases b:nR n with
 |false=>
  have e:iE a n d=false:=by unfold iE;rw [b];rfl
  rw [e];exact aiF a n d 0 (by rw [b];rfl) i j
 | true=>
  cases c:nR d with
  |false=>
   have e:iE a n d=false:=by unfold iE;rw [c];simp
   rw [e];exact aiG a n d 0 (by rw [c];rfl) (by rw [b];rfl) i j
  | true=>
   have q:=(mO n).1 b;have r:=(mO d).1 c;by_cases hd0:d= []
   ·have e:iE a n d=false:=by
     subst hd0;unfold iE;simp [show ag []=0 from rfl]
    rw [e];exact aiH a n d 0 (by rw [hd0];rfl) (by rw [c];rfl) (by rw [b];rfl) i j
   ·have k:0<ag d:=by
     rcases Γ (ag d) with h|h
     ·rw [h,di] at r;exact absurd r.symm hd0
     ·exact h
    have g:(d== [])=false:=by simpa using hd0
    by_cases hn0:n= []
    ·have f:(n== [])=true:=by simpa using hn0
     have p:ag n=0:=by rw [hn0];rfl
     cases a with
     | false=>
      have h:=aiI false n d 0 rfl (by rw [f];rfl) (by rw [g];rfl) (by rw [c];rfl) (by rw [b];rfl) i j s x;rw [o] at h;have e:iE false n d=decide (ag d=1):=by
       rw [Xxz,kM,p,Xwo];simp [b,c];omega
      rw [e];exact h
     | true=>
      have h:=aiJ true n d 0 rfl (by rw [f];rfl) (by rw [g];rfl) (by rw [c];rfl) (by rw [b];rfl) i j;have e:iE true n d=false:=by
       rw [Bool.eq_false_iff];intro h;have:=(kM.1 h).2.2.2.2 rfl;omega
      rw [e];exact h
    ·have f:(n== [])=false:=by simpa using hn0
     have l:0<ag n:=by
      rcases Γ (ag n) with h|h
      ·rw [h,di] at q;exact absurd q.symm hn0
      ·exact h
     have t:(ae (Xxk (ag n) (ag d))).length≤d.length:=lQ (Xwz _ k);have m:=Je (ae (Xxk (ag n) (ag d))) (ae 1) (by omega) (by omega);have h:=aiK a n d (Xxk (ag n) (ag d)) (by rw [f];rfl) (by rw [g];rfl) (by rw [c];rfl) (by rw [b];rfl) i j w s m;rw [Qx,aB] at h;have e:iE a n d=decide (Xxk (ag n) (ag d)=1):=by
      rw [Xxz,kM];simp [b,c,k,l]
     rw [e];exact h
theorem lH (a:Bool) (n d:List UInt8) (f:n.length<2^33) (hd:d.length<2^33):CO 81 [Ω a n d] (.ret (.bool (eQ a n d))):=by
 have c:=oC a n d f hd;have e:=Lh n (by omega);have g:=Lh d (by omega);unfold eQ;cases b:iE a n d with
 |false=>exact aiA a n d (by rw [b];rfl) c
 | true=>
  by_cases h3:dQ (ag n)≤400
  ·have h:=aiy a n d (by rw [dm,Yq0 h3];rfl) (by rw [b];rfl) c e g;rw [dm] at h;rw [Yq0 h3];exact h
  ·have h:=aiz a n d (by rw [dm,Yq1 h3];rfl) (by rw [b];rfl) c e;rw [Yq1 h3];exact h
structure RQ where
 neg:Bool
 n:Nat
 d:Nat
def RQ.ok (q:RQ):Prop:=0<q.d∧Xxk q.n q.d=1∧(q.neg=true→0<q.n)
def qA (q:RQ):AV:= .agg [.bool q.neg,.str (ae q.n),.str (ae q.d)]
def q0:RQ:=⟨false,0,1⟩
def jR (neg:Bool) (n d:Nat):RQ:=⟨neg && decide (0<n),n / Xxk n d,d / Xxk n d⟩
def vQ (neg:Bool) (n d:List UInt8):RQ:=if iE neg n d=true then ⟨neg,ag n,ag d⟩ else q0
theorem wG:q0.ok:=⟨by decide,by decide,by simp [q0]⟩
theorem wY (q:RQ) (h:q.ok):iE q.neg (ae q.n) (ae q.d)=true:=by
 rw [kM,aB,aB];exact ⟨vk _,vk _,h⟩
theorem PH {a:Bool} {n d:List UInt8} (h:iE a n d=true):Ω a n d=qA ⟨a,ag n,ag d⟩:=by
 obtain ⟨c,b,_⟩:=kM.1 h;unfold qA;rw [(mO n).1 c,(mO d).1 b]
theorem jl (a:Bool) (n d:List UInt8):(vQ a n d).ok:=by
 unfold vQ;split
 ·rename_i h;obtain ⟨_,_,b,c,e⟩:=kM.1 h;exact ⟨b,c,e⟩
 ·exact wG
theorem vg {a:Bool} {n d:Nat} (h:0<d):(jR a n d).ok:=by
 have b:0<Xxk n d:=Xjz _ h;refine ⟨Xvp (Xwz _ h) b, ?_, ?_⟩
 ·show Xxk (n / Xxk n d) (d / Xxk n d)=1;rw [Nat.gcd_div (Nat.gcd_dvd_left _ _) (Nat.gcd_dvd_right _ _),Yxh b]
 ·intro c;have:0<n:=by simp [jR] at c;exact c.2
  exact Xvp (Nat.gcd_le_left _ this) b
theorem iM (a:Bool) (n d:List UInt8) (e:n.length<2^33) (hd:d.length<2^33):CO 98 [Ω a n d] (.ret (qA (vQ a n d))):=by
 have c:=oC a n d e hd;unfold vQ;cases b:iE a n d with
 |false=>
  have h:=aiO a n d (by rw [b];rfl) c (kW 1 (by omega));rw [if_neg (by simp)];unfold qA q0;rw [di];exact h
 |true=>
  have h:=aiP a n d (by rw [b];rfl) c;rw [if_pos rfl,← PH b];exact h
theorem oz (a:Bool) (n d:Nat) (i:(ae n).length<2^33) (hd:(ae d).length<2^33) (c:0<d):CO 99 [.bool a,.str (ae n),.str (ae d)] (.ret (qA (jR a n d))):=by
 have j:=Qm (ae n) (ae d) i hd;rw [aB,aB] at j;have b:0<Xxk n d:=Xjz _ c;have k:(ae (Xxk n d)).length≤(ae d).length:=lQ (by rw [aB];exact Xwz _ c);have g:=CE (ae n) (ae (Xxk n d)) i (by omega) (by rw [aB];exact b);have f:=CE (ae d) (ae (Xxk n d)) hd (by omega) (by rw [aB];exact b);simp only [aB] at g f;rcases Γ n with rfl|hp
 ·have h:=aiB a (ae 0) (ae d) 0 (by rw [di];rfl) (kW 1 (by omega));unfold qA jR;simp only [Xvr,decide_false,Bool.and_false,Xwo,Nat.zero_div,Yxh c,di];rw [di] at h;exact h
 ·have e:ae n ≠ []:=fun h=>by have:=dY.1 h;omega
  have h:=aiC a (ae n) (ae d) (Xxk n d) (by simp [lit,e]);simp only [aB] at h;unfold qA jR;simp only [hp,decide_true,Bool.and_true];exact h j g f
def iQ (q:RQ):Int:=if q.n=0 then 0 else if q.neg then -1 else 1
theorem Fg (a:Bool) (n d:List UInt8):jy a n d=iQ (vQ a n d):=by
 unfold jy iQ vQ;cases c:iE a n d with
 |false=>simp [q0]
 | true=>
  simp only [true_and,if_true];by_cases h:0<ag n
  ·have b:¬ ag n=0:=by omega
   simp [h,b]
  ·have b:ag n=0:=by omega
   simp [b]
theorem zZ (a:Bool) (n d:List UInt8) (g:n.length<2^33) (hd:d.length<2^33):CO 141 [Ω a n d] (.ret (ω (jy a n d))):=by
 have c:=iM a n d g hd;rw [Fg];generalize vQ a n d=q at*
 obtain ⟨f,N,D⟩:=q;unfold qA at c;unfold iQ;simp only at c ⊢;rcases Γ N with rfl|hp
 ·rw [if_pos rfl];exact aiL a f n d (ae 0) (ae D) (by rw [di];rfl) c
 ·have e:ae N ≠ []:=fun h=>by have:=dY.1 h;omega
  have b:(ae N== [])=false:=by simpa using e
  rw [if_neg (by omega)];cases f with
  |true=>exact aiM a true n d (ae N) (ae D) rfl (by rw [b];rfl) c
  |false=>exact aiN a false n d (ae N) (ae D) rfl (by rw [b];rfl) c
def uh (neg:Bool) (n d:List UInt8) (a:Nat):Bool:=((neg==false) && ((n==(ae a)) && ((d==(ae 1)) && true)))
theorem ZQ (a:Nat) (b:a<9223372036854775808):CO 48 [ω (a:Int)] (.ret (Le false a 1)):=
 aiD (a:Int) 0 a (by simp [lit]) (kW a b) (kW 1 (by omega))
theorem uF:CO 48 [ω 0] (.ret (Le false 0 1)):=ZQ 0 (by omega)
theorem yF:CO 48 [ω 1] (.ret (Le false 1 1)):=ZQ 1 (by omega)
def QU:List UInt8:= [97,98,99,100,101,102,103,104,105,106,107,108,109,110,111,112,113,114,115,116,117,118,119,120,121,122,48,49,50,51,52,53,54,55,56,57,95]
def H7:List AV:= [.bool false,.bool false,.bool false,.bool false,.bool false,.bool false,.bool false,.bool false,.bool false,.bool false,.bool false,.bool false,.bool false,.bool false,.bool false,.bool false,.bool false,.bool false,.bool false,.bool false,.bool false,.bool false,.bool false,.bool false,.bool false,.bool false,.bool false,.bool false,.bool false,.bool false,.bool false,.bool false,.bool false,.bool false,.bool false,.bool false,.bool false,.bool false,.bool false,.bool false,.bool false,.bool false,.bool false,.bool false,.bool false,.bool false,.bool false,.bool false,.bool true,.bool true,.bool true,.bool true,.bool true,.bool true,.bool true,.bool true,.bool true,.bool true,.bool false,.bool false,.bool false,.bool false,.bool false,.bool false,.bool false,.bool false,.bool false,.bool false,.bool false,.bool false,.bool false,.bool false,.bool false,.bool false,.bool false,.bool false,.bool false,.bool false,.bool false,.bool false,.bool false,.bool false,.bool false,.bool false,.bool false,.bool false,.bool false,.bool false,.bool false,.bool false,.bool false,.bool false,.bool false,.bool false,.bool false,.bool true,.bool false,.bool true,.bool true,.bool true,.bool true,.bool true,.bool true,.bool true,.bool true,.bool true,.bool true,.bool true,.bool true,.bool true,.bool true,.bool true,.bool true,.bool true,.bool true,.bool true,.bool true,.bool true,.bool true,.bool true,.bool true,.bool true,.bool true,.bool false,.bool false,.bool false,.bool false,.bool false,.bool false,.bool false,.bool false,.bool false,.bool false,.bool false,.bool false,.bool false,.bool false,.bool false,.bool false,.bool false,.bool false,.bool false,.bool false,.bool false,.bool false,.bool false,.bool false,.bool false,.bool false,.bool false,.bool false,.bool false,.bool false,.bool false,.bool false,.bool false,.bool false,.bool false,.bool false,.bool false,.bool false,.bool false,.bool false,.bool false,.bool false,.bool false,.bool false,.bool false,.bool false,.bool false,.bool false,.bool false,.bool false,.bool false,.bool false,.bool false,.bool false,.bool false,.bool false,.bool false,.bool false,.bool false,.bool false,.bool false,.bool false,.bool false,.bool false,.bool false,.bool false,.bool false,.bool false,.bool false,.bool false,.bool false,.bool false,.bool false,.bool false,.bool false,.bool false,.bool false,.bool false,.bool false,.bool false,.bool false,.bool false,.bool false,.bool false,.bool false,.bool false,.bool false,.bool false,.bool false,.bool false,.bool false,.bool false,.bool false,.bool false,.bool false,.bool false,.bool false,.bool false,.bool false,.bool false,.bool false,.bool false,.bool false,.bool false,.bool false,.bool false,.bool false,.bool false,.bool false,.bool false,.bool false,.bool false,.bool false,.bool false,.bool false,.bool false,.bool false,.bool false,.bool false,.bool false,.bool false,.bool false,.bool false,.bool false,.bool false,.bool false,.bool false,.bool false,.bool false,.bool false,.bool false,.bool false,.bool false]
theorem acF:CO 193 [.str QU] (.ret (.tup [.agg H7,.bool true])):=Gx Vp (lf:=3000) (n:=4) (ans:= []) .nil (by kernel_rfl)
theorem agq (a:List AV) (c:Nat) (d:(chk .bool (ζ (ε (0+((δ (c:Int))*1)) a) .dead))=true) (b:(decide (((0:Nat):Int)≤(c:Int)))=true) (e:(decide ((c:Int)<((256:Nat):Int)))=true):CO 212 [.pp a 0,.int .u8 (c:Int)] (.ret (.bool (Xka (ζ (ε (0+((δ (c:Int))*1)) a) .dead)))):=pK [] 0 0 (.c d (.c b (.c e .nil))) (.nil)
theorem amq {nt:Nat} (d:16≤nt) (s:List UInt8) (a:List AV) (b:Bool) (f:lit true (!b)=true) (c:(decide (((0:Nat):Int)<(((η s):Nat):Int)))=true) (g:lit true (decide (((0:Nat):Int)<(((η s):Nat):Int)))=true) (e:CO 212 [.pp a 0,.int .u8 ((Ξ (Xql s 0 0):Nat):Int)] (.ret (.bool b))):ψ nt f194 ⟨[(0,.str s),(1,.pp a 0)],[],.dead,[]⟩ (.exit 0) ⟨[(0,.str s)],[],.dead,[]⟩:=pJ 194 [] 2 3 (.c f (.k 1 c (.c g .nil))) (.c e .nil) d
theorem amr {nt:Nat} (d:16≤nt) (s:List UInt8) (a:List AV) (b:Bool) (g:(decide (((1:Nat):Int)≤(((η s):Nat):Int)))=true) (c:(decide ((((η s):Nat):Int)≤(((η s):Nat):Int)))=true) (i:lit false (!b)=true) (e:(decide (((0:Nat):Int)<(((η s):Nat):Int)))=true) (h:lit true (decide (((0:Nat):Int)<(((η s):Nat):Int)))=true) (f:CO 212 [.pp a 0,.int .u8 ((Ξ (Xql s 0 0):Nat):Int)] (.ret (.bool b))):ψ nt f194 ⟨[(0,.str s),(1,.pp a 0)],[],.dead,[]⟩ (.normal) ⟨[(0,.str (ε 1 (ν (δ (((η s):Nat):Int)) s))),(1,.pp a 0)],[],.dead,[]⟩:=pJ 194 [] 2 1 (.k 1 g (.c c (.c i (.k 1 e (.c h .nil))))) (.c f .nil) d
theorem ams {nt:Nat} (a:16≤nt) (s:List UInt8) (d:List AV) (b:Bool) (c:lit false (decide (((0:Nat):Int)<(((η s):Nat):Int)))=true):ψ nt f194 ⟨[(0,.str s),(1,.pp d 0)],[],.dead,[]⟩ (.exit 0) ⟨[(0,.str s)],[],.dead,[]⟩:=pJ 194 [] 1 0 (.c c .nil) (.nil) a
theorem akL (s r:List UInt8) (a:List AV) (b:aG prog ap [] 16 (.block 0 (.loop (af 0 (ah f194)))) ⟨[(0,.str s),(1,.pp a 0),(4,.str []),(7,.dead),(12,.dead)],[],.dead,[]⟩ (.normal) ⟨[(0,.str r)],[],.dead,[]⟩):CO 194 [.str s,.pp a 0] (.ret (.str r)):=pK [0] 0 0 .nil (.l b .nil)
theorem amu {nt:Nat} (d:22≤nt) (s:List UInt8) (a:List AV) (b:Bool) (g:lit true (!b)=true) (c:(decide (((0:Nat):Int)≤(γ .i64 ((((η s):Nat):Int) - ((1:Nat):Int)))))=true) (h:(decide ((γ .i64 ((((η s):Nat):Int) - ((1:Nat):Int)))<(((η s):Nat):Int)))=true) (e:lit true (decide (((0:Nat):Int)<(((η s):Nat):Int)))=true) (f:CO 212 [.pp a 0,.int .u8 ((Ξ (Xql s (δ (γ .i64 ((((η s):Nat):Int) - ((1:Nat):Int)))) 0):Nat):Int)] (.ret (.bool b))):ψ nt f197 ⟨[(0,.str s),(1,.pp a 0)],[],.dead,[]⟩ (.exit 0) ⟨[(0,.str s)],[],.dead,[]⟩:=pJ 197 [] 2 3 (.c g (.c c (.c h (.c e .nil)))) (.c f .nil) d
theorem amv {nt:Nat} (e:22≤nt) (s:List UInt8) (a:List AV) (b:Bool) (c:(decide (((0:Nat):Int)≤(γ .i64 ((((η s):Nat):Int) - ((1:Nat):Int)))))=true) (d:(decide ((γ .i64 ((((η s):Nat):Int) - ((1:Nat):Int)))≤(((η s):Nat):Int)))=true) (i:lit false (!b)=true) (f:(decide ((γ .i64 ((((η s):Nat):Int) - ((1:Nat):Int)))<(((η s):Nat):Int)))=true) (h:lit true (decide (((0:Nat):Int)<(((η s):Nat):Int)))=true) (g:CO 212 [.pp a 0,.int .u8 ((Ξ (Xql s (δ (γ .i64 ((((η s):Nat):Int) - ((1:Nat):Int)))) 0):Nat):Int)] (.ret (.bool b))):ψ nt f197 ⟨[(0,.str s),(1,.pp a 0)],[],.dead,[]⟩ (.normal) ⟨[(0,.str (ε 0 (ν (δ (γ .i64 ((((η s):Nat):Int) - ((1:Nat):Int)))) s))),(1,.pp a 0)],[],.dead,[]⟩:=pJ 197 [] 2 1 (.k 1 c (.c d (.c i (.c c (.c f (.c h .nil)))))) (.c g .nil) e
theorem amw {nt:Nat} (a:22≤nt) (s:List UInt8) (d:List AV) (b:Bool) (c:lit false (decide (((0:Nat):Int)<(((η s):Nat):Int)))=true):ψ nt f197 ⟨[(0,.str s),(1,.pp d 0)],[],.dead,[]⟩ (.exit 0) ⟨[(0,.str s)],[],.dead,[]⟩:=pJ 197 [] 1 0 (.c c .nil) (.nil) a
theorem akO (s r:List UInt8) (a:List AV) (b:aG prog ap [] 22 (.block 0 (.loop (af 0 (ah f197)))) ⟨[(0,.str s),(1,.pp a 0),(4,.str []),(7,.dead),(15,.dead)],[],.dead,[]⟩ (.normal) ⟨[(0,.str r)],[],.dead,[]⟩):CO 197 [.str s,.pp a 0] (.ret (.str r)):=pK [0] 0 0 .nil (.l b .nil)
def acD:List Bool:= [false,false,false,false,false,false,false,false,false,false,false,false,false,false,false,false,false,false,false,false,false,false,false,false,false,false,false,false,false,false,false,false,false,false,false,false,false,false,false,false,false,false,false,false,false,false,false,false,true,true,true,true,true,true,true,true,true,true,false,false,false,false,false,false,false,false,false,false,false,false,false,false,false,false,false,false,false,false,false,false,false,false,false,false,false,false,false,false,false,false,false,false,false,false,false,true,false,true,true,true,true,true,true,true,true,true,true,true,true,true,true,true,true,true,true,true,true,true,true,true,true,true,true,false,false,false,false,false,false,false,false,false,false,false,false,false,false,false,false,false,false,false,false,false,false,false,false,false,false,false,false,false,false,false,false,false,false,false,false,false,false,false,false,false,false,false,false,false,false,false,false,false,false,false,false,false,false,false,false,false,false,false,false,false,false,false,false,false,false,false,false,false,false,false,false,false,false,false,false,false,false,false,false,false,false,false,false,false,false,false,false,false,false,false,false,false,false,false,false,false,false,false,false,false,false,false,false,false,false,false,false,false,false,false,false,false,false,false,false,false,false,false,false,false,false,false,false,false,false,false,false,false,false,false,false,false]
theorem acE:H7=acD.map AV.bool:=rfl
def inN (c:Nat):Bool:=(decide (97≤c) && decide (c≤122))||(decide (48≤c) && decide (c≤57))||decide (c=95)
def g_ (c:UInt8):Bool:=inN c.toNat
theorem X6:∀ i:Fin 256,acD.getD i.val false=inN i.val:=by decide
theorem Uy (c:UInt8):CO 212 [.pp H7 0,.int .u8 (c.toNat:Int)] (.ret (.bool (g_ c))):=by
 have b:c.toNat<256:=Xvg c;have e:acD.length=256:=by decide
 have d:ζ (ε c.toNat H7) .dead= .bool (g_ c):=by
  have a:=X6 ⟨c.toNat,b⟩;simp only at a;rw [acE,← List.map_drop,List.drop_eq_getElem_cons (by omega),Xqi,Xx9];rw [π,ξ (by omega)] at a;unfold g_;rw [← a];rfl
 have h:=agq H7 c.toNat;rw [aC,Xqf,χ,d] at h;exact h rfl (by rw [dm];exact Yq0 (by omega)) (by rw [aX];exact Yq0 b)
def akl (s:List UInt8):St:=⟨[(0,.str s),(1,.pp H7 0)],[],.dead,[]⟩
def ab8 (s:List UInt8):St:=⟨[(0,.str s)],[],.dead,[]⟩
theorem abb {nt:Nat} (a:16≤nt):∀ (s:List UInt8),s.length<2^40→aA prog ap [] nt (af 0 (ah f194)) (fun _=> .exit 0) akl ab8 s (s.dropWhile g_):=by
 intro s
 induction s with
 |nil=>exact fun _=> .done (ams a [] H7 true rfl)
 | cons c s ih=>
  intro f;simp only [μ] at f;rw [Xxt];have d:=Uy c;cases b:g_ c with
  |true=>
   rw [b] at d;refine .next ?_ (by simpa using ih (by omega))
   have h:=amr a (c::s) H7 true;have e:ε 1 (ν (s.length+1) (c::s))=s:=by simp
   simp only [μ,Xjv] at h;simp (disch:=first|omega|(simp [au,ay]<;>omega)) only [dm,bf,Xwg,dC,Xji,aX,bz,aC,e] at h;apply h<;>first|exact True.intro|omega|assumption|exact rfl
  |false=>
   rw [b] at d;refine .done ?_;have h:=amq a (c::s) H7 false;simp only [μ,Xjv] at h;simp (disch:=first|omega|(simp [au,ay]<;>omega)) only [Xji,bz,aX,bf] at h;apply h<;>first|exact True.intro|omega|assumption|exact rfl
def Xp (s:List UInt8):List UInt8:=(s.reverse.dropWhile g_).reverse
theorem Xq (s:List UInt8) (c:UInt8):Xp (s++ [c])=if g_ c=true then Xp s else s++ [c]:=by
 unfold Xp;rw [List.reverse_append];simp only [List.reverse_cons,List.reverse_nil,Xqk,Xxh,Xxt];by_cases h:g_ c=true
 ·simp [h]
 ·simp [h]
theorem abj {nt:Nat} (b:22≤nt):∀ (k:Nat) (s:List UInt8),s.length=k→k<2^40→aA prog ap [] nt (af 0 (ah f197)) (fun _=> .exit 0) akl ab8 s (Xp s):=by
 intro k
 induction k with
 |zero=>
  intro s hs _;have:s= []:=Xxl hs;subst this;exact .done (amw b [] H7 true rfl)
 | succ k ih=>
  intro s hs j;rcases List.eq_nil_or_concat s with rfl|⟨s',c,rfl⟩
  ·simp at hs
  ·rw [List.concat_eq_append] at hs ⊢;have a:s'.length=k:=by simpa using hs
   rw [Xq];have i:=Uy c;have g:(s'++ [c]).getD s'.length 0=c:=by simp
   have e:s'.length+1 - 1=s'.length:=rfl;have d:ν s'.length (s'++ [c])=s':=by simp
   cases f:g_ c with
   |true=>
    rw [f] at i;rw [if_pos rfl];refine .next ?_ (ih s' a (by omega))
    have h:=amv b (s'++ [c]) H7 true;simp (disch:=first|omega|(simp [au,ay]<;>omega)) only [θ,μ,Xqb,Xqf,jP,e,dm,bf,Xwg,dC,Xji,aX,bz,aC,g,d,Xzh] at h;apply h<;>first|exact True.intro|omega|assumption|exact rfl
   |false=>
    rw [f] at i;rw [if_neg (by simp)];refine .done ?_;have h:=amu b (s'++ [c]) H7 false;simp (disch:=first|omega|(simp [au,ay]<;>omega)) only [Xji,bz,θ,μ,Xqb,Xqf,jP,e,dm,bf,aX,aC,g] at h;apply h<;>first|exact True.intro|omega|assumption|exact rfl
theorem abk (s u v:List UInt8) (a:lit true (s== [])=true):CO 164 [.str s,.str QU] (.ret (.str s)):=pK [] 2 3 (.k 1 a .nil) (.nil)
theorem abl (s u v:List UInt8) (c:lit false (s== [])=true) (a:CO 193 [.str QU] (.ret (.tup [.agg H7,.bool true]))) (d:CO 197 [.str s,.pp H7 0] (.ret (.str u))) (b:CO 194 [.str u,.pp H7 0] (.ret (.str v))):CO 164 [.str s,.str QU] (.ret (.str v)):=pK [] 5 16 (.k 5 c .nil) (.c b (.c d (.c a .nil)))
theorem Zn (s v:List UInt8) (a:lit true (s== [])=true):CO 122 [.str s] (.ret (.bool false)):=pK [] 4 15 (.k 3 a .nil) (.nil)
theorem Zo (s v:List UInt8) (b:lit true (decide (((20:Nat):Int)<(((η s):Nat):Int)))=true) (a:lit false (s== [])=true):CO 122 [.str s] (.ret (.bool false)):=pK [] 4 14 (.k 2 b (.c a .nil)) (.nil)
theorem Zp (s v:List UInt8) (c:lit true (decide (((Ξ (Xql s 0 0):Nat):Int)<((97:Nat):Int)))=true) (a:(decide (((0:Nat):Int)<(((η s):Nat):Int)))=true) (d:lit false (decide (((20:Nat):Int)<(((η s):Nat):Int)))=true) (b:lit false (s== [])=true):CO 122 [.str s] (.ret (.bool false)):=pK [] 4 12 (.k 1 c (.k 1 a (.c d (.c b .nil)))) (.nil)
theorem Zq (s v:List UInt8) (c:lit true (decide (((122:Nat):Int)<((Ξ (Xql s 0 0):Nat):Int)))=true) (a:(decide (((0:Nat):Int)<(((η s):Nat):Int)))=true) (e:lit false (decide (((Ξ (Xql s 0 0):Nat):Int)<((97:Nat):Int)))=true) (b:lit false (decide (((20:Nat):Int)<(((η s):Nat):Int)))=true) (d:lit false (s== [])=true):CO 122 [.str s] (.ret (.bool false)):=pK [] 4 8 (.c c (.k 1 a (.c e (.k 1 a (.c b (.c d .nil)))))) (.nil)
theorem Zr (s v:List UInt8) (d:lit false (decide (((122:Nat):Int)<((Ξ (Xql s 0 0):Nat):Int)))=true) (a:(decide (((0:Nat):Int)<(((η s):Nat):Int)))=true) (f:lit false (decide (((Ξ (Xql s 0 0):Nat):Int)<((97:Nat):Int)))=true) (b:lit false (decide (((20:Nat):Int)<(((η s):Nat):Int)))=true) (e:lit false (s== [])=true) (c:CO 164 [.str s,.str QU] (.ret (.str v))):CO 122 [.str s] (.ret (.bool (v== []))):=pK [] 4 0 (.c d (.k 1 a (.c f (.k 1 a (.c b (.c e .nil)))))) (.c c .nil)
theorem ajJ {nt:Nat} (b:50≤nt) (s:List UInt8) (k:Nat) (e:lit true (!(((Ξ (Xql s (δ (k:Int)) 0):Nat):Int)==((95:Nat):Int)))=true) (a:lit true (decide (((Ξ (Xql s (δ (k:Int)) 0):Nat):Int)<((48:Nat):Int)))=true) (g:lit true (decide (((Ξ (Xql s (δ (k:Int)) 0):Nat):Int)<((97:Nat):Int)))=true) (c:(decide (((0:Nat):Int)≤(k:Int)))=true) (f:(decide ((k:Int)<(((η s):Nat):Int)))=true) (d:lit true (decide ((k:Int)<(((η s):Nat):Int)))=true):ψ nt f84 ⟨[(0,.str s),(3,ω (k:Int))],[],.dead,[]⟩ (.ret) ⟨[(2,.bool false)],[],.dead,[]⟩:=pJ 84 [] 6 63 (.c e (.k 1 a (.k 1 g (.c c (.c f (.c d .nil)))))) (.nil) b
theorem ajK {nt:Nat} (b:50≤nt) (s:List UInt8) (k:Nat) (e:lit false (!(((Ξ (Xql s (δ (k:Int)) 0):Nat):Int)==((95:Nat):Int)))=true) (a:lit true (decide (((Ξ (Xql s (δ (k:Int)) 0):Nat):Int)<((48:Nat):Int)))=true) (g:lit true (decide (((Ξ (Xql s (δ (k:Int)) 0):Nat):Int)<((97:Nat):Int)))=true) (c:(decide (((0:Nat):Int)≤(k:Int)))=true) (f:(decide ((k:Int)<(((η s):Nat):Int)))=true) (d:lit true (decide ((k:Int)<(((η s):Nat):Int)))=true):ψ nt f84 ⟨[(0,.str s),(3,ω (k:Int))],[],.dead,[]⟩ (.normal) ⟨[(0,.str s),(3,ω (γ .i64 ((k:Int)+((1:Nat):Int))))],[],.dead,[]⟩:=pJ 84 [] 6 31 (.c e (.k 1 a (.k 1 g (.c c (.c f (.c d .nil)))))) (.nil) b
theorem ajL {nt:Nat} (b:50≤nt) (s:List UInt8) (k:Nat) (e:lit true (!(((Ξ (Xql s (δ (k:Int)) 0):Nat):Int)==((95:Nat):Int)))=true) (a:lit true (decide (((57:Nat):Int)<((Ξ (Xql s (δ (k:Int)) 0):Nat):Int)))=true) (g:lit false (decide (((Ξ (Xql s (δ (k:Int)) 0):Nat):Int)<((48:Nat):Int)))=true) (c:lit true (decide (((Ξ (Xql s (δ (k:Int)) 0):Nat):Int)<((97:Nat):Int)))=true) (f:(decide (((0:Nat):Int)≤(k:Int)))=true) (d:(decide ((k:Int)<(((η s):Nat):Int)))=true) (h:lit true (decide ((k:Int)<(((η s):Nat):Int)))=true):ψ nt f84 ⟨[(0,.str s),(3,ω (k:Int))],[],.dead,[]⟩ (.ret) ⟨[(2,.bool false)],[],.dead,[]⟩:=pJ 84 [] 6 55 (.c e (.c a (.c g (.k 1 c (.c f (.c d (.c h .nil))))))) (.nil) b
theorem ajM {nt:Nat} (b:50≤nt) (s:List UInt8) (k:Nat) (e:lit false (!(((Ξ (Xql s (δ (k:Int)) 0):Nat):Int)==((95:Nat):Int)))=true) (a:lit true (decide (((57:Nat):Int)<((Ξ (Xql s (δ (k:Int)) 0):Nat):Int)))=true) (g:lit false (decide (((Ξ (Xql s (δ (k:Int)) 0):Nat):Int)<((48:Nat):Int)))=true) (c:lit true (decide (((Ξ (Xql s (δ (k:Int)) 0):Nat):Int)<((97:Nat):Int)))=true) (f:(decide (((0:Nat):Int)≤(k:Int)))=true) (d:(decide ((k:Int)<(((η s):Nat):Int)))=true) (h:lit true (decide ((k:Int)<(((η s):Nat):Int)))=true):ψ nt f84 ⟨[(0,.str s),(3,ω (k:Int))],[],.dead,[]⟩ (.normal) ⟨[(0,.str s),(3,ω (γ .i64 ((k:Int)+((1:Nat):Int))))],[],.dead,[]⟩:=pJ 84 [] 6 23 (.c e (.c a (.c g (.k 1 c (.c f (.c d (.c h .nil))))))) (.nil) b
theorem ajN {nt:Nat} (b:50≤nt) (s:List UInt8) (k:Nat) (e:lit false (decide (((57:Nat):Int)<((Ξ (Xql s (δ (k:Int)) 0):Nat):Int)))=true) (a:lit false (decide (((Ξ (Xql s (δ (k:Int)) 0):Nat):Int)<((48:Nat):Int)))=true) (g:lit true (decide (((Ξ (Xql s (δ (k:Int)) 0):Nat):Int)<((97:Nat):Int)))=true) (c:(decide (((0:Nat):Int)≤(k:Int)))=true) (f:(decide ((k:Int)<(((η s):Nat):Int)))=true) (d:lit true (decide ((k:Int)<(((η s):Nat):Int)))=true):ψ nt f84 ⟨[(0,.str s),(3,ω (k:Int))],[],.dead,[]⟩ (.normal) ⟨[(0,.str s),(3,ω (γ .i64 ((k:Int)+((1:Nat):Int))))],[],.dead,[]⟩:=pJ 84 [] 6 7 (.k 1 e (.c a (.k 1 g (.c c (.c f (.c d .nil)))))) (.nil) b
theorem ajO {nt:Nat} (b:50≤nt) (s:List UInt8) (k:Nat) (e:lit true (!(((Ξ (Xql s (δ (k:Int)) 0):Nat):Int)==((95:Nat):Int)))=true) (a:lit true (decide (((Ξ (Xql s (δ (k:Int)) 0):Nat):Int)<((48:Nat):Int)))=true) (g:lit true (decide (((122:Nat):Int)<((Ξ (Xql s (δ (k:Int)) 0):Nat):Int)))=true) (c:lit false (decide (((Ξ (Xql s (δ (k:Int)) 0):Nat):Int)<((97:Nat):Int)))=true) (f:(decide (((0:Nat):Int)≤(k:Int)))=true) (d:(decide ((k:Int)<(((η s):Nat):Int)))=true) (h:lit true (decide ((k:Int)<(((η s):Nat):Int)))=true):ψ nt f84 ⟨[(0,.str s),(3,ω (k:Int))],[],.dead,[]⟩ (.ret) ⟨[(2,.bool false)],[],.dead,[]⟩:=pJ 84 [] 6 61 (.c e (.k 1 a (.c g (.c c (.c f (.c d (.c h .nil))))))) (.nil) b
theorem ajP {nt:Nat} (b:50≤nt) (s:List UInt8) (k:Nat) (e:lit false (!(((Ξ (Xql s (δ (k:Int)) 0):Nat):Int)==((95:Nat):Int)))=true) (a:lit true (decide (((Ξ (Xql s (δ (k:Int)) 0):Nat):Int)<((48:Nat):Int)))=true) (g:lit true (decide (((122:Nat):Int)<((Ξ (Xql s (δ (k:Int)) 0):Nat):Int)))=true) (c:lit false (decide (((Ξ (Xql s (δ (k:Int)) 0):Nat):Int)<((97:Nat):Int)))=true) (f:(decide (((0:Nat):Int)≤(k:Int)))=true) (d:(decide ((k:Int)<(((η s):Nat):Int)))=true) (h:lit true (decide ((k:Int)<(((η s):Nat):Int)))=true):ψ nt f84 ⟨[(0,.str s),(3,ω (k:Int))],[],.dead,[]⟩ (.normal) ⟨[(0,.str s),(3,ω (γ .i64 ((k:Int)+((1:Nat):Int))))],[],.dead,[]⟩:=pJ 84 [] 6 29 (.c e (.k 1 a (.c g (.c c (.c f (.c d (.c h .nil))))))) (.nil) b
theorem ajQ {nt:Nat} (b:50≤nt) (s:List UInt8) (k:Nat) (e:lit true (!(((Ξ (Xql s (δ (k:Int)) 0):Nat):Int)==((95:Nat):Int)))=true) (a:lit true (decide (((57:Nat):Int)<((Ξ (Xql s (δ (k:Int)) 0):Nat):Int)))=true) (g:lit false (decide (((Ξ (Xql s (δ (k:Int)) 0):Nat):Int)<((48:Nat):Int)))=true) (c:lit true (decide (((122:Nat):Int)<((Ξ (Xql s (δ (k:Int)) 0):Nat):Int)))=true) (f:lit false (decide (((Ξ (Xql s (δ (k:Int)) 0):Nat):Int)<((97:Nat):Int)))=true) (d:(decide (((0:Nat):Int)≤(k:Int)))=true) (h:(decide ((k:Int)<(((η s):Nat):Int)))=true) (i:lit true (decide ((k:Int)<(((η s):Nat):Int)))=true):ψ nt f84 ⟨[(0,.str s),(3,ω (k:Int))],[],.dead,[]⟩ (.ret) ⟨[(2,.bool false)],[],.dead,[]⟩:=pJ 84 [] 6 53 (.c e (.c a (.c g (.c c (.c f (.c d (.c h (.c i .nil)))))))) (.nil) b
theorem ajR {nt:Nat} (b:50≤nt) (s:List UInt8) (k:Nat) (e:lit false (!(((Ξ (Xql s (δ (k:Int)) 0):Nat):Int)==((95:Nat):Int)))=true) (a:lit true (decide (((57:Nat):Int)<((Ξ (Xql s (δ (k:Int)) 0):Nat):Int)))=true) (g:lit false (decide (((Ξ (Xql s (δ (k:Int)) 0):Nat):Int)<((48:Nat):Int)))=true) (c:lit true (decide (((122:Nat):Int)<((Ξ (Xql s (δ (k:Int)) 0):Nat):Int)))=true) (f:lit false (decide (((Ξ (Xql s (δ (k:Int)) 0):Nat):Int)<((97:Nat):Int)))=true) (d:(decide (((0:Nat):Int)≤(k:Int)))=true) (h:(decide ((k:Int)<(((η s):Nat):Int)))=true) (i:lit true (decide ((k:Int)<(((η s):Nat):Int)))=true):ψ nt f84 ⟨[(0,.str s),(3,ω (k:Int))],[],.dead,[]⟩ (.normal) ⟨[(0,.str s),(3,ω (γ .i64 ((k:Int)+((1:Nat):Int))))],[],.dead,[]⟩:=pJ 84 [] 6 21 (.c e (.c a (.c g (.c c (.c f (.c d (.c h (.c i .nil)))))))) (.nil) b
theorem ajS {nt:Nat} (b:50≤nt) (s:List UInt8) (k:Nat) (e:lit false (decide (((57:Nat):Int)<((Ξ (Xql s (δ (k:Int)) 0):Nat):Int)))=true) (a:lit false (decide (((Ξ (Xql s (δ (k:Int)) 0):Nat):Int)<((48:Nat):Int)))=true) (g:lit true (decide (((122:Nat):Int)<((Ξ (Xql s (δ (k:Int)) 0):Nat):Int)))=true) (c:lit false (decide (((Ξ (Xql s (δ (k:Int)) 0):Nat):Int)<((97:Nat):Int)))=true) (f:(decide (((0:Nat):Int)≤(k:Int)))=true) (d:(decide ((k:Int)<(((η s):Nat):Int)))=true) (h:lit true (decide ((k:Int)<(((η s):Nat):Int)))=true):ψ nt f84 ⟨[(0,.str s),(3,ω (k:Int))],[],.dead,[]⟩ (.normal) ⟨[(0,.str s),(3,ω (γ .i64 ((k:Int)+((1:Nat):Int))))],[],.dead,[]⟩:=pJ 84 [] 6 5 (.k 1 e (.c a (.c g (.c c (.c f (.c d (.c h .nil))))))) (.nil) b
theorem aeR {nt:Nat} (b:50≤nt) (s:List UInt8) (k:Nat) (d:lit false (decide (((122:Nat):Int)<((Ξ (Xql s (δ (k:Int)) 0):Nat):Int)))=true) (a:lit false (decide (((Ξ (Xql s (δ (k:Int)) 0):Nat):Int)<((97:Nat):Int)))=true) (f:(decide (((0:Nat):Int)≤(k:Int)))=true) (c:(decide ((k:Int)<(((η s):Nat):Int)))=true) (e:lit true (decide ((k:Int)<(((η s):Nat):Int)))=true):ψ nt f84 ⟨[(0,.str s),(3,ω (k:Int))],[],.dead,[]⟩ (.normal) ⟨[(0,.str s),(3,ω (γ .i64 ((k:Int)+((1:Nat):Int))))],[],.dead,[]⟩:=pJ 84 [] 5 1 (.k 2 d (.c a (.c f (.c c (.c e .nil))))) (.nil) b
theorem aeS {nt:Nat} (a:50≤nt) (s:List UInt8) (k:Nat) (b:lit false (decide ((k:Int)<(((η s):Nat):Int)))=true):ψ nt f84 ⟨[(0,.str s),(3,ω (k:Int))],[],.dead,[]⟩ (.exit 0) ⟨[],[],.dead,[]⟩:=pJ 84 [] 1 0 (.c b .nil) (.nil) a
theorem aeL (s:List UInt8) (a:lit true (decide ((((η s):Nat):Int)<((1:Nat):Int)))=true):CO 84 [.str s] (.ret (.bool false)):=pK [0] 4 15 (.k 3 a .nil) (.nil)
theorem aeM (s:List UInt8) (b:lit true (decide (((20:Nat):Int)<(((η s):Nat):Int)))=true) (a:lit false (decide ((((η s):Nat):Int)<((1:Nat):Int)))=true):CO 84 [.str s] (.ret (.bool false)):=pK [0] 4 14 (.k 2 b (.c a .nil)) (.nil)
theorem aeN (s:List UInt8) (c:lit true (decide (((Ξ (Xql s 0 0):Nat):Int)<((97:Nat):Int)))=true) (a:(decide (((0:Nat):Int)<(((η s):Nat):Int)))=true) (d:lit false (decide (((20:Nat):Int)<(((η s):Nat):Int)))=true) (b:lit false (decide ((((η s):Nat):Int)<((1:Nat):Int)))=true):CO 84 [.str s] (.ret (.bool false)):=pK [0] 4 12 (.k 1 c (.k 1 a (.c d (.c b .nil)))) (.nil)
theorem aeO (s:List UInt8) (c:lit true (decide (((122:Nat):Int)<((Ξ (Xql s 0 0):Nat):Int)))=true) (a:(decide (((0:Nat):Int)<(((η s):Nat):Int)))=true) (e:lit false (decide (((Ξ (Xql s 0 0):Nat):Int)<((97:Nat):Int)))=true) (b:lit false (decide (((20:Nat):Int)<(((η s):Nat):Int)))=true) (d:lit false (decide ((((η s):Nat):Int)<((1:Nat):Int)))=true):CO 84 [.str s] (.ret (.bool false)):=pK [0] 4 8 (.c c (.k 1 a (.c e (.k 1 a (.c b (.c d .nil)))))) (.nil)
theorem aeP (s:List UInt8) (d:lit false (decide (((122:Nat):Int)<((Ξ (Xql s 0 0):Nat):Int)))=true) (a:(decide (((0:Nat):Int)<(((η s):Nat):Int)))=true) (f:lit false (decide (((Ξ (Xql s 0 0):Nat):Int)<((97:Nat):Int)))=true) (c:lit false (decide (((20:Nat):Int)<(((η s):Nat):Int)))=true) (e:lit false (decide ((((η s):Nat):Int)<((1:Nat):Int)))=true) (b:aG prog ap [] 50 (.block 0 (.loop (af 0 (ah f84)))) ⟨[(0,.str s),(2,.bool false),(3,ω 0),(4,.dead),(22,.bool (decide (((122:Nat):Int)<((Ξ (Xql s 0 0):Nat):Int)))),(26,.dead),(49,.dead)],[],.dead,[]⟩ (.normal) ⟨[],[],.dead,[]⟩):CO 84 [.str s] (.ret (.bool true)):=pK [0] 4 0 (.c d (.k 1 a (.c f (.k 1 a (.c c (.c e .nil)))))) (.l b .nil)
theorem aeQ (s:List UInt8) (d:lit false (decide (((122:Nat):Int)<((Ξ (Xql s 0 0):Nat):Int)))=true) (a:(decide (((0:Nat):Int)<(((η s):Nat):Int)))=true) (f:lit false (decide (((Ξ (Xql s 0 0):Nat):Int)<((97:Nat):Int)))=true) (c:lit false (decide (((20:Nat):Int)<(((η s):Nat):Int)))=true) (e:lit false (decide ((((η s):Nat):Int)<((1:Nat):Int)))=true) (b:aG prog ap [] 50 (.block 0 (.loop (af 0 (ah f84)))) ⟨[(0,.str s),(2,.bool false),(3,ω 0),(4,.dead),(22,.bool (decide (((122:Nat):Int)<((Ξ (Xql s 0 0):Nat):Int)))),(26,.dead),(49,.dead)],[],.dead,[]⟩ (.ret) ⟨[(2,.bool false)],[],.dead,[]⟩):CO 84 [.str s] (.ret (.bool false)):=pK [0] 4 0 (.c d (.k 1 a (.c f (.k 1 a (.c c (.c e .nil)))))) (.l b .nil)
def uz (s:List UInt8):Bool:= !(s== []) && decide (s.length≤20) && decide (97≤(s.getD 0 0).toNat) && decide ((s.getD 0 0).toNat≤122) && s.all g_
theorem Ij {p:UInt8→Bool}:∀ {l:List UInt8},l.dropWhile p= []↔∀ x ∈ l,p x=true
 | []=>by simp
 |c::l=>by
  rw [Xxt];cases h:p c with
  |true=>simp [h,Ij (l:=l)]
  |false=>simp [h]
theorem Xu {s:List UInt8}:(Xp s).dropWhile g_= []↔s.all g_=true:=by
 unfold Xp;rw [Xza];constructor
 ·intro h;have c:∀ x ∈ (s.reverse.dropWhile g_),g_ x=true:=by
   intro x a;exact Ij.1 h x (by simpa using a)
  have f:s.reverse.dropWhile g_= []:=by
   cases hd:s.reverse.dropWhile g_ with
   |nil=>rfl
   | cons y r=>
    exfalso;have b:=c y (by rw [hd];simp);have e:∀ (l:List UInt8),l.dropWhile g_=y::r→g_ y=false:=by
     intro l
     induction l with
     |nil=>intro h;simp at h
     | cons z l ih=>
      intro h;rw [Xxt] at h;split at h
      ·exact ih h
      ·rename_i d;cases h;simpa using d
    rw [e _ hd] at b;cases b
  intro x a;exact Ij.1 f x (by simpa using a)
 ·intro h;have:s.reverse.dropWhile g_= []:=Ij.2 fun x a=>h x (by simpa using a)
  rw [this];rfl
theorem afz (s:List UInt8) (hs:s.length<2^40):CO 194 [.str s,.pp H7 0] (.ret (.str (s.dropWhile g_))):=
 akL s _ H7 (aA.blk (fun nt a=>abb a s hs) (by simp) rfl (aH.of ⟨rfl,rfl,trivial⟩) (aH.of ⟨rfl,trivial⟩))
theorem afA (s:List UInt8) (hs:s.length<2^40):CO 197 [.str s,.pp H7 0] (.ret (.str (Xp s))):=
 akO s _ H7 (aA.blk (fun nt a=>abj a _ s rfl hs) (by simp) rfl (aH.of ⟨rfl,rfl,trivial⟩) (aH.of ⟨rfl,trivial⟩))
theorem abh (s:List UInt8):(Xp s).length≤s.length:=by
 unfold Xp;rw [List.length_reverse];have:=(List.dropWhile_sublist g_ (l:=s.reverse)).length_le;simpa using this
theorem abm (s:List UInt8) (hs:s.length<2^40):CO 164 [.str s,.str QU] (.ret (.str ((Xp s).dropWhile g_))):=by
 by_cases h:s= []
 ·subst h;exact abk [] [] [] rfl
 ·have a:=abh s;exact abl s _ _ (by simp [lit,h]) acF (afA s hs) (afz _ (by omega))
theorem lM (s:List UInt8):CO 122 [.str s] (.ret (.bool (uz s))):=by
 unfold uz;by_cases h0:s= []
 ·subst h0;exact Zn [] [] rfl
 ·have a:(s== [])=false:=by simpa using h0
  have b:0<s.length:=by cases s with|nil=>exact absurd rfl h0|cons _ _=>simp
  rw [a];by_cases h1:s.length≤20
  ·have c:lit false (decide (((20:Nat):Int)<(s.length:Int)))=true:=by rw [aX];simp [lit,h1]
   have cl:decide (((0:Nat):Int)<(s.length:Int))=true:=by rw [aX];exact Yq0 b
   rw [Yq0 h1];by_cases h2:97≤(s.getD 0 0).toNat
   ·rw [Yq0 h2];have d:lit false (decide (((s.getD 0 0).toNat:Int)<((97:Nat):Int)))=true:=by rw [aX];simp only [lit,Xqo];exact Yq1 (by omega)
    by_cases h3:(s.getD 0 0).toNat≤122
    ·rw [Yq0 h3];have f:lit false (decide (((122:Nat):Int)<((s.getD 0 0).toNat:Int)))=true:=by rw [aX];simp only [lit,Xqo];exact Yq1 (by omega)
     have h:=Zr s _ f cl d c (by rw [a];rfl) (abm s (by omega));have e:((Xp s).dropWhile g_== [])=s.all g_:=by
      rw [Xxz,← Xu];simp
     rw [e] at h;exact h
    ·rw [Yq1 h3];exact Zq s [] (by rw [aX];exact Yq0 (by omega)) cl d c (by rw [a];rfl)
   ·rw [Yq1 h2];exact Zp s [] (by rw [aX];exact Yq0 (by omega)) cl c (by rw [a];rfl)
  ·rw [Yq1 h1];exact Zo s [] (by rw [aX];exact Yq0 (by omega)) (by rw [a];rfl)
def WI (s:List UInt8) (k:Nat):St:=⟨[(0,.str s),(3,ω (k:Int))],[],.dead,[]⟩
def WH:Bool→St
 |true=> ⟨[],[],.dead,[]⟩
 |false=> ⟨[(2,.bool false)],[],.dead,[]⟩
def rnE:Bool→bD
 |true=> .exit 0
 |false=> .ret
theorem WJ {nt:Nat} (b:50≤nt) (s:List UInt8) (k c:Nat) (x:k<s.length) (hs:s.length<2^40) (d:(s.getD k 0).toNat=c):
  (inN c=true→ψ nt f84 (WI s k) .normal (WI s (k+1)))∧(inN c=false→ψ nt f84 (WI s k) .ret (WH false)):=by
 have f:inN c=true↔((97≤c∧c≤122)∨(48≤c∧c≤57))∨c=95:=by unfold inN;simp
 unfold WI WH;have j:=ajJ b s k;simp (disch:=first|omega|(simp [au,ay]<;>omega)) only [aC,d,jC,bz,dJ,dW,aX,bf,dm] at j;have t:=ajK b s k;simp (disch:=first|omega|(simp [au,ay]<;>omega)) only [aC,d,jC,dC,dJ,EH,bf,aX,bz,dm,bJ,aS] at t;have q:=ajL b s k;simp (disch:=first|omega|(simp [au,ay]<;>omega)) only [aC,d,jC,bz,dJ,dW,aX,bf,dC,dm] at q;have o:=ajM b s k;simp (disch:=first|omega|(simp [au,ay]<;>omega)) only [aC,d,jC,dC,dJ,EH,bf,aX,bz,dW,dm,bJ,aS] at o;have l:=ajN b s k;simp (disch:=first|omega|(simp [au,ay]<;>omega)) only [aC,d,aX,dC,dJ,dW,bz,bf,dm,bJ,aS] at l;have r:=ajO b s k;simp (disch:=first|omega|(simp [au,ay]<;>omega)) only [aC,d,jC,bz,dJ,dW,aX,bf,dC,dm] at r;have i:=ajP b s k;simp (disch:=first|omega|(simp [au,ay]<;>omega)) only [aC,d,jC,dC,dJ,EH,bf,aX,bz,dW,dm,bJ,aS] at i;have p:=ajQ b s k;simp (disch:=first|omega|(simp [au,ay]<;>omega)) only [aC,d,jC,bz,dJ,dW,aX,bf,dC,dm] at p;have n:=ajR b s k;simp (disch:=first|omega|(simp [au,ay]<;>omega)) only [aC,d,jC,dC,dJ,EH,bf,aX,bz,dW,dm,bJ,aS] at n;have m:=ajS b s k;simp (disch:=first|omega|(simp [au,ay]<;>omega)) only [aC,d,aX,dC,dJ,dW,bz,bf,dm,bJ,aS] at m;have e:=aeR b s k;simp (disch:=first|omega|(simp [au,ay]<;>omega)) only [aC,d,aX,dC,dJ,dW,dm,bf,bz,bJ,aS] at e;constructor
 ·intro g;have a:=f.1 g;by_cases h1:c<97<;>by_cases h2:122<c<;>by_cases h3:c<48<;>by_cases h4:57<c<;>by_cases h5:c=95<;>first
   |(exfalso;omega)
   |(apply t<;>omega)
   |(apply o<;>omega)
   |(apply l<;>omega)
   |(apply i<;>omega)
   |(apply n<;>omega)
   |(apply m<;>omega)
   |(apply e<;>omega)
 ·intro g;have a:¬ (((97≤c∧c≤122)∨(48≤c∧c≤57))∨c=95):=by rw [← f,g];simp
  have u:c ≠ 95:=fun h=>a (.inr h)
  have w:c<97∨122<c:=by
   rcases Xq5 c 97 with h|h
   ·exact .inl h
   ·rcases Xq5 122 c with h'|h'
    ·exact .inr h'
    ·exact absurd (.inl (.inl ⟨h,h'⟩)) a
  have v:c<48∨57<c:=by
   rcases Xq5 c 48 with h|h
   ·exact .inl h
   ·rcases Xq5 57 c with h'|h'
    ·exact .inr h'
    ·exact absurd (.inl (.inr ⟨h,h'⟩)) a
  clear a;by_cases h1:c<97<;>by_cases h2:122<c<;>by_cases h3:c<48<;>by_cases h4:57<c<;>by_cases h5:c=95<;>first
   |(exfalso;omega)
   |(apply j<;>omega)
   |(apply q<;>omega)
   |(apply r<;>omega)
   |(apply p<;>omega)
theorem aap {nt:Nat} (b:50≤nt) (s:List UInt8) (hs:s.length<2^40):∀ (r p:List UInt8),p++r=s→aA prog ap [] nt (af 0 (ah f84)) rnE (WI s) WH p.length (r.all g_):=by
 intro r
 induction r with
 |nil=>
  intro p h;have hp:p.length=s.length:=by rw [← h];simp
  rw [hp];exact .done (aeS b s _ (by rw [aX];simp [lit]))
 | cons c r ih=>
  intro p h;have i:p.length+(r.length+1)=s.length:=by rw [← h];simp
  have g:s.getD p.length 0=c:=by rw [← h];exact QB rfl
  obtain ⟨d,f⟩:=WJ b s p.length c.toNat (by omega) hs (by rw [g]);rw [List.all_cons];have e:g_ c=inN c.toNat:=rfl;cases a:g_ c with
  |true=>
   have hnext:=ih (p++ [c]) (by simp [h]);rw [θ,σ] at hnext;rw [Bool.true_and];exact .next (d (e ▸ a)) hnext
  |false=>exact .done (f (e ▸ a))
theorem WL (s:List UInt8):CO 84 [.str s] (.ret (.bool (uz s))):=by
 unfold uz;by_cases h0:s= []
 ·subst h0;exact aeL [] rfl
 ·have e:(s== [])=false:=by simpa using h0
  have c:0<s.length:=by cases s with|nil=>exact absurd rfl h0|cons _ _=>simp
  have a:lit false (decide ((s.length:Int)<((1:Nat):Int)))=true:=by rw [aX];simp only [lit,Xqo];exact Yq1 (by omega)
  rw [e];by_cases h1:s.length≤20
  ·have b:lit false (decide (((20:Nat):Int)<(s.length:Int)))=true:=by rw [aX];simp [lit,h1]
   have cl:decide (((0:Nat):Int)<(s.length:Int))=true:=by rw [aX];exact Yq0 c
   rw [Yq0 h1];by_cases h2:97≤(s.getD 0 0).toNat
   ·rw [Yq0 h2];have d:lit false (decide (((s.getD 0 0).toNat:Int)<((97:Nat):Int)))=true:=by rw [aX];simp only [lit,Xqo];exact Yq1 (by omega)
    by_cases h3:(s.getD 0 0).toNat≤122
    ·rw [Yq0 h3];have f:lit false (decide (((122:Nat):Int)<((s.getD 0 0).toNat:Int)))=true:=by rw [aX];simp only [lit,Xqo];exact Yq1 (by omega)
     have hloop:=fun nt (hn:50≤nt)=>aap hn s (by omega) s [] rfl
     cases g:s.all g_ with
     |true=>
      rw [g] at hloop;have h:=aeP s f cl d b a;exact h (aA.blk hloop (by simp [rnE]) rfl (aH.of ⟨rfl,rfl,trivial⟩) (aH.of trivial))
     |false=>
      rw [g] at hloop;have h:=aeQ s f cl d b a;exact h (aA.blk hloop (by simp [rnE]) rfl (aH.of ⟨rfl,rfl,trivial⟩) (aH.of ⟨rfl,trivial⟩))
    ·rw [Yq1 h3];exact aeO s (by rw [aX];exact Yq0 (by omega)) cl d b a
   ·rw [Yq1 h2];exact aeN s (by rw [aX];exact Yq0 (by omega)) cl b a
  ·rw [Yq1 h1];exact aeM s (by rw [aX];exact Yq0 (by omega)) a
def jI:List AV:= [.str [],ω 0,.bool false,.bool false,.bool false,.str [36],ω 0,.bool true,.bool false,.bool false,.str [],ω 0,.bool true,.bool false,.bool false,.str [],ω 0,.bool true,.bool false,.bool false,.str [],ω 0,.bool true,.bool false,.bool false,.str [102,97,99,116,46],ω 0,.bool false,.bool true,.bool false,.str [111,119,110,46],ω 0,.bool false,.bool true,.bool false,.str [112,114,105,111,114,46],ω 0,.bool false,.bool true,.bool false,.str [115,112,111,117,115,101,46],ω 0,.bool false,.bool true,.bool false,.str [97,100,100],ω 2,.bool false,.bool false,.bool false,.str [115,117,98],ω 2,.bool false,.bool false,.bool false,.str [109,117,108],ω 2,.bool false,.bool false,.bool false,.str [100,105,118],ω 2,.bool false,.bool false,.bool false,.str [109,105,110],ω 2,.bool false,.bool false,.bool false,.str [109,97,120],ω 2,.bool false,.bool false,.bool false,.str [105,102],ω 3,.bool false,.bool false,.bool false,.str [108,101,115,115],ω 2,.bool false,.bool false,.bool false,.str [101,113,117,97,108],ω 2,.bool false,.bool false,.bool false,.str [97,110,100],ω 2,.bool false,.bool false,.bool false,.str [111,114],ω 2,.bool false,.bool false,.bool false,.str [110,111,116],ω 1,.bool false,.bool false,.bool false,.str [100,111,119,110],ω 1,.bool false,.bool false,.bool true,.str [117,112],ω 1,.bool false,.bool false,.bool true,.str [110,101,97,114],ω 1,.bool false,.bool false,.bool true,.str [114,97,116,101,46],ω 1,.bool false,.bool true,.bool false]
theorem ah5 (a:Int) (b:lit true (decide (a<((1:Nat):Int)))=true):CO 120 [ω a] (.ret (.tup [.agg zcc2_0,.bool false])):=pK [] 2 3 (.k 7 b .nil) (.nil)
theorem ah6 (a:Int) (b:lit true (decide (((24:Nat):Int)<a))=true) (c:lit false (decide (a<((1:Nat):Int)))=true):CO 120 [ω a] (.ret (.tup [.agg zcc2_0,.bool false])):=pK [] 2 2 (.k 6 b (.c c .nil)) (.nil)
theorem ah7 (a:Int) (e:(chk .str (ζ (ε (0+((δ a)*5)) jI) .dead))=true) (b:(chk (.int .i64) (ζ (Xjr (ε (0+((δ a)*5)) jI)) .dead))=true) (g:(chk .bool (ζ (Xjr (Xjr (ε (0+((δ a)*5)) jI))) .dead))=true) (c:(chk .bool (ζ (Xjr (Xjr (Xjr (ε (0+((δ a)*5)) jI)))) .dead))=true) (f:(chk .bool (ζ (Xjr (Xjr (Xjr (Xjr (ε (0+((δ a)*5)) jI))))) .dead))=true) (d:(decide (((0:Nat):Int)≤a))=true) (h:(decide (a<((25:Nat):Int)))=true) (i:lit false (decide (((24:Nat):Int)<a))=true) (j:lit false (decide (a<((1:Nat):Int)))=true):CO 120 [ω a] (.ret (.tup [.agg [.str (AV.toStr (ζ (ε (0+((δ a)*5)) jI) .dead)),ω (τ (ζ (Xjr (ε (0+((δ a)*5)) jI)) .dead)),.bool (Xka (ζ (Xjr (Xjr (ε (0+((δ a)*5)) jI))) .dead)),.bool (Xka (ζ (Xjr (Xjr (Xjr (ε (0+((δ a)*5)) jI)))) .dead)),.bool (Xka (ζ (Xjr (Xjr (Xjr (Xjr (ε (0+((δ a)*5)) jI))))) .dead))],.bool true])):=pK [] 2 0 (.k 6 e (.c b (.c g (.c c (.c f (.c d (.c h (.c i (.c j .nil))))))))) (.nil)
theorem acs (a:Int) (b:lit true (a==((15:Nat):Int))=true):CO 85 [ω a] (.ret (ω 3)):=pK [] 1 1 (.c b .nil) (.nil)
theorem acu (a:Int) (b:lit true (decide (a≤((14:Nat):Int)))=true) (c:lit true (decide (((9:Nat):Int)≤a))=true) (d:lit false (a==((15:Nat):Int))=true):CO 85 [ω a] (.ret (ω 2)):=pK [] 4 14 (.k 1 b (.c c (.c d .nil))) (.nil)
theorem acv (a:Int) (d:lit true (decide (a≤((19:Nat):Int)))=true) (b:lit true (decide (((16:Nat):Int)≤a))=true) (f:lit false (decide (a≤((14:Nat):Int)))=true) (c:lit true (decide (((9:Nat):Int)≤a))=true) (e:lit false (a==((15:Nat):Int))=true):CO 85 [ω a] (.ret (ω 2)):=pK [] 5 26 (.c d (.c b (.c f (.c c (.c e .nil))))) (.nil)
theorem acw (a:Int) (e:lit true (decide (a≤((24:Nat):Int)))=true) (b:lit true (decide (((20:Nat):Int)≤a))=true) (g:lit false (decide (a≤((19:Nat):Int)))=true) (c:lit true (decide (((16:Nat):Int)≤a))=true) (f:lit false (decide (a≤((14:Nat):Int)))=true) (d:lit true (decide (((9:Nat):Int)≤a))=true) (h:lit false (a==((15:Nat):Int))=true):CO 85 [ω a] (.ret (ω 1)):=pK [] 7 106 (.c e (.c b (.c g (.c c (.c f (.c d (.c h .nil))))))) (.nil)
theorem acx (a:Int) (e:lit false (decide (a≤((24:Nat):Int)))=true) (b:lit true (decide (((20:Nat):Int)≤a))=true) (g:lit false (decide (a≤((19:Nat):Int)))=true) (c:lit true (decide (((16:Nat):Int)≤a))=true) (f:lit false (decide (a≤((14:Nat):Int)))=true) (d:lit true (decide (((9:Nat):Int)≤a))=true) (h:lit false (a==((15:Nat):Int))=true):CO 85 [ω a] (.ret (ω 0)):=pK [] 7 42 (.c e (.c b (.c g (.c c (.c f (.c d (.c h .nil))))))) (.nil)
theorem acy (a:Int) (e:lit false (decide (((20:Nat):Int)≤a))=true) (b:lit false (decide (a≤((19:Nat):Int)))=true) (g:lit true (decide (((16:Nat):Int)≤a))=true) (c:lit false (decide (a≤((14:Nat):Int)))=true) (f:lit true (decide (((9:Nat):Int)≤a))=true) (d:lit false (a==((15:Nat):Int))=true):CO 85 [ω a] (.ret (ω 0)):=pK [] 7 10 (.k 1 e (.c b (.c g (.c c (.c f (.c d .nil)))))) (.nil)
theorem acz (a:Int) (e:lit true (decide (a≤((24:Nat):Int)))=true) (b:lit true (decide (((20:Nat):Int)≤a))=true) (g:lit false (decide (((16:Nat):Int)≤a))=true) (c:lit false (decide (a≤((14:Nat):Int)))=true) (f:lit true (decide (((9:Nat):Int)≤a))=true) (d:lit false (a==((15:Nat):Int))=true):CO 85 [ω a] (.ret (ω 1)):=pK [] 7 98 (.c e (.c b (.k 1 g (.c c (.c f (.c d .nil)))))) (.nil)
theorem acA (a:Int) (e:lit false (decide (a≤((24:Nat):Int)))=true) (b:lit true (decide (((20:Nat):Int)≤a))=true) (g:lit false (decide (((16:Nat):Int)≤a))=true) (c:lit false (decide (a≤((14:Nat):Int)))=true) (f:lit true (decide (((9:Nat):Int)≤a))=true) (d:lit false (a==((15:Nat):Int))=true):CO 85 [ω a] (.ret (ω 0)):=pK [] 7 34 (.c e (.c b (.k 1 g (.c c (.c f (.c d .nil)))))) (.nil)
theorem acB (a:Int) (d:lit false (decide (((20:Nat):Int)≤a))=true) (b:lit false (decide (((16:Nat):Int)≤a))=true) (f:lit false (decide (a≤((14:Nat):Int)))=true) (c:lit true (decide (((9:Nat):Int)≤a))=true) (e:lit false (a==((15:Nat):Int))=true):CO 85 [ω a] (.ret (ω 0)):=pK [] 7 2 (.k 1 d (.k 1 b (.c f (.c c (.c e .nil))))) (.nil)
theorem acC (a:Int) (d:lit true (decide (a≤((19:Nat):Int)))=true) (b:lit true (decide (((16:Nat):Int)≤a))=true) (e:lit false (decide (((9:Nat):Int)≤a))=true) (c:lit false (a==((15:Nat):Int))=true):CO 85 [ω a] (.ret (ω 2)):=pK [] 5 24 (.c d (.c b (.k 1 e (.c c .nil)))) (.nil)
theorem XX (a:Int) (e:lit true (decide (a≤((24:Nat):Int)))=true) (b:lit true (decide (((20:Nat):Int)≤a))=true) (g:lit false (decide (a≤((19:Nat):Int)))=true) (c:lit true (decide (((16:Nat):Int)≤a))=true) (f:lit false (decide (((9:Nat):Int)≤a))=true) (d:lit false (a==((15:Nat):Int))=true):CO 85 [ω a] (.ret (ω 1)):=pK [] 7 104 (.c e (.c b (.c g (.c c (.k 1 f (.c d .nil)))))) (.nil)
theorem XY (a:Int) (e:lit false (decide (a≤((24:Nat):Int)))=true) (b:lit true (decide (((20:Nat):Int)≤a))=true) (g:lit false (decide (a≤((19:Nat):Int)))=true) (c:lit true (decide (((16:Nat):Int)≤a))=true) (f:lit false (decide (((9:Nat):Int)≤a))=true) (d:lit false (a==((15:Nat):Int))=true):CO 85 [ω a] (.ret (ω 0)):=pK [] 7 40 (.c e (.c b (.c g (.c c (.k 1 f (.c d .nil)))))) (.nil)
theorem XZ (a:Int) (d:lit false (decide (((20:Nat):Int)≤a))=true) (b:lit false (decide (a≤((19:Nat):Int)))=true) (f:lit true (decide (((16:Nat):Int)≤a))=true) (c:lit false (decide (((9:Nat):Int)≤a))=true) (e:lit false (a==((15:Nat):Int))=true):CO 85 [ω a] (.ret (ω 0)):=pK [] 7 8 (.k 1 d (.c b (.c f (.k 1 c (.c e .nil))))) (.nil)
theorem X0 (a:Int) (d:lit true (decide (a≤((24:Nat):Int)))=true) (b:lit true (decide (((20:Nat):Int)≤a))=true) (f:lit false (decide (((16:Nat):Int)≤a))=true) (c:lit false (decide (((9:Nat):Int)≤a))=true) (e:lit false (a==((15:Nat):Int))=true):CO 85 [ω a] (.ret (ω 1)):=pK [] 7 96 (.c d (.c b (.k 1 f (.k 1 c (.c e .nil))))) (.nil)
theorem X3 (a:Int) (d:lit false (decide (a≤((24:Nat):Int)))=true) (b:lit true (decide (((20:Nat):Int)≤a))=true) (f:lit false (decide (((16:Nat):Int)≤a))=true) (c:lit false (decide (((9:Nat):Int)≤a))=true) (e:lit false (a==((15:Nat):Int))=true):CO 85 [ω a] (.ret (ω 0)):=pK [] 7 32 (.c d (.c b (.k 1 f (.k 1 c (.c e .nil))))) (.nil)
theorem X4 (a:Int) (d:lit false (decide (((20:Nat):Int)≤a))=true) (b:lit false (decide (((16:Nat):Int)≤a))=true) (e:lit false (decide (((9:Nat):Int)≤a))=true) (c:lit false (a==((15:Nat):Int))=true):CO 85 [ω a] (.ret (ω 0)):=pK [] 7 0 (.k 1 d (.k 1 b (.k 1 e (.c c .nil)))) (.nil)
theorem ad9 (a:Int) (b:lit true (decide (a≤((8:Nat):Int)))=true) (c:lit true (decide (((5:Nat):Int)≤a))=true):CO 82 [ω a] (.ret (.bool true)):=pK [] 2 3 (.c b (.c c .nil)) (.nil)
theorem ad_ (a:Int) (b:lit false (decide (a≤((8:Nat):Int)))=true) (c:lit true (decide (((5:Nat):Int)≤a))=true):CO 82 [ω a] (.ret (.bool (a==((24:Nat):Int)))):=pK [] 2 1 (.c b (.c c .nil)) (.nil)
theorem aea (a:Int) (b:lit false (decide (((5:Nat):Int)≤a))=true):CO 82 [ω a] (.ret (.bool (a==((24:Nat):Int)))):=pK [] 2 0 (.k 1 b .nil) (.nil)
theorem ad1 (a:Int) (b:lit true (decide (((1:Nat):Int)≤a))=true):CO 139 [ω a] (.ret (.bool (decide (a≤((4:Nat):Int))))):=pK [] 1 1 (.c b .nil) (.nil)
theorem ad2 (a:Int) (b:lit false (decide (((1:Nat):Int)≤a))=true):CO 139 [ω a] (.ret (.bool false)):=pK [] 1 0 (.c b .nil) (.nil)
theorem afn (a:Int) (b:lit true (decide (((21:Nat):Int)≤a))=true):CO 140 [ω a] (.ret (.bool (decide (a≤((23:Nat):Int))))):=pK [] 1 1 (.c b .nil) (.nil)
theorem afo (a:Int) (b:lit false (decide (((21:Nat):Int)≤a))=true):CO 140 [ω a] (.ret (.bool false)):=pK [] 1 0 (.c b .nil) (.nil)
def dP (op:Int):Nat:=if op=15 then 3 else if (9≤op∧op≤14)∨(16≤op∧op≤19) then 2 else if 20≤op∧op≤24 then 1 else 0
def iJ (op:Int):Bool:=decide ((5≤op∧op≤8)∨op=24)
def zG (op:Int):Bool:=decide (1≤op∧op≤4)
def Am (op:Int):Bool:=decide (21≤op∧op≤23)
def XC (op:Int):List UInt8:=AV.toStr (ζ (ε (0+((δ op)*5)) jI) .dead)
theorem X5 (a:Int):CO 85 [ω a] (.ret (ω ((dP a:Nat):Int))):=by
 cases d:(a==((15:Nat):Int)) with
 | true=>
  have h:=acs a (by rw [d];rfl);have e:dP a=3:=by
   clear h;simp only [decide_eq_true_eq,decide_eq_false_iff_not,beq_iff_eq,Yq2] at*
   unfold dP;(repeat' split)<;>omega
  rw [e];exact h
 | false =>
  cases g:(decide (((9:Nat):Int)≤a)) with
  | true =>
   cases b:(decide (a≤((14:Nat):Int))) with
   | true=>
    have h:=acu a (by rw [b];rfl) (by rw [g];rfl) (by rw [d];rfl);have e:dP a=2:=by
     clear h;simp only [decide_eq_true_eq,decide_eq_false_iff_not,beq_iff_eq,Yq2] at*
     unfold dP;(repeat' split)<;>omega
    rw [e];exact h
   | false=>
    cases c:(decide (((16:Nat):Int)≤a)) with
    | true=>
     cases f:(decide (a≤((19:Nat):Int))) with
     | true=>
      have h:=acv a (by rw [f];rfl) (by rw [c];rfl) (by rw [b];rfl) (by rw [g];rfl) (by rw [d];rfl);have e:dP a=2:=by
       clear h;simp only [decide_eq_true_eq,decide_eq_false_iff_not,beq_iff_eq,Yq2] at*
       unfold dP;(repeat' split)<;>omega
      rw [e];exact h
     | false=>
      cases i:(decide (((20:Nat):Int)≤a)) with
      | true=>
       cases j:(decide (a≤((24:Nat):Int))) with
       | true=>
        have h:=acw a (by rw [j];rfl) (by rw [i];rfl) (by rw [f];rfl) (by rw [c];rfl) (by rw [b];rfl) (by rw [g];rfl) (by rw [d];rfl);have e:dP a=1:=by
         clear h;simp only [decide_eq_true_eq,decide_eq_false_iff_not,beq_iff_eq,Yq2] at*
         unfold dP;(repeat' split)<;>omega
        rw [e];exact h
       | false=>
        have h:=acx a (by rw [j];rfl) (by rw [i];rfl) (by rw [f];rfl) (by rw [c];rfl) (by rw [b];rfl) (by rw [g];rfl) (by rw [d];rfl);have e:dP a=0:=by
         clear h;simp only [decide_eq_true_eq,decide_eq_false_iff_not,beq_iff_eq,Yq2] at*
         unfold dP;(repeat' split)<;>omega
        rw [e];exact h
      | false=>
       have h:=acy a (by rw [i];rfl) (by rw [f];rfl) (by rw [c];rfl) (by rw [b];rfl) (by rw [g];rfl) (by rw [d];rfl);have e:dP a=0:=by
        clear h;simp only [decide_eq_true_eq,decide_eq_false_iff_not,beq_iff_eq,Yq2] at*
        unfold dP;(repeat' split)<;>omega
       rw [e];exact h
    | false=>
     cases f:(decide (((20:Nat):Int)≤a)) with
     | true=>
      cases i:(decide (a≤((24:Nat):Int))) with
      | true=>
       have h:=acz a (by rw [i];rfl) (by rw [f];rfl) (by rw [c];rfl) (by rw [b];rfl) (by rw [g];rfl) (by rw [d];rfl);have e:dP a=1:=by
        clear h;simp only [decide_eq_true_eq,decide_eq_false_iff_not,beq_iff_eq,Yq2] at*
        unfold dP;(repeat' split)<;>omega
       rw [e];exact h
      | false=>
       have h:=acA a (by rw [i];rfl) (by rw [f];rfl) (by rw [c];rfl) (by rw [b];rfl) (by rw [g];rfl) (by rw [d];rfl);have e:dP a=0:=by
        clear h;simp only [decide_eq_true_eq,decide_eq_false_iff_not,beq_iff_eq,Yq2] at*
        unfold dP;(repeat' split)<;>omega
       rw [e];exact h
     | false=>
      have h:=acB a (by rw [f];rfl) (by rw [c];rfl) (by rw [b];rfl) (by rw [g];rfl) (by rw [d];rfl);have e:dP a=0:=by
       clear h;simp only [decide_eq_true_eq,decide_eq_false_iff_not,beq_iff_eq,Yq2] at*
       unfold dP;(repeat' split)<;>omega
      rw [e];exact h
  | false=>
   cases b:(decide (((16:Nat):Int)≤a)) with
   | true=>
    cases c:(decide (a≤((19:Nat):Int))) with
    | true=>
     have h:=acC a (by rw [c];rfl) (by rw [b];rfl) (by rw [g];rfl) (by rw [d];rfl);have e:dP a=2:=by
      clear h;simp only [decide_eq_true_eq,decide_eq_false_iff_not,beq_iff_eq,Yq2] at*
      unfold dP;(repeat' split)<;>omega
     rw [e];exact h
    | false=>
     cases f:(decide (((20:Nat):Int)≤a)) with
     | true=>
      cases i:(decide (a≤((24:Nat):Int))) with
      | true=>
       have h:=XX a (by rw [i];rfl) (by rw [f];rfl) (by rw [c];rfl) (by rw [b];rfl) (by rw [g];rfl) (by rw [d];rfl);have e:dP a=1:=by
        clear h;simp only [decide_eq_true_eq,decide_eq_false_iff_not,beq_iff_eq,Yq2] at*
        unfold dP;(repeat' split)<;>omega
       rw [e];exact h
      | false=>
       have h:=XY a (by rw [i];rfl) (by rw [f];rfl) (by rw [c];rfl) (by rw [b];rfl) (by rw [g];rfl) (by rw [d];rfl);have e:dP a=0:=by
        clear h;simp only [decide_eq_true_eq,decide_eq_false_iff_not,beq_iff_eq,Yq2] at*
        unfold dP;(repeat' split)<;>omega
       rw [e];exact h
     | false=>
      have h:=XZ a (by rw [f];rfl) (by rw [c];rfl) (by rw [b];rfl) (by rw [g];rfl) (by rw [d];rfl);have e:dP a=0:=by
       clear h;simp only [decide_eq_true_eq,decide_eq_false_iff_not,beq_iff_eq,Yq2] at*
       unfold dP;(repeat' split)<;>omega
      rw [e];exact h
   | false=>
    cases c:(decide (((20:Nat):Int)≤a)) with
    | true=>
     cases f:(decide (a≤((24:Nat):Int))) with
     | true=>
      have h:=X0 a (by rw [f];rfl) (by rw [c];rfl) (by rw [b];rfl) (by rw [g];rfl) (by rw [d];rfl);have e:dP a=1:=by
       clear h;simp only [decide_eq_true_eq,decide_eq_false_iff_not,beq_iff_eq,Yq2] at*
       unfold dP;(repeat' split)<;>omega
      rw [e];exact h
     | false=>
      have h:=X3 a (by rw [f];rfl) (by rw [c];rfl) (by rw [b];rfl) (by rw [g];rfl) (by rw [d];rfl);have e:dP a=0:=by
       clear h;simp only [decide_eq_true_eq,decide_eq_false_iff_not,beq_iff_eq,Yq2] at*
       unfold dP;(repeat' split)<;>omega
      rw [e];exact h
    | false=>
     have h:=X4 a (by rw [c];rfl) (by rw [b];rfl) (by rw [g];rfl) (by rw [d];rfl);have e:dP a=0:=by
      clear h;simp only [decide_eq_true_eq,decide_eq_false_iff_not,beq_iff_eq,Yq2] at*
      unfold dP;(repeat' split)<;>omega
     rw [e];exact h
theorem Zm (a:Int):CO 82 [ω a] (.ret (.bool (iJ a))):=by
 cases b:(decide (((5:Nat):Int)≤a)) with
 | true=>
  cases c:(decide (a≤((8:Nat):Int))) with
  | true=>
   have h:=ad9 a (by rw [c];rfl) (by rw [b];rfl);have e:iJ a=true:=by
    clear h;simp only [decide_eq_true_eq,decide_eq_false_iff_not,beq_iff_eq,Yq2] at*
    unfold iJ;first|(rw [decide_eq_true_eq];omega)|(rw [Xxz];simp only [decide_eq_true_eq,beq_iff_eq];omega)
   rw [e];exact h
  | false=>
   have h:=ad_ a (by rw [c];rfl) (by rw [b];rfl);have e:iJ a=(a==((24:Nat):Int)):=by
    clear h;simp only [decide_eq_true_eq,decide_eq_false_iff_not,beq_iff_eq,Yq2] at*
    unfold iJ;first|(rw [decide_eq_true_eq];omega)|(rw [Xxz];simp only [decide_eq_true_eq,beq_iff_eq];omega)
   rw [e];exact h
 | false=>
  have h:=aea a (by rw [b];rfl);have e:iJ a=(a==((24:Nat):Int)):=by
   clear h;simp only [decide_eq_true_eq,decide_eq_false_iff_not,beq_iff_eq,Yq2] at*
   unfold iJ;first|(rw [decide_eq_true_eq];omega)|(rw [Xxz];simp only [decide_eq_true_eq,beq_iff_eq];omega)
  rw [e];exact h
theorem Ci (a:Int):CO 139 [ω a] (.ret (.bool (zG a))):=by
 cases b:(decide (((1:Nat):Int)≤a)) with
 | true=>
  have h:=ad1 a (by rw [b];rfl);have e:zG a=(decide (a≤((4:Nat):Int))):=by
   clear h;simp only [decide_eq_true_eq,decide_eq_false_iff_not,beq_iff_eq,Yq2] at*
   unfold zG;first|(rw [decide_eq_false_iff_not];omega)|(rw [Xxz];simp only [decide_eq_true_eq,beq_iff_eq];omega)
  rw [e];exact h
 | false=>
  have h:=ad2 a (by rw [b];rfl);have e:zG a=false:=by
   clear h;simp only [decide_eq_true_eq,decide_eq_false_iff_not,beq_iff_eq,Yq2] at*
   unfold zG;first|(rw [decide_eq_false_iff_not];omega)|(rw [Xxz];simp only [decide_eq_true_eq,beq_iff_eq];omega)
  rw [e];exact h
theorem Jp (a:Int):CO 140 [ω a] (.ret (.bool (Am a))):=by
 cases b:(decide (((21:Nat):Int)≤a)) with
 | true=>
  have h:=afn a (by rw [b];rfl);have e:Am a=(decide (a≤((23:Nat):Int))):=by
   clear h;simp only [decide_eq_true_eq,decide_eq_false_iff_not,beq_iff_eq,Yq2] at*
   unfold Am;first|(rw [decide_eq_false_iff_not];omega)|(rw [Xxz];simp only [decide_eq_true_eq,beq_iff_eq];omega)
  rw [e];exact h
 | false=>
  have h:=afo a (by rw [b];rfl);have e:Am a=false:=by
   clear h;simp only [decide_eq_true_eq,decide_eq_false_iff_not,beq_iff_eq,Yq2] at*
   unfold Am;first|(rw [decide_eq_false_iff_not];omega)|(rw [Xxz];simp only [decide_eq_true_eq,beq_iff_eq];omega)
  rw [e];exact h
theorem KW {a:Int} (h:1≤a) (b:a≤24):a=1∨a=2∨a=3∨a=4∨a=5∨a=6∨a=7∨a=8∨a=9∨a=10∨a=11∨a=12∨a=13∨a=14∨a=15∨a=16∨a=17∨a=18∨a=19∨a=20∨a=21∨a=22∨a=23∨a=24:=by omega
abbrev shA (op:Int):AV:= .agg [.str (XC op),ω ((dP op:Nat):Int),.bool (zG op),.bool (iJ op),.bool (Am op)]
theorem aia {a:Int} (h:1≤a) (b:a≤24):CO 120 [ω a] (.ret (.tup [shA a,.bool true])):=by
 rcases KW h b with rfl|rfl|rfl|rfl|rfl|rfl|rfl|rfl|rfl|rfl|rfl|rfl|rfl|rfl|rfl|rfl|rfl|rfl|rfl|rfl|rfl|rfl|rfl|rfl
 all_goals exact ah7 _ rfl rfl rfl rfl rfl rfl rfl rfl rfl
theorem aeh {a:Int} (h:a<1∨24<a):CO 120 [ω a] (.ret (.tup [.agg zcc2_0,.bool false])):=by
 by_cases h1:a<1
 ·exact ah5 a (by simp [lit];omega)
 ·exact ah6 a (by simp [lit];omega) (by simp [lit];omega)
theorem OD {a:Int} (h:1≤a) (b:a≤24):ζ (ε (a.toNat*5+1) jI) .dead= ω ((dP a:Nat):Int):=by
 rcases KW h b with rfl|rfl|rfl|rfl|rfl|rfl|rfl|rfl|rfl|rfl|rfl|rfl|rfl|rfl|rfl|rfl|rfl|rfl|rfl|rfl|rfl|rfl|rfl|rfl
 all_goals rfl
def PD (op:Int):Bool:=decide (1≤op∧op≤24)
theorem bV (a:Int):CO 120 [ω a] (.ret (.tup [shA a,.bool (PD a)])):=by
 by_cases h:1≤a∧a≤24
 ·have e:PD a=true:=Yq0 h;rw [e];exact aia h.1 h.2
 ·have e:PD a=false:=Yq1 h;have c:dP a=0:=by unfold dP;(repeat' split)<;>omega
  have g:zG a=false:=by unfold zG;rw [decide_eq_false_iff_not];omega
  have b:iJ a=false:=by unfold iJ;rw [decide_eq_false_iff_not];omega
  have d:Am a=false:=by unfold Am;rw [decide_eq_false_iff_not];omega
  have f:XC a= []:=by
   unfold XC;by_cases h1:a<1
   ·have:a.toNat=0:=by omega
    rw [this];rfl
   ·have i:jI.length=125:=by decide
    rw [Xjf (by omega)];rfl
  unfold shA;rw [e,c,g,b,d,f];exact aeh (by omega)
structure Nd where
 op:Int
 neg:Bool
 num:List UInt8
 den:List UInt8
 name:List UInt8
def rU (x:Nd):List AV:= [ω x.op,.bool x.neg,.str x.num,.str x.den,.str x.name]
def Nd.sm (x:Nd):Prop:=x.num.length<2^33∧x.den.length<2^33
def fJ (x:Nd):Bool:=cond (x.op==((4:Nat):Int)) (uh x.neg x.num x.den 0||uh x.neg x.num x.den 1) (cond (zG x.op) (eQ x.neg x.num x.den) (cond (Am x.op) (eQ x.neg x.num x.den && decide (((0:Nat):Int)<jy x.neg x.num x.den)) ((x.neg==false) && ((x.num== []) && ((x.den== []) && true)))))
def aI (x:Nd):Int:=cond (!PD x.op||(!iJ x.op && !(x.name== []))) 11 (cond (!fJ x) 11 (cond (iJ x.op && !uz x.name) 12 0))
theorem XD (x:Nd) (c:x.sm):CO 73 [.agg (rU x)] (.ret (ω (aI x))):=by
 have a:x.num.length<2^36:=Xxa c.1 (by decide);have b:x.den.length<2^36:=Xxa c.2 (by decide);rcases tf (PD x.op) with b0|b0
 ·rcases tf (iJ x.op) with b1|b1
  ·rcases tf (x.op==((4:Nat):Int)) with b2|b2
   ·rcases tf ((x.neg==false) && ((x.num==(ae 0)) && ((x.den==(ae 1)) && true))) with b3|b3
    ·rcases tf (uz x.name) with b4|b4
     ·rw [show aI x=0 by simp only [aI,fJ,uh,b0,b1,b2,b3,b4]<;>rfl];exact pK [] 8 88 (.c (aU b4) (.k 1 (aN b1) (.k 2 (aN b3) (.k 3 (aN b2) (.k 2 (aU b1) (.k 1 (aU b0) (.n 2 .nil))))))) (.c (lM x.name) (.c (jw) (.c (bV x.op) .nil)))
     ·rw [show aI x=12 by simp only [aI,fJ,uh,b0,b1,b2,b3,b4]<;>rfl];exact pK [] 8 216 (.c (dL b4) (.k 1 (aN b1) (.k 2 (aN b3) (.k 3 (aN b2) (.k 2 (aU b1) (.k 1 (aU b0) (.n 2 .nil))))))) (.c (lM x.name) (.c (jw) (.c (bV x.op) .nil)))
    ·rcases tf ((x.neg==false) && ((x.num==(ae 1)) && ((x.den==(ae 1)) && true))) with b4|b4
     ·rcases tf (uz x.name) with b5|b5
      ·rw [show aI x=0 by simp only [aI,fJ,uh,b0,b1,b2,b3,b4,b5]<;>rfl];exact pK [] 8 72 (.c (aU b5) (.k 1 (aN b1) (.k 1 (aU b4) (.k 3 (aK b3) (.k 3 (aN b2) (.k 2 (aU b1) (.k 1 (aU b0) (.n 2 .nil)))))))) (.c (lM x.name) (.c (uG) (.c (jw) (.c (bV x.op) .nil))))
      ·rw [show aI x=12 by simp only [aI,fJ,uh,b0,b1,b2,b3,b4,b5]<;>rfl];exact pK [] 8 200 (.c (dL b5) (.k 1 (aN b1) (.k 1 (aU b4) (.k 3 (aK b3) (.k 3 (aN b2) (.k 2 (aU b1) (.k 1 (aU b0) (.n 2 .nil)))))))) (.c (lM x.name) (.c (uG) (.c (jw) (.c (bV x.op) .nil))))
     ·rw [show aI x=11 by simp only [aI,fJ,uh,b0,b1,b2,b3,b4]<;>rfl];exact pK [] 6 40 (.c (dL b4) (.k 3 (aK b3) (.k 3 (aN b2) (.k 2 (aU b1) (.k 1 (aU b0) (.n 2 .nil)))))) (.c (uG) (.c (jw) (.c (bV x.op) .nil)))
   ·rcases tf (zG x.op) with b3|b3
    ·rcases tf (eQ x.neg x.num x.den) with b4|b4
     ·rcases tf (uz x.name) with b5|b5
      ·rw [show aI x=0 by simp only [aI,fJ,uh,b0,b1,b2,b3,b4,b5]<;>rfl];exact pK [] 8 80 (.c (aU b5) (.k 1 (aN b1) (.k 1 (aU b4) (.k 3 (aN b3) (.k 1 (aK b2) (.k 2 (aU b1) (.k 1 (aU b0) (.n 2 .nil)))))))) (.c (lM x.name) (.c (fZ x.neg x.num x.den a b) (.c (bV x.op) .nil)))
      ·rw [show aI x=12 by simp only [aI,fJ,uh,b0,b1,b2,b3,b4,b5]<;>rfl];exact pK [] 8 208 (.c (dL b5) (.k 1 (aN b1) (.k 1 (aU b4) (.k 3 (aN b3) (.k 1 (aK b2) (.k 2 (aU b1) (.k 1 (aU b0) (.n 2 .nil)))))))) (.c (lM x.name) (.c (fZ x.neg x.num x.den a b) (.c (bV x.op) .nil)))
     ·rw [show aI x=11 by simp only [aI,fJ,uh,b0,b1,b2,b3,b4]<;>rfl];exact pK [] 6 48 (.c (dL b4) (.k 3 (aN b3) (.k 1 (aK b2) (.k 2 (aU b1) (.k 1 (aU b0) (.n 2 .nil)))))) (.c (fZ x.neg x.num x.den a b) (.c (bV x.op) .nil))
    ·rcases tf (Am x.op) with b4|b4
     ·rcases tf (eQ x.neg x.num x.den) with b5|b5
      ·rcases tf (decide (((0:Nat):Int)<(jy x.neg x.num x.den))) with b6|b6
       ·rcases tf (uz x.name) with b7|b7
        ·rw [show aI x=0 by simp only [aI,fJ,uh,b0,b1,b2,b3,b4,b5,b6,b7]<;>rfl];exact pK [] 10 352 (.c (aU b7) (.k 1 (aN b1) (.k 1 (aU b6) (.k 3 (aN b5) (.k 3 (aN b4) (.k 1 (aK b3) (.k 1 (aK b2) (.k 2 (aU b1) (.k 1 (aU b0) (.n 2 .nil)))))))))) (.c (lM x.name) (.c (oD x.neg x.num x.den a b) (.c (fZ x.neg x.num x.den a b) (.c (bV x.op) .nil))))
        ·rw [show aI x=12 by simp only [aI,fJ,uh,b0,b1,b2,b3,b4,b5,b6,b7]<;>rfl];exact pK [] 10 864 (.c (dL b7) (.k 1 (aN b1) (.k 1 (aU b6) (.k 3 (aN b5) (.k 3 (aN b4) (.k 1 (aK b3) (.k 1 (aK b2) (.k 2 (aU b1) (.k 1 (aU b0) (.n 2 .nil)))))))))) (.c (lM x.name) (.c (oD x.neg x.num x.den a b) (.c (fZ x.neg x.num x.den a b) (.c (bV x.op) .nil))))
       ·rw [show aI x=11 by simp only [aI,fJ,uh,b0,b1,b2,b3,b4,b5,b6]<;>rfl];exact pK [] 8 224 (.c (dL b6) (.k 3 (aN b5) (.k 3 (aN b4) (.k 1 (aK b3) (.k 1 (aK b2) (.k 2 (aU b1) (.k 1 (aU b0) (.n 2 .nil)))))))) (.c (oD x.neg x.num x.den a b) (.c (fZ x.neg x.num x.den a b) (.c (bV x.op) .nil)))
      ·rw [show aI x=11 by simp only [aI,fJ,uh,b0,b1,b2,b3,b4,b5]<;>rfl];exact pK [] 8 160 (.k 1 (aK b5) (.k 3 (aN b4) (.k 1 (aK b3) (.k 1 (aK b2) (.k 2 (aU b1) (.k 1 (aU b0) (.n 2 .nil))))))) (.c (fZ x.neg x.num x.den a b) (.c (bV x.op) .nil))
     ·rcases tf ((x.neg==false) && ((x.num== []) && ((x.den== []) && true))) with b5|b5
      ·rcases tf (uz x.name) with b6|b6
       ·rw [show aI x=0 by simp only [aI,fJ,uh,b0,b1,b2,b3,b4,b5,b6]<;>rfl];exact pK [] 9 128 (.c (aU b6) (.k 1 (aN b1) (.k 1 (aU b5) (.k 3 (aK b4) (.k 1 (aK b3) (.k 1 (aK b2) (.k 2 (aU b1) (.k 1 (aU b0) (.n 2 .nil))))))))) (.c (lM x.name) (.c (bV x.op) .nil))
       ·rw [show aI x=12 by simp only [aI,fJ,uh,b0,b1,b2,b3,b4,b5,b6]<;>rfl];exact pK [] 9 384 (.c (dL b6) (.k 1 (aN b1) (.k 1 (aU b5) (.k 3 (aK b4) (.k 1 (aK b3) (.k 1 (aK b2) (.k 2 (aU b1) (.k 1 (aU b0) (.n 2 .nil))))))))) (.c (lM x.name) (.c (bV x.op) .nil))
      ·rw [show aI x=11 by simp only [aI,fJ,uh,b0,b1,b2,b3,b4,b5]<;>rfl];exact pK [] 7 64 (.c (dL b5) (.k 3 (aK b4) (.k 1 (aK b3) (.k 1 (aK b2) (.k 2 (aU b1) (.k 1 (aU b0) (.n 2 .nil))))))) (.c (bV x.op) .nil)
  ·rcases tf (x.name== []) with b2|b2
   ·rcases tf (x.op==((4:Nat):Int)) with b3|b3
    ·rcases tf ((x.neg==false) && ((x.num==(ae 0)) && ((x.den==(ae 1)) && true))) with b4|b4
     ·rw [show aI x=0 by simp only [aI,fJ,uh,b0,b1,b2,b3,b4]<;>rfl];exact pK [] 8 26 (.k 1 (aK b1) (.k 2 (aN b4) (.k 3 (aN b3) (.k 1 (aU b2) (.k 1 (dL b1) (.k 1 (aU b0) (.n 2 .nil))))))) (.c (jw) (.c (bV x.op) .nil))
     ·rcases tf ((x.neg==false) && ((x.num==(ae 1)) && ((x.den==(ae 1)) && true))) with b5|b5
      ·rw [show aI x=0 by simp only [aI,fJ,uh,b0,b1,b2,b3,b4,b5]<;>rfl];exact pK [] 8 10 (.k 1 (aK b1) (.k 1 (aU b5) (.k 3 (aK b4) (.k 3 (aN b3) (.k 1 (aU b2) (.k 1 (dL b1) (.k 1 (aU b0) (.n 2 .nil)))))))) (.c (uG) (.c (jw) (.c (bV x.op) .nil)))
      ·rw [show aI x=11 by simp only [aI,fJ,uh,b0,b1,b2,b3,b4,b5]<;>rfl];exact pK [] 6 42 (.c (dL b5) (.k 3 (aK b4) (.k 3 (aN b3) (.k 1 (aU b2) (.k 1 (dL b1) (.k 1 (aU b0) (.n 2 .nil))))))) (.c (uG) (.c (jw) (.c (bV x.op) .nil)))
    ·rcases tf (zG x.op) with b4|b4
     ·rcases tf (eQ x.neg x.num x.den) with b5|b5
      ·rw [show aI x=0 by simp only [aI,fJ,uh,b0,b1,b2,b3,b4,b5]<;>rfl];exact pK [] 8 18 (.k 1 (aK b1) (.k 1 (aU b5) (.k 3 (aN b4) (.k 1 (aK b3) (.k 1 (aU b2) (.k 1 (dL b1) (.k 1 (aU b0) (.n 2 .nil)))))))) (.c (fZ x.neg x.num x.den a b) (.c (bV x.op) .nil))
      ·rw [show aI x=11 by simp only [aI,fJ,uh,b0,b1,b2,b3,b4,b5]<;>rfl];exact pK [] 6 50 (.c (dL b5) (.k 3 (aN b4) (.k 1 (aK b3) (.k 1 (aU b2) (.k 1 (dL b1) (.k 1 (aU b0) (.n 2 .nil))))))) (.c (fZ x.neg x.num x.den a b) (.c (bV x.op) .nil))
     ·rcases tf (Am x.op) with b5|b5
      ·rcases tf (eQ x.neg x.num x.den) with b6|b6
       ·rcases tf (decide (((0:Nat):Int)<(jy x.neg x.num x.den))) with b7|b7
        ·rw [show aI x=0 by simp only [aI,fJ,uh,b0,b1,b2,b3,b4,b5,b6,b7]<;>rfl];exact pK [] 10 98 (.k 1 (aK b1) (.k 1 (aU b7) (.k 3 (aN b6) (.k 3 (aN b5) (.k 1 (aK b4) (.k 1 (aK b3) (.k 1 (aU b2) (.k 1 (dL b1) (.k 1 (aU b0) (.n 2 .nil)))))))))) (.c (oD x.neg x.num x.den a b) (.c (fZ x.neg x.num x.den a b) (.c (bV x.op) .nil)))
        ·rw [show aI x=11 by simp only [aI,fJ,uh,b0,b1,b2,b3,b4,b5,b6,b7]<;>rfl];exact pK [] 8 226 (.c (dL b7) (.k 3 (aN b6) (.k 3 (aN b5) (.k 1 (aK b4) (.k 1 (aK b3) (.k 1 (aU b2) (.k 1 (dL b1) (.k 1 (aU b0) (.n 2 .nil))))))))) (.c (oD x.neg x.num x.den a b) (.c (fZ x.neg x.num x.den a b) (.c (bV x.op) .nil)))
       ·rw [show aI x=11 by simp only [aI,fJ,uh,b0,b1,b2,b3,b4,b5,b6]<;>rfl];exact pK [] 8 162 (.k 1 (aK b6) (.k 3 (aN b5) (.k 1 (aK b4) (.k 1 (aK b3) (.k 1 (aU b2) (.k 1 (dL b1) (.k 1 (aU b0) (.n 2 .nil)))))))) (.c (fZ x.neg x.num x.den a b) (.c (bV x.op) .nil))
      ·rcases tf ((x.neg==false) && ((x.num== []) && ((x.den== []) && true))) with b6|b6
       ·rw [show aI x=0 by simp only [aI,fJ,uh,b0,b1,b2,b3,b4,b5,b6]<;>rfl];exact pK [] 9 2 (.k 1 (aK b1) (.k 1 (aU b6) (.k 3 (aK b5) (.k 1 (aK b4) (.k 1 (aK b3) (.k 1 (aU b2) (.k 1 (dL b1) (.k 1 (aU b0) (.n 2 .nil))))))))) (.c (bV x.op) .nil)
       ·rw [show aI x=11 by simp only [aI,fJ,uh,b0,b1,b2,b3,b4,b5,b6]<;>rfl];exact pK [] 7 66 (.c (dL b6) (.k 3 (aK b5) (.k 1 (aK b4) (.k 1 (aK b3) (.k 1 (aU b2) (.k 1 (dL b1) (.k 1 (aU b0) (.n 2 .nil)))))))) (.c (bV x.op) .nil)
   ·rw [show aI x=11 by simp only [aI,fJ,uh,b0,b1,b2]<;>rfl];exact pK [] 3 6 (.c (dL b2) (.k 1 (dL b1) (.k 1 (aU b0) (.n 2 .nil)))) (.c (bV x.op) .nil)
 ·rw [show aI x=11 by simp only [aI,fJ,uh,b0]<;>rfl];exact pK [] 2 3 (.k 1 (dL b0) (.n 2 .nil)) (.c (bV x.op) .nil)
theorem KT (x:Nd) (a:x.sm):CO 83 [.agg (rU x)] (.ret (.bool (fJ x))):=by
 rcases tf (x.op==((4:Nat):Int)) with b0|b0
 ·rcases tf ((x.neg==false) && ((x.num==(ae 0)) && ((x.den==(ae 1)) && true))) with b1|b1
  ·rw [show fJ x=true by simp only [fJ,uh,b0,b1]<;>rfl];exact pK [] 2 3 (.c (aN b1) (.k 3 (aN b0) (.n 1 .nil))) (.c (uF) .nil)
  ·rw [show fJ x=((x.neg==false) && ((x.num==(ae 1)) && ((x.den==(ae 1)) && true))) by simp only [fJ,uh,b0,b1]<;>rfl];exact pK [] 2 1 (.k 3 (aK b1) (.k 3 (aN b0) (.n 1 .nil))) (.c (yF) (.c (uF) .nil))
 ·rcases tf (zG x.op) with b1|b1
  ·rw [show fJ x=(eQ x.neg x.num x.den) by simp only [fJ,uh,b0,b1]<;>rfl];exact pK [] 2 2 (.k 3 (aN b1) (.k 1 (aK b0) (.n 1 .nil))) (.c (lH x.neg x.num x.den a.1 a.2) (.c (Ci x.op) .nil))
  ·rcases tf (Am x.op) with b2|b2
   ·rcases tf (eQ x.neg x.num x.den) with b3|b3
    ·rw [show fJ x=(decide (((0:Nat):Int)<(jy x.neg x.num x.den))) by simp only [fJ,uh,b0,b1,b2,b3]<;>rfl];exact pK [] 4 12 (.k 3 (aN b3) (.k 3 (aN b2) (.k 1 (aK b1) (.k 1 (aK b0) (.n 1 .nil))))) (.c (zZ x.neg x.num x.den a.1 a.2) (.c (lH x.neg x.num x.den a.1 a.2) (.c (Jp x.op) (.c (Ci x.op) .nil))))
    ·rw [show fJ x=false by simp only [fJ,uh,b0,b1,b2,b3]<;>rfl];exact pK [] 4 4 (.c (aK b3) (.k 3 (aN b2) (.k 1 (aK b1) (.k 1 (aK b0) (.n 1 .nil))))) (.c (lH x.neg x.num x.den a.1 a.2) (.c (Jp x.op) (.c (Ci x.op) .nil)))
   ·rw [show fJ x=((x.neg==false) && ((x.num== []) && ((x.den== []) && true))) by simp only [fJ,uh,b0,b1,b2]<;>rfl];exact pK [] 3 0 (.k 3 (aK b2) (.k 1 (aK b1) (.k 1 (aK b0) (.n 1 .nil)))) (.c (Jp x.op) (.c (Ci x.op) .nil))
def bG (l:List Nd):List AV:=l.flatMap rU
theorem alp {nt:Nat} (e:35≤nt) (l:List Nd) (b:Bool) (k d:Nat) (w:Int) (x:Nd) (r:List Nd) (a:(ε ((δ (k:Int))*5) (bG l))=rU x++bG r) (i:lit true (!(w==((0:Nat):Int)))=true) (c:(decide (((0:Nat):Int)≤(k:Int)))=true) (j:(decide ((k:Int)<(l.length:Int)))=true) (f:lit true (decide ((k:Int)<(l.length:Int)))=true) (g:CO 73 [.agg [ω x.op,.bool x.neg,.str x.num,.str x.den,.str x.name]] (.ret (ω w))):ψ nt f44 ⟨[(10,.sl (bG l) l.length b),(11,ω (l.length:Int)),(12,ω (k:Int)),(3,ω (d:Int))],[],.dead,[]⟩ (.ret) ⟨[(2,ω w)],[],.dead,[]⟩:=
 have h:ψ nt f44 ⟨[(10,.sl (bG l) l.length b),(11,ω (l.length:Int)),(12,ω (k:Int)),(3,ω (d:Int))],[],.dead,[]⟩ (.ret) ⟨[(2,ω w)],[(0,⟨[ω x.op,.bool x.neg,.str x.num,.str x.den,.str x.name],0,false,0,0,true⟩)],.dead,[]⟩:=pJ 44 [] 2 3 (.c i (.k 11 c (.c j (.c f .nil)))) (.c g (.v 14 (.ppt a) .nil)) e
 h.forgetD 0 ⟨[ω x.op,.bool x.neg,.str x.num,.str x.den,.str x.name],0,false,0,0,true⟩ (by intro v h;cases h) (by decide) rfl ⟨Fz.same rfl,trivial⟩ rfl rfl
theorem alq {nt:Nat} (g:35≤nt) (l:List Nd) (b:Bool) (k d:Nat) (w:Int) (x:Nd) (r:List Nd) (a:(ε ((δ (k:Int))*5) (bG l))=rU x++bG r) (n:lit true (decide ((γ .i64 ((d:Int) - (τ (ζ (ε ((0+((δ x.op)*5))+1) jI) .dead))))<((0:Nat):Int)))=true) (m:(chk (.int .i64) (ζ (ε ((0+((δ x.op)*5))+1) jI) .dead))=true) (f:(decide (((0:Nat):Int)≤x.op))=true) (i:(decide (x.op<((25:Nat):Int)))=true) (j:lit false (!(w==((0:Nat):Int)))=true) (c:(decide (((0:Nat):Int)≤(k:Int)))=true) (p:(decide ((k:Int)<(l.length:Int)))=true) (o:lit true (decide ((k:Int)<(l.length:Int)))=true) (e:CO 73 [.agg [ω x.op,.bool x.neg,.str x.num,.str x.den,.str x.name]] (.ret (ω w))):ψ nt f44 ⟨[(10,.sl (bG l) l.length b),(11,ω (l.length:Int)),(12,ω (k:Int)),(3,ω (d:Int))],[],.dead,[]⟩ (.ret) ⟨[(2,ω 11)],[],.dead,[]⟩:=
 have h:ψ nt f44 ⟨[(10,.sl (bG l) l.length b),(11,ω (l.length:Int)),(12,ω (k:Int)),(3,ω (d:Int))],[],.dead,[]⟩ (.ret) ⟨[(2,ω 11)],[(0,⟨[ω x.op,.bool x.neg,.str x.num,.str x.den,.str x.name],0,false,0,0,true⟩)],.dead,[]⟩:=pJ 44 [] 3 5 (.c n (.c m (.c f (.c i (.k 1 j (.k 11 c (.c p (.c o .nil)))))))) (.c e (.v 14 (.ppt a) .nil)) g
 h.forgetD 0 ⟨[ω x.op,.bool x.neg,.str x.num,.str x.den,.str x.name],0,false,0,0,true⟩ (by intro v h;cases h) (by decide) rfl ⟨Fz.same rfl,trivial⟩ rfl rfl
theorem alr {nt:Nat} (g:35≤nt) (l:List Nd) (a:Bool) (k d:Nat) (w:Int) (x:Nd) (r:List Nd) (b:(ε ((δ (k:Int))*5) (bG l))=rU x++bG r) (n:lit false (decide ((γ .i64 ((d:Int) - (τ (ζ (ε ((0+((δ x.op)*5))+1) jI) .dead))))<((0:Nat):Int)))=true) (m:(chk (.int .i64) (ζ (ε ((0+((δ x.op)*5))+1) jI) .dead))=true) (f:(decide (((0:Nat):Int)≤x.op))=true) (i:(decide (x.op<((25:Nat):Int)))=true) (j:lit false (!(w==((0:Nat):Int)))=true) (c:(decide (((0:Nat):Int)≤(k:Int)))=true) (p:(decide ((k:Int)<(l.length:Int)))=true) (o:lit true (decide ((k:Int)<(l.length:Int)))=true) (e:CO 73 [.agg [ω x.op,.bool x.neg,.str x.num,.str x.den,.str x.name]] (.ret (ω w))):ψ nt f44 ⟨[(10,.sl (bG l) l.length a),(11,ω (l.length:Int)),(12,ω (k:Int)),(3,ω (d:Int))],[],.dead,[]⟩ (.normal) ⟨[(10,.sl (bG l) l.length a),(11,ω (l.length:Int)),(12,ω (γ .i64 ((k:Int)+((1:Nat):Int)))),(3,ω (γ .i64 ((γ .i64 ((d:Int) - (τ (ζ (ε ((0+((δ x.op)*5))+1) jI) .dead))))+((1:Nat):Int))))],[],.dead,[]⟩:=
 have h:ψ nt f44 ⟨[(10,.sl (bG l) l.length a),(11,ω (l.length:Int)),(12,ω (k:Int)),(3,ω (d:Int))],[],.dead,[]⟩ (.normal) ⟨[(10,.sl (bG l) l.length a),(11,ω (l.length:Int)),(12,ω (γ .i64 ((k:Int)+((1:Nat):Int)))),(3,ω (γ .i64 ((γ .i64 ((d:Int) - (τ (ζ (ε ((0+((δ x.op)*5))+1) jI) .dead))))+((1:Nat):Int))))],[(0,⟨[ω x.op,.bool x.neg,.str x.num,.str x.den,.str x.name],0,false,0,0,true⟩)],.dead,[]⟩:=pJ 44 [] 3 1 (.c n (.c m (.c f (.c i (.k 1 j (.k 11 c (.c p (.c o .nil)))))))) (.c e (.v 14 (.ppt b) .nil)) g
 h.forgetD 0 ⟨[ω x.op,.bool x.neg,.str x.num,.str x.den,.str x.name],0,false,0,0,true⟩ (by intro v h;cases h) (by decide) rfl ⟨Fz.same rfl,Fz.same rfl,Fz.same rfl,Fz.same rfl,trivial⟩ rfl rfl
theorem Un {nt:Nat} (a:35≤nt) (l:List Nd) (c:Bool) (k d:Nat) (w:Int) (b:lit false (decide ((k:Int)<(l.length:Int)))=true):ψ nt f44 ⟨[(10,.sl (bG l) l.length c),(11,ω (l.length:Int)),(12,ω (k:Int)),(3,ω (d:Int))],[],.dead,[]⟩ (.exit 0) ⟨[(3,ω (d:Int))],[],.dead,[]⟩:=pJ 44 [] 1 0 (.c b .nil) (.nil) a
theorem agi (l:List Nd) (a:Bool) (d:Nat) (b:lit true (decide (((60:Nat):Int)<(l.length:Int)))=true):CO 44 [.sl (bG l) l.length a] (.ret (ω 2)):=pK [0] 1 1 (.c b .nil) (.nil)
theorem agj (l:List Nd) (a:Bool) (d:Nat) (e:lit true (!((d:Int)==((1:Nat):Int)))=true) (c:lit false (decide (((60:Nat):Int)<(l.length:Int)))=true) (b:aG prog ap [] 35 (.block 0 (.loop (af 0 (ah f44)))) ⟨[(0,.sl (bG l) l.length a),(2,ω 0),(3,ω 0),(5,.dead),(6,.dead),(9,.bool (decide (((60:Nat):Int)<(l.length:Int)))),(10,.sl (bG l) l.length a),(11,ω (l.length:Int)),(12,ω 0),(13,.dead),(19,.dead),(29,.dead),(34,.dead)],[],.dead,[]⟩ (.normal) ⟨[(3,ω (d:Int))],[],.dead,[]⟩):CO 44 [.sl (bG l) l.length a] (.ret (ω 11)):=pK [0] 2 2 (.c e (.c c .nil)) (.l b .nil)
theorem agk (l:List Nd) (a:Bool) (d:Nat) (e:lit false (!((d:Int)==((1:Nat):Int)))=true) (c:lit false (decide (((60:Nat):Int)<(l.length:Int)))=true) (b:aG prog ap [] 35 (.block 0 (.loop (af 0 (ah f44)))) ⟨[(0,.sl (bG l) l.length a),(2,ω 0),(3,ω 0),(5,.dead),(6,.dead),(9,.bool (decide (((60:Nat):Int)<(l.length:Int)))),(10,.sl (bG l) l.length a),(11,ω (l.length:Int)),(12,ω 0),(13,.dead),(19,.dead),(29,.dead),(34,.dead)],[],.dead,[]⟩ (.normal) ⟨[(3,ω (d:Int))],[],.dead,[]⟩):CO 44 [.sl (bG l) l.length a] (.ret (ω 0)):=pK [0] 2 0 (.c e (.c c .nil)) (.l b .nil)
theorem agl (l:List Nd) (a:Bool) (w:Int) (c:lit false (decide (((60:Nat):Int)<(l.length:Int)))=true) (b:aG prog ap [] 35 (.block 0 (.loop (af 0 (ah f44)))) ⟨[(0,.sl (bG l) l.length a),(2,ω 0),(3,ω 0),(5,.dead),(6,.dead),(9,.bool (decide (((60:Nat):Int)<(l.length:Int)))),(10,.sl (bG l) l.length a),(11,ω (l.length:Int)),(12,ω 0),(13,.dead),(19,.dead),(29,.dead),(34,.dead)],[],.dead,[]⟩ (.ret) ⟨[(2,ω w)],[],.dead,[]⟩):CO 44 [.sl (bG l) l.length a] (.ret (ω w)):=pK [0] 1 0 (.c c .nil) (.l b .nil)
theorem ajp {nt:Nat} (m:69≤nt) (l:List Nd) (b:Bool) (k d:Nat) (c o:Bool) (x:Nd) (r:List Nd) (a:(ε ((δ (k:Int))*5) (bG l))=rU x++bG r) (g:lit true (decide (x.op<((1:Nat):Int)))=true) (e:(decide (((0:Nat):Int)≤(k:Int)))=true) (i:(decide ((k:Int)<(l.length:Int)))=true) (n:lit true (decide ((k:Int)<(l.length:Int)))=true) (f:CO 82 [ω x.op] (.ret (.bool (iJ x.op)))) (j:CO 83 [.agg [ω x.op,.bool x.neg,.str x.num,.str x.den,.str x.name]] (.ret (.bool c))):ψ nt f50 ⟨[(0,.sl (bG l) l.length b),(4,ω (k:Int)),(3,ω (d:Int))],[],.dead,[]⟩ (.ret) ⟨[(2,ω 11)],[],.dead,[]⟩:=
 have h:ψ nt f50 ⟨[(0,.sl (bG l) l.length b),(4,ω (k:Int)),(3,ω (d:Int))],[],.dead,[]⟩ (.ret) ⟨[(2,ω 11)],[(0,⟨[ω x.op,.bool x.neg,.str x.num,.str x.den,.str x.name],0,false,0,0,true⟩)],.dead,[]⟩:=pJ 50 [] 5 31 (.k 3 g (.k 13 e (.c i (.c n .nil)))) (.c j (.c f (.v 21 (.ppt a) .nil))) m
 h.forgetD 0 ⟨[ω x.op,.bool x.neg,.str x.num,.str x.den,.str x.name],0,false,0,0,true⟩ (by intro v h;cases h) (by decide) rfl ⟨Fz.same rfl,trivial⟩ rfl rfl
theorem ajq {nt:Nat} (m:69≤nt) (l:List Nd) (b:Bool) (k d:Nat) (c p:Bool) (x:Nd) (r:List Nd) (a:(ε ((δ (k:Int))*5) (bG l))=rU x++bG r) (g:lit true (decide (((24:Nat):Int)<x.op))=true) (e:lit false (decide (x.op<((1:Nat):Int)))=true) (i:(decide (((0:Nat):Int)≤(k:Int)))=true) (n:(decide ((k:Int)<(l.length:Int)))=true) (o:lit true (decide ((k:Int)<(l.length:Int)))=true) (f:CO 82 [ω x.op] (.ret (.bool (iJ x.op)))) (j:CO 83 [.agg [ω x.op,.bool x.neg,.str x.num,.str x.den,.str x.name]] (.ret (.bool c))):ψ nt f50 ⟨[(0,.sl (bG l) l.length b),(4,ω (k:Int)),(3,ω (d:Int))],[],.dead,[]⟩ (.ret) ⟨[(2,ω 11)],[],.dead,[]⟩:=
 have h:ψ nt f50 ⟨[(0,.sl (bG l) l.length b),(4,ω (k:Int)),(3,ω (d:Int))],[],.dead,[]⟩ (.ret) ⟨[(2,ω 11)],[(0,⟨[ω x.op,.bool x.neg,.str x.num,.str x.den,.str x.name],0,false,0,0,true⟩)],.dead,[]⟩:=pJ 50 [] 5 29 (.k 2 g (.k 1 e (.k 13 i (.c n (.c o .nil))))) (.c j (.c f (.v 21 (.ppt a) .nil))) m
 h.forgetD 0 ⟨[ω x.op,.bool x.neg,.str x.num,.str x.den,.str x.name],0,false,0,0,true⟩ (by intro v h;cases h) (by decide) rfl ⟨Fz.same rfl,trivial⟩ rfl rfl
theorem ajr {nt:Nat} (i:69≤nt) (l:List Nd) (c:Bool) (k d:Nat) (b q:Bool) (x:Nd) (r:List Nd) (a:(ε ((δ (k:Int))*5) (bG l))=rU x++bG r) (o:lit true (!b)=true) (n:lit false (decide (((24:Nat):Int)<x.op))=true) (g:lit false (decide (x.op<((1:Nat):Int)))=true) (j:(decide (((0:Nat):Int)≤(k:Int)))=true) (m:(decide ((k:Int)<(l.length:Int)))=true) (e:lit true (decide ((k:Int)<(l.length:Int)))=true) (f:CO 82 [ω x.op] (.ret (.bool (iJ x.op)))) (p:CO 83 [.agg [ω x.op,.bool x.neg,.str x.num,.str x.den,.str x.name]] (.ret (.bool b))):ψ nt f50 ⟨[(0,.sl (bG l) l.length c),(4,ω (k:Int)),(3,ω (d:Int))],[],.dead,[]⟩ (.ret) ⟨[(2,ω 11)],[],.dead,[]⟩:=
 have h:ψ nt f50 ⟨[(0,.sl (bG l) l.length c),(4,ω (k:Int)),(3,ω (d:Int))],[],.dead,[]⟩ (.ret) ⟨[(2,ω 11)],[(0,⟨[ω x.op,.bool x.neg,.str x.num,.str x.den,.str x.name],0,false,0,0,true⟩)],.dead,[]⟩:=pJ 50 [] 5 25 (.k 1 o (.c n (.k 1 g (.k 13 j (.c m (.c e .nil)))))) (.c p (.c f (.v 21 (.ppt a) .nil))) i
 h.forgetD 0 ⟨[ω x.op,.bool x.neg,.str x.num,.str x.den,.str x.name],0,false,0,0,true⟩ (by intro v h;cases h) (by decide) rfl ⟨Fz.same rfl,trivial⟩ rfl rfl
theorem ajs {nt:Nat} (i:69≤nt) (l:List Nd) (c:Bool) (k d:Nat) (b t:Bool) (x:Nd) (r:List Nd) (a:(ε ((δ (k:Int))*5) (bG l))=rU x++bG r) (o:lit true (!(x.name== []))=true) (n:lit true (!(iJ x.op))=true) (g:lit false (!b)=true) (j:lit false (decide (((24:Nat):Int)<x.op))=true) (m:lit false (decide (x.op<((1:Nat):Int)))=true) (e:(decide (((0:Nat):Int)≤(k:Int)))=true) (s:(decide ((k:Int)<(l.length:Int)))=true) (p:lit true (decide ((k:Int)<(l.length:Int)))=true) (f:CO 82 [ω x.op] (.ret (.bool (iJ x.op)))) (q:CO 83 [.agg [ω x.op,.bool x.neg,.str x.num,.str x.den,.str x.name]] (.ret (.bool b))):ψ nt f50 ⟨[(0,.sl (bG l) l.length c),(4,ω (k:Int)),(3,ω (d:Int))],[],.dead,[]⟩ (.ret) ⟨[(2,ω 11)],[],.dead,[]⟩:=
 have h:ψ nt f50 ⟨[(0,.sl (bG l) l.length c),(4,ω (k:Int)),(3,ω (d:Int))],[],.dead,[]⟩ (.ret) ⟨[(2,ω 11)],[(0,⟨[ω x.op,.bool x.neg,.str x.num,.str x.den,.str x.name],0,false,0,0,true⟩)],.dead,[]⟩:=pJ 50 [] 6 49 (.c o (.k 1 n (.c g (.c j (.k 1 m (.k 13 e (.c s (.c p .nil)))))))) (.c q (.c f (.v 21 (.ppt a) .nil))) i
 h.forgetD 0 ⟨[ω x.op,.bool x.neg,.str x.num,.str x.den,.str x.name],0,false,0,0,true⟩ (by intro v h;cases h) (by decide) rfl ⟨Fz.same rfl,trivial⟩ rfl rfl
theorem ajt {nt:Nat} (m:69≤nt) (l:List Nd) (c:Bool) (k d:Nat) (b w:Bool) (x:Nd) (r:List Nd) (a:(ε ((δ (k:Int))*5) (bG l))=rU x++bG r) (s:lit true (decide ((d:Int)<(((dP x.op):Nat):Int)))=true) (q:lit false (iJ x.op)=true) (g:lit false (!(x.name== []))=true) (n:lit true (!(iJ x.op))=true) (p:lit false (!b)=true) (e:lit false (decide (((24:Nat):Int)<x.op))=true) (y:lit false (decide (x.op<((1:Nat):Int)))=true) (t:(decide (((0:Nat):Int)≤(k:Int)))=true) (z:(decide ((k:Int)<(l.length:Int)))=true) (j:lit true (decide ((k:Int)<(l.length:Int)))=true) (f:CO 82 [ω x.op] (.ret (.bool (iJ x.op)))) (u:CO 83 [.agg [ω x.op,.bool x.neg,.str x.num,.str x.den,.str x.name]] (.ret (.bool b))) (o:CO 84 [.str x.name] (.ret (.bool w))) (i:CO 85 [ω x.op] (.ret (ω (((dP x.op):Nat):Int)))):ψ nt f50 ⟨[(0,.sl (bG l) l.length c),(4,ω (k:Int)),(3,ω (d:Int))],[],.dead,[]⟩ (.ret) ⟨[(2,ω 11)],[],.dead,[]⟩:=
 have h:ψ nt f50 ⟨[(0,.sl (bG l) l.length c),(4,ω (k:Int)),(3,ω (d:Int))],[],.dead,[]⟩ (.ret) ⟨[(2,ω 11)],[(0,⟨[ω x.op,.bool x.neg,.str x.num,.str x.den,.str x.name],0,false,0,0,true⟩)],.dead,[]⟩:=pJ 50 [] 9 273 (.c s (.k 2 q (.k 1 g (.k 1 n (.c p (.c e (.k 1 y (.k 13 t (.c z (.c j .nil)))))))))) (.c i (.c o (.c u (.c f (.v 21 (.ppt a) .nil))))) m
 h.forgetD 0 ⟨[ω x.op,.bool x.neg,.str x.num,.str x.den,.str x.name],0,false,0,0,true⟩ (by intro v h;cases h) (by decide) rfl ⟨Fz.same rfl,trivial⟩ rfl rfl
theorem aju {nt:Nat} (m:69≤nt) (l:List Nd) (a:Bool) (k d:Nat) (c w:Bool) (x:Nd) (r:List Nd) (b:(ε ((δ (k:Int))*5) (bG l))=rU x++bG r) (s:lit false (decide ((d:Int)<(((dP x.op):Nat):Int)))=true) (q:lit false (iJ x.op)=true) (g:lit false (!(x.name== []))=true) (n:lit true (!(iJ x.op))=true) (p:lit false (!c)=true) (e:lit false (decide (((24:Nat):Int)<x.op))=true) (y:lit false (decide (x.op<((1:Nat):Int)))=true) (t:(decide (((0:Nat):Int)≤(k:Int)))=true) (z:(decide ((k:Int)<(l.length:Int)))=true) (j:lit true (decide ((k:Int)<(l.length:Int)))=true) (f:CO 82 [ω x.op] (.ret (.bool (iJ x.op)))) (u:CO 83 [.agg [ω x.op,.bool x.neg,.str x.num,.str x.den,.str x.name]] (.ret (.bool c))) (o:CO 84 [.str x.name] (.ret (.bool w))) (i:CO 85 [ω x.op] (.ret (ω (((dP x.op):Nat):Int)))):ψ nt f50 ⟨[(0,.sl (bG l) l.length a),(4,ω (k:Int)),(3,ω (d:Int))],[],.dead,[]⟩ (.normal) ⟨[(0,.sl (bG l) l.length a),(4,ω (γ .i64 ((k:Int)+((1:Nat):Int)))),(3,ω (γ .i64 ((γ .i64 ((d:Int) - (((dP x.op):Nat):Int)))+((1:Nat):Int))))],[],.dead,[]⟩:=
 have h:ψ nt f50 ⟨[(0,.sl (bG l) l.length a),(4,ω (k:Int)),(3,ω (d:Int))],[],.dead,[]⟩ (.normal) ⟨[(0,.sl (bG l) l.length a),(4,ω (γ .i64 ((k:Int)+((1:Nat):Int)))),(3,ω (γ .i64 ((γ .i64 ((d:Int) - (((dP x.op):Nat):Int)))+((1:Nat):Int))))],[(0,⟨[ω x.op,.bool x.neg,.str x.num,.str x.den,.str x.name],0,false,0,0,true⟩)],.dead,[]⟩:=pJ 50 [] 9 17 (.c s (.k 2 q (.k 1 g (.k 1 n (.c p (.c e (.k 1 y (.k 13 t (.c z (.c j .nil)))))))))) (.c i (.c o (.c u (.c f (.v 21 (.ppt b) .nil))))) m
 h.forgetD 0 ⟨[ω x.op,.bool x.neg,.str x.num,.str x.den,.str x.name],0,false,0,0,true⟩ (by intro v h;cases h) (by decide) rfl ⟨Fz.same rfl,Fz.same rfl,Fz.same rfl,trivial⟩ rfl rfl
theorem ajv {nt:Nat} (j:69≤nt) (l:List Nd) (e:Bool) (k d:Nat) (b c:Bool) (x:Nd) (r:List Nd) (a:(ε ((δ (k:Int))*5) (bG l))=rU x++bG r) (q:lit true (!c)=true) (p:lit true (iJ x.op)=true) (i:lit false (!(iJ x.op))=true) (m:lit false (!b)=true) (o:lit false (decide (((24:Nat):Int)<x.op))=true) (f:lit false (decide (x.op<((1:Nat):Int)))=true) (u:(decide (((0:Nat):Int)≤(k:Int)))=true) (s:(decide ((k:Int)<(l.length:Int)))=true) (w:lit true (decide ((k:Int)<(l.length:Int)))=true) (g:CO 82 [ω x.op] (.ret (.bool (iJ x.op)))) (t:CO 83 [.agg [ω x.op,.bool x.neg,.str x.num,.str x.den,.str x.name]] (.ret (.bool b))) (n:CO 84 [.str x.name] (.ret (.bool c))):ψ nt f50 ⟨[(0,.sl (bG l) l.length e),(4,ω (k:Int)),(3,ω (d:Int))],[],.dead,[]⟩ (.ret) ⟨[(2,ω 12)],[],.dead,[]⟩:=
 have h:ψ nt f50 ⟨[(0,.sl (bG l) l.length e),(4,ω (k:Int)),(3,ω (d:Int))],[],.dead,[]⟩ (.ret) ⟨[(2,ω 12)],[(0,⟨[ω x.op,.bool x.neg,.str x.num,.str x.den,.str x.name],0,false,0,0,true⟩)],.dead,[]⟩:=pJ 50 [] 8 193 (.c q (.c p (.k 2 i (.c m (.c o (.k 1 f (.k 13 u (.c s (.c w .nil))))))))) (.c n (.c t (.c g (.v 21 (.ppt a) .nil)))) j
 h.forgetD 0 ⟨[ω x.op,.bool x.neg,.str x.num,.str x.den,.str x.name],0,false,0,0,true⟩ (by intro v h;cases h) (by decide) rfl ⟨Fz.same rfl,trivial⟩ rfl rfl
theorem ajw {nt:Nat} (n:69≤nt) (l:List Nd) (e:Bool) (k d:Nat) (b c:Bool) (x:Nd) (r:List Nd) (a:(ε ((δ (k:Int))*5) (bG l))=rU x++bG r) (t:lit true (decide ((d:Int)<(((dP x.op):Nat):Int)))=true) (s:lit false (!c)=true) (i:lit true (iJ x.op)=true) (o:lit false (!(iJ x.op))=true) (q:lit false (!b)=true) (f:lit false (decide (((24:Nat):Int)<x.op))=true) (y:lit false (decide (x.op<((1:Nat):Int)))=true) (u:(decide (((0:Nat):Int)≤(k:Int)))=true) (z:(decide ((k:Int)<(l.length:Int)))=true) (m:lit true (decide ((k:Int)<(l.length:Int)))=true) (g:CO 82 [ω x.op] (.ret (.bool (iJ x.op)))) (w:CO 83 [.agg [ω x.op,.bool x.neg,.str x.num,.str x.den,.str x.name]] (.ret (.bool b))) (p:CO 84 [.str x.name] (.ret (.bool c))) (j:CO 85 [ω x.op] (.ret (ω (((dP x.op):Nat):Int)))):ψ nt f50 ⟨[(0,.sl (bG l) l.length e),(4,ω (k:Int)),(3,ω (d:Int))],[],.dead,[]⟩ (.ret) ⟨[(2,ω 11)],[],.dead,[]⟩:=
 have h:ψ nt f50 ⟨[(0,.sl (bG l) l.length e),(4,ω (k:Int)),(3,ω (d:Int))],[],.dead,[]⟩ (.ret) ⟨[(2,ω 11)],[(0,⟨[ω x.op,.bool x.neg,.str x.num,.str x.den,.str x.name],0,false,0,0,true⟩)],.dead,[]⟩:=pJ 50 [] 9 321 (.c t (.k 1 s (.c i (.k 2 o (.c q (.c f (.k 1 y (.k 13 u (.c z (.c m .nil)))))))))) (.c j (.c p (.c w (.c g (.v 21 (.ppt a) .nil))))) n
 h.forgetD 0 ⟨[ω x.op,.bool x.neg,.str x.num,.str x.den,.str x.name],0,false,0,0,true⟩ (by intro v h;cases h) (by decide) rfl ⟨Fz.same rfl,trivial⟩ rfl rfl
theorem ajx {nt:Nat} (n:69≤nt) (l:List Nd) (a:Bool) (k d:Nat) (c e:Bool) (x:Nd) (r:List Nd) (b:(ε ((δ (k:Int))*5) (bG l))=rU x++bG r) (t:lit false (decide ((d:Int)<(((dP x.op):Nat):Int)))=true) (s:lit false (!e)=true) (i:lit true (iJ x.op)=true) (o:lit false (!(iJ x.op))=true) (q:lit false (!c)=true) (f:lit false (decide (((24:Nat):Int)<x.op))=true) (y:lit false (decide (x.op<((1:Nat):Int)))=true) (u:(decide (((0:Nat):Int)≤(k:Int)))=true) (z:(decide ((k:Int)<(l.length:Int)))=true) (m:lit true (decide ((k:Int)<(l.length:Int)))=true) (g:CO 82 [ω x.op] (.ret (.bool (iJ x.op)))) (w:CO 83 [.agg [ω x.op,.bool x.neg,.str x.num,.str x.den,.str x.name]] (.ret (.bool c))) (p:CO 84 [.str x.name] (.ret (.bool e))) (j:CO 85 [ω x.op] (.ret (ω (((dP x.op):Nat):Int)))):ψ nt f50 ⟨[(0,.sl (bG l) l.length a),(4,ω (k:Int)),(3,ω (d:Int))],[],.dead,[]⟩ (.normal) ⟨[(0,.sl (bG l) l.length a),(4,ω (γ .i64 ((k:Int)+((1:Nat):Int)))),(3,ω (γ .i64 ((γ .i64 ((d:Int) - (((dP x.op):Nat):Int)))+((1:Nat):Int))))],[],.dead,[]⟩:=
 have h:ψ nt f50 ⟨[(0,.sl (bG l) l.length a),(4,ω (k:Int)),(3,ω (d:Int))],[],.dead,[]⟩ (.normal) ⟨[(0,.sl (bG l) l.length a),(4,ω (γ .i64 ((k:Int)+((1:Nat):Int)))),(3,ω (γ .i64 ((γ .i64 ((d:Int) - (((dP x.op):Nat):Int)))+((1:Nat):Int))))],[(0,⟨[ω x.op,.bool x.neg,.str x.num,.str x.den,.str x.name],0,false,0,0,true⟩)],.dead,[]⟩:=pJ 50 [] 9 65 (.c t (.k 1 s (.c i (.k 2 o (.c q (.c f (.k 1 y (.k 13 u (.c z (.c m .nil)))))))))) (.c j (.c p (.c w (.c g (.v 21 (.ppt b) .nil))))) n
 h.forgetD 0 ⟨[ω x.op,.bool x.neg,.str x.num,.str x.den,.str x.name],0,false,0,0,true⟩ (by intro v h;cases h) (by decide) rfl ⟨Fz.same rfl,Fz.same rfl,Fz.same rfl,trivial⟩ rfl rfl
theorem SB {nt:Nat} (a:69≤nt) (l:List Nd) (c:Bool) (k d:Nat) (f e:Bool) (b:lit false (decide ((k:Int)<(l.length:Int)))=true):ψ nt f50 ⟨[(0,.sl (bG l) l.length c),(4,ω (k:Int)),(3,ω (d:Int))],[],.dead,[]⟩ (.exit 0) ⟨[(3,ω (d:Int))],[],.dead,[]⟩:=pJ 50 [] 1 0 (.c b .nil) (.nil) a
theorem aeq (l:List Nd) (a:Bool) (d:Nat) (b:lit true (decide (((60:Nat):Int)<(l.length:Int)))=true):CO 50 [.sl (bG l) l.length a] (.ret (ω 2)):=pK [0] 1 1 (.c b .nil) (.nil)
theorem aer (l:List Nd) (a:Bool) (d:Nat) (e:lit true (!((d:Int)==((1:Nat):Int)))=true) (c:lit false (decide (((60:Nat):Int)<(l.length:Int)))=true) (b:aG prog ap [] 69 (.block 0 (.loop (af 0 (ah f50)))) ⟨[(0,.sl (bG l) l.length a),(2,ω 0),(3,ω 0),(4,ω 0),(5,.dead),(6,.dead),(7,.dead),(8,.dead),(9,.dead),(12,.bool (decide (((60:Nat):Int)<(l.length:Int)))),(16,.dead),(48,.dead),(56,.dead),(62,.dead),(68,.dead)],[],.dead,[]⟩ (.normal) ⟨[(3,ω (d:Int))],[],.dead,[]⟩):CO 50 [.sl (bG l) l.length a] (.ret (ω 11)):=pK [0] 2 2 (.c e (.c c .nil)) (.l b .nil)
theorem aes (l:List Nd) (a:Bool) (d:Nat) (e:lit false (!((d:Int)==((1:Nat):Int)))=true) (c:lit false (decide (((60:Nat):Int)<(l.length:Int)))=true) (b:aG prog ap [] 69 (.block 0 (.loop (af 0 (ah f50)))) ⟨[(0,.sl (bG l) l.length a),(2,ω 0),(3,ω 0),(4,ω 0),(5,.dead),(6,.dead),(7,.dead),(8,.dead),(9,.dead),(12,.bool (decide (((60:Nat):Int)<(l.length:Int)))),(16,.dead),(48,.dead),(56,.dead),(62,.dead),(68,.dead)],[],.dead,[]⟩ (.normal) ⟨[(3,ω (d:Int))],[],.dead,[]⟩):CO 50 [.sl (bG l) l.length a] (.ret (ω 0)):=pK [0] 2 0 (.c e (.c c .nil)) (.l b .nil)
theorem aet (l:List Nd) (a:Bool) (w:Int) (c:lit false (decide (((60:Nat):Int)<(l.length:Int)))=true) (b:aG prog ap [] 69 (.block 0 (.loop (af 0 (ah f50)))) ⟨[(0,.sl (bG l) l.length a),(2,ω 0),(3,ω 0),(4,ω 0),(5,.dead),(6,.dead),(7,.dead),(8,.dead),(9,.dead),(12,.bool (decide (((60:Nat):Int)<(l.length:Int)))),(16,.dead),(48,.dead),(56,.dead),(62,.dead),(68,.dead)],[],.dead,[]⟩ (.ret) ⟨[(2,ω w)],[],.dead,[]⟩):CO 50 [.sl (bG l) l.length a] (.ret (ω w)):=pK [0] 1 0 (.c c .nil) (.l b .nil)
theorem KP (x:Nd) (r:List Nd):bG (x::r)=rU x++bG r:=rfl
theorem Zw (a b:List Nd):bG (a++b)=bG a++bG b:=by unfold bG;rw [List.flatMap_append]
theorem vw (l:List Nd):(bG l).length=l.length*5:=by
 induction l with
 |nil=>rfl
 |cons x r ih=>rw [KP,θ,ih,μ];simp [rU];omega
theorem Cm {p r:List Nd} {x:Nd} {k:Nat} (h:k=p.length):ε (δ (k:Int)*5) (bG (p++x::r))=rU x++bG r:=by
 subst h;rw [aC,Zw,KP,← vw,List.drop_left]
def jD:List Nd→Nat→Nat ⊕ Int
 | [],d=> .inl d
 |x::r,d=>if aI x=0 then (if d<dP x.op then .inr 11 else jD r (d - dP x.op+1)) else .inr (aI x)
def dD (l:List Nd):Int:=if 60<l.length then 2 else match jD l 0 with| .inl d=>if d=1 then 0 else 11| .inr w=>w
def JQ:Nat ⊕ Int→bD
 | .inl _=> .exit 0
 | .inr _=> .ret
def QY (l:List Nd) (nn:Bool) (p:Nat × Nat):St:=⟨[(10,.sl (bG l) l.length nn),(11,ω (l.length:Int)),(12,ω (p.1:Int)),(3,ω (p.2:Int))],[],.dead,[]⟩
def AX:Nat ⊕ Int→St
 | .inl d=> ⟨[(3,.int .i64 (d:Int))],[],.dead,[]⟩
 | .inr w=> ⟨[(2,.int .i64 w)],[],.dead,[]⟩
theorem H6 (a:Int):dP a≤3:=by unfold dP;(repeat' split)<;>omega
theorem rf {x:Nd} (h:aI x=0):1≤x.op∧x.op≤24:=by
 cases a:PD x.op with
 |true=>simpa [PD] using a
 |false=>unfold aI at h;rw [a] at h;simp at h
theorem Uo {nt:Nat} (i:35≤nt) (l p r:List Nd) (e:Bool) (x:Nd) (d:Nat) (t:x.sm) (m:l=p++x::r) (s:l.length<2^40) (hd:d<2^41):
  (¬ aI x=0→ψ nt f44 (QY l e (p.length,d)) .ret (AX (.inr (aI x))))∧
  (aI x=0→d<dP x.op→ψ nt f44 (QY l e (p.length,d)) .ret (AX (.inr 11)))∧
  (aI x=0→¬ d<dP x.op→ψ nt f44 (QY l e (p.length,d)) .normal (QY l e (p.length+1,d - dP x.op+1))):=by
 have b:ε (δ (p.length:Int)*5) (bG l)=rU x++bG r:=by rw [m];exact Cm rfl
 have o:p.length+(r.length+1)=l.length:=by rw [m];simp
 have n:=XD x t;have u:=H6 x.op;unfold QY AX;refine ⟨fun c=> ?_,fun c q=> ?_,fun c q=> ?_⟩
 ·have a:=alp i l e p.length d (aI x) x r b;have g:(!(aI x==((0:Nat):Int)))=true:=by simpa using c
  simp (disch:=first|omega|(simp [au,ay]<;>omega)) only [g,bz,dm,bf,aX] at a;apply a<;>first|exact True.intro|omega|assumption|exact rfl
 ·obtain ⟨f,h⟩:=rf c;have k:=OD f h;rw [c] at n;have a:=alq i l e p.length d 0 x r b;have j:γ .i64 ((d:Int) - ((dP x.op:Nat):Int))=(d:Int) - (dP x.op:Int):=dn (by omega) (by omega);simp (disch:=first|omega|(simp [au,ay]<;>omega)) only [Xqf,k,aY,j,bz,bf,eF,dC,dJ,EH,dm,aX] at a;apply a<;>first|exact True.intro|omega|assumption|exact rfl
 ·obtain ⟨f,h⟩:=rf c;have k:=OD f h;rw [c] at n;have a:=alr i l e p.length d 0 x r b;have j:γ .i64 ((d:Int) - ((dP x.op:Nat):Int))=((d - dP x.op:Nat):Int):=by rw [dn]<;>omega
  simp (disch:=first|omega|(simp [au,ay]<;>omega)) only [Xqf,k,aY,j,aX,dC,dJ,dW,eF,bf,EH,dm,bz,bJ,aS] at a;apply a<;>first|exact True.intro|omega|assumption|exact rfl
theorem Yc {nt:Nat} (e:35≤nt) (l:List Nd) (b:Bool) (c:l.length<2^40) (a:∀ x ∈ l,x.sm):∀ (r p:List Nd) (d:Nat),p++r=l→d≤p.length→aA prog ap [] nt (af 0 (ah f44)) JQ (QY l b) AX (p.length,d) (jD r d):=by
 intro r
 induction r with
 |nil=>
  intro p d h _;have hp:p.length=l.length:=by rw [← h];simp
  rw [hp];exact .done (Un e l b l.length d 0 (by rw [aX];simp [lit]))
 | cons x r ih=>
  intro p d h hd;have j:p.length+(r.length+1)=l.length:=by rw [← h];simp
  obtain ⟨f,g,i⟩:=Uo e l p r b x d (a x (by rw [← h];simp)) h.symm c (by omega);simp only [jD];by_cases h1:aI x=0
  ·rw [if_pos h1];by_cases h2:d<dP x.op
   ·rw [if_pos h2];exact .done (g h1 h2)
   ·rw [if_neg h2];have hnext:=ih (p++ [x]) (d - dP x.op+1) (by simp [h]) (by simp;omega);rw [θ,σ] at hnext;exact .next (i h1 h2) hnext
  ·rw [if_neg h1];exact .done (f h1)
theorem Du (l:List Nd) (a:Bool) (b:∀ x ∈ l,x.sm):CO 44 [.sl (bG l) l.length a] (.ret (ω (dD l))):=by
 unfold dD;by_cases h60:60<l.length
 ·rw [if_pos h60];exact agi l a 0 (by rw [aX];exact Yq0 h60)
 ·rw [if_neg h60];have c:lit false (decide (((60:Nat):Int)<(l.length:Int)))=true:=by rw [aX];simp only [lit,Xqo];exact Yq1 h60
  have hloop:=fun nt (hn:35≤nt)=>Yc hn l a (by omega) b l [] 0 rfl (by simp)
  cases e:jD l 0 with
  | inl d=>
   rw [e] at hloop;by_cases hd:d=1
   ·have h:=agk l a d (by rw [jC,Yq0 hd];rfl) c;simp only [if_pos hd];exact h (aA.blk hloop (by simp [JQ]) rfl (aH.of ⟨rfl,rfl,rfl,rfl,trivial⟩) (aH.of ⟨rfl,trivial⟩))
   ·have h:=agj l a d (by rw [jC,Yq1 hd];rfl) c;simp only [if_neg hd];exact h (aA.blk hloop (by simp [JQ]) rfl (aH.of ⟨rfl,rfl,rfl,rfl,trivial⟩) (aH.of ⟨rfl,trivial⟩))
  |inr w=>
   rw [e] at hloop;exact agl l a w c (aA.blk hloop (by simp [JQ]) rfl (aH.of ⟨rfl,rfl,rfl,rfl,trivial⟩) (aH.of ⟨rfl,trivial⟩))
def Hg (l:List Nd) (nn:Bool) (p:Nat × Nat):St:=⟨[(0,.sl (bG l) l.length nn),(4,ω (p.1:Int)),(3,ω (p.2:Int))],[],.dead,[]⟩
theorem FM {x:Nd} (h:PD x.op=false∨fJ x=false∨(iJ x.op=false∧(x.name== [])=false)):aI x=11:=by
 unfold aI;rcases h with h|h|⟨h,a⟩
 ·rw [h];rfl
 ·rw [h];cases (!PD x.op||(!iJ x.op && !(x.name== [])))<;>rfl
 ·rw [h,a];cases PD x.op<;>rfl
theorem SC {nt:Nat} (m:69≤nt) (l p r:List Nd) (e:Bool) (x:Nd) (d:Nat) (C:x.sm) (y:l=p++x::r) (B:l.length<2^40) (hd:d<2^41):
  (¬ aI x=0→ψ nt f50 (Hg l e (p.length,d)) .ret (AX (.inr (aI x))))∧
  (aI x=0→d<dP x.op→ψ nt f50 (Hg l e (p.length,d)) .ret (AX (.inr 11)))∧
  (aI x=0→¬ d<dP x.op→ψ nt f50 (Hg l e (p.length,d)) .normal (Hg l e (p.length+1,d - dP x.op+1))):=by
 have b:ε (δ (p.length:Int)*5) (bG l)=rU x++bG r:=by rw [y];exact Cm rfl
 have z:p.length+(r.length+1)=l.length:=by rw [y];simp
 have k0:=Zm x.op;have k1:=KT x C;have k2:=WL x.name;have k3:=X5 x.op;have D:=H6 x.op;have j:decide (((0:Nat):Int)≤(p.length:Int))=true:=by simp
 have i:decide ((p.length:Int)<(l.length:Int))=true:=by rw [aX];exact Yq0 (by omega)
 have n:lit true (decide ((p.length:Int)<(l.length:Int)))=true:=i;have A:¬ d<dP x.op→γ .i64 ((d:Int) - ((dP x.op:Nat):Int))=((d - dP x.op:Nat):Int):=fun h=>by rw [dn]<;>omega
 unfold Hg AX;cases u:PD x.op with
 | false=>
  have g:aI x=11:=FM (.inl u);rw [g];refine ⟨fun _=> ?_,fun c=>(by simp at c),fun c=>(by simp at c)⟩;have w:x.op<1∨24<x.op:=by
   have:¬ (1≤x.op∧x.op≤24):=by simpa [PD] using u
   omega
  by_cases c:x.op<1
  ·exact ajp m l e p.length d (fJ x) true x r b (by simp [lit];omega) j i n k0 k1
  ·exact ajq m l e p.length d (fJ x) true x r b (by simp [lit];omega) (by simp [lit];omega) j i n k0 k1
 | true=>
  have w:1≤x.op∧x.op≤24:=by simpa [PD] using u
  have s:lit false (decide (((24:Nat):Int)<x.op))=true:=by simp [lit];omega
  have q:lit false (decide (x.op<((1:Nat):Int)))=true:=by simp [lit];omega
  cases t:fJ x with
  |false=>
   have g:aI x=11:=FM (.inr (.inl t));rw [g];rw [t] at k1;refine ⟨fun _=> ?_,fun c=>(by simp at c),fun c=>(by simp at c)⟩;exact ajr m l e p.length d false true x r b rfl s q j i n k0 k1
  | true=>
   rw [t] at k1;cases a:iJ x.op with
   | false=>
    rw [a] at k0;cases f:(x.name== []) with
    |false=>
     have g:aI x=11:=FM (.inr (.inr ⟨a,f⟩));rw [g];refine ⟨fun _=> ?_,fun c=>(by simp at c),fun c=>(by simp at c)⟩;exact ajs m l e p.length d true true x r b (by rw [f];rfl) (by rw [a];rfl) rfl s q j i n (by rw [a];exact k0) k1
    | true=>
     have g:aI x=0:=by unfold aI;rw [u,a,f,t];rfl
     refine ⟨fun h=>absurd g h,fun _ k=> ?_,fun _ k=> ?_⟩
     ·exact ajt m l e p.length d true _ x r b (by rw [aX,Yq0 k];rfl) (by rw [a];rfl) (by rw [f];rfl) (by rw [a];rfl) rfl s q j i n (by rw [a];exact k0) k1 k2 k3
     ·have v:=aju m l e p.length d true _ x r b (by rw [aX,Yq1 k];rfl) (by rw [a];rfl) (by rw [f];rfl) (by rw [a];rfl) rfl s q j i n (by rw [a];exact k0) k1 k2 k3;rw [A k,yX (by omega),yX (by omega)] at v;exact v
   | true=>
    rw [a] at k0;cases o:uz x.name with
    |false=>
     have g:aI x=12:=by unfold aI;rw [u,a,t,o];rfl
     rw [g];rw [o] at k2;refine ⟨fun _=> ?_,fun c=>(by simp at c),fun c=>(by simp at c)⟩;exact ajv m l e p.length d true false x r b rfl (by rw [a];rfl) (by rw [a];rfl) rfl s q j i n (by rw [a];exact k0) k1 k2
    | true=>
     have g:aI x=0:=by unfold aI;rw [u,a,t,o];rfl
     rw [o] at k2;refine ⟨fun h=>absurd g h,fun _ k=> ?_,fun _ k=> ?_⟩
     ·exact ajw m l e p.length d true true x r b (by rw [aX,Yq0 k];rfl) rfl (by rw [a];rfl) (by rw [a];rfl) rfl s q j i n (by rw [a];exact k0) k1 k2 k3
     ·have v:=ajx m l e p.length d true true x r b (by rw [aX,Yq1 k];rfl) rfl (by rw [a];rfl) (by rw [a];rfl) rfl s q j i n (by rw [a];exact k0) k1 k2 k3;rw [A k,yX (by omega),yX (by omega)] at v;exact v
theorem WB {nt:Nat} (e:69≤nt) (l:List Nd) (b:Bool) (c:l.length<2^40) (a:∀ x ∈ l,x.sm):∀ (r p:List Nd) (d:Nat),p++r=l→d≤p.length→aA prog ap [] nt (af 0 (ah f50)) JQ (Hg l b) AX (p.length,d) (jD r d):=by
 intro r
 induction r with
 |nil=>
  intro p d h _;have hp:p.length=l.length:=by rw [← h];simp
  rw [hp];exact .done (SB e l b l.length d true true (by rw [aX];simp [lit]))
 | cons x r ih=>
  intro p d h hd;have j:p.length+(r.length+1)=l.length:=by rw [← h];simp
  obtain ⟨f,g,i⟩:=SC e l p r b x d (a x (by rw [← h];simp)) h.symm c (by omega);simp only [jD];by_cases h1:aI x=0
  ·rw [if_pos h1];by_cases h2:d<dP x.op
   ·rw [if_pos h2];exact .done (g h1 h2)
   ·rw [if_neg h2];have hnext:=ih (p++ [x]) (d - dP x.op+1) (by simp [h]) (by simp;omega);rw [θ,σ] at hnext;exact .next (i h1 h2) hnext
  ·rw [if_neg h1];exact .done (f h1)
theorem Hf (l:List Nd) (a:Bool) (b:∀ x ∈ l,x.sm):CO 50 [.sl (bG l) l.length a] (.ret (ω (dD l))):=by
 unfold dD;by_cases h60:60<l.length
 ·rw [if_pos h60];exact aeq l a 0 (by rw [aX];exact Yq0 h60)
 ·rw [if_neg h60];have c:lit false (decide (((60:Nat):Int)<(l.length:Int)))=true:=by rw [aX];simp only [lit,Xqo];exact Yq1 h60
  have hloop:=fun nt (hn:69≤nt)=>WB hn l a (by omega) b l [] 0 rfl (by simp)
  cases e:jD l 0 with
  | inl d=>
   rw [e] at hloop;by_cases hd:d=1
   ·have h:=aes l a d (by rw [jC,Yq0 hd];rfl) c;simp only [if_pos hd];exact h (aA.blk hloop (by simp [JQ]) rfl (aH.of ⟨rfl,rfl,rfl,trivial⟩) (aH.of ⟨rfl,trivial⟩))
   ·have h:=aer l a d (by rw [jC,Yq1 hd];rfl) c;simp only [if_neg hd];exact h (aA.blk hloop (by simp [JQ]) rfl (aH.of ⟨rfl,rfl,rfl,trivial⟩) (aH.of ⟨rfl,trivial⟩))
  |inr w=>
   rw [e] at hloop;exact aet l a w c (aA.blk hloop (by simp [JQ]) rfl (aH.of ⟨rfl,rfl,rfl,trivial⟩) (aH.of ⟨rfl,trivial⟩))
theorem afZ {nt:Nat} (i:45≤nt) (l:List Nd) (a:Bool) (k:Nat) (C:List AV) (p own:List Nat) (x:Nd) (r:List Nd) (b:(ε ((δ (k:Int))*5) (bG l))=rU x++bG r) (e:(decide ((γ .i64 (((0:Nat):Int) - (τ (ζ (ε ((0+((δ x.op)*5))+1) jI) .dead))))=0))=true) (m:(Xqm (((0+(δ (k:Int)))*1)+1) (η C))=true) (c:(decide (((0:Nat):Int)≤(k:Int)))=true) (d:(decide ((k:Int)<(l.length:Int)))=true) (j:(chk (.int .i64) (ζ (ε ((0+((δ x.op)*5))+1) jI) .dead))=true) (f:(decide (((0:Nat):Int)≤x.op))=true) (o:(decide (x.op<((25:Nat):Int)))=true) (n:lit true (decide ((k:Int)<(l.length:Int)))=true) (g:CO 59 [.nilS] (.ret (.sl (aj own) own.length false))):ψ nt f24 ⟨[(15,.sl (bG l) l.length a),(16,ω (l.length:Int)),(17,ω (k:Int)),(4,.ref 0 0 0 l.length),(5,.nilS)],[(0,⟨C,0,false,0,1,true⟩)],.dead,[]⟩ (.normal) ⟨[(15,.sl (bG l) l.length a),(16,ω (l.length:Int)),(17,ω (γ .i64 ((k:Int)+((1:Nat):Int)))),(4,.ref 0 0 0 l.length),(5,.ref 1 0 0 1)],[(0,⟨(ν ((0+(δ (k:Int)))*1) C++ [.sl (aj own) own.length false]++ε (((0+(δ (k:Int)))*1)+1) C),0,false,0,1,true⟩),(1,⟨[ω (k:Int)],0,false,0,1,true⟩)],.dead,[]⟩:=
 have h:ψ nt f24 ⟨[(15,.sl (bG l) l.length a),(16,ω (l.length:Int)),(17,ω (k:Int)),(4,.ref 0 0 0 l.length),(5,.nilS)],[(0,⟨C,0,false,0,1,true⟩)],.dead,[]⟩ (.normal) ⟨[(15,.sl (bG l) l.length a),(16,ω (l.length:Int)),(17,ω (γ .i64 ((k:Int)+((1:Nat):Int)))),(4,.ref 0 0 0 l.length),(5,.ref 1 0 0 1)],[(0,⟨(ν ((0+(δ (k:Int)))*1) C++ [.sl (aj own) own.length false]++ε (((0+(δ (k:Int)))*1)+1) C),0,false,0,1,true⟩),(1,⟨[ω (k:Int)],0,false,0,1,true⟩),(2,⟨[ω x.op,.bool x.neg,.str x.num,.str x.den,.str x.name],0,false,0,0,true⟩)],.dead,[]⟩:=pJ 24 [] 2 1 (.k 4 e (.c m (.c c (.c d (.c e (.k 1 j (.c f (.c o (.k 7 c (.c d (.c n .nil))))))))))) (.c g (.v 20 (.ppt b) .nil)) i
 h.forgetD 2 ⟨[ω x.op,.bool x.neg,.str x.num,.str x.den,.str x.name],0,false,0,0,true⟩ (by intro v h;cases h) (by decide) rfl ⟨Fz.same rfl,Fz.same rfl,Fz.same rfl,Fz.same rfl,Fz.same rfl,trivial⟩ ⟨rfl,MH.same rfl,by decide,rfl,MH.same rfl,by decide,rfl⟩ rfl
theorem QR {nt:Nat} (a:45≤nt) (l:List Nd) (c:Bool) (k:Nat) (C:List AV) (d own:List Nat) (b:lit false (decide ((k:Int)<(l.length:Int)))=true):ψ nt f24 ⟨[(15,.sl (bG l) l.length c),(16,ω (l.length:Int)),(17,ω (k:Int)),(4,.ref 0 0 0 l.length),(5,.nilS)],[(0,⟨C,0,false,0,1,true⟩)],.dead,[]⟩ (.exit 0) ⟨[(4,.ref 0 0 0 l.length)],[(0,⟨C,0,false,0,1,true⟩)],.dead,[]⟩:=pJ 24 [] 1 0 (.c b .nil) (.nil) a
theorem afW {nt:Nat} (o:45≤nt) (l:List Nd) (b:Bool) (k:Nat) (C:List AV) (a own:List Nat) (x:Nd) (r:List Nd) (c:(ε ((δ (k:Int))*5) (bG l))=rU x++bG r) (s:(Xqm (((δ (γ .i64 ((a.length:Int) - (τ (ζ (ε ((0+((δ x.op)*5))+1) jI) .dead))))) - 0)+1) 1099511627776)=true) (q:(Xqm (((δ (γ .i64 ((a.length:Int) - (τ (ζ (ε ((0+((δ x.op)*5))+1) jI) .dead))))) - 0)*1) (η (aj a)))=true) (g:(decide (((0:Nat):Int)≤(γ .i64 ((a.length:Int) - (τ (ζ (ε ((0+((δ x.op)*5))+1) jI) .dead))))))=true) (i:(decide ((γ .i64 ((a.length:Int) - (τ (ζ (ε ((0+((δ x.op)*5))+1) jI) .dead))))≤(a.length:Int)))=true) (p:(Xqm (((0+(δ (k:Int)))*1)+1) (η C))=true) (f:(decide (((0:Nat):Int)≤(k:Int)))=true) (j:(decide ((k:Int)<(l.length:Int)))=true) (t:(decide ((a.length:Int)≤(a.length:Int)))=true) (u:(chk (.int .i64) (ζ (ε ((0+((δ x.op)*5))+1) jI) .dead))=true) (n:(decide (((0:Nat):Int)≤x.op))=true) (d:(decide (x.op<((25:Nat):Int)))=true) (e:lit true (decide ((k:Int)<(l.length:Int)))=true) (m:bC prog ap 59 [.ref 0 0 (0+(δ (γ .i64 ((a.length:Int) - (τ (ζ (ε ((0+((δ x.op)*5))+1) jI) .dead)))))) ((δ (a.length:Int)) - (δ (γ .i64 ((a.length:Int) - (τ (ζ (ε ((0+((δ x.op)*5))+1) jI) .dead))))))] [⟨(aj a),0,false,0,1,true⟩] (.ret (.sl (aj own) own.length false)) [⟨(aj a),0,false,0,1,true⟩]):ψ nt f24 ⟨[(15,.sl (bG l) l.length b),(16,ω (l.length:Int)),(17,ω (k:Int)),(4,.ref 0 0 0 l.length),(5,.ref 1 0 0 a.length)],[(0,⟨C,0,false,0,1,true⟩),(1,⟨(aj a),0,false,0,1,true⟩)],.dead,[]⟩ (.normal) ⟨[(15,.sl (bG l) l.length b),(16,ω (l.length:Int)),(17,ω (γ .i64 ((k:Int)+((1:Nat):Int)))),(4,.ref 0 0 0 l.length),(5,.ref 1 0 0 (((δ (γ .i64 ((a.length:Int) - (τ (ζ (ε ((0+((δ x.op)*5))+1) jI) .dead))))) - 0)+1))],[(0,⟨(ν ((0+(δ (k:Int)))*1) C++ [.sl (aj own) own.length false]++ε (((0+(δ (k:Int)))*1)+1) C),0,false,0,1,true⟩),(1,⟨((ν (((δ (γ .i64 ((a.length:Int) - (τ (ζ (ε ((0+((δ x.op)*5))+1) jI) .dead))))) - 0)*1) (aj a))++ [ω (k:Int)]),0,false,0,1,true⟩)],.dead,[]⟩:=
 have h:ψ nt f24 ⟨[(15,.sl (bG l) l.length b),(16,ω (l.length:Int)),(17,ω (k:Int)),(4,.ref 0 0 0 l.length),(5,.ref 1 0 0 a.length)],[(0,⟨C,0,false,0,1,true⟩),(1,⟨(aj a),0,false,0,1,true⟩)],.dead,[]⟩ (.normal) ⟨[(15,.sl (bG l) l.length b),(16,ω (l.length:Int)),(17,ω (γ .i64 ((k:Int)+((1:Nat):Int)))),(4,.ref 0 0 0 l.length),(5,.ref 1 0 0 (((δ (γ .i64 ((a.length:Int) - (τ (ζ (ε ((0+((δ x.op)*5))+1) jI) .dead))))) - 0)+1))],[(0,⟨(ν ((0+(δ (k:Int)))*1) C++ [.sl (aj own) own.length false]++ε (((0+(δ (k:Int)))*1)+1) C),0,false,0,1,true⟩),(1,⟨((ν (((δ (γ .i64 ((a.length:Int) - (τ (ζ (ε ((0+((δ x.op)*5))+1) jI) .dead))))) - 0)*1) (aj a))++ [ω (k:Int)]),0,false,0,1,true⟩),(2,⟨[ω x.op,.bool x.neg,.str x.num,.str x.den,.str x.name],0,false,0,0,true⟩)],.dead,[]⟩:=pJ 24 [] 1 1 (.k 1 s (.c q (.k 2 g (.c i (.c p (.c f (.c j (.c g (.c i (.c t (.c u (.c n (.c d (.k 7 f (.c j (.c e .nil)))))))))))))))) (.c m (.v 20 (.ppt c) .nil)) o
 h.forgetD 2 ⟨[ω x.op,.bool x.neg,.str x.num,.str x.den,.str x.name],0,false,0,0,true⟩ (by intro v h;cases h) (by decide) rfl ⟨Fz.same rfl,Fz.same rfl,Fz.same rfl,Fz.same rfl,Fz.same rfl,trivial⟩ ⟨rfl,MH.same rfl,by decide,rfl,MH.same rfl,by decide,rfl⟩ rfl
theorem QQ {nt:Nat} (b:45≤nt) (l:List Nd) (d:Bool) (k:Nat) (C:List AV) (a own:List Nat) (c:lit false (decide ((k:Int)<(l.length:Int)))=true):ψ nt f24 ⟨[(15,.sl (bG l) l.length d),(16,ω (l.length:Int)),(17,ω (k:Int)),(4,.ref 0 0 0 l.length),(5,.ref 1 0 0 a.length)],[(0,⟨C,0,false,0,1,true⟩),(1,⟨(aj a),0,false,0,1,true⟩)],.dead,[]⟩ (.exit 0) ⟨[(4,.ref 0 0 0 l.length)],[(0,⟨C,0,false,0,1,true⟩),(1,⟨(aj a),0,false,0,1,true⟩)],.dead,[]⟩:=pJ 24 [] 1 0 (.c c .nil) (.nil) b
theorem afX (l:List Nd) (a:Bool) (w:Int) (C:List AV) (c:lit true (!(w==((0:Nat):Int)))=true) (b:CO 44 [.sl (bG l) l.length a] (.ret (ω w))):CO 24 [.sl (bG l) l.length a] (.ret (.tup [.nilS,.bool false])):=pK [0] 1 1 (.c c .nil) (.c b .nil)
theorem afY (l:List Nd) (a:Bool) (w:Int) (C:List AV) (f:(decide (((0:Nat):Int)≤(l.length:Int)))=true) (c:(decide ((l.length:Int)=(l.length:Int)))=true) (g:(decide ((l.length:Int)≤((1099511627776:Nat):Int)))=true) (d:lit false (!(w==((0:Nat):Int)))=true) (e:CO 44 [.sl (bG l) l.length a] (.ret (ω w))) (b:aG prog ap [] 45 (.block 0 (.loop (af 0 (ah f24)))) ⟨[(0,.sl (bG l) l.length a),(2,.nilS),(3,.bool false),(4,.ref 0 0 0 (δ (l.length:Int))),(5,.nilS),(6,.dead),(7,.dead),(8,.dead),(11,.bool (!(w==((0:Nat):Int)))),(15,.sl (bG l) l.length a),(16,ω (l.length:Int)),(17,ω 0),(18,.dead)],[(0,⟨(gp (δ (l.length:Int)) [.nilS]),0,false,0,1,true⟩)],.dead,[]⟩ (.normal) ⟨[(4,.ref 0 0 0 l.length)],[(0,⟨C,0,false,0,1,true⟩)],.dead,[]⟩):CO 24 [.sl (bG l) l.length a] (.ret (.tup [.own (ν (l.length*1) C) l.length 1,.bool true])):=pK [0] 1 0 (.c f (.c c (.c g (.c d .nil)))) (.l b (.c e .nil))
theorem agn:CO 59 [.nilS] (.ret (.nilS)):=pK [] 1 1 (.n 1 .nil) (.nil)
theorem agm (a:List Nat) (i n:Nat) (c:(Xqq (η (ν (n*1) (ε (i*1) (aj a)))) (n*1))=true) (b:(Xqm (0+n) 1099511627776)=true):bC prog ap 59 [.ref 0 0 i n] [⟨(aj a),0,false,0,1,true⟩] (.ret (.own (ν ((0+n)*1) ([]++(ν (n*1) (ε (i*1) (aj a))))) (0+n) 1)) [⟨(aj a),0,false,0,1,true⟩]:=pK [] 1 0 (.c c (.c b (.n 3 .nil))) (.nil)
def zg:List Nd→Nat→List Nat→List (List Nat)
 | [],_,_=> []
 |x::r,k,st=>st.drop (st.length - dP x.op)::zg r (k+1) (st.take (st.length - dP x.op)++ [k])
def fC (l:List Nd):List (List Nat):=zg l 0 []
def QS (a:List Nat):AV:= .sl (aj a) a.length false
def dh (ll:List (List Nat)):List AV:=ll.map QS
def stR:List Nd→Nat→List Nat→List Nat
 | [],_,st=>st
 |x::r,k,st=>stR r (k+1) (st.take (st.length - dP x.op)++ [k])
theorem JJ (r:List Nd):∀ k a,(zg r k a).length=r.length:=by
 induction r with
 |nil=>intros;rfl
 |cons x r ih=>intro k a;simp only [zg,μ,ih]
def agE (st:List Nat):AV:=match st with| []=> .nilS|x::l=> .ref 1 0 0 (x::l).length
def agH (st:List Nat):Hp:=match st with| []=> []|x::l=> [(1,⟨aj (x::l),0,false,0,1,true⟩)]
theorem MM {l:List Nat} (h:l ≠ []):agE l= .ref 1 0 0 l.length:=by cases l with|nil=>exact absurd rfl h|cons _ _=>rfl
theorem Hz {l:List Nat} (h:l ≠ []):agH l= [(1,⟨aj l,0,false,0,1,true⟩)]:=by cases l with|nil=>exact absurd rfl h|cons _ _=>rfl
def HY (l:List Nd) (nn:Bool) (p:Nat × List Nat × List AV):St:=⟨[(15,.sl (bG l) l.length nn),(16,ω (l.length:Int)),(17,ω (p.1:Int)),(4,.ref 0 0 0 l.length),(5,agE p.2.1)],(0,⟨p.2.2,0,false,0,1,true⟩)::agH p.2.1,.dead,[]⟩
def Gp (l:List Nd) (p:List Nat × List AV):St:=⟨[(4,.ref 0 0 0 l.length)],(0,⟨p.2,0,false,0,1,true⟩)::agH p.1,.dead,[]⟩
theorem Q4:bC prog ap 59 [.nilS] [] (.ret (.sl (aj []) ([]:List Nat).length false)) []:=agn.out (jW.ret rfl rfl (aT.nilS false rfl))
theorem Uu (a:List Nat) (i n:Nat) (h:i+n=a.length) (g:a.length<2^40):bC prog ap 59 [.ref 0 0 i n] [⟨aj a,0,false,0,1,true⟩] (.ret (.sl (aj (a.drop i)) n false)) [⟨aj a,0,false,0,1,true⟩]:=by
 have e:=agm a i n;have f:n≤a.length:=by omega
 have c:ν n (ε i (aj a))=aj (a.drop i):=by
  rw [J3,dF,Xqc (by simp;omega)]
 have b:(aj (a.drop i)).length=n:=by rw [bW,Xxx];omega
 simp (disch:=first|omega|(simp [au,ay]<;>omega)) only [χ,c,b,IW,decide_true,Xqf,fQ,bf,Xqk] at e;have d:=(e True.intro (by omega)).thaw (by simp);simp only [yO,thaw,χ] at d;rw [Xqc (by rw [Xq2,b];omega),Xqc (by omega)] at d;exact d.out (jW.sl1 _ _ _)
theorem XQ {nt:Nat} (k:45≤nt) (l p r:List Nd) (e:Bool) (x:Nd) (a:List Nat) (C C2:List AV) (i:l=p++x::r) (v:l.length<2^39) (g:1≤x.op∧x.op≤24) (h:dP x.op≤a.length) (z:a.length≤p.length) (n:C.length=l.length)
  (hset:ν p.length C++ [QS (a.drop (a.length - dP x.op))]++ε (p.length+1) C=C2):
  ψ nt f24 (HY l e (p.length,a,C)) .normal (HY l e (p.length+1,a.take (a.length - dP x.op)++ [p.length],C2)):=by
 have c:ε (δ (p.length:Int)*5) (bG l)=rU x++bG r:=by rw [i];exact Cm rfl
 have j:p.length+(r.length+1)=l.length:=by rw [i];simp
 obtain ⟨t,y⟩:=g;have o:=OD t y;unfold HY;simp only;rw [MM (ja _ _),Hz (ja _ _)];rcases Xxn (a= []) with rfl|hne
 ·have u:dP x.op=0:=by simpa using h
  have b:=afZ k l e p.length C [] [] x r c;simp only [Xqb,Nat.zero_sub,List.drop_nil,List.take_nil,Xqk] at hset ⊢;unfold QS at hset;have f:=Q4;simp (disch:=first|omega|(simp [au,ay]<;>omega)) only [Xqf,o,u,aY,jP,Xjx,bf,aC,χ,n,fQ,dm,aX,eF,bz,Xqb,bJ,aS] at b;simp only [agE,agH,aj,Xqi,Xjd,μ,Xqb,Xqf] at b hset f ⊢;rw [hset] at b;apply b<;>first|exact True.intro|omega|assumption|exact rfl|skip
 ·have q:=Uu a (a.length - dP x.op) (dP x.op) (by omega) (by omega);have b:=afW k l e p.length C a (a.drop (a.length - dP x.op)) x r c;rw [MM hne,Hz hne];unfold QS at hset;generalize B:a.length - dP x.op=m at*
  have d:(a.drop m).length=dP x.op:=by rw [Xxx];omega
  have A:γ .i64 ((a.length:Int) - ((dP x.op:Nat):Int))=(m:Int):=by rw [dn]<;>omega
  have w:a.length - m=dP x.op:=by omega
  rw [d] at b hset;have s:(a.take m).length=m:=by rw [Xq2];omega
  simp (disch:=first|omega|(simp [au,ay]<;>omega)) only [Xqf,o,aY,A,aC,Xjx,fQ,bf,χ,bW,dm,n,aX,eF,bz,w,bJ,aS,hset,dF,kK] at b;simp only [θ,σ,s];apply b<;>first|exact True.intro|omega|assumption|exact rfl|skip
theorem Yb {r:List Nd} {d e:Nat} {x:Nd} (h:jD (x::r) d= .inl e):(1≤x.op∧x.op≤24)∧dP x.op≤d∧jD r (d - dP x.op+1)= .inl e:=by
 simp only [jD] at h;by_cases h1:aI x=0
 ·rw [if_pos h1] at h;by_cases h2:d<dP x.op
  ·rw [if_pos h2] at h;cases h
  ·rw [if_neg h2] at h;exact ⟨rf h1,by omega,h⟩
 ·rw [if_neg h1] at h;cases h
theorem uS (a:List (List Nat)):(dh a).length=a.length:=by simp [dh]
theorem QT (done:List (List Nat)) (a:List Nat) (m:Nat):ν done.length (dh done++κ (m+1) Xku)++ [QS a]++ε (done.length+1) (dh done++κ (m+1) Xku)=dh (done++ [a])++κ m Xku:=by
 have b:=uS done;rw [List.take_append_of_le_length (by omega),Xqc (by omega),List.drop_append,Xjf (by omega),Xqk,show done.length+1 - (dh done).length=1 by omega,Xxb,List.drop_succ_cons,Xzh];unfold dh;rw [Xxy];rfl
theorem XP {nt:Nat} (j:45≤nt) (l:List Nd) (f:Bool) (i:l.length<2^39) (e:Nat):∀ (r p:List Nd) (a:List Nat) (done:List (List Nat)),p++r=l→jD r a.length= .inl e→a.length≤p.length→done.length=p.length→aA prog ap [] nt (af 0 (ah f24)) (fun _=> .exit 0) (HY l f) (Gp l) (p.length,a,dh done++κ r.length .nilS) (stR r p.length a,dh (done++zg r p.length a)):=by
 intro r
 induction r with
 | nil=>
  intro p a done h n d hd;have hp:p.length=l.length:=by rw [← h];simp
  rw [hp];simp only [zg,stR,Θ,Xqb,Xz9];refine .done ?_;unfold HY Gp;have o:ψ nt f24 (HY l f (l.length,a,dh done)) (.exit 0) (Gp l (a,dh done)):=by
   unfold HY Gp;rcases Xxn (a= []) with rfl|hne
   ·exact QR j l f l.length (dh done) [] [] (by rw [aX];simp [lit])
   ·simp only;rw [MM hne,Hz hne];exact QQ j l f l.length (dh done) a [] (by rw [aX];simp [lit])
  exact o
 | cons x r ih=>
  intro p a done h n d hd;obtain ⟨k,m,g⟩:=Yb n;have q:p.length+(r.length+1)=l.length:=by rw [← h];simp
  have b:(a.take (a.length - dP x.op)++ [p.length]).length=a.length - dP x.op+1:=by
   rw [θ,Xq2,σ,Xx7 (by omega)]
  have hnext:=ih (p++ [x]) (a.take (a.length - dP x.op)++ [p.length]) (done++ [a.drop (a.length - dP x.op)]) (by simp [h]) (by rw [b];exact g) (by rw [b];simp;omega) (by simp [hd]);rw [θ,σ,Xqe] at hnext;simp only [zg,stR,μ];have c:=QT done (a.drop (a.length - dP x.op)) r.length;rw [hd] at c;have hstep:=XQ j l p r f x a (dh done++κ (r.length+1) .nilS) _ h.symm i k m d (by rw [θ,uS,Xxs];omega) c;exact .next hstep hnext
theorem WF (n:Nat):gp n [Xku]=κ n Xku:=by
 unfold gp
 induction n with
 |zero=>rfl
 |succ n ih=>rw [Xxb,List.flatten_cons,ih,Xxb];rfl
theorem MX {l:List Nd} (h:dD l=0):l.length≤60∧jD l 0= .inl 1:=by
 unfold dD at h;by_cases h60:60<l.length
 ·rw [if_pos h60] at h;cases h
 ·rw [if_neg h60] at h;refine ⟨by omega, ?_⟩;have a:∀ (r:List Nd) (d:Nat) (w:Int),jD r d= .inr w→w ≠ 0:=by
   intro r
   induction r with
   |nil=>intro d w h;cases h
   | cons x r ih=>
    intro d w h;simp only [jD] at h;by_cases h1:aI x=0
    ·rw [if_pos h1] at h;by_cases h2:d<dP x.op
     ·rw [if_pos h2] at h;cases h;decide
     ·rw [if_neg h2] at h;exact ih _ _ h
    ·rw [if_neg h1] at h;cases h;exact h1
  cases b:jD l 0 with
  |inl d=>
   rw [b] at h;by_cases hd:d=1
   ·rw [hd]
   ·simp only [if_neg hd] at h;cases h
  |inr w=>rw [b] at h;exact absurd h (a l 0 w b)
theorem XW (l:List Nd) (b:Bool) (g:∀ x ∈ l,x.sm) (n:dD l=0):CO 24 [.sl (bG l) l.length b] (.ret (.tup [.sl (dh (fC l)) l.length true,.bool true])):=by
 have c:ν l.length (dh (fC l))=dh (fC l):=Xqc (by rw [uS];unfold fC;rw [JJ];omega)
 suffices hown:CO 24 [.sl (bG l) l.length b] (.ret (.tup [.own (dh (fC l)) l.length 1,.bool true])) by
  have h:=hown.thaw (by simp);simp only [yO,Xqi,Xjd,thaw,χ,c] at h;exact h
 have f:=Du l b g;obtain ⟨o,e⟩:=MX n;rw [n] at f;have hloop:=fun nt (hn:45≤nt)=>XP hn l b (by omega) 1 l [] [] [] rfl e (by simp) rfl
 have i:(fC l).length=l.length:=JJ l 0 [];have h:=afY l b 0 (dh (fC l));simp (disch:=first|omega|(simp [au,ay]<;>omega)) only [dm,bf,decide_true,dC,dJ,EH,aC,WF,χ,c] at h;have m:(dh (fC l)).length=l.length:=by rw [uS,i]
 have p:l.length<1099511627776:=by omega
 apply h<;>first|exact True.intro|omega|assumption|exact rfl|skip
 intro nt j;have d:=aA.blk (s:=HY l b (0,[],κ l.length Xku)) (s':=Gp l (stR l 0 [],dh (fC l))) (id:=0) hloop (by simp) rfl (aH.refl _) (aH.refl _) nt j;unfold HY Gp at d;simp only [agE,agH] at d;have a:=d.weak (s':=⟨[(0,.sl (bG l) l.length b),(2,.nilS),(3,.bool false),(4,.ref 0 0 0 l.length),(5,.nilS),(6,.dead),(7,.dead),(8,.dead),(11,.bool false),(15,.sl (bG l) l.length b),(16,ω (l.length:Int)),(17,ω 0),(18,.dead)],[(0,⟨κ l.length Xku,0,false,0,1,true⟩)],.dead,[]⟩) (aH.of ⟨rfl,rfl,rfl,rfl,rfl,trivial⟩) (aH.refl _);rcases Xxn (stR l 0 []= []) with he|he
 ·rw [he] at a;exact a
 ·have k:=Hz he;unfold agH at k;rw [k] at a;exact a.forget 1 _ (by intro v h;cases h) (by decide) rfl ⟨Fz.same rfl,trivial⟩ ⟨rfl,MH.same rfl,by decide,rfl⟩
theorem TP (k:Nat):decide (((0:Nat):Int)≤(k:Int))=true:=Yq0 (by omega)
theorem qH {k n:Nat} (h:k<n):decide ((k:Int)<(n:Int))=true:=Yq0 (by omega)
theorem BN {k n:Nat} (h:n≤k):decide ((k:Int)<(n:Int))=false:=Yq1 (by omega)
def ixE:Option Nat→bD
 |none=> .exit 0
 |some _=> .ret
def ixI:Option Nat→Int
 |none=> -1
 |some i=>(i:Int)
theorem sJ {p q:Prop} (h:p) (e:p=q):q:=e ▸ h
theorem alQ {nt:Nat} (A:92≤nt) (u v o:List Nat) (i j c a x y:Nat) (g:ω (τ (ζ (ε ((0+(δ (((i+j):Nat):Int)))*1) (aj o)) .dead))= ω (x:Int)) (f:ω (τ (ζ (ε ((δ (i:Int))*1) (aj u)) .dead))= ω (a:Int)) (m:ω (τ (ζ (ε ((δ (j:Int))*1) (aj v)) .dead))= ω (y:Int)) (k:ω (γ .i64 ((a:Int)*(y:Int)))= ω (((a*y):Nat):Int)) (p:ω (γ .i64 ((x:Int)+(((a*y):Nat):Int)))= ω (((x+a*y):Nat):Int)) (n:ω (γ .i64 ((((x+a*y):Nat):Int)+(c:Int)))= ω (((x+a*y+c):Nat):Int)) (d:ω (γ .i64 ((i:Int)+(j:Int)))= ω (((i+j):Nat):Int)) (e:ω (Xjt (((x+a*y+c):Nat):Int) ((16777216:Nat):Int))= ω ((((x+a*y+c) % 16777216):Nat):Int)) (l:ω (γ .i64 (Xxd (((x+a*y+c):Nat):Int) ((16777216:Nat):Int)))= ω ((((x+a*y+c) / 16777216):Nat):Int)) (h:ω (γ .i64 ((j:Int)+((1:Nat):Int)))= ω (((j+1):Nat):Int)) (B:(Xqm (((0+(δ (((i+j):Nat):Int)))*1)+1) (η (aj o)))=true) (q:(decide (((0:Nat):Int)≤(((i+j):Nat):Int)))=true) (r:(decide ((((i+j):Nat):Int)<(o.length:Int)))=true) (w:(chk (.int .i64) (ζ (ε ((δ (j:Int))*1) (aj v)) .dead))=true) (t:(decide (((0:Nat):Int)≤(j:Int)))=true) (s:(chk (.int .i64) (ζ (ε ((δ (i:Int))*1) (aj u)) .dead))=true) (z:(decide (((0:Nat):Int)≤(i:Int)))=true) (D:(decide ((i:Int)<(u.length:Int)))=true) (C:(chk (.int .i64) (ζ (ε ((0+(δ (((i+j):Nat):Int)))*1) (aj o)) .dead))=true) (b:(decide ((j:Int)<(v.length:Int)))=true):ak prog ap [] nt (af 2 (ah f100)) ⟨[(9,.sl (aj u) u.length false),(10,.sl (aj v) v.length false),(11,.ref 0 0 0 o.length),(12,ω (i:Int)),(13,ω (c:Int)),(14,ω (j:Int))],[(0,⟨(aj o),0,false,0,1,true⟩)],.dead,[]⟩ (.normal) ⟨[(9,.sl (aj u) u.length false),(10,.sl (aj v) v.length false),(11,.ref 0 0 0 o.length),(12,ω (i:Int)),(13,ω ((((x+a*y+c) / 16777216):Nat):Int)),(14,ω (((j+1):Nat):Int))],[(0,⟨(ν ((0+(δ (((i+j):Nat):Int)))*1) (aj o)++ [ω ((((x+a*y+c) % 16777216):Nat):Int)]++ε (((0+(δ (((i+j):Nat):Int)))*1)+1) (aj o)),0,false,0,1,true⟩)],.dead,[]⟩:=pN 100 [] 1 1 (.k 1 B (.c q (.c r (.k 1 w (.c t (.c b (.c s (.c z (.c D (.c C (.c q (.c r (.c (aN b) .nil))))))))))))) (.v 55 (.eq h) (.v 82 (.eq l) (.v 79 (.eq e) (.v 77 (.eq d) (.v 73 (.eq n) (.v 71 (.eq p) (.v 70 (.eq k) (.v 69 (.eq m) (.v 65 (.eq f) (.v 61 (.eq g) (.v 59 (.eq d) .nil))))))))))) A
theorem alR {nt:Nat} (b:92≤nt) (u v o:List Nat) (i j c a x y:Nat) (d:(decide ((j:Int)<(v.length:Int)))=false):ak prog ap [] nt (af 2 (ah f100)) ⟨[(9,.sl (aj u) u.length false),(10,.sl (aj v) v.length false),(11,.ref 0 0 0 o.length),(12,ω (i:Int)),(13,ω (c:Int)),(14,ω (j:Int))],[(0,⟨(aj o),0,false,0,1,true⟩)],.dead,[]⟩ (.exit 2) ⟨[(9,.sl (aj u) u.length false),(10,.sl (aj v) v.length false),(11,.ref 0 0 0 o.length),(12,ω (i:Int)),(13,ω (c:Int))],[(0,⟨(aj o),0,false,0,1,true⟩)],.dead,[]⟩:=pN 100 [] 1 0 (.c (aK d) .nil) (.nil) b
theorem alS {nt:Nat} (g:92≤nt) (u v o a:List Nat) (i d:Nat) (b:ω (γ .i64 ((i:Int)+(v.length:Int)))= ω (((i+v.length):Nat):Int)) (c:ω (γ .i64 ((i:Int)+((1:Nat):Int)))= ω (((i+1):Nat):Int)) (h:(Xqm (((0+(δ (((i+v.length):Nat):Int)))*1)+1) (η (aj a)))=true) (k:(decide (((0:Nat):Int)≤(((i+v.length):Nat):Int)))=true) (j:(decide ((((i+v.length):Nat):Int)<(a.length:Int)))=true) (e:(decide ((i:Int)<(u.length:Int)))=true) (f:aG prog ap [] 92 (.block 2 (.loop (af 2 (ah f100)))) ⟨[(0,.dead),(1,.dead),(4,.dead),(5,.dead),(6,.dead),(7,.dead),(8,.dead),(9,.sl (aj u) u.length false),(10,.sl (aj v) v.length false),(11,.ref 0 0 0 o.length),(12,ω (i:Int)),(13,ω 0),(14,ω 0),(15,.dead),(29,.dead),(47,.bool (decide ((i:Int)<(u.length:Int)))),(53,.dead)],[(0,⟨(aj o),0,false,0,1,true⟩)],.dead,[]⟩ (.normal) ⟨[(9,.sl (aj u) u.length false),(10,.sl (aj v) v.length false),(11,.ref 0 0 0 a.length),(12,ω (i:Int)),(13,ω (d:Int))],[(0,⟨(aj a),0,false,0,1,true⟩)],.dead,[]⟩):ψ nt f100 ⟨[(9,.sl (aj u) u.length false),(10,.sl (aj v) v.length false),(11,.ref 0 0 0 o.length),(12,ω (i:Int))],[(0,⟨(aj o),0,false,0,1,true⟩)],.dead,[]⟩ (.normal) ⟨[(9,.sl (aj u) u.length false),(10,.sl (aj v) v.length false),(11,.ref 0 0 0 a.length),(12,ω (((i+1):Nat):Int))],[(0,⟨(ν ((0+(δ (((i+v.length):Nat):Int)))*1) (aj a)++ [ω (d:Int)]++ε (((0+(δ (((i+v.length):Nat):Int)))*1)+1) (aj a)),0,false,0,1,true⟩)],.dead,[]⟩:=pN 100 [2] 1 1 (.c h (.c k (.c j (.c (aN e) .nil)))) (.v 49 (.eq c) (.v 87 (.eq b) (.l f .nil))) g
theorem alT {nt:Nat} (a:92≤nt) (u v o c:List Nat) (i d:Nat) (b:(decide ((i:Int)<(u.length:Int)))=false):ψ nt f100 ⟨[(9,.sl (aj u) u.length false),(10,.sl (aj v) v.length false),(11,.ref 0 0 0 o.length),(12,ω (i:Int))],[(0,⟨(aj o),0,false,0,1,true⟩)],.dead,[]⟩ (.exit 0) ⟨[(11,.ref 0 0 0 o.length)],[(0,⟨(aj o),0,false,0,1,true⟩)],.dead,[]⟩:=pN 100 [] 1 0 (.c (aK b) .nil) (.nil) a
theorem alN (s t:List UInt8) (x y z:Nat) (a:List Nat) (h:(decide (((0:Nat):Int)≤(γ .i64 ((((ax (ag s)).length:Nat):Int)+(((ax (ag t)).length:Nat):Int)))))=true) (j:(decide ((γ .i64 ((((ax (ag s)).length:Nat):Int)+(((ax (ag t)).length:Nat):Int)))=(γ .i64 ((((ax (ag s)).length:Nat):Int)+(((ax (ag t)).length:Nat):Int)))))=true) (i:(decide ((γ .i64 ((((ax (ag s)).length:Nat):Int)+(((ax (ag t)).length:Nat):Int)))≤((1099511627776:Nat):Int)))=true) (f:CO 134 [.str s,ω 3] (.ret (.tup [ω (x:Int),.bool true]))) (c:CO 134 [.str t,ω 4] (.ret (.tup [ω (y:Int),.bool false]))) (b:CO 135 [.str s] (.ret (.sl (aj (ax (ag s))) (ax (ag s)).length false))) (d:CO 135 [.str t] (.ret (.sl (aj (ax (ag t))) (ax (ag t)).length false))) (g:CO 136 [.sl (ν (a.length*1) (aj a)) a.length true] (.ret (.str (ae z)))) (e:aG prog ap [] 92 (.block 0 (.loop (af 0 (ah f100)))) ⟨[(0,.str s),(1,.str t),(4,.str []),(5,ω (x:Int)),(6,.bool true),(7,ω (y:Int)),(8,.bool false),(9,.sl (aj (ax (ag s))) (ax (ag s)).length false),(10,.sl (aj (ax (ag t))) (ax (ag t)).length false),(11,.ref 0 0 0 (δ (γ .i64 ((((ax (ag s)).length:Nat):Int)+(((ax (ag t)).length:Nat):Int))))),(12,ω 0),(13,.dead),(14,.dead),(15,.dead),(29,.bool false),(47,.dead),(53,.dead)],[(0,⟨(gp (δ (γ .i64 ((((ax (ag s)).length:Nat):Int)+(((ax (ag t)).length:Nat):Int)))) [ω 0]),0,false,0,1,true⟩)],.dead,[]⟩ (.normal) ⟨[(11,.ref 0 0 0 a.length)],[(0,⟨(aj a),0,false,0,1,true⟩)],.dead,[]⟩):CO 100 [.str s,.str t] (.ret (.str (ae z))):=pK [0] 2 1 (.c h (.c j (.c i (.n 2 .nil)))) (.c g (.l e (.c d (.c b (.c c (.c f .nil))))))
theorem alO (s t:List UInt8) (x y z:Nat) (a:List Nat) (h:(decide (((0:Nat):Int)≤(γ .i64 ((((ax (ag s)).length:Nat):Int)+(((ax (ag t)).length:Nat):Int)))))=true) (j:(decide ((γ .i64 ((((ax (ag s)).length:Nat):Int)+(((ax (ag t)).length:Nat):Int)))=(γ .i64 ((((ax (ag s)).length:Nat):Int)+(((ax (ag t)).length:Nat):Int)))))=true) (i:(decide ((γ .i64 ((((ax (ag s)).length:Nat):Int)+(((ax (ag t)).length:Nat):Int)))≤((1099511627776:Nat):Int)))=true) (f:CO 134 [.str s,ω 3] (.ret (.tup [ω (x:Int),.bool false]))) (c:CO 134 [.str t,ω 4] (.ret (.tup [ω (y:Int),.bool true]))) (b:CO 135 [.str s] (.ret (.sl (aj (ax (ag s))) (ax (ag s)).length false))) (d:CO 135 [.str t] (.ret (.sl (aj (ax (ag t))) (ax (ag t)).length false))) (g:CO 136 [.sl (ν (a.length*1) (aj a)) a.length true] (.ret (.str (ae z)))) (e:aG prog ap [] 92 (.block 0 (.loop (af 0 (ah f100)))) ⟨[(0,.str s),(1,.str t),(4,.str []),(5,ω (x:Int)),(6,.bool false),(7,ω (y:Int)),(8,.bool true),(9,.sl (aj (ax (ag s))) (ax (ag s)).length false),(10,.sl (aj (ax (ag t))) (ax (ag t)).length false),(11,.ref 0 0 0 (δ (γ .i64 ((((ax (ag s)).length:Nat):Int)+(((ax (ag t)).length:Nat):Int))))),(12,ω 0),(13,.dead),(14,.dead),(15,.dead),(29,.bool false),(47,.dead),(53,.dead)],[(0,⟨(gp (δ (γ .i64 ((((ax (ag s)).length:Nat):Int)+(((ax (ag t)).length:Nat):Int)))) [ω 0]),0,false,0,1,true⟩)],.dead,[]⟩ (.normal) ⟨[(11,.ref 0 0 0 a.length)],[(0,⟨(aj a),0,false,0,1,true⟩)],.dead,[]⟩):CO 100 [.str s,.str t] (.ret (.str (ae z))):=pK [0] 2 0 (.c h (.c j (.c i (.n 2 .nil)))) (.c g (.l e (.c d (.c b (.c c (.c f .nil))))))
theorem alP (s t:List UInt8) (x y z:Nat) (a:List Nat) (h:(decide (((0:Nat):Int)≤(γ .i64 ((((ax (ag s)).length:Nat):Int)+(((ax (ag t)).length:Nat):Int)))))=true) (j:(decide ((γ .i64 ((((ax (ag s)).length:Nat):Int)+(((ax (ag t)).length:Nat):Int)))=(γ .i64 ((((ax (ag s)).length:Nat):Int)+(((ax (ag t)).length:Nat):Int)))))=true) (i:(decide ((γ .i64 ((((ax (ag s)).length:Nat):Int)+(((ax (ag t)).length:Nat):Int)))≤((1099511627776:Nat):Int)))=true) (f:CO 134 [.str s,ω 3] (.ret (.tup [ω (x:Int),.bool false]))) (c:CO 134 [.str t,ω 4] (.ret (.tup [ω (y:Int),.bool false]))) (b:CO 135 [.str s] (.ret (.sl (aj (ax (ag s))) (ax (ag s)).length false))) (d:CO 135 [.str t] (.ret (.sl (aj (ax (ag t))) (ax (ag t)).length false))) (g:CO 136 [.sl (ν (a.length*1) (aj a)) a.length true] (.ret (.str (ae z)))) (e:aG prog ap [] 92 (.block 0 (.loop (af 0 (ah f100)))) ⟨[(0,.str s),(1,.str t),(4,.str []),(5,ω (x:Int)),(6,.bool false),(7,ω (y:Int)),(8,.bool false),(9,.sl (aj (ax (ag s))) (ax (ag s)).length false),(10,.sl (aj (ax (ag t))) (ax (ag t)).length false),(11,.ref 0 0 0 (δ (γ .i64 ((((ax (ag s)).length:Nat):Int)+(((ax (ag t)).length:Nat):Int))))),(12,ω 0),(13,.dead),(14,.dead),(15,.dead),(29,.bool false),(47,.dead),(53,.dead)],[(0,⟨(gp (δ (γ .i64 ((((ax (ag s)).length:Nat):Int)+(((ax (ag t)).length:Nat):Int)))) [ω 0]),0,false,0,1,true⟩)],.dead,[]⟩ (.normal) ⟨[(11,.ref 0 0 0 a.length)],[(0,⟨(aj a),0,false,0,1,true⟩)],.dead,[]⟩):CO 100 [.str s,.str t] (.ret (.str (ae z))):=pK [0] 2 0 (.c h (.c j (.c i (.n 2 .nil)))) (.c g (.l e (.c d (.c b (.c c (.c f .nil))))))
def FQ (a:Nat):List Nat→List Nat→Nat→List Nat × Nat
 |x::m,y::v,c=>((x+a*y+c) % 16777216::(FQ a m v ((x+a*y+c) / 16777216)).1,(FQ a m v ((x+a*y+c) / 16777216)).2)
 |_,_,c=>([],c)
theorem KO {a x y c:Nat} (b:a<16777216) (e:x<16777216) (f:y<16777216) (g:c<16777216):a*y<281474976710656∧x+a*y+c<281474976710656∧(x+a*y+c) / 16777216<16777216:=by
 have d:a*y≤16777215*16777215:=Xwt (by omega) (by omega);omega
theorem IV {a:Nat} (b:a<16777216):∀ (m v:List Nat) (c:Nat),m.length=v.length→c<16777216→aZ m→aZ v→(FQ a m v c).2<16777216∧aZ (FQ a m v c).1∧(FQ a m v c).1.length=v.length∧bY (FQ a m v c).1+16777216^v.length*(FQ a m v c).2=bY m+a*bY v+c
 | [],[],c,_,hc,_,_=> ⟨hc,aZ.nil,rfl,by simp [FQ,bY]⟩
 |x::m,y::v,c,hl,hc,hm,hv=>by
  obtain ⟨_,_,g⟩:=KO b hm.head hv.head hc;obtain ⟨e,d,f,i⟩:=IV b m v _ (by simpa using hl) g hm.tail hv.tail;simp only [FQ];refine ⟨e,aZ.cons (Xqu _ (by omega)) d,by simp [f], ?_⟩;simp only [bY,μ,Xqz];rw [Φ (16777216^v.length),Xqn,Xq8,Xwn a];omega
 | [],_::_,_,h,_,_,_=>by simp at h
 |_::_,[],_,h,_,_,_=>by simp at h
def TN (v:List Nat):List Nat→List Nat→List Nat
 | [],m=>m
 |a::u,m=>((FQ a m v 0).1++ [(FQ a m v 0).2]).headD 0::TN v u ((FQ a m v 0).1++ [(FQ a m v 0).2]).tail
theorem IA (l:List Nat) (y:Nat):∃ z m,l++ [y]=z::m∧m.length=l.length:=by
 cases l with
 |nil=>exact ⟨y,[],rfl,rfl⟩
 |cons b l=>exact ⟨b,l++ [y],rfl,by simp⟩
theorem PV {v:List Nat} (d:aZ v):∀ (u m:List Nat),aZ u→aZ m→m.length=v.length→aZ (TN v u m)∧(TN v u m).length=u.length+v.length∧bY (TN v u m)=bY m+bY u*bY v
 | [],m,_,hm,hl=> ⟨hm,by simp [TN,hl],by simp [TN,bY]⟩
 | a::u,m,hu,hm,hl=>by
  obtain ⟨h,k,i,o⟩:=IV hu.head m v 0 hl (by omega) hm d;obtain ⟨z,b,c,n⟩:=IA (FQ a m v 0).1 (FQ a m v 0).2;have e:aZ (z::b):=by rw [← c];exact aZ.app k (aZ.cons h aZ.nil)
  have l:bY (z::b)=bY m+a*bY v:=by
   rw [← c,yT,i];simp only [bY];omega
  simp only [TN,c,Xx9,Xzi];obtain ⟨g,f,j⟩:=PV d u b hu.tail e.tail (by omega);refine ⟨aZ.cons e.head g,by simp [f];omega, ?_⟩;simp only [bY] at l ⊢;rw [j,Xxj,Xq8,Xqn];omega
def ahS (u v:List Nat) (i:Nat) (p:Nat × List Nat × Nat):St:=⟨[(9,.sl (aj u) u.length false),(10,.sl (aj v) v.length false),(11,.ref 0 0 0 p.2.1.length),(12,ω (i:Int)),(13,ω (p.2.2:Int)),(14,ω (p.1:Int))],[(0,⟨aj p.2.1,0,false,0,1,true⟩)],.dead,[]⟩
def alU (u v:List Nat) (i:Nat) (p:List Nat × Nat):St:=⟨[(9,.sl (aj u) u.length false),(10,.sl (aj v) v.length false),(11,.ref 0 0 0 p.1.length),(12,ω (i:Int)),(13,ω (p.2:Int))],[(0,⟨aj p.1,0,false,0,1,true⟩)],.dead,[]⟩
theorem W9 {p s:List Nat} {x y k:Nat} (h:k=p.length):ν ((0+(δ (k:Int)))*1) (aj (p++x::s))++ [ω (y:Int)]++ε (((0+(δ (k:Int)))*1)+1) (aj (p++x::s))=aj (p++y::s):=by
 rw [Xqf,χ,aC,Pz (by rw [h];simp)];subst h;simp
theorem adQ {p s:List Nat} {x k:Nat} (h:k=p.length):(ζ (ε ((0+(δ (k:Int)))*1) (aj (p++x::s))) .dead)= ω (x:Int):=by
 rw [Xqf,χ,aC];exact Py h
theorem Pq {p s:List Nat} {x k:Nat} (h:k=p.length):(ζ (ε ((δ (k:Int))*1) (aj (p++x::s))) .dead)= ω (x:Int):=by
 rw [χ,aC];exact Py h
theorem QL {a b:Nat} (h:a+b<9223372036854775808):ω (γ .i64 ((a:Int)+(b:Int)))= ω ((a+b:Nat):Int):=by
 rw [bJ,aS h]
theorem Y3 {nt:Nat} (n:92≤nt) (u u1 u2 v:List Nat) (a:Nat) (t:u=u1++a::u2) (K:a<16777216) (C:aZ v) (O:u.length<2^36) (Q:v.length<2^36):∀ (w m b d pp z:List Nat) (c:Nat),b++w=v→m.length=w.length→d.length=b.length→pp.length=u1.length→aZ m→c<16777216→
  aA prog ap [] nt (af 2 (ah f100)) (fun _=> .exit 2) (ahS u v u1.length) (alU u v u1.length) (b.length,pp++d++m++z,c) (pp++d++(FQ a m w c).1++z,(FQ a m w c).2):=by
 intro w
 induction w with
 |nil=>
  intro m b d pp z c f g o q i r;have J:m= []:=List.length_eq_zero_iff.1 (by simpa using g);subst J;have h:b=v:=by simpa using f
  simp only [FQ];exact .done (alR n u v _ _ _ _ 0 0 0 (by rw [h];exact Yq1 (by omega)))
 | cons y w ih=>
  intro m b d pp z c f g o q i r;cases m with
  |nil=>simp at g
  | cons x m=>
   have D:b.length+(w.length+1)=v.length:=by rw [← f];simp
   have G:u1.length+(u2.length+1)=u.length:=by rw [t];simp
   have E:y<16777216:=C y (by rw [← f];simp);obtain ⟨W,X,L⟩:=KO K i.head E r;have e:=ih m (b++ [y]) (d++ [(x+a*y+c) % 16777216]) pp z ((x+a*y+c) / 16777216) (by simp [f]) (by simpa using g) (by simp [o]) q i.tail L;simp only [FQ];rw [θ,σ] at e;have N:pp++d++x::m++z=(pp++d)++x::(m++z):=by simp
   have M:pp++(d++ [(x+a*y+c) % 16777216])++m++z=(pp++d)++(x+a*y+c) % 16777216::(m++z):=by simp
   have R:pp++(d++ [(x+a*y+c) % 16777216])++(FQ a m w ((x+a*y+c) / 16777216)).1++z=pp++d++(x+a*y+c) % 16777216::(FQ a m w ((x+a*y+c) / 16777216)).1++z:=by simp
   rw [R] at e;refine .next ?_ e
   have B:u1.length+b.length=(pp++d).length:=by rw [θ];omega
   have A:((pp++d)++x::(m++z)).length=(pp++d).length+(m++z).length+1:=by simp;omega
   have hlen2:((pp++d)++(x+a*y+c) % 16777216::(m++z)).length=((pp++d)++x::(m++z)).length:=by simp
   have I:=adQ (p:=pp++d) (s:=m++z) (x:=x) B;have V:(ζ (ε ((δ (u1.length:Int))*1) (aj u)) .dead)= ω (a:Int):=by rw [t];exact Pq rfl
   have P:(ζ (ε ((δ (b.length:Int))*1) (aj v)) .dead)= ω (y:Int):=by rw [← f];exact Pq rfl
   have U:=W9 (p:=pp++d) (s:=m++z) (x:=x) (y:=(x+a*y+c) % 16777216) B;unfold ahS;simp only [N,M,hlen2];have hs:=alQ n u v ((pp++d)++x::(m++z)) u1.length b.length c a x y;rw [U,I,V,P] at hs;have j:u1.length<u.length:=by omega
   have k:b.length<v.length:=by omega
   have l:u1.length+b.length<((pp++d)++x::(m++z)).length:=by omega
   have F:ω (Xjt (((x+a*y+c):Nat):Int) ((16777216:Nat):Int))= ω ((((x+a*y+c) % 16777216):Nat):Int):=by rw [wO]
   have S:ω (γ .i64 (Xxd (((x+a*y+c):Nat):Int) ((16777216:Nat):Int)))= ω ((((x+a*y+c) / 16777216):Nat):Int):=by rw [pY,aS (by omega)]
   have H:ω (γ .i64 ((a:Int)*(y:Int)))= ω ((a*y:Nat):Int):=by rw [QK (by omega)]
   have T:Xqm (((0+(δ (((u1.length+b.length):Nat):Int)))*1)+1) (η (aj ((pp++d)++x::(m++z))))=true:=by
    rw [Xzl,aC,bW];omega
   apply hs<;>first|exact rfl|exact QL (by omega)|exact F|exact S|exact H|exact T|exact TP _|exact qH j|exact qH k|exact qH l
def VM (u v:List Nat) (p:Nat × List Nat):St:=⟨[(9,.sl (aj u) u.length false),(10,.sl (aj v) v.length false),(11,.ref 0 0 0 p.2.length),(12,ω (p.1:Int))],[(0,⟨aj p.2,0,false,0,1,true⟩)],.dead,[]⟩
def ad7 (o:List Nat):St:=⟨[(11,.ref 0 0 0 o.length)],[(0,⟨aj o,0,false,0,1,true⟩)],.dead,[]⟩
theorem V_ {nt:Nat} (g:92≤nt) (u v:List Nat) (f:aZ u) (A:aZ v) (n:u.length<2^36) (o:v.length<2^36):∀ (u2 u1 m pp:List Nat),u1++u2=u→m.length=v.length→pp.length=u1.length→aZ m→
  aA prog ap [] nt (af 0 (ah f100)) (fun _=> .exit 0) (VM u v) ad7 (u1.length,pp++m++κ u2.length 0) (pp++TN v u2 m):=by
 intro u2
 induction u2 with
 |nil=>
  intro u1 m pp c i k l;have w:u1=u:=by simpa using c
  simp only [TN,Xqb,Xz9,Θ];exact .done (alT g u v _ [] _ 0 (by rw [w];exact Yq1 (by omega)))
 | cons a u2 ih=>
  intro u1 m pp c i k l;have D:u1.length+(u2.length+1)=u.length:=by rw [← c];simp
  have B:a<16777216:=f a (by rw [← c];simp);obtain ⟨E,C,O,M⟩:=IV B m v 0 i (by omega) l A;have t:=fun nt (g:92≤nt)=>Y3 g u u1 u2 v a c.symm B A n o v m [] [] pp (κ (u2.length+1) 0) 0 rfl i rfl k l (by omega)
  simp only [TN];generalize FQ a m v 0=r at*
  obtain ⟨z,d,h,N⟩:=IA r.1 r.2;have L:aZ (z::d):=by rw [← h];exact aZ.app C (aZ.cons E aZ.nil)
  have b:=ih (u1++ [a]) d (pp++ [z]) (by simp [c]) (by omega) (by simp [k]) L.tail;simp only [h,Xx9,Xzi];rw [θ,σ] at b;have H:pp++ [z]++TN v u2 d=pp++z::TN v u2 d:=by simp
  rw [H] at b;refine .next ?_ b
  rw [Θ] at t;have K:u1.length+v.length=(pp++r.1).length:=by rw [θ];omega
  have G:pp++r.1++κ (u2.length+1) 0=(pp++r.1)++0::κ u2.length 0:=by rw [Xxb]
  have F:pp++ [z]++d++κ u2.length 0=(pp++r.1)++r.2::κ u2.length 0:=by
   rw [Xqe pp,Xxh,← h];simp
  have J:=W9 (p:=pp++r.1) (s:=κ u2.length 0) (x:=0) (y:=r.2) K;rw [G] at t;have e:((pp++r.1)++0::κ u2.length 0).length=((pp++r.1)++r.2::κ u2.length 0).length:=by simp
  have hlen2:((pp++r.1)++0::κ u2.length 0).length=(pp++r.1).length+u2.length+1:=by simp;omega
  have hs:=alS g u v (pp++m++κ (u2.length+1) 0) ((pp++r.1)++0::κ u2.length 0) u1.length r.2;rw [J] at hs;have j:u1.length<u.length:=by omega
  have q:u1.length+v.length<((pp++r.1)++0::κ u2.length 0).length:=by omega
  have I:Xqm (((0+(δ (((u1.length+v.length):Nat):Int)))*1)+1) (η (aj ((pp++r.1)++0::κ u2.length 0)))=true:=by
   rw [Xzl,aC,bW];omega
  unfold VM;simp only [F,μ];rw [← e];apply hs<;>first|exact QL (by omega)|exact I|exact TP _|exact qH j|exact qH q|skip
  exact aA.blk t (by simp) rfl (aH.of ⟨rfl,rfl,rfl,rfl,rfl,rfl,trivial⟩) (aH.refl _)
theorem wR {s:List UInt8} (h:s.length<2^35):(ax (ag s)).length<2^35:=by
 have a:(ax (ag s)).length≤s.length:=rG (Ψ (jK s) (by rw [Xx2];exact Nat.pow_le_pow_left (by decide) _));omega
theorem RV (s t:List UInt8) (hs:s.length<2^35) (d:t.length<2^35):∃ o3:List Nat,o3.length<2^36∧aZ o3∧bY o3=ag s*ag t∧∀ nt,92≤nt→aA prog ap [] nt (af 0 (ah f100)) (fun _=> .exit 0) (VM (ax (ag s)) (ax (ag t))) ad7 (0,κ ((ax (ag s)).length+(ax (ag t)).length) 0) o3:=by
 have f:=wR hs;have g:=wR d;obtain ⟨e,a,c⟩:=PV (aZ.dig (ag t)) (ax (ag s)) (κ (ax (ag t)).length 0) (aZ.dig _) (aZ.zeros _) (by simp);refine ⟨_,by rw [a];omega,e, ?_,fun nt b=> ?_⟩
 ·rw [c,OM,eP,eP,Xqf]
 ·have:=V_ b (ax (ag s)) (ax (ag t)) (aZ.dig _) (aZ.dig _) (by omega) (by omega) (ax (ag s)) [] (κ (ax (ag t)).length 0) [] rfl (by simp) rfl (aZ.zeros _);rw [Xqk,Xqk,Xwr,Xxp] at this;exact this
theorem VL (s t:List UInt8) (hs:s.length<2^35) (u:t.length<2^35):CO 100 [.str s,.str t] (.ret (.str (ae (ag s*ag t)))):=by
 obtain ⟨a,v,w,z,A⟩:=RV s t hs u;have C:=wR hs;have B:=wR u;have h:=BB s (by omega);have j:=BB t (by omega);have d:=uA a true v w;rw [z] at d;have k:ν (a.length*1) (aj a)=aj a:=by rw [χ,dF,Xq1]
 rw [← k] at d;have x:γ .i64 ((((ax (ag s)).length:Nat):Int)+(((ax (ag t)).length:Nat):Int))=(((ax (ag s)).length+(ax (ag t)).length:Nat):Int):=by
  rw [bJ,aS (by omega)]
 have q:=alN s t (ag s) 0 (ag s*ag t) a;have m:=alO s t 0 (ag t) (ag s*ag t) a;have o:=alP s t 0 0 (ag s*ag t) a;rw [x,aC,Jh] at q m o;have g:=Yq0 (p:=((0:Nat):Int)≤(((ax (ag s)).length+(ax (ag t)).length:Nat):Int)) (by omega);have i:=Yq0 (p:=(((ax (ag s)).length+(ax (ag t)).length:Nat):Int)=(((ax (ag s)).length+(ax (ag t)).length:Nat):Int)) rfl;have l:=Yq0 (p:=(((ax (ag s)).length+(ax (ag t)).length:Nat):Int)≤((1099511627776:Nat):Int)) (by omega);have f:=aA.blk (s:=VM (ax (ag s)) (ax (ag t)) (0,κ ((ax (ag s)).length+(ax (ag t)).length) 0)) (s':=ad7 a) (id:=0) A (by simp) rfl (aH.refl _) (aH.refl _);have y:((ax (ag s)).length+(ax (ag t)).length)=(κ ((ax (ag s)).length+(ax (ag t)).length) 0).length:=by rw [Xxs]
 unfold VM at f;simp only [← y] at f;rcases Xq5 (ag s) (2^(8*3)) with c1|c1
 ·have c:=gQ s 3 (by omega) (by omega) c1;rcases Xq5 (ag t) (2^(8*4)) with c2|c2
  ·have b:=gQ t 4 (by omega) (by omega) c2;have r:ag s*ag t<9223372036854775808:=φ (Xwt (show ag s≤16777215 by omega) (show ag t≤4294967295 by omega)) (by omega);have n:=kW (ag s*ag t) r;rw [← QK r] at n;exact afi s t _ _ _ c b n
  ·have b:=kY t 4 (by omega) c2;exact q g i l c b h j d fun nt e=>(f nt e).weak (aH.of ⟨rfl,rfl,rfl,rfl,trivial⟩) (aH.refl _)
 ·have c:=kY s 3 (by omega) c1;rcases Xq5 (ag t) (2^(8*4)) with c2|c2
  ·have b:=gQ t 4 (by omega) (by omega) c2;exact m g i l c b h j d fun nt e=>(f nt e).weak (aH.of ⟨rfl,rfl,rfl,rfl,trivial⟩) (aH.refl _)
  ·have b:=kY t 4 (by omega) c2;exact o g i l c b h j d fun nt e=>(f nt e).weak (aH.of ⟨rfl,rfl,rfl,rfl,trivial⟩) (aH.refl _)
theorem al0 {nt:Nat} (C:68≤nt) (u v o:List Nat) (s d:Bool) (i j c a x y:Nat) (l:Xxm .u32 (τ (ζ (ε ((δ (j:Int))*1) (ai v)) .dead))= .int .u32 (y:Int)) (m:Xxm .u64 (γ .u64 (a:Int))= .int .u64 (a:Int)) (k:Xxm .u64 (γ .u64 (y:Int))= .int .u64 (y:Int)) (f:Xxm .u64 (γ .u64 ((a:Int)*(y:Int)))= .int .u64 (((a*y):Nat):Int)) (h:Xxm .u32 (τ (ζ (ε ((0+(δ (((i+j):Nat):Int)))*1) (ai o)) .dead))= .int .u32 (x:Int)) (q:Xxm .u64 (γ .u64 (x:Int))= .int .u64 (x:Int)) (r:Xxm .u64 (γ .u64 ((((a*y):Nat):Int)+(x:Int)))= .int .u64 (((a*y+x):Nat):Int)) (p:Xxm .u64 (γ .u64 ((((a*y+x):Nat):Int)+(c:Int)))= .int .u64 (((a*y+x+c):Nat):Int)) (b:ω (γ .i64 ((i:Int)+(j:Int)))= ω (((i+j):Nat):Int)) (g:Xxm .u32 (γ .u32 (((a*y+x+c):Nat):Int))= .int .u32 ((((a*y+x+c) % 4294967296):Nat):Int)) (n:Xxm .u64 (Xqw (((a*y+x+c):Nat):Int) (2^(min 32 64)))= .int .u64 ((((a*y+x+c) / 4294967296):Nat):Int)) (e:ω (γ .i64 ((j:Int)+((1:Nat):Int)))= ω (((j+1):Nat):Int)) (D:(Xqm (((0+(δ (((i+j):Nat):Int)))*1)+1) (η (ai o)))=true) (w:(decide (((0:Nat):Int)≤(((i+j):Nat):Int)))=true) (z:(decide ((((i+j):Nat):Int)<(o.length:Int)))=true) (B:(chk (.int .u32) (ζ (ε ((0+(δ (((i+j):Nat):Int)))*1) (ai o)) .dead))=true) (A:(chk (.int .u32) (ζ (ε ((δ (j:Int))*1) (ai v)) .dead))=true) (E:(decide (((0:Nat):Int)≤(j:Int)))=true) (t:(decide ((j:Int)<(v.length:Int)))=true):ak prog ap [] nt (af 2 (ah f201)) ⟨[(1,.sl (ai v) v.length d),(5,.ref 0 0 0 o.length),(6,ω (i:Int)),(7,.int .u32 (a:Int)),(8,.int .u64 (c:Int)),(18,.sl (ai u) u.length s),(19,ω (u.length:Int)),(20,ω (i:Int)),(25,.sl (ai v) v.length d),(26,ω (v.length:Int)),(27,ω (j:Int))],[(0,⟨(ai o),0,false,0,1,true⟩)],.dead,[]⟩ (.normal) ⟨[(1,.sl (ai v) v.length d),(5,.ref 0 0 0 o.length),(6,ω (i:Int)),(7,.int .u32 (a:Int)),(8,.int .u64 ((((a*y+x+c) / 4294967296):Nat):Int)),(18,.sl (ai u) u.length s),(19,ω (u.length:Int)),(20,ω (i:Int)),(25,.sl (ai v) v.length d),(26,ω (v.length:Int)),(27,ω (((j+1):Nat):Int))],[(0,⟨(ν ((0+(δ (((i+j):Nat):Int)))*1) (ai o)++ [.int .u32 ((((a*y+x+c) % 4294967296):Nat):Int)]++ε (((0+(δ (((i+j):Nat):Int)))*1)+1) (ai o)),0,false,0,1,true⟩)],.dead,[]⟩:=pN 201 [] 1 1 (.c D (.c w (.c z (.k 1 B (.c w (.c z (.c A (.c E (.c t (.c (aN t) .nil)))))))))) (.v 56 (.eq e) (.v 54 (.eq n) (.v 52 (.eq g) (.v 50 (.eq b) (.v 46 (.eq p) (.v 44 (.eq r) (.v 43 (.eq q) (.v 42 (.eq h) (.v 40 (.eq b) (.v 36 (.eq f) (.v 35 (.eq k) (.v 33 (.eq m) (.v 31 (.eq l) .nil))))))))))))) C
theorem al1 {nt:Nat} (e:68≤nt) (u v o:List Nat) (d b:Bool) (i j c a x y:Nat) (f:(decide ((j:Int)<(v.length:Int)))=false):ak prog ap [] nt (af 2 (ah f201)) ⟨[(1,.sl (ai v) v.length b),(5,.ref 0 0 0 o.length),(6,ω (i:Int)),(7,.int .u32 (a:Int)),(8,.int .u64 (c:Int)),(18,.sl (ai u) u.length d),(19,ω (u.length:Int)),(20,ω (i:Int)),(25,.sl (ai v) v.length b),(26,ω (v.length:Int)),(27,ω (j:Int))],[(0,⟨(ai o),0,false,0,1,true⟩)],.dead,[]⟩ (.exit 2) ⟨[(1,.sl (ai v) v.length b),(5,.ref 0 0 0 o.length),(6,ω (i:Int)),(8,.int .u64 (c:Int)),(18,.sl (ai u) u.length d),(19,ω (u.length:Int)),(20,ω (i:Int))],[(0,⟨(ai o),0,false,0,1,true⟩)],.dead,[]⟩:=pN 201 [] 1 0 (.c (aK f) .nil) (.nil) e
theorem al2 {nt:Nat} (n:68≤nt) (u v o b:List Nat) (d c:Bool) (i a e:Nat) (j:Xxm .u32 (τ (ζ (ε ((δ (i:Int))*1) (ai u)) .dead))= .int .u32 (a:Int)) (g:ω (γ .i64 ((i:Int)+(v.length:Int)))= ω (((i+v.length):Nat):Int)) (f:Xxm .u32 (γ .u32 (e:Int))= .int .u32 (e:Int)) (h:ω (γ .i64 ((i:Int)+((1:Nat):Int)))= ω (((i+1):Nat):Int)) (r:(Xqm (((0+(δ (((i+v.length):Nat):Int)))*1)+1) (η (ai b)))=true) (p:(decide (((0:Nat):Int)≤(((i+v.length):Nat):Int)))=true) (s:(decide ((((i+v.length):Nat):Int)<(b.length:Int)))=true) (m:(chk (.int .u32) (ζ (ε ((δ (i:Int))*1) (ai u)) .dead))=true) (l:(decide (((0:Nat):Int)≤(i:Int)))=true) (k:(decide ((i:Int)<(u.length:Int)))=true) (q:aG prog ap [] 68 (.block 2 (.loop (af 2 (ah f201)))) ⟨[(0,.dead),(1,.sl (ai v) v.length c),(4,.dead),(5,.ref 0 0 0 o.length),(6,ω (i:Int)),(7,.int .u32 (a:Int)),(8,.int .u64 0),(9,.dead),(10,.dead),(11,.dead),(18,.sl (ai u) u.length d),(19,ω (u.length:Int)),(20,ω (i:Int)),(21,.bool (decide ((i:Int)<(u.length:Int)))),(25,.sl (ai v) v.length c),(26,ω (v.length:Int)),(27,ω 0),(28,.dead)],[(0,⟨(ai o),0,false,0,1,true⟩)],.dead,[]⟩ (.normal) ⟨[(1,.sl (ai v) v.length c),(5,.ref 0 0 0 b.length),(6,ω (i:Int)),(8,.int .u64 (e:Int)),(18,.sl (ai u) u.length d),(19,ω (u.length:Int)),(20,ω (i:Int))],[(0,⟨(ai b),0,false,0,1,true⟩)],.dead,[]⟩):ψ nt f201 ⟨[(1,.sl (ai v) v.length c),(5,.ref 0 0 0 o.length),(18,.sl (ai u) u.length d),(19,ω (u.length:Int)),(20,ω (i:Int))],[(0,⟨(ai o),0,false,0,1,true⟩)],.dead,[]⟩ (.normal) ⟨[(1,.sl (ai v) v.length c),(5,.ref 0 0 0 b.length),(18,.sl (ai u) u.length d),(19,ω (u.length:Int)),(20,ω (((i+1):Nat):Int))],[(0,⟨(ν ((0+(δ (((i+v.length):Nat):Int)))*1) (ai b)++ [.int .u32 (e:Int)]++ε (((0+(δ (((i+v.length):Nat):Int)))*1)+1) (ai b)),0,false,0,1,true⟩)],.dead,[]⟩:=pN 201 [2] 1 1 (.c r (.c p (.c s (.c m (.c l (.c k (.c (aN k) .nil))))))) (.v 65 (.eq h) (.v 63 (.eq f) (.v 61 (.eq g) (.l q (.v 24 (.eq j) .nil))))) n
theorem al3 {nt:Nat} (d:68≤nt) (u v o f:List Nat) (b c:Bool) (i a g:Nat) (e:(decide ((i:Int)<(u.length:Int)))=false):ψ nt f201 ⟨[(1,.sl (ai v) v.length c),(5,.ref 0 0 0 o.length),(18,.sl (ai u) u.length b),(19,ω (u.length:Int)),(20,ω (i:Int))],[(0,⟨(ai o),0,false,0,1,true⟩)],.dead,[]⟩ (.exit 0) ⟨[(5,.ref 0 0 0 o.length)],[(0,⟨(ai o),0,false,0,1,true⟩)],.dead,[]⟩:=pN 201 [] 1 0 (.c (aK e) .nil) (.nil) d
theorem ZO (a b w:List Nat) (c d:Bool) (z:Nat) (f:(decide (((0:Nat):Int)≤(γ .i64 ((a.length:Int)+(b.length:Int)))))=true) (i:(decide ((γ .i64 ((a.length:Int)+(b.length:Int)))=(γ .i64 ((a.length:Int)+(b.length:Int)))))=true) (g:(decide ((γ .i64 ((a.length:Int)+(b.length:Int)))≤((1099511627776:Nat):Int)))=true) (h:CO 162 [.sl (ν (w.length*1) (ai w)) w.length true] (.ret (.sl (ai (digs z)) (digs z).length true))) (e:aG prog ap [] 68 (.block 0 (.loop (af 0 (ah f201)))) ⟨[(0,.sl (ai a) a.length c),(1,.sl (ai b) b.length d),(4,.nilS),(5,.ref 0 0 0 (δ (γ .i64 ((a.length:Int)+(b.length:Int))))),(6,.dead),(7,.dead),(8,.dead),(9,.dead),(10,.dead),(11,.dead),(18,.sl (ai a) a.length c),(19,ω (a.length:Int)),(20,ω 0),(21,.dead),(25,.dead),(26,.dead),(27,.dead),(28,.dead)],[(0,⟨(gp (δ (γ .i64 ((a.length:Int)+(b.length:Int)))) [.int .u32 0]),0,false,0,1,true⟩)],.dead,[]⟩ (.normal) ⟨[(5,.ref 0 0 0 w.length)],[(0,⟨(ai w),0,false,0,1,true⟩)],.dead,[]⟩):CO 201 [.sl (ai a) a.length c,.sl (ai b) b.length d] (.ret (.sl (ai (digs z)) (digs z).length true)):=pK [0] 0 0 (.c f (.c i (.c g .nil))) (.c h (.l e .nil))
def prI (u v:List Nat) (na nb:Bool) (i a:Nat) (p:Nat × List Nat × Nat):St:=⟨[(1,.sl (ai v) v.length nb),(5,.ref 0 0 0 p.2.1.length),(6,ω (i:Int)),(7,.int .u32 (a:Int)),(8,.int .u64 (p.2.2:Int)),(18,.sl (ai u) u.length na),(19,ω (u.length:Int)),(20,ω (i:Int)),(25,.sl (ai v) v.length nb),(26,ω (v.length:Int)),(27,ω (p.1:Int))],[(0,⟨(ai p.2.1),0,false,0,1,true⟩)],.dead,[]⟩
def prJ (u v:List Nat) (na nb:Bool) (i:Nat) (p:List Nat × Nat):St:=⟨[(1,.sl (ai v) v.length nb),(5,.ref 0 0 0 p.1.length),(6,ω (i:Int)),(8,.int .u64 (p.2:Int)),(18,.sl (ai u) u.length na),(19,ω (u.length:Int)),(20,ω (i:Int))],[(0,⟨(ai p.1),0,false,0,1,true⟩)],.dead,[]⟩
def prO (u v:List Nat) (na nb:Bool) (p:Nat × List Nat):St:=⟨[(1,.sl (ai v) v.length nb),(5,.ref 0 0 0 p.2.length),(18,.sl (ai u) u.length na),(19,ω (u.length:Int)),(20,ω (p.1:Int))],[(0,⟨(ai p.2),0,false,0,1,true⟩)],.dead,[]⟩
def prR (o:List Nat):St:=⟨[(5,.ref 0 0 0 o.length)],[(0,⟨(ai o),0,false,0,1,true⟩)],.dead,[]⟩
def FT (a:Nat):List Nat→List Nat→Nat→List Nat × Nat
 |x::m,y::v,c=>((a*y+x+c) % 4294967296::(FT a m v ((a*y+x+c) / 4294967296)).1,(FT a m v ((a*y+x+c) / 4294967296)).2)
 |_,_,c=>([],c)
theorem KZ {a x y c:Nat} (b:a<4294967296) (e:x<4294967296) (f:y<4294967296) (g:c<4294967296):a*y<18446744073709551616∧a*y+x+c<18446744073709551616∧(a*y+x+c) / 4294967296<4294967296:=by
 have d:a*y≤4294967295*4294967295:=Xwt (by omega) (by omega);omega
theorem Jb {a:Nat} (b:a<4294967296):∀ (m v:List Nat) (c:Nat),m.length=v.length→c<4294967296→bH m→bH v→(FT a m v c).2<4294967296∧bH (FT a m v c).1∧(FT a m v c).1.length=v.length∧aF (FT a m v c).1+4294967296^v.length*(FT a m v c).2=aF m+a*aF v+c
 | [],[],c,_,hc,_,_=> ⟨hc,bH.nil,rfl,by simp [FT,aF]⟩
 |x::m,y::v,c,hl,hc,hm,hv=>by
  obtain ⟨_,_,g⟩:=KZ b hm.head hv.head hc;obtain ⟨e,d,f,i⟩:=Jb b m v _ (by simpa using hl) g hm.tail hv.tail;simp only [FT];refine ⟨e,bH.cons (Xqu _ (by omega)) d,by simp [f], ?_⟩;simp only [aF,μ,Xqz];rw [Φ (4294967296^v.length),Xqn,Xq8,Xwn a];omega
 | [],_::_,_,h,_,_,_=>by simp at h
 |_::_,[],_,h,_,_,_=>by simp at h
def P_ (v:List Nat):List Nat→List Nat→List Nat
 | [],m=>m
 |a::u,m=>((FT a m v 0).1++ [(FT a m v 0).2]).headD 0::P_ v u ((FT a m v 0).1++ [(FT a m v 0).2]).tail
theorem Qa {v:List Nat} (d:bH v):∀ (u m:List Nat),bH u→bH m→m.length=v.length→bH (P_ v u m)∧(P_ v u m).length=u.length+v.length∧aF (P_ v u m)=aF m+aF u*aF v
 | [],m,_,hm,hl=> ⟨hm,by simp [P_,hl],by simp [P_,aF]⟩
 | a::u,m,hu,hm,hl=>by
  obtain ⟨h,k,i,o⟩:=Jb hu.head m v 0 hl (by omega) hm d;obtain ⟨z,b,c,n⟩:=IA (FT a m v 0).1 (FT a m v 0).2;have e:bH (z::b):=by rw [← c];exact bH.app k (bH.cons h bH.nil)
  have l:aF (z::b)=aF m+a*aF v:=by
   rw [← c,mJ,i];simp only [aF];omega
  simp only [P_,c,Xx9,Xzi];obtain ⟨g,f,j⟩:=Qa d u b hu.tail e.tail (by omega);refine ⟨bH.cons e.head g,by simp [f];omega, ?_⟩;simp only [aF] at l ⊢;rw [j,Xxj,Xq8,Xqn];omega
theorem W_ {p s:List Nat} {x y k:Nat} (h:k=p.length):ν ((0+(δ (k:Int)))*1) (ai (p++x::s))++ [Xxm .u32 (y:Int)]++ε (((0+(δ (k:Int)))*1)+1) (ai (p++x::s))=ai (p++y::s):=by
 subst h;exact yS
theorem Iy {p s:List Nat} {x k:Nat} (h:k=p.length):(ζ (ε ((δ (k:Int))*1) (ai (p++x::s))) .dead)= .int .u32 (x:Int):=by
 subst h;rw [yQ];rfl
theorem adR {p s:List Nat} {x k:Nat} (h:k=p.length):(ζ (ε ((0+(δ (k:Int)))*1) (ai (p++x::s))) .dead)= .int .u32 (x:Int):=by
 rw [Xqf];exact Iy h
theorem wdp {a b:Nat} (h:a+b<9223372036854775808):ω (γ .i64 ((a:Int)+(b:Int)))= ω ((a+b:Nat):Int):=by
 rw [bJ,aS h]
theorem amB {a b:Nat} (h:a+b<18446744073709551616):Xxm .u64 (γ .u64 ((a:Int)+(b:Int)))= .int .u64 ((a+b:Nat):Int):=by
 rw [bJ,oK,υ h]
theorem amA {a:Nat} (h:a<18446744073709551616):Xxm .u64 (γ .u64 (a:Int))= .int .u64 (a:Int):=by
 rw [oK,υ h]
theorem amz {a:Nat} (h:a<4294967296):Xxm .u32 (γ .u32 (a:Int))= .int .u32 (a:Int):=by
 rw [qZ,υ h]
theorem Y4 {nt:Nat} (q:68≤nt) (u u1 u2 v:List Nat) (i j:Bool) (a:Nat) (S:u=u1++a::u2) (L:a<4294967296) (D:bH v) (Q:u.length<2^38) (T:v.length<2^38):∀ (w m b d pp z:List Nat) (c:Nat),b++w=v→m.length=w.length→d.length=b.length→pp.length=u1.length→bH m→c<4294967296→
  aA prog ap [] nt (af 2 (ah f201)) (fun _=> .exit 2) (prI u v i j u1.length a) (prJ u v i j u1.length) (b.length,pp++d++m++z,c) (pp++d++(FT a m w c).1++z,(FT a m w c).2):=by
 intro w
 induction w with
 |nil=>
  intro m b d pp z c f h r t g A;have K:m= []:=List.length_eq_zero_iff.1 (by simpa using h);subst K;have k:b=v:=by simpa using f
  simp only [FT];exact .done (al1 q u v _ i j _ _ _ a 0 0 (by rw [k];exact Yq1 (by omega)))
 | cons y w ih=>
  intro m b d pp z c f h r t g A;cases m with
  |nil=>simp at h
  | cons x m=>
   have E:b.length+(w.length+1)=v.length:=by rw [← f];simp
   have H:u1.length+(u2.length+1)=u.length:=by rw [S];simp
   have F:y<4294967296:=D y (by rw [← f];simp);have hx:=g.head;obtain ⟨O,Z,M⟩:=KZ L g.head F A;have e:=ih m (b++ [y]) (d++ [(a*y+x+c) % 4294967296]) pp z ((a*y+x+c) / 4294967296) (by simp [f]) (by simpa using h) (by simp [r]) t g.tail M;simp only [FT];rw [θ,σ] at e;have P:pp++d++x::m++z=(pp++d)++x::(m++z):=by simp
   have N:pp++(d++ [(a*y+x+c) % 4294967296])++m++z=(pp++d)++(a*y+x+c) % 4294967296::(m++z):=by simp
   have U:pp++(d++ [(a*y+x+c) % 4294967296])++(FT a m w ((a*y+x+c) / 4294967296)).1++z=pp++d++(a*y+x+c) % 4294967296::(FT a m w ((a*y+x+c) / 4294967296)).1++z:=by simp
   rw [U] at e;refine .next ?_ e
   have C:u1.length+b.length=(pp++d).length:=by rw [θ];omega
   have B:((pp++d)++x::(m++z)).length=(pp++d).length+(m++z).length+1:=by simp;omega
   have hlen2:((pp++d)++(a*y+x+c) % 4294967296::(m++z)).length=((pp++d)++x::(m++z)).length:=by simp
   have J:=adR (p:=pp++d) (s:=m++z) (x:=x) C;have R:(ζ (ε ((δ (b.length:Int))*1) (ai v)) .dead)= .int .u32 (y:Int):=by rw [← f];exact Iy rfl
   have X:=W_ (p:=pp++d) (s:=m++z) (x:=x) (y:=(a*y+x+c) % 4294967296) C;unfold prI;simp only [P,N,hlen2];have hs:=al0 q u v ((pp++d)++x::(m++z)) i j u1.length b.length c a x y;rw [X,J,R] at hs;have l:u1.length<u.length:=by omega
   have n:b.length<v.length:=by omega
   have o:u1.length+b.length<((pp++d)++x::(m++z)).length:=by omega
   have G:Xxm .u32 (γ .u32 (((a*y+x+c):Nat):Int))= .int .u32 ((((a*y+x+c) % 4294967296):Nat):Int):=by rw [qZ]
   have V:Xxm .u64 (Xqw (((a*y+x+c):Nat):Int) (2^(min 32 64)))= .int .u64 ((((a*y+x+c) / 4294967296):Nat):Int):=by rw [show min 32 64=32 from rfl,lh]
   have I:Xxm .u64 (γ .u64 ((a:Int)*(y:Int)))= .int .u64 ((a*y:Nat):Int):=by rw [← Int.natCast_mul,oK,υ O]
   have W:Xqm (((0+(δ (((u1.length+b.length):Nat):Int)))*1)+1) (η (ai ((pp++d)++x::(m++z))))=true:=by
    rw [Xzl,aC,au];omega
   have Y:a*y+x<18446744073709551616:=by omega
   apply hs<;>first|exact rfl|exact wdp (by omega)|exact amB (by omega)|exact G|exact V|exact I|exact amA (by omega)|exact W|exact TP _|exact qH l|exact qH n|exact qH o
theorem We {nt:Nat} (h:68≤nt) (u v:List Nat) (g i:Bool) (f:bH u) (C:bH v) (q:u.length<2^38) (t:v.length<2^38):∀ (u2 u1 m pp:List Nat),u1++u2=u→m.length=v.length→pp.length=u1.length→bH m→
  aA prog ap [] nt (af 0 (ah f201)) (fun _=> .exit 0) (prO u v g i) prR (u1.length,pp++m++κ u2.length 0) (pp++P_ v u2 m):=by
 intro u2
 induction u2 with
 |nil=>
  intro u1 m pp c k n o;have B:u1=u:=by simpa using c
  simp only [P_,Xqb,Xz9,Θ];exact .done (al3 h u v _ [] g i _ 0 0 (by rw [B];exact Yq1 (by omega)))
 | cons a u2 ih=>
  intro u1 m pp c k n o;have F:u1.length+(u2.length+1)=u.length:=by rw [← c];simp
  have D:a<4294967296:=f a (by rw [← c];simp);obtain ⟨G,E,R,P⟩:=Jb D m v 0 k (by omega) o C;have A:=fun nt (h:68≤nt)=>Y4 h u u1 u2 v g i a c.symm D C q t v m [] [] pp (κ (u2.length+1) 0) 0 rfl k rfl n o (by omega)
  simp only [P_];generalize FT a m v 0=r at*
  obtain ⟨z,d,j,Q⟩:=IA r.1 r.2;have O:bH (z::d):=by rw [← j];exact bH.app E (bH.cons G bH.nil)
  have b:=ih (u1++ [a]) d (pp++ [z]) (by simp [c]) (by omega) (by simp [n]) O.tail;simp only [j,Xx9,Xzi];rw [θ,σ] at b;have K:pp++ [z]++P_ v u2 d=pp++z::P_ v u2 d:=by simp
  rw [K] at b;refine .next ?_ b
  rw [Θ] at A;have N:u1.length+v.length=(pp++r.1).length:=by rw [θ];omega
  have I:pp++r.1++κ (u2.length+1) 0=(pp++r.1)++0::κ u2.length 0:=by rw [Xxb]
  have H:pp++ [z]++d++κ u2.length 0=(pp++r.1)++r.2::κ u2.length 0:=by
   rw [Xqe pp,Xxh,← j];simp
  have J:(ζ (ε ((δ (u1.length:Int))*1) (ai u)) .dead)= .int .u32 (a:Int):=by rw [← c];exact Iy rfl
  have M:=W_ (p:=pp++r.1) (s:=κ u2.length 0) (x:=0) (y:=r.2) N;rw [I] at A;have e:((pp++r.1)++0::κ u2.length 0).length=((pp++r.1)++r.2::κ u2.length 0).length:=by simp
  have hlen2:((pp++r.1)++0::κ u2.length 0).length=(pp++r.1).length+u2.length+1:=by simp;omega
  have hs:=al2 h u v (pp++m++κ (u2.length+1) 0) ((pp++r.1)++0::κ u2.length 0) g i u1.length a r.2;rw [M,J] at hs;have l:u1.length<u.length:=by omega
  have w:u1.length+v.length<((pp++r.1)++0::κ u2.length 0).length:=by omega
  have L:Xqm (((0+(δ (((u1.length+v.length):Nat):Int)))*1)+1) (η (ai ((pp++r.1)++0::κ u2.length 0)))=true:=by
   rw [Xzl,aC,au];omega
  unfold prO;simp only [H,μ];rw [← e];apply hs<;>first|exact rfl|exact wdp (by omega)|exact amz (by omega)|exact L|exact TP _|exact qH l|exact qH w|skip
  exact aA.blk A (by simp) rfl (aH.of ⟨rfl,rfl,rfl,rfl,rfl,rfl,rfl,rfl,rfl,rfl,rfl,trivial⟩) (aH.refl _)
theorem ZP (a b:List Nat) (d g:Bool) (c:bH a) (e:bH b) (r:a.length<2^37) (q:b.length<2^37):CO 201 [.sl (ai a) a.length d,.sl (ai b) b.length g] (.ret (.sl (ai (digs (aF a*aF b))) (digs (aF a*aF b)).length true)):=by
 obtain ⟨m,t,k⟩:=Qa e a (κ b.length 0) c (fun x j=>by rw [(List.mem_replicate.1 j).2];omega) (by simp);have l:aF (κ b.length 0)=0:=by
  generalize b.length=n
  induction n with
  |zero=>rfl
  |succ n ih=>rw [Xxb];simp only [aF,ih]
 rw [l,Xqf] at k;have p:∀ nt,68≤nt→aA prog ap [] nt (af 0 (ah f201)) (fun _=> .exit 0) (prO a b d g) prR (0,κ (a.length+b.length) 0) (P_ b a (κ b.length 0)):=fun nt i=>by
  have:=We i a b d g c e (by omega) (by omega) a [] (κ b.length 0) [] rfl (by simp) rfl (fun x j=>by rw [(List.mem_replicate.1 j).2];omega);rw [Xqk,Xqk,Xwr,Xxp] at this;exact this
 generalize P_ b a (κ b.length 0)=w at*
 have f:=ZO a b w d g (aF a*aF b);have o:γ .i64 ((a.length:Int)+(b.length:Int))=((a.length+b.length:Nat):Int):=by rw [bJ,aS (by omega)]
 rw [o,aC,pR] at f;have h:=aA.blk (s:=prO a b d g (0,κ (a.length+b.length) 0)) (s':=prR w) (id:=0) p (by simp) rfl (aH.refl _) (aH.refl _);unfold prO at h;simp only [Xxs] at h;exact f (Yq0 (by omega)) (Yq0 rfl) (Yq0 (by omega)) (BF w _ _ rfl (by rw [jJ m,k]) (by omega)) fun nt i=>(h nt i).weak (aH.of ⟨rfl,rfl,rfl,rfl,rfl,trivial⟩) (aH.refl _)
theorem Zx (s t:List UInt8) (hs:s.length<2^36) (d:t.length<2^36):CO 171 [.str s,.str t] (.ret (.str (ae (ag s*ag t)))):=by
 have a:=qE (s:=s) (n:=2^34) (by omega);have b:=qE (s:=t) (n:=2^34) (by omega);have c:=Q8 a b;have h:=ZP (digs (ag s)) (digs (ag t)) true true (bH.digs _) (bH.digs _) (by omega) (by omega);rw [fA,fA] at h;exact ad6 s t _ (uC s (by omega)) (uC t (by omega)) h (qV _ _ true (vP _) (by omega) (by omega))
end Go.Proofs.Tryz
