/- Contracts of functions that the law reaches, each by its own hypotheses; joined by a program of mine. -/
import Derived.Test.YtdmfgmmooalfnaaGreatDoorC1
import Derived.Test.YtdmfgmmooalfnaaGreatDoorM5
set_option linter.unusedSimpArgs false
set_option linter.unusedVariables false
set_option maxRecDepth 100000
open Go AM
namespace Go.Proofs.Tryz
abbrev zcc2_0 : List AV := [.str [],.int .i64 0,.bool false,.bool false,.bool false]
def ND (l:List Nat):AV:=match l with| []=> .nilS|x::l=> .ref 0 0 0 (x::l).length
def NE (l:List Nat):Hp:=match l with| []=> []|x::l=> [(0,⟨aj (x::l),0,false,0,1,true⟩)]
theorem gq {l:List Nat} (h:l ≠ []):ND l= .ref 0 0 0 l.length:=by cases l with|nil=>exact absurd rfl h|cons _ _=>rfl
theorem gu {l:List Nat} (h:l ≠ []):NE l= [(0,⟨aj l,0,false,0,1,true⟩)]:=by cases l with|nil=>exact absurd rfl h|cons _ _=>rfl
theorem iM (l:List Nat) (y:Nat):l++ [y] ≠ []:=by simp
theorem Qn {p s:List Nat} {x k:Nat} (h:k=p.length):List.headD (List.drop k (aj (p++x::s))) .dead= .int .i64 (x:Int):=by
 rw [fV (by subst h;simp)];subst h;simp
def Uu (d:Nat):List Nat→Nat→List Nat × Nat
 | [],c=>([],c)
 |x::l,c=>((x*d+c) % 16777216::(Uu d l ((x*d+c) / 16777216)).1,(Uu d l ((x*d+c) / 16777216)).2)
theorem MX {d x c:Nat} (hd:d<16777216) (a:x<16777216) (b:c<16777216):x*d+c<281474976710656∧(x*d+c) / 16777216<16777216∧x*d<281474976710656:=by
 have e:x*d≤16777215*16777215:=Nat.mul_le_mul (by omega) (by omega)
 omega
theorem ab7 {d:Nat} (hd:d<16777216) (l:List Nat):∀ c,c<16777216→a_ l→(Uu d l c).2<16777216∧a_ (Uu d l c).1∧(Uu d l c).1.length=l.length∧cZ (Uu d l c).1+16777216^l.length*(Uu d l c).2=cZ l*d+c:=by
 induction l with
 |nil=>intro c a _;exact ⟨a,a_.nil,rfl,by simp [Uu,cZ]⟩
 |cons x l ih=>
  intro c a b
  obtain ⟨_,f,_⟩:=MX hd b.head a
  obtain ⟨g,h,e,i⟩:=ih _ f b.tail
  simp only [Uu]
  refine ⟨g,a_.cons (Nat.mod_lt _ (by omega)) h,by simp [e], ?_⟩
  simp only [cZ,List.length_cons,Nat.pow_succ]
  rw [Nat.mul_comm (16777216^l.length),Nat.mul_assoc,Nat.add_mul,Nat.mul_assoc 16777216 (cZ l)]
  omega
def Uw (a:List Nat) (na:Bool) (d:Nat) (p:Nat × Nat × List Nat):St:=⟨[(0,.sl (aj a) a.length na),(1,.int .i64 (d:Int)),(6,.int .i64 (p.2.1:Int)),(7,.int .i64 (p.1:Int)),(5,ND p.2.2)],NE p.2.2,.dead,[]⟩
def Rt (p:Nat × List Nat):St:=⟨[(5,ND p.2),(6,.int .i64 (p.1:Int))],NE p.2,.dead,[]⟩
theorem ab_ {nt:Nat} (h:35≤nt) (a o:List Nat) (f:Bool) (d c k x:Nat) (p:a.length<2^40) (q:k<a.length) (n:o.length=k) (g:a.getD k 0=x) (i:x*d+c<281474976710656) (j:x*d<281474976710656):
  au prog ap [] nt (af 0 (ah f188)) (Uw a f d (k,c,o)) .normal (Uw a f d (k+1,(x*d+c) / 16777216,o++ [(x*d+c) % 16777216])):=by
 unfold Uw
 have l:(x*d+c) / 16777216<9223372036854775808:=by omega
 have m:(x*d+c) % 16777216<9223372036854775808:=by omega
 have e:(((x*d:Nat):Int))+(c:Int)=((x*d+c:Nat):Int):=by omega
 rcases Decidable.em (o= []) with rfl|hne
 ·have b:=afy h a [] f d c k
  simp (disch:=first|omega|(simp [ax,ay]<;>omega)) only [aJ,Nat.mul_one,fV,g,dY,dZ,bD,bH,bM,aY,yt,bf,e,rQ,dC,um] at b
  simp only [List.nil_append,ND,NE,aj,List.map_cons,List.map_nil,List.length_cons,List.length_nil] at b ⊢
  apply b<;>first|exact True.intro|omega|assumption|exact rfl
 ·have b:=afw h a o f d c k
  rw [gq hne,gu hne,gq (iM _ _),gu (iM _ _)]
  simp (disch:=first|omega|(simp [ax,ay]<;>omega)) only [fO,bD,Nat.mul_one,bZ,aJ,fV,g,dY,dZ,bH,bM,aY,yt,bf,e,rQ,dC,dI,List.take_length,um,kz] at b
  simp only [List.length_append,List.length_singleton]
  apply b<;>first|exact True.intro|omega|assumption|exact rfl
theorem ab8 {nt:Nat} (f:35≤nt) (a o:List Nat) (e:Bool) (d c:Nat):au prog ap [] nt (af 0 (ah f188)) (Uw a e d (a.length,c,o)) (.exit 0) (Rt (c,o)):=by
 unfold Uw Rt
 rcases Decidable.em (o= []) with rfl|hne
 ·have b:=afz f a [] e d c a.length (by rw [bH];simp [lit])
  exact b
 ·have b:=afx f a o e d c a.length (by rw [bH];simp [lit])
  rw [gq hne,gu hne]
  exact b
theorem ab9 {nt:Nat} (i:35≤nt) (a:List Nat) (f:Bool) (d:Nat) (hd:d<16777216) (r:a.length<2^40) (e:a_ a):∀ (l p o:List Nat) (c:Nat),p++l=a→o.length=p.length→c<16777216→
  aI prog ap [] nt (af 0 (ah f188)) (fun _=> .exit 0) (Uw a f d) Rt (p.length,c,o) ((Uu d l c).2,o++(Uu d l c).1):=by
 intro l
 induction l with
 |nil=>
  intro p o c h b g
  have hp:p=a:=by simpa using h
  rw [hp]
  simp only [Uu,List.append_nil]
  exact .done (ab8 i a o f d c)
 |cons x l ih=>
  intro p o c h b g
  have s:p.length+(l.length+1)=a.length:=by rw [← h];simp
  have j:x<16777216:=e x (by rw [← h];simp)
  have k:a.getD p.length 0=x:=by rw [← h];simp
  obtain ⟨m,n,q⟩:=MX hd j g
  have hnext:=ih (p++ [x]) (o++ [(x*d+c) % 16777216]) ((x*d+c) / 16777216) (by simp [h]) (by simp [b]) n
  rw [List.length_append,List.length_singleton,List.append_assoc] at hnext
  exact .next (ab_ i a o f d c p.length x r (by omega) b k m q) hnext
theorem MV (x d:Nat) (a:Bool) (hd:d<16777216) (m:(ak x).length<2^36):CO 188 [.sl (aj (ak x)) (ak x).length a,.int .i64 (d:Int)] (.ret (.sl (aj (ak (x*d))) (ak (x*d)).length true)):=by
 obtain ⟨j,g,i,f⟩:=ab7 hd (ak x) 0 (by omega) (a_.dig x)
 have hloop:=fun nt (hn:35≤nt)=>ab9 hn (ak x) a d hd (by omega) (a_.dig x) (ak x) [] [] 0 rfl rfl (by omega)
 generalize n:Uu d (ak x) 0=r at*
 obtain ⟨o,c⟩:=r
 simp only [List.nil_append,List.length_nil] at hloop j g i f
 rw [eG,Nat.add_zero] at f
 have k:cZ (o++ [c])=x*d:=by rw [zJ,i];simp only [cZ];omega
 have b:=zq (o++ [c]) true (by simp;omega)
 rw [Rx (a_.app g (a_.cons j a_.nil)),k] at b
 rcases Decidable.em (o= []) with rfl|hne
 ·have h:=abG (ak x) [] (ak (x*d)) a d c
  apply h
  ·exact aI.blk hloop (by simp) rfl (aO.of ⟨rfl,rfl,rfl,rfl,rfl,trivial⟩) (aO.of ⟨rfl,rfl,trivial⟩)
  ·exact b
 ·have h:=abE (ak x) o (ak (x*d)) a d c
  have l:o.length<2^37:=by omega
  have e:List.take (o.length+1) (aj (o++ [c]))=aj (o++ [c]):=by
   rw [dI,List.take_of_length_le (by simp)]
  simp (disch:=first|omega|(simp [ax,ay]<;>omega)) only [fO,bD,Nat.mul_one,bZ,dI,List.take_length,kz] at h
  rw [List.length_append,List.length_singleton] at b
  rw [← dI] at h
  rw [e] at h
  apply h<;>first|exact True.intro|omega|assumption|exact rfl|skip
  ·exact aI.blk hloop (by simp) rfl (aO.of ⟨rfl,rfl,rfl,rfl,rfl,trivial⟩) (by unfold Rt;rw [gq hne,gu hne];exact aO.of ⟨rfl,rfl,trivial⟩)
def OC:List Nat→List Nat→Nat→List Nat × Nat
 | [],_,c=>([],c)
 |x::u,v,c=>((if x<v.headD 0+c then x+16777216 - (v.headD 0+c) else x - (v.headD 0+c))::(OC u v.tail (if x<v.headD 0+c then 1 else 0)).1,(OC u v.tail (if x<v.headD 0+c then 1 else 0)).2)
theorem ahY {v:List Nat} (h:a_ v):v.headD 0<16777216:=by cases v with|nil=>show 0<16777216;omega|cons d l=>exact h.head
theorem aj_ {v:List Nat} (h:a_ v):a_ v.tail:=by cases v with|nil=>exact h|cons d l=>exact h.tail
theorem UK (v:List Nat):cZ v=v.headD 0+16777216*cZ v.tail:=by cases v with|nil=>rfl|cons d l=>rfl
theorem aay (u:List Nat):∀ (v:List Nat) (c:Nat),c≤1→a_ u→a_ v→v.length≤u.length→(OC u v c).2≤1∧a_ (OC u v c).1∧(OC u v c).1.length=u.length∧cZ (OC u v c).1+cZ v+c=cZ u+16777216^u.length*(OC u v c).2:=by
 induction u with
 |nil=>
  intro v c e _ _ a
  have:v= []:=List.eq_nil_of_length_eq_zero (by simpa using a)
  subst this
  exact ⟨e,a_.nil,rfl,by simp [OC,cZ]⟩
 |cons x u ih=>
  intro v c e g d a
  have l:=g.head
  have m:=ahY d
  have b:v.tail.length≤u.length:=by simp at a ⊢;omega
  obtain ⟨j,k,h,i⟩:=ih v.tail (if x<v.headD 0+c then 1 else 0) (by split<;>omega) g.tail (aj_ d) b
  simp only [OC]
  refine ⟨j,a_.cons (by split<;>omega) k,by rw [List.length_cons,h,List.length_cons], ?_⟩
  rw [UK v]
  simp only [cZ,List.length_cons,Nat.pow_succ]
  rw [Nat.mul_comm (16777216^u.length),Nat.mul_assoc]
  generalize OC u v.tail (if x<v.headD 0+c then 1 else 0)=r at*
  split at i<;>rename_i f
  ·rw [if_pos f];omega
  ·rw [if_neg f];omega
def TE (a b:List Nat) (na nb:Bool) (p:Nat × Nat × List Nat):St:=⟨[(0,.sl (aj a) a.length na),(1,.sl (aj b) b.length nb),(6,.int .i64 (p.2.1:Int)),(7,.int .i64 (p.1:Int)),(5,ND p.2.2)],NE p.2.2,.dead,[]⟩
def QB (p:Nat × List Nat):St:=⟨[(5,ND p.2)],NE p.2,.dead,[]⟩
theorem aaB {nt:Nat} (i:41≤nt) (a b o:List Nat) (g f:Bool) (c k x y:Nat) (s:a.length<2^40) (n:b.length<2^40) (t:k<a.length) (r:o.length=k) (h:a.getD k 0=x) (j:b.getD k 0=y) (m:x<16777216) (p:y<16777216) (q:c≤1):
  au prog ap [] nt (af 0 (ah f151)) (TE a b g f (k,c,o)) .normal (TE a b g f (k+1,if x<y+c then 1 else 0,o++ [if x<y+c then x+16777216 - (y+c) else x - (y+c)])):=by
 unfold TE
 by_cases hkb:k<b.length<;>by_cases hlt:x<y+c<;>simp only [hlt,if_true,if_false]
 ·have e:((x:Int) - (c:Int) - (y:Int)+((16777216:Nat):Int))=((x+16777216 - (y+c):Nat):Int):=by omega
  rcases Decidable.em (o= []) with rfl|hne
  ·have d:=afk i a b [] g f c k
   simp (disch:=first|omega|(simp [ax,ay]<;>omega)) only [aJ,Nat.mul_one,fV,h,aY,bF,j,bM,bD,dY,dZ,bH,dC] at d
   rw [e] at d
   simp only [List.nil_append,ND,NE,aj,List.map_cons,List.map_nil,List.length_cons,List.length_nil] at d ⊢
   apply d<;>first|exact True.intro|omega|assumption|exact rfl
  ·have d:=aff i a b o g f c k
   rw [gq hne,gu hne,gq (iM _ _),gu (iM _ _)]
   simp (disch:=first|omega|(simp [ax,ay]<;>omega)) only [fO,bD,Nat.mul_one,aJ,fV,h,aY,bF,j,bM,dY,dZ,bH,dC] at d
   rw [e] at d
   simp (disch:=first|omega|(simp [ax,ay]<;>omega)) only [bZ,dI,List.take_length,kz] at d
   simp only [List.length_append,List.length_singleton]
   apply d<;>first|exact True.intro|omega|assumption|exact rfl
 ·have e:((x:Int) - (c:Int) - (y:Int))=((x - (y+c):Nat):Int):=by omega
  rcases Decidable.em (o= []) with rfl|hne
  ·have d:=afl i a b [] g f c k
   simp (disch:=first|omega|(simp [ax,ay]<;>omega)) only [aJ,Nat.mul_one,fV,h,aY,bF,j,eX,gm,gU,dY,dZ,bD,bH,bM,dC] at d
   rw [e] at d
   simp only [List.nil_append,ND,NE,aj,List.map_cons,List.map_nil,List.length_cons,List.length_nil] at d ⊢
   apply d<;>first|exact True.intro|omega|assumption|exact rfl
  ·have d:=afg i a b o g f c k
   rw [gq hne,gu hne,gq (iM _ _),gu (iM _ _)]
   simp (disch:=first|omega|(simp [ax,ay]<;>omega)) only [fO,bD,Nat.mul_one,aJ,fV,h,aY,bF,j,eX,gm,gU,dY,dZ,bH,bM,dC] at d
   rw [e] at d
   simp (disch:=first|omega|(simp [ax,ay]<;>omega)) only [bZ,dI,List.take_length,kz] at d
   simp only [List.length_append,List.length_singleton]
   apply d<;>first|exact True.intro|omega|assumption|exact rfl
 ·have l:y=0:=by rw [← j,List.getD_eq_getElem?_getD,List.getElem?_eq_none (by omega)];rfl
  have e:((x:Int) - (c:Int)+((16777216:Nat):Int))=((x+16777216 - (y+c):Nat):Int):=by omega
  rcases Decidable.em (o= []) with rfl|hne
  ·have d:=afm i a b [] g f c k
   simp (disch:=first|omega|(simp [ax,ay]<;>omega)) only [aJ,Nat.mul_one,fV,h,aY,bF,bM,bD,bH,eX,gm,gU,Nat.not_lt,dY,dZ,dC] at d
   rw [e] at d
   simp only [List.nil_append,ND,NE,aj,List.map_cons,List.map_nil,List.length_cons,List.length_nil] at d ⊢
   apply d<;>first|exact True.intro|omega|assumption|exact rfl
  ·have d:=afh i a b o g f c k
   rw [gq hne,gu hne,gq (iM _ _),gu (iM _ _)]
   simp (disch:=first|omega|(simp [ax,ay]<;>omega)) only [fO,bD,Nat.mul_one,aJ,fV,h,aY,bF,bM,bH,eX,gm,gU,Nat.not_lt,dY,dZ,dC] at d
   rw [e] at d
   simp (disch:=first|omega|(simp [ax,ay]<;>omega)) only [bZ,dI,List.take_length,kz] at d
   simp only [List.length_append,List.length_singleton]
   apply d<;>first|exact True.intro|omega|assumption|exact rfl
 ·have l:y=0:=by rw [← j,List.getD_eq_getElem?_getD,List.getElem?_eq_none (by omega)];rfl
  have e:((x:Int) - (c:Int))=((x - (y+c):Nat):Int):=by omega
  rcases Decidable.em (o= []) with rfl|hne
  ·have d:=afn i a b [] g f c k
   simp (disch:=first|omega|(simp [ax,ay]<;>omega)) only [aJ,Nat.mul_one,fV,h,aY,bF,eX,gm,gU,bH,Nat.not_lt,dY,dZ,bD,bM,dC] at d
   rw [e] at d
   simp only [List.nil_append,ND,NE,aj,List.map_cons,List.map_nil,List.length_cons,List.length_nil] at d ⊢
   apply d<;>first|exact True.intro|omega|assumption|exact rfl
  ·have d:=afi i a b o g f c k
   rw [gq hne,gu hne,gq (iM _ _),gu (iM _ _)]
   simp (disch:=first|omega|(simp [ax,ay]<;>omega)) only [fO,bD,Nat.mul_one,aJ,fV,h,aY,bF,eX,gm,gU,bH,Nat.not_lt,dY,dZ,bM,dC] at d
   rw [e] at d
   simp (disch:=first|omega|(simp [ax,ay]<;>omega)) only [bZ,dI,List.take_length,kz] at d
   simp only [List.length_append,List.length_singleton]
   apply d<;>first|exact True.intro|omega|assumption|exact rfl
theorem aaz {nt:Nat} (f:41≤nt) (a b o:List Nat) (e d:Bool) (c:Nat):au prog ap [] nt (af 0 (ah f151)) (TE a b e d (a.length,c,o)) (.exit 0) (QB (c,o)):=by
 unfold TE QB
 rcases Decidable.em (o= []) with rfl|hne
 ·exact afo f a b [] e d c a.length (by rw [bH];simp [lit])
 ·have g:=afj f a b o e d c a.length (by rw [bH];simp [lit])
  rw [gq hne,gu hne]
  exact g
theorem aaA {nt:Nat} (n:41≤nt) (a b:List Nat) (k j:Bool) (t:a.length<2^40) (i:b.length<2^40) (f:a_ a) (e:a_ b):∀ (l p o:List Nat) (c:Nat),p++l=a→o.length=p.length→c≤1→
  aI prog ap [] nt (af 0 (ah f151)) (fun _=> .exit 0) (TE a b k j) QB (p.length,c,o) ((OC l (b.drop p.length) c).2,o++(OC l (b.drop p.length) c).1):=by
 intro l
 induction l with
 |nil=>
  intro p o c h g m
  have hp:p=a:=by simpa using h
  rw [hp]
  simp only [OC,List.append_nil]
  exact .done (aaz n a b o k j c)
 | cons x l ih=>
  intro p o c h g m
  have u:p.length+(l.length+1)=a.length:=by rw [← h];simp
  have q:x<16777216:=f x (by rw [← h];simp)
  have r:a.getD p.length 0=x:=by rw [← h];simp
  have s:(b.drop p.length).headD 0=b.getD p.length 0:=by
   rw [List.headD_eq_head?_getD,List.head?_drop,List.getD_eq_getElem?_getD]
  have d:(b.drop p.length).tail=b.drop (p.length+1):=by rw [List.tail_drop]
  have hnext:=ih (p++ [x]) (o++ [if x<b.getD p.length 0+c then x+16777216 - (b.getD p.length 0+c) else x - (b.getD p.length 0+c)]) (if x<b.getD p.length 0+c then 1 else 0) (by simp [h]) (by simp [g]) (by split<;>omega)
  rw [List.length_append,List.length_singleton,List.append_assoc] at hnext
  simp only [OC]
  rw [s,d]
  exact .next (aaB n a b o k j c p.length x _ t i (by omega) g r rfl q (e.getD _) m) hnext
theorem Lu (x y:Nat) (e d:Bool) (h:y≤x) (q:(ak x).length<2^36):CO 151 [.sl (aj (ak x)) (ak x).length e,.sl (aj (ak y)) (ak y).length d] (.ret (.sl (aj (ak (x - y))) (ak (x - y)).length false)):=by
 have k:=qG h
 obtain ⟨p,f,j,b⟩:=aay (ak x) (ak y) 0 (by omega) (a_.dig x) (a_.dig y) k
 have hloop:=fun nt (hn:41≤nt)=>aaA hn (ak x) (ak y) e d (by omega) (by omega) (a_.dig x) (a_.dig y) (ak x) [] [] 0 rfl rfl (by omega)
 rw [List.length_nil,List.drop_zero] at hloop
 generalize t:OC (ak x) (ak y) 0=r at*
 obtain ⟨o,c⟩:=r
 simp only [List.nil_append] at hloop p f j b
 rw [eG,eG,Nat.add_zero] at b
 have g:=zK f
 have m:c=0:=by
  rcases Nat.eq_zero_or_pos c with h0|h0
  ·exact h0
  ·have n:c=1:=by omega
   have s:=vM y
   have u:=Nat.pow_le_pow_right (show 0<16777216 by omega) k
   rw [n,Nat.mul_one] at b
   rw [j] at g
   omega
 subst m
 have i:cZ o=x - y:=by rw [Nat.mul_zero] at b;omega
 have l:=zq o true (by omega)
 rw [Rx f,i] at l
 rcases Decidable.em (o= []) with rfl|hne
 ·have h:=abw (ak x) (ak y) [] (ak (x - y)) e d
  have a:=zq [] false (by simp)
  rw [Rx a_.nil,i] at a
  apply h
  ·exact aI.blk hloop (by simp) rfl (aO.of ⟨rfl,rfl,rfl,rfl,rfl,trivial⟩) (aO.of ⟨rfl,trivial⟩)
  ·exact a.args (gQ.cons (aU.nilS false rfl) gQ.nil)
 ·have h:=abv (ak x) (ak y) o (ak (x - y)) e d
  rw [Nat.mul_one,dI,List.take_length] at h
  apply h
  ·exact aI.blk hloop (by simp) rfl (aO.of ⟨rfl,rfl,rfl,rfl,rfl,trivial⟩) (by unfold QB;rw [gq hne,gu hne];exact aO.of ⟨rfl,trivial⟩)
  ·exact l.out (jm.sl1 _ _ _)
def Zb (a b:List Nat):Nat→Option Int
 |0=>none
 |k+1=>if a.getD k 0=b.getD k 0 then Zb a b k else some ((a.getD k 0:Int) - (b.getD k 0:Int))
def Kz (a b:List Nat):Int:=if a.length=b.length then (Zb a b a.length).getD 0 else (a.length:Int) - (b.length:Int)
theorem oL {l:List Nat} {k:Nat} (h:k<l.length):cZ (l.take (k+1))=cZ (l.take k)+16777216^k*l.getD k 0:=by
 rw [List.take_add_one,zJ,List.getElem?_eq_getElem h,List.length_take,Nat.min_eq_left (by omega),List.getD_eq_getElem?_getD,List.getElem?_eq_getElem h]
 simp [cZ]
theorem KC {a b:List Nat} (g:a.length=b.length) (e:a_ a) (d:a_ b):∀ k,k≤a.length→(0≤(Zb a b k).getD 0↔cZ (b.take k)≤cZ (a.take k))∧((Zb a b k).getD 0≤0↔cZ (a.take k)≤cZ (b.take k))
 |0,_=>by simp [Zb]
 | k+1,h=>by
  obtain ⟨j,i⟩:=KC g e d k (by omega)
  rw [oL (l:=a) (by omega),oL (l:=b) (by omega)]
  have f:=zK (e.take k)
  have tb:=zK (d.take k)
  rw [List.length_take,Nat.min_eq_left (by omega)] at f tb
  simp only [Zb]
  by_cases he:a.getD k 0=b.getD k 0
  ·rw [if_pos he,he]
   exact ⟨j.trans (by omega),i.trans (by omega)⟩
  ·rw [if_neg he]
   simp only [Option.getD_some]
   generalize a.getD k 0=x at*
   generalize b.getD k 0=y at*
   generalize cZ (List.take k a)=u at*
   generalize cZ (List.take k b)=v at*
   generalize 16777216^k=M at*
   rcases Nat.lt_or_ge x y with hlt|hge
   ·have c:M*(x+1)≤M*y:=Nat.mul_le_mul_left _ hlt
    rw [Nat.mul_add,Nat.mul_one] at c
    constructor<;>constructor<;>intro<;>omega
   ·have c:M*(y+1)≤M*x:=Nat.mul_le_mul_left _ (by omega)
    rw [Nat.mul_add,Nat.mul_one] at c
    constructor<;>constructor<;>intro<;>omega
theorem G7 (x y:Nat):(0≤Kz (ak x) (ak y)↔y≤x)∧(Kz (ak x) (ak y)≤0↔x≤y):=by
 unfold Kz
 by_cases h:(ak x).length=(ak y).length
 ·rw [if_pos h]
  have:=KC h (a_.dig x) (a_.dig y) _ (Nat.le_refl _)
  rw [List.take_length,h,List.take_length,eG,eG] at this
  rw [h];exact this
 ·rw [if_neg h]
  rcases Nat.lt_or_ge (ak x).length (ak y).length with h1|h1
  ·have b:¬ y≤x:=fun a=>by have:=qG a;omega
   constructor<;>constructor<;>intro<;>omega
  ·have b:¬ x≤y:=fun a=>by have:=qG a;omega
   constructor<;>constructor<;>intro<;>omega
def ady (a b:List Nat) (na nb:Bool) (k:Nat):St:=⟨[(0,.sl (aj a) a.length na),(1,.sl (aj b) b.length nb),(5,.int .i64 ((k:Int) - 1))],[],.dead,[]⟩
def agR:Option Int→St
 |none=> ⟨[],[],.dead,[]⟩
 |some c=> ⟨[(4,.int .i64 c)],[],.dead,[]⟩
def cqE:Option Int→bI
 |none=> .exit 0
 |some _=> .ret
theorem Zc {nt:Nat} (h:41≤nt) (a b:List Nat) (e d:Bool) (o:a.length=b.length) (g:a_ a) (f:a_ b) (p:a.length<2^40):∀ k,k≤a.length→aI prog ap [] nt (af 0 (ah f186)) cqE (ady a b e d) agR k (Zb a b k):=by
  intro k
  induction k with
  |zero=>exact fun _=> .done (ae9 h a b e d)
  | succ k ih=>
    intro q
    have l:=g.getD k
    have j:=f.getD k
    have i:(((k+1:Nat):Int) - 1)=(k:Int):=by omega
    have m:IntKind.wrap .i64 ((k:Int) - ((1:Nat):Int))=(k:Int) - 1:=bF (by omega) (by omega)
    have n:IntKind.wrap .i64 (((a.getD k 0:Nat):Int) - ((b.getD k 0:Nat):Int))=((a.getD k 0:Nat):Int) - ((b.getD k 0:Nat):Int):=bF (by omega) (by omega)
    simp only [Zb]
    by_cases he:a.getD k 0=b.getD k 0
    · rw [if_pos he]
      refine .next ?_ (ih (by omega))
      unfold ady
      rw [i]
      first
        | (have c:=ajl h a b e d k
           simp (disch:=first|omega|(simp [ax,ay]<;>omega)) only [aJ,Nat.mul_one,fV,he,aY,qc,decide_true,Bool.not_true,eX,Bool.not_false,dY,dZ,bD,bH,bM,m] at c
           apply c<;>first|exact True.intro|omega|assumption|exact rfl)
    · rw [if_neg he]
      refine .done ?_
      unfold ady
      rw [i]
      have c:=ajk h a b e d k
      simp (disch:=first|omega|(simp [ax,ay]<;>omega)) only [aJ,Nat.mul_one,fV,dY,dZ,bD,bH,aY,qc,he,decide_false,Bool.not_false,bM,n] at c
      apply c<;>first|exact True.intro|omega|assumption|exact rfl
theorem QU (a b:List Nat) (e d:Bool) (g:a_ a) (f:a_ b) (k:a.length<2^40) (l:b.length<2^40):CO 186 [.sl (aj a) a.length e,.sl (aj b) b.length d] (.ret (.int .i64 (Kz a b))):=by
 unfold Kz
 by_cases hl:a.length=b.length
 ·rw [if_pos hl]
  have hloop:=fun nt (hn:41≤nt)=>Zc hn a b e d hl g f k a.length (Nat.le_refl _)
  have i:IntKind.wrap .i64 ((a.length:Int) - ((1:Nat):Int))=(a.length:Int) - 1:=Ey k
  cases j:Zb a b a.length with
  |none=>
   rw [j] at hloop
   exact afa a b e d (by rw [hl];simp [lit]) (aI.blk hloop (by simp [cqE]) rfl (aO.of ⟨rfl,rfl,congrArg _ i,trivial⟩) (aO.of trivial))
  |some c=>
   rw [j] at hloop
   exact afb a b e d c (by rw [hl];simp [lit]) (aI.blk hloop (by simp [cqE]) rfl (aO.of ⟨rfl,rfl,congrArg _ i,trivial⟩) (aO.of ⟨rfl,trivial⟩))
 ·rw [if_neg hl]
  have h:=ae_ a b e d
  have m:IntKind.wrap .i64 ((a.length:Int) - (b.length:Int))=(a.length:Int) - (b.length:Int):=bF (by omega) (by omega)
  simp (disch:=first|omega|(simp [ax,ay]<;>omega)) only [qc,bM,gm,gU,m] at h
  apply h<;>first|exact True.intro|omega|assumption|exact rfl
theorem agT {nt:Nat} (f:26≤nt) (x y w b a:Nat) (c:Int) (e d:Bool) (h:lit true (decide (c≤((0:Nat):Int)))=true) (i:lit true (decide ((b:Int)<(a:Int)))=true) (g:CO 188 [.sl (aj (ak y)) (ak y).length d,.int .i64 (IntKind.wrap .i64 (Int.tdiv (IntKind.wrap .i64 ((IntKind.wrap .i64 ((b:Int)+(a:Int)))+((1:Nat):Int))) ((2:Nat):Int)))] (.ret (.sl (aj (ak w)) (ak w).length true))) (j:CO 186 [.sl (aj (ak w)) (ak w).length true,.sl (aj (ak x)) (ak x).length e] (.ret (.int .i64 c))):au prog ap [] nt (af 0 (ah f187)) ⟨[(0,.sl (aj (ak x)) (ak x).length e),(1,.sl (aj (ak y)) (ak y).length d),(5,.int .i64 (b:Int)),(6,.int .i64 (a:Int))],[],.dead,[]⟩ (.normal) ⟨[(0,.sl (aj (ak x)) (ak x).length e),(1,.sl (aj (ak y)) (ak y).length d),(5,.int .i64 (IntKind.wrap .i64 (Int.tdiv (IntKind.wrap .i64 ((IntKind.wrap .i64 ((b:Int)+(a:Int)))+((1:Nat):Int))) ((2:Nat):Int)))),(6,.int .i64 (a:Int))],[],.dead,[]⟩:=pJ 187 [] 2 3 (.c h (.k 1 i .nil)) (.c j (.c g .nil)) f
theorem agU {nt:Nat} (f:26≤nt) (x y w a b:Nat) (c:Int) (e d:Bool) (h:lit false (decide (c≤((0:Nat):Int)))=true) (i:lit true (decide ((a:Int)<(b:Int)))=true) (g:CO 188 [.sl (aj (ak y)) (ak y).length d,.int .i64 (IntKind.wrap .i64 (Int.tdiv (IntKind.wrap .i64 ((IntKind.wrap .i64 ((a:Int)+(b:Int)))+((1:Nat):Int))) ((2:Nat):Int)))] (.ret (.sl (aj (ak w)) (ak w).length true))) (j:CO 186 [.sl (aj (ak w)) (ak w).length true,.sl (aj (ak x)) (ak x).length e] (.ret (.int .i64 c))):au prog ap [] nt (af 0 (ah f187)) ⟨[(0,.sl (aj (ak x)) (ak x).length e),(1,.sl (aj (ak y)) (ak y).length d),(5,.int .i64 (a:Int)),(6,.int .i64 (b:Int))],[],.dead,[]⟩ (.normal) ⟨[(0,.sl (aj (ak x)) (ak x).length e),(1,.sl (aj (ak y)) (ak y).length d),(5,.int .i64 (a:Int)),(6,.int .i64 (IntKind.wrap .i64 ((IntKind.wrap .i64 (Int.tdiv (IntKind.wrap .i64 ((IntKind.wrap .i64 ((a:Int)+(b:Int)))+((1:Nat):Int))) ((2:Nat):Int))) - ((1:Nat):Int))))],[],.dead,[]⟩:=pJ 187 [] 2 1 (.c h (.k 1 i .nil)) (.c j (.c g .nil)) f
theorem agV {nt:Nat} (d:26≤nt) (x y w a b:Nat) (c:Int) (g f:Bool) (e:lit false (decide ((a:Int)<(b:Int)))=true):au prog ap [] nt (af 0 (ah f187)) ⟨[(0,.sl (aj (ak x)) (ak x).length g),(1,.sl (aj (ak y)) (ak y).length f),(5,.int .i64 (a:Int)),(6,.int .i64 (b:Int))],[],.dead,[]⟩ (.exit 0) ⟨[(5,.int .i64 (a:Int))],[],.dead,[]⟩:=pJ 187 [] 1 0 (.c e .nil) (.nil) d
theorem adz (x y q:Nat) (b a:Bool) (c:aK prog ap [] 26 (.block 0 (.loop (af 0 (ah f187)))) ⟨[(0,.sl (aj (ak x)) (ak x).length b),(1,.sl (aj (ak y)) (ak y).length a),(4,.int .i64 0),(5,.int .i64 0),(6,.int .i64 16777215),(7,.dead),(10,.dead),(21,.dead)],[],.dead,[]⟩ (.normal) ⟨[(5,.int .i64 (q:Int))],[],.dead,[]⟩):CO 187 [.sl (aj (ak x)) (ak x).length b,.sl (aj (ak y)) (ak y).length a] (.ret (.int .i64 (q:Int))):=pK [0] 0 0 .nil (.l c .nil)
theorem aeT {nt:Nat} (d:35≤nt) (l o:List Nat) (k:Nat) (nn:Bool) (c:(chk (.int .i64) (List.headD (List.drop ((Int.toNat (k:Int))*1) (aj l)) .dead))=true) (b:(decide (((0:Nat):Int)≤(k:Int)))=true) (a:(decide ((k:Int)<(l.length:Int)))=true) (e:lit true (decide (((0:Nat):Int)≤(k:Int)))=true):au prog ap [] nt (af 0 (ah f136)) ⟨[(0,.sl (aj l) l.length nn),(3,.nilS),(4,.int .i64 (k:Int))],[],.dead,[]⟩ (.normal) ⟨[(0,.sl (aj l) l.length nn),(3,.ref 0 0 0 3),(4,.int .i64 (IntKind.wrap .i64 ((k:Int) - ((1:Nat):Int))))],[(0,⟨[.int .u8 (IntKind.wrap .u8 (Int.fdiv (AV.toInt (List.headD (List.drop ((Int.toNat (k:Int))*1) (aj l)) .dead)) (2^(min 16 64)))),.int .u8 (IntKind.wrap .u8 (Int.fdiv (AV.toInt (List.headD (List.drop ((Int.toNat (k:Int))*1) (aj l)) .dead)) (2^(min 8 64)))),.int .u8 (IntKind.wrap .u8 (AV.toInt (List.headD (List.drop ((Int.toNat (k:Int))*1) (aj l)) .dead)))],0,false,0,1,true⟩)],.dead,[]⟩:=pJ 136 [] 2 1 (.k 3 c (.c b (.c a (.k 1 c (.c b (.c a (.k 1 c (.c b (.c a (.c e .nil)))))))))) (.nil) d
theorem aaS {nt:Nat} (a:35≤nt) (l o:List Nat) (nn:Bool):au prog ap [] nt (af 0 (ah f136)) ⟨[(0,.sl (aj l) l.length nn),(3,.nilS),(4,.int .i64 (-1))],[],.dead,[]⟩ (.exit 0) ⟨[(3,.nilS)],[],.dead,[]⟩:=pJ 136 [] 1 0 (.n 1 .nil) (.nil) a
theorem aaT (l o:List Nat) (nn:Bool) (b:aK prog ap [] 35 (.block 0 (.loop (af 0 (ah f136)))) ⟨[(0,.sl (aj l) l.length nn),(2,.str []),(3,.nilS),(4,.int .i64 (IntKind.wrap .i64 ((l.length:Int) - ((1:Nat):Int)))),(9,.dead)],[],.dead,[]⟩ (.normal) ⟨[(3,.nilS)],[],.dead,[]⟩) (a:CO 133 [.str []] (.ret (.str (ae (ag []))))):CO 136 [.sl (aj l) l.length nn] (.ret (.str (ae (ag [])))):=pK [0] 0 0 (.n 2 .nil) (.c a (.l b .nil))
theorem aeS {nt:Nat} (d:35≤nt) (l o:List Nat) (k:Nat) (nn:Bool) (f:(Nat.ble (o.length+3) 1099511627776)=true) (e:(Nat.ble (o.length*1) (List.length (oO o)))=true) (a:(chk (.int .i64) (List.headD (List.drop ((Int.toNat (k:Int))*1) (aj l)) .dead))=true) (c:(decide (((0:Nat):Int)≤(k:Int)))=true) (b:(decide ((k:Int)<(l.length:Int)))=true) (g:lit true (decide (((0:Nat):Int)≤(k:Int)))=true):au prog ap [] nt (af 0 (ah f136)) ⟨[(0,.sl (aj l) l.length nn),(3,.ref 0 0 0 o.length),(4,.int .i64 (k:Int))],[(0,⟨(oO o),0,false,0,1,true⟩)],.dead,[]⟩ (.normal) ⟨[(0,.sl (aj l) l.length nn),(3,.ref 0 0 0 (o.length+3)),(4,.int .i64 (IntKind.wrap .i64 ((k:Int) - ((1:Nat):Int))))],[(0,⟨((List.take (o.length*1) (oO o))++ [.int .u8 (IntKind.wrap .u8 (Int.fdiv (AV.toInt (List.headD (List.drop ((Int.toNat (k:Int))*1) (aj l)) .dead)) (2^(min 16 64)))),.int .u8 (IntKind.wrap .u8 (Int.fdiv (AV.toInt (List.headD (List.drop ((Int.toNat (k:Int))*1) (aj l)) .dead)) (2^(min 8 64)))),.int .u8 (IntKind.wrap .u8 (AV.toInt (List.headD (List.drop ((Int.toNat (k:Int))*1) (aj l)) .dead)))]),0,false,0,1,true⟩)],.dead,[]⟩:=pJ 136 [] 1 1 (.k 1 f (.c e (.k 1 a (.c c (.c b (.k 1 a (.c c (.c b (.k 1 a (.c c (.c b (.c g .nil)))))))))))) (.nil) d
theorem aaQ {nt:Nat} (a:35≤nt) (l o:List Nat) (nn:Bool):au prog ap [] nt (af 0 (ah f136)) ⟨[(0,.sl (aj l) l.length nn),(3,.ref 0 0 0 o.length),(4,.int .i64 (-1))],[(0,⟨(oO o),0,false,0,1,true⟩)],.dead,[]⟩ (.exit 0) ⟨[(3,.ref 0 0 0 o.length)],[(0,⟨(oO o),0,false,0,1,true⟩)],.dead,[]⟩:=pJ 136 [] 1 0 (.n 1 .nil) (.nil) a
theorem aaR (l o:List Nat) (nn:Bool) (e:(Nat.beq (List.length (List.take (o.length*1) (oO o))) o.length)=true) (b:(List.all (List.take (o.length*1) (oO o)) (chk (.int .u8)))=true) (d:aK prog ap [] 35 (.block 0 (.loop (af 0 (ah f136)))) ⟨[(0,.sl (aj l) l.length nn),(2,.str []),(3,.nilS),(4,.int .i64 (IntKind.wrap .i64 ((l.length:Int) - ((1:Nat):Int)))),(9,.dead)],[],.dead,[]⟩ (.normal) ⟨[(3,.ref 0 0 0 o.length)],[(0,⟨(oO o),0,false,0,1,true⟩)],.dead,[]⟩) (a:CO 133 [.str (List.map (fun c=>UInt8.ofNat (Int.toNat (AV.toInt c))) (List.take (o.length*1) (oO o)))] (.ret (.str (ae (ag (List.map (fun c=>UInt8.ofNat (Int.toNat (AV.toInt c))) (List.take (o.length*1) (oO o)))))))):CO 136 [.sl (aj l) l.length nn] (.ret (.str (ae (ag (List.map (fun c=>UInt8.ofNat (Int.toNat (AV.toInt c))) (List.take (o.length*1) (oO o))))))):=pK [0] 0 0 (.c e (.c b .nil)) (.c a (.l d .nil))
theorem afq (x:Nat) (a:lit true (decide (((0:Nat):Int)<(x:Int)))=true) (b:CO 133 [.str [UInt8.ofNat (Int.toNat (IntKind.wrap .u8 (Int.fdiv (x:Int) (2^(min 56 64))))),UInt8.ofNat (Int.toNat (IntKind.wrap .u8 (Int.fdiv (x:Int) (2^(min 48 64))))),UInt8.ofNat (Int.toNat (IntKind.wrap .u8 (Int.fdiv (x:Int) (2^(min 40 64))))),UInt8.ofNat (Int.toNat (IntKind.wrap .u8 (Int.fdiv (x:Int) (2^(min 32 64))))),UInt8.ofNat (Int.toNat (IntKind.wrap .u8 (Int.fdiv (x:Int) (2^(min 24 64))))),UInt8.ofNat (Int.toNat (IntKind.wrap .u8 (Int.fdiv (x:Int) (2^(min 16 64))))),UInt8.ofNat (Int.toNat (IntKind.wrap .u8 (Int.fdiv (x:Int) (2^(min 8 64))))),UInt8.ofNat (Int.toNat (IntKind.wrap .u8 (Int.fdiv (x:Int) (2^(min 0 64)))))]] (.ret (.str (ae (ag [UInt8.ofNat (Int.toNat (IntKind.wrap .u8 (Int.fdiv (x:Int) (2^(min 56 64))))),UInt8.ofNat (Int.toNat (IntKind.wrap .u8 (Int.fdiv (x:Int) (2^(min 48 64))))),UInt8.ofNat (Int.toNat (IntKind.wrap .u8 (Int.fdiv (x:Int) (2^(min 40 64))))),UInt8.ofNat (Int.toNat (IntKind.wrap .u8 (Int.fdiv (x:Int) (2^(min 32 64))))),UInt8.ofNat (Int.toNat (IntKind.wrap .u8 (Int.fdiv (x:Int) (2^(min 24 64))))),UInt8.ofNat (Int.toNat (IntKind.wrap .u8 (Int.fdiv (x:Int) (2^(min 16 64))))),UInt8.ofNat (Int.toNat (IntKind.wrap .u8 (Int.fdiv (x:Int) (2^(min 8 64))))),UInt8.ofNat (Int.toNat (IntKind.wrap .u8 (Int.fdiv (x:Int) (2^(min 0 64)))))]))))):CO 79 [.int .i64 (x:Int)] (.ret (.str (ae (ag [UInt8.ofNat (Int.toNat (IntKind.wrap .u8 (Int.fdiv (x:Int) (2^(min 56 64))))),UInt8.ofNat (Int.toNat (IntKind.wrap .u8 (Int.fdiv (x:Int) (2^(min 48 64))))),UInt8.ofNat (Int.toNat (IntKind.wrap .u8 (Int.fdiv (x:Int) (2^(min 40 64))))),UInt8.ofNat (Int.toNat (IntKind.wrap .u8 (Int.fdiv (x:Int) (2^(min 32 64))))),UInt8.ofNat (Int.toNat (IntKind.wrap .u8 (Int.fdiv (x:Int) (2^(min 24 64))))),UInt8.ofNat (Int.toNat (IntKind.wrap .u8 (Int.fdiv (x:Int) (2^(min 16 64))))),UInt8.ofNat (Int.toNat (IntKind.wrap .u8 (Int.fdiv (x:Int) (2^(min 8 64))))),UInt8.ofNat (Int.toNat (IntKind.wrap .u8 (Int.fdiv (x:Int) (2^(min 0 64)))))])))):=pK [] 19 131067 (.k 9 a (.k 6 a (.k 6 a (.k 6 a (.k 6 a (.k 6 a (.k 6 a (.k 5 a (.n 1 .nil))))))))) (.c b .nil)
theorem afr (x:Nat) (a:lit false (decide (((0:Nat):Int)<(x:Int)))=true) (b:CO 133 [.str []] (.ret (.str (ae (ag []))))):CO 79 [.int .i64 (x:Int)] (.ret (.str (ae (ag [])))):=pK [] 2 1 (.k 2 a (.n 1 .nil)) (.c b .nil)
theorem afd {nt:Nat} (a:35≤nt) (s:List UInt8) (n k:Nat) (d:(decide (((0:Nat):Int)≤(k:Int)))=true) (c:(decide ((k:Int)<(((List.length s):Nat):Int)))=true) (b:lit true (decide ((k:Int)<(((List.length s):Nat):Int)))=true):au prog ap [] nt (af 0 (ah f178)) ⟨[(0,.str s),(4,.int .i64 (n:Int)),(5,.int .i64 (k:Int))],[],.dead,[]⟩ (.normal) ⟨[(0,.str s),(4,.int .i64 (IntKind.wrap .i64 ((IntKind.wrap .i64 ((n:Int)*2^(min 8 64)))+(IntKind.wrap .i64 ((UInt8.toNat (List.getD s (Int.toNat (k:Int)) 0):Nat):Int))))),(5,.int .i64 (IntKind.wrap .i64 ((k:Int)+((1:Nat):Int))))],[],.dead,[]⟩:=pJ 178 [] 1 1 (.c d (.c c (.k 1 b .nil))) (.nil) a
theorem afe {nt:Nat} (a:35≤nt) (s:List UInt8) (n k:Nat) (b:lit false (decide ((k:Int)<(((List.length s):Nat):Int)))=true):au prog ap [] nt (af 0 (ah f178)) ⟨[(0,.str s),(4,.int .i64 (n:Int)),(5,.int .i64 (k:Int))],[],.dead,[]⟩ (.exit 0) ⟨[(4,.int .i64 (n:Int))],[],.dead,[]⟩:=pJ 178 [] 1 0 (.c b .nil) (.nil) a
theorem abt (s:List UInt8) (n:Nat) (f:lit false (decide (((127:Nat):Int)<((UInt8.toNat (List.getD (ae (ag s)) 0 0):Nat):Int)))=true) (c:(decide (((0:Nat):Int)<(((List.length (ae (ag s))):Nat):Int)))=true) (b:lit true ((((List.length (ae (ag s))):Nat):Int)==((8:Nat):Int))=true) (e:lit false (decide (((8:Nat):Int)<(((List.length (ae (ag s))):Nat):Int)))=true) (a:CO 133 [.str s] (.ret (.str (ae (ag s))))) (d:aK prog ap [] 35 (.block 0 (.loop (af 0 (ah f178)))) ⟨[(0,.str (ae (ag s))),(2,.int .i64 0),(3,.bool false),(4,.int .i64 0),(5,.int .i64 0),(20,.bool (decide (((127:Nat):Int)<((UInt8.toNat (List.getD (ae (ag s)) 0 0):Nat):Int)))),(24,.dead)],[],.dead,[]⟩ (.normal) ⟨[(4,.int .i64 (n:Int))],[],.dead,[]⟩):CO 178 [.str s] (.ret (.tup [.int .i64 (n:Int),.bool true])):=pK [0] 3 2 (.c f (.k 1 c (.c b (.c e .nil)))) (.l d (.c a .nil))
theorem abu (s:List UInt8) (n:Nat) (d:lit false ((((List.length (ae (ag s))):Nat):Int)==((8:Nat):Int))=true) (b:lit false (decide (((8:Nat):Int)<(((List.length (ae (ag s))):Nat):Int)))=true) (a:CO 133 [.str s] (.ret (.str (ae (ag s))))) (c:aK prog ap [] 35 (.block 0 (.loop (af 0 (ah f178)))) ⟨[(0,.str (ae (ag s))),(2,.int .i64 0),(3,.bool false),(4,.int .i64 0),(5,.int .i64 0),(20,.bool false),(24,.dead)],[],.dead,[]⟩ (.normal) ⟨[(4,.int .i64 (n:Int))],[],.dead,[]⟩):CO 178 [.str s] (.ret (.tup [.int .i64 (n:Int),.bool true])):=pK [0] 3 0 (.k 1 d (.c b .nil)) (.l c (.c a .nil))
theorem ajP (s:List UInt8) (n b:Nat) (c:lit true (decide ((b:Int)<(((List.length (ae (ag s))):Nat):Int)))=true) (a:CO 133 [.str s] (.ret (.str (ae (ag s))))):CO 134 [.str s,.int .i64 (b:Int)] (.ret (.tup [.int .i64 0,.bool false])):=pK [] 1 1 (.c c .nil) (.c a .nil)
theorem ajQ (s:List UInt8) (n b:Nat) (d:lit false (decide ((b:Int)<(((List.length (ae (ag s))):Nat):Int)))=true) (a:CO 133 [.str s] (.ret (.str (ae (ag s))))) (c:CO 178 [.str s] (.ret (.tup [.int .i64 (n:Int),.bool true]))):CO 134 [.str s,.int .i64 (b:Int)] (.ret (.tup [.int .i64 (n:Int),.bool true])):=pK [] 1 0 (.c d .nil) (.c c (.c a .nil))
theorem ajw (s:List UInt8) (a:lit true ((((List.length s):Nat):Int)==((0:Nat):Int))=true):CO 179 [.str s] (.ret (.bool true)):=pK [] 1 1 (.c a .nil) (.nil)
theorem ajx (s:List UInt8) (a:(decide (((0:Nat):Int)<(((List.length s):Nat):Int)))=true) (b:lit false ((((List.length s):Nat):Int)==((0:Nat):Int))=true):CO 179 [.str s] (.ret (.bool (!(((UInt8.toNat (List.getD s 0 0):Nat):Int)==((0:Nat):Int))))):=pK [] 1 0 (.k 1 a (.c b .nil)) (.nil)
theorem abn (s t:List UInt8) (d:lit true (decide ((((List.length (ae (ag s))):Nat):Int)<(((List.length (ae (ag t))):Nat):Int)))=true) (b:lit true (!((((List.length (ae (ag s))):Nat):Int)==(((List.length (ae (ag t))):Nat):Int)))=true) (a:CO 133 [.str s] (.ret (.str (ae (ag s))))) (c:CO 133 [.str t] (.ret (.str (ae (ag t))))):CO 101 [.str s,.str t] (.ret (.int .i64 (-1))):=pK [] 2 3 (.c d (.c b .nil)) (.c c (.c a .nil))
theorem abo (s t:List UInt8) (d:lit false (decide ((((List.length (ae (ag s))):Nat):Int)<(((List.length (ae (ag t))):Nat):Int)))=true) (b:lit true (!((((List.length (ae (ag s))):Nat):Int)==(((List.length (ae (ag t))):Nat):Int)))=true) (a:CO 133 [.str s] (.ret (.str (ae (ag s))))) (c:CO 133 [.str t] (.ret (.str (ae (ag t))))):CO 101 [.str s,.str t] (.ret (.int .i64 1)):=pK [] 2 1 (.c d (.c b .nil)) (.c c (.c a .nil))
theorem abp (s t:List UInt8) (d:lit true (gW (ae (ag s)) (ae (ag t)))=true) (b:lit false (!((((List.length (ae (ag s))):Nat):Int)==(((List.length (ae (ag t))):Nat):Int)))=true) (a:CO 133 [.str s] (.ret (.str (ae (ag s))))) (c:CO 133 [.str t] (.ret (.str (ae (ag t))))):CO 101 [.str s,.str t] (.ret (.int .i64 (-1))):=pK [] 2 2 (.c d (.c b .nil)) (.c c (.c a .nil))
theorem abq (s t:List UInt8) (e:lit true (!(gW (ae (ag s)) (ae (ag t))||(ae (ag s))==(ae (ag t))))=true) (c:lit false (gW (ae (ag s)) (ae (ag t)))=true) (b:lit false (!((((List.length (ae (ag s))):Nat):Int)==(((List.length (ae (ag t))):Nat):Int)))=true) (a:CO 133 [.str s] (.ret (.str (ae (ag s))))) (d:CO 133 [.str t] (.ret (.str (ae (ag t))))):CO 101 [.str s,.str t] (.ret (.int .i64 1)):=pK [] 3 4 (.c e (.c c (.c b .nil))) (.c d (.c a .nil))
theorem abr (s t:List UInt8) (e:lit false (!(gW (ae (ag s)) (ae (ag t))||(ae (ag s))==(ae (ag t))))=true) (c:lit false (gW (ae (ag s)) (ae (ag t)))=true) (b:lit false (!((((List.length (ae (ag s))):Nat):Int)==(((List.length (ae (ag t))):Nat):Int)))=true) (a:CO 133 [.str s] (.ret (.str (ae (ag s))))) (d:CO 133 [.str t] (.ret (.str (ae (ag t))))):CO 101 [.str s,.str t] (.ret (.int .i64 0)):=pK [] 3 0 (.c e (.c c (.c b .nil))) (.c d (.c a .nil))
def akS (x y:Nat) (na nb:Bool) (p:Nat × Nat):St:=⟨[(0,.sl (aj (ak x)) (ak x).length na),(1,.sl (aj (ak y)) (ak y).length nb),(5,.int .i64 (p.1:Int)),(6,.int .i64 (p.2:Int))],[],.dead,[]⟩
def agS (q:Nat):St:=⟨[(5,.int .i64 (q:Int))],[],.dead,[]⟩
theorem Vr {x d:Nat} (hd:d<16777216):(ak (x*d)).length≤(ak x).length+1:=by
 apply rW
 have a:=vM x
 have hp:=Xw (ak x).length
 rw [Nat.pow_succ]
 rcases Nat.eq_zero_or_pos d with rfl|h0
 ·rw [Nat.mul_zero];exact Nat.mul_pos hp (by omega)
 ·exact Nat.lt_of_lt_of_le (Nat.mul_lt_mul_of_pos_right a h0) (Nat.mul_le_mul_left _ (by omega))
theorem Ze {nt:Nat} (l:26≤nt) (x y:Nat) (j i:Bool) (t:0<y) (p:(ak x).length<2^36) (v:(ak y).length<2^35):∀ (n a b:Nat),b - a<n→a≤x / y→x / y≤b→b<16777216→aI prog ap [] nt (af 0 (ah f187)) (fun _=> .exit 0) (akS x y j i) agS (a,b) (x / y):=by
 intro n
 induction n with
 |zero=>intro a b h;omega
 | succ n ih=>
  intro a b h r q w
  rcases Nat.lt_or_ge a b with hlt|hge
  ·have e:(a+b+1) / 2<16777216:=by omega
   have m:=G7 (y*((a+b+1) / 2)) x
   have o:=MV y ((a+b+1) / 2) i e (by omega)
   have s:=Vr (x:=y) e
   have f:=QU (ak (y*((a+b+1) / 2))) (ak x) true j (a_.dig _) (a_.dig _) (by omega) (by omega)
   have c:=Nat.le_div_iff_mul_le (x:=(a+b+1) / 2) (y:=x) t
   rw [Nat.mul_comm] at c
   have z:((0:Nat):Int)=0:=rfl
   by_cases hle:y*((a+b+1) / 2)≤x
   ·have g:=c.2 hle
    refine .next ?_ (ih ((a+b+1) / 2) b (by omega) g q w)
    have d:=agT l x y (y*((a+b+1) / 2)) a b (Kz (ak (y*((a+b+1) / 2))) (ak x)) j i
    simp (disch:=first|omega|(simp [ax,ay]<;>omega)) only [bM,bD,bH,dC,bf,rQ] at d
    exact d (m.2.2 hle) hlt o f
   ·have g:x / y<(a+b+1) / 2:=Nat.lt_of_not_le (fun k=>hle (c.1 k))
    refine .next ?_ (ih a ((a+b+1) / 2 - 1) (by omega) r (by omega) (by omega))
    have d:=agU l x y (y*((a+b+1) / 2)) a b (Kz (ak (y*((a+b+1) / 2))) (ak x)) j i
    simp (disch:=first|omega|(simp [ax,ay]<;>omega)) only [eX,gm,gU,bH,bM,bD,dC,bf,rQ,jH] at d
    exact d (fun k=>hle (m.2.1 k)) hlt o f
  ·have u:a=x / y:=by omega
   have d:=agV l x y 0 a b 0 j i (by rw [bH];simp [lit];omega)
   rw [← u]
   exact .done d
theorem Vs (x y:Nat) (e b:Bool) (f:0<y) (d:x<y*16777216) (a:(ak x).length<2^36) (c:(ak y).length<2^35):CO 187 [.sl (aj (ak x)) (ak x).length e,.sl (aj (ak y)) (ak y).length b] (.ret (.int .i64 ((x / y:Nat):Int))):=by
 have h:x / y<16777216:=by rw [Nat.div_lt_iff_lt_mul f,Nat.mul_comm];exact d
 exact adz x y (x / y) e b (aI.blk (fun nt g=>Ze g x y e b f a c 16777216 0 16777215 (by omega) (Nat.zero_le _) (Nat.le_of_lt_succ h) (by omega)) (by simp) rfl (aO.of ⟨rfl,rfl,rfl,rfl,trivial⟩) (aO.of ⟨rfl,trivial⟩))
theorem nP (l:List UInt8) (c:UInt8):ag (l++ [c])=ag l*256+c.toNat:=by
 unfold ag;rw [List.foldl_append];rfl
theorem toNat_ofNat {x:Nat} (h:x<256):(UInt8.ofNat x).toNat=x:=by
 rw [UInt8.toNat_ofNat'];exact Nat.mod_eq_of_lt h
def bS (o:List Nat):List UInt8:=o.map UInt8.ofNat
theorem agB (o:List Nat):List.map (fun c=>UInt8.ofNat (Int.toNat (AV.toInt c))) (oO o)=bS o:=by
 unfold oO bS;rw [List.map_map];rfl
theorem Rq (l:List Nat) (k:Nat):List.take k (oO l)=oO (l.take k):=by unfold oO;rw [List.map_take]
def U_ (l:List Nat):Nat→List Nat
 |0=> []
 |k+1=> [l.getD k 0 / 65536,l.getD k 0 / 256 % 256,l.getD k 0 % 256]++U_ l k
theorem NH (a b:List Nat):bS (a++b)=bS a++bS b:=by unfold bS;rw [List.map_append]
theorem PP {l:List Nat} (a:a_ l):∀ (k:Nat) (o:List Nat),k≤l.length→ag (bS (o++U_ l k))=ag (bS o)*16777216^k+cZ (l.take k)
 |0,o,_=>by simp [U_,cZ]
 | k+1,o,h=>by
  simp only [U_]
  rw [← List.append_assoc,PP a k _ (by omega),oL (by omega)]
  have hd:=a.getD k
  generalize l.getD k 0=d at*
  have e:ag (bS (o++ [d / 65536,d / 256 % 256,d % 256]))=ag (bS o)*16777216+d:=by
   rw [show o++ [d / 65536,d / 256 % 256,d % 256]=((o++ [d / 65536])++ [d / 256 % 256])++ [d % 256] by simp,NH,NH,NH]
   simp only [bS,List.map_cons,List.map_nil]
   rw [nP,nP,nP,toNat_ofNat (show d / 65536<256 by omega),toNat_ofNat (Nat.mod_lt _ (by omega)),toNat_ofNat (Nat.mod_lt _ (by omega))]
   omega
  rw [e,Nat.add_mul,Nat.pow_succ,Nat.mul_comm (16777216^k) 16777216,Nat.mul_assoc,Nat.mul_comm d]
  omega
def YQ (l:List Nat):AV:=match l with| []=> .nilS|x::l=> .ref 0 0 0 (x::l).length
def YR (l:List Nat):Hp:=match l with| []=> []|x::l=> [(0,⟨oO (x::l),0,false,0,1,true⟩)]
theorem CG {l:List Nat} (h:l ≠ []):YQ l= .ref 0 0 0 l.length:=by cases l with|nil=>exact absurd rfl h|cons _ _=>rfl
theorem CJ {l:List Nat} (h:l ≠ []):YR l= [(0,⟨oO l,0,false,0,1,true⟩)]:=by cases l with|nil=>exact absurd rfl h|cons _ _=>rfl
def aeR (l:List Nat) (nn:Bool) (p:Nat × List Nat):St:=⟨[(0,.sl (aj l) l.length nn),(3,YQ p.2),(4,.int .i64 ((p.1:Int) - 1))],YR p.2,.dead,[]⟩
def Xa (o:List Nat):St:=⟨[(3,YQ o)],YR o,.dead,[]⟩
theorem acg (o:List Nat) (a b c:Nat):oO o++ [AV.int .u8 (a:Int),AV.int .u8 (b:Int),AV.int .u8 (c:Int)]=oO (o++ [a,b,c]):=by simp [oO]
theorem acL:(2:Nat)^16=65536:=by decide
theorem aiM:(2:Nat)^8=256:=by decide
theorem aaP {nt:Nat} (c:35≤nt) (l:List Nat) (nn:Bool) (i:l.length<2^36) (e:a_ l):∀ (k:Nat) (o:List Nat),k≤l.length→o.length+3*k=3*l.length→aI prog ap [] nt (af 0 (ah f136)) (fun _=> .exit 0) (aeR l nn) Xa (k,o) (o++U_ l k):=by
 intro k
 induction k with
 | zero=>
  intro o _ _
  simp only [U_,List.append_nil]
  refine .done ?_
  unfold aeR Xa
  rcases Decidable.em (o= []) with rfl|hne
  ·exact aaS c l [] nn
  ·rw [CG hne,CJ hne]
   exact aaQ c l o nn
 | succ k ih=>
  intro o j m
  have hd:=e.getD k
  have h:(((k+1:Nat):Int) - 1)=(k:Int):=by omega
  have f:IntKind.wrap .i64 ((k:Int) - ((1:Nat):Int))=(k:Int) - 1:=bF (by omega) (by omega)
  have hnext:=ih (o++ [l.getD k 0 / 65536,l.getD k 0 / 256 % 256,l.getD k 0 % 256]) (by omega) (by simp;omega)
  rw [List.append_assoc] at hnext
  simp only [U_]
  refine .next ?_ hnext
  unfold aeR
  rw [h]
  generalize g:l.getD k 0=d at*
  have a:o++ [d / 65536,d / 256 % 256,d % 256] ≠ []:=by simp
  rcases Decidable.em (o= []) with rfl|hne
  ·have b:=aeT c l [] k nn
   simp (disch:=first|omega|(simp [ax,ay]<;>omega)) only [aJ,Nat.mul_one,fV,g,dY,dZ,bD,bH,bM,f,aY,show min 16 64=16 from rfl,kU,acL,w8u,Nat.mod_eq_of_lt,show min 8 64=8 from rfl,aiM] at b
   simp only [List.nil_append,YQ,YR,oO,List.map_cons,List.map_nil,List.length_cons,List.length_nil] at b ⊢
   apply b<;>first|exact True.intro|omega|assumption|exact rfl
  ·have b:=aeS c l o k nn
   rw [CG hne,CJ hne,CG a,CJ a]
   simp (disch:=first|omega|(simp [ax,ay]<;>omega)) only [fO,bD,Nat.mul_one,ay,aJ,fV,g,dY,dZ,bH,bM,f,Rq,List.take_length,aY,show min 16 64=16 from rfl,kU,acL,w8u,Nat.mod_eq_of_lt,show min 8 64=8 from rfl,aiM,acg] at b
   simp only [List.length_append,List.length_cons,List.length_nil]
   apply b<;>first|exact True.intro|omega|assumption|exact rfl
theorem uP (l:List Nat) (nn:Bool) (f:l.length<2^36) (b:a_ l):CO 136 [.sl (aj l) l.length nn] (.ret (.str (ae (cZ l)))):=by
 have hloop:=fun nt (hn:35≤nt)=>aaP hn l nn f b l.length [] (Nat.le_refl _) (by simp)
 have a:=PP b l.length [] (Nat.le_refl _)
 have g:(U_ l l.length).length=3*l.length:=by
  have:∀ k,(U_ l k).length=3*k:=by
   intro k
   induction k with
   |zero=>rfl
   |succ k ih=>simp only [U_,List.length_append,List.length_cons,List.length_nil,ih];omega
  exact this _
 have e:IntKind.wrap .i64 ((l.length:Int) - ((1:Nat):Int))=(l.length:Int) - 1:=Ey (by omega)
 simp only [List.nil_append] at hloop a
 rw [List.take_length,show ag (bS [])=0 from rfl,Nat.zero_mul,Nat.zero_add] at a
 generalize U_ l l.length=o at*
 rcases Decidable.em (o= []) with rfl|hne
 ·rw [← a]
  exact aaT l [] nn (aI.blk hloop (by simp) rfl (aO.of ⟨rfl,rfl,congrArg _ e,trivial⟩) (aO.of ⟨rfl,trivial⟩)) (gY [] (by simp))
 ·have h:=aaR l o nn
  have j:=gY (bS o) (by simp [bS];omega)
  rw [a] at j
  have c:List.take o.length (oO o)=oO o:=by rw [Rq,List.take_length]
  simp (disch:=first|omega|(simp [ax,ay]<;>omega)) only [Nat.mul_one,c,Jj,bD,agB,a] at h
  apply h<;>first|exact True.intro|omega|assumption|exact rfl|skip
  ·exact ay o
  ·have:List.all (oO o) (chk (.int .u8))=true:=by
    rw [List.all_eq_true];intro x i
    obtain ⟨d,_,rfl⟩:=List.mem_map.1 i
    rfl
   exact this
  ·exact aI.blk hloop (by simp) rfl (aO.of ⟨rfl,rfl,congrArg _ e,trivial⟩) (by unfold Xa;rw [CG hne,CJ hne];exact aO.of ⟨rfl,trivial⟩)
theorem lC (x:Nat) (c:x<9223372036854775808):CO 79 [.int .i64 (x:Int)] (.ret (.str (ae x))):=by
 rcases Nat.eq_zero_or_pos x with rfl|h0
 ·exact afr 0 rfl (gY [] (by simp))
 ·have h:=afq x
  have e:∀ k,Int.toNat (IntKind.wrap .u8 (Int.fdiv (x:Int) (2^k)))=x / 2^k % 256:=by
   intro k;rw [kU,w8u,aJ]
  simp only [show min 56 64=56 from rfl,show min 48 64=48 from rfl,show min 40 64=40 from rfl,show min 32 64=32 from rfl,show min 24 64=24 from rfl,show min 16 64=16 from rfl,show min 8 64=8 from rfl,show min 0 64=0 from rfl,e] at h
  have a:=gY [UInt8.ofNat (x / 2^56 % 256),UInt8.ofNat (x / 2^48 % 256),UInt8.ofNat (x / 2^40 % 256),UInt8.ofNat (x / 2^32 % 256),UInt8.ofNat (x / 2^24 % 256),UInt8.ofNat (x / 2^16 % 256),UInt8.ofNat (x / 2^8 % 256),UInt8.ofNat (x / 2^0 % 256)] (by simp)
  have b:ag [UInt8.ofNat (x / 2^56 % 256),UInt8.ofNat (x / 2^48 % 256),UInt8.ofNat (x / 2^40 % 256),UInt8.ofNat (x / 2^32 % 256),UInt8.ofNat (x / 2^24 % 256),UInt8.ofNat (x / 2^16 % 256),UInt8.ofNat (x / 2^8 % 256),UInt8.ofNat (x / 2^0 % 256)]=x:=by
   have t:∀ y,(UInt8.ofNat (y % 256)).toNat=y % 256:=fun y=>toNat_ofNat (Nat.mod_lt _ (by omega))
   simp only [ag,List.foldl_cons,List.foldl_nil,t]
   omega
  rw [b] at a h
  apply h
  ·rw [bH];exact decide_eq_true h0
  ·exact a
def acF (s:List UInt8) (k:Nat):St:=⟨[(0,.str s),(4,.int .i64 ((ag (s.take k):Nat):Int)),(5,.int .i64 (k:Int))],[],.dead,[]⟩
def Oo (s:List UInt8) (k:Nat):St:=⟨[(4,.int .i64 ((ag (s.take k):Nat):Int))],[],.dead,[]⟩
theorem FV {s:List UInt8} {k:Nat} (h:k<s.length):ag (s.take (k+1))=ag (s.take k)*256+(s.getD k 0).toNat:=by
 rw [List.take_add_one,List.getElem?_eq_getElem h,List.getD_eq_getElem?_getD,List.getElem?_eq_getElem h]
 exact nP _ _
theorem JP (s:List UInt8) (k:Nat):ag (s.take k)≤ag s:=by
 rcases Nat.lt_or_ge k s.length with h|h
 ·have e:s=s.take k++s.drop k:=(List.take_append_drop k s).symm
  have:∀ (b a:List UInt8),ag a≤ag (a++b):=by
   intro b
   induction b with
   |nil=>intro a;simp
   |cons c r ih=>
    intro a
    have d:=ih (a++ [c])
    rw [nP,List.append_assoc] at d
    simp only [List.cons_append,List.nil_append] at d
    omega
  calc ag (s.take k)≤ag (s.take k++s.drop k):=this _ _
   _=ag s:=by rw [← e]
 ·rw [List.take_of_length_le h];exact Nat.le_refl _
theorem Wy {nt:Nat} (g:35≤nt) (s:List UInt8) (hs:s.length<2^40) (n:ag s<9223372036854775808):∀ (d k:Nat),k+d=s.length→aI prog ap [] nt (af 0 (ah f178)) (fun _=> .exit 0) (acF s) (Oo s) k s.length:=by
 intro d
 induction d with
 |zero=>
  intro k m
  have e:k=s.length:=by omega
  subst e
  exact .done (afe g s _ _ (by rw [bH];simp [lit]))
 | succ d ih=>
  intro k m
  have b:k<s.length:=by omega
  refine .next ?_ (ih (k+1) (by omega))
  have a:=afd g s (ag (s.take k)) k
  rw [aJ] at a
  have j:=JP s (k+1)
  have f:=FV b
  have o:(s.getD k 0).toNat<256:=UInt8.toNat_lt _
  unfold acF
  rw [f]
  rw [f] at j
  generalize (s.getD k 0).toNat=c at*
  generalize ag (s.take k)=v at*
  have i:IntKind.wrap .i64 ((v:Int)*2^(min 8 64))=((v*256:Nat):Int):=by
   rw [show min 8 64=8 from rfl,bF]<;>omega
  have h:(((v*256:Nat):Int))+(c:Int)=((v*256+c:Nat):Int):=by omega
  have l:IntKind.wrap .i64 (c:Int)=(c:Int):=bf (by omega)
  rw [l,i,h,bf (by omega)] at a
  simp (disch:=first|omega|(simp [ax,ay]<;>omega)) only [dZ,bD,bH,bM,dC,bf] at a
  apply a<;>first|exact True.intro|omega|assumption|exact rfl
theorem sF {x k:Nat}:(ae x).length≤k↔x<2^(8*k):=by
 constructor
 ·intro h
  have a:=kN (ae x)
  rw [aB] at a
  exact Nat.lt_of_lt_of_le a (Nat.pow_le_pow_right (by omega) (by omega))
 ·exact dR
theorem aey (s:List UInt8) (hs:s.length<2^40) (g:ag s<9223372036854775808):CO 178 [.str s] (.ret (.tup [.int .i64 ((ag s:Nat):Int),.bool true])):=by
 have k:=gY s hs
 have a:=aB (ag s)
 have j:(ae (ag s)).length≤8:=dR (Nat.lt_of_lt_of_le g (by decide))
 have hloop:=fun nt (e:35≤nt)=>Wy e (ae (ag s)) (by omega) (by rw [a];exact g) (ae (ag s)).length 0 (by omega)
 have hless:aO ⟨[(4,.int .i64 ((ag s:Nat):Int))],[],.dead,[]⟩ (Oo (ae (ag s)) (ae (ag s)).length):=by
  unfold Oo
  rw [List.take_length,a]
  exact aO.refl _
 have f:=abt s (ag s)
 have h:=abu s (ag s)
 have d:(ae (ag s)).length=8→((ae (ag s)).getD 0 0).toNat≤127:=by
  intro b
  cases e:ae (ag s) with
  |nil=>rw [e] at b;cases b
  |cons c r=>
   rw [e] at b a
   rw [ji] at a
   have:r.length=7:=by simpa using b
   rw [this,show 256^7=72057594037927936 from rfl] at a
   simp only [List.getD_cons_zero]
   omega
 generalize ae (ag s)=t at*
 by_cases b:t.length=8
 ·have i:=d b
  simp (disch:=first|omega|(simp [ax,ay]<;>omega)) only [bH,eX,gm,gU,b,bD,qc,decide_true,bM] at f
  apply f<;>first|exact True.intro|omega|assumption|exact rfl|skip
  exact aI.blk hloop (by simp) rfl (aO.of ⟨rfl,rfl,rfl,trivial⟩) hless
 ·simp (disch:=first|omega|(simp [ax,ay]<;>omega)) only [qc,b,decide_false,eX,Bool.not_false,bH,gm,gU] at h
  apply h<;>first|exact True.intro|omega|assumption|exact rfl|skip
  exact aI.blk hloop (by simp) rfl (aO.of ⟨rfl,rfl,rfl,trivial⟩) hless
theorem gG (s:List UInt8) (b:Nat) (hs:s.length<2^40) (d:b≤7) (c:ag s<2^(8*b)):CO 134 [.str s,.int .i64 (b:Int)] (.ret (.tup [.int .i64 ((ag s:Nat):Int),.bool true])):=by
 have h:=ajQ s (ag s) b
 have a:ag s<9223372036854775808:=Nat.lt_of_lt_of_le c (Nat.le_trans (Nat.pow_le_pow_right (by omega) (show 8*b≤63 by omega)) (by decide))
 have e:=sF.2 c
 simp (disch:=first|omega|(simp [ax,ay]<;>omega)) only [bH,eX,gm,gU] at h
 exact h (by omega) (gY s hs) (aey s hs a)
theorem kK (s:List UInt8) (b:Nat) (hs:s.length<2^40) (c:2^(8*b)≤ag s):CO 134 [.str s,.int .i64 (b:Int)] (.ret (.tup [.int .i64 0,.bool false])):=by
 have h:=ajP s 0 b
 have a:¬ (ae (ag s)).length≤b:=fun h=>by have:=sF.1 h;omega
 simp (disch:=first|omega|(simp [ax,ay]<;>omega)) only [bH,bM,bD] at h
 exact h (by omega) (gY s hs)
theorem XF (s:List UInt8):CO 179 [.str s] (.ret (.bool (nR s))):=by
 cases s with
 |nil=>exact ajw [] rfl
 | cons c r=>
  have h:=ajx (c::r)
  have e:(!((((c::r).getD 0 0).toNat:Int)==((0:Nat):Int)))=nR (c::r):=by
   simp only [List.getD_cons_zero,nR]
   by_cases hc:c=0
   ·subst hc;rfl
   ·have:c.toNat ≠ 0:=fun h=>hc (by apply UInt8.toNat_inj.1;simpa using h)
    have a:((c.toNat:Int)==((0:Nat):Int))=false:=by simp;omega
    rw [a];simp [hc]
  rw [e] at h
  apply h
  ·simp
  ·simp [lit];omega
theorem A8:∀ (a b:List UInt8),a.length=b.length→gW a b=decide (ag a<ag b)
 | [],[],_=>rfl
 | [],_::_,h=>by simp at h
 |_::_,[],h=>by simp at h
 | x::a,y::b,h=>by
  have c:a.length=b.length:=by simpa using h
  have i:=A8 a b c
  have j:=kN a
  have k:=kN b
  simp only [gW,i]
  rw [ji,ji,c,show (256:Nat)=2^8 from rfl,← Nat.pow_mul]
  rw [c] at j
  have f:decide (x<y)=decide (x.toNat<y.toNat):=by simp [UInt8.lt_iff_toNat_lt]
  have d:(x==y)=decide (x.toNat=y.toNat):=by
   by_cases h:x=y
   ·subst h;simp
   ·have:x.toNat ≠ y.toNat:=fun g=>h (UInt8.toNat_inj.1 g)
    simp [h,this]
  rw [f,d]
  generalize 2^(8*b.length)=M at*
  generalize ag a=u at*
  generalize ag b=v at*
  generalize x.toNat=p at*
  generalize y.toNat=q at*
  rcases Nat.lt_trichotomy p q with h3|h3|h3
  ·have e:(p+1)*M≤q*M:=Nat.mul_le_mul_right _ h3
   rw [Nat.add_mul,Nat.one_mul] at e
   rw [decide_eq_true h3,decide_eq_true (show p*M+u<q*M+v by omega)];rfl
  ·subst h3
   rw [decide_eq_false (Nat.lt_irrefl _),decide_eq_true rfl]
   simp
  ·have e:(q+1)*M≤p*M:=Nat.mul_le_mul_right _ h3
   rw [Nat.add_mul,Nat.one_mul] at e
   rw [decide_eq_false (show ¬ p<q by omega),decide_eq_false (show ¬ p=q by omega),decide_eq_false (show ¬ p*M+u<q*M+v by omega)];rfl
theorem BG {x y:Nat} (h:(ae x).length<(ae y).length):x<y:=by
 rcases Nat.lt_or_ge x y with h1|h1
 ·exact h1
 ·have a:y≤ag (ae x):=by rw [aB];exact h1
  have:=m_ a
  omega
theorem JB (s t:List UInt8) (hs:s.length<2^40) (j:t.length<2^40):CO 101 [.str s,.str t] (.ret (.int .i64 (lJ (ag s) (ag t)))):=by
 have d:=gY s hs
 have c:=gY t j
 have g:=aB (ag s)
 have k:=aB (ag t)
 unfold lJ
 by_cases hl:(ae (ag s)).length=(ae (ag t)).length
 ·have a:=A8 _ _ hl
  rw [g,k] at a
  have f:(ae (ag s)==ae (ag t))=decide (ag s=ag t):=by
   by_cases h:ag s=ag t
   ·rw [h];simp
   ·have:ae (ag s) ≠ ae (ag t):=fun i=>h (EP i)
    simp [h,this]
  have b:lit false (!((((ae (ag s)).length:Nat):Int)==(((ae (ag t)).length:Nat):Int)))=true:=by rw [hl];simp [lit]
  by_cases h1:ag s<ag t
  ·rw [if_pos h1]
   exact abp s t (by rw [a,decide_eq_true h1];rfl) b d c
  ·rw [if_neg h1]
   by_cases e:ag t<ag s
   ·rw [if_pos e]
    exact abq s t (by rw [a,f,decide_eq_false h1,decide_eq_false (show ¬ ag s=ag t by omega)];rfl) (by rw [a,decide_eq_false h1];rfl) b d c
   ·rw [if_neg e]
    exact abr s t (by rw [a,f,decide_eq_false h1,decide_eq_true (show ag s=ag t by omega)];rfl) (by rw [a,decide_eq_false h1];rfl) b d c
 ·have b:lit true (!((((ae (ag s)).length:Nat):Int)==(((ae (ag t)).length:Nat):Int)))=true:=by rw [qc,decide_eq_false hl];rfl
  by_cases h1:(ae (ag s)).length<(ae (ag t)).length
  ·rw [if_pos (BG h1)]
   exact abn s t (by rw [bH,decide_eq_true h1];rfl) b d c
  ·have e:=BG (show (ae (ag t)).length<(ae (ag s)).length by omega)
   rw [if_neg (by omega),if_pos e]
   exact abo s t (by rw [bH,decide_eq_false h1];rfl) b d c
theorem aiF {nt:Nat} (a:35≤nt) (s:List UInt8) (o:List Nat) (e d k:Nat) (f:(decide (((0:Nat):Int)≤(k:Int)))=true) (c:(decide ((k:Int)<(((List.length s):Nat):Int)))=true) (b:lit true (decide ((k:Int)<(e:Int)))=true):au prog ap [] nt (af 2 (ah f135)) ⟨[(0,.str s),(3,.nilS),(4,.int .i64 (e:Int)),(5,.int .i64 (d:Int)),(6,.int .i64 (k:Int))],[],.dead,[]⟩ (.normal) ⟨[(0,.str s),(3,.nilS),(4,.int .i64 (e:Int)),(5,.int .i64 (IntKind.wrap .i64 ((IntKind.wrap .i64 ((d:Int)*((256:Nat):Int)))+(IntKind.wrap .i64 ((UInt8.toNat (List.getD s (Int.toNat (k:Int)) 0):Nat):Int))))),(6,.int .i64 (IntKind.wrap .i64 ((k:Int)+((1:Nat):Int))))],[],.dead,[]⟩:=pJ 135 [] 1 1 (.c f (.c c (.c b .nil))) (.nil) a
theorem aiG {nt:Nat} (a:35≤nt) (s:List UInt8) (o:List Nat) (e d k:Nat) (b:lit false (decide ((k:Int)<(e:Int)))=true):au prog ap [] nt (af 2 (ah f135)) ⟨[(0,.str s),(3,.nilS),(4,.int .i64 (e:Int)),(5,.int .i64 (d:Int)),(6,.int .i64 (k:Int))],[],.dead,[]⟩ (.exit 2) ⟨[(0,.str s),(3,.nilS),(4,.int .i64 (e:Int)),(5,.int .i64 (d:Int))],[],.dead,[]⟩:=pJ 135 [] 1 0 (.c b .nil) (.nil) a
theorem aiD {nt:Nat} (a:35≤nt) (s:List UInt8) (o:List Nat) (e d k:Nat) (f:(decide (((0:Nat):Int)≤(k:Int)))=true) (c:(decide ((k:Int)<(((List.length s):Nat):Int)))=true) (b:lit true (decide ((k:Int)<(e:Int)))=true):au prog ap [] nt (af 2 (ah f135)) ⟨[(0,.str s),(3,.ref 0 0 0 o.length),(4,.int .i64 (e:Int)),(5,.int .i64 (d:Int)),(6,.int .i64 (k:Int))],[(0,⟨(aj o),0,false,0,1,true⟩)],.dead,[]⟩ (.normal) ⟨[(0,.str s),(3,.ref 0 0 0 o.length),(4,.int .i64 (e:Int)),(5,.int .i64 (IntKind.wrap .i64 ((IntKind.wrap .i64 ((d:Int)*((256:Nat):Int)))+(IntKind.wrap .i64 ((UInt8.toNat (List.getD s (Int.toNat (k:Int)) 0):Nat):Int))))),(6,.int .i64 (IntKind.wrap .i64 ((k:Int)+((1:Nat):Int))))],[(0,⟨(aj o),0,false,0,1,true⟩)],.dead,[]⟩:=pJ 135 [] 1 1 (.c f (.c c (.c b .nil))) (.nil) a
theorem aiE {nt:Nat} (a:35≤nt) (s:List UInt8) (o:List Nat) (e d k:Nat) (b:lit false (decide ((k:Int)<(e:Int)))=true):au prog ap [] nt (af 2 (ah f135)) ⟨[(0,.str s),(3,.ref 0 0 0 o.length),(4,.int .i64 (e:Int)),(5,.int .i64 (d:Int)),(6,.int .i64 (k:Int))],[(0,⟨(aj o),0,false,0,1,true⟩)],.dead,[]⟩ (.exit 2) ⟨[(0,.str s),(3,.ref 0 0 0 o.length),(4,.int .i64 (e:Int)),(5,.int .i64 (d:Int))],[(0,⟨(aj o),0,false,0,1,true⟩)],.dead,[]⟩:=pJ 135 [] 1 0 (.c b .nil) (.nil) a
theorem aiz {nt:Nat} (a:35≤nt) (s:List UInt8) (o:List Nat) (z:Int) (d:Nat) (c:lit true (decide (((0:Nat):Int)<z))=true) (b:aK prog ap [] 35 (.block 2 (.loop (af 2 (ah f135)))) ⟨[(0,.str s),(2,.dead),(3,.nilS),(4,.int .i64 z),(5,.int .i64 0),(6,.int .i64 (if ((0:Nat):Int)>(IntKind.wrap .i64 (z - ((3:Nat):Int))) then ((0:Nat):Int) else (IntKind.wrap .i64 (z - ((3:Nat):Int))))),(12,.bool (decide (((0:Nat):Int)<z))),(20,.dead)],[],.dead,[]⟩ (.normal) ⟨[(0,.str s),(4,.int .i64 z),(5,.int .i64 (d:Int)),(3,.nilS)],[],.dead,[]⟩):au prog ap [] nt (af 0 (ah f135)) ⟨[(0,.str s),(3,.nilS),(4,.int .i64 z)],[],.dead,[]⟩ (.normal) ⟨[(0,.str s),(3,.ref 0 0 0 1),(4,.int .i64 (IntKind.wrap .i64 (z - ((3:Nat):Int))))],[(0,⟨[.int .i64 (d:Int)],0,false,0,1,true⟩)],.dead,[]⟩:=pJ 135 [2] 2 1 (.k 3 c .nil) (.l b .nil) a
theorem aiA {nt:Nat} (a:35≤nt) (s:List UInt8) (o:List Nat) (z:Int) (d:Nat) (b:lit false (decide (((0:Nat):Int)<z))=true):au prog ap [] nt (af 0 (ah f135)) ⟨[(0,.str s),(3,.nilS),(4,.int .i64 z)],[],.dead,[]⟩ (.exit 0) ⟨[(3,.nilS)],[],.dead,[]⟩:=pJ 135 [2] 1 0 (.c b .nil) (.nil) a
theorem aeW (s:List UInt8) (o:List Nat) (b:CO 133 [.str s] (.ret (.str (ae (ag s))))) (a:aK prog ap [] 35 (.block 0 (.loop (af 0 (ah f135)))) ⟨[(0,.str (ae (ag s))),(2,.nilS),(3,.nilS),(4,.int .i64 (((List.length (ae (ag s))):Nat):Int)),(5,.dead),(6,.dead),(12,.dead),(20,.dead)],[],.dead,[]⟩ (.normal) ⟨[(3,.nilS)],[],.dead,[]⟩):CO 135 [.str s] (.ret (.nilS)):=pK [0] 0 0 .nil (.l a (.c b .nil))
theorem aiu {nt:Nat} (a:35≤nt) (s:List UInt8) (o:List Nat) (z:Int) (d:Nat) (f:(Nat.ble (o.length+1) 1099511627776)=true) (c:(Nat.ble (o.length*1) (List.length (aj o)))=true) (b:lit true (decide (((0:Nat):Int)<z))=true) (e:aK prog ap [] 35 (.block 2 (.loop (af 2 (ah f135)))) ⟨[(0,.str s),(2,.dead),(3,.ref 0 0 0 o.length),(4,.int .i64 z),(5,.int .i64 0),(6,.int .i64 (if ((0:Nat):Int)>(IntKind.wrap .i64 (z - ((3:Nat):Int))) then ((0:Nat):Int) else (IntKind.wrap .i64 (z - ((3:Nat):Int))))),(12,.bool (decide (((0:Nat):Int)<z))),(20,.dead)],[(0,⟨(aj o),0,false,0,1,true⟩)],.dead,[]⟩ (.normal) ⟨[(0,.str s),(4,.int .i64 z),(5,.int .i64 (d:Int)),(3,.ref 0 0 0 o.length)],[(0,⟨(aj o),0,false,0,1,true⟩)],.dead,[]⟩):au prog ap [] nt (af 0 (ah f135)) ⟨[(0,.str s),(3,.ref 0 0 0 o.length),(4,.int .i64 z)],[(0,⟨(aj o),0,false,0,1,true⟩)],.dead,[]⟩ (.normal) ⟨[(0,.str s),(3,.ref 0 0 0 (o.length+1)),(4,.int .i64 (IntKind.wrap .i64 (z - ((3:Nat):Int))))],[(0,⟨((List.take (o.length*1) (aj o))++ [.int .i64 (d:Int)]),0,false,0,1,true⟩)],.dead,[]⟩:=pJ 135 [2] 1 1 (.k 1 f (.c c (.k 1 b .nil))) (.l e .nil) a
theorem aiv {nt:Nat} (a:35≤nt) (s:List UInt8) (o:List Nat) (z:Int) (d:Nat) (b:lit false (decide (((0:Nat):Int)<z))=true):au prog ap [] nt (af 0 (ah f135)) ⟨[(0,.str s),(3,.ref 0 0 0 o.length),(4,.int .i64 z)],[(0,⟨(aj o),0,false,0,1,true⟩)],.dead,[]⟩ (.exit 0) ⟨[(3,.ref 0 0 0 o.length)],[(0,⟨(aj o),0,false,0,1,true⟩)],.dead,[]⟩:=pJ 135 [2] 1 0 (.c b .nil) (.nil) a
theorem aeV (s:List UInt8) (o:List Nat) (b:CO 133 [.str s] (.ret (.str (ae (ag s))))) (a:aK prog ap [] 35 (.block 0 (.loop (af 0 (ah f135)))) ⟨[(0,.str (ae (ag s))),(2,.nilS),(3,.nilS),(4,.int .i64 (((List.length (ae (ag s))):Nat):Int)),(5,.dead),(6,.dead),(12,.dead),(20,.dead)],[],.dead,[]⟩ (.normal) ⟨[(3,.ref 0 0 0 o.length)],[(0,⟨(aj o),0,false,0,1,true⟩)],.dead,[]⟩):CO 135 [.str s] (.ret (.own (List.take (o.length*1) (aj o)) o.length 1)):=pK [0] 0 0 .nil (.l a (.c b .nil))
def Xk (s:List UInt8) (o:List Nat) (e j k:Nat):St:=⟨[(0,.str s),(3,ND o),(4,.int .i64 (e:Int)),(5,.int .i64 ((ag ((s.take k).drop j):Nat):Int)),(6,.int .i64 (k:Int))],NE o,.dead,[]⟩
def Xj (s:List UInt8) (o:List Nat) (e d:Nat):St:=⟨[(0,.str s),(3,ND o),(4,.int .i64 (e:Int)),(5,.int .i64 (d:Int))],NE o,.dead,[]⟩
theorem TV {s:List UInt8} {j k:Nat} (h:k<s.length) (a:j≤k):ag ((s.take (k+1)).drop j)=ag ((s.take k).drop j)*256+(s.getD k 0).toNat:=by
 rw [List.take_add_one,List.getElem?_eq_getElem h,List.drop_append_of_le_length (by simp;omega),List.getD_eq_getElem?_getD,List.getElem?_eq_getElem h]
 exact nP _ _
theorem QL {s:List UInt8} {j k:Nat} (h:k≤j+3):ag ((s.take k).drop j)<16777216:=by
 have a:=kN ((s.take k).drop j)
 have b:((s.take k).drop j).length≤3:=by simp;omega
 exact Nat.lt_of_lt_of_le a (Nat.le_trans (Nat.pow_le_pow_right (by omega) (show 8*((s.take k).drop j).length≤24 by omega)) (by decide))
theorem aaX {nt:Nat} (f:35≤nt) (s:List UInt8) (o:List Nat) (e j:Nat) (hs:s.length<2^40) (u:e≤s.length) (t:e≤j+3):∀ (n k:Nat),k+n=e→j≤k→aI prog ap [] nt (af 2 (ah f135)) (fun _=> .exit 2) (Xk s o e j) (Xj s o e) k (ag ((s.take e).drop j)):=by
 intro n
 induction n with
 | zero=>
  intro k p b
  have g:k=e:=by omega
  subst g
  refine .done ?_
  unfold Xk Xj
  rcases Decidable.em (o= []) with rfl|hne
  ·exact aiG f s [] k _ k (by rw [bH];simp [lit])
  ·rw [gq hne,gu hne]
   exact aiE f s o k _ k (by rw [bH];simp [lit])
 | succ n ih=>
  intro k p b
  refine .next ?_ (ih (k+1) (by omega) (by omega))
  have h:k<s.length:=by omega
  have r:=QL (s:=s) (j:=j) (k:=k) (by omega)
  have v:(s.getD k 0).toNat<256:=UInt8.toNat_lt _
  have l:=TV h b
  unfold Xk
  rw [l]
  generalize m:(s.getD k 0).toNat=c at*
  generalize ag ((s.take k).drop j)=d at*
  clear ih l
  have q:IntKind.wrap .i64 ((d:Int)*((256:Nat):Int))=((d*256:Nat):Int):=by rw [bF]<;>omega
  have i:(((d*256:Nat):Int))+(c:Int)=((d*256+c:Nat):Int):=by omega
  rcases Decidable.em (o= []) with rfl|hne
  ·have a:=aiF f s [] e d k
   simp (disch:=first|omega|(simp [ax,ay]<;>omega)) only [dZ,bD,bH,bM,yt,bf,aJ,m,i,dC] at a
   apply a<;>first|exact True.intro|omega|assumption|exact rfl
  ·have a:=aiD f s o e d k
   rw [gq hne,gu hne]
   simp (disch:=first|omega|(simp [ax,ay]<;>omega)) only [dZ,bD,bH,bM,yt,bf,aJ,m,i,dC] at a
   apply a<;>first|exact True.intro|omega|assumption|exact rfl
def TU (s:List UInt8) (p:Int × List Nat):St:=⟨[(0,.str s),(3,ND p.2),(4,.int .i64 p.1)],NE p.2,.dead,[]⟩
def QK (o:List Nat):St:=⟨[(3,ND o)],NE o,.dead,[]⟩
theorem aaW {nt:Nat} (c:35≤nt) (s:List UInt8) (o:List Nat) (e:Nat) (hs:s.length<2^38) (h:e≤s.length) (j:0<e) (k:o.length<2^39):
  au prog ap [] nt (af 0 (ah f135)) (TU s ((e:Int),o)) .normal (TU s ((e:Int) - 3,o++ [ag ((s.take e).drop (e - 3))])):=by
 have hloop:=fun nt (c:35≤nt)=>aaX c s o e (e - 3) (by omega) h (by omega) (e - (e - 3)) (e - 3) (by omega) (Nat.le_refl _)
 have f:IntKind.wrap .i64 ((e:Int) - ((3:Nat):Int))=(e:Int) - 3:=bF (by omega) (by omega)
 have g:(if ((0:Nat):Int)>(e:Int) - 3 then ((0:Nat):Int) else (e:Int) - 3)=((e - 3:Nat):Int):=by
  split<;>omega
 have b:ag ((s.take (e - 3)).drop (e - 3))=0:=by
  rw [List.drop_of_length_le (by simp;omega)];rfl
 have i:(List.drop (e - 3) (List.take e s)).length≤3:=by simp;omega
 unfold TU
 generalize ag ((s.take e).drop (e - 3))=d at*
 rcases Decidable.em (o= []) with rfl|hne
 ·have a:=aiz c s [] (e:Int) d
  rw [f,g] at a
  simp (disch:=first|omega|(simp [ax,ay]<;>omega)) only [bH,bM,bD] at a
  simp only [List.nil_append,ND,NE,aj,List.map_cons,List.map_nil,List.length_cons,List.length_nil] at a ⊢
  apply a
  ·omega
  ·refine aI.blk hloop (by simp) rfl ?_ (aO.of ⟨rfl,rfl,rfl,rfl,trivial⟩)
   unfold Xk
   rw [b]
   exact aO.of ⟨rfl,rfl,rfl,rfl,rfl,trivial⟩
 ·have a:=aiu c s o (e:Int) d
  rw [f,g] at a
  rw [gq hne,gu hne,gq (iM _ _),gu (iM _ _)]
  simp (disch:=first|omega|(simp [ax,ay]<;>omega)) only [fO,bD,Nat.mul_one,bZ,bH,bM,dI,List.take_length,kz] at a
  simp only [List.length_append,List.length_singleton]
  apply a<;>first|exact True.intro|omega|assumption|exact rfl|skip
  ·refine aI.blk hloop (by simp) rfl ?_ ?_
   ·unfold Xk
    rw [b,gq hne,gu hne]
    exact aO.of ⟨rfl,rfl,rfl,rfl,rfl,trivial⟩
   ·unfold Xj
    rw [gq hne,gu hne]
    exact aO.of ⟨rfl,rfl,rfl,rfl,trivial⟩
theorem Xf {nt:Nat} (a:35≤nt) (s:List UInt8) (o:List Nat) (z:Int) (c:z≤0):au prog ap [] nt (af 0 (ah f135)) (TU s (z,o)) (.exit 0) (QK o):=by
 unfold TU QK
 have b:lit false (decide (((0:Nat):Int)<z))=true:=by simp [lit];exact c
 rcases Decidable.em (o= []) with rfl|hne
 ·exact aiA a s [] z 0 b
 ·rw [gq hne,gu hne]
  exact aiv a s o z 0 b
theorem agI {s:List UInt8} {e:Nat} (g:e≤s.length):ag (s.take e)=16777216*ag (s.take (e - 3))+ag ((s.take e).drop (e - 3)):=by
 have c:∀ (b a:List UInt8),ag (a++b)=ag a*256^b.length+ag b:=by
  intro b a
  unfold ag
  rw [List.foldl_append,Hl];rfl
 have hs:s.take e=s.take (e - 3)++(s.take e).drop (e - 3):=by
  have f:=List.take_append_drop (e - 3) (s.take e)
  rw [List.take_take,Nat.min_eq_left (by omega)] at f
  exact f.symm
 have d:=c ((s.take e).drop (e - 3)) (s.take (e - 3))
 rw [← hs] at d
 rw [d]
 rcases Nat.lt_or_ge e 3 with h3|h3
 ·have:e - 3=0:=by omega
  rw [this];simp [ag]
 ·have:((s.take e).drop (e - 3)).length=3:=by simp;omega
  rw [this,Nat.mul_comm,show 256^3=16777216 from rfl]
theorem Xg {nt:Nat} (b:35≤nt) (s:List UInt8) (hs:s.length<2^38) (m:nR s=true):∀ (n e:Nat) (o:List Nat),e<n→e≤s.length→o.length+e<2^39→aI prog ap [] nt (af 0 (ah f135)) (fun _=> .exit 0) (TU s) QK ((e:Int),o) (o++ak (ag (s.take e))):=by
 intro n
 induction n with
 |zero=>intro e o h;omega
 | succ n ih=>
  intro e o h d q
  rcases Nat.eq_zero_or_pos e with rfl|h0
  ·have:ag (s.take 0)=0:=rfl
   rw [this,fG,List.append_nil]
   exact .done (Xf b s o _ (by omega))
  ·have f:0<ag (s.take e):=by
    cases s with
    |nil=>simp at d;omega
    | cons c r=>
     have g:c ≠ 0:=by simpa [nR] using m
     have a:0<c.toNat:=by
      rcases Nat.eq_zero_or_pos c.toNat with h|h
      ·exact absurd (by apply UInt8.toNat_inj.1;simpa using h) g
      ·exact h
     obtain ⟨e',rfl⟩:∃ e',e=e'+1:=⟨e - 1,by omega⟩
     rw [List.take_succ_cons,ji]
     have:=Nat.mul_pos a (show 0<256^(r.take e').length from Nat.pow_pos (by omega))
     omega
   have l:=agI d
   have hd:=QL (s:=s) (j:=e - 3) (k:=e) (by omega)
   have hstep:=aaW b s o e hs d h0 (by omega)
   rw [nV f,show ag (s.take e) % 16777216=ag ((s.take e).drop (e - 3)) by omega,show ag (s.take e) / 16777216=ag (s.take (e - 3)) by omega]
   rcases Nat.lt_or_ge e 3 with h3|h3
   ·have i:e - 3=0:=by omega
    have p:ag (s.take (e - 3))=0:=by rw [i];rfl
    rw [p,fG]
    exact .next hstep (.done (Xf b s _ _ (by omega)))
   ·have hnext:=ih (e - 3) (o++ [ag ((s.take e).drop (e - 3))]) (by omega) (by omega) (by simp;omega)
    rw [List.append_assoc] at hnext
    rw [show ((e:Int) - 3)=((e - 3:Nat):Int) by omega] at hstep
    exact .next hstep hnext
theorem BL (s:List UInt8) (hs:s.length<2^37):CO 135 [.str s] (.ret (.sl (aj (ak (ag s))) (ak (ag s)).length false)):=by
 have c:=gY s (by omega)
 have b:(ae (ag s)).length≤s.length:=m_ (Nat.le_refl _)
 have a:=aB (ag s)
 have hloop:=fun nt (hn:35≤nt)=>Xg hn (ae (ag s)) (by omega) (yX _) ((ae (ag s)).length+1) (ae (ag s)).length [] (by omega) (Nat.le_refl _) (by simp;omega)
 rw [List.take_length,a,List.nil_append] at hloop
 generalize hd:ak (ag s)=o at*
 rcases Decidable.em (o= []) with rfl|hne
 ·have h:=aeW s [] c (aI.blk hloop (by simp) rfl (aO.of ⟨rfl,rfl,rfl,trivial⟩) (aO.of ⟨rfl,trivial⟩))
  exact h.out (jm.ret rfl rfl (aU.nilS false rfl))
 ·have h:=(aeV s o c (aI.blk hloop (by simp) rfl (aO.of ⟨rfl,rfl,rfl,trivial⟩) (by unfold QK;rw [gq hne,gu hne];exact aO.of ⟨rfl,trivial⟩))).thaw (by simp)
  simp only [zB,thaw,Nat.mul_one,dI,List.take_length] at h
  exact h.out (jm.sl1 _ _ _)
theorem alU (s t:List UInt8) (x y q r:Nat) (a:(!((y:Int)==((0:Nat):Int)))=true) (f:lit false ((((List.length (ae (ag t))):Nat):Int)==((0:Nat):Int))=true) (c:CO 133 [.str t] (.ret (.str (ae (ag t))))) (g:CO 134 [.str s,.int .i64 7] (.ret (.tup [.int .i64 (x:Int),.bool true]))) (e:CO 134 [.str (ae (ag t)),.int .i64 7] (.ret (.tup [.int .i64 (y:Int),.bool true]))) (b:CO 79 [.int .i64 (IntKind.wrap .i64 (Int.tdiv (x:Int) (y:Int)))] (.ret (.str (ae q)))) (d:CO 79 [.int .i64 (Int.tmod (x:Int) (y:Int))] (.ret (.str (ae r)))):CO 150 [.str s,.str t] (.ret (.tup [.str (ae q),.str (ae r),.bool true])):=pK [0] 3 6 (.c a (.c a (.k 2 f .nil))) (.c d (.c b (.c e (.c g (.c c .nil)))))
theorem alS (s t:List UInt8) (x y q r m:Nat) (Q:List Nat) (b:Int) (a:Bool) (j:(decide (((0:Nat):Int)≤(((ak (ag s)).length:Nat):Int)))=true) (d:(decide ((((ak (ag s)).length:Nat):Int)=(((ak (ag s)).length:Nat):Int)))=true) (h:(decide ((((ak (ag s)).length:Nat):Int)≤((1099511627776:Nat):Int)))=true) (g:lit false ((((List.length (ae (ag t))):Nat):Int)==((0:Nat):Int))=true) (n:CO 133 [.str t] (.ret (.str (ae (ag t))))) (i:CO 134 [.str s,.int .i64 7] (.ret (.tup [.int .i64 0,.bool false]))) (c:CO 134 [.str (ae (ag t)),.int .i64 7] (.ret (.tup [.int .i64 b,.bool a]))) (k:CO 135 [.str s] (.ret (.sl (aj (ak (ag s))) (ak (ag s)).length false))) (l:CO 135 [.str (ae (ag t))] (.ret (.sl (aj (ak (ag (ae (ag t))))) (ak (ag (ae (ag t)))).length false))) (e:aK prog ap [] 87 (.block 0 (.loop (af 0 (ah f150)))) ⟨[(0,.str s),(1,.str (ae (ag t))),(4,.str []),(5,.str []),(6,.bool false),(7,.int .i64 0),(8,.bool false),(9,.int .i64 b),(10,.bool a),(11,.sl (aj (ak (ag s))) (ak (ag s)).length false),(12,.sl (aj (ak (ag (ae (ag t))))) (ak (ag (ae (ag t)))).length false),(13,.ref 0 0 0 (Int.toNat (((ak (ag s)).length:Nat):Int))),(14,.nilS),(15,.int .i64 (IntKind.wrap .i64 ((((ak (ag s)).length:Nat):Int) - ((1:Nat):Int)))),(20,.bool ((((List.length (ae (ag t))):Nat):Int)==((0:Nat):Int))),(34,.bool false),(54,.dead),(68,.dead)],[(0,⟨(f_ (Int.toNat (((ak (ag s)).length:Nat):Int)) [.int .i64 0]),0,false,0,1,true⟩)],.dead,[]⟩ (.normal) ⟨[(13,.ref 0 0 0 m),(14,.sl (aj (ak r)) (ak r).length false)],[(0,⟨(aj Q),0,false,0,1,true⟩)],.dead,[]⟩) (o:CO 136 [.sl (List.take (m*1) (aj Q)) m true] (.ret (.str (ae q)))) (f:CO 136 [.sl (aj (ak r)) (ak r).length false] (.ret (.str (ae r)))):CO 150 [.str s,.str t] (.ret (.tup [.str (ae q),.str (ae r),.bool true])):=pK [0] 3 0 (.c j (.c d (.c h (.k 2 g .nil)))) (.c f (.c o (.l e (.c l (.c k (.c c (.c i (.c n .nil))))))))
theorem alT (s t:List UInt8) (x y q r m:Nat) (Q:List Nat) (o:Int) (n:Bool) (h:(decide (((0:Nat):Int)≤(((ak (ag s)).length:Nat):Int)))=true) (b:(decide ((((ak (ag s)).length:Nat):Int)=(((ak (ag s)).length:Nat):Int)))=true) (f:(decide ((((ak (ag s)).length:Nat):Int)≤((1099511627776:Nat):Int)))=true) (e:lit false ((((List.length (ae (ag t))):Nat):Int)==((0:Nat):Int))=true) (k:CO 133 [.str t] (.ret (.str (ae (ag t))))) (g:CO 134 [.str s,.int .i64 7] (.ret (.tup [.int .i64 (x:Int),.bool true]))) (a:CO 134 [.str (ae (ag t)),.int .i64 7] (.ret (.tup [.int .i64 0,.bool false]))) (i:CO 135 [.str s] (.ret (.sl (aj (ak (ag s))) (ak (ag s)).length false))) (j:CO 135 [.str (ae (ag t))] (.ret (.sl (aj (ak (ag (ae (ag t))))) (ak (ag (ae (ag t)))).length false))) (c:aK prog ap [] 87 (.block 0 (.loop (af 0 (ah f150)))) ⟨[(0,.str s),(1,.str (ae (ag t))),(4,.str []),(5,.str []),(6,.bool false),(7,.int .i64 (x:Int)),(8,.bool true),(9,.int .i64 0),(10,.bool false),(11,.sl (aj (ak (ag s))) (ak (ag s)).length false),(12,.sl (aj (ak (ag (ae (ag t))))) (ak (ag (ae (ag t)))).length false),(13,.ref 0 0 0 (Int.toNat (((ak (ag s)).length:Nat):Int))),(14,.nilS),(15,.int .i64 (IntKind.wrap .i64 ((((ak (ag s)).length:Nat):Int) - ((1:Nat):Int)))),(20,.bool ((((List.length (ae (ag t))):Nat):Int)==((0:Nat):Int))),(34,.bool false),(54,.dead),(68,.dead)],[(0,⟨(f_ (Int.toNat (((ak (ag s)).length:Nat):Int)) [.int .i64 0]),0,false,0,1,true⟩)],.dead,[]⟩ (.normal) ⟨[(13,.ref 0 0 0 m),(14,.sl (aj (ak r)) (ak r).length false)],[(0,⟨(aj Q),0,false,0,1,true⟩)],.dead,[]⟩) (l:CO 136 [.sl (List.take (m*1) (aj Q)) m true] (.ret (.str (ae q)))) (d:CO 136 [.sl (aj (ak r)) (ak r).length false] (.ret (.str (ae r)))):CO 150 [.str s,.str t] (.ret (.tup [.str (ae q),.str (ae r),.bool true])):=pK [0] 3 2 (.c h (.c b (.c f (.k 2 e .nil)))) (.c d (.c l (.l c (.c j (.c i (.c a (.c g (.c k .nil))))))))
theorem alV {nt:Nat} (g:87≤nt) (x y r w q p a m k:Nat) (c:Int) (Q:List Nat) (o:(chk (.int .i64) (List.headD (List.drop ((0+(Int.toNat (k:Int)))*1) (List.take ((0+(Int.toNat (k:Int)))*1) (aj Q)++ [.int .i64 (q:Int)]++List.drop (((0+(Int.toNat (k:Int)))*1)+1) (aj Q))) .dead))=true) (b:(decide (((0:Nat):Int)≤(k:Int)))=true) (d:(decide ((k:Int)<(m:Int)))=true) (i:(Nat.ble (((0+(Int.toNat (k:Int)))*1)+1) (List.length (aj Q)))=true) (n:lit true (decide (((0:Nat):Int)≤c))=true) (z:(Nat.beq (List.length (aj (ak r))) ((ak r).length*1))=true) (v:(Nat.ble (1+(ak r).length) 1099511627776)=true) (f:(chk (.int .i64) (List.headD (List.drop ((Int.toNat (k:Int))*1) (aj (ak x))) .dead))=true) (j:(decide ((k:Int)<(((ak x).length:Nat):Int)))=true) (h:lit true (decide (((0:Nat):Int)≤(k:Int)))=true) (u:CO 185 [.sl (List.take ((1+(ak r).length)*1) ([.int .i64 (AV.toInt (List.headD (List.drop ((Int.toNat (k:Int))*1) (aj (ak x))) .dead))]++(aj (ak r)))) (1+(ak r).length) true] (.ret (.sl (aj (ak w)) (ak w).length false))) (l:CO 186 [.sl (aj (ak w)) (ak w).length false,.sl (aj (ak y)) (ak y).length false] (.ret (.int .i64 c))) (e:CO 187 [.sl (aj (ak w)) (ak w).length false,.sl (aj (ak y)) (ak y).length false] (.ret (.int .i64 (q:Int)))) (s:CO 188 [.sl (aj (ak y)) (ak y).length false,.int .i64 (AV.toInt (List.headD (List.drop ((0+(Int.toNat (k:Int)))*1) (List.take ((0+(Int.toNat (k:Int)))*1) (aj Q)++ [.int .i64 (q:Int)]++List.drop (((0+(Int.toNat (k:Int)))*1)+1) (aj Q))) .dead))] (.ret (.sl (aj (ak p)) (ak p).length true))) (t:CO 151 [.sl (aj (ak w)) (ak w).length false,.sl (aj (ak p)) (ak p).length true] (.ret (.sl (aj (ak a)) (ak a).length false))):au prog ap [] nt (af 0 (ah f150)) ⟨[(11,.sl (aj (ak x)) (ak x).length false),(12,.sl (aj (ak y)) (ak y).length false),(13,.ref 0 0 0 m),(14,.sl (aj (ak r)) (ak r).length false),(15,.int .i64 (k:Int))],[(0,⟨(aj Q),0,false,0,1,true⟩)],.dead,[]⟩ (.normal) ⟨[(11,.sl (aj (ak x)) (ak x).length false),(12,.sl (aj (ak y)) (ak y).length false),(13,.ref 0 0 0 m),(14,.sl (aj (ak a)) (ak a).length false),(15,.int .i64 (IntKind.wrap .i64 ((k:Int) - ((1:Nat):Int))))],[(0,⟨(List.take ((0+(Int.toNat (k:Int)))*1) (aj Q)++ [.int .i64 (q:Int)]++List.drop (((0+(Int.toNat (k:Int)))*1)+1) (aj Q)),0,false,0,1,true⟩)],.dead,[]⟩:=pJ 150 [] 2 3 (.c o (.c b (.c d (.c i (.c b (.c d (.c n (.c z (.c v (.k 2 f (.c b (.c j (.c h .nil))))))))))))) (.c t (.c s (.c e (.c l (.c u .nil))))) g
theorem alW {nt:Nat} (b:87≤nt) (x y r w q p n m k:Nat) (c:Int) (Q:List Nat) (h:lit false (decide (((0:Nat):Int)≤c))=true) (a:(Nat.beq (List.length (aj (ak r))) ((ak r).length*1))=true) (e:(Nat.ble (1+(ak r).length) 1099511627776)=true) (d:(chk (.int .i64) (List.headD (List.drop ((Int.toNat (k:Int))*1) (aj (ak x))) .dead))=true) (g:(decide (((0:Nat):Int)≤(k:Int)))=true) (l:(decide ((k:Int)<(((ak x).length:Nat):Int)))=true) (j:lit true (decide (((0:Nat):Int)≤(k:Int)))=true) (i:CO 185 [.sl (List.take ((1+(ak r).length)*1) ([.int .i64 (AV.toInt (List.headD (List.drop ((Int.toNat (k:Int))*1) (aj (ak x))) .dead))]++(aj (ak r)))) (1+(ak r).length) true] (.ret (.sl (aj (ak w)) (ak w).length false))) (f:CO 186 [.sl (aj (ak w)) (ak w).length false,.sl (aj (ak y)) (ak y).length false] (.ret (.int .i64 c))):au prog ap [] nt (af 0 (ah f150)) ⟨[(11,.sl (aj (ak x)) (ak x).length false),(12,.sl (aj (ak y)) (ak y).length false),(13,.ref 0 0 0 m),(14,.sl (aj (ak r)) (ak r).length false),(15,.int .i64 (k:Int))],[(0,⟨(aj Q),0,false,0,1,true⟩)],.dead,[]⟩ (.normal) ⟨[(11,.sl (aj (ak x)) (ak x).length false),(12,.sl (aj (ak y)) (ak y).length false),(13,.ref 0 0 0 m),(14,.sl (aj (ak w)) (ak w).length false),(15,.int .i64 (IntKind.wrap .i64 ((k:Int) - ((1:Nat):Int))))],[(0,⟨(aj Q),0,false,0,1,true⟩)],.dead,[]⟩:=pJ 150 [] 2 1 (.c h (.c a (.c e (.k 2 d (.c g (.c l (.c j .nil))))))) (.c f (.c i .nil)) b
theorem ai4 {nt:Nat} (a:87≤nt) (x y r w q p b m k:Nat) (c:Int) (Q:List Nat):au prog ap [] nt (af 0 (ah f150)) ⟨[(11,.sl (aj (ak x)) (ak x).length false),(12,.sl (aj (ak y)) (ak y).length false),(13,.ref 0 0 0 m),(14,.sl (aj (ak r)) (ak r).length false),(15,.int .i64 (-1))],[(0,⟨(aj Q),0,false,0,1,true⟩)],.dead,[]⟩ (.exit 0) ⟨[(13,.ref 0 0 0 m),(14,.sl (aj (ak r)) (ak r).length false)],[(0,⟨(aj Q),0,false,0,1,true⟩)],.dead,[]⟩:=pJ 150 [] 1 0 (.n 1 .nil) (.nil) a
def Ar (x y m k:Nat):List Nat:=(List.range m).map fun i=>if i<k then 0 else x / 16777216^i / y % 16777216
theorem xF (x y m k:Nat):(Ar x y m k).length=m:=by simp [Ar]
theorem abb {x y m k:Nat} (a:k<m):(Ar x y m (k+1)).set k (x / 16777216^k / y % 16777216)=Ar x y m k:=by
 apply List.ext_getElem?
 intro i
 rw [List.getElem?_set,xF]
 unfold Ar
 by_cases hi:k=i
 ·subst hi;simp [a]
 ·rw [if_neg hi]
  by_cases him:i<m
  ·simp only [List.getElem?_map,List.getElem?_range him,Option.map_some]
   by_cases h1:i<k
   ·rw [if_pos (by omega),if_pos h1]
   ·rw [if_neg (by omega),if_neg h1]
  ·rw [List.getElem?_eq_none (by simp;omega),List.getElem?_eq_none (by simp;omega)]
theorem H9 (x y m:Nat):Ar x y m m=List.replicate m 0:=by
 unfold Ar
 apply List.ext_getElem?
 intro i
 by_cases him:i<m
 ·simp [him]
 ·rw [List.getElem?_eq_none (by simp;omega),List.getElem?_eq_none (by simp;omega)]
theorem aba (x y m k:Nat):a_ (Ar x y m k):=by
 intro d hd
 obtain ⟨i,_,rfl⟩:=List.mem_map.1 hd
 show (if i<k then 0 else _)<_
 split<;>omega
theorem Yx (z:Nat):∀ m,cZ ((List.range m).map fun i=>z / 16777216^i % 16777216)=z % 16777216^m:=by
 intro m
 induction m with
 |zero=>simp [cZ,Nat.mod_one]
 |succ m ih=>
  rw [List.range_succ,List.map_append,zJ,ih,List.length_map,List.length_range,Nat.pow_succ,Nat.mod_mul]
  simp only [List.map_cons,List.map_nil,cZ,Nat.mul_zero,Nat.add_zero]
theorem abd {x y m:Nat} (h:x / y<16777216^m):cZ (Ar x y m 0)=x / y:=by
 have e:Ar x y m 0=(List.range m).map fun i=>x / y / 16777216^i % 16777216:=by
  unfold Ar
  apply List.map_congr_left
  intro i _
  rw [if_neg (by omega),Nat.div_div_eq_div_mul,Nat.div_div_eq_div_mul,Nat.mul_comm]
 rw [e,Yx,Nat.mod_eq_of_lt h]
theorem Vq:∀ (k x:Nat),(ak x).getD k 0=x / 16777216^k % 16777216:=by
 intro k
 induction k with
 |zero=>
  intro x
  rcases Nat.eq_zero_or_pos x with rfl|h
  ·rw [fG];rfl
  ·rw [nV h];simp
 |succ k ih=>
  intro x
  rcases Nat.eq_zero_or_pos x with rfl|h
  ·rw [fG];simp
  ·rw [nV h,List.getD_cons_succ,ih,Nat.div_div_eq_div_mul,Nat.pow_succ,Nat.mul_comm]
theorem Qa {V R' Q' x H:Nat} (a:0<V) (h:H=V*Q'+R'):(x+16777216*H) / V=16777216*Q'+(x+16777216*R') / V∧(x+16777216*H) % V=(x+16777216*R') % V:=by
 subst h
 have e:x+16777216*(V*Q'+R')=x+16777216*R'+V*(16777216*Q'):=by
  rw [Nat.mul_add,Nat.mul_left_comm];omega
 rw [e]
 constructor
 ·rw [Nat.add_mul_div_left _ _ a,Nat.add_comm]
 ·rw [Nat.add_mul_mod_self_left]
def TY (x y m k:Nat):St:=⟨[(11,.sl (aj (ak x)) (ak x).length false),(12,.sl (aj (ak y)) (ak y).length false),(13,.ref 0 0 0 m),(14,.sl (aj (ak (x / 16777216^k % y))) (ak (x / 16777216^k % y)).length false),(15,.int .i64 ((k:Int) - 1))],[(0,⟨aj (Ar x y m k),0,false,0,1,true⟩)],.dead,[]⟩
theorem alY {nt:Nat} (n:87≤nt) (x y r w q p b m k d:Nat) (c:Int) (Q Q2:List Nat) (A:k<(ak x).length) (hd:(ak x).getD k 0=d) (h:Q.length=m) (i:k<m) (z:m<2^40) (s:(ak r).length<2^39) (a:Q.set k q=Q2) (t:0≤c)
  (c0:CO 185 [.sl (aj (d::ak r)) (1+(ak r).length) true] (.ret (.sl (aj (ak w)) (ak w).length false)))
  (c1:CO 186 [.sl (aj (ak w)) (ak w).length false,.sl (aj (ak y)) (ak y).length false] (.ret (.int .i64 c)))
  (c2:CO 187 [.sl (aj (ak w)) (ak w).length false,.sl (aj (ak y)) (ak y).length false] (.ret (.int .i64 (q:Int))))
  (c3:CO 188 [.sl (aj (ak y)) (ak y).length false,.int .i64 (q:Int)] (.ret (.sl (aj (ak p)) (ak p).length true)))
  (c4:CO 151 [.sl (aj (ak w)) (ak w).length false,.sl (aj (ak p)) (ak p).length true] (.ret (.sl (aj (ak b)) (ak b).length false))):
  au prog ap [] nt (af 0 (ah f150)) ⟨[(11,.sl (aj (ak x)) (ak x).length false),(12,.sl (aj (ak y)) (ak y).length false),(13,.ref 0 0 0 m),(14,.sl (aj (ak r)) (ak r).length false),(15,.int .i64 (k:Int))],[(0,⟨aj Q,0,false,0,1,true⟩)],.dead,[]⟩ .normal
   ⟨[(11,.sl (aj (ak x)) (ak x).length false),(12,.sl (aj (ak y)) (ak y).length false),(13,.ref 0 0 0 m),(14,.sl (aj (ak b)) (ak b).length false),(15,.int .i64 ((k:Int) - 1))],[(0,⟨aj Q2,0,false,0,1,true⟩)],.dead,[]⟩:=by
 have g:=alV n x y r w q p b m k c Q
 have u:IntKind.wrap .i64 ((k:Int) - ((1:Nat):Int))=(k:Int) - 1:=bF (by omega) (by omega)
 have hset':=Qo (l:=Q) (j:=k) (by omega) q
 rw [a] at hset'
 have e:Q2.getD k 0=q:=by rw [← a,List.getD_eq_getElem?_getD,List.getElem?_set_self (by omega)];rfl
 have v:Q2.length=m:=by rw [← a];simp [h]
 have f:List.take (1+(ak r).length) (aj (d::ak r))=aj (d::ak r):=by rw [dI,List.take_of_length_le (by simp;omega)]
 have o:(((0:Nat):Int)≤c)=True:=by simp [t]
 simp (disch:=first|omega|(simp [ax,ay]<;>omega)) only [aJ,Nat.zero_add,Nat.mul_one,hset',fV,e,dY,dZ,bD,bH,bZ,fO,o,decide_true,bM,Jj,hd,aY,K_,f,u] at g
 apply g<;>first|exact True.intro|omega|assumption|exact rfl
theorem alX {nt:Nat} (h:87≤nt) (x y r w m k d:Nat) (c:Int) (Q:List Nat) (o:k<(ak x).length) (hd:(ak x).getD k 0=d) (l:Q.length=m) (f:k<m) (n:m<2^40) (j:(ak r).length<2^39) (e:c<0)
  (c0:CO 185 [.sl (aj (d::ak r)) (1+(ak r).length) true] (.ret (.sl (aj (ak w)) (ak w).length false)))
  (c1:CO 186 [.sl (aj (ak w)) (ak w).length false,.sl (aj (ak y)) (ak y).length false] (.ret (.int .i64 c))):
  au prog ap [] nt (af 0 (ah f150)) ⟨[(11,.sl (aj (ak x)) (ak x).length false),(12,.sl (aj (ak y)) (ak y).length false),(13,.ref 0 0 0 m),(14,.sl (aj (ak r)) (ak r).length false),(15,.int .i64 (k:Int))],[(0,⟨aj Q,0,false,0,1,true⟩)],.dead,[]⟩ .normal
   ⟨[(11,.sl (aj (ak x)) (ak x).length false),(12,.sl (aj (ak y)) (ak y).length false),(13,.ref 0 0 0 m),(14,.sl (aj (ak w)) (ak w).length false),(15,.int .i64 ((k:Int) - 1))],[(0,⟨aj Q,0,false,0,1,true⟩)],.dead,[]⟩:=by
 have b:=alW h x y r w 0 0 0 m k c Q
 have g:IntKind.wrap .i64 ((k:Int) - ((1:Nat):Int))=(k:Int) - 1:=bF (by omega) (by omega)
 have a:List.take (1+(ak r).length) (aj (d::ak r))=aj (d::ak r):=by rw [dI,List.take_of_length_le (by simp;omega)]
 have i:(((0:Nat):Int)≤c)=False:=by simp [e]
 simp (disch:=first|omega|(simp [ax,ay]<;>omega)) only [i,decide_false,eX,Bool.not_false,bZ,Nat.mul_one,Jj,decide_true,fO,bD,aJ,fV,hd,dY,dZ,bH,bM,aY,K_,a,g] at b
 apply b<;>first|exact True.intro|omega|assumption|exact rfl
theorem aa9 (x y m k:Nat) (c:0<y) (l:k<m):∃ d r w:Nat,(ak x).getD k 0=d∧x / 16777216^(k+1) % y=r∧d+16777216*r=w∧d<16777216∧r<y∧x / 16777216^k % y=w % y∧(Ar x y m (k+1)).set k (w / y)=Ar x y m k∧(Ar x y m (k+1)).getD k 0=0:=by
 have e:=Nat.mod_lt (x / 16777216^k) (show 0<16777216 by omega)
 have g:=Nat.mod_lt (x / 16777216^(k+1)) c
 refine ⟨x / 16777216^k % 16777216,x / 16777216^(k+1) % y,_,Vq k x,rfl,rfl,e,g, ?_, ?_, ?_⟩
 ·have b:=Nat.div_add_mod (x / 16777216^(k+1)) y
  obtain ⟨_,j⟩:=Qa (x:=x / 16777216^k % 16777216) c b.symm
  have f:x / 16777216^k % 16777216+16777216*(x / 16777216^(k+1))=x / 16777216^k:=by
   rw [Nat.pow_succ,← Nat.div_div_eq_div_mul];omega
  rw [f] at j
  exact j
 ·have b:=Nat.div_add_mod (x / 16777216^(k+1)) y
  obtain ⟨v1,_⟩:=Qa (x:=x / 16777216^k % 16777216) c b.symm
  have f:x / 16777216^k % 16777216+16777216*(x / 16777216^(k+1))=x / 16777216^k:=by
   rw [Nat.pow_succ,← Nat.div_div_eq_div_mul];omega
  rw [f] at v1
  have a:=abb (x:=x) (y:=y) l
  rw [v1] at a
  have h:x / 16777216^k % 16777216+16777216*(x / 16777216^(k+1) % y)<y*16777216:=by omega
  have i:(x / 16777216^k % 16777216+16777216*(x / 16777216^(k+1) % y)) / y<16777216:=by rw [Nat.div_lt_iff_lt_mul c,Nat.mul_comm 16777216 y];exact h
  rw [Nat.mul_add_mod,Nat.mod_eq_of_lt i] at a
  exact a
 ·unfold Ar;rw [List.getD_eq_getElem?_getD];simp [l]
theorem SB {w y:Nat} (h:w<y*16777216):(ak w).length≤(ak y).length+1:=by
 apply rW
 have a:=vM y
 rw [Nat.pow_succ]
 exact Nat.lt_trans h (Nat.mul_lt_mul_of_pos_right a (by omega))
theorem aa_ {nt:Nat} (E:87≤nt) (x y m k:Nat) (t:0<y) (L:(ak x).length=m) (C:k<m) (I:m<2^35) (K:(ak y).length<2^34):au prog ap [] nt (af 0 (ah f150)) (TY x y m (k+1)) .normal (TY x y m k):=by
 obtain ⟨d,r,w,hd,J,H,A,v,q,a,j⟩:=aa9 x y m k t C
 have o:=xF x y m (k+1)
 unfold TY
 rw [show (((k+1:Nat):Int) - 1)=(k:Int) by omega,J,q]
 have e:w<y*16777216:=by omega
 have F:=qG (Nat.le_of_lt v)
 have b:=zq (d::ak r) true (by simp;omega)
 rw [Rx (a_.cons A (a_.dig r))] at b
 simp only [cZ,eG,H,List.length_cons] at b
 rw [Nat.add_comm (ak r).length 1] at b
 have c:=b.out (jm.sl1 _ _ _)
 have u:w / y<16777216:=by rw [Nat.div_lt_iff_lt_mul t,Nat.mul_comm];exact e
 have G:=SB e
 have n:=QU (ak w) (ak y) false false (a_.dig _) (a_.dig _) (by omega) (by omega)
 have l:=G7 w y
 generalize Ar x y m k=Q2 at*
 generalize Ar x y m (k+1)=Q1 at*
 by_cases hc:0≤Kz (ak w) (ak y)
 ·have f:=l.1.1 hc
  have g:=Vs w y false false t e (by omega) (by omega)
  have B:=MV y (w / y) false u (by omega)
  have z:y*(w / y)≤w:=Nat.mul_div_le w y
  have p:=Lu w (y*(w / y)) false true z (by omega)
  have D:w - y*(w / y)=w % y:=by have:=Nat.div_add_mod w y;omega
  rw [D] at p
  exact alY E x y r w (w / y) (y*(w / y)) (w % y) m k d _ Q1 Q2 (by omega) hd o C (by omega) (by omega) a hc c n g B p
 ·have f:w<y:=Nat.lt_of_not_le (fun h=>hc (l.1.2 h))
  have s:w / y=0:=Nat.div_eq_of_lt f
  rw [Nat.mod_eq_of_lt f]
  rw [s] at a
  have hsame:Q1.set k 0=Q1:=by
   apply List.ext_getElem?
   intro i
   rw [List.getElem?_set]
   by_cases hi:k=i
   ·subst hi
    rw [List.getD_eq_getElem?_getD,List.getElem?_eq_getElem (by omega)] at j
    rw [if_pos rfl,if_pos (by omega),List.getElem?_eq_getElem (by omega)]
    simpa using j.symm
   ·rw [if_neg hi]
  rw [hsame] at a
  subst a
  exact alX E x y r w m k d _ Q1 (by omega) hd o C (by omega) (by omega) (by omega) c n
def QR (x y m k:Nat):St:=⟨[(13,.ref 0 0 0 m),(14,.sl (aj (ak (x / 16777216^k % y))) (ak (x / 16777216^k % y)).length false)],[(0,⟨aj (Ar x y m k),0,false,0,1,true⟩)],.dead,[]⟩
theorem aa8 {nt:Nat} (c:87≤nt) (x y m:Nat) (e:0<y) (d:(ak x).length=m) (a:m<2^35) (b:(ak y).length<2^34):∀ k,k≤m→aI prog ap [] nt (af 0 (ah f150)) (fun _=> .exit 0) (TY x y m) (QR x y m) k 0:=by
 intro k
 induction k with
 |zero=>
  intro _
  refine .done ?_
  unfold QR
  have h:=ai4 c x y (x / 16777216^0 % y) 0 0 0 0 m 0 0 (Ar x y m 0)
  exact h
 |succ k ih=>exact fun f=> .next (aa_ c x y m k e d (by omega) a b) (ih (by omega))
theorem Ij {s:List UInt8}:(ak (ag s)).length≤s.length:=by
 apply rW
 have h:=kN s
 refine Nat.lt_of_lt_of_le h ?_
 rw [show (16777216:Nat)=2^24 from rfl,← Nat.pow_mul]
 exact Nat.pow_le_pow_right (by omega) (by omega)
theorem JF (s t:List UInt8) (hs:s.length<2^33) (I:t.length<2^33) (y:0<ag t):CO 150 [.str s,.str t] (.ret (.tup [.str (ae (ag s / ag t)),.str (ae (ag s % ag t)),.bool true])):=by
 have M:=gY t (by omega)
 have a:=aB (ag t)
 have B:(ae (ag t)).length≤t.length:=m_ (Nat.le_refl _)
 have k:ae (ag t) ≠ []:=fun h=>by have:=iT.1 h;omega
 have F:0<(ae (ag t)).length:=by
  cases C:ae (ag t) with
  |nil=>exact absurd C k
  |cons _ _=>simp
 have e:((ae (ag t)).length=0)=False:=by simp;exact k
 have J:((7:Nat):Int)=7:=rfl
 by_cases hb:ag s<2^(8*7)∧ag t<2^(8*7)
 ·have d:=gG s 7 (by omega) (by omega) hb.1
  have b:=gG (ae (ag t)) 7 (by omega) (by omega) (by rw [a];exact hb.2)
  rw [a] at b
  have z:ag s<9223372036854775808:=Nat.lt_of_lt_of_le hb.1 (by decide)
  have v:ag t<9223372036854775808:=Nat.lt_of_lt_of_le hb.2 (by decide)
  have N:=Nat.div_le_self (ag s) (ag t)
  have H:=Nat.mod_le (ag s) (ag t)
  have K:=lC (ag s / ag t) (by omega)
  have L:=lC (ag s % ag t) (by omega)
  have h:=alU s t (ag s) (ag t) (ag s / ag t) (ag s % ag t)
  have l:(ag t=0)=False:=by simp;omega
  clear hb hs
  simp (disch:=first|omega|(simp [ax,ay]<;>omega)) only [qc,l,decide_false,Bool.not_false,e,eX,rQ,bf,um] at h
  apply h<;>first|exact True.intro|omega|assumption|exact rfl
 ·have A:=BL s (by omega)
  have g:=BL (ae (ag t)) (by omega)
  rw [a] at g
  have E:=Ij (s:=s)
  have G:=Ij (s:=t)
  have hloop:=fun nt (hn:87≤nt)=>aa8 hn (ag s) (ag t) _ y rfl (by omega) (by omega) _ (Nat.le_refl _)
  have p:=xF (ag s) (ag t) (ak (ag s)).length 0
  have r:cZ (Ar (ag s) (ag t) (ak (ag s)).length 0)=ag s / ag t:=abd (Nat.lt_of_le_of_lt (Nat.div_le_self _ _) (vM _))
  have u:=uP (Ar (ag s) (ag t) (ak (ag s)).length 0) true (by omega) (aba _ _ _ _)
  rw [r,p] at u
  have o:ag s / 16777216^0 % ag t=ag s % ag t:=by rw [Nat.pow_zero,Nat.div_one]
  have D:=qG (Nat.le_of_lt (Nat.mod_lt (ag s) y))
  have n:=uP (ak (ag s % ag t)) false (by omega) (a_.dig _)
  rw [eG] at n
  have f:ag s / 16777216^(ak (ag s)).length % ag t=0:=by rw [Nat.div_eq_of_lt (vM _),Nat.zero_mod]
  have i:IntKind.wrap .i64 ((((ak (ag s)).length:Nat):Int) - ((1:Nat):Int))=((ak (ag s)).length:Int) - 1:=Ey (by omega)
  have c:QR (ag s) (ag t) (ak (ag s)).length 0=⟨[(13,.ref 0 0 0 (ak (ag s)).length),(14,.sl (aj (ak (ag s % ag t))) (ak (ag s % ag t)).length false)],[(0,⟨aj (Ar (ag s) (ag t) (ak (ag s)).length 0),0,false,0,1,true⟩)],.dead,[]⟩:=by unfold QR;rw [o]
  have x:(ak (ag s)).length<2^35:=by omega
  have j:List.take (ak (ag s)).length (aj (Ar (ag s) (ag t) (ak (ag s)).length 0))=aj (Ar (ag s) (ag t) (ak (ag s)).length 0):=by rw [dI,List.take_of_length_le (by omega)]
  by_cases hx:ag s<2^(8*7)
  ·have w:2^(8*7)≤ag t:=by
    rcases Nat.lt_or_ge (ag t) (2^(8*7)) with h|h
    ·exact absurd ⟨hx,h⟩ hb
    ·exact h
   have d:=gG s 7 (by omega) (by omega) hx
   have b:=kK (ae (ag t)) 7 (by omega) (by rw [a];exact w)
   clear hb hx w
   have h:=alT s t (ag s) 0 (ag s / ag t) (ag s % ag t) (ak (ag s)).length (Ar (ag s) (ag t) (ak (ag s)).length 0) 0 true
   rw [a] at h
   simp (disch:=first|omega|(simp [ax,ay]<;>omega)) only [dZ,bD,decide_true,qc,e,decide_false,eX,Bool.not_false,aJ,i,JE,Nat.mul_one,j] at h
   apply h<;>first|exact True.intro|omega|assumption|exact rfl|skip
   ·refine aI.blkF hloop (by simp) rfl ?_ (by rw [c];exact qx.refl _)
    unfold TY
    rw [H9,f,fG]
    exact qx.of ⟨aU.refl _,aU.refl _,aU.refl _,aU.nilS false rfl,aU.refl _,trivial⟩
  ·have d:=kK s 7 (by omega) (Nat.le_of_not_lt hx)
   have b:∃ q m,CO 134 [.str (ae (ag t)),.int .i64 7] (.ret (.tup [.int .i64 q,.bool m])):=by
    rcases Nat.lt_or_ge (ag t) (2^(8*7)) with h|h
    ·exact ⟨_,_,gG (ae (ag t)) 7 (by omega) (by omega) (by rw [a];exact h)⟩
    ·exact ⟨_,_,kK (ae (ag t)) 7 (by omega) (by rw [a];exact h)⟩
   obtain ⟨q,m,b⟩:=b
   clear hb hx
   have h:=alS s t 0 0 (ag s / ag t) (ag s % ag t) (ak (ag s)).length (Ar (ag s) (ag t) (ak (ag s)).length 0) q m
   rw [a] at h
   simp (disch:=first|omega|(simp [ax,ay]<;>omega)) only [dZ,bD,decide_true,qc,e,decide_false,eX,Bool.not_false,aJ,i,JE,Nat.mul_one,j] at h
   apply h<;>first|exact True.intro|omega|assumption|exact rfl|skip
   ·refine aI.blkF hloop (by simp) rfl ?_ (by rw [c];exact qx.refl _)
    unfold TY
    rw [H9,f,fG]
    exact qx.of ⟨aU.refl _,aU.refl _,aU.refl _,aU.nilS false rfl,aU.refl _,trivial⟩
theorem ajp {nt:Nat} (a:25≤nt) (s t q r:List UInt8) (c:lit true (decide (((0:Nat):Int)<(((List.length t):Nat):Int)))=true) (b:CO 150 [.str s,.str t] (.ret (.tup [.str q,.str r,.bool true]))):au prog ap [] nt (af 0 (ah f149)) ⟨[(0,.str s),(1,.str t)],[],.dead,[]⟩ (.normal) ⟨[(0,.str t),(1,.str r)],[],.dead,[]⟩:=pJ 149 [] 1 1 (.c c .nil) (.c b .nil) a
theorem ajq {nt:Nat} (a:25≤nt) (s t q r:List UInt8) (b:lit false (decide (((0:Nat):Int)<(((List.length t):Nat):Int)))=true):au prog ap [] nt (af 0 (ah f149)) ⟨[(0,.str s),(1,.str t)],[],.dead,[]⟩ (.exit 0) ⟨[(0,.str s)],[],.dead,[]⟩:=pJ 149 [] 1 0 (.c b .nil) (.nil) a
theorem ajn (s t g:List UInt8) (a:CO 133 [.str s] (.ret (.str (ae (ag s))))) (b:CO 133 [.str t] (.ret (.str (ae (ag t))))) (c:aK prog ap [] 25 (.block 0 (.loop (af 0 (ah f149)))) ⟨[(0,.str (ae (ag s))),(1,.str (ae (ag t))),(4,.str []),(6,.dead),(14,.dead)],[],.dead,[]⟩ (.normal) ⟨[(0,.str g)],[],.dead,[]⟩):CO 149 [.str s,.str t] (.ret (.str g)):=pK [0] 0 0 .nil (.l c (.c b (.c a .nil)))
def ajo (p:Nat × Nat):St:=⟨[(0,.str (ae p.1)),(1,.str (ae p.2))],[],.dead,[]⟩
def acP (x:Nat):St:=⟨[(0,.str (ae x))],[],.dead,[]⟩
theorem Ud {nt:Nat} (d:25≤nt):∀ (n y x:Nat),y<n→(ae x).length<2^33→(ae y).length<2^33→aI prog ap [] nt (af 0 (ah f149)) (fun _=> .exit 0) ajo acP (x,y) (Nat.gcd x y):=by
 intro n
 induction n with
 |zero=>intro y x h;omega
 | succ n ih=>
  intro y x h g e
  rcases Nat.eq_zero_or_pos y with rfl|h0
  ·rw [Nat.gcd_zero_right]
   refine .done ?_
   unfold ajo acP
   rw [dU]
   exact ajq d (ae x) [] [] [] rfl
  ·have i:=Nat.mod_lt x h0
   have f:(ae (x % y)).length<2^33:=by
    have:x % y≤ag (ae y):=by rw [aB];omega
    have:=m_ this
    omega
   have hnext:=ih (x % y) y (by omega) e f
   rw [show Nat.gcd y (x % y)=Nat.gcd x y by rw [Nat.gcd_comm y,← Nat.gcd_rec,Nat.gcd_comm]] at hnext
   refine .next ?_ hnext
   have b:=JF (ae x) (ae y) g e (by rw [aB];exact h0)
   rw [aB,aB] at b
   have c:ae y ≠ []:=fun h=>by have:=iT.1 h;omega
   have a:0<(ae y).length:=by
    cases b:ae y with
    |nil=>exact absurd b c
    |cons _ _=>simp
   exact ajp d (ae x) (ae y) _ _ (by rw [bH,bM];exact decide_eq_true a) b
theorem QY (s t:List UInt8) (hs:s.length<2^33) (d:t.length<2^33):CO 149 [.str s,.str t] (.ret (.str (ae (Nat.gcd (ag s) (ag t))))):=by
 have c:(ae (ag s)).length≤s.length:=m_ (Nat.le_refl _)
 have b:(ae (ag t)).length≤t.length:=m_ (Nat.le_refl _)
 exact ajn s t _ (gY s (by omega)) (gY t (by omega)) (aI.blk (fun nt a=>Ud a (ag t+1) (ag t) (ag s) (by omega) (by omega) (by omega)) (by simp) rfl (aO.of ⟨rfl,rfl,trivial⟩) (aO.of ⟨rfl,trivial⟩))
theorem aiU (a:Bool) (n d:List UInt8) (g:Nat) (e:lit true (!(nR n))=true) (b:CO 179 [.str n] (.ret (.bool (nR n)))) (c:CO 179 [.str d] (.ret (.bool (nR d)))):CO 137 [.agg [.bool a,.str n,.str d]] (.ret (.bool false)):=pK [] 3 7 (.k 2 e (.n 2 .nil)) (.c c (.c b .nil))
theorem aiV (a:Bool) (n d:List UInt8) (g:Nat) (f:lit true (!(nR d))=true) (c:lit false (!(nR n))=true) (b:CO 179 [.str n] (.ret (.bool (nR n)))) (e:CO 179 [.str d] (.ret (.bool (nR d)))):CO 137 [.agg [.bool a,.str n,.str d]] (.ret (.bool false)):=pK [] 3 6 (.k 1 f (.c c (.n 2 .nil))) (.c e (.c b .nil))
theorem aiW (a:Bool) (n d:List UInt8) (g:Nat) (h:lit true (d== [])=true) (e:lit false (!(nR d))=true) (c:lit false (!(nR n))=true) (b:CO 179 [.str n] (.ret (.bool (nR n)))) (f:CO 179 [.str d] (.ret (.bool (nR d)))):CO 137 [.agg [.bool a,.str n,.str d]] (.ret (.bool false)):=pK [] 3 4 (.c h (.k 1 e (.c c (.n 2 .nil)))) (.c f (.c b .nil))
theorem aiX (a:Bool) (n d:List UInt8) (g:Nat) (l:lit true (!a)=true) (h:lit true (n== [])=true) (e:lit false (d== [])=true) (k:lit false (!(nR d))=true) (j:lit false (!(nR n))=true) (c:CO 179 [.str n] (.ret (.bool (nR n)))) (i:CO 179 [.str d] (.ret (.bool (nR d)))) (f:CO 79 [.int .i64 1] (.ret (.str (ae 1)))) (b:CO 101 [.str d,.str (ae 1)] (.ret (.int .i64 (lJ (ag d) (ag (ae 1)))))):CO 137 [.agg [.bool a,.str n,.str d]] (.ret (.bool ((lJ (ag d) (ag (ae 1)))==((0:Nat):Int)))):=pK [] 5 24 (.k 1 l (.k 1 h (.k 1 e (.k 1 k (.c j (.n 2 .nil)))))) (.c b (.c f (.c i (.c c .nil))))
theorem aiY (a:Bool) (n d:List UInt8) (g:Nat) (j:lit false (!a)=true) (e:lit true (n== [])=true) (c:lit false (d== [])=true) (i:lit false (!(nR d))=true) (h:lit false (!(nR n))=true) (b:CO 179 [.str n] (.ret (.bool (nR n)))) (f:CO 179 [.str d] (.ret (.bool (nR d)))):CO 137 [.agg [.bool a,.str n,.str d]] (.ret (.bool false)):=pK [] 5 8 (.c j (.k 1 e (.k 1 c (.k 1 i (.c h (.n 2 .nil)))))) (.c f (.c b .nil))
theorem aiZ (a:Bool) (n d:List UInt8) (g:Nat) (l:lit false (n== [])=true) (i:lit false (d== [])=true) (f:lit false (!(nR d))=true) (k:lit false (!(nR n))=true) (e:CO 179 [.str n] (.ret (.bool (nR n)))) (j:CO 179 [.str d] (.ret (.bool (nR d)))) (h:CO 149 [.str n,.str d] (.ret (.str (ae g)))) (b:CO 79 [.int .i64 1] (.ret (.str (ae 1)))) (c:CO 101 [.str (ae g),.str (ae 1)] (.ret (.int .i64 (lJ (ag (ae g)) (ag (ae 1)))))):CO 137 [.agg [.bool a,.str n,.str d]] (.ret (.bool ((lJ (ag (ae g)) (ag (ae 1)))==((0:Nat):Int)))):=pK [] 4 0 (.k 2 l (.k 1 i (.k 1 f (.c k (.n 2 .nil))))) (.c c (.c b (.c h (.c j (.c e .nil)))))
theorem aiQ (a:Bool) (n d:List UInt8) (g:Nat) (c:lit true (n== [])=true) (b:CO 79 [.int .i64 1] (.ret (.str (ae 1)))):CO 99 [.bool a,.str n,.str d] (.ret (.agg [.bool false,.str [],.str (ae 1)])):=pK [] 1 1 (.k 4 c .nil) (.c b .nil)
theorem aiR (a:Bool) (n d:List UInt8) (g:Nat) (f:lit false (n== [])=true) (b:CO 149 [.str n,.str d] (.ret (.str (ae g)))) (e:CO 150 [.str n,.str (ae g)] (.ret (.tup [.str (ae (ag n / g)),.str (ae (ag n % g)),.bool true]))) (c:CO 150 [.str d,.str (ae g)] (.ret (.tup [.str (ae (ag d / g)),.str (ae (ag d % g)),.bool true]))):CO 99 [.bool a,.str n,.str d] (.ret (.agg [.bool a,.str (ae (ag n / g)),.str (ae (ag d / g))])):=pK [] 1 0 (.k 4 f .nil) (.c c (.c e (.c b .nil)))
theorem ai0 (a:Bool) (n d:List UInt8) (e:lit true (!(iO a n d))=true) (b:CO 137 [.agg [.bool a,.str n,.str d]] (.ret (.bool (iO a n d)))) (c:CO 79 [.int .i64 1] (.ret (.str (ae 1)))):CO 98 [.agg [.bool a,.str n,.str d]] (.ret (.agg [.bool false,.str [],.str (ae 1)])):=pK [] 1 1 (.k 4 e (.n 3 .nil)) (.c c (.c b .nil))
theorem ai1 (a:Bool) (n d:List UInt8) (c:lit false (!(iO a n d))=true) (b:CO 137 [.agg [.bool a,.str n,.str d]] (.ret (.bool (iO a n d)))):CO 98 [.agg [.bool a,.str n,.str d]] (.ret (.agg [.bool a,.str n,.str d])):=pK [] 1 0 (.k 7 c (.n 3 .nil)) (.c b .nil)
theorem aiS (v:Int) (x z:Nat) (c:lit true (decide (((0:Nat):Int)≤v))=true) (a:CO 79 [.int .i64 v] (.ret (.str (ae z)))) (b:CO 79 [.int .i64 1] (.ret (.str (ae 1)))):CO 48 [.int .i64 v] (.ret (.agg [.bool false,.str (ae z),.str (ae 1)])):=pK [] 1 1 (.k 4 c .nil) (.c b (.c a .nil))
theorem aiT (v:Int) (x z:Nat) (e:lit false (decide (((0:Nat):Int)≤v))=true) (b:CO 79 [.int .i64 (IntKind.wrap .i64 (0 - (IntKind.wrap .i64 (v+((1:Nat):Int)))))] (.ret (.str (ae z)))) (d:CO 79 [.int .i64 1] (.ret (.str (ae 1)))) (c:CO 80 [.str (ae z),.str (ae 1)] (.ret (.str (ae x)))) (a:CO 79 [.int .i64 1] (.ret (.str (ae 1)))):CO 48 [.int .i64 v] (.ret (.agg [.bool true,.str (ae x),.str (ae 1)])):=pK [] 1 0 (.k 4 e .nil) (.c a (.c c (.c d (.c b .nil))))
theorem afC (s t:List UInt8) (x y z:Nat) (a:CO 134 [.str s,.int .i64 7] (.ret (.tup [.int .i64 (x:Int),.bool true]))) (c:CO 134 [.str t,.int .i64 7] (.ret (.tup [.int .i64 (y:Int),.bool true]))) (b:CO 79 [.int .i64 (IntKind.wrap .i64 ((x:Int)+(y:Int)))] (.ret (.str (ae z)))):CO 80 [.str s,.str t] (.ret (.str (ae z))):=pK [] 2 3 (.n 2 .nil) (.c b (.c c (.c a .nil)))
theorem afD (s t:List UInt8) (x y z:Nat) (a:CO 134 [.str s,.int .i64 3] (.ret (.tup [.int .i64 (x:Int),.bool true]))) (c:CO 134 [.str t,.int .i64 4] (.ret (.tup [.int .i64 (y:Int),.bool true]))) (b:CO 79 [.int .i64 (IntKind.wrap .i64 ((x:Int)*(y:Int)))] (.ret (.str (ae z)))):CO 100 [.str s,.str t] (.ret (.str (ae z))):=pK [] 2 3 (.n 2 .nil) (.c b (.c c (.c a .nil)))
theorem Ri {x:Nat}:((lJ x (ag (ae 1)))==((0:Nat):Int))=decide (x=1):=by
 rw [aB]
 unfold lJ
 rcases Nat.lt_trichotomy x 1 with h|h|h
 ·rw [if_pos h,decide_eq_false (by omega)];rfl
 ·rw [if_neg (by omega),if_neg (by omega),decide_eq_true h];rfl
 ·rw [if_neg (by omega),if_pos h,decide_eq_false (by omega)];rfl
theorem OX (a:Bool) (n d:List UInt8) (w:n.length<2^33) (hd:d.length<2^33):CO 137 [.agg [.bool a,.str n,.str d]] (.ret (.bool (iO a n d))):=by
 have j:=XF n
 have i:=XF d
 have s:=lC 1 (by omega)
 have v:(ae 1).length≤1:=dR (by omega)
 have u:=JB d (ae 1) (by omega) (by omega)
 have t:=QY n d w hd
 have p:=@Ri (ag d)
 cases b:nR n with
 |false=>
  have e:iO a n d=false:=by unfold iO;rw [b];rfl
  rw [e]
  exact aiU a n d 0 (by rw [b];rfl) j i
 | true=>
  cases c:nR d with
  |false=>
   have e:iO a n d=false:=by unfold iO;rw [c];simp
   rw [e]
   exact aiV a n d 0 (by rw [c];rfl) (by rw [b];rfl) j i
  | true=>
   have q:=(oC n).1 b
   have r:=(oC d).1 c
   by_cases hd0:d= []
   ·have e:iO a n d=false:=by
     subst hd0;unfold iO;simp [show ag []=0 from rfl]
    rw [e]
    exact aiW a n d 0 (by rw [hd0];rfl) (by rw [c];rfl) (by rw [b];rfl) j i
   ·have k:0<ag d:=by
     rcases Nat.eq_zero_or_pos (ag d) with h|h
     ·rw [h,dU] at r;exact absurd r.symm hd0
     ·exact h
    have g:(d== [])=false:=by simpa using hd0
    by_cases hn0:n= []
    ·have f:(n== [])=true:=by simpa using hn0
     have l:ag n=0:=by rw [hn0];rfl
     cases a with
     | false=>
      have h:=aiX false n d 0 rfl (by rw [f];rfl) (by rw [g];rfl) (by rw [c];rfl) (by rw [b];rfl) j i s u
      rw [p] at h
      have e:iO false n d=decide (ag d=1):=by
       rw [Bool.eq_iff_iff,kC,l,Nat.gcd_zero_left]
       simp [b,c];omega
      rw [e];exact h
     | true=>
      have h:=aiY true n d 0 rfl (by rw [f];rfl) (by rw [g];rfl) (by rw [c];rfl) (by rw [b];rfl) j i
      have e:iO true n d=false:=by
       rw [Bool.eq_false_iff];intro h
       have:=(kC.1 h).2.2.2.2 rfl
       omega
      rw [e];exact h
    ·have f:(n== [])=false:=by simpa using hn0
     have o:0<ag n:=by
      rcases Nat.eq_zero_or_pos (ag n) with h|h
      ·rw [h,dU] at q;exact absurd q.symm hn0
      ·exact h
     have x:(ae (Nat.gcd (ag n) (ag d))).length≤d.length:=m_ (Nat.gcd_le_right _ k)
     have m:=JB (ae (Nat.gcd (ag n) (ag d))) (ae 1) (by omega) (by omega)
     have h:=aiZ a n d (Nat.gcd (ag n) (ag d)) (by rw [f];rfl) (by rw [g];rfl) (by rw [c];rfl) (by rw [b];rfl) j i t s m
     rw [Ri,aB] at h
     have e:iO a n d=decide (Nat.gcd (ag n) (ag d)=1):=by
      rw [Bool.eq_iff_iff,kC]
      simp [b,c,k,o]
     rw [e];exact h
structure RQ where
 neg:Bool
 n:Nat
 d:Nat
def RQ.ok (q:RQ):Prop:=0<q.d∧Nat.gcd q.n q.d=1∧(q.neg=true→0<q.n)
def qA (q:RQ):AV:= .agg [.bool q.neg,.str (ae q.n),.str (ae q.d)]
def q0:RQ:=⟨false,0,1⟩
def iq (neg:Bool) (n d:Nat):RQ:=⟨neg && decide (0<n),n / Nat.gcd n d,d / Nat.gcd n d⟩
def vQ (neg:Bool) (n d:List UInt8):RQ:=if iO neg n d=true then ⟨neg,ag n,ag d⟩ else q0
theorem QQ:q0.ok:=⟨by decide,by decide,by simp [q0]⟩
theorem qi (q:RQ) (h:q.ok):iO q.neg (ae q.n) (ae q.d)=true:=by
 rw [kC,aB,aB]
 exact ⟨yX _,yX _,h⟩
theorem Qr {a:Bool} {n d:List UInt8} (h:iO a n d=true):AV.agg [.bool a,.str n,.str d]=qA ⟨a,ag n,ag d⟩:=by
 obtain ⟨c,b,_⟩:=kC.1 h
 unfold qA
 rw [(oC n).1 c,(oC d).1 b]
theorem lZ (a:Bool) (n d:List UInt8):(vQ a n d).ok:=by
 unfold vQ
 split
 ·rename_i h
  obtain ⟨_,_,c,b,e⟩:=kC.1 h
  exact ⟨c,b,e⟩
 ·exact QQ
theorem mY {a:Bool} {n d:Nat} (h:0<d):(iq a n d).ok:=by
 have b:0<Nat.gcd n d:=Nat.gcd_pos_of_pos_right _ h
 refine ⟨Nat.div_pos (Nat.gcd_le_right _ h) b, ?_, ?_⟩
 ·show Nat.gcd (n / Nat.gcd n d) (d / Nat.gcd n d)=1
  rw [Nat.gcd_div (Nat.gcd_dvd_left _ _) (Nat.gcd_dvd_right _ _),Nat.div_self b]
 ·intro c
  have:0<n:=by simp [iq] at c;exact c.2
  exact Nat.div_pos (Nat.gcd_le_left _ this) b
theorem zi (a:Bool) (n d:List UInt8) (e:n.length<2^33) (hd:d.length<2^33):CO 98 [.agg [.bool a,.str n,.str d]] (.ret (qA (vQ a n d))):=by
 have c:=OX a n d e hd
 unfold vQ
 cases b:iO a n d with
 |false=>
  have h:=ai0 a n d (by rw [b];rfl) c (lC 1 (by omega))
  rw [if_neg (by simp)]
  unfold qA q0
  rw [dU];exact h
 |true=>
  have h:=ai1 a n d (by rw [b];rfl) c
  rw [if_pos rfl,← Qr b]
  exact h
theorem zh (a:Bool) (n d:Nat) (f:(ae n).length<2^33) (hd:(ae d).length<2^33) (c:0<d):CO 99 [.bool a,.str (ae n),.str (ae d)] (.ret (qA (iq a n d))):=by
 have g:=QY (ae n) (ae d) f hd
 rw [aB,aB] at g
 have b:0<Nat.gcd n d:=Nat.gcd_pos_of_pos_right _ c
 have k:(ae (Nat.gcd n d)).length≤(ae d).length:=m_ (by rw [aB];exact Nat.gcd_le_right _ c)
 have j:=JF (ae n) (ae (Nat.gcd n d)) f (by omega) (by rw [aB];exact b)
 have i:=JF (ae d) (ae (Nat.gcd n d)) hd (by omega) (by rw [aB];exact b)
 simp only [aB] at j i
 rcases Nat.eq_zero_or_pos n with rfl|hp
 ·have h:=aiQ a (ae 0) (ae d) 0 (by rw [dU];rfl) (lC 1 (by omega))
  unfold qA iq
  simp only [Nat.lt_irrefl,decide_false,Bool.and_false,Nat.gcd_zero_left,Nat.zero_div,Nat.div_self c,dU]
  rw [dU] at h
  exact h
 ·have e:ae n ≠ []:=fun h=>by have:=iT.1 h;omega
  have h:=aiR a (ae n) (ae d) (Nat.gcd n d) (by simp [lit,e])
  simp only [aB] at h
  unfold qA iq
  simp only [hp,decide_true,Bool.and_true]
  exact h g j i
def wH (q:RQ):Int:=if q.n=0 then 0 else if q.neg then -1 else 1
theorem X0 (a:Bool) (n d:List UInt8):ry a n d=wH (vQ a n d):=by
 unfold ry wH vQ
 cases c:iO a n d with
 |false=>simp [q0]
 | true=>
  simp only [true_and,if_true]
  by_cases h:0<ag n
  ·have b:¬ ag n=0:=by omega
   simp [h,b]
  ·have b:ag n=0:=by omega
   simp [b]
def wC (neg:Bool) (n d:List UInt8) (a:Nat):Bool:=((neg==false) && ((n==(ae a)) && ((d==(ae 1)) && true)))
theorem LX (a:Nat) (b:a<9223372036854775808):CO 48 [.int .i64 (a:Int)] (.ret (T_ false a 1)):=
 aiS (a:Int) 0 a (by simp [lit]) (lC a b) (lC 1 (by omega))
def Si:List UInt8:= [97,98,99,100,101,102,103,104,105,106,107,108,109,110,111,112,113,114,115,116,117,118,119,120,121,122,48,49,50,51,52,53,54,55,56,57,95]
def IA:List AV:= [.bool false,.bool false,.bool false,.bool false,.bool false,.bool false,.bool false,.bool false,.bool false,.bool false,.bool false,.bool false,.bool false,.bool false,.bool false,.bool false,.bool false,.bool false,.bool false,.bool false,.bool false,.bool false,.bool false,.bool false,.bool false,.bool false,.bool false,.bool false,.bool false,.bool false,.bool false,.bool false,.bool false,.bool false,.bool false,.bool false,.bool false,.bool false,.bool false,.bool false,.bool false,.bool false,.bool false,.bool false,.bool false,.bool false,.bool false,.bool false,.bool true,.bool true,.bool true,.bool true,.bool true,.bool true,.bool true,.bool true,.bool true,.bool true,.bool false,.bool false,.bool false,.bool false,.bool false,.bool false,.bool false,.bool false,.bool false,.bool false,.bool false,.bool false,.bool false,.bool false,.bool false,.bool false,.bool false,.bool false,.bool false,.bool false,.bool false,.bool false,.bool false,.bool false,.bool false,.bool false,.bool false,.bool false,.bool false,.bool false,.bool false,.bool false,.bool false,.bool false,.bool false,.bool false,.bool false,.bool true,.bool false,.bool true,.bool true,.bool true,.bool true,.bool true,.bool true,.bool true,.bool true,.bool true,.bool true,.bool true,.bool true,.bool true,.bool true,.bool true,.bool true,.bool true,.bool true,.bool true,.bool true,.bool true,.bool true,.bool true,.bool true,.bool true,.bool true,.bool false,.bool false,.bool false,.bool false,.bool false,.bool false,.bool false,.bool false,.bool false,.bool false,.bool false,.bool false,.bool false,.bool false,.bool false,.bool false,.bool false,.bool false,.bool false,.bool false,.bool false,.bool false,.bool false,.bool false,.bool false,.bool false,.bool false,.bool false,.bool false,.bool false,.bool false,.bool false,.bool false,.bool false,.bool false,.bool false,.bool false,.bool false,.bool false,.bool false,.bool false,.bool false,.bool false,.bool false,.bool false,.bool false,.bool false,.bool false,.bool false,.bool false,.bool false,.bool false,.bool false,.bool false,.bool false,.bool false,.bool false,.bool false,.bool false,.bool false,.bool false,.bool false,.bool false,.bool false,.bool false,.bool false,.bool false,.bool false,.bool false,.bool false,.bool false,.bool false,.bool false,.bool false,.bool false,.bool false,.bool false,.bool false,.bool false,.bool false,.bool false,.bool false,.bool false,.bool false,.bool false,.bool false,.bool false,.bool false,.bool false,.bool false,.bool false,.bool false,.bool false,.bool false,.bool false,.bool false,.bool false,.bool false,.bool false,.bool false,.bool false,.bool false,.bool false,.bool false,.bool false,.bool false,.bool false,.bool false,.bool false,.bool false,.bool false,.bool false,.bool false,.bool false,.bool false,.bool false,.bool false,.bool false,.bool false,.bool false,.bool false,.bool false,.bool false,.bool false,.bool false,.bool false,.bool false,.bool false,.bool false,.bool false,.bool false,.bool false,.bool false]
theorem adi:CO 193 [.str Si] (.ret (.tup [.agg IA,.bool true])):=kY uH (lf:=3000) (n:=4) (ans:= []) .nil (by kernel_rfl)
theorem agQ (xs:List AV) (c:Nat) (d:(chk .bool (List.headD (List.drop (0+((Int.toNat (c:Int))*1)) xs) .dead))=true) (b:(decide (((0:Nat):Int)≤(c:Int)))=true) (a:(decide ((c:Int)<((256:Nat):Int)))=true):CO 212 [.pp xs 0,.int .u8 (c:Int)] (.ret (.bool (AV.toBool (List.headD (List.drop (0+((Int.toNat (c:Int))*1)) xs) .dead)))):=pK [] 0 0 (.c d (.c b (.c a .nil))) (.nil)
theorem al_ {nt:Nat} (a:16≤nt) (s:List UInt8) (xs:List AV) (b:Bool) (f:lit true (!b)=true) (e:(decide (((0:Nat):Int)<(((List.length s):Nat):Int)))=true) (d:lit true (decide (((0:Nat):Int)<(((List.length s):Nat):Int)))=true) (c:CO 212 [.pp xs 0,.int .u8 ((UInt8.toNat (List.getD s 0 0):Nat):Int)] (.ret (.bool b))):au prog ap [] nt (af 0 (ah f194)) ⟨[(0,.str s),(1,.pp xs 0)],[],.dead,[]⟩ (.exit 0) ⟨[(0,.str s)],[],.dead,[]⟩:=pJ 194 [] 2 3 (.c f (.k 1 e (.c d .nil))) (.c c .nil) a
theorem ama {nt:Nat} (a:16≤nt) (s:List UInt8) (xs:List AV) (b:Bool) (h:(decide (((1:Nat):Int)≤(((List.length s):Nat):Int)))=true) (e:(decide ((((List.length s):Nat):Int)≤(((List.length s):Nat):Int)))=true) (d:lit false (!b)=true) (g:(decide (((0:Nat):Int)<(((List.length s):Nat):Int)))=true) (f:lit true (decide (((0:Nat):Int)<(((List.length s):Nat):Int)))=true) (c:CO 212 [.pp xs 0,.int .u8 ((UInt8.toNat (List.getD s 0 0):Nat):Int)] (.ret (.bool b))):au prog ap [] nt (af 0 (ah f194)) ⟨[(0,.str s),(1,.pp xs 0)],[],.dead,[]⟩ (.normal) ⟨[(0,.str (List.drop 1 (List.take (Int.toNat (((List.length s):Nat):Int)) s))),(1,.pp xs 0)],[],.dead,[]⟩:=pJ 194 [] 2 1 (.k 1 h (.c e (.c d (.k 1 g (.c f .nil))))) (.c c .nil) a
theorem amb {nt:Nat} (a:16≤nt) (s:List UInt8) (xs:List AV) (b:Bool) (c:lit false (decide (((0:Nat):Int)<(((List.length s):Nat):Int)))=true):au prog ap [] nt (af 0 (ah f194)) ⟨[(0,.str s),(1,.pp xs 0)],[],.dead,[]⟩ (.exit 0) ⟨[(0,.str s)],[],.dead,[]⟩:=pJ 194 [] 1 0 (.c c .nil) (.nil) a
theorem akb (s r:List UInt8) (xs:List AV) (a:aK prog ap [] 16 (.block 0 (.loop (af 0 (ah f194)))) ⟨[(0,.str s),(1,.pp xs 0),(4,.str []),(7,.dead),(12,.dead)],[],.dead,[]⟩ (.normal) ⟨[(0,.str r)],[],.dead,[]⟩):CO 194 [.str s,.pp xs 0] (.ret (.str r)):=pK [0] 0 0 .nil (.l a .nil)
theorem amc {nt:Nat} (a:22≤nt) (s:List UInt8) (xs:List AV) (b:Bool) (g:lit true (!b)=true) (e:(decide (((0:Nat):Int)≤(IntKind.wrap .i64 ((((List.length s):Nat):Int) - ((1:Nat):Int)))))=true) (d:(decide ((IntKind.wrap .i64 ((((List.length s):Nat):Int) - ((1:Nat):Int)))<(((List.length s):Nat):Int)))=true) (f:lit true (decide (((0:Nat):Int)<(((List.length s):Nat):Int)))=true) (c:CO 212 [.pp xs 0,.int .u8 ((UInt8.toNat (List.getD s (Int.toNat (IntKind.wrap .i64 ((((List.length s):Nat):Int) - ((1:Nat):Int)))) 0):Nat):Int)] (.ret (.bool b))):au prog ap [] nt (af 0 (ah f197)) ⟨[(0,.str s),(1,.pp xs 0)],[],.dead,[]⟩ (.exit 0) ⟨[(0,.str s)],[],.dead,[]⟩:=pJ 197 [] 2 3 (.c g (.c e (.c d (.c f .nil)))) (.c c .nil) a
theorem amd {nt:Nat} (c:22≤nt) (s:List UInt8) (xs:List AV) (b:Bool) (a:(decide (((0:Nat):Int)≤(IntKind.wrap .i64 ((((List.length s):Nat):Int) - ((1:Nat):Int)))))=true) (f:(decide ((IntKind.wrap .i64 ((((List.length s):Nat):Int) - ((1:Nat):Int)))≤(((List.length s):Nat):Int)))=true) (e:lit false (!b)=true) (h:(decide ((IntKind.wrap .i64 ((((List.length s):Nat):Int) - ((1:Nat):Int)))<(((List.length s):Nat):Int)))=true) (g:lit true (decide (((0:Nat):Int)<(((List.length s):Nat):Int)))=true) (d:CO 212 [.pp xs 0,.int .u8 ((UInt8.toNat (List.getD s (Int.toNat (IntKind.wrap .i64 ((((List.length s):Nat):Int) - ((1:Nat):Int)))) 0):Nat):Int)] (.ret (.bool b))):au prog ap [] nt (af 0 (ah f197)) ⟨[(0,.str s),(1,.pp xs 0)],[],.dead,[]⟩ (.normal) ⟨[(0,.str (List.drop 0 (List.take (Int.toNat (IntKind.wrap .i64 ((((List.length s):Nat):Int) - ((1:Nat):Int)))) s))),(1,.pp xs 0)],[],.dead,[]⟩:=pJ 197 [] 2 1 (.k 1 a (.c f (.c e (.c a (.c h (.c g .nil)))))) (.c d .nil) c
theorem ame {nt:Nat} (a:22≤nt) (s:List UInt8) (xs:List AV) (b:Bool) (c:lit false (decide (((0:Nat):Int)<(((List.length s):Nat):Int)))=true):au prog ap [] nt (af 0 (ah f197)) ⟨[(0,.str s),(1,.pp xs 0)],[],.dead,[]⟩ (.exit 0) ⟨[(0,.str s)],[],.dead,[]⟩:=pJ 197 [] 1 0 (.c c .nil) (.nil) a
theorem ake (s r:List UInt8) (xs:List AV) (a:aK prog ap [] 22 (.block 0 (.loop (af 0 (ah f197)))) ⟨[(0,.str s),(1,.pp xs 0),(4,.str []),(7,.dead),(15,.dead)],[],.dead,[]⟩ (.normal) ⟨[(0,.str r)],[],.dead,[]⟩):CO 197 [.str s,.pp xs 0] (.ret (.str r)):=pK [0] 0 0 .nil (.l a .nil)
def adg:List Bool:= [false,false,false,false,false,false,false,false,false,false,false,false,false,false,false,false,false,false,false,false,false,false,false,false,false,false,false,false,false,false,false,false,false,false,false,false,false,false,false,false,false,false,false,false,false,false,false,false,true,true,true,true,true,true,true,true,true,true,false,false,false,false,false,false,false,false,false,false,false,false,false,false,false,false,false,false,false,false,false,false,false,false,false,false,false,false,false,false,false,false,false,false,false,false,false,true,false,true,true,true,true,true,true,true,true,true,true,true,true,true,true,true,true,true,true,true,true,true,true,true,true,true,true,false,false,false,false,false,false,false,false,false,false,false,false,false,false,false,false,false,false,false,false,false,false,false,false,false,false,false,false,false,false,false,false,false,false,false,false,false,false,false,false,false,false,false,false,false,false,false,false,false,false,false,false,false,false,false,false,false,false,false,false,false,false,false,false,false,false,false,false,false,false,false,false,false,false,false,false,false,false,false,false,false,false,false,false,false,false,false,false,false,false,false,false,false,false,false,false,false,false,false,false,false,false,false,false,false,false,false,false,false,false,false,false,false,false,false,false,false,false,false,false,false,false,false,false,false,false,false,false,false,false,false,false,false]
theorem adh:IA=adg.map AV.bool:=rfl
def inN (c:Nat):Bool:=(decide (97≤c) && decide (c≤122))||(decide (48≤c) && decide (c≤57))||decide (c=95)
def iK (c:UInt8):Bool:=inN c.toNat
theorem YU:∀ i:Fin 256,adg.getD i.val false=inN i.val:=by decide
theorem Vo (c:UInt8):CO 212 [.pp IA 0,.int .u8 (c.toNat:Int)] (.ret (.bool (iK c))):=by
 have b:c.toNat<256:=UInt8.toNat_lt c
 have e:adg.length=256:=by decide
 have d:List.headD (List.drop c.toNat IA) .dead= .bool (iK c):=by
  have a:=YU ⟨c.toNat,b⟩
  simp only at a
  rw [adh,← List.map_drop,List.drop_eq_getElem_cons (by omega),List.map_cons,List.headD_cons]
  rw [List.getD_eq_getElem?_getD,List.getElem?_eq_getElem (by omega)] at a
  unfold iK
  rw [← a];rfl
 have h:=agQ IA c.toNat
 rw [aJ,Nat.zero_add,Nat.mul_one,d] at h
 exact h rfl (by rw [dZ];exact decide_eq_true (by omega)) (by rw [bH];exact decide_eq_true b)
def ajK (s:List UInt8):St:=⟨[(0,.str s),(1,.pp IA 0)],[],.dead,[]⟩
def acR (s:List UInt8):St:=⟨[(0,.str s)],[],.dead,[]⟩
theorem ab6 {nt:Nat} (a:16≤nt):∀ (s:List UInt8),s.length<2^40→aI prog ap [] nt (af 0 (ah f194)) (fun _=> .exit 0) ajK acR s (s.dropWhile iK):=by
 intro s
 induction s with
 |nil=>exact fun _=> .done (amb a [] IA true rfl)
 | cons c s ih=>
  intro e
  simp only [List.length_cons] at e
  rw [List.dropWhile_cons]
  have d:=Vo c
  cases b:iK c with
  |true=>
   rw [b] at d
   refine .next ?_ (by simpa using ih (by omega))
   have h:=ama a (c::s) IA true
   have f:List.drop 1 (List.take (s.length+1) (c::s))=s:=by simp
   simp only [List.length_cons,List.getD_cons_zero] at h
   simp (disch:=first|omega|(simp [ax,ay]<;>omega)) only [dZ,bD,Bool.not_true,eX,Bool.not_false,bH,bM,aJ,f] at h
   apply h<;>first|exact True.intro|omega|assumption|exact rfl
  |false=>
   rw [b] at d
   refine .done ?_
   have h:=al_ a (c::s) IA false
   simp only [List.length_cons,List.getD_cons_zero] at h
   simp (disch:=first|omega|(simp [ax,ay]<;>omega)) only [Bool.not_false,bM,bH,bD] at h
   apply h<;>first|exact True.intro|omega|assumption|exact rfl
def Yl (s:List UInt8):List UInt8:=(s.reverse.dropWhile iK).reverse
theorem Ym (s:List UInt8) (c:UInt8):Yl (s++ [c])=if iK c=true then Yl s else s++ [c]:=by
 unfold Yl
 rw [List.reverse_append]
 simp only [List.reverse_cons,List.reverse_nil,List.nil_append,List.singleton_append,List.dropWhile_cons]
 by_cases h:iK c=true
 ·simp [h]
 ·simp [h]
theorem acb {nt:Nat} (a:22≤nt):∀ (k:Nat) (s:List UInt8),s.length=k→k<2^40→aI prog ap [] nt (af 0 (ah f197)) (fun _=> .exit 0) ajK acR s (Yl s):=by
 intro k
 induction k with
 |zero=>
  intro s hs _
  have:s= []:=List.eq_nil_of_length_eq_zero hs
  subst this
  exact .done (ame a [] IA true rfl)
 | succ k ih=>
  intro s hs j
  rcases List.eq_nil_or_concat s with rfl|⟨s',c,rfl⟩
  ·simp at hs
  ·rw [List.concat_eq_append] at hs ⊢
   have b:s'.length=k:=by simpa using hs
   rw [Ym]
   have i:=Vo c
   have f:(s'++ [c]).getD s'.length 0=c:=by simp
   have g:s'.length+1 - 1=s'.length:=rfl
   have d:List.take s'.length (s'++ [c])=s':=by simp
   cases e:iK c with
   |true=>
    rw [e] at i
    rw [if_pos rfl]
    refine .next ?_ (ih s' b (by omega))
    have h:=amd a (s'++ [c]) IA true
    simp (disch:=first|omega|(simp [ax,ay]<;>omega)) only [List.length_append,List.length_cons,List.length_nil,Nat.zero_add,jH,g,dZ,bD,Bool.not_true,eX,Bool.not_false,bH,bM,aJ,f,d,List.drop_zero] at h
    apply h<;>first|exact True.intro|omega|assumption|exact rfl
   |false=>
    rw [e] at i
    rw [if_neg (by simp)]
    refine .done ?_
    have h:=amc a (s'++ [c]) IA false
    simp (disch:=first|omega|(simp [ax,ay]<;>omega)) only [Bool.not_false,bM,List.length_append,List.length_cons,List.length_nil,Nat.zero_add,jH,g,dZ,bD,bH,aJ,f] at h
    apply h<;>first|exact True.intro|omega|assumption|exact rfl
theorem acd (s u v:List UInt8) (a:lit true (s== [])=true):CO 164 [.str s,.str Si] (.ret (.str s)):=pK [] 2 3 (.k 1 a .nil) (.nil)
theorem ace (s u v:List UInt8) (d:lit false (s== [])=true) (a:CO 193 [.str Si] (.ret (.tup [.agg IA,.bool true]))) (c:CO 197 [.str s,.pp IA 0] (.ret (.str u))) (b:CO 194 [.str u,.pp IA 0] (.ret (.str v))):CO 164 [.str s,.str Si] (.ret (.str v)):=pK [] 5 16 (.k 5 d .nil) (.c b (.c c (.c a .nil)))
theorem aaE (s v:List UInt8) (a:lit true (s== [])=true):CO 122 [.str s] (.ret (.bool false)):=pK [] 4 15 (.k 3 a .nil) (.nil)
theorem aaF (s v:List UInt8) (a:lit true (decide (((20:Nat):Int)<(((List.length s):Nat):Int)))=true) (b:lit false (s== [])=true):CO 122 [.str s] (.ret (.bool false)):=pK [] 4 14 (.k 2 a (.c b .nil)) (.nil)
theorem aaG (s v:List UInt8) (d:lit true (decide (((UInt8.toNat (List.getD s 0 0):Nat):Int)<((97:Nat):Int)))=true) (b:(decide (((0:Nat):Int)<(((List.length s):Nat):Int)))=true) (a:lit false (decide (((20:Nat):Int)<(((List.length s):Nat):Int)))=true) (c:lit false (s== [])=true):CO 122 [.str s] (.ret (.bool false)):=pK [] 4 12 (.k 1 d (.k 1 b (.c a (.c c .nil)))) (.nil)
theorem aaH (s v:List UInt8) (e:lit true (decide (((122:Nat):Int)<((UInt8.toNat (List.getD s 0 0):Nat):Int)))=true) (a:(decide (((0:Nat):Int)<(((List.length s):Nat):Int)))=true) (b:lit false (decide (((UInt8.toNat (List.getD s 0 0):Nat):Int)<((97:Nat):Int)))=true) (d:lit false (decide (((20:Nat):Int)<(((List.length s):Nat):Int)))=true) (c:lit false (s== [])=true):CO 122 [.str s] (.ret (.bool false)):=pK [] 4 8 (.c e (.k 1 a (.c b (.k 1 a (.c d (.c c .nil)))))) (.nil)
theorem aaI (s v:List UInt8) (f:lit false (decide (((122:Nat):Int)<((UInt8.toNat (List.getD s 0 0):Nat):Int)))=true) (a:(decide (((0:Nat):Int)<(((List.length s):Nat):Int)))=true) (c:lit false (decide (((UInt8.toNat (List.getD s 0 0):Nat):Int)<((97:Nat):Int)))=true) (e:lit false (decide (((20:Nat):Int)<(((List.length s):Nat):Int)))=true) (d:lit false (s== [])=true) (b:CO 164 [.str s,.str Si] (.ret (.str v))):CO 122 [.str s] (.ret (.bool (v== []))):=pK [] 4 0 (.c f (.k 1 a (.c c (.k 1 a (.c e (.c d .nil)))))) (.c b .nil)
def BF (s:List UInt8):Bool:= !(s== []) && decide (s.length≤20) && decide (97≤(s.getD 0 0).toNat) && decide ((s.getD 0 0).toNat≤122) && s.all iK
theorem IP {p:UInt8→Bool}:∀ {l:List UInt8},l.dropWhile p= []↔∀ x ∈ l,p x=true
 | []=>by simp
 |c::l=>by
  rw [List.dropWhile_cons]
  cases h:p c with
  |true=>simp [h,IP (l:=l)]
  |false=>simp [h]
theorem Yp {s:List UInt8}:(Yl s).dropWhile iK= []↔s.all iK=true:=by
 unfold Yl
 rw [List.all_eq_true]
 constructor
 ·intro h
  have d:∀ x ∈ (s.reverse.dropWhile iK),iK x=true:=by
   intro x a
   exact IP.1 h x (by simpa using a)
  have c:s.reverse.dropWhile iK= []:=by
   cases hd:s.reverse.dropWhile iK with
   |nil=>rfl
   | cons y r=>
    exfalso
    have b:=d y (by rw [hd];simp)
    have f:∀ (l:List UInt8),l.dropWhile iK=y::r→iK y=false:=by
     intro l
     induction l with
     |nil=>intro h;simp at h
     | cons z l ih=>
      intro h
      rw [List.dropWhile_cons] at h
      split at h
      ·exact ih h
      ·rename_i e
       cases h
       simpa using e
    rw [f _ hd] at b
    cases b
  intro x a
  exact IP.1 c x (by simpa using a)
 ·intro h
  have:s.reverse.dropWhile iK= []:=IP.2 fun x a=>h x (by simpa using a)
  rw [this];rfl
theorem af2 (s:List UInt8) (hs:s.length<2^40):CO 194 [.str s,.pp IA 0] (.ret (.str (s.dropWhile iK))):=
 akb s _ IA (aI.blk (fun nt a=>ab6 a s hs) (by simp) rfl (aO.of ⟨rfl,rfl,trivial⟩) (aO.of ⟨rfl,trivial⟩))
theorem af4 (s:List UInt8) (hs:s.length<2^40):CO 197 [.str s,.pp IA 0] (.ret (.str (Yl s))):=
 ake s _ IA (aI.blk (fun nt a=>acb a _ s rfl hs) (by simp) rfl (aO.of ⟨rfl,rfl,trivial⟩) (aO.of ⟨rfl,trivial⟩))
theorem aca (s:List UInt8):(Yl s).length≤s.length:=by
 unfold Yl
 rw [List.length_reverse]
 have:=(List.dropWhile_sublist iK (l:=s.reverse)).length_le
 simpa using this
theorem acf (s:List UInt8) (hs:s.length<2^40):CO 164 [.str s,.str Si] (.ret (.str ((Yl s).dropWhile iK))):=by
 by_cases h:s= []
 ·subst h
  exact acd [] [] [] rfl
 ·have a:=aca s
  exact ace s _ _ (by simp [lit,h]) adi (af4 s hs) (af2 _ (by omega))
theorem lG (s:List UInt8):CO 122 [.str s] (.ret (.bool (BF s))):=by
 unfold BF
 by_cases h0:s= []
 ·subst h0;exact aaE [] [] rfl
 ·have a:(s== [])=false:=by simpa using h0
  have b:0<s.length:=by cases s with|nil=>exact absurd rfl h0|cons _ _=>simp
  rw [a]
  by_cases h1:s.length≤20
  ·have c:lit false (decide (((20:Nat):Int)<(s.length:Int)))=true:=by rw [bH];simp [lit,h1]
   have cl:decide (((0:Nat):Int)<(s.length:Int))=true:=by rw [bH];exact decide_eq_true b
   rw [decide_eq_true h1]
   by_cases h2:97≤(s.getD 0 0).toNat
   ·rw [decide_eq_true h2]
    have d:lit false (decide (((s.getD 0 0).toNat:Int)<((97:Nat):Int)))=true:=by rw [bH];simp only [lit,Bool.not_eq_true'];exact decide_eq_false (by omega)
    by_cases h3:(s.getD 0 0).toNat≤122
    ·rw [decide_eq_true h3]
     have f:lit false (decide (((122:Nat):Int)<((s.getD 0 0).toNat:Int)))=true:=by rw [bH];simp only [lit,Bool.not_eq_true'];exact decide_eq_false (by omega)
     have h:=aaI s _ f cl d c (by rw [a];rfl) (acf s (by omega))
     have e:((Yl s).dropWhile iK== [])=s.all iK:=by
      rw [Bool.eq_iff_iff,← Yp];simp
     rw [e] at h
     exact h
    ·rw [decide_eq_false h3]
     exact aaH s [] (by rw [bH];exact decide_eq_true (by omega)) cl d c (by rw [a];rfl)
   ·rw [decide_eq_false h2]
    exact aaG s [] (by rw [bH];exact decide_eq_true (by omega)) cl c (by rw [a];rfl)
  ·rw [decide_eq_false h1]
   exact aaF s [] (by rw [bH];exact decide_eq_true (by omega)) (by rw [a];rfl)
def jB:List AV:= [.str [],.int .i64 0,.bool false,.bool false,.bool false,.str [36],.int .i64 0,.bool true,.bool false,.bool false,.str [],.int .i64 0,.bool true,.bool false,.bool false,.str [],.int .i64 0,.bool true,.bool false,.bool false,.str [],.int .i64 0,.bool true,.bool false,.bool false,.str [102,97,99,116,46],.int .i64 0,.bool false,.bool true,.bool false,.str [111,119,110,46],.int .i64 0,.bool false,.bool true,.bool false,.str [112,114,105,111,114,46],.int .i64 0,.bool false,.bool true,.bool false,.str [115,112,111,117,115,101,46],.int .i64 0,.bool false,.bool true,.bool false,.str [97,100,100],.int .i64 2,.bool false,.bool false,.bool false,.str [115,117,98],.int .i64 2,.bool false,.bool false,.bool false,.str [109,117,108],.int .i64 2,.bool false,.bool false,.bool false,.str [100,105,118],.int .i64 2,.bool false,.bool false,.bool false,.str [109,105,110],.int .i64 2,.bool false,.bool false,.bool false,.str [109,97,120],.int .i64 2,.bool false,.bool false,.bool false,.str [105,102],.int .i64 3,.bool false,.bool false,.bool false,.str [108,101,115,115],.int .i64 2,.bool false,.bool false,.bool false,.str [101,113,117,97,108],.int .i64 2,.bool false,.bool false,.bool false,.str [97,110,100],.int .i64 2,.bool false,.bool false,.bool false,.str [111,114],.int .i64 2,.bool false,.bool false,.bool false,.str [110,111,116],.int .i64 1,.bool false,.bool false,.bool false,.str [100,111,119,110],.int .i64 1,.bool false,.bool false,.bool true,.str [117,112],.int .i64 1,.bool false,.bool false,.bool true,.str [110,101,97,114],.int .i64 1,.bool false,.bool false,.bool true,.str [114,97,116,101,46],.int .i64 1,.bool false,.bool true,.bool false]
theorem aiw (op:Int) (a:lit true (decide (op<((1:Nat):Int)))=true):CO 120 [.int .i64 op] (.ret (.tup [.agg zcc2_0,.bool false])):=pK [] 2 3 (.k 7 a .nil) (.nil)
theorem aix (op:Int) (a:lit true (decide (((24:Nat):Int)<op))=true) (b:lit false (decide (op<((1:Nat):Int)))=true):CO 120 [.int .i64 op] (.ret (.tup [.agg zcc2_0,.bool false])):=pK [] 2 2 (.k 6 a (.c b .nil)) (.nil)
theorem aiy (op:Int) (g:(chk .str (List.headD (List.drop (0+((Int.toNat op)*5)) jB) .dead))=true) (c:(chk (.int .i64) (List.headD (List.tail (List.drop (0+((Int.toNat op)*5)) jB)) .dead))=true) (a:(chk .bool (List.headD (List.tail (List.tail (List.drop (0+((Int.toNat op)*5)) jB))) .dead))=true) (f:(chk .bool (List.headD (List.tail (List.tail (List.tail (List.drop (0+((Int.toNat op)*5)) jB)))) .dead))=true) (e:(chk .bool (List.headD (List.tail (List.tail (List.tail (List.tail (List.drop (0+((Int.toNat op)*5)) jB))))) .dead))=true) (i:(decide (((0:Nat):Int)≤op))=true) (d:(decide (op<((25:Nat):Int)))=true) (h:lit false (decide (((24:Nat):Int)<op))=true) (b:lit false (decide (op<((1:Nat):Int)))=true):CO 120 [.int .i64 op] (.ret (.tup [.agg [.str (AV.toStr (List.headD (List.drop (0+((Int.toNat op)*5)) jB) .dead)),.int .i64 (AV.toInt (List.headD (List.tail (List.drop (0+((Int.toNat op)*5)) jB)) .dead)),.bool (AV.toBool (List.headD (List.tail (List.tail (List.drop (0+((Int.toNat op)*5)) jB))) .dead)),.bool (AV.toBool (List.headD (List.tail (List.tail (List.tail (List.drop (0+((Int.toNat op)*5)) jB)))) .dead)),.bool (AV.toBool (List.headD (List.tail (List.tail (List.tail (List.tail (List.drop (0+((Int.toNat op)*5)) jB))))) .dead))],.bool true])):=pK [] 2 0 (.k 6 g (.c c (.c a (.c f (.c e (.c i (.c d (.c h (.c b .nil))))))))) (.nil)
def dX (op:Int):Nat:=if op=15 then 3 else if (9≤op∧op≤14)∨(16≤op∧op≤19) then 2 else if 20≤op∧op≤24 then 1 else 0
def oV (op:Int):Bool:=decide ((5≤op∧op≤8)∨op=24)
def Oy (op:Int):Bool:=decide (1≤op∧op≤4)
def Pg (op:Int):Bool:=decide (21≤op∧op≤23)
def Yy (op:Int):List UInt8:=AV.toStr (List.headD (List.drop (0+((Int.toNat op)*5)) jB) .dead)
theorem LQ {op:Int} (h:1≤op) (a:op≤24):op=1∨op=2∨op=3∨op=4∨op=5∨op=6∨op=7∨op=8∨op=9∨op=10∨op=11∨op=12∨op=13∨op=14∨op=15∨op=16∨op=17∨op=18∨op=19∨op=20∨op=21∨op=22∨op=23∨op=24:=by omega
abbrev shA (op:Int):AV:= .agg [.str (Yy op),.int .i64 ((dX op:Nat):Int),.bool (Oy op),.bool (oV op),.bool (Pg op)]
theorem aiC {op:Int} (h:1≤op) (a:op≤24):CO 120 [.int .i64 op] (.ret (.tup [shA op,.bool true])):=by
 rcases LQ h a with rfl|rfl|rfl|rfl|rfl|rfl|rfl|rfl|rfl|rfl|rfl|rfl|rfl|rfl|rfl|rfl|rfl|rfl|rfl|rfl|rfl|rfl|rfl|rfl
 all_goals exact aiy _ rfl rfl rfl rfl rfl rfl rfl rfl rfl
theorem aeX {op:Int} (h:op<1∨24<op):CO 120 [.int .i64 op] (.ret (.tup [.agg zcc2_0,.bool false])):=by
 by_cases h1:op<1
 ·exact aiw op (by simp [lit];omega)
 ·exact aix op (by simp [lit];omega) (by simp [lit];omega)
theorem Pn {op:Int} (h:1≤op) (a:op≤24):List.headD (List.drop (op.toNat*5+1) jB) .dead= .int .i64 ((dX op:Nat):Int):=by
 rcases LQ h a with rfl|rfl|rfl|rfl|rfl|rfl|rfl|rfl|rfl|rfl|rfl|rfl|rfl|rfl|rfl|rfl|rfl|rfl|rfl|rfl|rfl|rfl|rfl|rfl
 all_goals rfl
def Z_ (op:Int):Bool:=decide (1≤op∧op≤24)
theorem bY (op:Int):CO 120 [.int .i64 op] (.ret (.tup [shA op,.bool (Z_ op)])):=by
 by_cases h:1≤op∧op≤24
 ·have e:Z_ op=true:=decide_eq_true h
  rw [e];exact aiC h.1 h.2
 ·have e:Z_ op=false:=decide_eq_false h
  have b:dX op=0:=by unfold dX;(repeat' split)<;>omega
  have c:Oy op=false:=by unfold Oy;rw [decide_eq_false_iff_not];omega
  have d:oV op=false:=by unfold oV;rw [decide_eq_false_iff_not];omega
  have a:Pg op=false:=by unfold Pg;rw [decide_eq_false_iff_not];omega
  have f:Yy op= []:=by
   unfold Yy
   by_cases h1:op<1
   ·have:op.toNat=0:=by omega
    rw [this];rfl
   ·have g:jB.length=125:=by decide
    rw [List.drop_of_length_le (by omega)];rfl
  unfold shA
  rw [e,b,c,d,a,f]
  exact aeX (by omega)
structure Nd where
 op:Int
 neg:Bool
 num:List UInt8
 den:List UInt8
 name:List UInt8
def yZ (x:Nd):List AV:= [.int .i64 x.op,.bool x.neg,.str x.num,.str x.den,.str x.name]
def Nd.sm (x:Nd):Prop:=x.num.length<2^33∧x.den.length<2^33
def iY (x:Nd):Bool:=cond (x.op==((4:Nat):Int)) (wC x.neg x.num x.den 0||wC x.neg x.num x.den 1) (cond (Oy x.op) (fC x.neg x.num x.den) (cond (Pg x.op) (fC x.neg x.num x.den && decide (((0:Nat):Int)<ry x.neg x.num x.den)) ((x.neg==false) && ((x.num== []) && ((x.den== []) && true)))))
def aC (x:Nd):Int:=cond (!Z_ x.op||(!oV x.op && !(x.name== []))) 11 (cond (!iY x) 11 (cond (oV x.op && !BF x.name) 12 0))
theorem Yz (x:Nd) (c:x.sm):CO 73 [.agg (yZ x)] (.ret (.int .i64 (aC x))):=by
 have b:x.num.length<2^36:=Nat.lt_trans c.1 (by decide)
 have a:x.den.length<2^36:=Nat.lt_trans c.2 (by decide)
 rcases tf (Z_ x.op) with b0|b0
 ·rcases tf (oV x.op) with b1|b1
  ·rcases tf (x.op==((4:Nat):Int)) with b2|b2
   ·rcases tf ((x.neg==false) && ((x.num==(ae 0)) && ((x.den==(ae 1)) && true))) with b3|b3
    ·rcases tf (BF x.name) with b4|b4
     ·rw [show aC x=0 by simp only [aC,iY,wC,b0,b1,b2,b3,b4]<;>rfl]
      exact pK [] 8 88 (.c (aW b4) (.k 1 (aG b1) (.k 2 (aG b3) (.k 3 (aG b2) (.k 2 (aW b1) (.k 1 (aW b0) (.n 2 .nil))))))) (.c (lG x.name) (.c (jl) (.c (bY x.op) .nil)))
     ·rw [show aC x=12 by simp only [aC,iY,wC,b0,b1,b2,b3,b4]<;>rfl]
      exact pK [] 8 216 (.c (d_ b4) (.k 1 (aG b1) (.k 2 (aG b3) (.k 3 (aG b2) (.k 2 (aW b1) (.k 1 (aW b0) (.n 2 .nil))))))) (.c (lG x.name) (.c (jl) (.c (bY x.op) .nil)))
    ·rcases tf ((x.neg==false) && ((x.num==(ae 1)) && ((x.den==(ae 1)) && true))) with b4|b4
     ·rcases tf (BF x.name) with b5|b5
      ·rw [show aC x=0 by simp only [aC,iY,wC,b0,b1,b2,b3,b4,b5]<;>rfl]
       exact pK [] 8 72 (.c (aW b5) (.k 1 (aG b1) (.k 1 (aW b4) (.k 3 (aF b3) (.k 3 (aG b2) (.k 2 (aW b1) (.k 1 (aW b0) (.n 2 .nil)))))))) (.c (lG x.name) (.c (uV) (.c (jl) (.c (bY x.op) .nil))))
      ·rw [show aC x=12 by simp only [aC,iY,wC,b0,b1,b2,b3,b4,b5]<;>rfl]
       exact pK [] 8 200 (.c (d_ b5) (.k 1 (aG b1) (.k 1 (aW b4) (.k 3 (aF b3) (.k 3 (aG b2) (.k 2 (aW b1) (.k 1 (aW b0) (.n 2 .nil)))))))) (.c (lG x.name) (.c (uV) (.c (jl) (.c (bY x.op) .nil))))
     ·rw [show aC x=11 by simp only [aC,iY,wC,b0,b1,b2,b3,b4]<;>rfl]
      exact pK [] 6 40 (.c (d_ b4) (.k 3 (aF b3) (.k 3 (aG b2) (.k 2 (aW b1) (.k 1 (aW b0) (.n 2 .nil)))))) (.c (uV) (.c (jl) (.c (bY x.op) .nil)))
   ·rcases tf (Oy x.op) with b3|b3
    ·rcases tf (fC x.neg x.num x.den) with b4|b4
     ·rcases tf (BF x.name) with b5|b5
      ·rw [show aC x=0 by simp only [aC,iY,wC,b0,b1,b2,b3,b4,b5]<;>rfl]
       exact pK [] 8 80 (.c (aW b5) (.k 1 (aG b1) (.k 1 (aW b4) (.k 3 (aG b3) (.k 1 (aF b2) (.k 2 (aW b1) (.k 1 (aW b0) (.n 2 .nil)))))))) (.c (lG x.name) (.c (fU x.neg x.num x.den b a) (.c (bY x.op) .nil)))
      ·rw [show aC x=12 by simp only [aC,iY,wC,b0,b1,b2,b3,b4,b5]<;>rfl]
       exact pK [] 8 208 (.c (d_ b5) (.k 1 (aG b1) (.k 1 (aW b4) (.k 3 (aG b3) (.k 1 (aF b2) (.k 2 (aW b1) (.k 1 (aW b0) (.n 2 .nil)))))))) (.c (lG x.name) (.c (fU x.neg x.num x.den b a) (.c (bY x.op) .nil)))
     ·rw [show aC x=11 by simp only [aC,iY,wC,b0,b1,b2,b3,b4]<;>rfl]
      exact pK [] 6 48 (.c (d_ b4) (.k 3 (aG b3) (.k 1 (aF b2) (.k 2 (aW b1) (.k 1 (aW b0) (.n 2 .nil)))))) (.c (fU x.neg x.num x.den b a) (.c (bY x.op) .nil))
    ·rcases tf (Pg x.op) with b4|b4
     ·rcases tf (fC x.neg x.num x.den) with b5|b5
      ·rcases tf (decide (((0:Nat):Int)<(ry x.neg x.num x.den))) with b6|b6
       ·rcases tf (BF x.name) with b7|b7
        ·rw [show aC x=0 by simp only [aC,iY,wC,b0,b1,b2,b3,b4,b5,b6,b7]<;>rfl]
         exact pK [] 10 352 (.c (aW b7) (.k 1 (aG b1) (.k 1 (aW b6) (.k 3 (aG b5) (.k 3 (aG b4) (.k 1 (aF b3) (.k 1 (aF b2) (.k 2 (aW b1) (.k 1 (aW b0) (.n 2 .nil)))))))))) (.c (lG x.name) (.c (oI x.neg x.num x.den b a) (.c (fU x.neg x.num x.den b a) (.c (bY x.op) .nil))))
        ·rw [show aC x=12 by simp only [aC,iY,wC,b0,b1,b2,b3,b4,b5,b6,b7]<;>rfl]
         exact pK [] 10 864 (.c (d_ b7) (.k 1 (aG b1) (.k 1 (aW b6) (.k 3 (aG b5) (.k 3 (aG b4) (.k 1 (aF b3) (.k 1 (aF b2) (.k 2 (aW b1) (.k 1 (aW b0) (.n 2 .nil)))))))))) (.c (lG x.name) (.c (oI x.neg x.num x.den b a) (.c (fU x.neg x.num x.den b a) (.c (bY x.op) .nil))))
       ·rw [show aC x=11 by simp only [aC,iY,wC,b0,b1,b2,b3,b4,b5,b6]<;>rfl]
        exact pK [] 8 224 (.c (d_ b6) (.k 3 (aG b5) (.k 3 (aG b4) (.k 1 (aF b3) (.k 1 (aF b2) (.k 2 (aW b1) (.k 1 (aW b0) (.n 2 .nil)))))))) (.c (oI x.neg x.num x.den b a) (.c (fU x.neg x.num x.den b a) (.c (bY x.op) .nil)))
      ·rw [show aC x=11 by simp only [aC,iY,wC,b0,b1,b2,b3,b4,b5]<;>rfl]
       exact pK [] 8 160 (.k 1 (aF b5) (.k 3 (aG b4) (.k 1 (aF b3) (.k 1 (aF b2) (.k 2 (aW b1) (.k 1 (aW b0) (.n 2 .nil))))))) (.c (fU x.neg x.num x.den b a) (.c (bY x.op) .nil))
     ·rcases tf ((x.neg==false) && ((x.num== []) && ((x.den== []) && true))) with b5|b5
      ·rcases tf (BF x.name) with b6|b6
       ·rw [show aC x=0 by simp only [aC,iY,wC,b0,b1,b2,b3,b4,b5,b6]<;>rfl]
        exact pK [] 9 128 (.c (aW b6) (.k 1 (aG b1) (.k 1 (aW b5) (.k 3 (aF b4) (.k 1 (aF b3) (.k 1 (aF b2) (.k 2 (aW b1) (.k 1 (aW b0) (.n 2 .nil))))))))) (.c (lG x.name) (.c (bY x.op) .nil))
       ·rw [show aC x=12 by simp only [aC,iY,wC,b0,b1,b2,b3,b4,b5,b6]<;>rfl]
        exact pK [] 9 384 (.c (d_ b6) (.k 1 (aG b1) (.k 1 (aW b5) (.k 3 (aF b4) (.k 1 (aF b3) (.k 1 (aF b2) (.k 2 (aW b1) (.k 1 (aW b0) (.n 2 .nil))))))))) (.c (lG x.name) (.c (bY x.op) .nil))
      ·rw [show aC x=11 by simp only [aC,iY,wC,b0,b1,b2,b3,b4,b5]<;>rfl]
       exact pK [] 7 64 (.c (d_ b5) (.k 3 (aF b4) (.k 1 (aF b3) (.k 1 (aF b2) (.k 2 (aW b1) (.k 1 (aW b0) (.n 2 .nil))))))) (.c (bY x.op) .nil)
  ·rcases tf (x.name== []) with b2|b2
   ·rcases tf (x.op==((4:Nat):Int)) with b3|b3
    ·rcases tf ((x.neg==false) && ((x.num==(ae 0)) && ((x.den==(ae 1)) && true))) with b4|b4
     ·rw [show aC x=0 by simp only [aC,iY,wC,b0,b1,b2,b3,b4]<;>rfl]
      exact pK [] 8 26 (.k 1 (aF b1) (.k 2 (aG b4) (.k 3 (aG b3) (.k 1 (aW b2) (.k 1 (d_ b1) (.k 1 (aW b0) (.n 2 .nil))))))) (.c (jl) (.c (bY x.op) .nil))
     ·rcases tf ((x.neg==false) && ((x.num==(ae 1)) && ((x.den==(ae 1)) && true))) with b5|b5
      ·rw [show aC x=0 by simp only [aC,iY,wC,b0,b1,b2,b3,b4,b5]<;>rfl]
       exact pK [] 8 10 (.k 1 (aF b1) (.k 1 (aW b5) (.k 3 (aF b4) (.k 3 (aG b3) (.k 1 (aW b2) (.k 1 (d_ b1) (.k 1 (aW b0) (.n 2 .nil)))))))) (.c (uV) (.c (jl) (.c (bY x.op) .nil)))
      ·rw [show aC x=11 by simp only [aC,iY,wC,b0,b1,b2,b3,b4,b5]<;>rfl]
       exact pK [] 6 42 (.c (d_ b5) (.k 3 (aF b4) (.k 3 (aG b3) (.k 1 (aW b2) (.k 1 (d_ b1) (.k 1 (aW b0) (.n 2 .nil))))))) (.c (uV) (.c (jl) (.c (bY x.op) .nil)))
    ·rcases tf (Oy x.op) with b4|b4
     ·rcases tf (fC x.neg x.num x.den) with b5|b5
      ·rw [show aC x=0 by simp only [aC,iY,wC,b0,b1,b2,b3,b4,b5]<;>rfl]
       exact pK [] 8 18 (.k 1 (aF b1) (.k 1 (aW b5) (.k 3 (aG b4) (.k 1 (aF b3) (.k 1 (aW b2) (.k 1 (d_ b1) (.k 1 (aW b0) (.n 2 .nil)))))))) (.c (fU x.neg x.num x.den b a) (.c (bY x.op) .nil))
      ·rw [show aC x=11 by simp only [aC,iY,wC,b0,b1,b2,b3,b4,b5]<;>rfl]
       exact pK [] 6 50 (.c (d_ b5) (.k 3 (aG b4) (.k 1 (aF b3) (.k 1 (aW b2) (.k 1 (d_ b1) (.k 1 (aW b0) (.n 2 .nil))))))) (.c (fU x.neg x.num x.den b a) (.c (bY x.op) .nil))
     ·rcases tf (Pg x.op) with b5|b5
      ·rcases tf (fC x.neg x.num x.den) with b6|b6
       ·rcases tf (decide (((0:Nat):Int)<(ry x.neg x.num x.den))) with b7|b7
        ·rw [show aC x=0 by simp only [aC,iY,wC,b0,b1,b2,b3,b4,b5,b6,b7]<;>rfl]
         exact pK [] 10 98 (.k 1 (aF b1) (.k 1 (aW b7) (.k 3 (aG b6) (.k 3 (aG b5) (.k 1 (aF b4) (.k 1 (aF b3) (.k 1 (aW b2) (.k 1 (d_ b1) (.k 1 (aW b0) (.n 2 .nil)))))))))) (.c (oI x.neg x.num x.den b a) (.c (fU x.neg x.num x.den b a) (.c (bY x.op) .nil)))
        ·rw [show aC x=11 by simp only [aC,iY,wC,b0,b1,b2,b3,b4,b5,b6,b7]<;>rfl]
         exact pK [] 8 226 (.c (d_ b7) (.k 3 (aG b6) (.k 3 (aG b5) (.k 1 (aF b4) (.k 1 (aF b3) (.k 1 (aW b2) (.k 1 (d_ b1) (.k 1 (aW b0) (.n 2 .nil))))))))) (.c (oI x.neg x.num x.den b a) (.c (fU x.neg x.num x.den b a) (.c (bY x.op) .nil)))
       ·rw [show aC x=11 by simp only [aC,iY,wC,b0,b1,b2,b3,b4,b5,b6]<;>rfl]
        exact pK [] 8 162 (.k 1 (aF b6) (.k 3 (aG b5) (.k 1 (aF b4) (.k 1 (aF b3) (.k 1 (aW b2) (.k 1 (d_ b1) (.k 1 (aW b0) (.n 2 .nil)))))))) (.c (fU x.neg x.num x.den b a) (.c (bY x.op) .nil))
      ·rcases tf ((x.neg==false) && ((x.num== []) && ((x.den== []) && true))) with b6|b6
       ·rw [show aC x=0 by simp only [aC,iY,wC,b0,b1,b2,b3,b4,b5,b6]<;>rfl]
        exact pK [] 9 2 (.k 1 (aF b1) (.k 1 (aW b6) (.k 3 (aF b5) (.k 1 (aF b4) (.k 1 (aF b3) (.k 1 (aW b2) (.k 1 (d_ b1) (.k 1 (aW b0) (.n 2 .nil))))))))) (.c (bY x.op) .nil)
       ·rw [show aC x=11 by simp only [aC,iY,wC,b0,b1,b2,b3,b4,b5,b6]<;>rfl]
        exact pK [] 7 66 (.c (d_ b6) (.k 3 (aF b5) (.k 1 (aF b4) (.k 1 (aF b3) (.k 1 (aW b2) (.k 1 (d_ b1) (.k 1 (aW b0) (.n 2 .nil)))))))) (.c (bY x.op) .nil)
   ·rw [show aC x=11 by simp only [aC,iY,wC,b0,b1,b2]<;>rfl]
    exact pK [] 3 6 (.c (d_ b2) (.k 1 (d_ b1) (.k 1 (aW b0) (.n 2 .nil)))) (.c (bY x.op) .nil)
 ·rw [show aC x=11 by simp only [aC,iY,wC,b0]<;>rfl]
  exact pK [] 2 3 (.k 1 (d_ b0) (.n 2 .nil)) (.c (bY x.op) .nil)
def bC (l:List Nd):List AV:=l.flatMap yZ
theorem akL {nt:Nat} (b:35≤nt) (l:List Nd) (nn:Bool) (k d:Nat) (w:Int) (x:Nd) (r:List Nd) (a:(List.drop ((Int.toNat (k:Int))*5) (bC l))=yZ x++bC r) (f:lit true (!(w==((0:Nat):Int)))=true) (g:(decide (((0:Nat):Int)≤(k:Int)))=true) (e:(decide ((k:Int)<(l.length:Int)))=true) (i:lit true (decide ((k:Int)<(l.length:Int)))=true) (c:CO 73 [.agg [.int .i64 x.op,.bool x.neg,.str x.num,.str x.den,.str x.name]] (.ret (.int .i64 w))):au prog ap [] nt (af 0 (ah f44)) ⟨[(10,.sl (bC l) l.length nn),(11,.int .i64 (l.length:Int)),(12,.int .i64 (k:Int)),(3,.int .i64 (d:Int))],[],.dead,[]⟩ (.ret) ⟨[(2,.int .i64 w)],[],.dead,[]⟩:=
 have h:au prog ap [] nt (af 0 (ah f44)) ⟨[(10,.sl (bC l) l.length nn),(11,.int .i64 (l.length:Int)),(12,.int .i64 (k:Int)),(3,.int .i64 (d:Int))],[],.dead,[]⟩ (.ret) ⟨[(2,.int .i64 w)],[(0,⟨[.int .i64 x.op,.bool x.neg,.str x.num,.str x.den,.str x.name],0,false,0,0,true⟩)],.dead,[]⟩:=pJ 44 [] 2 3 (.c f (.k 11 g (.c e (.c i .nil)))) (.c c (.v 14 (.ppt a) .nil)) b
 h.forgetD 0 ⟨[.int .i64 x.op,.bool x.neg,.str x.num,.str x.den,.str x.name],0,false,0,0,true⟩ (by intro v h;cases h) (by decide) rfl ⟨Fz.same rfl,trivial⟩ rfl rfl
theorem akM {nt:Nat} (e:35≤nt) (l:List Nd) (nn:Bool) (k d:Nat) (w:Int) (x:Nd) (r:List Nd) (a:(List.drop ((Int.toNat (k:Int))*5) (bC l))=yZ x++bC r) (j:lit true (decide ((IntKind.wrap .i64 ((d:Int) - (AV.toInt (List.headD (List.drop ((0+((Int.toNat x.op)*5))+1) jB) .dead))))<((0:Nat):Int)))=true) (b:(chk (.int .i64) (List.headD (List.drop ((0+((Int.toNat x.op)*5))+1) jB) .dead))=true) (g:(decide (((0:Nat):Int)≤x.op))=true) (f:(decide (x.op<((25:Nat):Int)))=true) (i:lit false (!(w==((0:Nat):Int)))=true) (o:(decide (((0:Nat):Int)≤(k:Int)))=true) (n:(decide ((k:Int)<(l.length:Int)))=true) (c:lit true (decide ((k:Int)<(l.length:Int)))=true) (m:CO 73 [.agg [.int .i64 x.op,.bool x.neg,.str x.num,.str x.den,.str x.name]] (.ret (.int .i64 w))):au prog ap [] nt (af 0 (ah f44)) ⟨[(10,.sl (bC l) l.length nn),(11,.int .i64 (l.length:Int)),(12,.int .i64 (k:Int)),(3,.int .i64 (d:Int))],[],.dead,[]⟩ (.ret) ⟨[(2,.int .i64 11)],[],.dead,[]⟩:=
 have h:au prog ap [] nt (af 0 (ah f44)) ⟨[(10,.sl (bC l) l.length nn),(11,.int .i64 (l.length:Int)),(12,.int .i64 (k:Int)),(3,.int .i64 (d:Int))],[],.dead,[]⟩ (.ret) ⟨[(2,.int .i64 11)],[(0,⟨[.int .i64 x.op,.bool x.neg,.str x.num,.str x.den,.str x.name],0,false,0,0,true⟩)],.dead,[]⟩:=pJ 44 [] 3 5 (.c j (.c b (.c g (.c f (.k 1 i (.k 11 o (.c n (.c c .nil)))))))) (.c m (.v 14 (.ppt a) .nil)) e
 h.forgetD 0 ⟨[.int .i64 x.op,.bool x.neg,.str x.num,.str x.den,.str x.name],0,false,0,0,true⟩ (by intro v h;cases h) (by decide) rfl ⟨Fz.same rfl,trivial⟩ rfl rfl
theorem akN {nt:Nat} (e:35≤nt) (l:List Nd) (nn:Bool) (k d:Nat) (w:Int) (x:Nd) (r:List Nd) (a:(List.drop ((Int.toNat (k:Int))*5) (bC l))=yZ x++bC r) (j:lit false (decide ((IntKind.wrap .i64 ((d:Int) - (AV.toInt (List.headD (List.drop ((0+((Int.toNat x.op)*5))+1) jB) .dead))))<((0:Nat):Int)))=true) (b:(chk (.int .i64) (List.headD (List.drop ((0+((Int.toNat x.op)*5))+1) jB) .dead))=true) (g:(decide (((0:Nat):Int)≤x.op))=true) (f:(decide (x.op<((25:Nat):Int)))=true) (i:lit false (!(w==((0:Nat):Int)))=true) (o:(decide (((0:Nat):Int)≤(k:Int)))=true) (n:(decide ((k:Int)<(l.length:Int)))=true) (c:lit true (decide ((k:Int)<(l.length:Int)))=true) (m:CO 73 [.agg [.int .i64 x.op,.bool x.neg,.str x.num,.str x.den,.str x.name]] (.ret (.int .i64 w))):au prog ap [] nt (af 0 (ah f44)) ⟨[(10,.sl (bC l) l.length nn),(11,.int .i64 (l.length:Int)),(12,.int .i64 (k:Int)),(3,.int .i64 (d:Int))],[],.dead,[]⟩ (.normal) ⟨[(10,.sl (bC l) l.length nn),(11,.int .i64 (l.length:Int)),(12,.int .i64 (IntKind.wrap .i64 ((k:Int)+((1:Nat):Int)))),(3,.int .i64 (IntKind.wrap .i64 ((IntKind.wrap .i64 ((d:Int) - (AV.toInt (List.headD (List.drop ((0+((Int.toNat x.op)*5))+1) jB) .dead))))+((1:Nat):Int))))],[],.dead,[]⟩:=
 have h:au prog ap [] nt (af 0 (ah f44)) ⟨[(10,.sl (bC l) l.length nn),(11,.int .i64 (l.length:Int)),(12,.int .i64 (k:Int)),(3,.int .i64 (d:Int))],[],.dead,[]⟩ (.normal) ⟨[(10,.sl (bC l) l.length nn),(11,.int .i64 (l.length:Int)),(12,.int .i64 (IntKind.wrap .i64 ((k:Int)+((1:Nat):Int)))),(3,.int .i64 (IntKind.wrap .i64 ((IntKind.wrap .i64 ((d:Int) - (AV.toInt (List.headD (List.drop ((0+((Int.toNat x.op)*5))+1) jB) .dead))))+((1:Nat):Int))))],[(0,⟨[.int .i64 x.op,.bool x.neg,.str x.num,.str x.den,.str x.name],0,false,0,0,true⟩)],.dead,[]⟩:=pJ 44 [] 3 1 (.c j (.c b (.c g (.c f (.k 1 i (.k 11 o (.c n (.c c .nil)))))))) (.c m (.v 14 (.ppt a) .nil)) e
 h.forgetD 0 ⟨[.int .i64 x.op,.bool x.neg,.str x.num,.str x.den,.str x.name],0,false,0,0,true⟩ (by intro v h;cases h) (by decide) rfl ⟨Fz.same rfl,Fz.same rfl,Fz.same rfl,Fz.same rfl,trivial⟩ rfl rfl
theorem Vg {nt:Nat} (a:35≤nt) (l:List Nd) (nn:Bool) (k d:Nat) (w:Int) (b:lit false (decide ((k:Int)<(l.length:Int)))=true):au prog ap [] nt (af 0 (ah f44)) ⟨[(10,.sl (bC l) l.length nn),(11,.int .i64 (l.length:Int)),(12,.int .i64 (k:Int)),(3,.int .i64 (d:Int))],[],.dead,[]⟩ (.exit 0) ⟨[(3,.int .i64 (d:Int))],[],.dead,[]⟩:=pJ 44 [] 1 0 (.c b .nil) (.nil) a
theorem agJ (l:List Nd) (nn:Bool) (d:Nat) (a:lit true (decide (((60:Nat):Int)<(l.length:Int)))=true):CO 44 [.sl (bC l) l.length nn] (.ret (.int .i64 2)):=pK [0] 1 1 (.c a .nil) (.nil)
theorem agK (l:List Nd) (nn:Bool) (d:Nat) (c:lit true (!((d:Int)==((1:Nat):Int)))=true) (a:lit false (decide (((60:Nat):Int)<(l.length:Int)))=true) (b:aK prog ap [] 35 (.block 0 (.loop (af 0 (ah f44)))) ⟨[(0,.sl (bC l) l.length nn),(2,.int .i64 0),(3,.int .i64 0),(5,.dead),(6,.dead),(9,.bool (decide (((60:Nat):Int)<(l.length:Int)))),(10,.sl (bC l) l.length nn),(11,.int .i64 (l.length:Int)),(12,.int .i64 0),(13,.dead),(19,.dead),(29,.dead),(34,.dead)],[],.dead,[]⟩ (.normal) ⟨[(3,.int .i64 (d:Int))],[],.dead,[]⟩):CO 44 [.sl (bC l) l.length nn] (.ret (.int .i64 11)):=pK [0] 2 2 (.c c (.c a .nil)) (.l b .nil)
theorem agL (l:List Nd) (nn:Bool) (d:Nat) (c:lit false (!((d:Int)==((1:Nat):Int)))=true) (a:lit false (decide (((60:Nat):Int)<(l.length:Int)))=true) (b:aK prog ap [] 35 (.block 0 (.loop (af 0 (ah f44)))) ⟨[(0,.sl (bC l) l.length nn),(2,.int .i64 0),(3,.int .i64 0),(5,.dead),(6,.dead),(9,.bool (decide (((60:Nat):Int)<(l.length:Int)))),(10,.sl (bC l) l.length nn),(11,.int .i64 (l.length:Int)),(12,.int .i64 0),(13,.dead),(19,.dead),(29,.dead),(34,.dead)],[],.dead,[]⟩ (.normal) ⟨[(3,.int .i64 (d:Int))],[],.dead,[]⟩):CO 44 [.sl (bC l) l.length nn] (.ret (.int .i64 0)):=pK [0] 2 0 (.c c (.c a .nil)) (.l b .nil)
theorem agM (l:List Nd) (nn:Bool) (w:Int) (b:lit false (decide (((60:Nat):Int)<(l.length:Int)))=true) (a:aK prog ap [] 35 (.block 0 (.loop (af 0 (ah f44)))) ⟨[(0,.sl (bC l) l.length nn),(2,.int .i64 0),(3,.int .i64 0),(5,.dead),(6,.dead),(9,.bool (decide (((60:Nat):Int)<(l.length:Int)))),(10,.sl (bC l) l.length nn),(11,.int .i64 (l.length:Int)),(12,.int .i64 0),(13,.dead),(19,.dead),(29,.dead),(34,.dead)],[],.dead,[]⟩ (.ret) ⟨[(2,.int .i64 w)],[],.dead,[]⟩):CO 44 [.sl (bC l) l.length nn] (.ret (.int .i64 w)):=pK [0] 1 0 (.c b .nil) (.l a .nil)
theorem LG (x:Nd) (r:List Nd):bC (x::r)=yZ x++bC r:=rfl
theorem Jk (a b:List Nd):bC (a++b)=bC a++bC b:=by unfold bC;rw [List.flatMap_append]
theorem aP (l:List Nd):(bC l).length=l.length*5:=by
 induction l with
 |nil=>rfl
 |cons x r ih=>rw [LG,List.length_append,ih,List.length_cons];simp [yZ];omega
theorem Jl {p r:List Nd} {x:Nd} {k:Nat} (h:k=p.length):List.drop (Int.toNat (k:Int)*5) (bC (p++x::r))=yZ x++bC r:=by
 subst h
 rw [aJ,Jk,LG,← aP,List.drop_left]
def gZ:List Nd→Nat→Nat ⊕ Int
 | [],d=> .inl d
 |x::r,d=>if aC x=0 then (if d<dX x.op then .inr 11 else gZ r (d - dX x.op+1)) else .inr (aC x)
def bW (l:List Nd):Int:=if 60<l.length then 2 else match gZ l 0 with| .inl d=>if d=1 then 0 else 11| .inr w=>w
def Y2:Nat ⊕ Int→bI
 | .inl _=> .exit 0
 | .inr _=> .ret
def Su (l:List Nd) (nn:Bool) (p:Nat × Nat):St:=⟨[(10,.sl (bC l) l.length nn),(11,.int .i64 (l.length:Int)),(12,.int .i64 (p.1:Int)),(3,.int .i64 (p.2:Int))],[],.dead,[]⟩
def PT:Nat ⊕ Int→St
 | .inl d=> ⟨[(3,.int .i64 (d:Int))],[],.dead,[]⟩
 | .inr w=> ⟨[(2,.int .i64 w)],[],.dead,[]⟩
theorem Iz (op:Int):dX op≤3:=by unfold dX;(repeat' split)<;>omega
theorem rG {x:Nd} (h:aC x=0):1≤x.op∧x.op≤24:=by
 cases a:Z_ x.op with
 |true=>simpa [Z_] using a
 |false=>unfold aC at h;rw [a] at h;simp at h
theorem Vh {nt:Nat} (h:35≤nt) (l p r:List Nd) (nn:Bool) (x:Nd) (d:Nat) (q:x.sm) (n:l=p++x::r) (t:l.length<2^40) (hd:d<2^41):
  (¬ aC x=0→au prog ap [] nt (af 0 (ah f44)) (Su l nn (p.length,d)) .ret (PT (.inr (aC x))))∧
  (aC x=0→d<dX x.op→au prog ap [] nt (af 0 (ah f44)) (Su l nn (p.length,d)) .ret (PT (.inr 11)))∧
  (aC x=0→¬ d<dX x.op→au prog ap [] nt (af 0 (ah f44)) (Su l nn (p.length,d)) .normal (Su l nn (p.length+1,d - dX x.op+1))):=by
 have c:List.drop (Int.toNat (p.length:Int)*5) (bC l)=yZ x++bC r:=by rw [n];exact Jl rfl
 have m:p.length+(r.length+1)=l.length:=by rw [n];simp
 have k:=Yz x q
 have o:=Iz x.op
 unfold Su PT
 refine ⟨fun b=> ?_,fun b s=> ?_,fun b s=> ?_⟩
 ·have a:=akL h l nn p.length d (aC x) x r c
  have e:(!(aC x==((0:Nat):Int)))=true:=by simpa using b
  simp (disch:=first|omega|(simp [ax,ay]<;>omega)) only [e,bM,dZ,bD,bH] at a
  apply a<;>first|exact True.intro|omega|assumption|exact rfl
 ·obtain ⟨i,f⟩:=rG b
  have g:=Pn i f
  rw [b] at k
  have a:=akM h l nn p.length d 0 x r c
  have j:IntKind.wrap .i64 ((d:Int) - ((dX x.op:Nat):Int))=(d:Int) - (dX x.op:Int):=bF (by omega) (by omega)
  simp (disch:=first|omega|(simp [ax,ay]<;>omega)) only [Nat.zero_add,g,aY,j,bM,bD,dY,eX,gm,W_,dZ,bH] at a
  apply a<;>first|exact True.intro|omega|assumption|exact rfl
 ·obtain ⟨i,f⟩:=rG b
  have g:=Pn i f
  rw [b] at k
  have a:=akN h l nn p.length d 0 x r c
  have j:IntKind.wrap .i64 ((d:Int) - ((dX x.op:Nat):Int))=((d - dX x.op:Nat):Int):=by rw [bF]<;>omega
  simp (disch:=first|omega|(simp [ax,ay]<;>omega)) only [Nat.zero_add,g,aY,j,bH,eX,gm,gU,dY,bD,W_,dZ,bM,dC,bf] at a
  apply a<;>first|exact True.intro|omega|assumption|exact rfl
theorem Y6 {nt:Nat} (c:35≤nt) (l:List Nd) (nn:Bool) (b:l.length<2^40) (a:∀ x ∈ l,x.sm):∀ (r p:List Nd) (d:Nat),p++r=l→d≤p.length→aI prog ap [] nt (af 0 (ah f44)) Y2 (Su l nn) PT (p.length,d) (gZ r d):=by
 intro r
 induction r with
 |nil=>
  intro p d h _
  have hp:p.length=l.length:=by rw [← h];simp
  rw [hp]
  exact .done (Vg c l nn l.length d 0 (by rw [bH];simp [lit]))
 | cons x r ih=>
  intro p d h hd
  have i:p.length+(r.length+1)=l.length:=by rw [← h];simp
  obtain ⟨e,g,f⟩:=Vh c l p r nn x d (a x (by rw [← h];simp)) h.symm b (by omega)
  simp only [gZ]
  by_cases h1:aC x=0
  ·rw [if_pos h1]
   by_cases h2:d<dX x.op
   ·rw [if_pos h2];exact .done (g h1 h2)
   ·rw [if_neg h2]
    have hnext:=ih (p++ [x]) (d - dX x.op+1) (by simp [h]) (by simp;omega)
    rw [List.length_append,List.length_singleton] at hnext
    exact .next (f h1 h2) hnext
  ·rw [if_neg h1];exact .done (e h1)
theorem DR (l:List Nd) (nn:Bool) (a:∀ x ∈ l,x.sm):CO 44 [.sl (bC l) l.length nn] (.ret (.int .i64 (bW l))):=by
 unfold bW
 by_cases h60:60<l.length
 ·rw [if_pos h60]
  exact agJ l nn 0 (by rw [bH];exact decide_eq_true h60)
 ·rw [if_neg h60]
  have b:lit false (decide (((60:Nat):Int)<(l.length:Int)))=true:=by rw [bH];simp only [lit,Bool.not_eq_true'];exact decide_eq_false h60
  have hloop:=fun nt (hn:35≤nt)=>Y6 hn l nn (by omega) a l [] 0 rfl (by simp)
  cases c:gZ l 0 with
  | inl d=>
   rw [c] at hloop
   by_cases hd:d=1
   ·have h:=agL l nn d (by rw [qc,decide_eq_true hd];rfl) b
    simp only [if_pos hd]
    exact h (aI.blk hloop (by simp [Y2]) rfl (aO.of ⟨rfl,rfl,rfl,rfl,trivial⟩) (aO.of ⟨rfl,trivial⟩))
   ·have h:=agK l nn d (by rw [qc,decide_eq_false hd];rfl) b
    simp only [if_neg hd]
    exact h (aI.blk hloop (by simp [Y2]) rfl (aO.of ⟨rfl,rfl,rfl,rfl,trivial⟩) (aO.of ⟨rfl,trivial⟩))
  |inr w=>
   rw [c] at hloop
   exact agM l nn w b (aI.blk hloop (by simp [Y2]) rfl (aO.of ⟨rfl,rfl,rfl,rfl,trivial⟩) (aO.of ⟨rfl,trivial⟩))
theorem agu {nt:Nat} (g:45≤nt) (l:List Nd) (nn:Bool) (k:Nat) (C:List AV) (st own:List Nat) (x:Nd) (r:List Nd) (a:(List.drop ((Int.toNat (k:Int))*5) (bC l))=yZ x++bC r) (d:(decide ((IntKind.wrap .i64 (((0:Nat):Int) - (AV.toInt (List.headD (List.drop ((0+((Int.toNat x.op)*5))+1) jB) .dead))))=0))=true) (e:(Nat.ble (((0+(Int.toNat (k:Int)))*1)+1) (List.length C))=true) (c:(decide (((0:Nat):Int)≤(k:Int)))=true) (b:(decide ((k:Int)<(l.length:Int)))=true) (i:(chk (.int .i64) (List.headD (List.drop ((0+((Int.toNat x.op)*5))+1) jB) .dead))=true) (n:(decide (((0:Nat):Int)≤x.op))=true) (m:(decide (x.op<((25:Nat):Int)))=true) (f:lit true (decide ((k:Int)<(l.length:Int)))=true) (j:CO 59 [.nilS] (.ret (.sl (aj own) own.length false))):au prog ap [] nt (af 0 (ah f24)) ⟨[(15,.sl (bC l) l.length nn),(16,.int .i64 (l.length:Int)),(17,.int .i64 (k:Int)),(4,.ref 0 0 0 l.length),(5,.nilS)],[(0,⟨C,0,false,0,1,true⟩)],.dead,[]⟩ (.normal) ⟨[(15,.sl (bC l) l.length nn),(16,.int .i64 (l.length:Int)),(17,.int .i64 (IntKind.wrap .i64 ((k:Int)+((1:Nat):Int)))),(4,.ref 0 0 0 l.length),(5,.ref 1 0 0 1)],[(0,⟨(List.take ((0+(Int.toNat (k:Int)))*1) C++ [.sl (aj own) own.length false]++List.drop (((0+(Int.toNat (k:Int)))*1)+1) C),0,false,0,1,true⟩),(1,⟨[.int .i64 (k:Int)],0,false,0,1,true⟩)],.dead,[]⟩:=
 have h:au prog ap [] nt (af 0 (ah f24)) ⟨[(15,.sl (bC l) l.length nn),(16,.int .i64 (l.length:Int)),(17,.int .i64 (k:Int)),(4,.ref 0 0 0 l.length),(5,.nilS)],[(0,⟨C,0,false,0,1,true⟩)],.dead,[]⟩ (.normal) ⟨[(15,.sl (bC l) l.length nn),(16,.int .i64 (l.length:Int)),(17,.int .i64 (IntKind.wrap .i64 ((k:Int)+((1:Nat):Int)))),(4,.ref 0 0 0 l.length),(5,.ref 1 0 0 1)],[(0,⟨(List.take ((0+(Int.toNat (k:Int)))*1) C++ [.sl (aj own) own.length false]++List.drop (((0+(Int.toNat (k:Int)))*1)+1) C),0,false,0,1,true⟩),(1,⟨[.int .i64 (k:Int)],0,false,0,1,true⟩),(2,⟨[.int .i64 x.op,.bool x.neg,.str x.num,.str x.den,.str x.name],0,false,0,0,true⟩)],.dead,[]⟩:=pJ 24 [] 2 1 (.k 4 d (.c e (.c c (.c b (.c d (.k 1 i (.c n (.c m (.k 7 c (.c b (.c f .nil))))))))))) (.c j (.v 20 (.ppt a) .nil)) g
 h.forgetD 2 ⟨[.int .i64 x.op,.bool x.neg,.str x.num,.str x.den,.str x.name],0,false,0,0,true⟩ (by intro v h;cases h) (by decide) rfl ⟨Fz.same rfl,Fz.same rfl,Fz.same rfl,Fz.same rfl,Fz.same rfl,trivial⟩ ⟨rfl,Nr.same rfl,by decide,rfl,Nr.same rfl,by decide,rfl⟩ rfl
theorem RY {nt:Nat} (a:45≤nt) (l:List Nd) (nn:Bool) (k:Nat) (C:List AV) (st own:List Nat) (b:lit false (decide ((k:Int)<(l.length:Int)))=true):au prog ap [] nt (af 0 (ah f24)) ⟨[(15,.sl (bC l) l.length nn),(16,.int .i64 (l.length:Int)),(17,.int .i64 (k:Int)),(4,.ref 0 0 0 l.length),(5,.nilS)],[(0,⟨C,0,false,0,1,true⟩)],.dead,[]⟩ (.exit 0) ⟨[(4,.ref 0 0 0 l.length)],[(0,⟨C,0,false,0,1,true⟩)],.dead,[]⟩:=pJ 24 [] 1 0 (.c b .nil) (.nil) a
theorem agr {nt:Nat} (m:45≤nt) (l:List Nd) (nn:Bool) (k:Nat) (C:List AV) (st own:List Nat) (x:Nd) (r:List Nd) (c:(List.drop ((Int.toNat (k:Int))*5) (bC l))=yZ x++bC r) (q:(Nat.ble (((Int.toNat (IntKind.wrap .i64 ((st.length:Int) - (AV.toInt (List.headD (List.drop ((0+((Int.toNat x.op)*5))+1) jB) .dead))))) - 0)+1) 1099511627776)=true) (i:(Nat.ble (((Int.toNat (IntKind.wrap .i64 ((st.length:Int) - (AV.toInt (List.headD (List.drop ((0+((Int.toNat x.op)*5))+1) jB) .dead))))) - 0)*1) (List.length (aj st)))=true) (e:(decide (((0:Nat):Int)≤(IntKind.wrap .i64 ((st.length:Int) - (AV.toInt (List.headD (List.drop ((0+((Int.toNat x.op)*5))+1) jB) .dead))))))=true) (d:(decide ((IntKind.wrap .i64 ((st.length:Int) - (AV.toInt (List.headD (List.drop ((0+((Int.toNat x.op)*5))+1) jB) .dead))))≤(st.length:Int)))=true) (p:(Nat.ble (((0+(Int.toNat (k:Int)))*1)+1) (List.length C))=true) (g:(decide (((0:Nat):Int)≤(k:Int)))=true) (f:(decide ((k:Int)<(l.length:Int)))=true) (j:(decide ((st.length:Int)≤(st.length:Int)))=true) (o:(chk (.int .i64) (List.headD (List.drop ((0+((Int.toNat x.op)*5))+1) jB) .dead))=true) (n:(decide (((0:Nat):Int)≤x.op))=true) (b:(decide (x.op<((25:Nat):Int)))=true) (a:lit true (decide ((k:Int)<(l.length:Int)))=true) (s:aA prog ap 59 [.ref 0 0 (0+(Int.toNat (IntKind.wrap .i64 ((st.length:Int) - (AV.toInt (List.headD (List.drop ((0+((Int.toNat x.op)*5))+1) jB) .dead)))))) ((Int.toNat (st.length:Int)) - (Int.toNat (IntKind.wrap .i64 ((st.length:Int) - (AV.toInt (List.headD (List.drop ((0+((Int.toNat x.op)*5))+1) jB) .dead))))))] [⟨(aj st),0,false,0,1,true⟩] (.ret (.sl (aj own) own.length false)) [⟨(aj st),0,false,0,1,true⟩]):au prog ap [] nt (af 0 (ah f24)) ⟨[(15,.sl (bC l) l.length nn),(16,.int .i64 (l.length:Int)),(17,.int .i64 (k:Int)),(4,.ref 0 0 0 l.length),(5,.ref 1 0 0 st.length)],[(0,⟨C,0,false,0,1,true⟩),(1,⟨(aj st),0,false,0,1,true⟩)],.dead,[]⟩ (.normal) ⟨[(15,.sl (bC l) l.length nn),(16,.int .i64 (l.length:Int)),(17,.int .i64 (IntKind.wrap .i64 ((k:Int)+((1:Nat):Int)))),(4,.ref 0 0 0 l.length),(5,.ref 1 0 0 (((Int.toNat (IntKind.wrap .i64 ((st.length:Int) - (AV.toInt (List.headD (List.drop ((0+((Int.toNat x.op)*5))+1) jB) .dead))))) - 0)+1))],[(0,⟨(List.take ((0+(Int.toNat (k:Int)))*1) C++ [.sl (aj own) own.length false]++List.drop (((0+(Int.toNat (k:Int)))*1)+1) C),0,false,0,1,true⟩),(1,⟨((List.take (((Int.toNat (IntKind.wrap .i64 ((st.length:Int) - (AV.toInt (List.headD (List.drop ((0+((Int.toNat x.op)*5))+1) jB) .dead))))) - 0)*1) (aj st))++ [.int .i64 (k:Int)]),0,false,0,1,true⟩)],.dead,[]⟩:=
 have h:au prog ap [] nt (af 0 (ah f24)) ⟨[(15,.sl (bC l) l.length nn),(16,.int .i64 (l.length:Int)),(17,.int .i64 (k:Int)),(4,.ref 0 0 0 l.length),(5,.ref 1 0 0 st.length)],[(0,⟨C,0,false,0,1,true⟩),(1,⟨(aj st),0,false,0,1,true⟩)],.dead,[]⟩ (.normal) ⟨[(15,.sl (bC l) l.length nn),(16,.int .i64 (l.length:Int)),(17,.int .i64 (IntKind.wrap .i64 ((k:Int)+((1:Nat):Int)))),(4,.ref 0 0 0 l.length),(5,.ref 1 0 0 (((Int.toNat (IntKind.wrap .i64 ((st.length:Int) - (AV.toInt (List.headD (List.drop ((0+((Int.toNat x.op)*5))+1) jB) .dead))))) - 0)+1))],[(0,⟨(List.take ((0+(Int.toNat (k:Int)))*1) C++ [.sl (aj own) own.length false]++List.drop (((0+(Int.toNat (k:Int)))*1)+1) C),0,false,0,1,true⟩),(1,⟨((List.take (((Int.toNat (IntKind.wrap .i64 ((st.length:Int) - (AV.toInt (List.headD (List.drop ((0+((Int.toNat x.op)*5))+1) jB) .dead))))) - 0)*1) (aj st))++ [.int .i64 (k:Int)]),0,false,0,1,true⟩),(2,⟨[.int .i64 x.op,.bool x.neg,.str x.num,.str x.den,.str x.name],0,false,0,0,true⟩)],.dead,[]⟩:=pJ 24 [] 1 1 (.k 1 q (.c i (.k 2 e (.c d (.c p (.c g (.c f (.c e (.c d (.c j (.c o (.c n (.c b (.k 7 g (.c f (.c a .nil)))))))))))))))) (.c s (.v 20 (.ppt c) .nil)) m
 h.forgetD 2 ⟨[.int .i64 x.op,.bool x.neg,.str x.num,.str x.den,.str x.name],0,false,0,0,true⟩ (by intro v h;cases h) (by decide) rfl ⟨Fz.same rfl,Fz.same rfl,Fz.same rfl,Fz.same rfl,Fz.same rfl,trivial⟩ ⟨rfl,Nr.same rfl,by decide,rfl,Nr.same rfl,by decide,rfl⟩ rfl
theorem RX {nt:Nat} (a:45≤nt) (l:List Nd) (nn:Bool) (k:Nat) (C:List AV) (st own:List Nat) (b:lit false (decide ((k:Int)<(l.length:Int)))=true):au prog ap [] nt (af 0 (ah f24)) ⟨[(15,.sl (bC l) l.length nn),(16,.int .i64 (l.length:Int)),(17,.int .i64 (k:Int)),(4,.ref 0 0 0 l.length),(5,.ref 1 0 0 st.length)],[(0,⟨C,0,false,0,1,true⟩),(1,⟨(aj st),0,false,0,1,true⟩)],.dead,[]⟩ (.exit 0) ⟨[(4,.ref 0 0 0 l.length)],[(0,⟨C,0,false,0,1,true⟩),(1,⟨(aj st),0,false,0,1,true⟩)],.dead,[]⟩:=pJ 24 [] 1 0 (.c b .nil) (.nil) a
theorem ags (l:List Nd) (nn:Bool) (w:Int) (C:List AV) (b:lit true (!(w==((0:Nat):Int)))=true) (a:CO 44 [.sl (bC l) l.length nn] (.ret (.int .i64 w))):CO 24 [.sl (bC l) l.length nn] (.ret (.tup [.nilS,.bool false])):=pK [0] 1 1 (.c b .nil) (.c a .nil)
theorem agt (l:List Nd) (nn:Bool) (w:Int) (C:List AV) (f:(decide (((0:Nat):Int)≤(l.length:Int)))=true) (c:(decide ((l.length:Int)=(l.length:Int)))=true) (b:(decide ((l.length:Int)≤((1099511627776:Nat):Int)))=true) (e:lit false (!(w==((0:Nat):Int)))=true) (a:CO 44 [.sl (bC l) l.length nn] (.ret (.int .i64 w))) (d:aK prog ap [] 45 (.block 0 (.loop (af 0 (ah f24)))) ⟨[(0,.sl (bC l) l.length nn),(2,.nilS),(3,.bool false),(4,.ref 0 0 0 (Int.toNat (l.length:Int))),(5,.nilS),(6,.dead),(7,.dead),(8,.dead),(11,.bool (!(w==((0:Nat):Int)))),(15,.sl (bC l) l.length nn),(16,.int .i64 (l.length:Int)),(17,.int .i64 0),(18,.dead)],[(0,⟨(f_ (Int.toNat (l.length:Int)) [.nilS]),0,false,0,1,true⟩)],.dead,[]⟩ (.normal) ⟨[(4,.ref 0 0 0 l.length)],[(0,⟨C,0,false,0,1,true⟩)],.dead,[]⟩):CO 24 [.sl (bC l) l.length nn] (.ret (.tup [.own (List.take (l.length*1) C) l.length 1,.bool true])):=pK [0] 1 0 (.c f (.c c (.c b (.c e .nil)))) (.l d (.c a .nil))
theorem agO:CO 59 [.nilS] (.ret (.nilS)):=pK [] 1 1 (.n 1 .nil) (.nil)
theorem agN (st:List Nat) (i n:Nat) (b:(Nat.beq (List.length (List.take (n*1) (List.drop (i*1) (aj st)))) (n*1))=true) (a:(Nat.ble (0+n) 1099511627776)=true):aA prog ap 59 [.ref 0 0 i n] [⟨(aj st),0,false,0,1,true⟩] (.ret (.own (List.take ((0+n)*1) ([]++(List.take (n*1) (List.drop (i*1) (aj st))))) (0+n) 1)) [⟨(aj st),0,false,0,1,true⟩]:=pK [] 1 0 (.c b (.c a (.n 3 .nil))) (.nil)
def rM:List Nd→Nat→List Nat→List (List Nat)
 | [],_,_=> []
 |x::r,k,st=>st.drop (st.length - dX x.op)::rM r (k+1) (st.take (st.length - dX x.op)++ [k])
def eP (l:List Nd):List (List Nat):=rM l 0 []
def RZ (a:List Nat):AV:= .sl (aj a) a.length false
def dA (ll:List (List Nat)):List AV:=ll.map RZ
def stR:List Nd→Nat→List Nat→List Nat
 | [],_,st=>st
 |x::r,k,st=>stR r (k+1) (st.take (st.length - dX x.op)++ [k])
theorem J_ (r:List Nd):∀ k st,(rM r k st).length=r.length:=by
 induction r with
 |nil=>intros;rfl
 |cons x r ih=>intro k st;simp only [rM,List.length_cons,ih]
def agE (st:List Nat):AV:=match st with| []=> .nilS|x::l=> .ref 1 0 0 (x::l).length
def agH (st:List Nat):Hp:=match st with| []=> []|x::l=> [(1,⟨aj (x::l),0,false,0,1,true⟩)]
theorem NC {l:List Nat} (h:l ≠ []):agE l= .ref 1 0 0 l.length:=by cases l with|nil=>exact absurd rfl h|cons _ _=>rfl
theorem Ir {l:List Nat} (h:l ≠ []):agH l= [(1,⟨aj l,0,false,0,1,true⟩)]:=by cases l with|nil=>exact absurd rfl h|cons _ _=>rfl
def Iu (l:List Nd) (nn:Bool) (p:Nat × List Nat × List AV):St:=⟨[(15,.sl (bC l) l.length nn),(16,.int .i64 (l.length:Int)),(17,.int .i64 (p.1:Int)),(4,.ref 0 0 0 l.length),(5,agE p.2.1)],(0,⟨p.2.2,0,false,0,1,true⟩)::agH p.2.1,.dead,[]⟩
def GU (l:List Nd) (p:List Nat × List AV):St:=⟨[(4,.ref 0 0 0 l.length)],(0,⟨p.2,0,false,0,1,true⟩)::agH p.1,.dead,[]⟩
theorem SA:aA prog ap 59 [.nilS] [] (.ret (.sl (aj []) ([]:List Nat).length false)) []:=agO.out (jm.ret rfl rfl (aU.nilS false rfl))
theorem Vl (st:List Nat) (i n:Nat) (h:i+n=st.length) (f:st.length<2^40):aA prog ap 59 [.ref 0 0 i n] [⟨aj st,0,false,0,1,true⟩] (.ret (.sl (aj (st.drop i)) n false)) [⟨aj st,0,false,0,1,true⟩]:=by
 have d:=agN st i n
 have e:n≤st.length:=by omega
 have c:List.take n (List.drop i (aj st))=aj (st.drop i):=by
  rw [KF,dI,List.take_of_length_le (by simp;omega)]
 have a:(aj (st.drop i)).length=n:=by rw [bZ,List.length_drop];omega
 simp (disch:=first|omega|(simp [ax,ay]<;>omega)) only [Nat.mul_one,c,a,Jj,decide_true,Nat.zero_add,fO,bD,List.nil_append] at d
 have b:=(d True.intro (by omega)).thaw (by simp)
 simp only [zB,thaw,Nat.mul_one] at b
 rw [List.take_of_length_le (by rw [List.length_take,a];omega),List.take_of_length_le (by omega)] at b
 exact b.out (jm.sl1 _ _ _)
theorem YO {nt:Nat} (k:45≤nt) (l p r:List Nd) (nn:Bool) (x:Nd) (st:List Nat) (C C2:List AV) (j:l=p++x::r) (v:l.length<2^39) (f:1≤x.op∧x.op≤24) (d:dX x.op≤st.length) (w:st.length≤p.length) (h:C.length=l.length)
  (hset:List.take p.length C++ [RZ (st.drop (st.length - dX x.op))]++List.drop (p.length+1) C=C2):
  au prog ap [] nt (af 0 (ah f24)) (Iu l nn (p.length,st,C)) .normal (Iu l nn (p.length+1,st.take (st.length - dX x.op)++ [p.length],C2)):=by
 have c:List.drop (Int.toNat (p.length:Int)*5) (bC l)=yZ x++bC r:=by rw [j];exact Jl rfl
 have g:p.length+(r.length+1)=l.length:=by rw [j];simp
 obtain ⟨u,s⟩:=f
 have i:=Pn u s
 unfold Iu
 simp only
 rw [NC (iM _ _),Ir (iM _ _)]
 rcases Decidable.em (st= []) with rfl|hne
 ·have q:dX x.op=0:=by simpa using d
  have a:=agu k l nn p.length C [] [] x r c
  simp only [List.length_nil,Nat.zero_sub,List.drop_nil,List.take_nil,List.nil_append] at hset ⊢
  unfold RZ at hset
  have e:=SA
  simp (disch:=first|omega|(simp [ax,ay]<;>omega)) only [Nat.zero_add,i,q,aY,jH,Nat.sub_zero,bD,aJ,Nat.mul_one,h,fO,dZ,bH,dY,bM,List.length_nil,dC,bf] at a
  simp only [agE,agH,aj,List.map_cons,List.map_nil,List.length_cons,List.length_nil,Nat.zero_add] at a hset e ⊢
  rw [hset] at a
  apply a<;>first|exact True.intro|omega|assumption|exact rfl|skip
 ·have t:=Vl st (st.length - dX x.op) (dX x.op) (by omega) (by omega)
  have a:=agr k l nn p.length C st (st.drop (st.length - dX x.op)) x r c
  rw [NC hne,Ir hne]
  unfold RZ at hset
  generalize z:st.length - dX x.op=m at*
  have b:(st.drop m).length=dX x.op:=by rw [List.length_drop];omega
  have y:IntKind.wrap .i64 ((st.length:Int) - ((dX x.op:Nat):Int))=(m:Int):=by rw [bF]<;>omega
  have o:st.length - m=dX x.op:=by omega
  rw [b] at a hset
  have n:(st.take m).length=m:=by rw [List.length_take];omega
  simp (disch:=first|omega|(simp [ax,ay]<;>omega)) only [Nat.zero_add,i,aY,y,aJ,Nat.sub_zero,fO,bD,Nat.mul_one,bZ,dZ,h,bH,dY,bM,o,dC,bf,hset,dI,kz] at a
  simp only [List.length_append,List.length_singleton,n]
  apply a<;>first|exact True.intro|omega|assumption|exact rfl|skip
theorem Y3 {r:List Nd} {d e:Nat} {x:Nd} (h:gZ (x::r) d= .inl e):(1≤x.op∧x.op≤24)∧dX x.op≤d∧gZ r (d - dX x.op+1)= .inl e:=by
 simp only [gZ] at h
 by_cases h1:aC x=0
 ·rw [if_pos h1] at h
  by_cases h2:d<dX x.op
  ·rw [if_pos h2] at h;cases h
  ·rw [if_neg h2] at h
   exact ⟨rG h1,by omega,h⟩
 ·rw [if_neg h1] at h;cases h
theorem vI (a:List (List Nat)):(dA a).length=a.length:=by simp [dA]
theorem R_ (done:List (List Nat)) (a:List Nat) (m:Nat):List.take done.length (dA done++List.replicate (m+1) AV.nilS)++ [RZ a]++List.drop (done.length+1) (dA done++List.replicate (m+1) AV.nilS)=dA (done++ [a])++List.replicate m AV.nilS:=by
 have b:=vI done
 rw [List.take_append_of_le_length (by omega),List.take_of_length_le (by omega),List.drop_append,List.drop_of_length_le (by omega),List.nil_append,show done.length+1 - (dA done).length=1 by omega,List.replicate_succ,List.drop_succ_cons,List.drop_zero]
 unfold dA
 rw [List.map_append]
 rfl
theorem YN {nt:Nat} (g:45≤nt) (l:List Nd) (nn:Bool) (j:l.length<2^39) (e:Nat):∀ (r p:List Nd) (st:List Nat) (done:List (List Nat)),p++r=l→gZ r st.length= .inl e→st.length≤p.length→done.length=p.length→aI prog ap [] nt (af 0 (ah f24)) (fun _=> .exit 0) (Iu l nn) (GU l) (p.length,st,dA done++List.replicate r.length .nilS) (stR r p.length st,dA (done++rM r p.length st)):=by
 intro r
 induction r with
 | nil=>
  intro p st done h k c hd
  have hp:p.length=l.length:=by rw [← h];simp
  rw [hp]
  simp only [rM,stR,List.append_nil,List.length_nil,List.replicate_zero]
  refine .done ?_
  unfold Iu GU
  have m:au prog ap [] nt (af 0 (ah f24)) (Iu l nn (l.length,st,dA done)) (.exit 0) (GU l (st,dA done)):=by
   unfold Iu GU
   rcases Decidable.em (st= []) with rfl|hne
   ·exact RY g l nn l.length (dA done) [] [] (by rw [bH];simp [lit])
   ·simp only
    rw [NC hne,Ir hne]
    exact RX g l nn l.length (dA done) st [] (by rw [bH];simp [lit])
  exact m
 | cons x r ih=>
  intro p st done h k c hd
  obtain ⟨f,d,i⟩:=Y3 k
  have n:p.length+(r.length+1)=l.length:=by rw [← h];simp
  have a:(st.take (st.length - dX x.op)++ [p.length]).length=st.length - dX x.op+1:=by
   rw [List.length_append,List.length_take,List.length_singleton,Nat.min_eq_left (by omega)]
  have hnext:=ih (p++ [x]) (st.take (st.length - dX x.op)++ [p.length]) (done++ [st.drop (st.length - dX x.op)]) (by simp [h]) (by rw [a];exact i) (by rw [a];simp;omega) (by simp [hd])
  rw [List.length_append,List.length_singleton,List.append_assoc] at hnext
  simp only [rM,stR,List.length_cons]
  have b:=R_ done (st.drop (st.length - dX x.op)) r.length
  rw [hd] at b
  have hstep:=YO g l p r nn x st (dA done++List.replicate (r.length+1) .nilS) _ h.symm j f d c (by rw [List.length_append,vI,List.length_replicate];omega) b
  exact .next hstep hnext
theorem XE (n:Nat):f_ n [AV.nilS]=List.replicate n AV.nilS:=by
 unfold f_
 induction n with
 |zero=>rfl
 |succ n ih=>rw [List.replicate_succ,List.flatten_cons,ih,List.replicate_succ];rfl
theorem NL {l:List Nd} (h:bW l=0):l.length≤60∧gZ l 0= .inl 1:=by
 unfold bW at h
 by_cases h60:60<l.length
 ·rw [if_pos h60] at h;cases h
 ·rw [if_neg h60] at h
  refine ⟨by omega, ?_⟩
  have b:∀ (r:List Nd) (d:Nat) (w:Int),gZ r d= .inr w→w ≠ 0:=by
   intro r
   induction r with
   |nil=>intro d w h;cases h
   | cons x r ih=>
    intro d w h
    simp only [gZ] at h
    by_cases h1:aC x=0
    ·rw [if_pos h1] at h
     by_cases h2:d<dX x.op
     ·rw [if_pos h2] at h;cases h;decide
     ·rw [if_neg h2] at h;exact ih _ _ h
    ·rw [if_neg h1] at h;cases h;exact h1
  cases a:gZ l 0 with
  |inl d=>
   rw [a] at h
   by_cases hd:d=1
   ·rw [hd]
   ·simp only [if_neg hd] at h;cases h
  |inr w=>rw [a] at h;exact absurd h (b l 0 w a)
theorem YT (l:List Nd) (nn:Bool) (i:∀ x ∈ l,x.sm) (k:bW l=0):CO 24 [.sl (bC l) l.length nn] (.ret (.tup [.sl (dA (eP l)) l.length true,.bool true])):=by
 have b:List.take l.length (dA (eP l))=dA (eP l):=List.take_of_length_le (by rw [vI];unfold eP;rw [J_];omega)
 suffices hown:CO 24 [.sl (bC l) l.length nn] (.ret (.tup [.own (dA (eP l)) l.length 1,.bool true])) by
  have h:=hown.thaw (by simp)
  simp only [zB,List.map_cons,List.map_nil,thaw,Nat.mul_one,b] at h
  exact h
 have e:=DR l nn i
 obtain ⟨n,d⟩:=NL k
 rw [k] at e
 have hloop:=fun nt (hn:45≤nt)=>YN hn l nn (by omega) 1 l [] [] [] rfl d (by simp) rfl
 have f:(eP l).length=l.length:=J_ l 0 []
 have h:=agt l nn 0 (dA (eP l))
 simp (disch:=first|omega|(simp [ax,ay]<;>omega)) only [dZ,bD,decide_true,eX,gm,W_,aJ,XE,Nat.mul_one,b] at h
 have j:(dA (eP l)).length=l.length:=by rw [vI,f]
 have o:l.length<1099511627776:=by omega
 apply h<;>first|exact True.intro|omega|assumption|exact rfl|skip
 intro nt c
 have g:=aI.blk (s:=Iu l nn (0,[],List.replicate l.length AV.nilS)) (s':=GU l (stR l 0 [],dA (eP l))) (id:=0) hloop (by simp) rfl (aO.refl _) (aO.refl _) nt c
 unfold Iu GU at g
 simp only [agE,agH] at g
 have a:=g.weak (s':=⟨[(0,.sl (bC l) l.length nn),(2,.nilS),(3,.bool false),(4,.ref 0 0 0 l.length),(5,.nilS),(6,.dead),(7,.dead),(8,.dead),(11,.bool false),(15,.sl (bC l) l.length nn),(16,.int .i64 (l.length:Int)),(17,.int .i64 0),(18,.dead)],[(0,⟨List.replicate l.length AV.nilS,0,false,0,1,true⟩)],.dead,[]⟩) (aO.of ⟨rfl,rfl,rfl,rfl,rfl,trivial⟩) (aO.refl _)
 rcases Decidable.em (stR l 0 []= []) with he|he
 ·rw [he] at a;exact a
 ·have m:=Ir he
  unfold agH at m
  rw [m] at a
  exact a.forget 1 _ (by intro v h;cases h) (by decide) rfl ⟨Fz.same rfl,trivial⟩ ⟨rfl,Nr.same rfl,by decide,rfl⟩
theorem nJ (k:Nat):decide (((0:Nat):Int)≤(k:Int))=true:=decide_eq_true (by omega)
theorem kR {k n:Nat} (h:k<n):decide ((k:Int)<(n:Int))=true:=decide_eq_true (by omega)
theorem B_ {k n:Nat} (h:n≤k):decide ((k:Int)<(n:Int))=false:=decide_eq_false (by omega)
def ixE:Option Nat→bI
 |none=> .exit 0
 |some _=> .ret
def ixI:Option Nat→Int
 |none=> -1
 |some i=>(i:Int)
theorem kL {p q:Prop} (h:p) (e:p=q):q:=e ▸ h
end Go.Proofs.Tryz
set_option maxRecDepth 100000
set_option linter.unusedVariables false
open Go AM
namespace Go.Proofs.Tryz
theorem alo {nt:Nat} (w:92≤nt) (u v o:List Nat) (i j c a x y:Nat) (h:AV.int .i64 (AV.toInt (List.headD (List.drop ((0+(Int.toNat (((i+j):Nat):Int)))*1) (aj o)) .dead))= .int .i64 (x:Int)) (f:AV.int .i64 (AV.toInt (List.headD (List.drop ((Int.toNat (i:Int))*1) (aj u)) .dead))= .int .i64 (a:Int)) (n:AV.int .i64 (AV.toInt (List.headD (List.drop ((Int.toNat (j:Int))*1) (aj v)) .dead))= .int .i64 (y:Int)) (k:AV.int .i64 (IntKind.wrap .i64 ((a:Int)*(y:Int)))= .int .i64 (((a*y):Nat):Int)) (g:AV.int .i64 (IntKind.wrap .i64 ((x:Int)+(((a*y):Nat):Int)))= .int .i64 (((x+a*y):Nat):Int)) (m:AV.int .i64 (IntKind.wrap .i64 ((((x+a*y):Nat):Int)+(c:Int)))= .int .i64 (((x+a*y+c):Nat):Int)) (d:AV.int .i64 (IntKind.wrap .i64 ((i:Int)+(j:Int)))= .int .i64 (((i+j):Nat):Int)) (e:AV.int .i64 (Int.tmod (((x+a*y+c):Nat):Int) ((16777216:Nat):Int))= .int .i64 ((((x+a*y+c) % 16777216):Nat):Int)) (p:AV.int .i64 (IntKind.wrap .i64 (Int.tdiv (((x+a*y+c):Nat):Int) ((16777216:Nat):Int)))= .int .i64 ((((x+a*y+c) / 16777216):Nat):Int)) (l:AV.int .i64 (IntKind.wrap .i64 ((j:Int)+((1:Nat):Int)))= .int .i64 (((j+1):Nat):Int)) (s:(Nat.ble (((0+(Int.toNat (((i+j):Nat):Int)))*1)+1) (List.length (aj o)))=true) (r:(decide (((0:Nat):Int)≤(((i+j):Nat):Int)))=true) (q:(decide ((((i+j):Nat):Int)<(o.length:Int)))=true) (A:(chk (.int .i64) (List.headD (List.drop ((Int.toNat (j:Int))*1) (aj v)) .dead))=true) (z:(decide (((0:Nat):Int)≤(j:Int)))=true) (B:(chk (.int .i64) (List.headD (List.drop ((Int.toNat (i:Int))*1) (aj u)) .dead))=true) (D:(decide (((0:Nat):Int)≤(i:Int)))=true) (t:(decide ((i:Int)<(u.length:Int)))=true) (C:(chk (.int .i64) (List.headD (List.drop ((0+(Int.toNat (((i+j):Nat):Int)))*1) (aj o)) .dead))=true) (b:(decide ((j:Int)<(v.length:Int)))=true):au prog ap [] nt (af 2 (ah f100)) ⟨[(9,.sl (aj u) u.length false),(10,.sl (aj v) v.length false),(11,.ref 0 0 0 o.length),(12,.int .i64 (i:Int)),(13,.int .i64 (c:Int)),(14,.int .i64 (j:Int))],[(0,⟨(aj o),0,false,0,1,true⟩)],.dead,[]⟩ (.normal) ⟨[(9,.sl (aj u) u.length false),(10,.sl (aj v) v.length false),(11,.ref 0 0 0 o.length),(12,.int .i64 (i:Int)),(13,.int .i64 ((((x+a*y+c) / 16777216):Nat):Int)),(14,.int .i64 (((j+1):Nat):Int))],[(0,⟨(List.take ((0+(Int.toNat (((i+j):Nat):Int)))*1) (aj o)++ [.int .i64 ((((x+a*y+c) % 16777216):Nat):Int)]++List.drop (((0+(Int.toNat (((i+j):Nat):Int)))*1)+1) (aj o)),0,false,0,1,true⟩)],.dead,[]⟩:=pN 100 [] 1 1 (.k 1 s (.c r (.c q (.k 1 A (.c z (.c b (.c B (.c D (.c t (.c C (.c r (.c q (.c (aG b) .nil))))))))))))) (.v 55 (.eq l) (.v 82 (.eq p) (.v 79 (.eq e) (.v 77 (.eq d) (.v 73 (.eq m) (.v 71 (.eq g) (.v 70 (.eq k) (.v 69 (.eq n) (.v 65 (.eq f) (.v 61 (.eq h) (.v 59 (.eq d) .nil))))))))))) w
theorem alp {nt:Nat} (b:92≤nt) (u v o:List Nat) (i j c a x y:Nat) (d:(decide ((j:Int)<(v.length:Int)))=false):au prog ap [] nt (af 2 (ah f100)) ⟨[(9,.sl (aj u) u.length false),(10,.sl (aj v) v.length false),(11,.ref 0 0 0 o.length),(12,.int .i64 (i:Int)),(13,.int .i64 (c:Int)),(14,.int .i64 (j:Int))],[(0,⟨(aj o),0,false,0,1,true⟩)],.dead,[]⟩ (.exit 2) ⟨[(9,.sl (aj u) u.length false),(10,.sl (aj v) v.length false),(11,.ref 0 0 0 o.length),(12,.int .i64 (i:Int)),(13,.int .i64 (c:Int))],[(0,⟨(aj o),0,false,0,1,true⟩)],.dead,[]⟩:=pN 100 [] 1 0 (.c (aF d) .nil) (.nil) b
theorem alq {nt:Nat} (f:92≤nt) (u v o a:List Nat) (i d:Nat) (c:AV.int .i64 (IntKind.wrap .i64 ((i:Int)+(v.length:Int)))= .int .i64 (((i+v.length):Nat):Int)) (b:AV.int .i64 (IntKind.wrap .i64 ((i:Int)+((1:Nat):Int)))= .int .i64 (((i+1):Nat):Int)) (k:(Nat.ble (((0+(Int.toNat (((i+v.length):Nat):Int)))*1)+1) (List.length (aj a)))=true) (h:(decide (((0:Nat):Int)≤(((i+v.length):Nat):Int)))=true) (g:(decide ((((i+v.length):Nat):Int)<(a.length:Int)))=true) (j:(decide ((i:Int)<(u.length:Int)))=true) (e:aK prog ap [] 92 (.block 2 (.loop (af 2 (ah f100)))) ⟨[(0,.dead),(1,.dead),(4,.dead),(5,.dead),(6,.dead),(7,.dead),(8,.dead),(9,.sl (aj u) u.length false),(10,.sl (aj v) v.length false),(11,.ref 0 0 0 o.length),(12,.int .i64 (i:Int)),(13,.int .i64 0),(14,.int .i64 0),(15,.dead),(29,.dead),(47,.bool (decide ((i:Int)<(u.length:Int)))),(53,.dead)],[(0,⟨(aj o),0,false,0,1,true⟩)],.dead,[]⟩ (.normal) ⟨[(9,.sl (aj u) u.length false),(10,.sl (aj v) v.length false),(11,.ref 0 0 0 a.length),(12,.int .i64 (i:Int)),(13,.int .i64 (d:Int))],[(0,⟨(aj a),0,false,0,1,true⟩)],.dead,[]⟩):au prog ap [] nt (af 0 (ah f100)) ⟨[(9,.sl (aj u) u.length false),(10,.sl (aj v) v.length false),(11,.ref 0 0 0 o.length),(12,.int .i64 (i:Int))],[(0,⟨(aj o),0,false,0,1,true⟩)],.dead,[]⟩ (.normal) ⟨[(9,.sl (aj u) u.length false),(10,.sl (aj v) v.length false),(11,.ref 0 0 0 a.length),(12,.int .i64 (((i+1):Nat):Int))],[(0,⟨(List.take ((0+(Int.toNat (((i+v.length):Nat):Int)))*1) (aj a)++ [.int .i64 (d:Int)]++List.drop (((0+(Int.toNat (((i+v.length):Nat):Int)))*1)+1) (aj a)),0,false,0,1,true⟩)],.dead,[]⟩:=pN 100 [2] 1 1 (.c k (.c h (.c g (.c (aG j) .nil)))) (.v 49 (.eq b) (.v 87 (.eq c) (.l e .nil))) f
theorem alr {nt:Nat} (a:92≤nt) (u v o d:List Nat) (i c:Nat) (b:(decide ((i:Int)<(u.length:Int)))=false):au prog ap [] nt (af 0 (ah f100)) ⟨[(9,.sl (aj u) u.length false),(10,.sl (aj v) v.length false),(11,.ref 0 0 0 o.length),(12,.int .i64 (i:Int))],[(0,⟨(aj o),0,false,0,1,true⟩)],.dead,[]⟩ (.exit 0) ⟨[(11,.ref 0 0 0 o.length)],[(0,⟨(aj o),0,false,0,1,true⟩)],.dead,[]⟩:=pN 100 [] 1 0 (.c (aF b) .nil) (.nil) a
theorem alk (s t:List UInt8) (x y z:Nat) (a:List Nat) (e:(decide (((0:Nat):Int)≤(IntKind.wrap .i64 ((((ak (ag s)).length:Nat):Int)+(((ak (ag t)).length:Nat):Int)))))=true) (c:(decide ((IntKind.wrap .i64 ((((ak (ag s)).length:Nat):Int)+(((ak (ag t)).length:Nat):Int)))=(IntKind.wrap .i64 ((((ak (ag s)).length:Nat):Int)+(((ak (ag t)).length:Nat):Int)))))=true) (b:(decide ((IntKind.wrap .i64 ((((ak (ag s)).length:Nat):Int)+(((ak (ag t)).length:Nat):Int)))≤((1099511627776:Nat):Int)))=true) (f:CO 134 [.str s,.int .i64 3] (.ret (.tup [.int .i64 (x:Int),.bool true]))) (h:CO 134 [.str t,.int .i64 4] (.ret (.tup [.int .i64 (y:Int),.bool false]))) (d:CO 135 [.str s] (.ret (.sl (aj (ak (ag s))) (ak (ag s)).length false))) (j:CO 135 [.str t] (.ret (.sl (aj (ak (ag t))) (ak (ag t)).length false))) (g:CO 136 [.sl (List.take (a.length*1) (aj a)) a.length true] (.ret (.str (ae z)))) (i:aK prog ap [] 92 (.block 0 (.loop (af 0 (ah f100)))) ⟨[(0,.str s),(1,.str t),(4,.str []),(5,.int .i64 (x:Int)),(6,.bool true),(7,.int .i64 (y:Int)),(8,.bool false),(9,.sl (aj (ak (ag s))) (ak (ag s)).length false),(10,.sl (aj (ak (ag t))) (ak (ag t)).length false),(11,.ref 0 0 0 (Int.toNat (IntKind.wrap .i64 ((((ak (ag s)).length:Nat):Int)+(((ak (ag t)).length:Nat):Int))))),(12,.int .i64 0),(13,.dead),(14,.dead),(15,.dead),(29,.bool false),(47,.dead),(53,.dead)],[(0,⟨(f_ (Int.toNat (IntKind.wrap .i64 ((((ak (ag s)).length:Nat):Int)+(((ak (ag t)).length:Nat):Int)))) [.int .i64 0]),0,false,0,1,true⟩)],.dead,[]⟩ (.normal) ⟨[(11,.ref 0 0 0 a.length)],[(0,⟨(aj a),0,false,0,1,true⟩)],.dead,[]⟩):CO 100 [.str s,.str t] (.ret (.str (ae z))):=pK [0] 2 1 (.c e (.c c (.c b (.n 2 .nil)))) (.c g (.l i (.c j (.c d (.c h (.c f .nil))))))
theorem alm (s t:List UInt8) (x y z:Nat) (a:List Nat) (e:(decide (((0:Nat):Int)≤(IntKind.wrap .i64 ((((ak (ag s)).length:Nat):Int)+(((ak (ag t)).length:Nat):Int)))))=true) (c:(decide ((IntKind.wrap .i64 ((((ak (ag s)).length:Nat):Int)+(((ak (ag t)).length:Nat):Int)))=(IntKind.wrap .i64 ((((ak (ag s)).length:Nat):Int)+(((ak (ag t)).length:Nat):Int)))))=true) (b:(decide ((IntKind.wrap .i64 ((((ak (ag s)).length:Nat):Int)+(((ak (ag t)).length:Nat):Int)))≤((1099511627776:Nat):Int)))=true) (f:CO 134 [.str s,.int .i64 3] (.ret (.tup [.int .i64 (x:Int),.bool false]))) (h:CO 134 [.str t,.int .i64 4] (.ret (.tup [.int .i64 (y:Int),.bool true]))) (d:CO 135 [.str s] (.ret (.sl (aj (ak (ag s))) (ak (ag s)).length false))) (j:CO 135 [.str t] (.ret (.sl (aj (ak (ag t))) (ak (ag t)).length false))) (g:CO 136 [.sl (List.take (a.length*1) (aj a)) a.length true] (.ret (.str (ae z)))) (i:aK prog ap [] 92 (.block 0 (.loop (af 0 (ah f100)))) ⟨[(0,.str s),(1,.str t),(4,.str []),(5,.int .i64 (x:Int)),(6,.bool false),(7,.int .i64 (y:Int)),(8,.bool true),(9,.sl (aj (ak (ag s))) (ak (ag s)).length false),(10,.sl (aj (ak (ag t))) (ak (ag t)).length false),(11,.ref 0 0 0 (Int.toNat (IntKind.wrap .i64 ((((ak (ag s)).length:Nat):Int)+(((ak (ag t)).length:Nat):Int))))),(12,.int .i64 0),(13,.dead),(14,.dead),(15,.dead),(29,.bool false),(47,.dead),(53,.dead)],[(0,⟨(f_ (Int.toNat (IntKind.wrap .i64 ((((ak (ag s)).length:Nat):Int)+(((ak (ag t)).length:Nat):Int)))) [.int .i64 0]),0,false,0,1,true⟩)],.dead,[]⟩ (.normal) ⟨[(11,.ref 0 0 0 a.length)],[(0,⟨(aj a),0,false,0,1,true⟩)],.dead,[]⟩):CO 100 [.str s,.str t] (.ret (.str (ae z))):=pK [0] 2 0 (.c e (.c c (.c b (.n 2 .nil)))) (.c g (.l i (.c j (.c d (.c h (.c f .nil))))))
theorem aln (s t:List UInt8) (x y z:Nat) (a:List Nat) (e:(decide (((0:Nat):Int)≤(IntKind.wrap .i64 ((((ak (ag s)).length:Nat):Int)+(((ak (ag t)).length:Nat):Int)))))=true) (c:(decide ((IntKind.wrap .i64 ((((ak (ag s)).length:Nat):Int)+(((ak (ag t)).length:Nat):Int)))=(IntKind.wrap .i64 ((((ak (ag s)).length:Nat):Int)+(((ak (ag t)).length:Nat):Int)))))=true) (b:(decide ((IntKind.wrap .i64 ((((ak (ag s)).length:Nat):Int)+(((ak (ag t)).length:Nat):Int)))≤((1099511627776:Nat):Int)))=true) (f:CO 134 [.str s,.int .i64 3] (.ret (.tup [.int .i64 (x:Int),.bool false]))) (h:CO 134 [.str t,.int .i64 4] (.ret (.tup [.int .i64 (y:Int),.bool false]))) (d:CO 135 [.str s] (.ret (.sl (aj (ak (ag s))) (ak (ag s)).length false))) (j:CO 135 [.str t] (.ret (.sl (aj (ak (ag t))) (ak (ag t)).length false))) (g:CO 136 [.sl (List.take (a.length*1) (aj a)) a.length true] (.ret (.str (ae z)))) (i:aK prog ap [] 92 (.block 0 (.loop (af 0 (ah f100)))) ⟨[(0,.str s),(1,.str t),(4,.str []),(5,.int .i64 (x:Int)),(6,.bool false),(7,.int .i64 (y:Int)),(8,.bool false),(9,.sl (aj (ak (ag s))) (ak (ag s)).length false),(10,.sl (aj (ak (ag t))) (ak (ag t)).length false),(11,.ref 0 0 0 (Int.toNat (IntKind.wrap .i64 ((((ak (ag s)).length:Nat):Int)+(((ak (ag t)).length:Nat):Int))))),(12,.int .i64 0),(13,.dead),(14,.dead),(15,.dead),(29,.bool false),(47,.dead),(53,.dead)],[(0,⟨(f_ (Int.toNat (IntKind.wrap .i64 ((((ak (ag s)).length:Nat):Int)+(((ak (ag t)).length:Nat):Int)))) [.int .i64 0]),0,false,0,1,true⟩)],.dead,[]⟩ (.normal) ⟨[(11,.ref 0 0 0 a.length)],[(0,⟨(aj a),0,false,0,1,true⟩)],.dead,[]⟩):CO 100 [.str s,.str t] (.ret (.str (ae z))):=pK [0] 2 0 (.c e (.c c (.c b (.n 2 .nil)))) (.c g (.l i (.c j (.c d (.c h (.c f .nil))))))
def Gi (a:Nat):List Nat→List Nat→Nat→List Nat × Nat
 |x::m,y::v,c=>((x+a*y+c) % 16777216::(Gi a m v ((x+a*y+c) / 16777216)).1,(Gi a m v ((x+a*y+c) / 16777216)).2)
 |_,_,c=>([],c)
theorem LD {a x y c:Nat} (f:a<16777216) (b:x<16777216) (g:y<16777216) (d:c<16777216):a*y<281474976710656∧x+a*y+c<281474976710656∧(x+a*y+c) / 16777216<16777216:=by
 have e:a*y≤16777215*16777215:=Nat.mul_le_mul (by omega) (by omega)
 omega
theorem Ji {a:Nat} (b:a<16777216):∀ (m v:List Nat) (c:Nat),m.length=v.length→c<16777216→a_ m→a_ v→(Gi a m v c).2<16777216∧a_ (Gi a m v c).1∧(Gi a m v c).1.length=v.length∧cZ (Gi a m v c).1+16777216^v.length*(Gi a m v c).2=cZ m+a*cZ v+c
 | [],[],c,_,hc,_,_=> ⟨hc,a_.nil,rfl,by simp [Gi,cZ]⟩
 |x::m,y::v,c,hl,hc,hm,hv=>by
  obtain ⟨_,_,e⟩:=LD b hm.head hv.head hc
  obtain ⟨f,g,d,i⟩:=Ji b m v _ (by simpa using hl) e hm.tail hv.tail
  simp only [Gi]
  refine ⟨f,a_.cons (Nat.mod_lt _ (by omega)) g,by simp [d], ?_⟩
  simp only [cZ,List.length_cons,Nat.pow_succ]
  rw [Nat.mul_comm (16777216^v.length),Nat.mul_assoc,Nat.mul_add,Nat.mul_left_comm a]
  omega
 | [],_::_,_,h,_,_,_=>by simp at h
 |_::_,[],_,h,_,_,_=>by simp at h
def UN (v:List Nat):List Nat→List Nat→List Nat
 | [],m=>m
 |a::u,m=>((Gi a m v 0).1++ [(Gi a m v 0).2]).headD 0::UN v u ((Gi a m v 0).1++ [(Gi a m v 0).2]).tail
theorem I4 (l:List Nat) (y:Nat):∃ z m,l++ [y]=z::m∧m.length=l.length:=by
 cases l with
 |nil=>exact ⟨y,[],rfl,rfl⟩
 |cons b l=>exact ⟨b,l++ [y],rfl,by simp⟩
theorem QF {v:List Nat} (d:a_ v):∀ (u m:List Nat),a_ u→a_ m→m.length=v.length→a_ (UN v u m)∧(UN v u m).length=u.length+v.length∧cZ (UN v u m)=cZ m+cZ u*cZ v
 | [],m,_,hm,hl=> ⟨hm,by simp [UN,hl],by simp [UN,cZ]⟩
 | a::u,m,hu,hm,hl=>by
  obtain ⟨h,g,j,o⟩:=Ji hu.head m v 0 hl (by omega) hm d
  obtain ⟨z,b,c,n⟩:=I4 (Gi a m v 0).1 (Gi a m v 0).2
  have e:a_ (z::b):=by rw [← c];exact a_.app g (a_.cons h a_.nil)
  have k:cZ (z::b)=cZ m+a*cZ v:=by
   rw [← c,zJ,j];simp only [cZ];omega
  simp only [UN,c,List.headD_cons,List.tail_cons]
  obtain ⟨i,l,f⟩:=QF d u b hu.tail e.tail (by omega)
  refine ⟨a_.cons e.head i,by simp [l];omega, ?_⟩
  simp only [cZ] at k ⊢
  rw [f,Nat.add_mul,Nat.mul_add,Nat.mul_assoc]
  omega
def aim (u v:List Nat) (i:Nat) (p:Nat × List Nat × Nat):St:=⟨[(9,.sl (aj u) u.length false),(10,.sl (aj v) v.length false),(11,.ref 0 0 0 p.2.1.length),(12,.int .i64 (i:Int)),(13,.int .i64 (p.2.2:Int)),(14,.int .i64 (p.1:Int))],[(0,⟨aj p.2.1,0,false,0,1,true⟩)],.dead,[]⟩
def alE (u v:List Nat) (i:Nat) (p:List Nat × Nat):St:=⟨[(9,.sl (aj u) u.length false),(10,.sl (aj v) v.length false),(11,.ref 0 0 0 p.1.length),(12,.int .i64 (i:Int)),(13,.int .i64 (p.2:Int))],[(0,⟨aj p.1,0,false,0,1,true⟩)],.dead,[]⟩
theorem XY {p s:List Nat} {x y k:Nat} (h:k=p.length):List.take ((0+(Int.toNat (k:Int)))*1) (aj (p++x::s))++ [AV.int .i64 (y:Int)]++List.drop (((0+(Int.toNat (k:Int)))*1)+1) (aj (p++x::s))=aj (p++y::s):=by
 rw [Nat.zero_add,Nat.mul_one,aJ,Qo (by rw [h];simp)]
 subst h
 simp
theorem aes {p s:List Nat} {x k:Nat} (h:k=p.length):(List.headD (List.drop ((0+(Int.toNat (k:Int)))*1) (aj (p++x::s))) .dead)= .int .i64 (x:Int):=by
 rw [Nat.zero_add,Nat.mul_one,aJ];exact Qn h
theorem Qk {p s:List Nat} {x k:Nat} (h:k=p.length):(List.headD (List.drop ((Int.toNat (k:Int))*1) (aj (p++x::s))) .dead)= .int .i64 (x:Int):=by
 rw [Nat.mul_one,aJ];exact Qn h
theorem RH {a b:Nat} (h:a+b<9223372036854775808):AV.int .i64 (IntKind.wrap .i64 ((a:Int)+(b:Int)))= .int .i64 ((a+b:Nat):Int):=by
 rw [dC,bf h]
theorem aab {nt:Nat} (o:92≤nt) (u u1 u2 v:List Nat) (a:Nat) (n:u=u1++a::u2) (T:a<16777216) (P:a_ v) (F:u.length<2^36) (K:v.length<2^36):∀ (w m b d pp z:List Nat) (c:Nat),b++w=v→m.length=w.length→d.length=b.length→pp.length=u1.length→a_ m→c<16777216→
  aI prog ap [] nt (af 2 (ah f100)) (fun _=> .exit 2) (aim u v u1.length) (alE u v u1.length) (b.length,pp++d++m++z,c) (pp++d++(Gi a m w c).1++z,(Gi a m w c).2):=by
 intro w
 induction w with
 |nil=>
  intro m b d pp z c f g q t l A
  have S:m= []:=List.length_eq_zero_iff.1 (by simpa using g)
  subst S
  have k:b=v:=by simpa using f
  simp only [Gi]
  exact .done (alp o u v _ _ _ _ 0 0 0 (by rw [k];exact decide_eq_false (by omega)))
 | cons y w ih=>
  intro m b d pp z c f g q t l A
  cases m with
  |nil=>simp at g
  | cons x m=>
   have L:b.length+(w.length+1)=v.length:=by rw [← f];simp
   have D:u1.length+(u2.length+1)=u.length:=by rw [n];simp
   have I:y<16777216:=P y (by rw [← f];simp)
   obtain ⟨X,W,M⟩:=LD T l.head I A
   have e:=ih m (b++ [y]) (d++ [(x+a*y+c) % 16777216]) pp z ((x+a*y+c) / 16777216) (by simp [f]) (by simpa using g) (by simp [q]) t l.tail M
   simp only [Gi]
   rw [List.length_append,List.length_singleton] at e
   have Q:pp++d++x::m++z=(pp++d)++x::(m++z):=by simp
   have U:pp++(d++ [(x+a*y+c) % 16777216])++m++z=(pp++d)++(x+a*y+c) % 16777216::(m++z):=by simp
   have R:pp++(d++ [(x+a*y+c) % 16777216])++(Gi a m w ((x+a*y+c) / 16777216)).1++z=pp++d++(x+a*y+c) % 16777216::(Gi a m w ((x+a*y+c) / 16777216)).1++z:=by simp
   rw [R] at e
   refine .next ?_ e
   have B:u1.length+b.length=(pp++d).length:=by rw [List.length_append];omega
   have r:((pp++d)++x::(m++z)).length=(pp++d).length+(m++z).length+1:=by simp;omega
   have hlen2:((pp++d)++(x+a*y+c) % 16777216::(m++z)).length=((pp++d)++x::(m++z)).length:=by simp
   have O:=aes (p:=pp++d) (s:=m++z) (x:=x) B
   have E:(List.headD (List.drop ((Int.toNat (u1.length:Int))*1) (aj u)) .dead)= .int .i64 (a:Int):=by rw [n];exact Qk rfl
   have N:(List.headD (List.drop ((Int.toNat (b.length:Int))*1) (aj v)) .dead)= .int .i64 (y:Int):=by rw [← f];exact Qk rfl
   have G:=XY (p:=pp++d) (s:=m++z) (x:=x) (y:=(x+a*y+c) % 16777216) B
   unfold aim
   simp only [Q,U,hlen2]
   have hs:=alo o u v ((pp++d)++x::(m++z)) u1.length b.length c a x y
   rw [G,O,E,N] at hs
   have i:u1.length<u.length:=by omega
   have j:b.length<v.length:=by omega
   have h:u1.length+b.length<((pp++d)++x::(m++z)).length:=by omega
   have J:AV.int .i64 (Int.tmod (((x+a*y+c):Nat):Int) ((16777216:Nat):Int))= .int .i64 ((((x+a*y+c) % 16777216):Nat):Int):=by rw [um]
   have V:AV.int .i64 (IntKind.wrap .i64 (Int.tdiv (((x+a*y+c):Nat):Int) ((16777216:Nat):Int)))= .int .i64 ((((x+a*y+c) / 16777216):Nat):Int):=by rw [rQ,bf (by omega)]
   have H:AV.int .i64 (IntKind.wrap .i64 ((a:Int)*(y:Int)))= .int .i64 ((a*y:Nat):Int):=by rw [RG (by omega)]
   have C:Nat.ble (((0+(Int.toNat (((u1.length+b.length):Nat):Int)))*1)+1) (List.length (aj ((pp++d)++x::(m++z))))=true:=by
    rw [Nat.ble_eq,aJ,bZ];omega
   apply hs<;>first|exact rfl|exact RH (by omega)|exact J|exact V|exact H|exact C|exact nJ _|exact kR i|exact kR j|exact kR h
def WW (u v:List Nat) (p:Nat × List Nat):St:=⟨[(9,.sl (aj u) u.length false),(10,.sl (aj v) v.length false),(11,.ref 0 0 0 p.2.length),(12,.int .i64 (p.1:Int))],[(0,⟨aj p.2,0,false,0,1,true⟩)],.dead,[]⟩
def aeO (o:List Nat):St:=⟨[(11,.ref 0 0 0 o.length)],[(0,⟨aj o,0,false,0,1,true⟩)],.dead,[]⟩
theorem Xq {nt:Nat} (g:92≤nt) (u v:List Nat) (d:a_ u) (A:a_ v) (h:u.length<2^36) (k:v.length<2^36):∀ (u2 u1 m pp:List Nat),u1++u2=u→m.length=v.length→pp.length=u1.length→a_ m→
  aI prog ap [] nt (af 0 (ah f100)) (fun _=> .exit 0) (WW u v) aeO (u1.length,pp++m++List.replicate u2.length 0) (pp++UN v u2 m):=by
 intro u2
 induction u2 with
 |nil=>
  intro u1 m pp c q o t
  have l:u1=u:=by simpa using c
  simp only [UN,List.length_nil,List.replicate_zero,List.append_nil]
  exact .done (alr g u v _ [] _ 0 (by rw [l];exact decide_eq_false (by omega)))
 | cons a u2 ih=>
  intro u1 m pp c q o t
  have D:u1.length+(u2.length+1)=u.length:=by rw [← c];simp
  have B:a<16777216:=d a (by rw [← c];simp)
  obtain ⟨G,E,N,M⟩:=Ji B m v 0 q (by omega) t A
  have j:=fun nt (g:92≤nt)=>aab g u u1 u2 v a c.symm B A h k v m [] [] pp (List.replicate (u2.length+1) 0) 0 rfl q rfl o t (by omega)
  simp only [UN]
  generalize Gi a m v 0=r at*
  obtain ⟨z,f,w,O⟩:=I4 r.1 r.2
  have H:a_ (z::f):=by rw [← w];exact a_.app E (a_.cons G a_.nil)
  have b:=ih (u1++ [a]) f (pp++ [z]) (by simp [c]) (by omega) (by simp [o]) H.tail
  simp only [w,List.headD_cons,List.tail_cons]
  rw [List.length_append,List.length_singleton] at b
  have J:pp++ [z]++UN v u2 f=pp++z::UN v u2 f:=by simp
  rw [J] at b
  refine .next ?_ b
  rw [List.append_nil] at j
  have K:u1.length+v.length=(pp++r.1).length:=by rw [List.length_append];omega
  have I:pp++r.1++List.replicate (u2.length+1) 0=(pp++r.1)++0::List.replicate u2.length 0:=by rw [List.replicate_succ]
  have L:pp++ [z]++f++List.replicate u2.length 0=(pp++r.1)++r.2::List.replicate u2.length 0:=by
   rw [List.append_assoc pp,List.singleton_append,← w];simp
  have F:=XY (p:=pp++r.1) (s:=List.replicate u2.length 0) (x:=0) (y:=r.2) K
  rw [I] at j
  have e:((pp++r.1)++0::List.replicate u2.length 0).length=((pp++r.1)++r.2::List.replicate u2.length 0).length:=by simp
  have hlen2:((pp++r.1)++0::List.replicate u2.length 0).length=(pp++r.1).length+u2.length+1:=by simp;omega
  have hs:=alq g u v (pp++m++List.replicate (u2.length+1) 0) ((pp++r.1)++0::List.replicate u2.length 0) u1.length r.2
  rw [F] at hs
  have n:u1.length<u.length:=by omega
  have i:u1.length+v.length<((pp++r.1)++0::List.replicate u2.length 0).length:=by omega
  have C:Nat.ble (((0+(Int.toNat (((u1.length+v.length):Nat):Int)))*1)+1) (List.length (aj ((pp++r.1)++0::List.replicate u2.length 0)))=true:=by
   rw [Nat.ble_eq,aJ,bZ];omega
  unfold WW
  simp only [L,List.length_cons]
  rw [← e]
  apply hs<;>first|exact RH (by omega)|exact C|exact nJ _|exact kR n|exact kR i|skip
  exact aI.blk j (by simp) rfl (aO.of ⟨rfl,rfl,rfl,rfl,rfl,rfl,trivial⟩) (aO.refl _)
theorem xg {s:List UInt8} (h:s.length<2^35):(ak (ag s)).length<2^35:=by
 have a:(ak (ag s)).length≤s.length:=rW (Nat.lt_of_lt_of_le (kN s) (by rw [Nat.pow_mul];exact Nat.pow_le_pow_left (by decide) _))
 omega
theorem TG (s t:List UInt8) (hs:s.length<2^35) (e:t.length<2^35):∃ o3:List Nat,o3.length<2^36∧a_ o3∧cZ o3=ag s*ag t∧∀ nt,92≤nt→aI prog ap [] nt (af 0 (ah f100)) (fun _=> .exit 0) (WW (ak (ag s)) (ak (ag t))) aeO (0,List.replicate ((ak (ag s)).length+(ak (ag t)).length) 0) o3:=by
 have g:=xg hs
 have f:=xg e
 obtain ⟨d,c,b⟩:=QF (a_.dig (ag t)) (ak (ag s)) (List.replicate (ak (ag t)).length 0) (a_.dig _) (a_.zeros _) (by simp)
 refine ⟨_,by rw [c];omega,d, ?_,fun nt a=> ?_⟩
 ·rw [b,PD,eG,eG,Nat.zero_add]
 ·have:=Xq a (ak (ag s)) (ak (ag t)) (a_.dig _) (a_.dig _) (by omega) (by omega) (ak (ag s)) [] (List.replicate (ak (ag t)).length 0) [] rfl (by simp) rfl (a_.zeros _)
  rw [List.nil_append,List.nil_append,List.replicate_append_replicate,Nat.add_comm] at this
  exact this
theorem WV (s t:List UInt8) (hs:s.length<2^35) (n:t.length<2^35):CO 100 [.str s,.str t] (.ret (.str (ae (ag s*ag t)))):=by
 obtain ⟨a,x,w,A,y⟩:=TG s t hs n
 have C:=xg hs
 have B:=xg n
 have i:=BL s (by omega)
 have h:=BL t (by omega)
 have d:=uP a true x w
 rw [A] at d
 have j:List.take (a.length*1) (aj a)=aj a:=by rw [Nat.mul_one,dI,List.take_length]
 rw [← j] at d
 have v:IntKind.wrap .i64 ((((ak (ag s)).length:Nat):Int)+(((ak (ag t)).length:Nat):Int))=(((ak (ag s)).length+(ak (ag t)).length:Nat):Int):=by
  rw [dC,bf (by omega)]
 have q:=alk s t (ag s) 0 (ag s*ag t) a
 have m:=alm s t 0 (ag t) (ag s*ag t) a
 have u:=aln s t 0 0 (ag s*ag t) a
 rw [v,aJ,JE] at q m u
 have k:=decide_eq_true (p:=((0:Nat):Int)≤(((ak (ag s)).length+(ak (ag t)).length:Nat):Int)) (by omega)
 have l:=decide_eq_true (p:=(((ak (ag s)).length+(ak (ag t)).length:Nat):Int)=(((ak (ag s)).length+(ak (ag t)).length:Nat):Int)) rfl
 have g:=decide_eq_true (p:=(((ak (ag s)).length+(ak (ag t)).length:Nat):Int)≤((1099511627776:Nat):Int)) (by omega)
 have c:=aI.blk (s:=WW (ak (ag s)) (ak (ag t)) (0,List.replicate ((ak (ag s)).length+(ak (ag t)).length) 0)) (s':=aeO a) (id:=0) y (by simp) rfl (aO.refl _) (aO.refl _)
 have z:((ak (ag s)).length+(ak (ag t)).length)=(List.replicate ((ak (ag s)).length+(ak (ag t)).length) 0).length:=by rw [List.length_replicate]
 unfold WW at c
 simp only [← z] at c
 rcases Nat.lt_or_ge (ag s) (2^(8*3)) with c1|c1
 ·have f:=gG s 3 (by omega) (by omega) c1
  rcases Nat.lt_or_ge (ag t) (2^(8*4)) with c2|c2
  ·have b:=gG t 4 (by omega) (by omega) c2
   have o:ag s*ag t<9223372036854775808:=Nat.lt_of_le_of_lt (Nat.mul_le_mul (show ag s≤16777215 by omega) (show ag t≤4294967295 by omega)) (by omega)
   have r:=lC (ag s*ag t) o
   rw [← RG o] at r
   exact afD s t _ _ _ f b r
  ·have b:=kK t 4 (by omega) c2
   exact q k l g f b i h d fun nt e=>(c nt e).weak (aO.of ⟨rfl,rfl,rfl,rfl,trivial⟩) (aO.refl _)
 ·have f:=kK s 3 (by omega) c1
  rcases Nat.lt_or_ge (ag t) (2^(8*4)) with c2|c2
  ·have b:=gG t 4 (by omega) (by omega) c2
   exact m k l g f b i h d fun nt e=>(c nt e).weak (aO.of ⟨rfl,rfl,rfl,rfl,trivial⟩) (aO.refl _)
  ·have b:=kK t 4 (by omega) c2
   exact u k l g f b i h d fun nt e=>(c nt e).weak (aO.of ⟨rfl,rfl,rfl,rfl,trivial⟩) (aO.refl _)
theorem alM {nt:Nat} (B:68≤nt) (u v o:List Nat) (t d:Bool) (i j c a x y:Nat) (l:AV.int .u32 (AV.toInt (List.headD (List.drop ((Int.toNat (j:Int))*1) (ai v)) .dead))= .int .u32 (y:Int)) (f:AV.int .u64 (IntKind.wrap .u64 (a:Int))= .int .u64 (a:Int)) (e:AV.int .u64 (IntKind.wrap .u64 (y:Int))= .int .u64 (y:Int)) (k:AV.int .u64 (IntKind.wrap .u64 ((a:Int)*(y:Int)))= .int .u64 (((a*y):Nat):Int)) (r:AV.int .u32 (AV.toInt (List.headD (List.drop ((0+(Int.toNat (((i+j):Nat):Int)))*1) (ai o)) .dead))= .int .u32 (x:Int)) (h:AV.int .u64 (IntKind.wrap .u64 (x:Int))= .int .u64 (x:Int)) (n:AV.int .u64 (IntKind.wrap .u64 ((((a*y):Nat):Int)+(x:Int)))= .int .u64 (((a*y+x):Nat):Int)) (p:AV.int .u64 (IntKind.wrap .u64 ((((a*y+x):Nat):Int)+(c:Int)))= .int .u64 (((a*y+x+c):Nat):Int)) (b:AV.int .i64 (IntKind.wrap .i64 ((i:Int)+(j:Int)))= .int .i64 (((i+j):Nat):Int)) (m:AV.int .u32 (IntKind.wrap .u32 (((a*y+x+c):Nat):Int))= .int .u32 ((((a*y+x+c) % 4294967296):Nat):Int)) (q:AV.int .u64 (Int.fdiv (((a*y+x+c):Nat):Int) (2^(min 32 64)))= .int .u64 ((((a*y+x+c) / 4294967296):Nat):Int)) (g:AV.int .i64 (IntKind.wrap .i64 ((j:Int)+((1:Nat):Int)))= .int .i64 (((j+1):Nat):Int)) (A:(Nat.ble (((0+(Int.toNat (((i+j):Nat):Int)))*1)+1) (List.length (ai o)))=true) (w:(decide (((0:Nat):Int)≤(((i+j):Nat):Int)))=true) (s:(decide ((((i+j):Nat):Int)<(o.length:Int)))=true) (D:(chk (.int .u32) (List.headD (List.drop ((0+(Int.toNat (((i+j):Nat):Int)))*1) (ai o)) .dead))=true) (C:(chk (.int .u32) (List.headD (List.drop ((Int.toNat (j:Int))*1) (ai v)) .dead))=true) (E:(decide (((0:Nat):Int)≤(j:Int)))=true) (z:(decide ((j:Int)<(v.length:Int)))=true):au prog ap [] nt (af 2 (ah f201)) ⟨[(1,.sl (ai v) v.length d),(5,.ref 0 0 0 o.length),(6,.int .i64 (i:Int)),(7,.int .u32 (a:Int)),(8,.int .u64 (c:Int)),(18,.sl (ai u) u.length t),(19,.int .i64 (u.length:Int)),(20,.int .i64 (i:Int)),(25,.sl (ai v) v.length d),(26,.int .i64 (v.length:Int)),(27,.int .i64 (j:Int))],[(0,⟨(ai o),0,false,0,1,true⟩)],.dead,[]⟩ (.normal) ⟨[(1,.sl (ai v) v.length d),(5,.ref 0 0 0 o.length),(6,.int .i64 (i:Int)),(7,.int .u32 (a:Int)),(8,.int .u64 ((((a*y+x+c) / 4294967296):Nat):Int)),(18,.sl (ai u) u.length t),(19,.int .i64 (u.length:Int)),(20,.int .i64 (i:Int)),(25,.sl (ai v) v.length d),(26,.int .i64 (v.length:Int)),(27,.int .i64 (((j+1):Nat):Int))],[(0,⟨(List.take ((0+(Int.toNat (((i+j):Nat):Int)))*1) (ai o)++ [.int .u32 ((((a*y+x+c) % 4294967296):Nat):Int)]++List.drop (((0+(Int.toNat (((i+j):Nat):Int)))*1)+1) (ai o)),0,false,0,1,true⟩)],.dead,[]⟩:=pN 201 [] 1 1 (.c A (.c w (.c s (.k 1 D (.c w (.c s (.c C (.c E (.c z (.c (aG z) .nil)))))))))) (.v 56 (.eq g) (.v 54 (.eq q) (.v 52 (.eq m) (.v 50 (.eq b) (.v 46 (.eq p) (.v 44 (.eq n) (.v 43 (.eq h) (.v 42 (.eq r) (.v 40 (.eq b) (.v 36 (.eq k) (.v 35 (.eq e) (.v 33 (.eq f) (.v 31 (.eq l) .nil))))))))))))) B
theorem alN {nt:Nat} (e:68≤nt) (u v o:List Nat) (d b:Bool) (i j c a x y:Nat) (f:(decide ((j:Int)<(v.length:Int)))=false):au prog ap [] nt (af 2 (ah f201)) ⟨[(1,.sl (ai v) v.length b),(5,.ref 0 0 0 o.length),(6,.int .i64 (i:Int)),(7,.int .u32 (a:Int)),(8,.int .u64 (c:Int)),(18,.sl (ai u) u.length d),(19,.int .i64 (u.length:Int)),(20,.int .i64 (i:Int)),(25,.sl (ai v) v.length b),(26,.int .i64 (v.length:Int)),(27,.int .i64 (j:Int))],[(0,⟨(ai o),0,false,0,1,true⟩)],.dead,[]⟩ (.exit 2) ⟨[(1,.sl (ai v) v.length b),(5,.ref 0 0 0 o.length),(6,.int .i64 (i:Int)),(8,.int .u64 (c:Int)),(18,.sl (ai u) u.length d),(19,.int .i64 (u.length:Int)),(20,.int .i64 (i:Int))],[(0,⟨(ai o),0,false,0,1,true⟩)],.dead,[]⟩:=pN 201 [] 1 0 (.c (aF f) .nil) (.nil) e
theorem alO {nt:Nat} (m:68≤nt) (u v o b:List Nat) (e c:Bool) (i a d:Nat) (f:AV.int .u32 (AV.toInt (List.headD (List.drop ((Int.toNat (i:Int))*1) (ai u)) .dead))= .int .u32 (a:Int)) (g:AV.int .i64 (IntKind.wrap .i64 ((i:Int)+(v.length:Int)))= .int .i64 (((i+v.length):Nat):Int)) (h:AV.int .u32 (IntKind.wrap .u32 (d:Int))= .int .u32 (d:Int)) (j:AV.int .i64 (IntKind.wrap .i64 ((i:Int)+((1:Nat):Int)))= .int .i64 (((i+1):Nat):Int)) (l:(Nat.ble (((0+(Int.toNat (((i+v.length):Nat):Int)))*1)+1) (List.length (ai b)))=true) (s:(decide (((0:Nat):Int)≤(((i+v.length):Nat):Int)))=true) (n:(decide ((((i+v.length):Nat):Int)<(b.length:Int)))=true) (q:(chk (.int .u32) (List.headD (List.drop ((Int.toNat (i:Int))*1) (ai u)) .dead))=true) (p:(decide (((0:Nat):Int)≤(i:Int)))=true) (k:(decide ((i:Int)<(u.length:Int)))=true) (r:aK prog ap [] 68 (.block 2 (.loop (af 2 (ah f201)))) ⟨[(0,.dead),(1,.sl (ai v) v.length c),(4,.dead),(5,.ref 0 0 0 o.length),(6,.int .i64 (i:Int)),(7,.int .u32 (a:Int)),(8,.int .u64 0),(9,.dead),(10,.dead),(11,.dead),(18,.sl (ai u) u.length e),(19,.int .i64 (u.length:Int)),(20,.int .i64 (i:Int)),(21,.bool (decide ((i:Int)<(u.length:Int)))),(25,.sl (ai v) v.length c),(26,.int .i64 (v.length:Int)),(27,.int .i64 0),(28,.dead)],[(0,⟨(ai o),0,false,0,1,true⟩)],.dead,[]⟩ (.normal) ⟨[(1,.sl (ai v) v.length c),(5,.ref 0 0 0 b.length),(6,.int .i64 (i:Int)),(8,.int .u64 (d:Int)),(18,.sl (ai u) u.length e),(19,.int .i64 (u.length:Int)),(20,.int .i64 (i:Int))],[(0,⟨(ai b),0,false,0,1,true⟩)],.dead,[]⟩):au prog ap [] nt (af 0 (ah f201)) ⟨[(1,.sl (ai v) v.length c),(5,.ref 0 0 0 o.length),(18,.sl (ai u) u.length e),(19,.int .i64 (u.length:Int)),(20,.int .i64 (i:Int))],[(0,⟨(ai o),0,false,0,1,true⟩)],.dead,[]⟩ (.normal) ⟨[(1,.sl (ai v) v.length c),(5,.ref 0 0 0 b.length),(18,.sl (ai u) u.length e),(19,.int .i64 (u.length:Int)),(20,.int .i64 (((i+1):Nat):Int))],[(0,⟨(List.take ((0+(Int.toNat (((i+v.length):Nat):Int)))*1) (ai b)++ [.int .u32 (d:Int)]++List.drop (((0+(Int.toNat (((i+v.length):Nat):Int)))*1)+1) (ai b)),0,false,0,1,true⟩)],.dead,[]⟩:=pN 201 [2] 1 1 (.c l (.c s (.c n (.c q (.c p (.c k (.c (aG k) .nil))))))) (.v 65 (.eq j) (.v 63 (.eq h) (.v 61 (.eq g) (.l r (.v 24 (.eq f) .nil))))) m
theorem alP {nt:Nat} (b:68≤nt) (u v o g:List Nat) (e c:Bool) (i a f:Nat) (d:(decide ((i:Int)<(u.length:Int)))=false):au prog ap [] nt (af 0 (ah f201)) ⟨[(1,.sl (ai v) v.length c),(5,.ref 0 0 0 o.length),(18,.sl (ai u) u.length e),(19,.int .i64 (u.length:Int)),(20,.int .i64 (i:Int))],[(0,⟨(ai o),0,false,0,1,true⟩)],.dead,[]⟩ (.exit 0) ⟨[(5,.ref 0 0 0 o.length)],[(0,⟨(ai o),0,false,0,1,true⟩)],.dead,[]⟩:=pN 201 [] 1 0 (.c (aF d) .nil) (.nil) b
theorem aa2 (a b w:List Nat) (c d:Bool) (z:Nat) (h:(decide (((0:Nat):Int)≤(IntKind.wrap .i64 ((a.length:Int)+(b.length:Int)))))=true) (g:(decide ((IntKind.wrap .i64 ((a.length:Int)+(b.length:Int)))=(IntKind.wrap .i64 ((a.length:Int)+(b.length:Int)))))=true) (e:(decide ((IntKind.wrap .i64 ((a.length:Int)+(b.length:Int)))≤((1099511627776:Nat):Int)))=true) (f:CO 162 [.sl (List.take (w.length*1) (ai w)) w.length true] (.ret (.sl (ai (digs z)) (digs z).length true))) (i:aK prog ap [] 68 (.block 0 (.loop (af 0 (ah f201)))) ⟨[(0,.sl (ai a) a.length c),(1,.sl (ai b) b.length d),(4,.nilS),(5,.ref 0 0 0 (Int.toNat (IntKind.wrap .i64 ((a.length:Int)+(b.length:Int))))),(6,.dead),(7,.dead),(8,.dead),(9,.dead),(10,.dead),(11,.dead),(18,.sl (ai a) a.length c),(19,.int .i64 (a.length:Int)),(20,.int .i64 0),(21,.dead),(25,.dead),(26,.dead),(27,.dead),(28,.dead)],[(0,⟨(f_ (Int.toNat (IntKind.wrap .i64 ((a.length:Int)+(b.length:Int)))) [.int .u32 0]),0,false,0,1,true⟩)],.dead,[]⟩ (.normal) ⟨[(5,.ref 0 0 0 w.length)],[(0,⟨(ai w),0,false,0,1,true⟩)],.dead,[]⟩):CO 201 [.sl (ai a) a.length c,.sl (ai b) b.length d] (.ret (.sl (ai (digs z)) (digs z).length true)):=pK [0] 0 0 (.c h (.c g (.c e .nil))) (.c f (.l i .nil))
def prI (u v:List Nat) (na nb:Bool) (i a:Nat) (p:Nat × List Nat × Nat):St:=⟨[(1,.sl (ai v) v.length nb),(5,.ref 0 0 0 p.2.1.length),(6,.int .i64 (i:Int)),(7,.int .u32 (a:Int)),(8,.int .u64 (p.2.2:Int)),(18,.sl (ai u) u.length na),(19,.int .i64 (u.length:Int)),(20,.int .i64 (i:Int)),(25,.sl (ai v) v.length nb),(26,.int .i64 (v.length:Int)),(27,.int .i64 (p.1:Int))],[(0,⟨(ai p.2.1),0,false,0,1,true⟩)],.dead,[]⟩
def prJ (u v:List Nat) (na nb:Bool) (i:Nat) (p:List Nat × Nat):St:=⟨[(1,.sl (ai v) v.length nb),(5,.ref 0 0 0 p.1.length),(6,.int .i64 (i:Int)),(8,.int .u64 (p.2:Int)),(18,.sl (ai u) u.length na),(19,.int .i64 (u.length:Int)),(20,.int .i64 (i:Int))],[(0,⟨(ai p.1),0,false,0,1,true⟩)],.dead,[]⟩
def prO (u v:List Nat) (na nb:Bool) (p:Nat × List Nat):St:=⟨[(1,.sl (ai v) v.length nb),(5,.ref 0 0 0 p.2.length),(18,.sl (ai u) u.length na),(19,.int .i64 (u.length:Int)),(20,.int .i64 (p.1:Int))],[(0,⟨(ai p.2),0,false,0,1,true⟩)],.dead,[]⟩
def prR (o:List Nat):St:=⟨[(5,.ref 0 0 0 o.length)],[(0,⟨(ai o),0,false,0,1,true⟩)],.dead,[]⟩
def Gj (a:Nat):List Nat→List Nat→Nat→List Nat × Nat
 |x::m,y::v,c=>((a*y+x+c) % 4294967296::(Gj a m v ((a*y+x+c) / 4294967296)).1,(Gj a m v ((a*y+x+c) / 4294967296)).2)
 |_,_,c=>([],c)
theorem LV {a x y c:Nat} (f:a<4294967296) (b:x<4294967296) (g:y<4294967296) (d:c<4294967296):a*y<18446744073709551616∧a*y+x+c<18446744073709551616∧(a*y+x+c) / 4294967296<4294967296:=by
 have e:a*y≤4294967295*4294967295:=Nat.mul_le_mul (by omega) (by omega)
 omega
theorem Jy {a:Nat} (b:a<4294967296):∀ (m v:List Nat) (c:Nat),m.length=v.length→c<4294967296→bJ m→bJ v→(Gj a m v c).2<4294967296∧bJ (Gj a m v c).1∧(Gj a m v c).1.length=v.length∧aH (Gj a m v c).1+4294967296^v.length*(Gj a m v c).2=aH m+a*aH v+c
 | [],[],c,_,hc,_,_=> ⟨hc,bJ.nil,rfl,by simp [Gj,aH]⟩
 |x::m,y::v,c,hl,hc,hm,hv=>by
  obtain ⟨_,_,e⟩:=LV b hm.head hv.head hc
  obtain ⟨f,g,d,i⟩:=Jy b m v _ (by simpa using hl) e hm.tail hv.tail
  simp only [Gj]
  refine ⟨f,bJ.cons (Nat.mod_lt _ (by omega)) g,by simp [d], ?_⟩
  simp only [aH,List.length_cons,Nat.pow_succ]
  rw [Nat.mul_comm (4294967296^v.length),Nat.mul_assoc,Nat.mul_add,Nat.mul_left_comm a]
  omega
 | [],_::_,_,h,_,_,_=>by simp at h
 |_::_,[],_,h,_,_,_=>by simp at h
def QO (v:List Nat):List Nat→List Nat→List Nat
 | [],m=>m
 |a::u,m=>((Gj a m v 0).1++ [(Gj a m v 0).2]).headD 0::QO v u ((Gj a m v 0).1++ [(Gj a m v 0).2]).tail
theorem QP {v:List Nat} (d:bJ v):∀ (u m:List Nat),bJ u→bJ m→m.length=v.length→bJ (QO v u m)∧(QO v u m).length=u.length+v.length∧aH (QO v u m)=aH m+aH u*aH v
 | [],m,_,hm,hl=> ⟨hm,by simp [QO,hl],by simp [QO,aH]⟩
 | a::u,m,hu,hm,hl=>by
  obtain ⟨h,g,j,o⟩:=Jy hu.head m v 0 hl (by omega) hm d
  obtain ⟨z,b,c,n⟩:=I4 (Gj a m v 0).1 (Gj a m v 0).2
  have e:bJ (z::b):=by rw [← c];exact bJ.app g (bJ.cons h bJ.nil)
  have k:aH (z::b)=aH m+a*aH v:=by
   rw [← c,l_,j];simp only [aH];omega
  simp only [QO,c,List.headD_cons,List.tail_cons]
  obtain ⟨i,l,f⟩:=QP d u b hu.tail e.tail (by omega)
  refine ⟨bJ.cons e.head i,by simp [l];omega, ?_⟩
  simp only [aH] at k ⊢
  rw [f,Nat.add_mul,Nat.mul_add,Nat.mul_assoc]
  omega
theorem XZ {p s:List Nat} {x y k:Nat} (h:k=p.length):List.take ((0+(Int.toNat (k:Int)))*1) (ai (p++x::s))++ [AV.int .u32 (y:Int)]++List.drop (((0+(Int.toNat (k:Int)))*1)+1) (ai (p++x::s))=ai (p++y::s):=by
 subst h;exact zI
theorem IY {p s:List Nat} {x k:Nat} (h:k=p.length):(List.headD (List.drop ((Int.toNat (k:Int))*1) (ai (p++x::s))) .dead)= .int .u32 (x:Int):=by
 subst h;rw [zG];rfl
theorem aet {p s:List Nat} {x k:Nat} (h:k=p.length):(List.headD (List.drop ((0+(Int.toNat (k:Int)))*1) (ai (p++x::s))) .dead)= .int .u32 (x:Int):=by
 rw [Nat.zero_add];exact IY h
theorem wdp {a b:Nat} (h:a+b<9223372036854775808):AV.int .i64 (IntKind.wrap .i64 ((a:Int)+(b:Int)))= .int .i64 ((a+b:Nat):Int):=by
 rw [dC,bf h]
theorem amj {a b:Nat} (h:a+b<18446744073709551616):AV.int .u64 (IntKind.wrap .u64 ((a:Int)+(b:Int)))= .int .u64 ((a+b:Nat):Int):=by
 rw [dC,oM,Nat.mod_eq_of_lt h]
theorem ami {a:Nat} (h:a<18446744073709551616):AV.int .u64 (IntKind.wrap .u64 (a:Int))= .int .u64 (a:Int):=by
 rw [oM,Nat.mod_eq_of_lt h]
theorem amh {a:Nat} (h:a<4294967296):AV.int .u32 (IntKind.wrap .u32 (a:Int))= .int .u32 (a:Int):=by
 rw [rF,Nat.mod_eq_of_lt h]
theorem aac {nt:Nat} (q:68≤nt) (u u1 u2 v:List Nat) (h g:Bool) (a:Nat) (I:u=u1++a::u2) (V:a<4294967296) (R:bJ v) (F:u.length<2^38) (L:v.length<2^38):∀ (w m b d pp z:List Nat) (c:Nat),b++w=v→m.length=w.length→d.length=b.length→pp.length=u1.length→bJ m→c<4294967296→
  aI prog ap [] nt (af 2 (ah f201)) (fun _=> .exit 2) (prI u v h g u1.length a) (prJ u v h g u1.length) (b.length,pp++d++m++z,c) (pp++d++(Gj a m w c).1++z,(Gj a m w c).2):=by
 intro w
 induction w with
 |nil=>
  intro m b d pp z c f i r A j B
  have U:m= []:=List.length_eq_zero_iff.1 (by simpa using i)
  subst U
  have o:b=v:=by simpa using f
  simp only [Gj]
  exact .done (alN q u v _ h g _ _ _ a 0 0 (by rw [o];exact decide_eq_false (by omega)))
 | cons y w ih=>
  intro m b d pp z c f i r A j B
  cases m with
  |nil=>simp at i
  | cons x m=>
   have M:b.length+(w.length+1)=v.length:=by rw [← f];simp
   have E:u1.length+(u2.length+1)=u.length:=by rw [I];simp
   have J:y<4294967296:=R y (by rw [← f];simp)
   have Y:=j.head
   obtain ⟨Q,b2,N⟩:=LV V j.head J B
   have e:=ih m (b++ [y]) (d++ [(a*y+x+c) % 4294967296]) pp z ((a*y+x+c) / 4294967296) (by simp [f]) (by simpa using i) (by simp [r]) A j.tail N
   simp only [Gj]
   rw [List.length_append,List.length_singleton] at e
   have S:pp++d++x::m++z=(pp++d)++x::(m++z):=by simp
   have W:pp++(d++ [(a*y+x+c) % 4294967296])++m++z=(pp++d)++(a*y+x+c) % 4294967296::(m++z):=by simp
   have T:pp++(d++ [(a*y+x+c) % 4294967296])++(Gj a m w ((a*y+x+c) / 4294967296)).1++z=pp++d++(a*y+x+c) % 4294967296::(Gj a m w ((a*y+x+c) / 4294967296)).1++z:=by simp
   rw [T] at e
   refine .next ?_ e
   have C:u1.length+b.length=(pp++d).length:=by rw [List.length_append];omega
   have t:((pp++d)++x::(m++z)).length=(pp++d).length+(m++z).length+1:=by simp;omega
   have hlen2:((pp++d)++(a*y+x+c) % 4294967296::(m++z)).length=((pp++d)++x::(m++z)).length:=by simp
   have P:=aet (p:=pp++d) (s:=m++z) (x:=x) C
   have O:(List.headD (List.drop ((Int.toNat (b.length:Int))*1) (ai v)) .dead)= .int .u32 (y:Int):=by rw [← f];exact IY rfl
   have G:=XZ (p:=pp++d) (s:=m++z) (x:=x) (y:=(a*y+x+c) % 4294967296) C
   unfold prI
   simp only [S,W,hlen2]
   have hs:=alM q u v ((pp++d)++x::(m++z)) h g u1.length b.length c a x y
   rw [G,P,O] at hs
   have l:u1.length<u.length:=by omega
   have n:b.length<v.length:=by omega
   have k:u1.length+b.length<((pp++d)++x::(m++z)).length:=by omega
   have K:AV.int .u32 (IntKind.wrap .u32 (((a*y+x+c):Nat):Int))= .int .u32 ((((a*y+x+c) % 4294967296):Nat):Int):=by rw [rF]
   have X:AV.int .u64 (Int.fdiv (((a*y+x+c):Nat):Int) (2^(min 32 64)))= .int .u64 ((((a*y+x+c) / 4294967296):Nat):Int):=by rw [show min 32 64=32 from rfl,kU]
   have H:AV.int .u64 (IntKind.wrap .u64 ((a:Int)*(y:Int)))= .int .u64 ((a*y:Nat):Int):=by rw [← Int.natCast_mul,oM,Nat.mod_eq_of_lt Q]
   have D:Nat.ble (((0+(Int.toNat (((u1.length+b.length):Nat):Int)))*1)+1) (List.length (ai ((pp++d)++x::(m++z))))=true:=by
    rw [Nat.ble_eq,aJ,ax];omega
   have Z:a*y+x<18446744073709551616:=by omega
   apply hs<;>first|exact rfl|exact wdp (by omega)|exact amj (by omega)|exact K|exact X|exact H|exact ami (by omega)|exact D|exact nJ _|exact kR l|exact kR n|exact kR k
theorem Xr {nt:Nat} (g:68≤nt) (u v:List Nat) (i h:Bool) (d:bJ u) (C:bJ v) (j:u.length<2^38) (n:v.length<2^38):∀ (u2 u1 m pp:List Nat),u1++u2=u→m.length=v.length→pp.length=u1.length→bJ m→
  aI prog ap [] nt (af 0 (ah f201)) (fun _=> .exit 0) (prO u v i h) prR (u1.length,pp++m++List.replicate u2.length 0) (pp++QO v u2 m):=by
 intro u2
 induction u2 with
 |nil=>
  intro u1 m pp b w t A
  have o:u1=u:=by simpa using b
  simp only [QO,List.length_nil,List.replicate_zero,List.append_nil]
  exact .done (alP g u v _ [] i h _ 0 0 (by rw [o];exact decide_eq_false (by omega)))
 | cons a u2 ih=>
  intro u1 m pp b w t A
  have F:u1.length+(u2.length+1)=u.length:=by rw [← b];simp
  have D:a<4294967296:=d a (by rw [← b];simp)
  obtain ⟨J,G,Q,P⟩:=Jy D m v 0 w (by omega) A C
  have l:=fun nt (g:68≤nt)=>aac g u u1 u2 v i h a b.symm D C j n v m [] [] pp (List.replicate (u2.length+1) 0) 0 rfl w rfl t A (by omega)
  simp only [QO]
  generalize Gj a m v 0=r at*
  obtain ⟨z,f,B,R⟩:=I4 r.1 r.2
  have K:bJ (z::f):=by rw [← B];exact bJ.app G (bJ.cons J bJ.nil)
  have c:=ih (u1++ [a]) f (pp++ [z]) (by simp [b]) (by omega) (by simp [t]) K.tail
  simp only [B,List.headD_cons,List.tail_cons]
  rw [List.length_append,List.length_singleton] at c
  have M:pp++ [z]++QO v u2 f=pp++z::QO v u2 f:=by simp
  rw [M] at c
  refine .next ?_ c
  rw [List.append_nil] at l
  have N:u1.length+v.length=(pp++r.1).length:=by rw [List.length_append];omega
  have L:pp++r.1++List.replicate (u2.length+1) 0=(pp++r.1)++0::List.replicate u2.length 0:=by rw [List.replicate_succ]
  have O:pp++ [z]++f++List.replicate u2.length 0=(pp++r.1)++r.2::List.replicate u2.length 0:=by
   rw [List.append_assoc pp,List.singleton_append,← B];simp
  have I:(List.headD (List.drop ((Int.toNat (u1.length:Int))*1) (ai u)) .dead)= .int .u32 (a:Int):=by rw [← b];exact IY rfl
  have H:=XZ (p:=pp++r.1) (s:=List.replicate u2.length 0) (x:=0) (y:=r.2) N
  rw [L] at l
  have e:((pp++r.1)++0::List.replicate u2.length 0).length=((pp++r.1)++r.2::List.replicate u2.length 0).length:=by simp
  have hlen2:((pp++r.1)++0::List.replicate u2.length 0).length=(pp++r.1).length+u2.length+1:=by simp;omega
  have hs:=alO g u v (pp++m++List.replicate (u2.length+1) 0) ((pp++r.1)++0::List.replicate u2.length 0) i h u1.length a r.2
  rw [H,I] at hs
  have q:u1.length<u.length:=by omega
  have k:u1.length+v.length<((pp++r.1)++0::List.replicate u2.length 0).length:=by omega
  have E:Nat.ble (((0+(Int.toNat (((u1.length+v.length):Nat):Int)))*1)+1) (List.length (ai ((pp++r.1)++0::List.replicate u2.length 0)))=true:=by
   rw [Nat.ble_eq,aJ,ax];omega
  unfold prO
  simp only [O,List.length_cons]
  rw [← e]
  apply hs<;>first|exact rfl|exact wdp (by omega)|exact amh (by omega)|exact E|exact nJ _|exact kR q|exact kR k|skip
  exact aI.blk l (by simp) rfl (aO.of ⟨rfl,rfl,rfl,rfl,rfl,rfl,rfl,rfl,rfl,rfl,rfl,trivial⟩) (aO.refl _)
theorem aa3 (a b:List Nat) (g e:Bool) (d:bJ a) (c:bJ b) (t:a.length<2^37) (q:b.length<2^37):CO 201 [.sl (ai a) a.length g,.sl (ai b) b.length e] (.ret (.sl (ai (digs (aH a*aH b))) (digs (aH a*aH b)).length true)):=by
 obtain ⟨p,r,k⟩:=QP c a (List.replicate b.length 0) d (fun x i=>by rw [(List.mem_replicate.1 i).2];omega) (by simp)
 have o:aH (List.replicate b.length 0)=0:=by
  generalize b.length=n
  induction n with
  |zero=>rfl
  |succ n ih=>rw [List.replicate_succ];simp only [aH,ih]
 rw [o,Nat.zero_add] at k
 have m:∀ nt,68≤nt→aI prog ap [] nt (af 0 (ah f201)) (fun _=> .exit 0) (prO a b g e) prR (0,List.replicate (a.length+b.length) 0) (QO b a (List.replicate b.length 0)):=fun nt j=>by
  have:=Xr j a b g e d c (by omega) (by omega) a [] (List.replicate b.length 0) [] rfl (by simp) rfl (fun x i=>by rw [(List.mem_replicate.1 i).2];omega)
  rw [List.nil_append,List.nil_append,List.replicate_append_replicate,Nat.add_comm] at this
  exact this
 generalize QO b a (List.replicate b.length 0)=w at*
 have f:=aa2 a b w g e (aH a*aH b)
 have l:IntKind.wrap .i64 ((a.length:Int)+(b.length:Int))=((a.length+b.length:Nat):Int):=by rw [dC,bf (by omega)]
 rw [l,aJ,pV] at f
 have h:=aI.blk (s:=prO a b g e (0,List.replicate (a.length+b.length) 0)) (s':=prR w) (id:=0) m (by simp) rfl (aO.refl _) (aO.refl _)
 unfold prO at h
 simp only [List.length_replicate] at h
 exact f (decide_eq_true (by omega)) (decide_eq_true rfl) (decide_eq_true (by omega)) (BO w _ _ rfl (by rw [jC p,k]) (by omega)) fun nt j=>(h nt j).weak (aO.of ⟨rfl,rfl,rfl,rfl,rfl,trivial⟩) (aO.refl _)
theorem aaM (s t:List UInt8) (hs:s.length<2^36) (d:t.length<2^36):CO 171 [.str s,.str t] (.ret (.str (ae (ag s*ag t)))):=by
 have b:=qH (s:=s) (n:=2^34) (by omega)
 have a:=qH (s:=t) (n:=2^34) (by omega)
 have c:=SE b a
 have h:=aa3 (digs (ag s)) (digs (ag t)) true true (bJ.digs _) (bJ.digs _) (by omega) (by omega)
 rw [eY,eY] at h
 exact aeN s t _ (uS s (by omega)) (uS t (by omega)) h (qY _ _ true (wu _) (by omega) (by omega))
theorem ajf {nt:Nat} (n:83≤nt) (u v o:List Nat) (k c x y:Nat) (j:AV.int .i64 (AV.toInt (List.headD (List.drop ((Int.toNat (k:Int))*1) (aj u)) .dead))= .int .i64 (x:Int)) (f:AV.int .i64 (IntKind.wrap .i64 ((c:Int)+(x:Int)))= .int .i64 (((c+x):Nat):Int)) (m:AV.int .i64 (AV.toInt (List.headD (List.drop ((Int.toNat (k:Int))*1) (aj v)) .dead))= .int .i64 (y:Int)) (e:AV.int .i64 (IntKind.wrap .i64 ((((c+x):Nat):Int)+(y:Int)))= .int .i64 (((c+x+y):Nat):Int)) (g:AV.int .i64 (Int.tmod (((c+x+y):Nat):Int) ((16777216:Nat):Int))= .int .i64 ((((c+x+y) % 16777216):Nat):Int)) (d:AV.int .i64 (IntKind.wrap .i64 (Int.tdiv (((c+x+y):Nat):Int) ((16777216:Nat):Int)))= .int .i64 ((((c+x+y) / 16777216):Nat):Int)) (a:AV.int .i64 (IntKind.wrap .i64 ((k:Int)+((1:Nat):Int)))= .int .i64 (((k+1):Nat):Int)) (l:(chk (.int .i64) (List.headD (List.drop ((Int.toNat (k:Int))*1) (aj v)) .dead))=true) (i:(decide (((0:Nat):Int)≤(k:Int)))=true) (h:(decide ((k:Int)<(v.length:Int)))=true) (p:(chk (.int .i64) (List.headD (List.drop ((Int.toNat (k:Int))*1) (aj u)) .dead))=true) (b:(decide ((k:Int)<(u.length:Int)))=true):au prog ap [] nt (af 0 (ah f80)) ⟨[(9,.sl (aj u) u.length false),(10,.sl (aj v) v.length false),(11,.nilS),(12,.int .i64 (c:Int)),(13,.int .i64 (k:Int))],[],.dead,[]⟩ (.normal) ⟨[(9,.sl (aj u) u.length false),(10,.sl (aj v) v.length false),(11,.ref 0 0 0 1),(12,.int .i64 ((((c+x+y) / 16777216):Nat):Int)),(13,.int .i64 (((k+1):Nat):Int))],[(0,⟨[.int .i64 ((((c+x+y) % 16777216):Nat):Int)],0,false,0,1,true⟩)],.dead,[]⟩:=pN 80 [] 6 31 (.k 5 l (.c i (.c h (.c (aG h) (.c p (.c i (.c b (.c (aG b) (.k 2 (aG b) .nil))))))))) (.v 52 (.eq a) (.v 80 (.eq d) (.v 76 (.eq g) (.v 73 (.eq e) (.v 72 (.eq m) (.v 63 (.eq f) (.v 62 (.eq j) .nil))))))) n
theorem ajg {nt:Nat} (g:83≤nt) (u v o:List Nat) (k c x y:Nat) (h:AV.int .i64 (AV.toInt (List.headD (List.drop ((Int.toNat (k:Int))*1) (aj u)) .dead))= .int .i64 (x:Int)) (d:AV.int .i64 (IntKind.wrap .i64 ((c:Int)+(x:Int)))= .int .i64 (((c+x):Nat):Int)) (e:AV.int .i64 (Int.tmod (((c+x):Nat):Int) ((16777216:Nat):Int))= .int .i64 ((((c+x) % 16777216):Nat):Int)) (a:AV.int .i64 (IntKind.wrap .i64 (Int.tdiv (((c+x):Nat):Int) ((16777216:Nat):Int)))= .int .i64 ((((c+x) / 16777216):Nat):Int)) (f:AV.int .i64 (IntKind.wrap .i64 ((k:Int)+((1:Nat):Int)))= .int .i64 (((k+1):Nat):Int)) (l:(decide ((k:Int)<(v.length:Int)))=false) (i:(chk (.int .i64) (List.headD (List.drop ((Int.toNat (k:Int))*1) (aj u)) .dead))=true) (j:(decide (((0:Nat):Int)≤(k:Int)))=true) (b:(decide ((k:Int)<(u.length:Int)))=true):au prog ap [] nt (af 0 (ah f80)) ⟨[(9,.sl (aj u) u.length false),(10,.sl (aj v) v.length false),(11,.nilS),(12,.int .i64 (c:Int)),(13,.int .i64 (k:Int))],[],.dead,[]⟩ (.normal) ⟨[(9,.sl (aj u) u.length false),(10,.sl (aj v) v.length false),(11,.ref 0 0 0 1),(12,.int .i64 ((((c+x) / 16777216):Nat):Int)),(13,.int .i64 (((k+1):Nat):Int))],[(0,⟨[.int .i64 ((((c+x) % 16777216):Nat):Int)],0,false,0,1,true⟩)],.dead,[]⟩:=pN 80 [] 6 15 (.k 5 (aF l) (.c i (.c j (.c b (.c (aG b) (.k 2 (aG b) .nil)))))) (.v 52 (.eq f) (.v 80 (.eq a) (.v 76 (.eq e) (.v 63 (.eq d) (.v 62 (.eq h) .nil))))) g
theorem ajh {nt:Nat} (h:83≤nt) (u v o:List Nat) (k c x y:Nat) (l:AV.int .i64 (AV.toInt (List.headD (List.drop ((Int.toNat (k:Int))*1) (aj v)) .dead))= .int .i64 (y:Int)) (f:AV.int .i64 (IntKind.wrap .i64 ((c:Int)+(y:Int)))= .int .i64 (((c+y):Nat):Int)) (e:AV.int .i64 (Int.tmod (((c+y):Nat):Int) ((16777216:Nat):Int))= .int .i64 ((((c+y) % 16777216):Nat):Int)) (b:AV.int .i64 (IntKind.wrap .i64 (Int.tdiv (((c+y):Nat):Int) ((16777216:Nat):Int)))= .int .i64 ((((c+y) / 16777216):Nat):Int)) (a:AV.int .i64 (IntKind.wrap .i64 ((k:Int)+((1:Nat):Int)))= .int .i64 (((k+1):Nat):Int)) (j:(chk (.int .i64) (List.headD (List.drop ((Int.toNat (k:Int))*1) (aj v)) .dead))=true) (i:(decide (((0:Nat):Int)≤(k:Int)))=true) (d:(decide ((k:Int)<(v.length:Int)))=true) (g:(decide ((k:Int)<(u.length:Int)))=false):au prog ap [] nt (af 0 (ah f80)) ⟨[(9,.sl (aj u) u.length false),(10,.sl (aj v) v.length false),(11,.nilS),(12,.int .i64 (c:Int)),(13,.int .i64 (k:Int))],[],.dead,[]⟩ (.normal) ⟨[(9,.sl (aj u) u.length false),(10,.sl (aj v) v.length false),(11,.ref 0 0 0 1),(12,.int .i64 ((((c+y) / 16777216):Nat):Int)),(13,.int .i64 (((k+1):Nat):Int))],[(0,⟨[.int .i64 ((((c+y) % 16777216):Nat):Int)],0,false,0,1,true⟩)],.dead,[]⟩:=pN 80 [] 6 22 (.k 5 j (.c i (.c d (.c (aG d) (.c (aF g) (.k 1 (aG d) (.c (aF g) .nil))))))) (.v 52 (.eq a) (.v 80 (.eq b) (.v 76 (.eq e) (.v 73 (.eq f) (.v 72 (.eq l) .nil))))) h
theorem aji {nt:Nat} (g:83≤nt) (u v o:List Nat) (k c x y:Nat) (b:AV.int .i64 (Int.tmod (c:Int) ((16777216:Nat):Int))= .int .i64 (((c % 16777216):Nat):Int)) (a:AV.int .i64 (IntKind.wrap .i64 (Int.tdiv (c:Int) ((16777216:Nat):Int)))= .int .i64 (((c / 16777216):Nat):Int)) (d:AV.int .i64 (IntKind.wrap .i64 ((k:Int)+((1:Nat):Int)))= .int .i64 (((k+1):Nat):Int)) (f:(decide ((k:Int)<(v.length:Int)))=false) (e:(decide ((k:Int)<(u.length:Int)))=false) (h:(decide (((0:Nat):Int)<(c:Int)))=true):au prog ap [] nt (af 0 (ah f80)) ⟨[(9,.sl (aj u) u.length false),(10,.sl (aj v) v.length false),(11,.nilS),(12,.int .i64 (c:Int)),(13,.int .i64 (k:Int))],[],.dead,[]⟩ (.normal) ⟨[(9,.sl (aj u) u.length false),(10,.sl (aj v) v.length false),(11,.ref 0 0 0 1),(12,.int .i64 (((c / 16777216):Nat):Int)),(13,.int .i64 (((k+1):Nat):Int))],[(0,⟨[.int .i64 (((c % 16777216):Nat):Int)],0,false,0,1,true⟩)],.dead,[]⟩:=pN 80 [] 6 4 (.k 5 (aF f) (.c (aF e) (.c (aG h) (.c (aF f) (.c (aF e) .nil))))) (.v 52 (.eq d) (.v 80 (.eq a) (.v 76 (.eq b) .nil))) g
theorem ajj {nt:Nat} (a:83≤nt) (u v o:List Nat) (k c x y:Nat) (e:(decide (((0:Nat):Int)<(c:Int)))=false) (d:(decide ((k:Int)<(v.length:Int)))=false) (b:(decide ((k:Int)<(u.length:Int)))=false):au prog ap [] nt (af 0 (ah f80)) ⟨[(9,.sl (aj u) u.length false),(10,.sl (aj v) v.length false),(11,.nilS),(12,.int .i64 (c:Int)),(13,.int .i64 (k:Int))],[],.dead,[]⟩ (.exit 0) ⟨[(11,.nilS)],[],.dead,[]⟩:=pN 80 [] 3 0 (.c (aF e) (.c (aF d) (.c (aF b) .nil))) (.nil) a
theorem aja {nt:Nat} (n:83≤nt) (u v o:List Nat) (k c x y:Nat) (j:AV.int .i64 (AV.toInt (List.headD (List.drop ((Int.toNat (k:Int))*1) (aj u)) .dead))= .int .i64 (x:Int)) (f:AV.int .i64 (IntKind.wrap .i64 ((c:Int)+(x:Int)))= .int .i64 (((c+x):Nat):Int)) (m:AV.int .i64 (AV.toInt (List.headD (List.drop ((Int.toNat (k:Int))*1) (aj v)) .dead))= .int .i64 (y:Int)) (e:AV.int .i64 (IntKind.wrap .i64 ((((c+x):Nat):Int)+(y:Int)))= .int .i64 (((c+x+y):Nat):Int)) (g:AV.int .i64 (Int.tmod (((c+x+y):Nat):Int) ((16777216:Nat):Int))= .int .i64 ((((c+x+y) % 16777216):Nat):Int)) (d:AV.int .i64 (IntKind.wrap .i64 (Int.tdiv (((c+x+y):Nat):Int) ((16777216:Nat):Int)))= .int .i64 ((((c+x+y) / 16777216):Nat):Int)) (b:AV.int .i64 (IntKind.wrap .i64 ((k:Int)+((1:Nat):Int)))= .int .i64 (((k+1):Nat):Int)) (l:(Nat.ble (o.length+1) 1099511627776)=true) (r:(Nat.ble (o.length*1) (List.length (aj o)))=true) (p:(chk (.int .i64) (List.headD (List.drop ((Int.toNat (k:Int))*1) (aj v)) .dead))=true) (h:(decide (((0:Nat):Int)≤(k:Int)))=true) (i:(decide ((k:Int)<(v.length:Int)))=true) (q:(chk (.int .i64) (List.headD (List.drop ((Int.toNat (k:Int))*1) (aj u)) .dead))=true) (a:(decide ((k:Int)<(u.length:Int)))=true):au prog ap [] nt (af 0 (ah f80)) ⟨[(9,.sl (aj u) u.length false),(10,.sl (aj v) v.length false),(11,.ref 0 0 0 o.length),(12,.int .i64 (c:Int)),(13,.int .i64 (k:Int))],[(0,⟨(aj o),0,false,0,1,true⟩)],.dead,[]⟩ (.normal) ⟨[(9,.sl (aj u) u.length false),(10,.sl (aj v) v.length false),(11,.ref 0 0 0 (o.length+1)),(12,.int .i64 ((((c+x+y) / 16777216):Nat):Int)),(13,.int .i64 (((k+1):Nat):Int))],[(0,⟨((List.take (o.length*1) (aj o))++ [.int .i64 ((((c+x+y) % 16777216):Nat):Int)]),0,false,0,1,true⟩)],.dead,[]⟩:=pN 80 [] 5 31 (.k 2 l (.c r (.k 2 p (.c h (.c i (.c (aG i) (.c q (.c h (.c a (.c (aG a) (.k 2 (aG a) .nil))))))))))) (.v 52 (.eq b) (.v 80 (.eq d) (.v 76 (.eq g) (.v 73 (.eq e) (.v 72 (.eq m) (.v 63 (.eq f) (.v 62 (.eq j) .nil))))))) n
theorem ajb {nt:Nat} (i:83≤nt) (u v o:List Nat) (k c x y:Nat) (g:AV.int .i64 (AV.toInt (List.headD (List.drop ((Int.toNat (k:Int))*1) (aj u)) .dead))= .int .i64 (x:Int)) (e:AV.int .i64 (IntKind.wrap .i64 ((c:Int)+(x:Int)))= .int .i64 (((c+x):Nat):Int)) (f:AV.int .i64 (Int.tmod (((c+x):Nat):Int) ((16777216:Nat):Int))= .int .i64 ((((c+x) % 16777216):Nat):Int)) (d:AV.int .i64 (IntKind.wrap .i64 (Int.tdiv (((c+x):Nat):Int) ((16777216:Nat):Int)))= .int .i64 ((((c+x) / 16777216):Nat):Int)) (a:AV.int .i64 (IntKind.wrap .i64 ((k:Int)+((1:Nat):Int)))= .int .i64 (((k+1):Nat):Int)) (h:(Nat.ble (o.length+1) 1099511627776)=true) (n:(Nat.ble (o.length*1) (List.length (aj o)))=true) (j:(decide ((k:Int)<(v.length:Int)))=false) (m:(chk (.int .i64) (List.headD (List.drop ((Int.toNat (k:Int))*1) (aj u)) .dead))=true) (l:(decide (((0:Nat):Int)≤(k:Int)))=true) (b:(decide ((k:Int)<(u.length:Int)))=true):au prog ap [] nt (af 0 (ah f80)) ⟨[(9,.sl (aj u) u.length false),(10,.sl (aj v) v.length false),(11,.ref 0 0 0 o.length),(12,.int .i64 (c:Int)),(13,.int .i64 (k:Int))],[(0,⟨(aj o),0,false,0,1,true⟩)],.dead,[]⟩ (.normal) ⟨[(9,.sl (aj u) u.length false),(10,.sl (aj v) v.length false),(11,.ref 0 0 0 (o.length+1)),(12,.int .i64 ((((c+x) / 16777216):Nat):Int)),(13,.int .i64 (((k+1):Nat):Int))],[(0,⟨((List.take (o.length*1) (aj o))++ [.int .i64 ((((c+x) % 16777216):Nat):Int)]),0,false,0,1,true⟩)],.dead,[]⟩:=pN 80 [] 5 15 (.k 2 h (.c n (.k 2 (aF j) (.c m (.c l (.c b (.c (aG b) (.k 2 (aG b) .nil)))))))) (.v 52 (.eq a) (.v 80 (.eq d) (.v 76 (.eq f) (.v 63 (.eq e) (.v 62 (.eq g) .nil))))) i
theorem ajc {nt:Nat} (j:83≤nt) (u v o:List Nat) (k c x y:Nat) (i:AV.int .i64 (AV.toInt (List.headD (List.drop ((Int.toNat (k:Int))*1) (aj v)) .dead))= .int .i64 (y:Int)) (e:AV.int .i64 (IntKind.wrap .i64 ((c:Int)+(y:Int)))= .int .i64 (((c+y):Nat):Int)) (f:AV.int .i64 (Int.tmod (((c+y):Nat):Int) ((16777216:Nat):Int))= .int .i64 ((((c+y) % 16777216):Nat):Int)) (b:AV.int .i64 (IntKind.wrap .i64 (Int.tdiv (((c+y):Nat):Int) ((16777216:Nat):Int)))= .int .i64 ((((c+y) / 16777216):Nat):Int)) (a:AV.int .i64 (IntKind.wrap .i64 ((k:Int)+((1:Nat):Int)))= .int .i64 (((k+1):Nat):Int)) (h:(Nat.ble (o.length+1) 1099511627776)=true) (n:(Nat.ble (o.length*1) (List.length (aj o)))=true) (l:(chk (.int .i64) (List.headD (List.drop ((Int.toNat (k:Int))*1) (aj v)) .dead))=true) (m:(decide (((0:Nat):Int)≤(k:Int)))=true) (d:(decide ((k:Int)<(v.length:Int)))=true) (g:(decide ((k:Int)<(u.length:Int)))=false):au prog ap [] nt (af 0 (ah f80)) ⟨[(9,.sl (aj u) u.length false),(10,.sl (aj v) v.length false),(11,.ref 0 0 0 o.length),(12,.int .i64 (c:Int)),(13,.int .i64 (k:Int))],[(0,⟨(aj o),0,false,0,1,true⟩)],.dead,[]⟩ (.normal) ⟨[(9,.sl (aj u) u.length false),(10,.sl (aj v) v.length false),(11,.ref 0 0 0 (o.length+1)),(12,.int .i64 ((((c+y) / 16777216):Nat):Int)),(13,.int .i64 (((k+1):Nat):Int))],[(0,⟨((List.take (o.length*1) (aj o))++ [.int .i64 ((((c+y) % 16777216):Nat):Int)]),0,false,0,1,true⟩)],.dead,[]⟩:=pN 80 [] 5 22 (.k 2 h (.c n (.k 2 l (.c m (.c d (.c (aG d) (.c (aF g) (.k 1 (aG d) (.c (aF g) .nil))))))))) (.v 52 (.eq a) (.v 80 (.eq b) (.v 76 (.eq f) (.v 73 (.eq e) (.v 72 (.eq i) .nil))))) j
theorem ajd {nt:Nat} (g:83≤nt) (u v o:List Nat) (k c x y:Nat) (b:AV.int .i64 (Int.tmod (c:Int) ((16777216:Nat):Int))= .int .i64 (((c % 16777216):Nat):Int)) (a:AV.int .i64 (IntKind.wrap .i64 (Int.tdiv (c:Int) ((16777216:Nat):Int)))= .int .i64 (((c / 16777216):Nat):Int)) (d:AV.int .i64 (IntKind.wrap .i64 ((k:Int)+((1:Nat):Int)))= .int .i64 (((k+1):Nat):Int)) (j:(Nat.ble (o.length+1) 1099511627776)=true) (h:(Nat.ble (o.length*1) (List.length (aj o)))=true) (e:(decide ((k:Int)<(v.length:Int)))=false) (f:(decide ((k:Int)<(u.length:Int)))=false) (i:(decide (((0:Nat):Int)<(c:Int)))=true):au prog ap [] nt (af 0 (ah f80)) ⟨[(9,.sl (aj u) u.length false),(10,.sl (aj v) v.length false),(11,.ref 0 0 0 o.length),(12,.int .i64 (c:Int)),(13,.int .i64 (k:Int))],[(0,⟨(aj o),0,false,0,1,true⟩)],.dead,[]⟩ (.normal) ⟨[(9,.sl (aj u) u.length false),(10,.sl (aj v) v.length false),(11,.ref 0 0 0 (o.length+1)),(12,.int .i64 (((c / 16777216):Nat):Int)),(13,.int .i64 (((k+1):Nat):Int))],[(0,⟨((List.take (o.length*1) (aj o))++ [.int .i64 (((c % 16777216):Nat):Int)]),0,false,0,1,true⟩)],.dead,[]⟩:=pN 80 [] 5 4 (.k 2 j (.c h (.k 2 (aF e) (.c (aF f) (.c (aG i) (.c (aF e) (.c (aF f) .nil))))))) (.v 52 (.eq d) (.v 80 (.eq a) (.v 76 (.eq b) .nil))) g
theorem aje {nt:Nat} (a:83≤nt) (u v o:List Nat) (k c x y:Nat) (e:(decide (((0:Nat):Int)<(c:Int)))=false) (d:(decide ((k:Int)<(v.length:Int)))=false) (b:(decide ((k:Int)<(u.length:Int)))=false):au prog ap [] nt (af 0 (ah f80)) ⟨[(9,.sl (aj u) u.length false),(10,.sl (aj v) v.length false),(11,.ref 0 0 0 o.length),(12,.int .i64 (c:Int)),(13,.int .i64 (k:Int))],[(0,⟨(aj o),0,false,0,1,true⟩)],.dead,[]⟩ (.exit 0) ⟨[(11,.ref 0 0 0 o.length)],[(0,⟨(aj o),0,false,0,1,true⟩)],.dead,[]⟩:=pN 80 [] 3 0 (.c (aF e) (.c (aF d) (.c (aF b) .nil))) (.nil) a
theorem ae1 (s t:List UInt8) (x y z:Nat) (w:List Nat) (a:CO 134 [.str s,.int .i64 7] (.ret (.tup [.int .i64 (x:Int),.bool true]))) (c:CO 134 [.str t,.int .i64 7] (.ret (.tup [.int .i64 (y:Int),.bool true]))) (b:CO 79 [.int .i64 (IntKind.wrap .i64 ((x:Int)+(y:Int)))] (.ret (.str (ae z)))):CO 80 [.str s,.str t] (.ret (.str (ae z))):=pK [] 2 3 (.n 2 .nil) (.c b (.c c (.c a .nil)))
theorem ae2 (s t:List UInt8) (x y z:Nat) (w:List Nat) (c:CO 134 [.str s,.int .i64 7] (.ret (.tup [.int .i64 (x:Int),.bool true]))) (e:CO 134 [.str t,.int .i64 7] (.ret (.tup [.int .i64 (y:Int),.bool false]))) (d:CO 135 [.str s] (.ret (.sl (aj (ak (ag s))) (ak (ag s)).length false))) (a:CO 135 [.str t] (.ret (.sl (aj (ak (ag t))) (ak (ag t)).length false))) (b:CO 136 [.sl (List.take (w.length*1) (aj w)) w.length true] (.ret (.str (ae z)))) (f:aK prog ap [] 83 (.block 0 (.loop (af 0 (ah f80)))) ⟨[(0,.str s),(1,.str t),(4,.str []),(5,.int .i64 (x:Int)),(6,.bool true),(7,.int .i64 (y:Int)),(8,.bool false),(9,.sl (aj (ak (ag s))) (ak (ag s)).length false),(10,.sl (aj (ak (ag t))) (ak (ag t)).length false),(11,.nilS),(12,.int .i64 0),(13,.int .i64 0),(14,.dead),(28,.bool false),(50,.dead),(57,.dead),(67,.dead)],[],.dead,[]⟩ (.normal) ⟨[(11,.ref 0 0 0 w.length)],[(0,⟨(aj w),0,false,0,1,true⟩)],.dead,[]⟩):CO 80 [.str s,.str t] (.ret (.str (ae z))):=pK [0] 2 1 (.n 2 .nil) (.c b (.l f (.c a (.c d (.c e (.c c .nil))))))
theorem ae3 (s t:List UInt8) (x y z:Nat) (w:List Nat) (c:CO 134 [.str s,.int .i64 7] (.ret (.tup [.int .i64 (x:Int),.bool false]))) (e:CO 134 [.str t,.int .i64 7] (.ret (.tup [.int .i64 (y:Int),.bool true]))) (d:CO 135 [.str s] (.ret (.sl (aj (ak (ag s))) (ak (ag s)).length false))) (a:CO 135 [.str t] (.ret (.sl (aj (ak (ag t))) (ak (ag t)).length false))) (b:CO 136 [.sl (List.take (w.length*1) (aj w)) w.length true] (.ret (.str (ae z)))) (f:aK prog ap [] 83 (.block 0 (.loop (af 0 (ah f80)))) ⟨[(0,.str s),(1,.str t),(4,.str []),(5,.int .i64 (x:Int)),(6,.bool false),(7,.int .i64 (y:Int)),(8,.bool true),(9,.sl (aj (ak (ag s))) (ak (ag s)).length false),(10,.sl (aj (ak (ag t))) (ak (ag t)).length false),(11,.nilS),(12,.int .i64 0),(13,.int .i64 0),(14,.dead),(28,.bool false),(50,.dead),(57,.dead),(67,.dead)],[],.dead,[]⟩ (.normal) ⟨[(11,.ref 0 0 0 w.length)],[(0,⟨(aj w),0,false,0,1,true⟩)],.dead,[]⟩):CO 80 [.str s,.str t] (.ret (.str (ae z))):=pK [0] 2 0 (.n 2 .nil) (.c b (.l f (.c a (.c d (.c e (.c c .nil))))))
theorem ae4 (s t:List UInt8) (x y z:Nat) (w:List Nat) (c:CO 134 [.str s,.int .i64 7] (.ret (.tup [.int .i64 (x:Int),.bool false]))) (e:CO 134 [.str t,.int .i64 7] (.ret (.tup [.int .i64 (y:Int),.bool false]))) (d:CO 135 [.str s] (.ret (.sl (aj (ak (ag s))) (ak (ag s)).length false))) (a:CO 135 [.str t] (.ret (.sl (aj (ak (ag t))) (ak (ag t)).length false))) (b:CO 136 [.sl (List.take (w.length*1) (aj w)) w.length true] (.ret (.str (ae z)))) (f:aK prog ap [] 83 (.block 0 (.loop (af 0 (ah f80)))) ⟨[(0,.str s),(1,.str t),(4,.str []),(5,.int .i64 (x:Int)),(6,.bool false),(7,.int .i64 (y:Int)),(8,.bool false),(9,.sl (aj (ak (ag s))) (ak (ag s)).length false),(10,.sl (aj (ak (ag t))) (ak (ag t)).length false),(11,.nilS),(12,.int .i64 0),(13,.int .i64 0),(14,.dead),(28,.bool false),(50,.dead),(57,.dead),(67,.dead)],[],.dead,[]⟩ (.normal) ⟨[(11,.ref 0 0 0 w.length)],[(0,⟨(aj w),0,false,0,1,true⟩)],.dead,[]⟩):CO 80 [.str s,.str t] (.ret (.str (ae z))):=pK [0] 2 0 (.n 2 .nil) (.c b (.l f (.c a (.c d (.c e (.c c .nil))))))
theorem ajy (s t:List UInt8) (x y z:Nat) (w:List Nat) (e:(decide ((lJ (ag s) (ag t))<((0:Nat):Int)))=false) (c:CO 101 [.str s,.str t] (.ret (.int .i64 (lJ (ag s) (ag t))))) (f:CO 135 [.str s] (.ret (.sl (aj (ak (ag s))) (ak (ag s)).length false))) (d:CO 135 [.str t] (.ret (.sl (aj (ak (ag t))) (ak (ag t)).length false))) (a:CO 151 [.sl (aj (ak (ag s))) (ak (ag s)).length false,.sl (aj (ak (ag t))) (ak (ag t)).length false] (.ret (.sl (aj (ak z)) (ak z).length false))) (b:CO 136 [.sl (aj (ak z)) (ak z).length false] (.ret (.str (ae z)))):CO 102 [.str s,.str t] (.ret (.tup [.str (ae z),.bool true])):=pK [] 1 0 (.c (aF e) .nil) (.c b (.c a (.c d (.c f (.c c .nil)))))
def apQ (o:List Nat):AV:=match o with| []=> .nilS|_::_=> .ref 0 0 0 o.length
def hpQ (o:List Nat):Hp:=match o with| []=> []|a::r=> [(0,⟨aj (a::r),0,false,0,1,true⟩)]
def Aw (u v:List Nat) (p:List Nat × Nat):St:=⟨[(9,.sl (aj u) u.length false),(10,.sl (aj v) v.length false),(11,apQ p.1),(12,.int .i64 (p.2:Int)),(13,.int .i64 (p.1.length:Int))],hpQ p.1,.dead,[]⟩
def QT (o:List Nat):St:=⟨[(11,apQ o)],hpQ o,.dead,[]⟩
theorem JA {u r:List Nat} {x k:Nat} (h:List.drop k u=x::r):(List.headD (List.drop ((Int.toNat (k:Int))*1) (aj u)) .dead)= .int .i64 (x:Int)∧k<u.length:=by
 refine ⟨?_, ?_⟩
 ·rw [aJ,Nat.mul_one]
  have:List.drop k (aj u)=aj (List.drop k u):=by unfold aj;rw [List.map_drop]
  rw [this,h];rfl
 ·have:=congrArg List.length h
  rw [List.length_drop,List.length_cons] at this
  omega
theorem Au {u:List Nat} {k:Nat} (h:List.drop k u= []):u.length≤k:=by
 have:=congrArg List.length h
 rw [List.length_drop,List.length_nil] at this
 omega
theorem QS (o:List Nat) (d:Nat):List.take (o.length*1) (aj o)++ [AV.int .i64 (d:Int)]=aj (o++ [d]):=by
 rw [Nat.mul_one,dI,List.take_length,kz]
theorem L6 (S:Nat):AV.int .i64 (Int.tmod (S:Int) ((16777216:Nat):Int))= .int .i64 (((S % 16777216):Nat):Int):=by rw [um]
theorem LZ {S:Nat} (h:S<2^62):AV.int .i64 (IntKind.wrap .i64 (Int.tdiv (S:Int) ((16777216:Nat):Int)))= .int .i64 (((S / 16777216):Nat):Int):=by rw [rQ,bf (by omega)]
theorem ai_ {nt:Nat} (e:83≤nt) {u v o ru rv:List Nat} {c x y:Nat} (i:List.drop o.length u=x::ru) (g:List.drop o.length v=y::rv) (j:x<16777216) (l:y<16777216) (k:c<16777216) (m:o.length<2^39):
  au prog ap [] nt (af 0 (ah f80)) (Aw u v (o,c)) .normal (Aw u v (o++ [(c+x+y) % 16777216],(c+x+y) / 16777216)):=by
 obtain ⟨f,k1⟩:=JA i
 obtain ⟨d,k2⟩:=JA g
 cases o with
 |nil=>
  have hs:=ajf e u v [] ([]:List Nat).length c x y
  rw [f,d] at hs
  apply hs<;>first|exact rfl|exact RH (by omega)|exact L6 _|exact LZ (by omega)|exact nJ _|exact kR k1|exact kR k2
 |cons a r=>
  have hs:=aja e u v (a::r) (a::r).length c x y
  rw [f,d,QS,show (a::r).length+1=((a::r)++ [(c+x+y) % 16777216]).length by simp] at hs
  apply hs<;>first|exact rfl|exact RH (by omega)|exact L6 _|exact LZ (by omega)|exact nJ _|exact kR k1|exact kR k2|(rw [Nat.ble_eq];simp only [List.length_append,List.length_singleton,bZ,Nat.mul_one];omega)|(have h:=RH (a:=(a::r).length) (b:=1) (by omega);rw [show (a::r).length+1=((a::r)++ [(c+x+y) % 16777216]).length by simp] at h;exact h)
theorem ai9 {nt:Nat} (d:83≤nt) {u v o ru rv:List Nat} {c x y:Nat} (g:List.drop o.length u=x::ru) (f:List.drop o.length v= []) (i:x<16777216) (j:c<16777216) (k:o.length<2^39):
  au prog ap [] nt (af 0 (ah f80)) (Aw u v (o,c)) .normal (Aw u v (o++ [(c+x) % 16777216],(c+x) / 16777216)):=by
 obtain ⟨e,k1⟩:=JA g
 have k2:=Au f
 cases o with
 |nil=>
  have hs:=ajg d u v [] ([]:List Nat).length c x y
  rw [e] at hs
  apply hs<;>first|exact rfl|exact RH (by omega)|exact L6 _|exact LZ (by omega)|exact nJ _|exact kR k1|exact B_ k2
 |cons a r=>
  have hs:=ajb d u v (a::r) (a::r).length c x y
  rw [e,QS,show (a::r).length+1=((a::r)++ [(c+x) % 16777216]).length by simp] at hs
  apply hs<;>first|exact rfl|exact RH (by omega)|exact L6 _|exact LZ (by omega)|exact nJ _|exact kR k1|exact B_ k2|(rw [Nat.ble_eq];simp only [List.length_append,List.length_singleton,bZ,Nat.mul_one];omega)|(have h:=RH (a:=(a::r).length) (b:=1) (by omega);rw [show (a::r).length+1=((a::r)++ [(c+x) % 16777216]).length by simp] at h;exact h)
theorem ai8 {nt:Nat} (e:83≤nt) {u v o ru rv:List Nat} {c x y:Nat} (g:List.drop o.length u= []) (f:List.drop o.length v=y::rv) (j:y<16777216) (i:c<16777216) (k:o.length<2^39):
  au prog ap [] nt (af 0 (ah f80)) (Aw u v (o,c)) .normal (Aw u v (o++ [(c+y) % 16777216],(c+y) / 16777216)):=by
 have k1:=Au g
 obtain ⟨d,k2⟩:=JA f
 cases o with
 |nil=>
  have hs:=ajh e u v [] ([]:List Nat).length c x y
  rw [d] at hs
  apply hs<;>first|exact rfl|exact RH (by omega)|exact L6 _|exact LZ (by omega)|exact nJ _|exact B_ k1|exact kR k2
 |cons a r=>
  have hs:=ajc e u v (a::r) (a::r).length c x y
  rw [d,QS,show (a::r).length+1=((a::r)++ [(c+y) % 16777216]).length by simp] at hs
  apply hs<;>first|exact rfl|exact RH (by omega)|exact L6 _|exact LZ (by omega)|exact nJ _|exact B_ k1|exact kR k2|(rw [Nat.ble_eq];simp only [List.length_append,List.length_singleton,bZ,Nat.mul_one];omega)|(have h:=RH (a:=(a::r).length) (b:=1) (by omega);rw [show (a::r).length+1=((a::r)++ [(c+y) % 16777216]).length by simp] at h;exact h)
theorem ai7 {nt:Nat} (e:83≤nt) {u v o ru rv:List Nat} {c x y:Nat} (g:List.drop o.length u= []) (f:List.drop o.length v= []) (d:0<c) (i:c<16777216) (j:o.length<2^39):
  au prog ap [] nt (af 0 (ah f80)) (Aw u v (o,c)) .normal (Aw u v (o++ [(c) % 16777216],(c) / 16777216)):=by
 have k1:=Au g
 have k2:=Au f
 cases o with
 |nil=>
  have hs:=aji e u v [] ([]:List Nat).length c x y
  apply hs<;>first|exact rfl|exact RH (by omega)|exact L6 _|exact LZ (by omega)|exact nJ _|exact B_ k1|exact B_ k2|exact kR d
 |cons a r=>
  have hs:=ajd e u v (a::r) (a::r).length c x y
  rw [QS,show (a::r).length+1=((a::r)++ [(c) % 16777216]).length by simp] at hs
  apply hs<;>first|exact rfl|exact RH (by omega)|exact L6 _|exact LZ (by omega)|exact nJ _|exact B_ k1|exact B_ k2|exact kR d|(rw [Nat.ble_eq];simp only [List.length_append,List.length_singleton,bZ,Nat.mul_one];omega)|(have h:=RH (a:=(a::r).length) (b:=1) (by omega);rw [show (a::r).length+1=((a::r)++ [(c) % 16777216]).length by simp] at h;exact h)
theorem XB {nt:Nat} (b:83≤nt) {u v o:List Nat} (d:List.drop o.length u= []) (c:List.drop o.length v= []):au prog ap [] nt (af 0 (ah f80)) (Aw u v (o,0)) (.exit 0) (QT o):=by
 have k1:=Au d
 have k2:=Au c
 cases o with
 |nil=>exact ajj b u v [] ([]:List Nat).length 0 0 0 rfl (B_ k2) (B_ k1)
 |cons a r=>exact aje b u v (a::r) (a::r).length 0 0 0 rfl (B_ k2) (B_ k1)
def J8:List Nat→List Nat→Nat→List Nat
 | [],[],c=>if 0<c then [c % 16777216] else []
 | [],y::v,c=>(c+y) % 16777216::J8 [] v ((c+y) / 16777216)
 |x::u,[],c=>(c+x) % 16777216::J8 u [] ((c+x) / 16777216)
 |x::u,y::v,c=>(c+x+y) % 16777216::J8 u v ((c+x+y) / 16777216)
theorem CE:∀ (u v:List Nat) (c:Nat),a_ u→a_ v→c≤1→cZ (J8 u v c)=cZ u+cZ v+c∧a_ (J8 u v c)∧(J8 u v c).length≤u.length+v.length+1∧u.length≤(J8 u v c).length∧v.length≤(J8 u v c).length
 | [],[],c,_,_,hc=>by
  simp only [J8]
  rcases Nat.eq_zero_or_pos c with h|h
  ·subst h;exact ⟨rfl,a_.nil,by simp,by simp,by simp⟩
  ·rw [if_pos h]
   exact ⟨by simp only [cZ];omega,a_.cons (Nat.mod_lt _ (by omega)) a_.nil,by simp,by simp,by simp⟩
 | [],y::v,c,hu,hv,hc=>by
  have i:=hv.head
  obtain ⟨a,b,d,e,f⟩:=CE [] v ((c+y) / 16777216) hu hv.tail (by omega)
  simp only [J8]
  refine ⟨?_,a_.cons (Nat.mod_lt _ (by omega)) b,by simp only [List.length_cons,List.length_nil] at*;omega,by simp,by simp only [List.length_cons];omega⟩
  simp only [cZ] at*
  rw [a];omega
 |x::u,[],c,hu,hv,hc=>by
  have g:=hu.head
  obtain ⟨a,b,d,e,f⟩:=CE u [] ((c+x) / 16777216) hu.tail hv (by omega)
  simp only [J8]
  refine ⟨?_,a_.cons (Nat.mod_lt _ (by omega)) b,by simp only [List.length_cons,List.length_nil] at*;omega,by simp only [List.length_cons];omega,by simp⟩
  simp only [cZ] at*
  rw [a];omega
 |x::u,y::v,c,hu,hv,hc=>by
  have g:=hu.head
  have i:=hv.head
  obtain ⟨a,b,d,e,f⟩:=CE u v ((c+x+y) / 16777216) hu.tail hv.tail (by omega)
  simp only [J8]
  refine ⟨?_,a_.cons (Nat.mod_lt _ (by omega)) b,by simp only [List.length_cons] at*;omega,by simp only [List.length_cons];omega,by simp only [List.length_cons];omega⟩
  simp only [cZ] at*
  rw [a];omega
theorem P8 {u r:List Nat} {x d:Nat} {o:List Nat} (h:List.drop o.length u=x::r):List.drop (o++ [d]).length u=r:=by
 rw [List.length_append,List.length_singleton,← List.drop_drop,h];rfl
theorem P7 {u:List Nat} {d:Nat} {o:List Nat} (h:List.drop o.length u= []):List.drop (o++ [d]).length u= []:=by
 rw [List.length_append,List.length_singleton,← List.drop_drop,h];rfl
theorem C_ {nt:Nat} (d:83≤nt) {u v:List Nat}:∀ (a b o:List Nat) (c:Nat),List.drop o.length u=a→List.drop o.length v=b→a_ a→a_ b→c≤1→o.length+a.length+b.length<2^38→
  aI prog ap [] nt (af 0 (ah f80)) (fun _=> .exit 0) (Aw u v) QT (o,c) (o++J8 a b c)
 | [],[],o,c,hu,hv,_,_,hc,hl=>by
  simp only [List.length_nil] at hl
  simp only [J8]
  rcases Nat.eq_zero_or_pos c with h|h
  ·subst h
   rw [if_neg (by omega),List.append_nil]
   exact .done (XB d hu hv)
  ·rw [if_pos h]
   have j:c / 16777216=0:=by omega
   have i:=ai7 d (x:=0) (y:=0) (ru:= []) (rv:= []) hu hv h (by omega) (by omega)
   rw [j] at i
   exact .next i (.done (XB d (P7 hu) (P7 hv)))
 | [],y::b,o,c,hu,hv,ha,hb,hc,hl=>by
  have g:=hb.head
  simp only [List.length_nil,List.length_cons] at hl
  have e:=C_ d [] b (o++ [(c+y) % 16777216]) ((c+y) / 16777216) (P7 hu) (P8 hv) ha hb.tail (by omega) (by simp only [List.length_append,List.length_singleton,List.length_nil];omega)
  rw [List.append_assoc,List.singleton_append] at e
  simp only [J8]
  exact .next (ai8 d (x:=0) (ru:= []) hu hv g (by omega) (by omega)) e
 |x::a,[],o,c,hu,hv,ha,hb,hc,hl=>by
  have f:=ha.head
  simp only [List.length_nil,List.length_cons] at hl
  have e:=C_ d a [] (o++ [(c+x) % 16777216]) ((c+x) / 16777216) (P8 hu) (P7 hv) ha.tail hb (by omega) (by simp only [List.length_append,List.length_singleton,List.length_nil];omega)
  rw [List.append_assoc,List.singleton_append] at e
  simp only [J8]
  exact .next (ai9 d (y:=0) (rv:= []) hu hv f (by omega) (by omega)) e
 |x::a,y::b,o,c,hu,hv,ha,hb,hc,hl=>by
  have f:=ha.head
  have g:=hb.head
  simp only [List.length_cons] at hl
  have e:=C_ d a b (o++ [(c+x+y) % 16777216]) ((c+x+y) / 16777216) (P8 hu) (P8 hv) ha.tail hb.tail (by omega) (by simp only [List.length_append,List.length_singleton];omega)
  rw [List.append_assoc,List.singleton_append] at e
  simp only [J8]
  exact .next (ai_ d hu hv f g (by omega) (by omega)) e
theorem PZ (s:List UInt8):(ak (ag s)).length≤s.length:=rW (Nat.lt_of_lt_of_le (kN s) (by rw [Nat.pow_mul];exact Nat.pow_le_pow_left (by decide) _))
theorem Xz (s t:List UInt8) (hs:s.length<2^35) (j:t.length<2^35) (h:2^(8*7)≤ag s∨2^(8*7)≤ag t):∃ w:List Nat,w.length≤s.length+t.length+1∧a_ w∧cZ w=ag s+ag t∧w ≠ []∧∀ nt,83≤nt→aI prog ap [] nt (af 0 (ah f80)) (fun _=> .exit 0) (Aw (ak (ag s)) (ak (ag t))) QT ([],0) w:=by
 have i:=PZ s
 have g:=PZ t
 obtain ⟨a,c,f,e,k⟩:=CE (ak (ag s)) (ak (ag t)) 0 (a_.dig _) (a_.dig _) (by omega)
 rw [eG,eG,Nat.add_zero] at a
 refine ⟨_,by omega,c,a, ?_,fun nt b=>C_ b (ak (ag s)) (ak (ag t)) [] 0 rfl rfl (a_.dig _) (a_.dig _) (by omega) (by simp only [List.length_nil];omega)⟩
 intro d
 rw [d] at a
 simp only [cZ] at a
 omega
theorem TZ (s t:List UInt8) (hs:s.length<2^34) (x:t.length<2^34):CO 80 [.str s,.str t] (.ret (.str (ae (ag s+ag t)))):=by
 have j:=BL s (by omega)
 have i:=BL t (by omega)
 have v:=xg (s:=s) (by omega)
 have u:=xg (s:=t) (by omega)
 have f:2^(8*7)≤ag s∨2^(8*7)≤ag t→∃ w:List Nat,CO 136 [.sl (List.take (w.length*1) (aj w)) w.length true] (.ret (.str (ae (ag s+ag t))))∧aK prog ap [] 83 (.block 0 (.loop (af 0 (ah f80)))) (Aw (ak (ag s)) (ak (ag t)) ([],0)) .normal ⟨[(11,.ref 0 0 0 w.length)],[(0,⟨aj w,0,false,0,1,true⟩)],.dead,[]⟩:=by
  intro h
  obtain ⟨w,q,m,o,n,p⟩:=Xz s t (by omega) (by omega) h
  have g:w.length<2^36:=by omega
  have b:=uP w true g m
  rw [o] at b
  have k:List.take (w.length*1) (aj w)=aj w:=by rw [Nat.mul_one,dI,List.take_length]
  refine ⟨w,by rw [k];exact b, ?_⟩
  have c:=aI.blk (s:=Aw (ak (ag s)) (ak (ag t)) ([],0)) (s':=QT w) (id:=0) p (by simp) rfl (aO.refl _) (aO.refl _)
  cases w with
  |nil=>exact absurd rfl n
  |cons a r=>exact c
 rcases Nat.lt_or_ge (ag s) (2^(8*7)) with c1|c1
 ·have e:=gG s 7 (by omega) (by omega) c1
  rcases Nat.lt_or_ge (ag t) (2^(8*7)) with c2|c2
  ·have l:=lC (ag s+ag t) (by omega)
   have g:IntKind.wrap .i64 (((ag s:Nat):Int)+((ag t:Nat):Int))=((ag s+ag t:Nat):Int):=by rw [dC,bf (by omega)]
   rw [← g] at l
   exact ae1 s t _ _ _ [] e (gG t 7 (by omega) (by omega) c2) l
  ·obtain ⟨w,b,c⟩:=f (.inr c2)
   exact ae2 s t _ 0 _ w e (kK t 7 (by omega) c2) j i b fun nt d=>(c nt d).weak (aO.of ⟨rfl,rfl,rfl,rfl,rfl,trivial⟩) (aO.refl _)
 ·have e:=kK s 7 (by omega) c1
  obtain ⟨w,b,c⟩:=f (.inl c1)
  rcases Nat.lt_or_ge (ag t) (2^(8*7)) with c2|c2
  ·exact ae3 s t 0 _ _ w e (gG t 7 (by omega) (by omega) c2) j i b fun nt d=>(c nt d).weak (aO.of ⟨rfl,rfl,rfl,rfl,rfl,trivial⟩) (aO.refl _)
  ·exact ae4 s t 0 0 _ w e (kK t 7 (by omega) c2) j i b fun nt d=>(c nt d).weak (aO.of ⟨rfl,rfl,rfl,rfl,rfl,trivial⟩) (aO.refl _)
theorem X3 (x y:Nat):decide (lJ x y<((0:Nat):Int))=decide (x<y):=by
 unfold lJ
 by_cases h:x<y
 ·rw [if_pos h,decide_eq_true h];rfl
 ·rw [if_neg h,decide_eq_false h];split<;>rfl
theorem Zg {x y:Nat} (h:y≤x) (b:(ak x).length<2^36):(ak y).length<2^36:=by
 have a:=zK (a_.dig x)
 rw [eG] at a
 exact Nat.lt_of_le_of_lt (rW (Nat.lt_of_le_of_lt h a)) b
theorem Uf (s t:List UInt8) (hs:s.length<2^35) (d:t.length<2^35) (h:ag t≤ag s):CO 102 [.str s,.str t] (.ret (.tup [.str (ae (ag s - ag t)),.bool true])):=by
 have c:=xg (s:=s) hs
 have b:=Zg (Nat.sub_le (ag s) (ag t)) (by omega)
 have a:=uP (ak (ag s - ag t)) false b (a_.dig _)
 rw [eG] at a
 exact ajy s t 0 0 _ [] (by rw [X3];exact decide_eq_false (by omega)) (JB s t (by omega) (by omega)) (BL s (by omega)) (BL t (by omega)) (Lu _ _ false false h (by omega)) a
theorem ajD (d i:Bool) (e c j k:List UInt8) (a b r:RQ) (g:(iO d e c)=false) (f:CO 115 [.agg [.bool d,.str e,.str c]] (.ret (.bool (iO d e c)))) (h:CO 42 [.int .i64 0] (.ret (.agg [.bool false,.str (ae 0),.str (ae 1)]))):CO 170 [.agg [.bool d,.str e,.str c]] (.ret (.agg [.bool false,.str (ae 0),.str (ae 1)])):=pK [] 1 1 (.k 4 (d_ g) (.n 3 .nil)) (.c h (.c f .nil))
theorem ajE (d h:Bool) (e c i j:List UInt8) (a b r:RQ) (g:(iO d e c)=true) (f:CO 115 [.agg [.bool d,.str e,.str c]] (.ret (.bool (iO d e c)))):CO 170 [.agg [.bool d,.str e,.str c]] (.ret (.agg [.bool d,.str e,.str c])):=pK [] 1 0 (.k 7 (aW g) (.n 3 .nil)) (.c f .nil)
theorem ajs (d h:Bool) (e c i j:List UInt8) (a b r:RQ) (g:a.neg=false) (f:CO 170 [.agg [.bool d,.str e,.str c]] (.ret (.agg [.bool a.neg,.str (ae a.n),.str (ae a.d)]))):CO 200 [.agg [.bool d,.str e,.str c]] (.ret (.agg [.bool (!((ae a.n)== [])),.str (ae a.n),.str (ae a.d)])):=pK [] 1 1 (.k 9 (d_ g) (.n 5 .nil)) (.c f .nil)
theorem ajt (d h:Bool) (e c i j:List UInt8) (a b r:RQ) (g:a.neg=true) (f:CO 170 [.agg [.bool d,.str e,.str c]] (.ret (.agg [.bool a.neg,.str (ae a.n),.str (ae a.d)]))):CO 200 [.agg [.bool d,.str e,.str c]] (.ret (.agg [.bool false,.str (ae a.n),.str (ae a.d)])):=pK [] 1 0 (.k 8 (aW g) (.n 5 .nil)) (.c f .nil)
theorem abf (d e:Bool) (f c g h:List UInt8) (a b r:RQ) (n:(a.neg==b.neg)=true) (l:CO 170 [.agg [.bool d,.str f,.str c]] (.ret (.agg [.bool a.neg,.str (ae a.n),.str (ae a.d)]))) (o:CO 170 [.agg [.bool e,.str g,.str h]] (.ret (.agg [.bool b.neg,.str (ae b.n),.str (ae b.d)]))) (m:CO 171 [.str (ae a.n),.str (ae b.d)] (.ret (.str (ae (a.n*b.d))))) (j:CO 171 [.str (ae b.n),.str (ae a.d)] (.ret (.str (ae (b.n*a.d))))) (k:CO 171 [.str (ae a.d),.str (ae b.d)] (.ret (.str (ae (a.d*b.d))))) (p:CO 71 [.str (ae (a.n*b.d)),.str (ae (b.n*a.d))] (.ret (.str (ae ((a.n*b.d)+(b.n*a.d)))))) (i:CO 160 [.bool a.neg,.str (ae ((a.n*b.d)+(b.n*a.d))),.str (ae (a.d*b.d))] (.ret (.agg [.bool r.neg,.str (ae r.n),.str (ae r.d)]))):CO 167 [.agg [.bool d,.str f,.str c],.agg [.bool e,.str g,.str h]] (.ret (.agg [.bool r.neg,.str (ae r.n),.str (ae r.d)])):=pK [] 1 1 (.k 5 (aG n) (.n 16 .nil)) (.c i (.c p (.c k (.c j (.c m (.c o (.c l .nil)))))))
theorem abg (d e:Bool) (f c g h:List UInt8) (a b r:RQ) (n:(a.neg==b.neg)=false) (l:CO 170 [.agg [.bool d,.str f,.str c]] (.ret (.agg [.bool a.neg,.str (ae a.n),.str (ae a.d)]))) (o:CO 170 [.agg [.bool e,.str g,.str h]] (.ret (.agg [.bool b.neg,.str (ae b.n),.str (ae b.d)]))) (m:CO 171 [.str (ae a.n),.str (ae b.d)] (.ret (.str (ae (a.n*b.d))))) (j:CO 171 [.str (ae b.n),.str (ae a.d)] (.ret (.str (ae (b.n*a.d))))) (k:CO 171 [.str (ae a.d),.str (ae b.d)] (.ret (.str (ae (a.d*b.d))))) (p:CO 199 [.str (ae (a.n*b.d)),.str (ae (b.n*a.d))] (.ret (.tup [.str (ae ((a.n*b.d) - (b.n*a.d))),.bool true]))) (i:CO 160 [.bool a.neg,.str (ae ((a.n*b.d) - (b.n*a.d))),.str (ae (a.d*b.d))] (.ret (.agg [.bool r.neg,.str (ae r.n),.str (ae r.d)]))):CO 167 [.agg [.bool d,.str f,.str c],.agg [.bool e,.str g,.str h]] (.ret (.agg [.bool r.neg,.str (ae r.n),.str (ae r.d)])):=pK [] 2 2 (.k 6 (aF n) (.n 16 .nil)) (.c i (.c p (.c k (.c j (.c m (.c o (.c l .nil)))))))
theorem abe (d e:Bool) (f c g h:List UInt8) (a b r:RQ) (n:(a.neg==b.neg)=false) (l:CO 170 [.agg [.bool d,.str f,.str c]] (.ret (.agg [.bool a.neg,.str (ae a.n),.str (ae a.d)]))) (o:CO 170 [.agg [.bool e,.str g,.str h]] (.ret (.agg [.bool b.neg,.str (ae b.n),.str (ae b.d)]))) (m:CO 171 [.str (ae a.n),.str (ae b.d)] (.ret (.str (ae (a.n*b.d))))) (j:CO 171 [.str (ae b.n),.str (ae a.d)] (.ret (.str (ae (b.n*a.d))))) (k:CO 171 [.str (ae a.d),.str (ae b.d)] (.ret (.str (ae (a.d*b.d))))) (p:CO 199 [.str (ae (a.n*b.d)),.str (ae (b.n*a.d))] (.ret (.tup [.str [],.bool false]))) (i:CO 199 [.str (ae (b.n*a.d)),.str (ae (a.n*b.d))] (.ret (.tup [.str (ae ((b.n*a.d) - (a.n*b.d))),.bool true]))) (q:CO 160 [.bool b.neg,.str (ae ((b.n*a.d) - (a.n*b.d))),.str (ae (a.d*b.d))] (.ret (.agg [.bool r.neg,.str (ae r.n),.str (ae r.d)]))):CO 167 [.agg [.bool d,.str f,.str c],.agg [.bool e,.str g,.str h]] (.ret (.agg [.bool r.neg,.str (ae r.n),.str (ae r.d)])):=pK [] 2 0 (.k 6 (aF n) (.n 16 .nil)) (.c q (.c i (.c p (.c k (.c j (.c m (.c o (.c l .nil))))))))
theorem ajz (d e:Bool) (f c g h:List UInt8) (a b r:RQ) (i:CO 200 [.agg [.bool e,.str g,.str h]] (.ret (.agg [.bool b.neg,.str (ae b.n),.str (ae b.d)]))) (j:CO 167 [.agg [.bool d,.str f,.str c],.agg [.bool b.neg,.str (ae b.n),.str (ae b.d)]] (.ret (.agg [.bool r.neg,.str (ae r.n),.str (ae r.d)]))):CO 168 [.agg [.bool d,.str f,.str c],.agg [.bool e,.str g,.str h]] (.ret (.agg [.bool r.neg,.str (ae r.n),.str (ae r.d)])):=pK [] 0 0 (.n 10 .nil) (.c j (.c i .nil))
theorem ajm (d e:Bool) (f c g h:List UInt8) (a b r:RQ) (i:CO 168 [.agg [.bool d,.str f,.str c],.agg [.bool e,.str g,.str h]] (.ret (.agg [.bool r.neg,.str (ae r.n),.str (ae r.d)]))) (j:CO 121 [.agg [.bool r.neg,.str (ae r.n),.str (ae r.d)]] (.ret (.int .i64 (wH r)))):CO 127 [.agg [.bool d,.str f,.str c],.agg [.bool e,.str g,.str h]] (.ret (.int .i64 (wH r))):=pK [] 0 0 (.n 6 .nil) (.c j (.c i .nil))
theorem ajr (d e:Bool) (f c g h:List UInt8) (a b r:RQ) (k:CO 170 [.agg [.bool d,.str f,.str c]] (.ret (.agg [.bool a.neg,.str (ae a.n),.str (ae a.d)]))) (m:CO 170 [.agg [.bool e,.str g,.str h]] (.ret (.agg [.bool b.neg,.str (ae b.n),.str (ae b.d)]))) (l:CO 171 [.str (ae a.n),.str (ae b.n)] (.ret (.str (ae (a.n*b.n))))) (i:CO 171 [.str (ae a.d),.str (ae b.d)] (.ret (.str (ae (a.d*b.d))))) (j:CO 160 [.bool (!(a.neg==b.neg)),.str (ae (a.n*b.n)),.str (ae (a.d*b.d))] (.ret (.agg [.bool r.neg,.str (ae r.n),.str (ae r.d)]))):CO 169 [.agg [.bool d,.str f,.str c],.agg [.bool e,.str g,.str h]] (.ret (.agg [.bool r.neg,.str (ae r.n),.str (ae r.d)])):=pK [] 0 0 (.n 18 .nil) (.c j (.c i (.c l (.c m (.c k .nil)))))
theorem aju (d e:Bool) (f c g h:List UInt8) (a b r:RQ) (j:((ae b.n)== [])=true) (i:CO 170 [.agg [.bool d,.str f,.str c]] (.ret (.agg [.bool a.neg,.str (ae a.n),.str (ae a.d)]))) (k:CO 170 [.agg [.bool e,.str g,.str h]] (.ret (.agg [.bool b.neg,.str (ae b.n),.str (ae b.d)]))):CO 125 [.agg [.bool d,.str f,.str c],.agg [.bool e,.str g,.str h]] (.ret (.tup [.agg [.bool false,.str [],.str []],.bool false])):=pK [] 1 1 (.k 4 (aG j) (.n 9 .nil)) (.c k (.c i .nil))
theorem ajv (d e:Bool) (f c g h:List UInt8) (a b r:RQ) (m:((ae b.n)== [])=false) (k:CO 170 [.agg [.bool d,.str f,.str c]] (.ret (.agg [.bool a.neg,.str (ae a.n),.str (ae a.d)]))) (n:CO 170 [.agg [.bool e,.str g,.str h]] (.ret (.agg [.bool b.neg,.str (ae b.n),.str (ae b.d)]))) (l:CO 171 [.str (ae a.n),.str (ae b.d)] (.ret (.str (ae (a.n*b.d))))) (i:CO 171 [.str (ae a.d),.str (ae b.n)] (.ret (.str (ae (a.d*b.n))))) (j:CO 160 [.bool (!(a.neg==b.neg)),.str (ae (a.n*b.d)),.str (ae (a.d*b.n))] (.ret (.agg [.bool r.neg,.str (ae r.n),.str (ae r.d)]))):CO 125 [.agg [.bool d,.str f,.str c],.agg [.bool e,.str g,.str h]] (.ret (.tup [.agg [.bool r.neg,.str (ae r.n),.str (ae r.d)],.bool true])):=pK [] 1 0 (.k 10 (aF m) (.n 9 .nil)) (.c j (.c i (.c l (.c n (.c k .nil)))))
theorem aa5 (d e:Bool) (f c g h:List UInt8) (a b r:RQ) (n:(a.neg==b.neg)=true) (l:CO 98 [.agg [.bool d,.str f,.str c]] (.ret (.agg [.bool a.neg,.str (ae a.n),.str (ae a.d)]))) (o:CO 98 [.agg [.bool e,.str g,.str h]] (.ret (.agg [.bool b.neg,.str (ae b.n),.str (ae b.d)]))) (m:CO 100 [.str (ae a.n),.str (ae b.d)] (.ret (.str (ae (a.n*b.d))))) (j:CO 100 [.str (ae b.n),.str (ae a.d)] (.ret (.str (ae (b.n*a.d))))) (k:CO 100 [.str (ae a.d),.str (ae b.d)] (.ret (.str (ae (a.d*b.d))))) (p:CO 80 [.str (ae (a.n*b.d)),.str (ae (b.n*a.d))] (.ret (.str (ae ((a.n*b.d)+(b.n*a.d)))))) (i:CO 99 [.bool a.neg,.str (ae ((a.n*b.d)+(b.n*a.d))),.str (ae (a.d*b.d))] (.ret (.agg [.bool r.neg,.str (ae r.n),.str (ae r.d)]))):CO 62 [.agg [.bool d,.str f,.str c],.agg [.bool e,.str g,.str h]] (.ret (.agg [.bool r.neg,.str (ae r.n),.str (ae r.d)])):=pK [] 1 1 (.k 5 (aG n) (.n 16 .nil)) (.c i (.c p (.c k (.c j (.c m (.c o (.c l .nil)))))))
theorem aa6 (h e:Bool) (c g f d:List UInt8) (a b r:RQ) (j:(decide (((0:Nat):Int)≤(lJ (a.n*b.d) (b.n*a.d))))=true) (m:(a.neg==b.neg)=false) (q:CO 98 [.agg [.bool h,.str c,.str g]] (.ret (.agg [.bool a.neg,.str (ae a.n),.str (ae a.d)]))) (n:CO 98 [.agg [.bool e,.str f,.str d]] (.ret (.agg [.bool b.neg,.str (ae b.n),.str (ae b.d)]))) (i:CO 100 [.str (ae a.n),.str (ae b.d)] (.ret (.str (ae (a.n*b.d))))) (o:CO 100 [.str (ae b.n),.str (ae a.d)] (.ret (.str (ae (b.n*a.d))))) (p:CO 100 [.str (ae a.d),.str (ae b.d)] (.ret (.str (ae (a.d*b.d))))) (s:CO 101 [.str (ae (a.n*b.d)),.str (ae (b.n*a.d))] (.ret (.int .i64 (lJ (a.n*b.d) (b.n*a.d))))) (k:CO 102 [.str (ae (a.n*b.d)),.str (ae (b.n*a.d))] (.ret (.tup [.str (ae ((a.n*b.d) - (b.n*a.d))),.bool true]))) (l:CO 99 [.bool a.neg,.str (ae ((a.n*b.d) - (b.n*a.d))),.str (ae (a.d*b.d))] (.ret (.agg [.bool r.neg,.str (ae r.n),.str (ae r.d)]))):CO 62 [.agg [.bool h,.str c,.str g],.agg [.bool e,.str f,.str d]] (.ret (.agg [.bool r.neg,.str (ae r.n),.str (ae r.d)])):=pK [] 2 2 (.k 5 (aG j) (.c (aF m) (.n 16 .nil))) (.c l (.c k (.c s (.c p (.c o (.c i (.c n (.c q .nil))))))))
theorem aa7 (h e:Bool) (c g f d:List UInt8) (a b r:RQ) (j:(decide (((0:Nat):Int)≤(lJ (a.n*b.d) (b.n*a.d))))=false) (m:(a.neg==b.neg)=false) (q:CO 98 [.agg [.bool h,.str c,.str g]] (.ret (.agg [.bool a.neg,.str (ae a.n),.str (ae a.d)]))) (n:CO 98 [.agg [.bool e,.str f,.str d]] (.ret (.agg [.bool b.neg,.str (ae b.n),.str (ae b.d)]))) (i:CO 100 [.str (ae a.n),.str (ae b.d)] (.ret (.str (ae (a.n*b.d))))) (o:CO 100 [.str (ae b.n),.str (ae a.d)] (.ret (.str (ae (b.n*a.d))))) (p:CO 100 [.str (ae a.d),.str (ae b.d)] (.ret (.str (ae (a.d*b.d))))) (s:CO 101 [.str (ae (a.n*b.d)),.str (ae (b.n*a.d))] (.ret (.int .i64 (lJ (a.n*b.d) (b.n*a.d))))) (k:CO 102 [.str (ae (b.n*a.d)),.str (ae (a.n*b.d))] (.ret (.tup [.str (ae ((b.n*a.d) - (a.n*b.d))),.bool true]))) (l:CO 99 [.bool b.neg,.str (ae ((b.n*a.d) - (a.n*b.d))),.str (ae (a.d*b.d))] (.ret (.agg [.bool r.neg,.str (ae r.n),.str (ae r.d)]))):CO 62 [.agg [.bool h,.str c,.str g],.agg [.bool e,.str f,.str d]] (.ret (.agg [.bool r.neg,.str (ae r.n),.str (ae r.d)])):=pK [] 2 0 (.k 5 (aF j) (.c (aF m) (.n 16 .nil))) (.c l (.c k (.c s (.c p (.c o (.c i (.c n (.c q .nil))))))))
def y_ (q:RQ):RQ:=⟨!q.neg && decide (0<q.n),q.n,q.d⟩
def iP (a b:RQ):RQ:=if a.neg=b.neg then iq a.neg (a.n*b.d+b.n*a.d) (a.d*b.d) else if b.n*a.d≤a.n*b.d then iq a.neg (a.n*b.d - b.n*a.d) (a.d*b.d) else iq b.neg (b.n*a.d - a.n*b.d) (a.d*b.d)
def jg (a b:RQ):RQ:=iP a (y_ b)
def kZ (a b:RQ):Int:=wH (jg a b)
def mZ (a b:RQ):RQ:=iq (!(a.neg==b.neg)) (a.n*b.n) (a.d*b.d)
def xG (a b:RQ):RQ:=iq (!(a.neg==b.neg)) (a.n*b.d) (a.d*b.n)
theorem kM {q:RQ} (h:q.ok):vQ q.neg (ae q.n) (ae q.d)=q:=by
 unfold vQ;rw [if_pos (qi q h),aB,aB]
theorem Jn {q:RQ} (h:q.ok):(y_ q).ok:=by
 refine ⟨h.1,h.2.1,fun a=> ?_⟩
 simp only [y_,Bool.and_eq_true,decide_eq_true_eq] at a
 exact a.2
theorem jD {a b:RQ} (c:a.ok) (d:b.ok):(iP a b).ok:=by
 have hd:0<a.d*b.d:=Nat.mul_pos c.1 d.1
 unfold iP;split
 ·exact mY hd
 ·split
  ·exact mY hd
  ·exact mY hd
theorem sD {a b:RQ} (c:a.ok) (d:b.ok):(mZ a b).ok:=mY (Nat.mul_pos c.1 d.1)
theorem Jz {a b:RQ} (c:a.ok) (d:0<b.n):(xG a b).ok:=mY (Nat.mul_pos c.1 d)
theorem Ew (x:Nat):x<2^(8*(ae x).length):=sF.1 (Nat.le_refl _)
theorem eH (x y:Nat):(ae (x*y)).length≤(ae x).length+(ae y).length:=by
 refine dR ?_
 rw [Nat.mul_add,Nat.pow_add]
 exact Nat.mul_lt_mul'' (Ew x) (Ew y)
theorem oq {x y:Nat} (h:x≤y):(ae x).length≤(ae y).length:=dR (Nat.lt_of_le_of_lt h (Ew y))
theorem yS (x y:Nat):(ae (x+y)).length≤(ae x).length+(ae y).length+1:=by
 refine dR ?_
 have b:=Nat.lt_of_lt_of_le (Ew x) (Nat.pow_le_pow_right (n:=2) (by omega) (show 8*(ae x).length≤8*((ae x).length+(ae y).length) by omega))
 have a:=Nat.lt_of_lt_of_le (Ew y) (Nat.pow_le_pow_right (n:=2) (by omega) (show 8*(ae y).length≤8*((ae x).length+(ae y).length) by omega))
 rw [show 8*((ae x).length+(ae y).length+1)=8*((ae x).length+(ae y).length)+8 by omega,Nat.pow_add]
 generalize 2^(8*((ae x).length+(ae y).length))=P at*
 omega
theorem acG (s:List UInt8):(ae (ag s)).length≤s.length:=dR (kN s)
theorem ou (s:Bool) (n d:List UInt8):(ae (vQ s n d).n).length≤n.length∧(ae (vQ s n d).d).length≤d.length+1:=by
 unfold vQ;split
 ·exact ⟨acG n,Nat.le_succ_of_le (acG d)⟩
 ·refine ⟨by show (ae 0).length≤_;rw [dU];simp, ?_⟩
  show (ae 1).length≤_
  have:(ae 1).length≤1:=dR (by decide)
  omega
theorem r_ (a:Bool) (n d:Nat):(ae (iq a n d).n).length≤(ae n).length∧(ae (iq a n d).d).length≤(ae d).length:=
 ⟨oq (Nat.div_le_self _ _),oq (Nat.div_le_self _ _)⟩
theorem yT (a b:RQ) (L:Nat) (e:(ae a.n).length≤L) (c:(ae a.d).length≤L) (i:(ae b.n).length≤L) (h:(ae b.d).length≤L):(ae (iP a b).n).length≤4*L+1∧(ae (iP a b).d).length≤2*L:=by
 have j:=eH a.n b.d
 have f:=eH b.n a.d
 have d:=eH a.d b.d
 have g:=yS (a.n*b.d) (b.n*a.d)
 unfold iP;split
 ·have:=r_ a.neg (a.n*b.d+b.n*a.d) (a.d*b.d);omega
 ·split
  ·have:=r_ a.neg (a.n*b.d - b.n*a.d) (a.d*b.d)
   have:=oq (Nat.sub_le (a.n*b.d) (b.n*a.d));omega
  ·have:=r_ b.neg (b.n*a.d - a.n*b.d) (a.d*b.d)
   have:=oq (Nat.sub_le (b.n*a.d) (a.n*b.d));omega
theorem ET (x y:Nat) (a:(ae x).length<2^34) (b:(ae y).length<2^34):CO 171 [.str (ae x),.str (ae y)] (.ret (.str (ae (x*y)))):=by
 have h:=aaM (ae x) (ae y) (by omega) (by omega)
 rw [aB,aB] at h;exact h
theorem acJ (x y:Nat) (a:(ae x).length<2^34) (b:(ae y).length<2^34):CO 71 [.str (ae x),.str (ae y)] (.ret (.str (ae (x+y)))):=by
 have h:=aaD (ae x) (ae y) (by omega) (by omega)
 rw [aB,aB] at h;exact h
theorem acK (x y:Nat) (b:(ae x).length<2^34) (c:(ae y).length<2^34) (a:y≤x):CO 199 [.str (ae x),.str (ae y)] (.ret (.tup [.str (ae (x - y)),.bool true])):=by
 have h:=aaO (ae x) (ae y) (by omega) (by omega) (by rw [aB,aB];exact a)
 rw [aB,aB] at h;exact h
theorem air (x y:Nat) (b:(ae x).length<2^34) (c:(ae y).length<2^34) (a:x<y):CO 199 [.str (ae x),.str (ae y)] (.ret (.tup [.str [],.bool false])):=
 aaN (ae x) (ae y) (by omega) (by omega) (by rw [aB,aB];exact a)
theorem Xy (x y:Nat) (a:(ae x).length<2^33) (b:(ae y).length<2^33):CO 100 [.str (ae x),.str (ae y)] (.ret (.str (ae (x*y)))):=by
 have h:=WV (ae x) (ae y) (by omega) (by omega)
 rw [aB,aB] at h;exact h
theorem ai2 (x y:Nat) (a:(ae x).length<2^33) (b:(ae y).length<2^33):CO 80 [.str (ae x),.str (ae y)] (.ret (.str (ae (x+y)))):=by
 have h:=TZ (ae x) (ae y) (by omega) (by omega)
 rw [aB,aB] at h;exact h
theorem acO (x y:Nat) (b:(ae x).length<2^33) (c:(ae y).length<2^33) (a:y≤x):CO 102 [.str (ae x),.str (ae y)] (.ret (.tup [.str (ae (x - y)),.bool true])):=by
 have h:=Uf (ae x) (ae y) (by omega) (by omega) (by rw [aB,aB];exact a)
 rw [aB,aB] at h;exact h
theorem ai3 (x y:Nat) (a:(ae x).length<2^33) (b:(ae y).length<2^33):CO 101 [.str (ae x),.str (ae y)] (.ret (.int .i64 (lJ x y))):=by
 have h:=JB (ae x) (ae y) (by omega) (by omega)
 rw [aB,aB] at h;exact h
theorem Ib (a:Bool) (n d:Nat) (c:(ae n).length<2^33) (hd:(ae d).length<2^33) (b:0<d):CO 160 [.bool a,.str (ae n),.str (ae d)] (.ret (qA (iq a n d))):=by
 have h:=WM a (ae n) (ae d) (by omega) (by omega) (by rw [aB];exact b)
 rw [aB,aB] at h;exact h
theorem XO (q:RQ) (a:q.ok) (b:(ae q.n).length<2^33) (hd:(ae q.d).length<2^33):CO 121 [.agg [.bool q.neg,.str (ae q.n),.str (ae q.d)]] (.ret (.int .i64 (wH q))):=by
 have h:=oI q.neg (ae q.n) (ae q.d) (by omega) (by omega)
 rw [X0,kM a] at h;exact h
theorem nC (a:Bool) (n d:List UInt8) (e:n.length<2^33) (hd:d.length<2^33):CO 170 [.agg [.bool a,.str n,.str d]] (.ret (qA (vQ a n d))):=by
 have c:=lV a n d (by omega) (by omega)
 unfold vQ
 cases b:iO a n d with
 |false=>
  rw [b] at c
  have h:=ajD a false n d [] [] q0 q0 q0 b (by rw [b];exact c) jl
  rw [if_neg (by simp)]
  exact h
 |true=>
  rw [b] at c
  have h:=ajE a false n d [] [] q0 q0 q0 b (by rw [b];exact c)
  rw [if_pos rfl,← Qr b]
  exact h
theorem XL (b:Bool) (n d:List UInt8) (g:n.length<2^33) (hd:d.length<2^33):CO 200 [.agg [.bool b,.str n,.str d]] (.ret (qA (y_ (vQ b n d)))):=by
 have f:=nC b n d g hd
 generalize vQ b n d=a at*
 have e:(!((ae a.n)== []))=decide (0<a.n):=by
  rcases Nat.eq_zero_or_pos a.n with h|h
  ·rw [h,dU];rfl
  ·rw [decide_eq_true h,Bool.not_eq_true',beq_eq_false_iff_ne]
   intro i;rw [iT] at i;omega
 unfold y_ qA
 cases c:a.neg with
 |false=>
  have h:=ajs b false n d [] [] a q0 q0 c f
  rw [e] at h;exact h
 |true=>exact ajt b false n d [] [] a q0 q0 c f
theorem FB (g h:Bool) (c e f d:List UInt8) (s:c.length<2^29) (r:e.length<2^29) (D:f.length<2^29) (t:d.length<2^29):CO 167 [.agg [.bool g,.str c,.str e],.agg [.bool h,.str f,.str d]] (.ret (qA (iP (vQ g c e) (vQ h f d)))):=by
 have m:=nC g c e (by omega) (by omega)
 have j:=nC h f d (by omega) (by omega)
 obtain ⟨x,v⟩:=ou g c e
 obtain ⟨q,C⟩:=ou h f d
 have p:=lZ g c e
 have o:=lZ h f d
 generalize vQ g c e=a at*
 generalize vQ h f d=b at*
 have hd:0<a.d*b.d:=Nat.mul_pos p.1 o.1
 have w:=eH a.n b.d
 have A:=eH b.n a.d
 have y:=eH a.d b.d
 have k:=ET a.n b.d (by omega) (by omega)
 have l:=ET b.n a.d (by omega) (by omega)
 have n:=ET a.d b.d (by omega) (by omega)
 have B:=yS (a.n*b.d) (b.n*a.d)
 have z:=oq (Nat.sub_le (a.n*b.d) (b.n*a.d))
 have u:=oq (Nat.sub_le (b.n*a.d) (a.n*b.d))
 unfold iP
 by_cases hs:a.neg=b.neg
 ·rw [if_pos hs]
  exact abf g h c e f d a b _ (by rw [hs];exact beq_self_eq_true _) m j k l n (acJ _ _ (by omega) (by omega)) (Ib a.neg _ _ (by omega) (by omega) hd)
 ·rw [if_neg hs]
  have i:(a.neg==b.neg)=false:=beq_eq_false_iff_ne.2 hs
  by_cases hl:b.n*a.d≤a.n*b.d
  ·rw [if_pos hl]
   exact abg g h c e f d a b _ i m j k l n (acK _ _ (by omega) (by omega) hl) (Ib a.neg _ _ (by omega) (by omega) hd)
  ·rw [if_neg hl]
   exact abe g h c e f d a b _ i m j k l n (air _ _ (by omega) (by omega) (by omega)) (acK _ _ (by omega) (by omega) (by omega)) (Ib b.neg _ _ (by omega) (by omega) hd)
theorem FD (f c:Bool) (e d a b:List UInt8) (l:e.length<2^29) (k:d.length<2^29) (o:a.length<2^28) (n:b.length<2^28):CO 168 [.agg [.bool f,.str e,.str d],.agg [.bool c,.str a,.str b]] (.ret (qA (jg (vQ f e d) (vQ c a b)))):=by
 have j:=XL c a b (by omega) (by omega)
 obtain ⟨i,m⟩:=ou c a b
 have g:=Jn (lZ c a b)
 unfold jg
 have h:=FB f (y_ (vQ c a b)).neg e d (ae (y_ (vQ c a b)).n) (ae (y_ (vQ c a b)).d) l k (Nat.lt_of_le_of_lt i (by omega)) (Nat.lt_of_le_of_lt m (by omega))
 rw [kM g] at h
 exact ajz f c e d a b q0 _ _ j h
theorem FC (e f:Bool) (b a c d:List UInt8) (q:b.length<2^28) (o:a.length<2^28) (k:c.length<2^28) (j:d.length<2^28):CO 127 [.agg [.bool e,.str b,.str a],.agg [.bool f,.str c,.str d]] (.ret (.int .i64 (kZ (vQ e b a) (vQ f c d)))):=by
 have h:=FD e f b a c d (by omega) (by omega) k j
 obtain ⟨p,m⟩:=ou e b a
 obtain ⟨g,l⟩:=ou f c d
 have i:(jg (vQ e b a) (vQ f c d)).ok:=jD (lZ _ _ _) (Jn (lZ _ _ _))
 have n:=yT (vQ e b a) (y_ (vQ f c d)) (2^29) (by omega) (by omega) (Nat.le_trans g (by omega)) (Nat.le_trans l (by omega))
 exact ajm e f b a c d q0 q0 _ h (XO _ i (by unfold jg;omega) (by unfold jg;omega))
theorem Me (g i:Bool) (c e f d:List UInt8) (p:c.length<2^29) (o:e.length<2^29) (v:f.length<2^29) (q:d.length<2^29) (k:0<(vQ i f d).n):CO 125 [.agg [.bool g,.str c,.str e],.agg [.bool i,.str f,.str d]] (.ret (.tup [qA (xG (vQ g c e) (vQ i f d)),.bool true])):=by
 have m:=nC g c e (by omega) (by omega)
 have j:=nC i f d (by omega) (by omega)
 obtain ⟨s,r⟩:=ou g c e
 obtain ⟨n,u⟩:=ou i f d
 have l:=lZ g c e
 generalize vQ g c e=a at*
 generalize vQ i f d=b at*
 have w:=eH a.n b.d
 have t:=eH a.d b.n
 exact ajv g i c e f d a b (xG a b) (by rw [beq_eq_false_iff_ne];intro h;rw [iT] at h;omega) m j (ET a.n b.d (by omega) (by omega)) (ET a.d b.n (by omega) (by omega)) (Ib _ _ _ (by omega) (by omega) (Nat.mul_pos l.1 k))
theorem XM (f d:Bool) (e c a b:List UInt8) (k:e.length<2^29) (j:c.length<2^29) (m:a.length<2^29) (l:b.length<2^29) (h:(vQ d a b).n=0):CO 125 [.agg [.bool f,.str e,.str c],.agg [.bool d,.str a,.str b]] (.ret (.tup [.agg [.bool false,.str [],.str []],.bool false])):=by
 have i:=nC f e c (by omega) (by omega)
 have g:=nC d a b (by omega) (by omega)
 exact aju f d e c a b _ _ q0 (by rw [h,dU];rfl) i g
theorem aa4 (g h:Bool) (c e f d:List UInt8) (u:c.length<2^29) (t:e.length<2^29) (F:f.length<2^29) (v:d.length<2^29):CO 62 [.agg [.bool g,.str c,.str e],.agg [.bool h,.str f,.str d]] (.ret (qA (iP (vQ g c e) (vQ h f d)))):=by
 have n:=zi g c e (by omega) (by omega)
 have j:=zi h f d (by omega) (by omega)
 obtain ⟨z,x⟩:=ou g c e
 obtain ⟨s,E⟩:=ou h f d
 have r:=lZ g c e
 have q:=lZ h f d
 generalize vQ g c e=a at*
 generalize vQ h f d=b at*
 have hd:0<a.d*b.d:=Nat.mul_pos r.1 q.1
 have y:=eH a.n b.d
 have C:=eH b.n a.d
 have A:=eH a.d b.d
 have l:=Xy a.n b.d (by omega) (by omega)
 have m:=Xy b.n a.d (by omega) (by omega)
 have o:=Xy a.d b.d (by omega) (by omega)
 have D:=yS (a.n*b.d) (b.n*a.d)
 have B:=oq (Nat.sub_le (a.n*b.d) (b.n*a.d))
 have w:=oq (Nat.sub_le (b.n*a.d) (a.n*b.d))
 unfold iP
 by_cases hs:a.neg=b.neg
 ·rw [if_pos hs]
  exact aa5 g h c e f d a b _ (by rw [hs];exact beq_self_eq_true _) n j l m o (ai2 _ _ (by omega) (by omega)) (zh a.neg _ _ (by omega) (by omega) hd)
 ·rw [if_neg hs]
  have i:(a.neg==b.neg)=false:=beq_eq_false_iff_ne.2 hs
  have p:=ai3 (a.n*b.d) (b.n*a.d) (by omega) (by omega)
  by_cases hl:b.n*a.d≤a.n*b.d
  ·rw [if_pos hl]
   have k:decide (((0:Nat):Int)≤lJ (a.n*b.d) (b.n*a.d))=true:=by unfold lJ;rw [if_neg (by omega)];split<;>rfl
   exact aa6 g h c e f d a b _ k i n j l m o p (acO _ _ (by omega) (by omega) hl) (zh a.neg _ _ (by omega) (by omega) hd)
  ·rw [if_neg hl]
   have k:decide (((0:Nat):Int)≤lJ (a.n*b.d) (b.n*a.d))=false:=by unfold lJ;rw [if_pos (by omega)];rfl
   exact aa7 g h c e f d a b _ k i n j l m o p (acO _ _ (by omega) (by omega) (by omega)) (zh b.neg _ _ (by omega) (by omega) hd)
theorem QZ (g h:Bool) (c e f d:List UInt8) (o:c.length<2^29) (n:e.length<2^29) (u:f.length<2^29) (p:d.length<2^29):CO 169 [.agg [.bool g,.str c,.str e],.agg [.bool h,.str f,.str d]] (.ret (qA (mZ (vQ g c e) (vQ h f d)))):=by
 have l:=nC g c e (by omega) (by omega)
 have i:=nC h f d (by omega) (by omega)
 obtain ⟨r,q⟩:=ou g c e
 obtain ⟨m,t⟩:=ou h f d
 have k:=lZ g c e
 have j:=lZ h f d
 generalize vQ g c e=a at*
 generalize vQ h f d=b at*
 have v:=eH a.n b.n
 have s:=eH a.d b.d
 exact ajr g h c e f d a b (mZ a b) l i (ET a.n b.n (by omega) (by omega)) (ET a.d b.d (by omega) (by omega)) (Ib _ _ _ (by omega) (by omega) (Nat.mul_pos k.1 j.1))
end Go.Proofs.Tryz
set_option maxRecDepth 100000
open Go AM
namespace Go.Proofs.Tryz
def RQ.rt (q:RQ):Rat:=(if q.neg then -1 else 1)*(q.n:Rat) / (q.d:Rat)
theorem yY {x:Nat} (h:0<x):(x:Rat) ≠ 0:=by
 intro e
 have:x=0:=by exact_mod_cast e
 omega
theorem JG (c:Bool) (n d:Nat) (h:0<d):(iq c n d).rt=(if c then -1 else 1)*(n:Rat) / (d:Rat):=by
 obtain ⟨a,k⟩:=Nat.gcd_dvd_left n d
 obtain ⟨b,i⟩:=Nat.gcd_dvd_right n d
 have e:0<Nat.gcd n d:=Nat.gcd_pos_of_pos_right n h
 unfold iq RQ.rt
 simp only
 generalize Nat.gcd n d=g at*
 subst k i
 rw [Nat.mul_div_cancel_left _ e,Nat.mul_div_cancel_left _ e]
 have f:0<b:=Nat.pos_of_mul_pos_left h
 have l:=yY e
 have m:=yY f
 have j:((if (c && decide (0<g*a))=true then -1 else 1:Rat))*(a:Rat)=(if c=true then -1 else 1)*(a:Rat):=by
  rcases Nat.eq_zero_or_pos a with h0|h0
  ·subst h0;simp
  ·rw [decide_eq_true (Nat.mul_pos e h0),Bool.and_true]
 rw [j,Rat.natCast_mul,Rat.natCast_mul]
 grind
theorem aft (q:RQ):(y_ q).rt= - q.rt:=by
 unfold y_ RQ.rt
 rcases Nat.eq_zero_or_pos q.n with h0|h0
 ·simp [h0];grind
 ·cases q.neg<;>simp [h0]<;>grind
theorem XJ {a b:RQ} (j:a.ok) (i:b.ok):(iP a b).rt=a.rt+b.rt:=by
 have l:=yY j.1
 have k:=yY i.1
 have hd:0<a.d*b.d:=Nat.mul_pos j.1 i.1
 unfold iP
 split
 ·rename_i hs
  rw [JG _ _ _ hd,Rat.natCast_add,Rat.natCast_mul,Rat.natCast_mul,Rat.natCast_mul]
  unfold RQ.rt
  rw [hs]
  cases b.neg<;>simp<;>grind
 ·rename_i hs
  split
  ·rename_i e
   obtain ⟨c,d⟩:=Nat.exists_eq_add_of_le e
   have h:(a.n:Rat)*b.d=b.n*a.d+c:=by
    have:=congrArg (fun x:Nat=>(x:Rat)) d
    simpa only [Rat.natCast_add,Rat.natCast_mul] using this
   rw [d,Nat.add_sub_cancel_left,JG _ _ _ hd,Rat.natCast_mul]
   unfold RQ.rt
   cases g:a.neg<;>cases f:b.neg<;>simp [g,f] at hs ⊢ <;>grind
  ·rename_i e
   obtain ⟨c,d⟩:=Nat.exists_eq_add_of_le (Nat.le_of_not_le e)
   have h:(b.n:Rat)*a.d=a.n*b.d+c:=by
    have:=congrArg (fun x:Nat=>(x:Rat)) d
    simpa only [Rat.natCast_add,Rat.natCast_mul] using this
   rw [d,Nat.add_sub_cancel_left,JG _ _ _ hd,Rat.natCast_mul]
   unfold RQ.rt
   cases g:a.neg<;>cases f:b.neg<;>simp [g,f] at hs ⊢ <;>grind
theorem afs {a b:RQ} (g:a.ok) (f:b.ok) (h:a.rt=b.rt):a=b:=by
 have key:∀ q:RQ,q.ok→∃ h1 h2,q.rt=(⟨if q.neg then -(q.n:Int) else q.n,q.d,h1,h2⟩:Rat):=by
  intro q d
  refine ⟨Nat.pos_iff_ne_zero.1 d.1, ?_, ?_⟩
  ·show Nat.gcd _ _=1
   rw [← d.2.1];split<;>simp
  ·rw [Rat.mk_eq_mkRat]
   unfold RQ.rt
   rw [Rat.mkRat_eq_div]
   cases q.neg<;>simp [Rat.intCast_natCast]<;>grind
 obtain ⟨_,_,j⟩:=key a g
 obtain ⟨_,_,l⟩:=key b f
 rw [j,l] at h
 have c:=congrArg Rat.num h
 have hd:=congrArg Rat.den h
 simp only at c hd
 obtain ⟨m,r,o⟩:=a
 obtain ⟨k,n,p⟩:=b
 simp only at c hd
 have i:=g.2.2
 have e:=f.2.2
 simp only at i e
 cases m<;>cases k<;>simp at c i e ⊢ <;>omega
theorem afv {a b:RQ} (c:a.ok) (d:(y_ b).ok):(jg a b).rt=a.rt - b.rt:=by
 unfold jg;rw [XJ c d,aft];grind
theorem Rf {q:RQ} (h:q.ok):(wH q<0↔q.rt<0)∧(wH q=0↔q.rt=0)∧(0<wH q↔0<q.rt):=by
 have b:=yY h.1
 have hd:(0:Rat)<q.d:=by
  have:0<q.d:=h.1
  exact_mod_cast this
 unfold wH RQ.rt
 rcases Nat.eq_zero_or_pos q.n with h0|h0
 ·have:(0:Rat) / q.d=0:=by grind
  simp [h0,this]
 ·have a:(0:Rat)<q.n:=by exact_mod_cast h0
  have hp:(0:Rat)<(q.n:Rat) / q.d:=(by rw [Rat.div_def];exact Rat.mul_pos a (Rat.inv_pos.2 hd))
  rw [if_neg (by omega)]
  cases q.neg<;>simp<;>grind
def flI (q:RQ):Int:=if q.neg then -((q.n / q.d+(if q.n % q.d=0 then 0 else 1):Nat):Int) else ((q.n / q.d:Nat):Int)
def Tu (k:Int):RQ:=⟨decide (k<0),k.natAbs,1⟩
theorem Qq (k:Int):(Tu k).ok:=⟨Nat.one_pos,Nat.gcd_one_right _,fun h=>by
 have:k<0:=of_decide_eq_true h
 show 0<k.natAbs
 omega⟩
def CU (a s:RQ):RQ:=mZ (Tu (flI (xG a s))) s
def eqR (a b:RQ):Bool:=(a.neg==b.neg) && ((ae a.n==ae b.n) && (ae a.d==ae b.d))
theorem ZH {a b:RQ}:eqR a b=true↔a=b:=by
 obtain ⟨s,n,d⟩:=a
 obtain ⟨s',c,e⟩:=b
 simp only [eqR,Bool.and_eq_true,beq_iff_eq,RQ.mk.injEq]
 exact ⟨fun h=> ⟨h.1,EP h.2.1,EP h.2.2⟩,fun h=> ⟨h.1,by rw [h.2.1],by rw [h.2.2]⟩⟩
def upR (a s:RQ):RQ:=if eqR (CU a s) a=true then a else iP (CU a s) s
def nrR (a s:RQ):RQ:=if 0≤kZ (iP (jg a (CU a s)) (jg a (CU a s))) s then iP (CU a s) s else CU a s
theorem pX {a b:RQ} (c:a.ok) (d:b.ok):(jg a b).ok:=jD c (Jn d)
theorem abD {a b:RQ} (c:a.ok) (d:b.ok):(jg a b).rt=a.rt - b.rt:=afv c (Jn d)
theorem CQ {a b:RQ} (c:a.ok) (d:b.ok):(kZ a b<0↔a.rt<b.rt)∧(kZ a b=0↔a=b)∧(0<kZ a b↔b.rt<a.rt):=by
 have h:=Rf (pX c d)
 rw [abD c d] at h
 unfold kZ
 refine ⟨h.1.trans ?_,h.2.1.trans ?_,h.2.2.trans ?_⟩
 ·constructor<;>intro _<;>grind
 ·constructor
  ·intro e;exact afs c d (by grind)
  ·intro e;rw [e];grind
 ·constructor<;>intro _<;>grind
theorem afu {s:RQ} (hs:s.ok) (h:0<wH s):0<s.rt∧0<s.n:=by
 refine ⟨(Rf hs).2.2.1 h, ?_⟩
 unfold wH at h;split at h<;>omega
theorem xh {a s:RQ} (hs:s.ok):(CU a s).ok:=sD (Qq _) hs
def ja:RQ→List (RQ × RQ)→List RQ
 |acc,b::b'::l=>acc::ja (iP acc (mZ (jg b'.1 b.1) b.2)) (b'::l)
 |acc,_=> [acc]
def iH (l:List (RQ × RQ)) (x:RQ):Nat:=(l.takeWhile fun b=> !(decide (0<kZ b.1 x))).length
def atR (l:List (RQ × RQ)) (x:RQ):RQ:=iP ((ja q0 l).getD (iH l x - 1) q0) (mZ (l.getD (iH l x - 1) (q0,q0)).2 (jg x (l.getD (iH l x - 1) (q0,q0)).1))
def jO:List (RQ × RQ)→Prop
 |b::b'::l=>b.1.rt<b'.1.rt∧jO (b'::l)
 |_=>True
theorem jO.all:∀ {b:RQ × RQ} {l:List (RQ × RQ)},jO (b::l)→∀ y ∈ l,b.1.rt<y.1.rt
 |b,[],_,y,hy=>by cases hy
 | b,b'::l,h,y,hy=>by
  rcases List.mem_cons.1 hy with rfl|hy
  ·exact h.1
  ·have:=jO.all h.2 y hy
   have:=h.1
   grind
theorem jO.tail {b:RQ × RQ} {l:List (RQ × RQ)} (h:jO (b::l)):jO l:=by
 cases l with
 |nil=>exact True.intro
 |cons _ _=>exact h.2
theorem Y_ {b:RQ × RQ} {l:List (RQ × RQ)} {x:RQ} (h:¬ 0<kZ b.1 x):iH (b::l) x=iH l x+1:=by
 unfold iH;rw [List.takeWhile_cons_of_pos (by simp at h ⊢;omega)];simp
end Go.Proofs.Tryz
