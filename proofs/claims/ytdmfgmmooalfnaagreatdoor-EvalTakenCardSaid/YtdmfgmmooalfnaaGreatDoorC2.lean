/- Contracts of functions that the law reaches, each by its own hypotheses; joined by a program of mine. -/
import Derived.Test.YtdmfgmmooalfnaaGreatDoorC1
import Derived.Test.YtdmfgmmooalfnaaGreatDoorM5
set_option linter.unusedSimpArgs false
set_option linter.unusedVariables false
set_option maxRecDepth 100000
open Go AM
namespace Go.Proofs.Tryz
abbrev zcc2_0 : List AV := [.str [],.int .i64 0,.bool false,.bool false,.bool false]
def NK (l:List Nat):AV:=match l with| []=> .nilS|x::l=> .ref 0 0 0 (x::l).length
def NL (l:List Nat):Hp:=match l with| []=> []|x::l=> [(0,⟨ak (x::l),0,false,0,1,true⟩)]
theorem gz {l:List Nat} (h:l ≠ []):NK l= .ref 0 0 0 l.length:=by cases l with|nil=>exact absurd rfl h|cons _ _=>rfl
theorem gB {l:List Nat} (h:l ≠ []):NL l= [(0,⟨ak l,0,false,0,1,true⟩)]:=by cases l with|nil=>exact absurd rfl h|cons _ _=>rfl
theorem iT (l:List Nat) (y:Nat):l++ [y] ≠ []:=by simp
theorem Qy {p s:List Nat} {x k:Nat} (h:k=p.length):List.headD (List.drop k (ak (p++x::s))) .dead= .int .i64 (x:Int):=by
 rw [gp (by subst h;simp)];subst h;simp
def UJ (d:Nat):List Nat→Nat→List Nat × Nat
 | [],c=>([],c)
 |x::l,c=>((x*d+c) % 16777216::(UJ d l ((x*d+c) / 16777216)).1,(UJ d l ((x*d+c) / 16777216)).2)
theorem Nk {d x c:Nat} (hd:d<16777216) (b:x<16777216) (e:c<16777216):x*d+c<281474976710656∧(x*d+c) / 16777216<16777216∧x*d<281474976710656:=by
 have a:x*d≤16777215*16777215:=Nat.mul_le_mul (by omega) (by omega)
 omega
theorem acF {d:Nat} (hd:d<16777216) (l:List Nat):∀ c,c<16777216→bu l→(UJ d l c).2<16777216∧bu (UJ d l c).1∧(UJ d l c).1.length=l.length∧cO (UJ d l c).1+16777216^l.length*(UJ d l c).2=cO l*d+c:=by
 induction l with
 |nil=>intro c a _;exact ⟨a,bu.nil,rfl,by simp [UJ,cO]⟩
 |cons x l ih=>
  intro c a b
  obtain ⟨_,f,_⟩:=Nk hd b.head a
  obtain ⟨e,g,h,i⟩:=ih _ f b.tail
  simp only [UJ]
  refine ⟨e,bu.cons (Nat.mod_lt _ (by omega)) g,by simp [h], ?_⟩
  simp only [cO,List.length_cons,Nat.pow_succ]
  rw [Nat.mul_comm (16777216^l.length),Nat.mul_assoc,Nat.add_mul,Nat.mul_assoc 16777216 (cO l)]
  omega
def UK (a:List Nat) (na:Bool) (d:Nat) (p:Nat × Nat × List Nat):St:=⟨[(0,.sl (ak a) a.length na),(1,.int .i64 (d:Int)),(6,.int .i64 (p.2.1:Int)),(7,.int .i64 (p.1:Int)),(5,NK p.2.2)],NL p.2.2,.dead,[]⟩
def RX (p:Nat × List Nat):St:=⟨[(5,NK p.2),(6,.int .i64 (p.1:Int))],NL p.2,.dead,[]⟩
theorem acI {nt:Nat} (g:35≤nt) (a o:List Nat) (f:Bool) (d c k x:Nat) (p:a.length<2^40) (q:k<a.length) (n:o.length=k) (h:a.getD k 0=x) (i:x*d+c<281474976710656) (l:x*d<281474976710656):
  ax prog ap [] nt (ag 0 (ai f188)) (UK a f d (k,c,o)) .normal (UK a f d (k+1,(x*d+c) / 16777216,o++ [(x*d+c) % 16777216])):=by
 unfold UK
 have m:(x*d+c) / 16777216<9223372036854775808:=by omega
 have j:(x*d+c) % 16777216<9223372036854775808:=by omega
 have e:(((x*d:Nat):Int))+(c:Int)=((x*d+c:Nat):Int):=by omega
 rcases Decidable.em (o= []) with rfl|hne
 ·have b:=agD g a [] f d c k
  simp (disch:=first|omega|(simp [ay,az]<;>omega)) only [aJ,Nat.mul_one,gp,h,d_,eu,bG,bI,bQ,bg,yz,bz,e,su,dD,uu] at b
  simp only [List.nil_append,NK,NL,ak,List.map_cons,List.map_nil,List.length_cons,List.length_nil] at b ⊢
  apply b<;>first|exact True.intro|omega|assumption|exact rfl
 ·have b:=agB g a o f d c k
  rw [gz hne,gB hne,gz (iT _ _),gB (iT _ _)]
  simp (disch:=first|omega|(simp [ay,az]<;>omega)) only [fZ,bG,Nat.mul_one,bZ,aJ,gp,h,d_,eu,bI,bQ,bg,yz,bz,e,su,dD,dK,List.take_length,uu,kJ] at b
  simp only [List.length_append,List.length_singleton]
  apply b<;>first|exact True.intro|omega|assumption|exact rfl
theorem acG {nt:Nat} (f:35≤nt) (a o:List Nat) (e:Bool) (d c:Nat):ax prog ap [] nt (ag 0 (ai f188)) (UK a e d (a.length,c,o)) (.exit 0) (RX (c,o)):=by
 unfold UK RX
 rcases Decidable.em (o= []) with rfl|hne
 ·have b:=agF f a [] e d c a.length (by rw [bI];simp [lit])
  exact b
 ·have b:=agC f a o e d c a.length (by rw [bI];simp [lit])
  rw [gz hne,gB hne]
  exact b
theorem acH {nt:Nat} (g:35≤nt) (a:List Nat) (f:Bool) (d:Nat) (hd:d<16777216) (q:a.length<2^40) (e:bu a):∀ (l p o:List Nat) (c:Nat),p++l=a→o.length=p.length→c<16777216→
  aI prog ap [] nt (ag 0 (ai f188)) (fun _=> .exit 0) (UK a f d) RX (p.length,c,o) ((UJ d l c).2,o++(UJ d l c).1):=by
 intro l
 induction l with
 |nil=>
  intro p o c h b i
  have hp:p=a:=by simpa using h
  rw [hp]
  simp only [UJ,List.append_nil]
  exact .done (acG g a o f d c)
 |cons x l ih=>
  intro p o c h b i
  have s:p.length+(l.length+1)=a.length:=by rw [← h];simp
  have r:x<16777216:=e x (by rw [← h];simp)
  have j:a.getD p.length 0=x:=by rw [← h];simp
  obtain ⟨k,n,m⟩:=Nk hd r i
  have hnext:=ih (p++ [x]) (o++ [(x*d+c) % 16777216]) ((x*d+c) / 16777216) (by simp [h]) (by simp [b]) n
  rw [List.length_append,List.length_singleton,List.append_assoc] at hnext
  exact .next (acI g a o f d c p.length x q (by omega) b j k m) hnext
theorem Nh (x d:Nat) (a:Bool) (hd:d<16777216) (m:(au x).length<2^36):CO 188 [.sl (ak (au x)) (au x).length a,.int .i64 (d:Int)] (.ret (.sl (ak (au (x*d))) (au (x*d)).length true)):=by
 obtain ⟨f,g,i,j⟩:=acF hd (au x) 0 (by omega) (bu.dig x)
 have hloop:=fun nt (hn:35≤nt)=>acH hn (au x) a d hd (by omega) (bu.dig x) (au x) [] [] 0 rfl rfl (by omega)
 generalize n:UJ d (au x) 0=r at*
 obtain ⟨o,c⟩:=r
 simp only [List.nil_append,List.length_nil] at hloop f g i j
 rw [eP,Nat.add_zero] at j
 have k:cO (o++ [c])=x*d:=by rw [zM,i];simp only [cO];omega
 have e:=zu (o++ [c]) true (by simp;omega)
 rw [R_ (bu.app g (bu.cons f bu.nil)),k] at e
 rcases Decidable.em (o= []) with rfl|hne
 ·have h:=ab8 (au x) [] (au (x*d)) a d c
  apply h
  ·exact aI.blk hloop (by simp) rfl (aQ.of ⟨rfl,rfl,rfl,rfl,rfl,trivial⟩) (aQ.of ⟨rfl,rfl,trivial⟩)
  ·exact e
 ·have h:=ab7 (au x) o (au (x*d)) a d c
  have l:o.length<2^37:=by omega
  have b:List.take (o.length+1) (ak (o++ [c]))=ak (o++ [c]):=by
   rw [dK,List.take_of_length_le (by simp)]
  simp (disch:=first|omega|(simp [ay,az]<;>omega)) only [fZ,bG,Nat.mul_one,bZ,dK,List.take_length,kJ] at h
  rw [List.length_append,List.length_singleton] at e
  rw [← dK] at h
  rw [b] at h
  apply h<;>first|exact True.intro|omega|assumption|exact rfl|skip
  ·exact aI.blk hloop (by simp) rfl (aQ.of ⟨rfl,rfl,rfl,rfl,rfl,trivial⟩) (by unfold RX;rw [gz hne,gB hne];exact aQ.of ⟨rfl,rfl,trivial⟩)
def OO:List Nat→List Nat→Nat→List Nat × Nat
 | [],_,c=>([],c)
 |x::u,v,c=>((if x<v.headD 0+c then x+16777216 - (v.headD 0+c) else x - (v.headD 0+c))::(OO u v.tail (if x<v.headD 0+c then 1 else 0)).1,(OO u v.tail (if x<v.headD 0+c then 1 else 0)).2)
theorem ai4 {v:List Nat} (h:bu v):v.headD 0<16777216:=by cases v with|nil=>show 0<16777216;omega|cons d l=>exact h.head
theorem alp {v:List Nat} (h:bu v):bu v.tail:=by cases v with|nil=>exact h|cons d l=>exact h.tail
theorem UX (v:List Nat):cO v=v.headD 0+16777216*cO v.tail:=by cases v with|nil=>rfl|cons d l=>rfl
theorem aaL (u:List Nat):∀ (v:List Nat) (c:Nat),c≤1→bu u→bu v→v.length≤u.length→(OO u v c).2≤1∧bu (OO u v c).1∧(OO u v c).1.length=u.length∧cO (OO u v c).1+cO v+c=cO u+16777216^u.length*(OO u v c).2:=by
 induction u with
 |nil=>
  intro v c g _ _ b
  have:v= []:=List.eq_nil_of_length_eq_zero (by simpa using b)
  subst this
  exact ⟨g,bu.nil,rfl,by simp [OO,cO]⟩
 |cons x u ih=>
  intro v c g e d b
  have m:=e.head
  have l:=ai4 d
  have a:v.tail.length≤u.length:=by simp at b ⊢;omega
  obtain ⟨h,i,j,k⟩:=ih v.tail (if x<v.headD 0+c then 1 else 0) (by split<;>omega) e.tail (alp d) a
  simp only [OO]
  refine ⟨h,bu.cons (by split<;>omega) i,by rw [List.length_cons,j,List.length_cons], ?_⟩
  rw [UX v]
  simp only [cO,List.length_cons,Nat.pow_succ]
  rw [Nat.mul_comm (16777216^u.length),Nat.mul_assoc]
  generalize OO u v.tail (if x<v.headD 0+c then 1 else 0)=r at*
  split at k<;>rename_i f
  ·rw [if_pos f];omega
  ·rw [if_neg f];omega
def TY (a b:List Nat) (na nb:Bool) (p:Nat × Nat × List Nat):St:=⟨[(0,.sl (ak a) a.length na),(1,.sl (ak b) b.length nb),(6,.int .i64 (p.2.1:Int)),(7,.int .i64 (p.1:Int)),(5,NK p.2.2)],NL p.2.2,.dead,[]⟩
def QM (p:Nat × List Nat):St:=⟨[(5,NK p.2)],NL p.2,.dead,[]⟩
theorem aaO {nt:Nat} (h:41≤nt) (a b o:List Nat) (f g:Bool) (c k x y:Nat) (q:a.length<2^40) (p:b.length<2^40) (r:k<a.length) (s:o.length=k) (i:a.getD k 0=x) (j:b.getD k 0=y) (m:x<16777216) (n:y<16777216) (t:c≤1):
  ax prog ap [] nt (ag 0 (ai f151)) (TY a b f g (k,c,o)) .normal (TY a b f g (k+1,if x<y+c then 1 else 0,o++ [if x<y+c then x+16777216 - (y+c) else x - (y+c)])):=by
 unfold TY
 by_cases hkb:k<b.length<;>by_cases hlt:x<y+c<;>simp only [hlt,if_true,if_false]
 ·have e:((x:Int) - (c:Int) - (y:Int)+((16777216:Nat):Int))=((x+16777216 - (y+c):Nat):Int):=by omega
  rcases Decidable.em (o= []) with rfl|hne
  ·have d:=agp h a b [] f g c k
   simp (disch:=first|omega|(simp [ay,az]<;>omega)) only [aJ,Nat.mul_one,gp,i,bg,bF,j,bQ,bG,d_,eu,bI,dD] at d
   rw [e] at d
   simp only [List.nil_append,NK,NL,ak,List.map_cons,List.map_nil,List.length_cons,List.length_nil] at d ⊢
   apply d<;>first|exact True.intro|omega|assumption|exact rfl
  ·have d:=agi h a b o f g c k
   rw [gz hne,gB hne,gz (iT _ _),gB (iT _ _)]
   simp (disch:=first|omega|(simp [ay,az]<;>omega)) only [fZ,bG,Nat.mul_one,aJ,gp,i,bg,bF,j,bQ,d_,eu,bI,dD] at d
   rw [e] at d
   simp (disch:=first|omega|(simp [ay,az]<;>omega)) only [bZ,dK,List.take_length,kJ] at d
   simp only [List.length_append,List.length_singleton]
   apply d<;>first|exact True.intro|omega|assumption|exact rfl
 ·have e:((x:Int) - (c:Int) - (y:Int))=((x - (y+c):Nat):Int):=by omega
  rcases Decidable.em (o= []) with rfl|hne
  ·have d:=agq h a b [] f g c k
   simp (disch:=first|omega|(simp [ay,az]<;>omega)) only [aJ,Nat.mul_one,gp,i,bg,bF,j,fB,gy,gY,d_,eu,bG,bI,bQ,dD] at d
   rw [e] at d
   simp only [List.nil_append,NK,NL,ak,List.map_cons,List.map_nil,List.length_cons,List.length_nil] at d ⊢
   apply d<;>first|exact True.intro|omega|assumption|exact rfl
  ·have d:=agj h a b o f g c k
   rw [gz hne,gB hne,gz (iT _ _),gB (iT _ _)]
   simp (disch:=first|omega|(simp [ay,az]<;>omega)) only [fZ,bG,Nat.mul_one,aJ,gp,i,bg,bF,j,fB,gy,gY,d_,eu,bI,bQ,dD] at d
   rw [e] at d
   simp (disch:=first|omega|(simp [ay,az]<;>omega)) only [bZ,dK,List.take_length,kJ] at d
   simp only [List.length_append,List.length_singleton]
   apply d<;>first|exact True.intro|omega|assumption|exact rfl
 ·have l:y=0:=by rw [← j,List.getD_eq_getElem?_getD,List.getElem?_eq_none (by omega)];rfl
  have e:((x:Int) - (c:Int)+((16777216:Nat):Int))=((x+16777216 - (y+c):Nat):Int):=by omega
  rcases Decidable.em (o= []) with rfl|hne
  ·have d:=agr h a b [] f g c k
   simp (disch:=first|omega|(simp [ay,az]<;>omega)) only [aJ,Nat.mul_one,gp,i,bg,bF,bQ,bG,bI,fB,gy,gY,Nat.not_lt,d_,eu,dD] at d
   rw [e] at d
   simp only [List.nil_append,NK,NL,ak,List.map_cons,List.map_nil,List.length_cons,List.length_nil] at d ⊢
   apply d<;>first|exact True.intro|omega|assumption|exact rfl
  ·have d:=agk h a b o f g c k
   rw [gz hne,gB hne,gz (iT _ _),gB (iT _ _)]
   simp (disch:=first|omega|(simp [ay,az]<;>omega)) only [fZ,bG,Nat.mul_one,aJ,gp,i,bg,bF,bQ,bI,fB,gy,gY,Nat.not_lt,d_,eu,dD] at d
   rw [e] at d
   simp (disch:=first|omega|(simp [ay,az]<;>omega)) only [bZ,dK,List.take_length,kJ] at d
   simp only [List.length_append,List.length_singleton]
   apply d<;>first|exact True.intro|omega|assumption|exact rfl
 ·have l:y=0:=by rw [← j,List.getD_eq_getElem?_getD,List.getElem?_eq_none (by omega)];rfl
  have e:((x:Int) - (c:Int))=((x - (y+c):Nat):Int):=by omega
  rcases Decidable.em (o= []) with rfl|hne
  ·have d:=agt h a b [] f g c k
   simp (disch:=first|omega|(simp [ay,az]<;>omega)) only [aJ,Nat.mul_one,gp,i,bg,bF,fB,gy,gY,bI,Nat.not_lt,d_,eu,bG,bQ,dD] at d
   rw [e] at d
   simp only [List.nil_append,NK,NL,ak,List.map_cons,List.map_nil,List.length_cons,List.length_nil] at d ⊢
   apply d<;>first|exact True.intro|omega|assumption|exact rfl
  ·have d:=agl h a b o f g c k
   rw [gz hne,gB hne,gz (iT _ _),gB (iT _ _)]
   simp (disch:=first|omega|(simp [ay,az]<;>omega)) only [fZ,bG,Nat.mul_one,aJ,gp,i,bg,bF,fB,gy,gY,bI,Nat.not_lt,d_,eu,bQ,dD] at d
   rw [e] at d
   simp (disch:=first|omega|(simp [ay,az]<;>omega)) only [bZ,dK,List.take_length,kJ] at d
   simp only [List.length_append,List.length_singleton]
   apply d<;>first|exact True.intro|omega|assumption|exact rfl
theorem aaM {nt:Nat} (f:41≤nt) (a b o:List Nat) (e d:Bool) (c:Nat):ax prog ap [] nt (ag 0 (ai f151)) (TY a b e d (a.length,c,o)) (.exit 0) (QM (c,o)):=by
 unfold TY QM
 rcases Decidable.em (o= []) with rfl|hne
 ·exact agu f a b [] e d c a.length (by rw [bI];simp [lit])
 ·have g:=agm f a b o e d c a.length (by rw [bI];simp [lit])
  rw [gz hne,gB hne]
  exact g
theorem aaN {nt:Nat} (m:41≤nt) (a b:List Nat) (k g:Bool) (s:a.length<2^40) (i:b.length<2^40) (j:bu a) (e:bu b):∀ (l p o:List Nat) (c:Nat),p++l=a→o.length=p.length→c≤1→
  aI prog ap [] nt (ag 0 (ai f151)) (fun _=> .exit 0) (TY a b k g) QM (p.length,c,o) ((OO l (b.drop p.length) c).2,o++(OO l (b.drop p.length) c).1):=by
 intro l
 induction l with
 |nil=>
  intro p o c h f n
  have hp:p=a:=by simpa using h
  rw [hp]
  simp only [OO,List.append_nil]
  exact .done (aaM m a b o k g c)
 | cons x l ih=>
  intro p o c h f n
  have u:p.length+(l.length+1)=a.length:=by rw [← h];simp
  have t:x<16777216:=j x (by rw [← h];simp)
  have r:a.getD p.length 0=x:=by rw [← h];simp
  have q:(b.drop p.length).headD 0=b.getD p.length 0:=by
   rw [List.headD_eq_head?_getD,List.head?_drop,List.getD_eq_getElem?_getD]
  have d:(b.drop p.length).tail=b.drop (p.length+1):=by rw [List.tail_drop]
  have hnext:=ih (p++ [x]) (o++ [if x<b.getD p.length 0+c then x+16777216 - (b.getD p.length 0+c) else x - (b.getD p.length 0+c)]) (if x<b.getD p.length 0+c then 1 else 0) (by simp [h]) (by simp [f]) (by split<;>omega)
  rw [List.length_append,List.length_singleton,List.append_assoc] at hnext
  simp only [OO]
  rw [q,d]
  exact .next (aaO m a b o k g c p.length x _ s i (by omega) f r rfl t (e.getD _) n) hnext
theorem LP (x y:Nat) (e b:Bool) (h:y≤x) (u:(au x).length<2^36):CO 151 [.sl (ak (au x)) (au x).length e,.sl (ak (au y)) (au y).length b] (.ret (.sl (ak (au (x - y))) (au (x - y)).length false)):=by
 have i:=qO h
 obtain ⟨p,f,l,d⟩:=aaL (au x) (au y) 0 (by omega) (bu.dig x) (bu.dig y) i
 have hloop:=fun nt (hn:41≤nt)=>aaN hn (au x) (au y) e b (by omega) (by omega) (bu.dig x) (bu.dig y) (au x) [] [] 0 rfl rfl (by omega)
 rw [List.length_nil,List.drop_zero] at hloop
 generalize q:OO (au x) (au y) 0=r at*
 obtain ⟨o,c⟩:=r
 simp only [List.nil_append] at hloop p f l d
 rw [eP,eP,Nat.add_zero] at d
 have g:=zN f
 have n:c=0:=by
  rcases Nat.eq_zero_or_pos c with h0|h0
  ·exact h0
  ·have m:c=1:=by omega
   have s:=vS y
   have t:=Nat.pow_le_pow_right (show 0<16777216 by omega) i
   rw [m,Nat.mul_one] at d
   rw [l] at g
   omega
 subst n
 have k:cO o=x - y:=by rw [Nat.mul_zero] at d;omega
 have j:=zu o true (by omega)
 rw [R_ f,k] at j
 rcases Decidable.em (o= []) with rfl|hne
 ·have h:=abU (au x) (au y) [] (au (x - y)) e b
  have a:=zu [] false (by simp)
  rw [R_ bu.nil,k] at a
  apply h
  ·exact aI.blk hloop (by simp) rfl (aQ.of ⟨rfl,rfl,rfl,rfl,rfl,trivial⟩) (aQ.of ⟨rfl,trivial⟩)
  ·exact a.args (gX.cons (aW.nilS false rfl) gX.nil)
 ·have h:=abR (au x) (au y) o (au (x - y)) e b
  rw [Nat.mul_one,dK,List.take_length] at h
  apply h
  ·exact aI.blk hloop (by simp) rfl (aQ.of ⟨rfl,rfl,rfl,rfl,rfl,trivial⟩) (by unfold QM;rw [gz hne,gB hne];exact aQ.of ⟨rfl,trivial⟩)
  ·exact j.out (jq.sl1 _ _ _)
def Zn (a b:List Nat):Nat→Option Int
 |0=>none
 |k+1=>if a.getD k 0=b.getD k 0 then Zn a b k else some ((a.getD k 0:Int) - (b.getD k 0:Int))
def KG (a b:List Nat):Int:=if a.length=b.length then (Zn a b a.length).getD 0 else (a.length:Int) - (b.length:Int)
theorem oU {l:List Nat} {k:Nat} (h:k<l.length):cO (l.take (k+1))=cO (l.take k)+16777216^k*l.getD k 0:=by
 rw [List.take_add_one,zM,List.getElem?_eq_getElem h,List.length_take,Nat.min_eq_left (by omega),List.getD_eq_getElem?_getD,List.getElem?_eq_getElem h]
 simp [cO]
theorem KI {a b:List Nat} (f:a.length=b.length) (d:bu a) (e:bu b):∀ k,k≤a.length→(0≤(Zn a b k).getD 0↔cO (b.take k)≤cO (a.take k))∧((Zn a b k).getD 0≤0↔cO (a.take k)≤cO (b.take k))
 |0,_=>by simp [Zn]
 | k+1,h=>by
  obtain ⟨i,g⟩:=KI f d e k (by omega)
  rw [oU (l:=a) (by omega),oU (l:=b) (by omega)]
  have j:=zN (d.take k)
  have tb:=zN (e.take k)
  rw [List.length_take,Nat.min_eq_left (by omega)] at j tb
  simp only [Zn]
  by_cases he:a.getD k 0=b.getD k 0
  ·rw [if_pos he,he]
   exact ⟨i.trans (by omega),g.trans (by omega)⟩
  ·rw [if_neg he]
   simp only [Option.getD_some]
   generalize a.getD k 0=x at*
   generalize b.getD k 0=y at*
   generalize cO (List.take k a)=u at*
   generalize cO (List.take k b)=v at*
   generalize 16777216^k=M at*
   rcases Nat.lt_or_ge x y with hlt|hge
   ·have c:M*(x+1)≤M*y:=Nat.mul_le_mul_left _ hlt
    rw [Nat.mul_add,Nat.mul_one] at c
    constructor<;>constructor<;>intro<;>omega
   ·have c:M*(y+1)≤M*x:=Nat.mul_le_mul_left _ (by omega)
    rw [Nat.mul_add,Nat.mul_one] at c
    constructor<;>constructor<;>intro<;>omega
theorem Ho (x y:Nat):(0≤KG (au x) (au y)↔y≤x)∧(KG (au x) (au y)≤0↔x≤y):=by
 unfold KG
 by_cases h:(au x).length=(au y).length
 ·rw [if_pos h]
  have:=KI h (bu.dig x) (bu.dig y) _ (Nat.le_refl _)
  rw [List.take_length,h,List.take_length,eP,eP] at this
  rw [h];exact this
 ·rw [if_neg h]
  rcases Nat.lt_or_ge (au x).length (au y).length with h1|h1
  ·have b:¬ y≤x:=fun a=>by have:=qO a;omega
   constructor<;>constructor<;>intro<;>omega
  ·have b:¬ x≤y:=fun a=>by have:=qO a;omega
   constructor<;>constructor<;>intro<;>omega
def aes (a b:List Nat) (na nb:Bool) (k:Nat):St:=⟨[(0,.sl (ak a) a.length na),(1,.sl (ak b) b.length nb),(5,.int .i64 ((k:Int) - 1))],[],.dead,[]⟩
def ahR:Option Int→St
 |none=> ⟨[],[],.dead,[]⟩
 |some c=> ⟨[(4,.int .i64 c)],[],.dead,[]⟩
def cqE:Option Int→bJ
 |none=> .exit 0
 |some _=> .ret
theorem Zo {nt:Nat} (g:41≤nt) (a b:List Nat) (e d:Bool) (o:a.length=b.length) (h:bu a) (f:bu b) (p:a.length<2^40):∀ k,k≤a.length→aI prog ap [] nt (ag 0 (ai f186)) cqE (aes a b e d) ahR k (Zn a b k):=by
  intro k
  induction k with
  |zero=>exact fun _=> .done (af_ g a b e d)
  | succ k ih=>
    intro q
    have n:=h.getD k
    have j:=f.getD k
    have i:(((k+1:Nat):Int) - 1)=(k:Int):=by omega
    have m:IntKind.wrap .i64 ((k:Int) - ((1:Nat):Int))=(k:Int) - 1:=bF (by omega) (by omega)
    have l:IntKind.wrap .i64 (((a.getD k 0:Nat):Int) - ((b.getD k 0:Nat):Int))=((a.getD k 0:Nat):Int) - ((b.getD k 0:Nat):Int):=bF (by omega) (by omega)
    simp only [Zn]
    by_cases he:a.getD k 0=b.getD k 0
    · rw [if_pos he]
      refine .next ?_ (ih (by omega))
      unfold aes
      rw [i]
      first
        | (have c:=akv g a b e d k
           simp (disch:=first|omega|(simp [ay,az]<;>omega)) only [aJ,Nat.mul_one,gp,he,bg,qp,decide_true,Bool.not_true,fB,Bool.not_false,d_,eu,bG,bI,bQ,m] at c
           apply c<;>first|exact True.intro|omega|assumption|exact rfl)
    · rw [if_neg he]
      refine .done ?_
      unfold aes
      rw [i]
      have c:=aku g a b e d k
      simp (disch:=first|omega|(simp [ay,az]<;>omega)) only [aJ,Nat.mul_one,gp,d_,eu,bG,bI,bg,qp,he,decide_false,Bool.not_false,bQ,l] at c
      apply c<;>first|exact True.intro|omega|assumption|exact rfl
theorem Rj (a b:List Nat) (e d:Bool) (g:bu a) (f:bu b) (j:a.length<2^40) (m:b.length<2^40):CO 186 [.sl (ak a) a.length e,.sl (ak b) b.length d] (.ret (.int .i64 (KG a b))):=by
 unfold KG
 by_cases hl:a.length=b.length
 ·rw [if_pos hl]
  have hloop:=fun nt (hn:41≤nt)=>Zo hn a b e d hl g f j a.length (Nat.le_refl _)
  have i:IntKind.wrap .i64 ((a.length:Int) - ((1:Nat):Int))=(a.length:Int) - 1:=EH j
  cases k:Zn a b a.length with
  |none=>
   rw [k] at hloop
   exact agb a b e d (by rw [hl];simp [lit]) (aI.blk hloop (by simp [cqE]) rfl (aQ.of ⟨rfl,rfl,congrArg _ i,trivial⟩) (aQ.of trivial))
  |some c=>
   rw [k] at hloop
   exact agc a b e d c (by rw [hl];simp [lit]) (aI.blk hloop (by simp [cqE]) rfl (aQ.of ⟨rfl,rfl,congrArg _ i,trivial⟩) (aQ.of ⟨rfl,trivial⟩))
 ·rw [if_neg hl]
  have h:=aga a b e d
  have l:IntKind.wrap .i64 ((a.length:Int) - (b.length:Int))=(a.length:Int) - (b.length:Int):=bF (by omega) (by omega)
  simp (disch:=first|omega|(simp [ay,az]<;>omega)) only [qp,bQ,gy,gY,l] at h
  apply h<;>first|exact True.intro|omega|assumption|exact rfl
theorem ahT {nt:Nat} (h:26≤nt) (x y w b a:Nat) (c:Int) (e d:Bool) (i:lit true (decide (c≤((0:Nat):Int)))=true) (g:lit true (decide ((b:Int)<(a:Int)))=true) (f:CO 188 [.sl (ak (au y)) (au y).length d,.int .i64 (IntKind.wrap .i64 (Int.tdiv (IntKind.wrap .i64 ((IntKind.wrap .i64 ((b:Int)+(a:Int)))+((1:Nat):Int))) ((2:Nat):Int)))] (.ret (.sl (ak (au w)) (au w).length true))) (j:CO 186 [.sl (ak (au w)) (au w).length true,.sl (ak (au x)) (au x).length e] (.ret (.int .i64 c))):ax prog ap [] nt (ag 0 (ai f187)) ⟨[(0,.sl (ak (au x)) (au x).length e),(1,.sl (ak (au y)) (au y).length d),(5,.int .i64 (b:Int)),(6,.int .i64 (a:Int))],[],.dead,[]⟩ (.normal) ⟨[(0,.sl (ak (au x)) (au x).length e),(1,.sl (ak (au y)) (au y).length d),(5,.int .i64 (IntKind.wrap .i64 (Int.tdiv (IntKind.wrap .i64 ((IntKind.wrap .i64 ((b:Int)+(a:Int)))+((1:Nat):Int))) ((2:Nat):Int)))),(6,.int .i64 (a:Int))],[],.dead,[]⟩:=pJ 187 [] 2 3 (.c i (.k 1 g .nil)) (.c j (.c f .nil)) h
theorem ahU {nt:Nat} (h:26≤nt) (x y w a b:Nat) (c:Int) (e d:Bool) (i:lit false (decide (c≤((0:Nat):Int)))=true) (g:lit true (decide ((a:Int)<(b:Int)))=true) (f:CO 188 [.sl (ak (au y)) (au y).length d,.int .i64 (IntKind.wrap .i64 (Int.tdiv (IntKind.wrap .i64 ((IntKind.wrap .i64 ((a:Int)+(b:Int)))+((1:Nat):Int))) ((2:Nat):Int)))] (.ret (.sl (ak (au w)) (au w).length true))) (j:CO 186 [.sl (ak (au w)) (au w).length true,.sl (ak (au x)) (au x).length e] (.ret (.int .i64 c))):ax prog ap [] nt (ag 0 (ai f187)) ⟨[(0,.sl (ak (au x)) (au x).length e),(1,.sl (ak (au y)) (au y).length d),(5,.int .i64 (a:Int)),(6,.int .i64 (b:Int))],[],.dead,[]⟩ (.normal) ⟨[(0,.sl (ak (au x)) (au x).length e),(1,.sl (ak (au y)) (au y).length d),(5,.int .i64 (a:Int)),(6,.int .i64 (IntKind.wrap .i64 ((IntKind.wrap .i64 (Int.tdiv (IntKind.wrap .i64 ((IntKind.wrap .i64 ((a:Int)+(b:Int)))+((1:Nat):Int))) ((2:Nat):Int))) - ((1:Nat):Int))))],[],.dead,[]⟩:=pJ 187 [] 2 1 (.c i (.k 1 g .nil)) (.c j (.c f .nil)) h
theorem ahV {nt:Nat} (e:26≤nt) (x y w a b:Nat) (c:Int) (g d:Bool) (f:lit false (decide ((a:Int)<(b:Int)))=true):ax prog ap [] nt (ag 0 (ai f187)) ⟨[(0,.sl (ak (au x)) (au x).length g),(1,.sl (ak (au y)) (au y).length d),(5,.int .i64 (a:Int)),(6,.int .i64 (b:Int))],[],.dead,[]⟩ (.exit 0) ⟨[(5,.int .i64 (a:Int))],[],.dead,[]⟩:=pJ 187 [] 1 0 (.c f .nil) (.nil) e
theorem aet (x y q:Nat) (b a:Bool) (c:aO prog ap [] 26 (.block 0 (.loop (ag 0 (ai f187)))) ⟨[(0,.sl (ak (au x)) (au x).length b),(1,.sl (ak (au y)) (au y).length a),(4,.int .i64 0),(5,.int .i64 0),(6,.int .i64 16777215),(7,.dead),(10,.dead),(21,.dead)],[],.dead,[]⟩ (.normal) ⟨[(5,.int .i64 (q:Int))],[],.dead,[]⟩):CO 187 [.sl (ak (au x)) (au x).length b,.sl (ak (au y)) (au y).length a] (.ret (.int .i64 (q:Int))):=pK [0] 0 0 .nil (.l c .nil)
theorem afQ {nt:Nat} (e:35≤nt) (l o:List Nat) (k:Nat) (nn:Bool) (c:(chk (.int .i64) (List.headD (List.drop ((Int.toNat (k:Int))*1) (ak l)) .dead))=true) (b:(decide (((0:Nat):Int)≤(k:Int)))=true) (a:(decide ((k:Int)<(l.length:Int)))=true) (d:lit true (decide (((0:Nat):Int)≤(k:Int)))=true):ax prog ap [] nt (ag 0 (ai f136)) ⟨[(0,.sl (ak l) l.length nn),(3,.nilS),(4,.int .i64 (k:Int))],[],.dead,[]⟩ (.normal) ⟨[(0,.sl (ak l) l.length nn),(3,.ref 0 0 0 3),(4,.int .i64 (IntKind.wrap .i64 ((k:Int) - ((1:Nat):Int))))],[(0,⟨[.int .u8 (IntKind.wrap .u8 (Int.fdiv (AV.toInt (List.headD (List.drop ((Int.toNat (k:Int))*1) (ak l)) .dead)) (2^(min 16 64)))),.int .u8 (IntKind.wrap .u8 (Int.fdiv (AV.toInt (List.headD (List.drop ((Int.toNat (k:Int))*1) (ak l)) .dead)) (2^(min 8 64)))),.int .u8 (IntKind.wrap .u8 (AV.toInt (List.headD (List.drop ((Int.toNat (k:Int))*1) (ak l)) .dead)))],0,false,0,1,true⟩)],.dead,[]⟩:=pJ 136 [] 2 1 (.k 3 c (.c b (.c a (.k 1 c (.c b (.c a (.k 1 c (.c b (.c a (.c d .nil)))))))))) (.nil) e
theorem aa7 {nt:Nat} (a:35≤nt) (l o:List Nat) (nn:Bool):ax prog ap [] nt (ag 0 (ai f136)) ⟨[(0,.sl (ak l) l.length nn),(3,.nilS),(4,.int .i64 (-1))],[],.dead,[]⟩ (.exit 0) ⟨[(3,.nilS)],[],.dead,[]⟩:=pJ 136 [] 1 0 (.n 1 .nil) (.nil) a
theorem aa8 (l o:List Nat) (nn:Bool) (b:aO prog ap [] 35 (.block 0 (.loop (ag 0 (ai f136)))) ⟨[(0,.sl (ak l) l.length nn),(2,.str []),(3,.nilS),(4,.int .i64 (IntKind.wrap .i64 ((l.length:Int) - ((1:Nat):Int)))),(9,.dead)],[],.dead,[]⟩ (.normal) ⟨[(3,.nilS)],[],.dead,[]⟩) (a:CO 133 [.str []] (.ret (.str (af (ah []))))):CO 136 [.sl (ak l) l.length nn] (.ret (.str (af (ah [])))):=pK [0] 0 0 (.n 2 .nil) (.c a (.l b .nil))
theorem afP {nt:Nat} (e:35≤nt) (l o:List Nat) (k:Nat) (nn:Bool) (f:(Nat.ble (o.length+3) 1099511627776)=true) (d:(Nat.ble (o.length*1) (List.length (o_ o)))=true) (a:(chk (.int .i64) (List.headD (List.drop ((Int.toNat (k:Int))*1) (ak l)) .dead))=true) (b:(decide (((0:Nat):Int)≤(k:Int)))=true) (c:(decide ((k:Int)<(l.length:Int)))=true) (g:lit true (decide (((0:Nat):Int)≤(k:Int)))=true):ax prog ap [] nt (ag 0 (ai f136)) ⟨[(0,.sl (ak l) l.length nn),(3,.ref 0 0 0 o.length),(4,.int .i64 (k:Int))],[(0,⟨(o_ o),0,false,0,1,true⟩)],.dead,[]⟩ (.normal) ⟨[(0,.sl (ak l) l.length nn),(3,.ref 0 0 0 (o.length+3)),(4,.int .i64 (IntKind.wrap .i64 ((k:Int) - ((1:Nat):Int))))],[(0,⟨((List.take (o.length*1) (o_ o))++ [.int .u8 (IntKind.wrap .u8 (Int.fdiv (AV.toInt (List.headD (List.drop ((Int.toNat (k:Int))*1) (ak l)) .dead)) (2^(min 16 64)))),.int .u8 (IntKind.wrap .u8 (Int.fdiv (AV.toInt (List.headD (List.drop ((Int.toNat (k:Int))*1) (ak l)) .dead)) (2^(min 8 64)))),.int .u8 (IntKind.wrap .u8 (AV.toInt (List.headD (List.drop ((Int.toNat (k:Int))*1) (ak l)) .dead)))]),0,false,0,1,true⟩)],.dead,[]⟩:=pJ 136 [] 1 1 (.k 1 f (.c d (.k 1 a (.c b (.c c (.k 1 a (.c b (.c c (.k 1 a (.c b (.c c (.c g .nil)))))))))))) (.nil) e
theorem aa5 {nt:Nat} (a:35≤nt) (l o:List Nat) (nn:Bool):ax prog ap [] nt (ag 0 (ai f136)) ⟨[(0,.sl (ak l) l.length nn),(3,.ref 0 0 0 o.length),(4,.int .i64 (-1))],[(0,⟨(o_ o),0,false,0,1,true⟩)],.dead,[]⟩ (.exit 0) ⟨[(3,.ref 0 0 0 o.length)],[(0,⟨(o_ o),0,false,0,1,true⟩)],.dead,[]⟩:=pJ 136 [] 1 0 (.n 1 .nil) (.nil) a
theorem aa6 (l o:List Nat) (nn:Bool) (e:(Nat.beq (List.length (List.take (o.length*1) (o_ o))) o.length)=true) (d:(List.all (List.take (o.length*1) (o_ o)) (chk (.int .u8)))=true) (b:aO prog ap [] 35 (.block 0 (.loop (ag 0 (ai f136)))) ⟨[(0,.sl (ak l) l.length nn),(2,.str []),(3,.nilS),(4,.int .i64 (IntKind.wrap .i64 ((l.length:Int) - ((1:Nat):Int)))),(9,.dead)],[],.dead,[]⟩ (.normal) ⟨[(3,.ref 0 0 0 o.length)],[(0,⟨(o_ o),0,false,0,1,true⟩)],.dead,[]⟩) (a:CO 133 [.str (List.map (fun c=>UInt8.ofNat (Int.toNat (AV.toInt c))) (List.take (o.length*1) (o_ o)))] (.ret (.str (af (ah (List.map (fun c=>UInt8.ofNat (Int.toNat (AV.toInt c))) (List.take (o.length*1) (o_ o)))))))):CO 136 [.sl (ak l) l.length nn] (.ret (.str (af (ah (List.map (fun c=>UInt8.ofNat (Int.toNat (AV.toInt c))) (List.take (o.length*1) (o_ o))))))):=pK [0] 0 0 (.c e (.c d .nil)) (.c a (.l b .nil))
theorem agv (x:Nat) (a:lit true (decide (((0:Nat):Int)<(x:Int)))=true) (b:CO 133 [.str [UInt8.ofNat (Int.toNat (IntKind.wrap .u8 (Int.fdiv (x:Int) (2^(min 56 64))))),UInt8.ofNat (Int.toNat (IntKind.wrap .u8 (Int.fdiv (x:Int) (2^(min 48 64))))),UInt8.ofNat (Int.toNat (IntKind.wrap .u8 (Int.fdiv (x:Int) (2^(min 40 64))))),UInt8.ofNat (Int.toNat (IntKind.wrap .u8 (Int.fdiv (x:Int) (2^(min 32 64))))),UInt8.ofNat (Int.toNat (IntKind.wrap .u8 (Int.fdiv (x:Int) (2^(min 24 64))))),UInt8.ofNat (Int.toNat (IntKind.wrap .u8 (Int.fdiv (x:Int) (2^(min 16 64))))),UInt8.ofNat (Int.toNat (IntKind.wrap .u8 (Int.fdiv (x:Int) (2^(min 8 64))))),UInt8.ofNat (Int.toNat (IntKind.wrap .u8 (Int.fdiv (x:Int) (2^(min 0 64)))))]] (.ret (.str (af (ah [UInt8.ofNat (Int.toNat (IntKind.wrap .u8 (Int.fdiv (x:Int) (2^(min 56 64))))),UInt8.ofNat (Int.toNat (IntKind.wrap .u8 (Int.fdiv (x:Int) (2^(min 48 64))))),UInt8.ofNat (Int.toNat (IntKind.wrap .u8 (Int.fdiv (x:Int) (2^(min 40 64))))),UInt8.ofNat (Int.toNat (IntKind.wrap .u8 (Int.fdiv (x:Int) (2^(min 32 64))))),UInt8.ofNat (Int.toNat (IntKind.wrap .u8 (Int.fdiv (x:Int) (2^(min 24 64))))),UInt8.ofNat (Int.toNat (IntKind.wrap .u8 (Int.fdiv (x:Int) (2^(min 16 64))))),UInt8.ofNat (Int.toNat (IntKind.wrap .u8 (Int.fdiv (x:Int) (2^(min 8 64))))),UInt8.ofNat (Int.toNat (IntKind.wrap .u8 (Int.fdiv (x:Int) (2^(min 0 64)))))]))))):CO 79 [.int .i64 (x:Int)] (.ret (.str (af (ah [UInt8.ofNat (Int.toNat (IntKind.wrap .u8 (Int.fdiv (x:Int) (2^(min 56 64))))),UInt8.ofNat (Int.toNat (IntKind.wrap .u8 (Int.fdiv (x:Int) (2^(min 48 64))))),UInt8.ofNat (Int.toNat (IntKind.wrap .u8 (Int.fdiv (x:Int) (2^(min 40 64))))),UInt8.ofNat (Int.toNat (IntKind.wrap .u8 (Int.fdiv (x:Int) (2^(min 32 64))))),UInt8.ofNat (Int.toNat (IntKind.wrap .u8 (Int.fdiv (x:Int) (2^(min 24 64))))),UInt8.ofNat (Int.toNat (IntKind.wrap .u8 (Int.fdiv (x:Int) (2^(min 16 64))))),UInt8.ofNat (Int.toNat (IntKind.wrap .u8 (Int.fdiv (x:Int) (2^(min 8 64))))),UInt8.ofNat (Int.toNat (IntKind.wrap .u8 (Int.fdiv (x:Int) (2^(min 0 64)))))])))):=pK [] 19 131067 (.k 9 a (.k 6 a (.k 6 a (.k 6 a (.k 6 a (.k 6 a (.k 6 a (.k 5 a (.n 1 .nil))))))))) (.c b .nil)
theorem agw (x:Nat) (a:lit false (decide (((0:Nat):Int)<(x:Int)))=true) (b:CO 133 [.str []] (.ret (.str (af (ah []))))):CO 79 [.int .i64 (x:Int)] (.ret (.str (af (ah [])))):=pK [] 2 1 (.k 2 a (.n 1 .nil)) (.c b .nil)
theorem agf {nt:Nat} (c:35≤nt) (s:List UInt8) (n k:Nat) (d:(decide (((0:Nat):Int)≤(k:Int)))=true) (b:(decide ((k:Int)<(((List.length s):Nat):Int)))=true) (a:lit true (decide ((k:Int)<(((List.length s):Nat):Int)))=true):ax prog ap [] nt (ag 0 (ai f178)) ⟨[(0,.str s),(4,.int .i64 (n:Int)),(5,.int .i64 (k:Int))],[],.dead,[]⟩ (.normal) ⟨[(0,.str s),(4,.int .i64 (IntKind.wrap .i64 ((IntKind.wrap .i64 ((n:Int)*2^(min 8 64)))+(IntKind.wrap .i64 ((UInt8.toNat (List.getD s (Int.toNat (k:Int)) 0):Nat):Int))))),(5,.int .i64 (IntKind.wrap .i64 ((k:Int)+((1:Nat):Int))))],[],.dead,[]⟩:=pJ 178 [] 1 1 (.c d (.c b (.k 1 a .nil))) (.nil) c
theorem agh {nt:Nat} (a:35≤nt) (s:List UInt8) (n k:Nat) (b:lit false (decide ((k:Int)<(((List.length s):Nat):Int)))=true):ax prog ap [] nt (ag 0 (ai f178)) ⟨[(0,.str s),(4,.int .i64 (n:Int)),(5,.int .i64 (k:Int))],[],.dead,[]⟩ (.exit 0) ⟨[(4,.int .i64 (n:Int))],[],.dead,[]⟩:=pJ 178 [] 1 0 (.c b .nil) (.nil) a
theorem abP (s:List UInt8) (n:Nat) (f:lit false (decide (((127:Nat):Int)<((UInt8.toNat (List.getD (af (ah s)) 0 0):Nat):Int)))=true) (e:(decide (((0:Nat):Int)<(((List.length (af (ah s))):Nat):Int)))=true) (a:lit true ((((List.length (af (ah s))):Nat):Int)==((8:Nat):Int))=true) (b:lit false (decide (((8:Nat):Int)<(((List.length (af (ah s))):Nat):Int)))=true) (c:CO 133 [.str s] (.ret (.str (af (ah s))))) (d:aO prog ap [] 35 (.block 0 (.loop (ag 0 (ai f178)))) ⟨[(0,.str (af (ah s))),(2,.int .i64 0),(3,.bool false),(4,.int .i64 0),(5,.int .i64 0),(20,.bool (decide (((127:Nat):Int)<((UInt8.toNat (List.getD (af (ah s)) 0 0):Nat):Int)))),(24,.dead)],[],.dead,[]⟩ (.normal) ⟨[(4,.int .i64 (n:Int))],[],.dead,[]⟩):CO 178 [.str s] (.ret (.tup [.int .i64 (n:Int),.bool true])):=pK [0] 3 2 (.c f (.k 1 e (.c a (.c b .nil)))) (.l d (.c c .nil))
theorem abQ (s:List UInt8) (n:Nat) (d:lit false ((((List.length (af (ah s))):Nat):Int)==((8:Nat):Int))=true) (c:lit false (decide (((8:Nat):Int)<(((List.length (af (ah s))):Nat):Int)))=true) (a:CO 133 [.str s] (.ret (.str (af (ah s))))) (b:aO prog ap [] 35 (.block 0 (.loop (ag 0 (ai f178)))) ⟨[(0,.str (af (ah s))),(2,.int .i64 0),(3,.bool false),(4,.int .i64 0),(5,.int .i64 0),(20,.bool false),(24,.dead)],[],.dead,[]⟩ (.normal) ⟨[(4,.int .i64 (n:Int))],[],.dead,[]⟩):CO 178 [.str s] (.ret (.tup [.int .i64 (n:Int),.bool true])):=pK [0] 3 0 (.k 1 d (.c c .nil)) (.l b (.c a .nil))
theorem akZ (s:List UInt8) (n b:Nat) (c:lit true (decide ((b:Int)<(((List.length (af (ah s))):Nat):Int)))=true) (a:CO 133 [.str s] (.ret (.str (af (ah s))))):CO 134 [.str s,.int .i64 (b:Int)] (.ret (.tup [.int .i64 0,.bool false])):=pK [] 1 1 (.c c .nil) (.c a .nil)
theorem ak0 (s:List UInt8) (n b:Nat) (c:lit false (decide ((b:Int)<(((List.length (af (ah s))):Nat):Int)))=true) (a:CO 133 [.str s] (.ret (.str (af (ah s))))) (d:CO 178 [.str s] (.ret (.tup [.int .i64 (n:Int),.bool true]))):CO 134 [.str s,.int .i64 (b:Int)] (.ret (.tup [.int .i64 (n:Int),.bool true])):=pK [] 1 0 (.c c .nil) (.c d (.c a .nil))
theorem akG (s:List UInt8) (a:lit true ((((List.length s):Nat):Int)==((0:Nat):Int))=true):CO 179 [.str s] (.ret (.bool true)):=pK [] 1 1 (.c a .nil) (.nil)
theorem akH (s:List UInt8) (b:(decide (((0:Nat):Int)<(((List.length s):Nat):Int)))=true) (a:lit false ((((List.length s):Nat):Int)==((0:Nat):Int))=true):CO 179 [.str s] (.ret (.bool (!(((UInt8.toNat (List.getD s 0 0):Nat):Int)==((0:Nat):Int))))):=pK [] 1 0 (.k 1 b (.c a .nil)) (.nil)
theorem abJ (s t:List UInt8) (c:lit true (decide ((((List.length (af (ah s))):Nat):Int)<(((List.length (af (ah t))):Nat):Int)))=true) (b:lit true (!((((List.length (af (ah s))):Nat):Int)==(((List.length (af (ah t))):Nat):Int)))=true) (a:CO 133 [.str s] (.ret (.str (af (ah s))))) (d:CO 133 [.str t] (.ret (.str (af (ah t))))):CO 101 [.str s,.str t] (.ret (.int .i64 (-1))):=pK [] 2 3 (.c c (.c b .nil)) (.c d (.c a .nil))
theorem abK (s t:List UInt8) (c:lit false (decide ((((List.length (af (ah s))):Nat):Int)<(((List.length (af (ah t))):Nat):Int)))=true) (b:lit true (!((((List.length (af (ah s))):Nat):Int)==(((List.length (af (ah t))):Nat):Int)))=true) (a:CO 133 [.str s] (.ret (.str (af (ah s))))) (d:CO 133 [.str t] (.ret (.str (af (ah t))))):CO 101 [.str s,.str t] (.ret (.int .i64 1)):=pK [] 2 1 (.c c (.c b .nil)) (.c d (.c a .nil))
theorem abL (s t:List UInt8) (c:lit true (ig (af (ah s)) (af (ah t)))=true) (b:lit false (!((((List.length (af (ah s))):Nat):Int)==(((List.length (af (ah t))):Nat):Int)))=true) (a:CO 133 [.str s] (.ret (.str (af (ah s))))) (d:CO 133 [.str t] (.ret (.str (af (ah t))))):CO 101 [.str s,.str t] (.ret (.int .i64 (-1))):=pK [] 2 2 (.c c (.c b .nil)) (.c d (.c a .nil))
theorem abN (s t:List UInt8) (d:lit true (!(ig (af (ah s)) (af (ah t))||(af (ah s))==(af (ah t))))=true) (c:lit false (ig (af (ah s)) (af (ah t)))=true) (a:lit false (!((((List.length (af (ah s))):Nat):Int)==(((List.length (af (ah t))):Nat):Int)))=true) (b:CO 133 [.str s] (.ret (.str (af (ah s))))) (e:CO 133 [.str t] (.ret (.str (af (ah t))))):CO 101 [.str s,.str t] (.ret (.int .i64 1)):=pK [] 3 4 (.c d (.c c (.c a .nil))) (.c e (.c b .nil))
theorem abO (s t:List UInt8) (d:lit false (!(ig (af (ah s)) (af (ah t))||(af (ah s))==(af (ah t))))=true) (c:lit false (ig (af (ah s)) (af (ah t)))=true) (a:lit false (!((((List.length (af (ah s))):Nat):Int)==(((List.length (af (ah t))):Nat):Int)))=true) (b:CO 133 [.str s] (.ret (.str (af (ah s))))) (e:CO 133 [.str t] (.ret (.str (af (ah t))))):CO 101 [.str s,.str t] (.ret (.int .i64 0)):=pK [] 3 0 (.c d (.c c (.c a .nil))) (.c e (.c b .nil))
def amv (x y:Nat) (na nb:Bool) (p:Nat × Nat):St:=⟨[(0,.sl (ak (au x)) (au x).length na),(1,.sl (ak (au y)) (au y).length nb),(5,.int .i64 (p.1:Int)),(6,.int .i64 (p.2:Int))],[],.dead,[]⟩
def ahS (q:Nat):St:=⟨[(5,.int .i64 (q:Int))],[],.dead,[]⟩
theorem VD {x d:Nat} (hd:d<16777216):(au (x*d)).length≤(au x).length+1:=by
 apply sJ
 have a:=vS x
 have hp:=XL (au x).length
 rw [Nat.pow_succ]
 rcases Nat.eq_zero_or_pos d with rfl|h0
 ·rw [Nat.mul_zero];exact Nat.mul_pos hp (by omega)
 ·exact Nat.lt_of_lt_of_le (Nat.mul_lt_mul_of_pos_right a h0) (Nat.mul_le_mul_left _ (by omega))
theorem Zq {nt:Nat} (k:26≤nt) (x y:Nat) (j g:Bool) (p:0<y) (s:(au x).length<2^36) (q:(au y).length<2^35):∀ (n b a:Nat),a - b<n→b≤x / y→x / y≤a→a<16777216→aI prog ap [] nt (ag 0 (ai f187)) (fun _=> .exit 0) (amv x y j g) ahS (b,a) (x / y):=by
 intro n
 induction n with
 |zero=>intro b a h;omega
 | succ n ih=>
  intro b a h r t w
  rcases Nat.lt_or_ge b a with hlt|hge
  ·have e:(b+a+1) / 2<16777216:=by omega
   have o:=Ho (y*((b+a+1) / 2)) x
   have m:=Nh y ((b+a+1) / 2) g e (by omega)
   have u:=VD (x:=y) e
   have i:=Rj (au (y*((b+a+1) / 2))) (au x) true j (bu.dig _) (bu.dig _) (by omega) (by omega)
   have c:=Nat.le_div_iff_mul_le (x:=(b+a+1) / 2) (y:=x) p
   rw [Nat.mul_comm] at c
   have z:((0:Nat):Int)=0:=rfl
   by_cases hle:y*((b+a+1) / 2)≤x
   ·have f:=c.2 hle
    refine .next ?_ (ih ((b+a+1) / 2) a (by omega) f t w)
    have d:=ahT k x y (y*((b+a+1) / 2)) b a (KG (au (y*((b+a+1) / 2))) (au x)) j g
    simp (disch:=first|omega|(simp [ay,az]<;>omega)) only [bQ,bG,bI,dD,bz,su] at d
    exact d (o.2.2 hle) hlt m i
   ·have f:x / y<(b+a+1) / 2:=Nat.lt_of_not_le (fun l=>hle (c.1 l))
    refine .next ?_ (ih b ((b+a+1) / 2 - 1) (by omega) r (by omega) (by omega))
    have d:=ahU k x y (y*((b+a+1) / 2)) b a (KG (au (y*((b+a+1) / 2))) (au x)) j g
    simp (disch:=first|omega|(simp [ay,az]<;>omega)) only [fB,gy,gY,bI,bQ,bG,dD,bz,su,jJ] at d
    exact d (fun l=>hle (o.2.1 l)) hlt m i
  ·have v:b=x / y:=by omega
   have d:=ahV k x y 0 b a 0 j g (by rw [bI];simp [lit];omega)
   rw [← v]
   exact .done d
theorem VE (x y:Nat) (e c:Bool) (f:0<y) (b:x<y*16777216) (d:(au x).length<2^36) (a:(au y).length<2^35):CO 187 [.sl (ak (au x)) (au x).length e,.sl (ak (au y)) (au y).length c] (.ret (.int .i64 ((x / y:Nat):Int))):=by
 have g:x / y<16777216:=by rw [Nat.div_lt_iff_lt_mul f,Nat.mul_comm];exact b
 exact aet x y (x / y) e c (aI.blk (fun nt h=>Zq h x y e c f d a 16777216 0 16777215 (by omega) (Nat.zero_le _) (Nat.le_of_lt_succ g) (by omega)) (by simp) rfl (aQ.of ⟨rfl,rfl,rfl,rfl,trivial⟩) (aQ.of ⟨rfl,trivial⟩))
theorem nX (l:List UInt8) (c:UInt8):ah (l++ [c])=ah l*256+c.toNat:=by
 unfold ah;rw [List.foldl_append];rfl
theorem toNat_ofNat {x:Nat} (h:x<256):(UInt8.ofNat x).toNat=x:=by
 rw [UInt8.toNat_ofNat'];exact Nat.mod_eq_of_lt h
def bS (o:List Nat):List UInt8:=o.map UInt8.ofNat
theorem ahD (o:List Nat):List.map (fun c=>UInt8.ofNat (Int.toNat (AV.toInt c))) (o_ o)=bS o:=by
 unfold o_ bS;rw [List.map_map];rfl
theorem RV (l:List Nat) (k:Nat):List.take k (o_ l)=o_ (l.take k):=by unfold o_;rw [List.map_take]
def Vm (l:List Nat):Nat→List Nat
 |0=> []
 |k+1=> [l.getD k 0 / 65536,l.getD k 0 / 256 % 256,l.getD k 0 % 256]++Vm l k
theorem NQ (a b:List Nat):bS (a++b)=bS a++bS b:=by unfold bS;rw [List.map_append]
theorem P7 {l:List Nat} (a:bu l):∀ (k:Nat) (o:List Nat),k≤l.length→ah (bS (o++Vm l k))=ah (bS o)*16777216^k+cO (l.take k)
 |0,o,_=>by simp [Vm,cO]
 | k+1,o,h=>by
  simp only [Vm]
  rw [← List.append_assoc,P7 a k _ (by omega),oU (by omega)]
  have hd:=a.getD k
  generalize l.getD k 0=d at*
  have e:ah (bS (o++ [d / 65536,d / 256 % 256,d % 256]))=ah (bS o)*16777216+d:=by
   rw [show o++ [d / 65536,d / 256 % 256,d % 256]=((o++ [d / 65536])++ [d / 256 % 256])++ [d % 256] by simp,NQ,NQ,NQ]
   simp only [bS,List.map_cons,List.map_nil]
   rw [nX,nX,nX,toNat_ofNat (show d / 65536<256 by omega),toNat_ofNat (Nat.mod_lt _ (by omega)),toNat_ofNat (Nat.mod_lt _ (by omega))]
   omega
  rw [e,Nat.add_mul,Nat.pow_succ,Nat.mul_comm (16777216^k) 16777216,Nat.mul_assoc,Nat.mul_comm d]
  omega
def Y3 (l:List Nat):AV:=match l with| []=> .nilS|x::l=> .ref 0 0 0 (x::l).length
def Y4 (l:List Nat):Hp:=match l with| []=> []|x::l=> [(0,⟨o_ (x::l),0,false,0,1,true⟩)]
theorem CU {l:List Nat} (h:l ≠ []):Y3 l= .ref 0 0 0 l.length:=by cases l with|nil=>exact absurd rfl h|cons _ _=>rfl
theorem CV {l:List Nat} (h:l ≠ []):Y4 l= [(0,⟨o_ l,0,false,0,1,true⟩)]:=by cases l with|nil=>exact absurd rfl h|cons _ _=>rfl
def afO (l:List Nat) (nn:Bool) (p:Nat × List Nat):St:=⟨[(0,.sl (ak l) l.length nn),(3,Y3 p.2),(4,.int .i64 ((p.1:Int) - 1))],Y4 p.2,.dead,[]⟩
def Xp (o:List Nat):St:=⟨[(3,Y3 o)],Y4 o,.dead,[]⟩
theorem acO (o:List Nat) (a b c:Nat):o_ o++ [AV.int .u8 (a:Int),AV.int .u8 (b:Int),AV.int .u8 (c:Int)]=o_ (o++ [a,b,c]):=by simp [o_]
theorem adr:(2:Nat)^16=65536:=by decide
theorem ajS:(2:Nat)^8=256:=by decide
theorem aa4 {nt:Nat} (c:35≤nt) (l:List Nat) (nn:Bool) (i:l.length<2^36) (e:bu l):∀ (k:Nat) (o:List Nat),k≤l.length→o.length+3*k=3*l.length→aI prog ap [] nt (ag 0 (ai f136)) (fun _=> .exit 0) (afO l nn) Xp (k,o) (o++Vm l k):=by
 intro k
 induction k with
 | zero=>
  intro o _ _
  simp only [Vm,List.append_nil]
  refine .done ?_
  unfold afO Xp
  rcases Decidable.em (o= []) with rfl|hne
  ·exact aa7 c l [] nn
  ·rw [CU hne,CV hne]
   exact aa5 c l o nn
 | succ k ih=>
  intro o m j
  have hd:=e.getD k
  have h:(((k+1:Nat):Int) - 1)=(k:Int):=by omega
  have f:IntKind.wrap .i64 ((k:Int) - ((1:Nat):Int))=(k:Int) - 1:=bF (by omega) (by omega)
  have hnext:=ih (o++ [l.getD k 0 / 65536,l.getD k 0 / 256 % 256,l.getD k 0 % 256]) (by omega) (by simp;omega)
  rw [List.append_assoc] at hnext
  simp only [Vm]
  refine .next ?_ hnext
  unfold afO
  rw [h]
  generalize g:l.getD k 0=d at*
  have a:o++ [d / 65536,d / 256 % 256,d % 256] ≠ []:=by simp
  rcases Decidable.em (o= []) with rfl|hne
  ·have b:=afQ c l [] k nn
   simp (disch:=first|omega|(simp [ay,az]<;>omega)) only [aJ,Nat.mul_one,gp,g,d_,eu,bG,bI,bQ,f,bg,show min 16 64=16 from rfl,kY,adr,w8u,Nat.mod_eq_of_lt,show min 8 64=8 from rfl,ajS] at b
   simp only [List.nil_append,Y3,Y4,o_,List.map_cons,List.map_nil,List.length_cons,List.length_nil] at b ⊢
   apply b<;>first|exact True.intro|omega|assumption|exact rfl
  ·have b:=afP c l o k nn
   rw [CU hne,CV hne,CU a,CV a]
   simp (disch:=first|omega|(simp [ay,az]<;>omega)) only [fZ,bG,Nat.mul_one,az,aJ,gp,g,d_,eu,bI,bQ,f,RV,List.take_length,bg,show min 16 64=16 from rfl,kY,adr,w8u,Nat.mod_eq_of_lt,show min 8 64=8 from rfl,ajS,acO] at b
   simp only [List.length_append,List.length_cons,List.length_nil]
   apply b<;>first|exact True.intro|omega|assumption|exact rfl
theorem uU (l:List Nat) (nn:Bool) (f:l.length<2^36) (b:bu l):CO 136 [.sl (ak l) l.length nn] (.ret (.str (af (cO l)))):=by
 have hloop:=fun nt (hn:35≤nt)=>aa4 hn l nn f b l.length [] (Nat.le_refl _) (by simp)
 have a:=P7 b l.length [] (Nat.le_refl _)
 have g:(Vm l l.length).length=3*l.length:=by
  have:∀ k,(Vm l k).length=3*k:=by
   intro k
   induction k with
   |zero=>rfl
   |succ k ih=>simp only [Vm,List.length_append,List.length_cons,List.length_nil,ih];omega
  exact this _
 have e:IntKind.wrap .i64 ((l.length:Int) - ((1:Nat):Int))=(l.length:Int) - 1:=EH (by omega)
 simp only [List.nil_append] at hloop a
 rw [List.take_length,show ah (bS [])=0 from rfl,Nat.zero_mul,Nat.zero_add] at a
 generalize Vm l l.length=o at*
 rcases Decidable.em (o= []) with rfl|hne
 ·rw [← a]
  exact aa8 l [] nn (aI.blk hloop (by simp) rfl (aQ.of ⟨rfl,rfl,congrArg _ e,trivial⟩) (aQ.of ⟨rfl,trivial⟩)) (iq [] (by simp))
 ·have h:=aa6 l o nn
  have j:=iq (bS o) (by simp [bS];omega)
  rw [a] at j
  have c:List.take o.length (o_ o)=o_ o:=by rw [RV,List.take_length]
  simp (disch:=first|omega|(simp [ay,az]<;>omega)) only [Nat.mul_one,c,Jt,bG,ahD,a] at h
  apply h<;>first|exact True.intro|omega|assumption|exact rfl|skip
  ·exact az o
  ·have:List.all (o_ o) (chk (.int .u8))=true:=by
    rw [List.all_eq_true];intro x i
    obtain ⟨d,_,rfl⟩:=List.mem_map.1 i
    rfl
   exact this
  ·exact aI.blk hloop (by simp) rfl (aQ.of ⟨rfl,rfl,congrArg _ e,trivial⟩) (by unfold Xp;rw [CU hne,CV hne];exact aQ.of ⟨rfl,trivial⟩)
theorem jQ (x:Nat) (c:x<9223372036854775808):CO 79 [.int .i64 (x:Int)] (.ret (.str (af x))):=by
 rcases Nat.eq_zero_or_pos x with rfl|h0
 ·exact agw 0 rfl (iq [] (by simp))
 ·have h:=agv x
  have e:∀ k,Int.toNat (IntKind.wrap .u8 (Int.fdiv (x:Int) (2^k)))=x / 2^k % 256:=by
   intro k;rw [kY,w8u,aJ]
  simp only [show min 56 64=56 from rfl,show min 48 64=48 from rfl,show min 40 64=40 from rfl,show min 32 64=32 from rfl,show min 24 64=24 from rfl,show min 16 64=16 from rfl,show min 8 64=8 from rfl,show min 0 64=0 from rfl,e] at h
  have a:=iq [UInt8.ofNat (x / 2^56 % 256),UInt8.ofNat (x / 2^48 % 256),UInt8.ofNat (x / 2^40 % 256),UInt8.ofNat (x / 2^32 % 256),UInt8.ofNat (x / 2^24 % 256),UInt8.ofNat (x / 2^16 % 256),UInt8.ofNat (x / 2^8 % 256),UInt8.ofNat (x / 2^0 % 256)] (by simp)
  have b:ah [UInt8.ofNat (x / 2^56 % 256),UInt8.ofNat (x / 2^48 % 256),UInt8.ofNat (x / 2^40 % 256),UInt8.ofNat (x / 2^32 % 256),UInt8.ofNat (x / 2^24 % 256),UInt8.ofNat (x / 2^16 % 256),UInt8.ofNat (x / 2^8 % 256),UInt8.ofNat (x / 2^0 % 256)]=x:=by
   have t:∀ y,(UInt8.ofNat (y % 256)).toNat=y % 256:=fun y=>toNat_ofNat (Nat.mod_lt _ (by omega))
   simp only [ah,List.foldl_cons,List.foldl_nil,t]
   omega
  rw [b] at a h
  apply h
  ·rw [bI];exact decide_eq_true h0
  ·exact a
def adk (s:List UInt8) (k:Nat):St:=⟨[(0,.str s),(4,.int .i64 ((ah (s.take k):Nat):Int)),(5,.int .i64 (k:Int))],[],.dead,[]⟩
def OB (s:List UInt8) (k:Nat):St:=⟨[(4,.int .i64 ((ah (s.take k):Nat):Int))],[],.dead,[]⟩
theorem F7 {s:List UInt8} {k:Nat} (h:k<s.length):ah (s.take (k+1))=ah (s.take k)*256+(s.getD k 0).toNat:=by
 rw [List.take_add_one,List.getElem?_eq_getElem h,List.getD_eq_getElem?_getD,List.getElem?_eq_getElem h]
 exact nX _ _
theorem JV (s:List UInt8) (k:Nat):ah (s.take k)≤ah s:=by
 rcases Nat.lt_or_ge k s.length with h|h
 ·have e:s=s.take k++s.drop k:=(List.take_append_drop k s).symm
  have:∀ (b a:List UInt8),ah a≤ah (a++b):=by
   intro b
   induction b with
   |nil=>intro a;simp
   |cons c r ih=>
    intro a
    have d:=ih (a++ [c])
    rw [nX,List.append_assoc] at d
    simp only [List.cons_append,List.nil_append] at d
    omega
  calc ah (s.take k)≤ah (s.take k++s.drop k):=this _ _
   _=ah s:=by rw [← e]
 ·rw [List.take_of_length_le h];exact Nat.le_refl _
theorem WN {nt:Nat} (f:35≤nt) (s:List UInt8) (hs:s.length<2^40) (n:ah s<9223372036854775808):∀ (d k:Nat),k+d=s.length→aI prog ap [] nt (ag 0 (ai f178)) (fun _=> .exit 0) (adk s) (OB s) k s.length:=by
 intro d
 induction d with
 |zero=>
  intro k m
  have b:k=s.length:=by omega
  subst b
  exact .done (agh f s _ _ (by rw [bI];simp [lit]))
 | succ d ih=>
  intro k m
  have e:k<s.length:=by omega
  refine .next ?_ (ih (k+1) (by omega))
  have a:=agf f s (ah (s.take k)) k
  rw [aJ] at a
  have i:=JV s (k+1)
  have g:=F7 e
  have o:(s.getD k 0).toNat<256:=UInt8.toNat_lt _
  unfold adk
  rw [g]
  rw [g] at i
  generalize (s.getD k 0).toNat=c at*
  generalize ah (s.take k)=v at*
  have j:IntKind.wrap .i64 ((v:Int)*2^(min 8 64))=((v*256:Nat):Int):=by
   rw [show min 8 64=8 from rfl,bF]<;>omega
  have h:(((v*256:Nat):Int))+(c:Int)=((v*256+c:Nat):Int):=by omega
  have l:IntKind.wrap .i64 (c:Int)=(c:Int):=bz (by omega)
  rw [l,j,h,bz (by omega)] at a
  simp (disch:=first|omega|(simp [ay,az]<;>omega)) only [eu,bG,bI,bQ,dD,bz] at a
  apply a<;>first|exact True.intro|omega|assumption|exact rfl
theorem sS {x k:Nat}:(af x).length≤k↔x<2^(8*k):=by
 constructor
 ·intro h
  have a:=kV (af x)
  rw [aB] at a
  exact Nat.lt_of_lt_of_le a (Nat.pow_le_pow_right (by omega) (by omega))
 ·exact dw
theorem afu (s:List UInt8) (hs:s.length<2^40) (f:ah s<9223372036854775808):CO 178 [.str s] (.ret (.tup [.int .i64 ((ah s:Nat):Int),.bool true])):=by
 have k:=iq s hs
 have a:=aB (ah s)
 have j:(af (ah s)).length≤8:=dw (Nat.lt_of_lt_of_le f (by decide))
 have hloop:=fun nt (e:35≤nt)=>WN e (af (ah s)) (by omega) (by rw [a];exact f) (af (ah s)).length 0 (by omega)
 have hless:aQ ⟨[(4,.int .i64 ((ah s:Nat):Int))],[],.dead,[]⟩ (OB (af (ah s)) (af (ah s)).length):=by
  unfold OB
  rw [List.take_length,a]
  exact aQ.refl _
 have g:=abP s (ah s)
 have h:=abQ s (ah s)
 have d:(af (ah s)).length=8→((af (ah s)).getD 0 0).toNat≤127:=by
  intro b
  cases e:af (ah s) with
  |nil=>rw [e] at b;cases b
  |cons c r=>
   rw [e] at b a
   rw [jk] at a
   have:r.length=7:=by simpa using b
   rw [this,show 256^7=72057594037927936 from rfl] at a
   simp only [List.getD_cons_zero]
   omega
 generalize af (ah s)=t at*
 by_cases b:t.length=8
 ·have i:=d b
  simp (disch:=first|omega|(simp [ay,az]<;>omega)) only [bI,fB,gy,gY,b,bG,qp,decide_true,bQ] at g
  apply g<;>first|exact True.intro|omega|assumption|exact rfl|skip
  exact aI.blk hloop (by simp) rfl (aQ.of ⟨rfl,rfl,rfl,trivial⟩) hless
 ·simp (disch:=first|omega|(simp [ay,az]<;>omega)) only [qp,b,decide_false,fB,Bool.not_false,bI,gy,gY] at h
  apply h<;>first|exact True.intro|omega|assumption|exact rfl|skip
  exact aI.blk hloop (by simp) rfl (aQ.of ⟨rfl,rfl,rfl,trivial⟩) hless
theorem gU (s:List UInt8) (b:Nat) (hs:s.length<2^40) (e:b≤7) (c:ah s<2^(8*b)):CO 134 [.str s,.int .i64 (b:Int)] (.ret (.tup [.int .i64 ((ah s:Nat):Int),.bool true])):=by
 have h:=ak0 s (ah s) b
 have a:ah s<9223372036854775808:=Nat.lt_of_lt_of_le c (Nat.le_trans (Nat.pow_le_pow_right (by omega) (show 8*b≤63 by omega)) (by decide))
 have d:=sS.2 c
 simp (disch:=first|omega|(simp [ay,az]<;>omega)) only [bI,fB,gy,gY] at h
 exact h (by omega) (iq s hs) (afu s hs a)
theorem kS (s:List UInt8) (b:Nat) (hs:s.length<2^40) (a:2^(8*b)≤ah s):CO 134 [.str s,.int .i64 (b:Int)] (.ret (.tup [.int .i64 0,.bool false])):=by
 have h:=akZ s 0 b
 have c:¬ (af (ah s)).length≤b:=fun h=>by have:=sS.1 h;omega
 simp (disch:=first|omega|(simp [ay,az]<;>omega)) only [bI,bQ,bG] at h
 exact h (by omega) (iq s hs)
theorem XT (s:List UInt8):CO 179 [.str s] (.ret (.bool (nR s))):=by
 cases s with
 |nil=>exact akG [] rfl
 | cons c r=>
  have h:=akH (c::r)
  have e:(!((((c::r).getD 0 0).toNat:Int)==((0:Nat):Int)))=nR (c::r):=by
   simp only [List.getD_cons_zero,nR]
   by_cases hc:c=0
   ·subst hc;rfl
   ·have:c.toNat ≠ 0:=fun h=>hc (by apply UInt8.toNat_inj.1;simpa using h)
    have a:((c.toNat:Int)==((0:Nat):Int))=false:=by simp;omega
    rw [a];simp [hc]
  rw [e] at h
  apply h
  ·simp
  ·simp [lit];omega
theorem Bg:∀ (a b:List UInt8),a.length=b.length→ig a b=decide (ah a<ah b)
 | [],[],_=>rfl
 | [],_::_,h=>by simp at h
 |_::_,[],h=>by simp at h
 | x::a,y::b,h=>by
  have c:a.length=b.length:=by simpa using h
  have g:=Bg a b c
  have i:=kV a
  have k:=kV b
  simp only [ig,g]
  rw [jk,jk,c,show (256:Nat)=2^8 from rfl,← Nat.pow_mul]
  rw [c] at i
  have f:decide (x<y)=decide (x.toNat<y.toNat):=by simp [UInt8.lt_iff_toNat_lt]
  have d:(x==y)=decide (x.toNat=y.toNat):=by
   by_cases h:x=y
   ·subst h;simp
   ·have:x.toNat ≠ y.toNat:=fun j=>h (UInt8.toNat_inj.1 j)
    simp [h,this]
  rw [f,d]
  generalize 2^(8*b.length)=M at*
  generalize ah a=u at*
  generalize ah b=v at*
  generalize x.toNat=p at*
  generalize y.toNat=q at*
  rcases Nat.lt_trichotomy p q with h3|h3|h3
  ·have e:(p+1)*M≤q*M:=Nat.mul_le_mul_right _ h3
   rw [Nat.add_mul,Nat.one_mul] at e
   rw [decide_eq_true h3,decide_eq_true (show p*M+u<q*M+v by omega)];rfl
  ·subst h3
   rw [decide_eq_false (Nat.lt_irrefl _),decide_eq_true rfl]
   simp
  ·have e:(q+1)*M≤p*M:=Nat.mul_le_mul_right _ h3
   rw [Nat.add_mul,Nat.one_mul] at e
   rw [decide_eq_false (show ¬ p<q by omega),decide_eq_false (show ¬ p=q by omega),decide_eq_false (show ¬ p*M+u<q*M+v by omega)];rfl
theorem BL {x y:Nat} (h:(af x).length<(af y).length):x<y:=by
 rcases Nat.lt_or_ge x y with h1|h1
 ·exact h1
 ·have a:y≤ah (af x):=by rw [aB];exact h1
  have:=nD a
  omega
theorem JI (s t:List UInt8) (hs:s.length<2^40) (k:t.length<2^40):CO 101 [.str s,.str t] (.ret (.int .i64 (lU (ah s) (ah t)))):=by
 have d:=iq s hs
 have c:=iq t k
 have j:=aB (ah s)
 have g:=aB (ah t)
 unfold lU
 by_cases hl:(af (ah s)).length=(af (ah t)).length
 ·have b:=Bg _ _ hl
  rw [j,g] at b
  have f:(af (ah s)==af (ah t))=decide (ah s=ah t):=by
   by_cases h:ah s=ah t
   ·rw [h];simp
   ·have:af (ah s) ≠ af (ah t):=fun i=>h (EX i)
    simp [h,this]
  have a:lit false (!((((af (ah s)).length:Nat):Int)==(((af (ah t)).length:Nat):Int)))=true:=by rw [hl];simp [lit]
  by_cases h1:ah s<ah t
  ·rw [if_pos h1]
   exact abL s t (by rw [b,decide_eq_true h1];rfl) a d c
  ·rw [if_neg h1]
   by_cases e:ah t<ah s
   ·rw [if_pos e]
    exact abN s t (by rw [b,f,decide_eq_false h1,decide_eq_false (show ¬ ah s=ah t by omega)];rfl) (by rw [b,decide_eq_false h1];rfl) a d c
   ·rw [if_neg e]
    exact abO s t (by rw [b,f,decide_eq_false h1,decide_eq_true (show ah s=ah t by omega)];rfl) (by rw [b,decide_eq_false h1];rfl) a d c
 ·have a:lit true (!((((af (ah s)).length:Nat):Int)==(((af (ah t)).length:Nat):Int)))=true:=by rw [qp,decide_eq_false hl];rfl
  by_cases h1:(af (ah s)).length<(af (ah t)).length
  ·rw [if_pos (BL h1)]
   exact abJ s t (by rw [bI,decide_eq_true h1];rfl) a d c
  ·have e:=BL (show (af (ah t)).length<(af (ah s)).length by omega)
   rw [if_neg (by omega),if_pos e]
   exact abK s t (by rw [bI,decide_eq_false h1];rfl) a d c
theorem ajK {nt:Nat} (c:35≤nt) (s:List UInt8) (o:List Nat) (e d k:Nat) (f:(decide (((0:Nat):Int)≤(k:Int)))=true) (b:(decide ((k:Int)<(((List.length s):Nat):Int)))=true) (a:lit true (decide ((k:Int)<(e:Int)))=true):ax prog ap [] nt (ag 2 (ai f135)) ⟨[(0,.str s),(3,.nilS),(4,.int .i64 (e:Int)),(5,.int .i64 (d:Int)),(6,.int .i64 (k:Int))],[],.dead,[]⟩ (.normal) ⟨[(0,.str s),(3,.nilS),(4,.int .i64 (e:Int)),(5,.int .i64 (IntKind.wrap .i64 ((IntKind.wrap .i64 ((d:Int)*((256:Nat):Int)))+(IntKind.wrap .i64 ((UInt8.toNat (List.getD s (Int.toNat (k:Int)) 0):Nat):Int))))),(6,.int .i64 (IntKind.wrap .i64 ((k:Int)+((1:Nat):Int))))],[],.dead,[]⟩:=pJ 135 [] 1 1 (.c f (.c b (.c a .nil))) (.nil) c
theorem ajL {nt:Nat} (a:35≤nt) (s:List UInt8) (o:List Nat) (e d k:Nat) (b:lit false (decide ((k:Int)<(e:Int)))=true):ax prog ap [] nt (ag 2 (ai f135)) ⟨[(0,.str s),(3,.nilS),(4,.int .i64 (e:Int)),(5,.int .i64 (d:Int)),(6,.int .i64 (k:Int))],[],.dead,[]⟩ (.exit 2) ⟨[(0,.str s),(3,.nilS),(4,.int .i64 (e:Int)),(5,.int .i64 (d:Int))],[],.dead,[]⟩:=pJ 135 [] 1 0 (.c b .nil) (.nil) a
theorem ajI {nt:Nat} (c:35≤nt) (s:List UInt8) (o:List Nat) (e d k:Nat) (f:(decide (((0:Nat):Int)≤(k:Int)))=true) (b:(decide ((k:Int)<(((List.length s):Nat):Int)))=true) (a:lit true (decide ((k:Int)<(e:Int)))=true):ax prog ap [] nt (ag 2 (ai f135)) ⟨[(0,.str s),(3,.ref 0 0 0 o.length),(4,.int .i64 (e:Int)),(5,.int .i64 (d:Int)),(6,.int .i64 (k:Int))],[(0,⟨(ak o),0,false,0,1,true⟩)],.dead,[]⟩ (.normal) ⟨[(0,.str s),(3,.ref 0 0 0 o.length),(4,.int .i64 (e:Int)),(5,.int .i64 (IntKind.wrap .i64 ((IntKind.wrap .i64 ((d:Int)*((256:Nat):Int)))+(IntKind.wrap .i64 ((UInt8.toNat (List.getD s (Int.toNat (k:Int)) 0):Nat):Int))))),(6,.int .i64 (IntKind.wrap .i64 ((k:Int)+((1:Nat):Int))))],[(0,⟨(ak o),0,false,0,1,true⟩)],.dead,[]⟩:=pJ 135 [] 1 1 (.c f (.c b (.c a .nil))) (.nil) c
theorem ajJ {nt:Nat} (a:35≤nt) (s:List UInt8) (o:List Nat) (e d k:Nat) (b:lit false (decide ((k:Int)<(e:Int)))=true):ax prog ap [] nt (ag 2 (ai f135)) ⟨[(0,.str s),(3,.ref 0 0 0 o.length),(4,.int .i64 (e:Int)),(5,.int .i64 (d:Int)),(6,.int .i64 (k:Int))],[(0,⟨(ak o),0,false,0,1,true⟩)],.dead,[]⟩ (.exit 2) ⟨[(0,.str s),(3,.ref 0 0 0 o.length),(4,.int .i64 (e:Int)),(5,.int .i64 (d:Int))],[(0,⟨(ak o),0,false,0,1,true⟩)],.dead,[]⟩:=pJ 135 [] 1 0 (.c b .nil) (.nil) a
theorem ajE {nt:Nat} (b:35≤nt) (s:List UInt8) (o:List Nat) (z:Int) (d:Nat) (c:lit true (decide (((0:Nat):Int)<z))=true) (a:aO prog ap [] 35 (.block 2 (.loop (ag 2 (ai f135)))) ⟨[(0,.str s),(2,.dead),(3,.nilS),(4,.int .i64 z),(5,.int .i64 0),(6,.int .i64 (if ((0:Nat):Int)>(IntKind.wrap .i64 (z - ((3:Nat):Int))) then ((0:Nat):Int) else (IntKind.wrap .i64 (z - ((3:Nat):Int))))),(12,.bool (decide (((0:Nat):Int)<z))),(20,.dead)],[],.dead,[]⟩ (.normal) ⟨[(0,.str s),(4,.int .i64 z),(5,.int .i64 (d:Int)),(3,.nilS)],[],.dead,[]⟩):ax prog ap [] nt (ag 0 (ai f135)) ⟨[(0,.str s),(3,.nilS),(4,.int .i64 z)],[],.dead,[]⟩ (.normal) ⟨[(0,.str s),(3,.ref 0 0 0 1),(4,.int .i64 (IntKind.wrap .i64 (z - ((3:Nat):Int))))],[(0,⟨[.int .i64 (d:Int)],0,false,0,1,true⟩)],.dead,[]⟩:=pJ 135 [2] 2 1 (.k 3 c .nil) (.l a .nil) b
theorem ajF {nt:Nat} (a:35≤nt) (s:List UInt8) (o:List Nat) (z:Int) (d:Nat) (b:lit false (decide (((0:Nat):Int)<z))=true):ax prog ap [] nt (ag 0 (ai f135)) ⟨[(0,.str s),(3,.nilS),(4,.int .i64 z)],[],.dead,[]⟩ (.exit 0) ⟨[(3,.nilS)],[],.dead,[]⟩:=pJ 135 [2] 1 0 (.c b .nil) (.nil) a
theorem afT (s:List UInt8) (o:List Nat) (b:CO 133 [.str s] (.ret (.str (af (ah s))))) (a:aO prog ap [] 35 (.block 0 (.loop (ag 0 (ai f135)))) ⟨[(0,.str (af (ah s))),(2,.nilS),(3,.nilS),(4,.int .i64 (((List.length (af (ah s))):Nat):Int)),(5,.dead),(6,.dead),(12,.dead),(20,.dead)],[],.dead,[]⟩ (.normal) ⟨[(3,.nilS)],[],.dead,[]⟩):CO 135 [.str s] (.ret (.nilS)):=pK [0] 0 0 .nil (.l a (.c b .nil))
theorem ajz {nt:Nat} (e:35≤nt) (s:List UInt8) (o:List Nat) (z:Int) (d:Nat) (f:(Nat.ble (o.length+1) 1099511627776)=true) (c:(Nat.ble (o.length*1) (List.length (ak o)))=true) (a:lit true (decide (((0:Nat):Int)<z))=true) (b:aO prog ap [] 35 (.block 2 (.loop (ag 2 (ai f135)))) ⟨[(0,.str s),(2,.dead),(3,.ref 0 0 0 o.length),(4,.int .i64 z),(5,.int .i64 0),(6,.int .i64 (if ((0:Nat):Int)>(IntKind.wrap .i64 (z - ((3:Nat):Int))) then ((0:Nat):Int) else (IntKind.wrap .i64 (z - ((3:Nat):Int))))),(12,.bool (decide (((0:Nat):Int)<z))),(20,.dead)],[(0,⟨(ak o),0,false,0,1,true⟩)],.dead,[]⟩ (.normal) ⟨[(0,.str s),(4,.int .i64 z),(5,.int .i64 (d:Int)),(3,.ref 0 0 0 o.length)],[(0,⟨(ak o),0,false,0,1,true⟩)],.dead,[]⟩):ax prog ap [] nt (ag 0 (ai f135)) ⟨[(0,.str s),(3,.ref 0 0 0 o.length),(4,.int .i64 z)],[(0,⟨(ak o),0,false,0,1,true⟩)],.dead,[]⟩ (.normal) ⟨[(0,.str s),(3,.ref 0 0 0 (o.length+1)),(4,.int .i64 (IntKind.wrap .i64 (z - ((3:Nat):Int))))],[(0,⟨((List.take (o.length*1) (ak o))++ [.int .i64 (d:Int)]),0,false,0,1,true⟩)],.dead,[]⟩:=pJ 135 [2] 1 1 (.k 1 f (.c c (.k 1 a .nil))) (.l b .nil) e
theorem ajA {nt:Nat} (a:35≤nt) (s:List UInt8) (o:List Nat) (z:Int) (d:Nat) (b:lit false (decide (((0:Nat):Int)<z))=true):ax prog ap [] nt (ag 0 (ai f135)) ⟨[(0,.str s),(3,.ref 0 0 0 o.length),(4,.int .i64 z)],[(0,⟨(ak o),0,false,0,1,true⟩)],.dead,[]⟩ (.exit 0) ⟨[(3,.ref 0 0 0 o.length)],[(0,⟨(ak o),0,false,0,1,true⟩)],.dead,[]⟩:=pJ 135 [2] 1 0 (.c b .nil) (.nil) a
theorem afS (s:List UInt8) (o:List Nat) (b:CO 133 [.str s] (.ret (.str (af (ah s))))) (a:aO prog ap [] 35 (.block 0 (.loop (ag 0 (ai f135)))) ⟨[(0,.str (af (ah s))),(2,.nilS),(3,.nilS),(4,.int .i64 (((List.length (af (ah s))):Nat):Int)),(5,.dead),(6,.dead),(12,.dead),(20,.dead)],[],.dead,[]⟩ (.normal) ⟨[(3,.ref 0 0 0 o.length)],[(0,⟨(ak o),0,false,0,1,true⟩)],.dead,[]⟩):CO 135 [.str s] (.ret (.own (List.take (o.length*1) (ak o)) o.length 1)):=pK [0] 0 0 .nil (.l a (.c b .nil))
def XB (s:List UInt8) (o:List Nat) (e j k:Nat):St:=⟨[(0,.str s),(3,NK o),(4,.int .i64 (e:Int)),(5,.int .i64 ((ah ((s.take k).drop j):Nat):Int)),(6,.int .i64 (k:Int))],NL o,.dead,[]⟩
def Xz (s:List UInt8) (o:List Nat) (e d:Nat):St:=⟨[(0,.str s),(3,NK o),(4,.int .i64 (e:Int)),(5,.int .i64 (d:Int))],NL o,.dead,[]⟩
theorem Uk {s:List UInt8} {j k:Nat} (h:k<s.length) (a:j≤k):ah ((s.take (k+1)).drop j)=ah ((s.take k).drop j)*256+(s.getD k 0).toNat:=by
 rw [List.take_add_one,List.getElem?_eq_getElem h,List.drop_append_of_le_length (by simp;omega),List.getD_eq_getElem?_getD,List.getElem?_eq_getElem h]
 exact nX _ _
theorem Q3 {s:List UInt8} {j k:Nat} (h:k≤j+3):ah ((s.take k).drop j)<16777216:=by
 have a:=kV ((s.take k).drop j)
 have b:((s.take k).drop j).length≤3:=by simp;omega
 exact Nat.lt_of_lt_of_le a (Nat.le_trans (Nat.pow_le_pow_right (by omega) (show 8*((s.take k).drop j).length≤24 by omega)) (by decide))
theorem abe {nt:Nat} (f:35≤nt) (s:List UInt8) (o:List Nat) (e j:Nat) (hs:s.length<2^40) (t:e≤s.length) (r:e≤j+3):∀ (n k:Nat),k+n=e→j≤k→aI prog ap [] nt (ag 2 (ai f135)) (fun _=> .exit 2) (XB s o e j) (Xz s o e) k (ah ((s.take e).drop j)):=by
 intro n
 induction n with
 | zero=>
  intro k p a
  have g:k=e:=by omega
  subst g
  refine .done ?_
  unfold XB Xz
  rcases Decidable.em (o= []) with rfl|hne
  ·exact ajL f s [] k _ k (by rw [bI];simp [lit])
  ·rw [gz hne,gB hne]
   exact ajJ f s o k _ k (by rw [bI];simp [lit])
 | succ n ih=>
  intro k p a
  refine .next ?_ (ih (k+1) (by omega) (by omega))
  have h:k<s.length:=by omega
  have q:=Q3 (s:=s) (j:=j) (k:=k) (by omega)
  have u:(s.getD k 0).toNat<256:=UInt8.toNat_lt _
  have m:=Uk h a
  unfold XB
  rw [m]
  generalize l:(s.getD k 0).toNat=c at*
  generalize ah ((s.take k).drop j)=d at*
  clear ih m
  have v:IntKind.wrap .i64 ((d:Int)*((256:Nat):Int))=((d*256:Nat):Int):=by rw [bF]<;>omega
  have i:(((d*256:Nat):Int))+(c:Int)=((d*256+c:Nat):Int):=by omega
  rcases Decidable.em (o= []) with rfl|hne
  ·have b:=ajK f s [] e d k
   simp (disch:=first|omega|(simp [ay,az]<;>omega)) only [eu,bG,bI,bQ,yz,bz,aJ,l,i,dD] at b
   apply b<;>first|exact True.intro|omega|assumption|exact rfl
  ·have b:=ajI f s o e d k
   rw [gz hne,gB hne]
   simp (disch:=first|omega|(simp [ay,az]<;>omega)) only [eu,bG,bI,bQ,yz,bz,aJ,l,i,dD] at b
   apply b<;>first|exact True.intro|omega|assumption|exact rfl
def Uj (s:List UInt8) (p:Int × List Nat):St:=⟨[(0,.str s),(3,NK p.2),(4,.int .i64 p.1)],NL p.2,.dead,[]⟩
def QY (o:List Nat):St:=⟨[(3,NK o)],NL o,.dead,[]⟩
theorem abd {nt:Nat} (c:35≤nt) (s:List UInt8) (o:List Nat) (e:Nat) (hs:s.length<2^38) (h:e≤s.length) (k:0<e) (j:o.length<2^39):
  ax prog ap [] nt (ag 0 (ai f135)) (Uj s ((e:Int),o)) .normal (Uj s ((e:Int) - 3,o++ [ah ((s.take e).drop (e - 3))])):=by
 have hloop:=fun nt (c:35≤nt)=>abe c s o e (e - 3) (by omega) h (by omega) (e - (e - 3)) (e - 3) (by omega) (Nat.le_refl _)
 have f:IntKind.wrap .i64 ((e:Int) - ((3:Nat):Int))=(e:Int) - 3:=bF (by omega) (by omega)
 have g:(if ((0:Nat):Int)>(e:Int) - 3 then ((0:Nat):Int) else (e:Int) - 3)=((e - 3:Nat):Int):=by
  split<;>omega
 have b:ah ((s.take (e - 3)).drop (e - 3))=0:=by
  rw [List.drop_of_length_le (by simp;omega)];rfl
 have i:(List.drop (e - 3) (List.take e s)).length≤3:=by simp;omega
 unfold Uj
 generalize ah ((s.take e).drop (e - 3))=d at*
 rcases Decidable.em (o= []) with rfl|hne
 ·have a:=ajE c s [] (e:Int) d
  rw [f,g] at a
  simp (disch:=first|omega|(simp [ay,az]<;>omega)) only [bI,bQ,bG] at a
  simp only [List.nil_append,NK,NL,ak,List.map_cons,List.map_nil,List.length_cons,List.length_nil] at a ⊢
  apply a
  ·omega
  ·refine aI.blk hloop (by simp) rfl ?_ (aQ.of ⟨rfl,rfl,rfl,rfl,trivial⟩)
   unfold XB
   rw [b]
   exact aQ.of ⟨rfl,rfl,rfl,rfl,rfl,trivial⟩
 ·have a:=ajz c s o (e:Int) d
  rw [f,g] at a
  rw [gz hne,gB hne,gz (iT _ _),gB (iT _ _)]
  simp (disch:=first|omega|(simp [ay,az]<;>omega)) only [fZ,bG,Nat.mul_one,bZ,bI,bQ,dK,List.take_length,kJ] at a
  simp only [List.length_append,List.length_singleton]
  apply a<;>first|exact True.intro|omega|assumption|exact rfl|skip
  ·refine aI.blk hloop (by simp) rfl ?_ ?_
   ·unfold XB
    rw [b,gz hne,gB hne]
    exact aQ.of ⟨rfl,rfl,rfl,rfl,rfl,trivial⟩
   ·unfold Xz
    rw [gz hne,gB hne]
    exact aQ.of ⟨rfl,rfl,rfl,rfl,trivial⟩
theorem Xv {nt:Nat} (a:35≤nt) (s:List UInt8) (o:List Nat) (z:Int) (c:z≤0):ax prog ap [] nt (ag 0 (ai f135)) (Uj s (z,o)) (.exit 0) (QY o):=by
 unfold Uj QY
 have b:lit false (decide (((0:Nat):Int)<z))=true:=by simp [lit];exact c
 rcases Decidable.em (o= []) with rfl|hne
 ·exact ajF a s [] z 0 b
 ·rw [gz hne,gB hne]
  exact ajA a s o z 0 b
theorem ahI {s:List UInt8} {e:Nat} (g:e≤s.length):ah (s.take e)=16777216*ah (s.take (e - 3))+ah ((s.take e).drop (e - 3)):=by
 have c:∀ (b a:List UInt8),ah (a++b)=ah a*256^b.length+ah b:=by
  intro b a
  unfold ah
  rw [List.foldl_append,HY];rfl
 have hs:s.take e=s.take (e - 3)++(s.take e).drop (e - 3):=by
  have f:=List.take_append_drop (e - 3) (s.take e)
  rw [List.take_take,Nat.min_eq_left (by omega)] at f
  exact f.symm
 have d:=c ((s.take e).drop (e - 3)) (s.take (e - 3))
 rw [← hs] at d
 rw [d]
 rcases Nat.lt_or_ge e 3 with h3|h3
 ·have:e - 3=0:=by omega
  rw [this];simp [ah]
 ·have:((s.take e).drop (e - 3)).length=3:=by simp;omega
  rw [this,Nat.mul_comm,show 256^3=16777216 from rfl]
theorem Xw {nt:Nat} (b:35≤nt) (s:List UInt8) (hs:s.length<2^38) (i:nR s=true):∀ (n e:Nat) (o:List Nat),e<n→e≤s.length→o.length+e<2^39→aI prog ap [] nt (ag 0 (ai f135)) (fun _=> .exit 0) (Uj s) QY ((e:Int),o) (o++au (ah (s.take e))):=by
 intro n
 induction n with
 |zero=>intro e o h;omega
 | succ n ih=>
  intro e o h d q
  rcases Nat.eq_zero_or_pos e with rfl|h0
  ·have:ah (s.take 0)=0:=rfl
   rw [this,fK,List.append_nil]
   exact .done (Xv b s o _ (by omega))
  ·have m:0<ah (s.take e):=by
    cases s with
    |nil=>simp at d;omega
    | cons c r=>
     have l:c ≠ 0:=by simpa [nR] using i
     have a:0<c.toNat:=by
      rcases Nat.eq_zero_or_pos c.toNat with h|h
      ·exact absurd (by apply UInt8.toNat_inj.1;simpa using h) l
      ·exact h
     obtain ⟨e',rfl⟩:∃ e',e=e'+1:=⟨e - 1,by omega⟩
     rw [List.take_succ_cons,jk]
     have:=Nat.mul_pos a (show 0<256^(r.take e').length from Nat.pow_pos (by omega))
     omega
   have g:=ahI d
   have hd:=Q3 (s:=s) (j:=e - 3) (k:=e) (by omega)
   have hstep:=abd b s o e hs d h0 (by omega)
   rw [n_ m,show ah (s.take e) % 16777216=ah ((s.take e).drop (e - 3)) by omega,show ah (s.take e) / 16777216=ah (s.take (e - 3)) by omega]
   rcases Nat.lt_or_ge e 3 with h3|h3
   ·have p:e - 3=0:=by omega
    have f:ah (s.take (e - 3))=0:=by rw [p];rfl
    rw [f,fK]
    exact .next hstep (.done (Xv b s _ _ (by omega)))
   ·have hnext:=ih (e - 3) (o++ [ah ((s.take e).drop (e - 3))]) (by omega) (by omega) (by simp;omega)
    rw [List.append_assoc] at hnext
    rw [show ((e:Int) - 3)=((e - 3:Nat):Int) by omega] at hstep
    exact .next hstep hnext
theorem BP (s:List UInt8) (hs:s.length<2^37):CO 135 [.str s] (.ret (.sl (ak (au (ah s))) (au (ah s)).length false)):=by
 have c:=iq s (by omega)
 have b:(af (ah s)).length≤s.length:=nD (Nat.le_refl _)
 have a:=aB (ah s)
 have hloop:=fun nt (hn:35≤nt)=>Xw hn (af (ah s)) (by omega) (y_ _) ((af (ah s)).length+1) (af (ah s)).length [] (by omega) (Nat.le_refl _) (by simp;omega)
 rw [List.take_length,a,List.nil_append] at hloop
 generalize hd:au (ah s)=o at*
 rcases Decidable.em (o= []) with rfl|hne
 ·have h:=afT s [] c (aI.blk hloop (by simp) rfl (aQ.of ⟨rfl,rfl,rfl,trivial⟩) (aQ.of ⟨rfl,trivial⟩))
  exact h.out (jq.ret rfl rfl (aW.nilS false rfl))
 ·have h:=(afS s o c (aI.blk hloop (by simp) rfl (aQ.of ⟨rfl,rfl,rfl,trivial⟩) (by unfold QY;rw [gz hne,gB hne];exact aQ.of ⟨rfl,trivial⟩))).thaw (by simp)
  simp only [zD,thaw,Nat.mul_one,dK,List.take_length] at h
  exact h.out (jq.sl1 _ _ _)
theorem anB (s t:List UInt8) (x y q r:Nat) (a:(!((y:Int)==((0:Nat):Int)))=true) (c:lit false ((((List.length (af (ah t))):Nat):Int)==((0:Nat):Int))=true) (b:CO 133 [.str t] (.ret (.str (af (ah t))))) (g:CO 134 [.str s,.int .i64 7] (.ret (.tup [.int .i64 (x:Int),.bool true]))) (e:CO 134 [.str (af (ah t)),.int .i64 7] (.ret (.tup [.int .i64 (y:Int),.bool true]))) (d:CO 79 [.int .i64 (IntKind.wrap .i64 (Int.tdiv (x:Int) (y:Int)))] (.ret (.str (af q)))) (f:CO 79 [.int .i64 (Int.tmod (x:Int) (y:Int))] (.ret (.str (af r)))):CO 150 [.str s,.str t] (.ret (.tup [.str (af q),.str (af r),.bool true])):=pK [0] 3 6 (.c a (.c a (.k 2 c .nil))) (.c f (.c d (.c e (.c g (.c b .nil)))))
theorem anz (s t:List UInt8) (x y q r m:Nat) (Q:List Nat) (a:Int) (b:Bool) (n:(decide (((0:Nat):Int)≤(((au (ah s)).length:Nat):Int)))=true) (f:(decide ((((au (ah s)).length:Nat):Int)=(((au (ah s)).length:Nat):Int)))=true) (i:(decide ((((au (ah s)).length:Nat):Int)≤((1099511627776:Nat):Int)))=true) (j:lit false ((((List.length (af (ah t))):Nat):Int)==((0:Nat):Int))=true) (k:CO 133 [.str t] (.ret (.str (af (ah t))))) (o:CO 134 [.str s,.int .i64 7] (.ret (.tup [.int .i64 0,.bool false]))) (l:CO 134 [.str (af (ah t)),.int .i64 7] (.ret (.tup [.int .i64 a,.bool b]))) (h:CO 135 [.str s] (.ret (.sl (ak (au (ah s))) (au (ah s)).length false))) (d:CO 135 [.str (af (ah t))] (.ret (.sl (ak (au (ah (af (ah t))))) (au (ah (af (ah t)))).length false))) (e:aO prog ap [] 87 (.block 0 (.loop (ag 0 (ai f150)))) ⟨[(0,.str s),(1,.str (af (ah t))),(4,.str []),(5,.str []),(6,.bool false),(7,.int .i64 0),(8,.bool false),(9,.int .i64 a),(10,.bool b),(11,.sl (ak (au (ah s))) (au (ah s)).length false),(12,.sl (ak (au (ah (af (ah t))))) (au (ah (af (ah t)))).length false),(13,.ref 0 0 0 (Int.toNat (((au (ah s)).length:Nat):Int))),(14,.nilS),(15,.int .i64 (IntKind.wrap .i64 ((((au (ah s)).length:Nat):Int) - ((1:Nat):Int)))),(20,.bool ((((List.length (af (ah t))):Nat):Int)==((0:Nat):Int))),(34,.bool false),(54,.dead),(68,.dead)],[(0,⟨(gu (Int.toNat (((au (ah s)).length:Nat):Int)) [.int .i64 0]),0,false,0,1,true⟩)],.dead,[]⟩ (.normal) ⟨[(13,.ref 0 0 0 m),(14,.sl (ak (au r)) (au r).length false)],[(0,⟨(ak Q),0,false,0,1,true⟩)],.dead,[]⟩) (c:CO 136 [.sl (List.take (m*1) (ak Q)) m true] (.ret (.str (af q)))) (g:CO 136 [.sl (ak (au r)) (au r).length false] (.ret (.str (af r)))):CO 150 [.str s,.str t] (.ret (.tup [.str (af q),.str (af r),.bool true])):=pK [0] 3 0 (.c n (.c f (.c i (.k 2 j .nil)))) (.c g (.c c (.l e (.c d (.c h (.c l (.c o (.c k .nil))))))))
theorem anA (s t:List UInt8) (x y q r m:Nat) (Q:List Nat) (n:Int) (o:Bool) (k:(decide (((0:Nat):Int)≤(((au (ah s)).length:Nat):Int)))=true) (d:(decide ((((au (ah s)).length:Nat):Int)=(((au (ah s)).length:Nat):Int)))=true) (g:(decide ((((au (ah s)).length:Nat):Int)≤((1099511627776:Nat):Int)))=true) (h:lit false ((((List.length (af (ah t))):Nat):Int)==((0:Nat):Int))=true) (i:CO 133 [.str t] (.ret (.str (af (ah t))))) (l:CO 134 [.str s,.int .i64 7] (.ret (.tup [.int .i64 (x:Int),.bool true]))) (j:CO 134 [.str (af (ah t)),.int .i64 7] (.ret (.tup [.int .i64 0,.bool false]))) (f:CO 135 [.str s] (.ret (.sl (ak (au (ah s))) (au (ah s)).length false))) (b:CO 135 [.str (af (ah t))] (.ret (.sl (ak (au (ah (af (ah t))))) (au (ah (af (ah t)))).length false))) (c:aO prog ap [] 87 (.block 0 (.loop (ag 0 (ai f150)))) ⟨[(0,.str s),(1,.str (af (ah t))),(4,.str []),(5,.str []),(6,.bool false),(7,.int .i64 (x:Int)),(8,.bool true),(9,.int .i64 0),(10,.bool false),(11,.sl (ak (au (ah s))) (au (ah s)).length false),(12,.sl (ak (au (ah (af (ah t))))) (au (ah (af (ah t)))).length false),(13,.ref 0 0 0 (Int.toNat (((au (ah s)).length:Nat):Int))),(14,.nilS),(15,.int .i64 (IntKind.wrap .i64 ((((au (ah s)).length:Nat):Int) - ((1:Nat):Int)))),(20,.bool ((((List.length (af (ah t))):Nat):Int)==((0:Nat):Int))),(34,.bool false),(54,.dead),(68,.dead)],[(0,⟨(gu (Int.toNat (((au (ah s)).length:Nat):Int)) [.int .i64 0]),0,false,0,1,true⟩)],.dead,[]⟩ (.normal) ⟨[(13,.ref 0 0 0 m),(14,.sl (ak (au r)) (au r).length false)],[(0,⟨(ak Q),0,false,0,1,true⟩)],.dead,[]⟩) (a:CO 136 [.sl (List.take (m*1) (ak Q)) m true] (.ret (.str (af q)))) (e:CO 136 [.sl (ak (au r)) (au r).length false] (.ret (.str (af r)))):CO 150 [.str s,.str t] (.ret (.tup [.str (af q),.str (af r),.bool true])):=pK [0] 3 2 (.c k (.c d (.c g (.k 2 h .nil)))) (.c e (.c a (.l c (.c b (.c f (.c j (.c l (.c i .nil))))))))
theorem anC {nt:Nat} (e:87≤nt) (x y r w q p a m k:Nat) (c:Int) (Q:List Nat) (z:(chk (.int .i64) (List.headD (List.drop ((0+(Int.toNat (k:Int)))*1) (List.take ((0+(Int.toNat (k:Int)))*1) (ak Q)++ [.int .i64 (q:Int)]++List.drop (((0+(Int.toNat (k:Int)))*1)+1) (ak Q))) .dead))=true) (b:(decide (((0:Nat):Int)≤(k:Int)))=true) (d:(decide ((k:Int)<(m:Int)))=true) (s:(Nat.ble (((0+(Int.toNat (k:Int)))*1)+1) (List.length (ak Q)))=true) (j:lit true (decide (((0:Nat):Int)≤c))=true) (i:(Nat.beq (List.length (ak (au r))) ((au r).length*1))=true) (g:(Nat.ble (1+(au r).length) 1099511627776)=true) (l:(chk (.int .i64) (List.headD (List.drop ((Int.toNat (k:Int))*1) (ak (au x))) .dead))=true) (u:(decide ((k:Int)<(((au x).length:Nat):Int)))=true) (h:lit true (decide (((0:Nat):Int)≤(k:Int)))=true) (t:CO 185 [.sl (List.take ((1+(au r).length)*1) ([.int .i64 (AV.toInt (List.headD (List.drop ((Int.toNat (k:Int))*1) (ak (au x))) .dead))]++(ak (au r)))) (1+(au r).length) true] (.ret (.sl (ak (au w)) (au w).length false))) (o:CO 186 [.sl (ak (au w)) (au w).length false,.sl (ak (au y)) (au y).length false] (.ret (.int .i64 c))) (v:CO 187 [.sl (ak (au w)) (au w).length false,.sl (ak (au y)) (au y).length false] (.ret (.int .i64 (q:Int)))) (n:CO 188 [.sl (ak (au y)) (au y).length false,.int .i64 (AV.toInt (List.headD (List.drop ((0+(Int.toNat (k:Int)))*1) (List.take ((0+(Int.toNat (k:Int)))*1) (ak Q)++ [.int .i64 (q:Int)]++List.drop (((0+(Int.toNat (k:Int)))*1)+1) (ak Q))) .dead))] (.ret (.sl (ak (au p)) (au p).length true))) (f:CO 151 [.sl (ak (au w)) (au w).length false,.sl (ak (au p)) (au p).length true] (.ret (.sl (ak (au a)) (au a).length false))):ax prog ap [] nt (ag 0 (ai f150)) ⟨[(11,.sl (ak (au x)) (au x).length false),(12,.sl (ak (au y)) (au y).length false),(13,.ref 0 0 0 m),(14,.sl (ak (au r)) (au r).length false),(15,.int .i64 (k:Int))],[(0,⟨(ak Q),0,false,0,1,true⟩)],.dead,[]⟩ (.normal) ⟨[(11,.sl (ak (au x)) (au x).length false),(12,.sl (ak (au y)) (au y).length false),(13,.ref 0 0 0 m),(14,.sl (ak (au a)) (au a).length false),(15,.int .i64 (IntKind.wrap .i64 ((k:Int) - ((1:Nat):Int))))],[(0,⟨(List.take ((0+(Int.toNat (k:Int)))*1) (ak Q)++ [.int .i64 (q:Int)]++List.drop (((0+(Int.toNat (k:Int)))*1)+1) (ak Q)),0,false,0,1,true⟩)],.dead,[]⟩:=pJ 150 [] 2 3 (.c z (.c b (.c d (.c s (.c b (.c d (.c j (.c i (.c g (.k 2 l (.c b (.c u (.c h .nil))))))))))))) (.c f (.c n (.c v (.c o (.c t .nil))))) e
theorem anD {nt:Nat} (a:87≤nt) (x y r w q p n m k:Nat) (c:Int) (Q:List Nat) (l:lit false (decide (((0:Nat):Int)≤c))=true) (e:(Nat.beq (List.length (ak (au r))) ((au r).length*1))=true) (h:(Nat.ble (1+(au r).length) 1099511627776)=true) (i:(chk (.int .i64) (List.headD (List.drop ((Int.toNat (k:Int))*1) (ak (au x))) .dead))=true) (f:(decide (((0:Nat):Int)≤(k:Int)))=true) (d:(decide ((k:Int)<(((au x).length:Nat):Int)))=true) (b:lit true (decide (((0:Nat):Int)≤(k:Int)))=true) (j:CO 185 [.sl (List.take ((1+(au r).length)*1) ([.int .i64 (AV.toInt (List.headD (List.drop ((Int.toNat (k:Int))*1) (ak (au x))) .dead))]++(ak (au r)))) (1+(au r).length) true] (.ret (.sl (ak (au w)) (au w).length false))) (g:CO 186 [.sl (ak (au w)) (au w).length false,.sl (ak (au y)) (au y).length false] (.ret (.int .i64 c))):ax prog ap [] nt (ag 0 (ai f150)) ⟨[(11,.sl (ak (au x)) (au x).length false),(12,.sl (ak (au y)) (au y).length false),(13,.ref 0 0 0 m),(14,.sl (ak (au r)) (au r).length false),(15,.int .i64 (k:Int))],[(0,⟨(ak Q),0,false,0,1,true⟩)],.dead,[]⟩ (.normal) ⟨[(11,.sl (ak (au x)) (au x).length false),(12,.sl (ak (au y)) (au y).length false),(13,.ref 0 0 0 m),(14,.sl (ak (au w)) (au w).length false),(15,.int .i64 (IntKind.wrap .i64 ((k:Int) - ((1:Nat):Int))))],[(0,⟨(ak Q),0,false,0,1,true⟩)],.dead,[]⟩:=pJ 150 [] 2 1 (.c l (.c e (.c h (.k 2 i (.c f (.c d (.c b .nil))))))) (.c g (.c j .nil)) a
theorem aka {nt:Nat} (a:87≤nt) (x y r w q p b m k:Nat) (c:Int) (Q:List Nat):ax prog ap [] nt (ag 0 (ai f150)) ⟨[(11,.sl (ak (au x)) (au x).length false),(12,.sl (ak (au y)) (au y).length false),(13,.ref 0 0 0 m),(14,.sl (ak (au r)) (au r).length false),(15,.int .i64 (-1))],[(0,⟨(ak Q),0,false,0,1,true⟩)],.dead,[]⟩ (.exit 0) ⟨[(13,.ref 0 0 0 m),(14,.sl (ak (au r)) (au r).length false)],[(0,⟨(ak Q),0,false,0,1,true⟩)],.dead,[]⟩:=pJ 150 [] 1 0 (.n 1 .nil) (.nil) a
def AC (x y m k:Nat):List Nat:=(List.range m).map fun i=>if i<k then 0 else x / 16777216^i / y % 16777216
theorem xK (x y m k:Nat):(AC x y m k).length=m:=by simp [AC]
theorem aby {x y m k:Nat} (a:k<m):(AC x y m (k+1)).set k (x / 16777216^k / y % 16777216)=AC x y m k:=by
 apply List.ext_getElem?
 intro i
 rw [List.getElem?_set,xK]
 unfold AC
 by_cases hi:k=i
 ·subst hi;simp [a]
 ·rw [if_neg hi]
  by_cases him:i<m
  ·simp only [List.getElem?_map,List.getElem?_range him,Option.map_some]
   by_cases h1:i<k
   ·rw [if_pos (by omega),if_pos h1]
   ·rw [if_neg (by omega),if_neg h1]
  ·rw [List.getElem?_eq_none (by simp;omega),List.getElem?_eq_none (by simp;omega)]
theorem Ik (x y m:Nat):AC x y m m=List.replicate m 0:=by
 unfold AC
 apply List.ext_getElem?
 intro i
 by_cases him:i<m
 ·simp [him]
 ·rw [List.getElem?_eq_none (by simp;omega),List.getElem?_eq_none (by simp;omega)]
theorem abw (x y m k:Nat):bu (AC x y m k):=by
 intro d hd
 obtain ⟨i,_,rfl⟩:=List.mem_map.1 hd
 show (if i<k then 0 else _)<_
 split<;>omega
theorem YL (z:Nat):∀ m,cO ((List.range m).map fun i=>z / 16777216^i % 16777216)=z % 16777216^m:=by
 intro m
 induction m with
 |zero=>simp [cO,Nat.mod_one]
 |succ m ih=>
  rw [List.range_succ,List.map_append,zM,ih,List.length_map,List.length_range,Nat.pow_succ,Nat.mod_mul]
  simp only [List.map_cons,List.map_nil,cO,Nat.mul_zero,Nat.add_zero]
theorem abA {x y m:Nat} (h:x / y<16777216^m):cO (AC x y m 0)=x / y:=by
 have e:AC x y m 0=(List.range m).map fun i=>x / y / 16777216^i % 16777216:=by
  unfold AC
  apply List.map_congr_left
  intro i _
  rw [if_neg (by omega),Nat.div_div_eq_div_mul,Nat.div_div_eq_div_mul,Nat.mul_comm]
 rw [e,YL,Nat.mod_eq_of_lt h]
theorem VC:∀ (k x:Nat),(au x).getD k 0=x / 16777216^k % 16777216:=by
 intro k
 induction k with
 |zero=>
  intro x
  rcases Nat.eq_zero_or_pos x with rfl|h
  ·rw [fK];rfl
  ·rw [n_ h];simp
 |succ k ih=>
  intro x
  rcases Nat.eq_zero_or_pos x with rfl|h
  ·rw [fK];simp
  ·rw [n_ h,List.getD_cons_succ,ih,Nat.div_div_eq_div_mul,Nat.pow_succ,Nat.mul_comm]
theorem Qn {V R' Q' x H:Nat} (a:0<V) (h:H=V*Q'+R'):(x+16777216*H) / V=16777216*Q'+(x+16777216*R') / V∧(x+16777216*H) % V=(x+16777216*R') % V:=by
 subst h
 have e:x+16777216*(V*Q'+R')=x+16777216*R'+V*(16777216*Q'):=by
  rw [Nat.mul_add,Nat.mul_left_comm];omega
 rw [e]
 constructor
 ·rw [Nat.add_mul_div_left _ _ a,Nat.add_comm]
 ·rw [Nat.add_mul_mod_self_left]
def Um (x y m k:Nat):St:=⟨[(11,.sl (ak (au x)) (au x).length false),(12,.sl (ak (au y)) (au y).length false),(13,.ref 0 0 0 m),(14,.sl (ak (au (x / 16777216^k % y))) (au (x / 16777216^k % y)).length false),(15,.int .i64 ((k:Int) - 1))],[(0,⟨ak (AC x y m k),0,false,0,1,true⟩)],.dead,[]⟩
theorem anF {nt:Nat} (i:87≤nt) (x y r w q p b m k d:Nat) (c:Int) (Q Q2:List Nat) (z:k<(au x).length) (hd:(au x).getD k 0=d) (s:Q.length=m) (o:k<m) (A:m<2^40) (v:(au r).length<2^39) (a:Q.set k q=Q2) (t:0≤c)
  (c0:CO 185 [.sl (ak (d::au r)) (1+(au r).length) true] (.ret (.sl (ak (au w)) (au w).length false)))
  (c1:CO 186 [.sl (ak (au w)) (au w).length false,.sl (ak (au y)) (au y).length false] (.ret (.int .i64 c)))
  (c2:CO 187 [.sl (ak (au w)) (au w).length false,.sl (ak (au y)) (au y).length false] (.ret (.int .i64 (q:Int))))
  (c3:CO 188 [.sl (ak (au y)) (au y).length false,.int .i64 (q:Int)] (.ret (.sl (ak (au p)) (au p).length true)))
  (c4:CO 151 [.sl (ak (au w)) (au w).length false,.sl (ak (au p)) (au p).length true] (.ret (.sl (ak (au b)) (au b).length false))):
  ax prog ap [] nt (ag 0 (ai f150)) ⟨[(11,.sl (ak (au x)) (au x).length false),(12,.sl (ak (au y)) (au y).length false),(13,.ref 0 0 0 m),(14,.sl (ak (au r)) (au r).length false),(15,.int .i64 (k:Int))],[(0,⟨ak Q,0,false,0,1,true⟩)],.dead,[]⟩ .normal
   ⟨[(11,.sl (ak (au x)) (au x).length false),(12,.sl (ak (au y)) (au y).length false),(13,.ref 0 0 0 m),(14,.sl (ak (au b)) (au b).length false),(15,.int .i64 ((k:Int) - 1))],[(0,⟨ak Q2,0,false,0,1,true⟩)],.dead,[]⟩:=by
 have g:=anC i x y r w q p b m k c Q
 have n:IntKind.wrap .i64 ((k:Int) - ((1:Nat):Int))=(k:Int) - 1:=bF (by omega) (by omega)
 have hset':=Qz (l:=Q) (j:=k) (by omega) q
 rw [a] at hset'
 have f:Q2.getD k 0=q:=by rw [← a,List.getD_eq_getElem?_getD,List.getElem?_set_self (by omega)];rfl
 have u:Q2.length=m:=by rw [← a];simp [s]
 have e:List.take (1+(au r).length) (ak (d::au r))=ak (d::au r):=by rw [dK,List.take_of_length_le (by simp;omega)]
 have h:(((0:Nat):Int)≤c)=True:=by simp [t]
 simp (disch:=first|omega|(simp [ay,az]<;>omega)) only [aJ,Nat.zero_add,Nat.mul_one,hset',gp,f,d_,eu,bG,bI,bZ,fZ,h,decide_true,bQ,Jt,hd,bg,Lp,e,n] at g
 apply g<;>first|exact True.intro|omega|assumption|exact rfl
theorem anE {nt:Nat} (f:87≤nt) (x y r w m k d:Nat) (c:Int) (Q:List Nat) (o:k<(au x).length) (hd:(au x).getD k 0=d) (n:Q.length=m) (i:k<m) (l:m<2^40) (j:(au r).length<2^39) (g:c<0)
  (c0:CO 185 [.sl (ak (d::au r)) (1+(au r).length) true] (.ret (.sl (ak (au w)) (au w).length false)))
  (c1:CO 186 [.sl (ak (au w)) (au w).length false,.sl (ak (au y)) (au y).length false] (.ret (.int .i64 c))):
  ax prog ap [] nt (ag 0 (ai f150)) ⟨[(11,.sl (ak (au x)) (au x).length false),(12,.sl (ak (au y)) (au y).length false),(13,.ref 0 0 0 m),(14,.sl (ak (au r)) (au r).length false),(15,.int .i64 (k:Int))],[(0,⟨ak Q,0,false,0,1,true⟩)],.dead,[]⟩ .normal
   ⟨[(11,.sl (ak (au x)) (au x).length false),(12,.sl (ak (au y)) (au y).length false),(13,.ref 0 0 0 m),(14,.sl (ak (au w)) (au w).length false),(15,.int .i64 ((k:Int) - 1))],[(0,⟨ak Q,0,false,0,1,true⟩)],.dead,[]⟩:=by
 have b:=anD f x y r w 0 0 0 m k c Q
 have h:IntKind.wrap .i64 ((k:Int) - ((1:Nat):Int))=(k:Int) - 1:=bF (by omega) (by omega)
 have a:List.take (1+(au r).length) (ak (d::au r))=ak (d::au r):=by rw [dK,List.take_of_length_le (by simp;omega)]
 have e:(((0:Nat):Int)≤c)=False:=by simp [g]
 simp (disch:=first|omega|(simp [ay,az]<;>omega)) only [e,decide_false,fB,Bool.not_false,bZ,Nat.mul_one,Jt,decide_true,fZ,bG,aJ,gp,hd,d_,eu,bI,bQ,bg,Lp,a,h] at b
 apply b<;>first|exact True.intro|omega|assumption|exact rfl
theorem abt (x y m k:Nat) (c:0<y) (l:k<m):∃ d r w:Nat,(au x).getD k 0=d∧x / 16777216^(k+1) % y=r∧d+16777216*r=w∧d<16777216∧r<y∧x / 16777216^k % y=w % y∧(AC x y m (k+1)).set k (w / y)=AC x y m k∧(AC x y m (k+1)).getD k 0=0:=by
 have i:=Nat.mod_lt (x / 16777216^k) (show 0<16777216 by omega)
 have e:=Nat.mod_lt (x / 16777216^(k+1)) c
 refine ⟨x / 16777216^k % 16777216,x / 16777216^(k+1) % y,_,VC k x,rfl,rfl,i,e, ?_, ?_, ?_⟩
 ·have b:=Nat.div_add_mod (x / 16777216^(k+1)) y
  obtain ⟨_,j⟩:=Qn (x:=x / 16777216^k % 16777216) c b.symm
  have h:x / 16777216^k % 16777216+16777216*(x / 16777216^(k+1))=x / 16777216^k:=by
   rw [Nat.pow_succ,← Nat.div_div_eq_div_mul];omega
  rw [h] at j
  exact j
 ·have b:=Nat.div_add_mod (x / 16777216^(k+1)) y
  obtain ⟨v1,_⟩:=Qn (x:=x / 16777216^k % 16777216) c b.symm
  have h:x / 16777216^k % 16777216+16777216*(x / 16777216^(k+1))=x / 16777216^k:=by
   rw [Nat.pow_succ,← Nat.div_div_eq_div_mul];omega
  rw [h] at v1
  have a:=aby (x:=x) (y:=y) l
  rw [v1] at a
  have f:x / 16777216^k % 16777216+16777216*(x / 16777216^(k+1) % y)<y*16777216:=by omega
  have g:(x / 16777216^k % 16777216+16777216*(x / 16777216^(k+1) % y)) / y<16777216:=by rw [Nat.div_lt_iff_lt_mul c,Nat.mul_comm 16777216 y];exact f
  rw [Nat.mul_add_mod,Nat.mod_eq_of_lt g] at a
  exact a
 ·unfold AC;rw [List.getD_eq_getElem?_getD];simp [l]
theorem S_ {w y:Nat} (h:w<y*16777216):(au w).length≤(au y).length+1:=by
 apply sJ
 have a:=vS y
 rw [Nat.pow_succ]
 exact Nat.lt_trans h (Nat.mul_lt_mul_of_pos_right a (by omega))
theorem abu {nt:Nat} (E:87≤nt) (x y m k:Nat) (s:0<y) (L:(au x).length=m) (u:k<m) (G:m<2^35) (I:(au y).length<2^34):ax prog ap [] nt (ag 0 (ai f150)) (Um x y m (k+1)) .normal (Um x y m k):=by
 obtain ⟨d,r,w,hd,J,K,D,C,g,a,o⟩:=abt x y m k s u
 have n:=xK x y m (k+1)
 unfold Um
 rw [show (((k+1:Nat):Int) - 1)=(k:Int) by omega,J,g]
 have f:w<y*16777216:=by omega
 have H:=qO (Nat.le_of_lt C)
 have b:=zu (d::au r) true (by simp;omega)
 rw [R_ (bu.cons D (bu.dig r))] at b
 simp only [cO,eP,K,List.length_cons] at b
 rw [Nat.add_comm (au r).length 1] at b
 have c:=b.out (jq.sl1 _ _ _)
 have v:w / y<16777216:=by rw [Nat.div_lt_iff_lt_mul s,Nat.mul_comm];exact f
 have F:=S_ f
 have p:=Rj (au w) (au y) false false (bu.dig _) (bu.dig _) (by omega) (by omega)
 have q:=Ho w y
 generalize AC x y m k=Q2 at*
 generalize AC x y m (k+1)=Q1 at*
 by_cases hc:0≤KG (au w) (au y)
 ·have e:=q.1.1 hc
  have j:=VE w y false false s f (by omega) (by omega)
  have t:=Nh y (w / y) false v (by omega)
  have z:y*(w / y)≤w:=Nat.mul_div_le w y
  have l:=LP w (y*(w / y)) false true z (by omega)
  have A:w - y*(w / y)=w % y:=by have:=Nat.div_add_mod w y;omega
  rw [A] at l
  exact anF E x y r w (w / y) (y*(w / y)) (w % y) m k d _ Q1 Q2 (by omega) hd n u (by omega) (by omega) a hc c p j t l
 ·have e:w<y:=Nat.lt_of_not_le (fun h=>hc (q.1.2 h))
  have B:w / y=0:=Nat.div_eq_of_lt e
  rw [Nat.mod_eq_of_lt e]
  rw [B] at a
  have hsame:Q1.set k 0=Q1:=by
   apply List.ext_getElem?
   intro i
   rw [List.getElem?_set]
   by_cases hi:k=i
   ·subst hi
    rw [List.getD_eq_getElem?_getD,List.getElem?_eq_getElem (by omega)] at o
    rw [if_pos rfl,if_pos (by omega),List.getElem?_eq_getElem (by omega)]
    simpa using o.symm
   ·rw [if_neg hi]
  rw [hsame] at a
  subst a
  exact anE E x y r w m k d _ Q1 (by omega) hd n u (by omega) (by omega) (by omega) c p
def Q_ (x y m k:Nat):St:=⟨[(13,.ref 0 0 0 m),(14,.sl (ak (au (x / 16777216^k % y))) (au (x / 16777216^k % y)).length false)],[(0,⟨ak (AC x y m k),0,false,0,1,true⟩)],.dead,[]⟩
theorem abr {nt:Nat} (c:87≤nt) (x y m:Nat) (d:0<y) (e:(au x).length=m) (b:m<2^35) (a:(au y).length<2^34):∀ k,k≤m→aI prog ap [] nt (ag 0 (ai f150)) (fun _=> .exit 0) (Um x y m) (Q_ x y m) k 0:=by
 intro k
 induction k with
 |zero=>
  intro _
  refine .done ?_
  unfold Q_
  have h:=aka c x y (x / 16777216^0 % y) 0 0 0 0 m 0 0 (AC x y m 0)
  exact h
 |succ k ih=>exact fun f=> .next (abu c x y m k d e (by omega) b a) (ih (by omega))
theorem IA {s:List UInt8}:(au (ah s)).length≤s.length:=by
 apply sJ
 have h:=kV s
 refine Nat.lt_of_lt_of_le h ?_
 rw [show (16777216:Nat)=2^24 from rfl,← Nat.pow_mul]
 exact Nat.pow_le_pow_right (by omega) (by omega)
theorem JM (s t:List UInt8) (hs:s.length<2^33) (L:t.length<2^33) (A:0<ah t):CO 150 [.str s,.str t] (.ret (.tup [.str (af (ah s / ah t)),.str (af (ah s % ah t)),.bool true])):=by
 have M:=iq t (by omega)
 have b:=aB (ah t)
 have E:(af (ah t)).length≤t.length:=nD (Nat.le_refl _)
 have j:af (ah t) ≠ []:=fun h=>by have:=iD.1 h;omega
 have B:0<(af (ah t)).length:=by
  cases G:af (ah t) with
  |nil=>exact absurd G j
  |cons _ _=>simp
 have e:((af (ah t)).length=0)=False:=by simp;exact j
 have H:((7:Nat):Int)=7:=rfl
 by_cases hb:ah s<2^(8*7)∧ah t<2^(8*7)
 ·have d:=gU s 7 (by omega) (by omega) hb.1
  have a:=gU (af (ah t)) 7 (by omega) (by omega) (by rw [b];exact hb.2)
  rw [b] at a
  have z:ah s<9223372036854775808:=Nat.lt_of_lt_of_le hb.1 (by decide)
  have w:ah t<9223372036854775808:=Nat.lt_of_lt_of_le hb.2 (by decide)
  have K:=Nat.div_le_self (ah s) (ah t)
  have N:=Nat.mod_le (ah s) (ah t)
  have I:=jQ (ah s / ah t) (by omega)
  have J:=jQ (ah s % ah t) (by omega)
  have h:=anB s t (ah s) (ah t) (ah s / ah t) (ah s % ah t)
  have r:(ah t=0)=False:=by simp;omega
  clear hb hs
  simp (disch:=first|omega|(simp [ay,az]<;>omega)) only [qp,r,decide_false,Bool.not_false,e,fB,su,bz,uu] at h
  apply h<;>first|exact True.intro|omega|assumption|exact rfl
 ·have x:=BP s (by omega)
  have f:=BP (af (ah t)) (by omega)
  rw [b] at f
  have C:=IA (s:=s)
  have F:=IA (s:=t)
  have hloop:=fun nt (hn:87≤nt)=>abr hn (ah s) (ah t) _ A rfl (by omega) (by omega) _ (Nat.le_refl _)
  have n:=xK (ah s) (ah t) (au (ah s)).length 0
  have u:cO (AC (ah s) (ah t) (au (ah s)).length 0)=ah s / ah t:=abA (Nat.lt_of_le_of_lt (Nat.div_le_self _ _) (vS _))
  have o:=uU (AC (ah s) (ah t) (au (ah s)).length 0) true (by omega) (abw _ _ _ _)
  rw [u,n] at o
  have p:ah s / 16777216^0 % ah t=ah s % ah t:=by rw [Nat.pow_zero,Nat.div_one]
  have D:=qO (Nat.le_of_lt (Nat.mod_lt (ah s) A))
  have m:=uU (au (ah s % ah t)) false (by omega) (bu.dig _)
  rw [eP] at m
  have k:ah s / 16777216^(au (ah s)).length % ah t=0:=by rw [Nat.div_eq_of_lt (vS _),Nat.zero_mod]
  have i:IntKind.wrap .i64 ((((au (ah s)).length:Nat):Int) - ((1:Nat):Int))=((au (ah s)).length:Int) - 1:=EH (by omega)
  have c:Q_ (ah s) (ah t) (au (ah s)).length 0=⟨[(13,.ref 0 0 0 (au (ah s)).length),(14,.sl (ak (au (ah s % ah t))) (au (ah s % ah t)).length false)],[(0,⟨ak (AC (ah s) (ah t) (au (ah s)).length 0),0,false,0,1,true⟩)],.dead,[]⟩:=by unfold Q_;rw [p]
  have y:(au (ah s)).length<2^35:=by omega
  have g:List.take (au (ah s)).length (ak (AC (ah s) (ah t) (au (ah s)).length 0))=ak (AC (ah s) (ah t) (au (ah s)).length 0):=by rw [dK,List.take_of_length_le (by omega)]
  by_cases hx:ah s<2^(8*7)
  ·have v:2^(8*7)≤ah t:=by
    rcases Nat.lt_or_ge (ah t) (2^(8*7)) with h|h
    ·exact absurd ⟨hx,h⟩ hb
    ·exact h
   have d:=gU s 7 (by omega) (by omega) hx
   have a:=kS (af (ah t)) 7 (by omega) (by rw [b];exact v)
   clear hb hx v
   have h:=anA s t (ah s) 0 (ah s / ah t) (ah s % ah t) (au (ah s)).length (AC (ah s) (ah t) (au (ah s)).length 0) 0 true
   rw [b] at h
   simp (disch:=first|omega|(simp [ay,az]<;>omega)) only [eu,bG,decide_true,qp,e,decide_false,fB,Bool.not_false,aJ,i,JL,Nat.mul_one,g] at h
   apply h<;>first|exact True.intro|omega|assumption|exact rfl|skip
   ·refine aI.blkF hloop (by simp) rfl ?_ (by rw [c];exact qI.refl _)
    unfold Um
    rw [Ik,k,fK]
    exact qI.of ⟨aW.refl _,aW.refl _,aW.refl _,aW.nilS false rfl,aW.refl _,trivial⟩
  ·have d:=kS s 7 (by omega) (Nat.le_of_not_lt hx)
   have a:∃ l q,CO 134 [.str (af (ah t)),.int .i64 7] (.ret (.tup [.int .i64 l,.bool q])):=by
    rcases Nat.lt_or_ge (ah t) (2^(8*7)) with h|h
    ·exact ⟨_,_,gU (af (ah t)) 7 (by omega) (by omega) (by rw [b];exact h)⟩
    ·exact ⟨_,_,kS (af (ah t)) 7 (by omega) (by rw [b];exact h)⟩
   obtain ⟨l,q,a⟩:=a
   clear hb hx
   have h:=anz s t 0 0 (ah s / ah t) (ah s % ah t) (au (ah s)).length (AC (ah s) (ah t) (au (ah s)).length 0) l q
   rw [b] at h
   simp (disch:=first|omega|(simp [ay,az]<;>omega)) only [eu,bG,decide_true,qp,e,decide_false,fB,Bool.not_false,aJ,i,JL,Nat.mul_one,g] at h
   apply h<;>first|exact True.intro|omega|assumption|exact rfl|skip
   ·refine aI.blkF hloop (by simp) rfl ?_ (by rw [c];exact qI.refl _)
    unfold Um
    rw [Ik,k,fK]
    exact qI.of ⟨aW.refl _,aW.refl _,aW.refl _,aW.nilS false rfl,aW.refl _,trivial⟩
theorem akz {nt:Nat} (b:25≤nt) (s t q r:List UInt8) (c:lit true (decide (((0:Nat):Int)<(((List.length t):Nat):Int)))=true) (a:CO 150 [.str s,.str t] (.ret (.tup [.str q,.str r,.bool true]))):ax prog ap [] nt (ag 0 (ai f149)) ⟨[(0,.str s),(1,.str t)],[],.dead,[]⟩ (.normal) ⟨[(0,.str t),(1,.str r)],[],.dead,[]⟩:=pJ 149 [] 1 1 (.c c .nil) (.c a .nil) b
theorem akA {nt:Nat} (a:25≤nt) (s t q r:List UInt8) (b:lit false (decide (((0:Nat):Int)<(((List.length t):Nat):Int)))=true):ax prog ap [] nt (ag 0 (ai f149)) ⟨[(0,.str s),(1,.str t)],[],.dead,[]⟩ (.exit 0) ⟨[(0,.str s)],[],.dead,[]⟩:=pJ 149 [] 1 0 (.c b .nil) (.nil) a
theorem akx (s t g:List UInt8) (a:CO 133 [.str s] (.ret (.str (af (ah s))))) (c:CO 133 [.str t] (.ret (.str (af (ah t))))) (b:aO prog ap [] 25 (.block 0 (.loop (ag 0 (ai f149)))) ⟨[(0,.str (af (ah s))),(1,.str (af (ah t))),(4,.str []),(6,.dead),(14,.dead)],[],.dead,[]⟩ (.normal) ⟨[(0,.str g)],[],.dead,[]⟩):CO 149 [.str s,.str t] (.ret (.str g)):=pK [0] 0 0 .nil (.l b (.c c (.c a .nil)))
def aky (p:Nat × Nat):St:=⟨[(0,.str (af p.1)),(1,.str (af p.2))],[],.dead,[]⟩
def adx (x:Nat):St:=⟨[(0,.str (af x))],[],.dead,[]⟩
theorem Ut {nt:Nat} (e:25≤nt):∀ (n y x:Nat),y<n→(af x).length<2^33→(af y).length<2^33→aI prog ap [] nt (ag 0 (ai f149)) (fun _=> .exit 0) aky adx (x,y) (Nat.gcd x y):=by
 intro n
 induction n with
 |zero=>intro y x h;omega
 | succ n ih=>
  intro y x h g d
  rcases Nat.eq_zero_or_pos y with rfl|h0
  ·rw [Nat.gcd_zero_right]
   refine .done ?_
   unfold aky adx
   rw [dI]
   exact akA e (af x) [] [] [] rfl
  ·have i:=Nat.mod_lt x h0
   have f:(af (x % y)).length<2^33:=by
    have:x % y≤ah (af y):=by rw [aB];omega
    have:=nD this
    omega
   have hnext:=ih (x % y) y (by omega) d f
   rw [show Nat.gcd y (x % y)=Nat.gcd x y by rw [Nat.gcd_comm y,← Nat.gcd_rec,Nat.gcd_comm]] at hnext
   refine .next ?_ hnext
   have b:=JM (af x) (af y) g d (by rw [aB];exact h0)
   rw [aB,aB] at b
   have c:af y ≠ []:=fun h=>by have:=iD.1 h;omega
   have a:0<(af y).length:=by
    cases b:af y with
    |nil=>exact absurd b c
    |cons _ _=>simp
   exact akz e (af x) (af y) _ _ (by rw [bI,bQ];exact decide_eq_true a) b
theorem Rq (s t:List UInt8) (hs:s.length<2^33) (d:t.length<2^33):CO 149 [.str s,.str t] (.ret (.str (af (Nat.gcd (ah s) (ah t))))):=by
 have c:(af (ah s)).length≤s.length:=nD (Nat.le_refl _)
 have b:(af (ah t)).length≤t.length:=nD (Nat.le_refl _)
 exact akx s t _ (iq s (by omega)) (iq t (by omega)) (aI.blk (fun nt a=>Ut a (ah t+1) (ah t) (ah s) (by omega) (by omega) (by omega)) (by simp) rfl (aQ.of ⟨rfl,rfl,trivial⟩) (aQ.of ⟨rfl,trivial⟩))
theorem ajZ (a:Bool) (n d:List UInt8) (g:Nat) (c:lit true (!(nR n))=true) (b:CO 179 [.str n] (.ret (.bool (nR n)))) (e:CO 179 [.str d] (.ret (.bool (nR d)))):CO 137 [.agg [.bool a,.str n,.str d]] (.ret (.bool false)):=pK [] 3 7 (.k 2 c (.n 2 .nil)) (.c e (.c b .nil))
theorem aj0 (a:Bool) (n d:List UInt8) (g:Nat) (e:lit true (!(nR d))=true) (c:lit false (!(nR n))=true) (b:CO 179 [.str n] (.ret (.bool (nR n)))) (f:CO 179 [.str d] (.ret (.bool (nR d)))):CO 137 [.agg [.bool a,.str n,.str d]] (.ret (.bool false)):=pK [] 3 6 (.k 1 e (.c c (.n 2 .nil))) (.c f (.c b .nil))
theorem aj1 (a:Bool) (n d:List UInt8) (g:Nat) (f:lit true (d== [])=true) (e:lit false (!(nR d))=true) (b:lit false (!(nR n))=true) (c:CO 179 [.str n] (.ret (.bool (nR n)))) (h:CO 179 [.str d] (.ret (.bool (nR d)))):CO 137 [.agg [.bool a,.str n,.str d]] (.ret (.bool false)):=pK [] 3 4 (.c f (.k 1 e (.c b (.n 2 .nil)))) (.c h (.c c .nil))
theorem aj2 (a:Bool) (n d:List UInt8) (g:Nat) (k:lit true (!a)=true) (h:lit true (n== [])=true) (b:lit false (d== [])=true) (c:lit false (!(nR d))=true) (e:lit false (!(nR n))=true) (f:CO 179 [.str n] (.ret (.bool (nR n)))) (l:CO 179 [.str d] (.ret (.bool (nR d)))) (j:CO 79 [.int .i64 1] (.ret (.str (af 1)))) (i:CO 101 [.str d,.str (af 1)] (.ret (.int .i64 (lU (ah d) (ah (af 1)))))):CO 137 [.agg [.bool a,.str n,.str d]] (.ret (.bool ((lU (ah d) (ah (af 1)))==((0:Nat):Int)))):=pK [] 5 24 (.k 1 k (.k 1 h (.k 1 b (.k 1 c (.c e (.n 2 .nil)))))) (.c i (.c j (.c l (.c f .nil))))
theorem aj3 (a:Bool) (n d:List UInt8) (g:Nat) (i:lit false (!a)=true) (h:lit true (n== [])=true) (b:lit false (d== [])=true) (c:lit false (!(nR d))=true) (e:lit false (!(nR n))=true) (f:CO 179 [.str n] (.ret (.bool (nR n)))) (j:CO 179 [.str d] (.ret (.bool (nR d)))):CO 137 [.agg [.bool a,.str n,.str d]] (.ret (.bool false)):=pK [] 5 8 (.c i (.k 1 h (.k 1 b (.k 1 c (.c e (.n 2 .nil)))))) (.c j (.c f .nil))
theorem aj6 (a:Bool) (n d:List UInt8) (g:Nat) (j:lit false (n== [])=true) (f:lit false (d== [])=true) (b:lit false (!(nR d))=true) (c:lit false (!(nR n))=true) (e:CO 179 [.str n] (.ret (.bool (nR n)))) (l:CO 179 [.str d] (.ret (.bool (nR d)))) (i:CO 149 [.str n,.str d] (.ret (.str (af g)))) (h:CO 79 [.int .i64 1] (.ret (.str (af 1)))) (k:CO 101 [.str (af g),.str (af 1)] (.ret (.int .i64 (lU (ah (af g)) (ah (af 1)))))):CO 137 [.agg [.bool a,.str n,.str d]] (.ret (.bool ((lU (ah (af g)) (ah (af 1)))==((0:Nat):Int)))):=pK [] 4 0 (.k 2 j (.k 1 f (.k 1 b (.c c (.n 2 .nil))))) (.c k (.c h (.c i (.c l (.c e .nil)))))
theorem ajW (a:Bool) (n d:List UInt8) (g:Nat) (c:lit true (n== [])=true) (b:CO 79 [.int .i64 1] (.ret (.str (af 1)))):CO 99 [.bool a,.str n,.str d] (.ret (.agg [.bool false,.str [],.str (af 1)])):=pK [] 1 1 (.k 4 c .nil) (.c b .nil)
theorem ajX (a:Bool) (n d:List UInt8) (g:Nat) (e:lit false (n== [])=true) (b:CO 149 [.str n,.str d] (.ret (.str (af g)))) (f:CO 150 [.str n,.str (af g)] (.ret (.tup [.str (af (ah n / g)),.str (af (ah n % g)),.bool true]))) (c:CO 150 [.str d,.str (af g)] (.ret (.tup [.str (af (ah d / g)),.str (af (ah d % g)),.bool true]))):CO 99 [.bool a,.str n,.str d] (.ret (.agg [.bool a,.str (af (ah n / g)),.str (af (ah d / g))])):=pK [] 1 0 (.k 4 e .nil) (.c c (.c f (.c b .nil)))
theorem aj7 (a:Bool) (n d:List UInt8) (c:lit true (!(iU a n d))=true) (b:CO 137 [.agg [.bool a,.str n,.str d]] (.ret (.bool (iU a n d)))) (e:CO 79 [.int .i64 1] (.ret (.str (af 1)))):CO 98 [.agg [.bool a,.str n,.str d]] (.ret (.agg [.bool false,.str [],.str (af 1)])):=pK [] 1 1 (.k 4 c (.n 3 .nil)) (.c e (.c b .nil))
theorem aj8 (a:Bool) (n d:List UInt8) (c:lit false (!(iU a n d))=true) (b:CO 137 [.agg [.bool a,.str n,.str d]] (.ret (.bool (iU a n d)))):CO 98 [.agg [.bool a,.str n,.str d]] (.ret (.agg [.bool a,.str n,.str d])):=pK [] 1 0 (.k 7 c (.n 3 .nil)) (.c b .nil)
theorem ajY (v:Int) (x z:Nat) (b:lit true (decide (((0:Nat):Int)≤v))=true) (a:CO 79 [.int .i64 v] (.ret (.str (af z)))) (c:CO 79 [.int .i64 1] (.ret (.str (af 1)))):CO 48 [.int .i64 v] (.ret (.agg [.bool false,.str (af z),.str (af 1)])):=pK [] 1 1 (.k 4 b .nil) (.c c (.c a .nil))
theorem adv (v:Int) (x z:Nat) (d:lit false (decide (((0:Nat):Int)≤v))=true) (a:CO 79 [.int .i64 (IntKind.wrap .i64 (0 - (IntKind.wrap .i64 (v+((1:Nat):Int)))))] (.ret (.str (af z)))) (e:CO 79 [.int .i64 1] (.ret (.str (af 1)))) (c:CO 80 [.str (af z),.str (af 1)] (.ret (.str (af x)))) (b:CO 79 [.int .i64 1] (.ret (.str (af 1)))):CO 48 [.int .i64 v] (.ret (.agg [.bool true,.str (af x),.str (af 1)])):=pK [] 1 0 (.k 4 d .nil) (.c b (.c c (.c e (.c a .nil))))
theorem agJ (s t:List UInt8) (x y z:Nat) (a:CO 134 [.str s,.int .i64 7] (.ret (.tup [.int .i64 (x:Int),.bool true]))) (c:CO 134 [.str t,.int .i64 7] (.ret (.tup [.int .i64 (y:Int),.bool true]))) (b:CO 79 [.int .i64 (IntKind.wrap .i64 ((x:Int)+(y:Int)))] (.ret (.str (af z)))):CO 80 [.str s,.str t] (.ret (.str (af z))):=pK [] 2 3 (.n 2 .nil) (.c b (.c c (.c a .nil)))
theorem agK (s t:List UInt8) (x y z:Nat) (a:CO 134 [.str s,.int .i64 3] (.ret (.tup [.int .i64 (x:Int),.bool true]))) (c:CO 134 [.str t,.int .i64 4] (.ret (.tup [.int .i64 (y:Int),.bool true]))) (b:CO 79 [.int .i64 (IntKind.wrap .i64 ((x:Int)*(y:Int)))] (.ret (.str (af z)))):CO 100 [.str s,.str t] (.ret (.str (af z))):=pK [] 2 3 (.n 2 .nil) (.c b (.c c (.c a .nil)))
theorem RI {x:Nat}:((lU x (ah (af 1)))==((0:Nat):Int))=decide (x=1):=by
 rw [aB]
 unfold lU
 rcases Nat.lt_trichotomy x 1 with h|h|h
 ·rw [if_pos h,decide_eq_false (by omega)];rfl
 ·rw [if_neg (by omega),if_neg (by omega),decide_eq_true h];rfl
 ·rw [if_neg (by omega),if_pos h,decide_eq_false (by omega)];rfl
theorem O7 (a:Bool) (n d:List UInt8) (v:n.length<2^33) (hd:d.length<2^33):CO 137 [.agg [.bool a,.str n,.str d]] (.ret (.bool (iU a n d))):=by
 have i:=XT n
 have j:=XT d
 have s:=jQ 1 (by omega)
 have x:(af 1).length≤1:=dw (by omega)
 have w:=JI d (af 1) (by omega) (by omega)
 have u:=Rq n d v hd
 have p:=@RI (ah d)
 cases b:nR n with
 |false=>
  have e:iU a n d=false:=by unfold iU;rw [b];rfl
  rw [e]
  exact ajZ a n d 0 (by rw [b];rfl) i j
 | true=>
  cases c:nR d with
  |false=>
   have e:iU a n d=false:=by unfold iU;rw [c];simp
   rw [e]
   exact aj0 a n d 0 (by rw [c];rfl) (by rw [b];rfl) i j
  | true=>
   have q:=(oK n).1 b
   have r:=(oK d).1 c
   by_cases hd0:d= []
   ·have e:iU a n d=false:=by
     subst hd0;unfold iU;simp [show ah []=0 from rfl]
    rw [e]
    exact aj1 a n d 0 (by rw [hd0];rfl) (by rw [c];rfl) (by rw [b];rfl) i j
   ·have k:0<ah d:=by
     rcases Nat.eq_zero_or_pos (ah d) with h|h
     ·rw [h,dI] at r;exact absurd r.symm hd0
     ·exact h
    have g:(d== [])=false:=by simpa using hd0
    by_cases hn0:n= []
    ·have f:(n== [])=true:=by simpa using hn0
     have l:ah n=0:=by rw [hn0];rfl
     cases a with
     | false=>
      have h:=aj2 false n d 0 rfl (by rw [f];rfl) (by rw [g];rfl) (by rw [c];rfl) (by rw [b];rfl) i j s w
      rw [p] at h
      have e:iU false n d=decide (ah d=1):=by
       rw [Bool.eq_iff_iff,kK,l,Nat.gcd_zero_left]
       simp [b,c];omega
      rw [e];exact h
     | true=>
      have h:=aj3 true n d 0 rfl (by rw [f];rfl) (by rw [g];rfl) (by rw [c];rfl) (by rw [b];rfl) i j
      have e:iU true n d=false:=by
       rw [Bool.eq_false_iff];intro h
       have:=(kK.1 h).2.2.2.2 rfl
       omega
      rw [e];exact h
    ·have f:(n== [])=false:=by simpa using hn0
     have m:0<ah n:=by
      rcases Nat.eq_zero_or_pos (ah n) with h|h
      ·rw [h,dI] at q;exact absurd q.symm hn0
      ·exact h
     have t:(af (Nat.gcd (ah n) (ah d))).length≤d.length:=nD (Nat.gcd_le_right _ k)
     have o:=JI (af (Nat.gcd (ah n) (ah d))) (af 1) (by omega) (by omega)
     have h:=aj6 a n d (Nat.gcd (ah n) (ah d)) (by rw [f];rfl) (by rw [g];rfl) (by rw [c];rfl) (by rw [b];rfl) i j u s o
     rw [RI,aB] at h
     have e:iU a n d=decide (Nat.gcd (ah n) (ah d)=1):=by
      rw [Bool.eq_iff_iff,kK]
      simp [b,c,k,m]
     rw [e];exact h
structure RQ where
 neg:Bool
 n:Nat
 d:Nat
def RQ.ok (q:RQ):Prop:=0<q.d∧Nat.gcd q.n q.d=1∧(q.neg=true→0<q.n)
def qA (q:RQ):AV:= .agg [.bool q.neg,.str (af q.n),.str (af q.d)]
def q0:RQ:=⟨false,0,1⟩
def g_ (neg:Bool) (n d:Nat):RQ:=⟨neg && decide (0<n),n / Nat.gcd n d,d / Nat.gcd n d⟩
def vQ (neg:Bool) (n d:List UInt8):RQ:=if iU neg n d=true then ⟨neg,ah n,ah d⟩ else q0
theorem Q9:q0.ok:=⟨by decide,by decide,by simp [q0]⟩
theorem oD (q:RQ) (h:q.ok):iU q.neg (af q.n) (af q.d)=true:=by
 rw [kK,aB,aB]
 exact ⟨y_ _,y_ _,h⟩
theorem QC {a:Bool} {n d:List UInt8} (h:iU a n d=true):AV.agg [.bool a,.str n,.str d]=qA ⟨a,ah n,ah d⟩:=by
 obtain ⟨c,b,_⟩:=kK.1 h
 unfold qA
 rw [(oK n).1 c,(oK d).1 b]
theorem lg (a:Bool) (n d:List UInt8):(vQ a n d).ok:=by
 unfold vQ
 split
 ·rename_i h
  obtain ⟨_,_,b,c,e⟩:=kK.1 h
  exact ⟨b,c,e⟩
 ·exact Q9
theorem ny {b:Bool} {n d:Nat} (h:0<d):(g_ b n d).ok:=by
 have a:0<Nat.gcd n d:=Nat.gcd_pos_of_pos_right _ h
 refine ⟨Nat.div_pos (Nat.gcd_le_right _ h) a, ?_, ?_⟩
 ·show Nat.gcd (n / Nat.gcd n d) (d / Nat.gcd n d)=1
  rw [Nat.gcd_div (Nat.gcd_dvd_left _ _) (Nat.gcd_dvd_right _ _),Nat.div_self a]
 ·intro c
  have:0<n:=by simp [g_] at c;exact c.2
  exact Nat.div_pos (Nat.gcd_le_left _ this) a
theorem rO (a:Bool) (n d:List UInt8) (e:n.length<2^33) (hd:d.length<2^33):CO 98 [.agg [.bool a,.str n,.str d]] (.ret (qA (vQ a n d))):=by
 have c:=O7 a n d e hd
 unfold vQ
 cases b:iU a n d with
 |false=>
  have h:=aj7 a n d (by rw [b];rfl) c (jQ 1 (by omega))
  rw [if_neg (by simp)]
  unfold qA q0
  rw [dI];exact h
 |true=>
  have h:=aj8 a n d (by rw [b];rfl) c
  rw [if_pos rfl,← QC b]
  exact h
theorem uZ (a:Bool) (n d:Nat) (i:(af n).length<2^33) (hd:(af d).length<2^33) (e:0<d):CO 99 [.bool a,.str (af n),.str (af d)] (.ret (qA (g_ a n d))):=by
 have g:=Rq (af n) (af d) i hd
 rw [aB,aB] at g
 have b:0<Nat.gcd n d:=Nat.gcd_pos_of_pos_right _ e
 have k:(af (Nat.gcd n d)).length≤(af d).length:=nD (by rw [aB];exact Nat.gcd_le_right _ e)
 have f:=JM (af n) (af (Nat.gcd n d)) i (by omega) (by rw [aB];exact b)
 have j:=JM (af d) (af (Nat.gcd n d)) hd (by omega) (by rw [aB];exact b)
 simp only [aB] at f j
 rcases Nat.eq_zero_or_pos n with rfl|hp
 ·have h:=ajW a (af 0) (af d) 0 (by rw [dI];rfl) (jQ 1 (by omega))
  unfold qA g_
  simp only [Nat.lt_irrefl,decide_false,Bool.and_false,Nat.gcd_zero_left,Nat.zero_div,Nat.div_self e,dI]
  rw [dI] at h
  exact h
 ·have c:af n ≠ []:=fun h=>by have:=iD.1 h;omega
  have h:=ajX a (af n) (af d) (Nat.gcd n d) (by simp [lit,c])
  simp only [aB] at h
  unfold qA g_
  simp only [hp,decide_true,Bool.and_true]
  exact h g f j
def wO (q:RQ):Int:=if q.n=0 then 0 else if q.neg then -1 else 1
theorem Ye (a:Bool) (n d:List UInt8):rU a n d=wO (vQ a n d):=by
 unfold rU wO vQ
 cases c:iU a n d with
 |false=>simp [q0]
 | true=>
  simp only [true_and,if_true]
  by_cases h:0<ah n
  ·have b:¬ ah n=0:=by omega
   simp [h,b]
  ·have b:ah n=0:=by omega
   simp [b]
def yL (neg:Bool) (n d:List UInt8) (a:Nat):Bool:=((neg==false) && ((n==(af a)) && ((d==(af 1)) && true)))
theorem GN (a:Nat) (b:a<9223372036854775808):CO 48 [.int .i64 (a:Int)] (.ret (Un false a 1)):=
 ajY (a:Int) 0 a (by simp [lit]) (jQ a b) (jQ 1 (by omega))
def SK:List UInt8:= [97,98,99,100,101,102,103,104,105,106,107,108,109,110,111,112,113,114,115,116,117,118,119,120,121,122,48,49,50,51,52,53,54,55,56,57,95]
def IP:List AV:= [.bool false,.bool false,.bool false,.bool false,.bool false,.bool false,.bool false,.bool false,.bool false,.bool false,.bool false,.bool false,.bool false,.bool false,.bool false,.bool false,.bool false,.bool false,.bool false,.bool false,.bool false,.bool false,.bool false,.bool false,.bool false,.bool false,.bool false,.bool false,.bool false,.bool false,.bool false,.bool false,.bool false,.bool false,.bool false,.bool false,.bool false,.bool false,.bool false,.bool false,.bool false,.bool false,.bool false,.bool false,.bool false,.bool false,.bool false,.bool false,.bool true,.bool true,.bool true,.bool true,.bool true,.bool true,.bool true,.bool true,.bool true,.bool true,.bool false,.bool false,.bool false,.bool false,.bool false,.bool false,.bool false,.bool false,.bool false,.bool false,.bool false,.bool false,.bool false,.bool false,.bool false,.bool false,.bool false,.bool false,.bool false,.bool false,.bool false,.bool false,.bool false,.bool false,.bool false,.bool false,.bool false,.bool false,.bool false,.bool false,.bool false,.bool false,.bool false,.bool false,.bool false,.bool false,.bool false,.bool true,.bool false,.bool true,.bool true,.bool true,.bool true,.bool true,.bool true,.bool true,.bool true,.bool true,.bool true,.bool true,.bool true,.bool true,.bool true,.bool true,.bool true,.bool true,.bool true,.bool true,.bool true,.bool true,.bool true,.bool true,.bool true,.bool true,.bool true,.bool false,.bool false,.bool false,.bool false,.bool false,.bool false,.bool false,.bool false,.bool false,.bool false,.bool false,.bool false,.bool false,.bool false,.bool false,.bool false,.bool false,.bool false,.bool false,.bool false,.bool false,.bool false,.bool false,.bool false,.bool false,.bool false,.bool false,.bool false,.bool false,.bool false,.bool false,.bool false,.bool false,.bool false,.bool false,.bool false,.bool false,.bool false,.bool false,.bool false,.bool false,.bool false,.bool false,.bool false,.bool false,.bool false,.bool false,.bool false,.bool false,.bool false,.bool false,.bool false,.bool false,.bool false,.bool false,.bool false,.bool false,.bool false,.bool false,.bool false,.bool false,.bool false,.bool false,.bool false,.bool false,.bool false,.bool false,.bool false,.bool false,.bool false,.bool false,.bool false,.bool false,.bool false,.bool false,.bool false,.bool false,.bool false,.bool false,.bool false,.bool false,.bool false,.bool false,.bool false,.bool false,.bool false,.bool false,.bool false,.bool false,.bool false,.bool false,.bool false,.bool false,.bool false,.bool false,.bool false,.bool false,.bool false,.bool false,.bool false,.bool false,.bool false,.bool false,.bool false,.bool false,.bool false,.bool false,.bool false,.bool false,.bool false,.bool false,.bool false,.bool false,.bool false,.bool false,.bool false,.bool false,.bool false,.bool false,.bool false,.bool false,.bool false,.bool false,.bool false,.bool false,.bool false,.bool false,.bool false,.bool false,.bool false,.bool false,.bool false,.bool false]
theorem aed:CO 193 [.str SK] (.ret (.tup [.agg IP,.bool true])):=lC uN (lf:=3000) (n:=4) (ans:= []) .nil (by kernel_rfl)
theorem ahQ (xs:List AV) (c:Nat) (d:(chk .bool (List.headD (List.drop (0+((Int.toNat (c:Int))*1)) xs) .dead))=true) (b:(decide (((0:Nat):Int)≤(c:Int)))=true) (a:(decide ((c:Int)<((256:Nat):Int)))=true):CO 212 [.pp xs 0,.int .u8 (c:Int)] (.ret (.bool (AV.toBool (List.headD (List.drop (0+((Int.toNat (c:Int))*1)) xs) .dead)))):=pK [] 0 0 (.c d (.c b (.c a .nil))) (.nil)
theorem anT {nt:Nat} (e:16≤nt) (s:List UInt8) (xs:List AV) (b:Bool) (f:lit true (!b)=true) (d:(decide (((0:Nat):Int)<(((List.length s):Nat):Int)))=true) (a:lit true (decide (((0:Nat):Int)<(((List.length s):Nat):Int)))=true) (c:CO 212 [.pp xs 0,.int .u8 ((UInt8.toNat (List.getD s 0 0):Nat):Int)] (.ret (.bool b))):ax prog ap [] nt (ag 0 (ai f194)) ⟨[(0,.str s),(1,.pp xs 0)],[],.dead,[]⟩ (.exit 0) ⟨[(0,.str s)],[],.dead,[]⟩:=pJ 194 [] 2 3 (.c f (.k 1 d (.c a .nil))) (.c c .nil) e
theorem anU {nt:Nat} (g:16≤nt) (s:List UInt8) (xs:List AV) (b:Bool) (h:(decide (((1:Nat):Int)≤(((List.length s):Nat):Int)))=true) (e:(decide ((((List.length s):Nat):Int)≤(((List.length s):Nat):Int)))=true) (a:lit false (!b)=true) (c:(decide (((0:Nat):Int)<(((List.length s):Nat):Int)))=true) (d:lit true (decide (((0:Nat):Int)<(((List.length s):Nat):Int)))=true) (f:CO 212 [.pp xs 0,.int .u8 ((UInt8.toNat (List.getD s 0 0):Nat):Int)] (.ret (.bool b))):ax prog ap [] nt (ag 0 (ai f194)) ⟨[(0,.str s),(1,.pp xs 0)],[],.dead,[]⟩ (.normal) ⟨[(0,.str (List.drop 1 (List.take (Int.toNat (((List.length s):Nat):Int)) s))),(1,.pp xs 0)],[],.dead,[]⟩:=pJ 194 [] 2 1 (.k 1 h (.c e (.c a (.k 1 c (.c d .nil))))) (.c f .nil) g
theorem anV {nt:Nat} (a:16≤nt) (s:List UInt8) (xs:List AV) (b:Bool) (c:lit false (decide (((0:Nat):Int)<(((List.length s):Nat):Int)))=true):ax prog ap [] nt (ag 0 (ai f194)) ⟨[(0,.str s),(1,.pp xs 0)],[],.dead,[]⟩ (.exit 0) ⟨[(0,.str s)],[],.dead,[]⟩:=pJ 194 [] 1 0 (.c c .nil) (.nil) a
theorem aly (s r:List UInt8) (xs:List AV) (a:aO prog ap [] 16 (.block 0 (.loop (ag 0 (ai f194)))) ⟨[(0,.str s),(1,.pp xs 0),(4,.str []),(7,.dead),(12,.dead)],[],.dead,[]⟩ (.normal) ⟨[(0,.str r)],[],.dead,[]⟩):CO 194 [.str s,.pp xs 0] (.ret (.str r)):=pK [0] 0 0 .nil (.l a .nil)
theorem anX {nt:Nat} (f:22≤nt) (s:List UInt8) (xs:List AV) (b:Bool) (g:lit true (!b)=true) (e:(decide (((0:Nat):Int)≤(IntKind.wrap .i64 ((((List.length s):Nat):Int) - ((1:Nat):Int)))))=true) (a:(decide ((IntKind.wrap .i64 ((((List.length s):Nat):Int) - ((1:Nat):Int)))<(((List.length s):Nat):Int)))=true) (c:lit true (decide (((0:Nat):Int)<(((List.length s):Nat):Int)))=true) (d:CO 212 [.pp xs 0,.int .u8 ((UInt8.toNat (List.getD s (Int.toNat (IntKind.wrap .i64 ((((List.length s):Nat):Int) - ((1:Nat):Int)))) 0):Nat):Int)] (.ret (.bool b))):ax prog ap [] nt (ag 0 (ai f197)) ⟨[(0,.str s),(1,.pp xs 0)],[],.dead,[]⟩ (.exit 0) ⟨[(0,.str s)],[],.dead,[]⟩:=pJ 197 [] 2 3 (.c g (.c e (.c a (.c c .nil)))) (.c d .nil) f
theorem anY {nt:Nat} (h:22≤nt) (s:List UInt8) (xs:List AV) (b:Bool) (a:(decide (((0:Nat):Int)≤(IntKind.wrap .i64 ((((List.length s):Nat):Int) - ((1:Nat):Int)))))=true) (f:(decide ((IntKind.wrap .i64 ((((List.length s):Nat):Int) - ((1:Nat):Int)))≤(((List.length s):Nat):Int)))=true) (c:lit false (!b)=true) (d:(decide ((IntKind.wrap .i64 ((((List.length s):Nat):Int) - ((1:Nat):Int)))<(((List.length s):Nat):Int)))=true) (e:lit true (decide (((0:Nat):Int)<(((List.length s):Nat):Int)))=true) (g:CO 212 [.pp xs 0,.int .u8 ((UInt8.toNat (List.getD s (Int.toNat (IntKind.wrap .i64 ((((List.length s):Nat):Int) - ((1:Nat):Int)))) 0):Nat):Int)] (.ret (.bool b))):ax prog ap [] nt (ag 0 (ai f197)) ⟨[(0,.str s),(1,.pp xs 0)],[],.dead,[]⟩ (.normal) ⟨[(0,.str (List.drop 0 (List.take (Int.toNat (IntKind.wrap .i64 ((((List.length s):Nat):Int) - ((1:Nat):Int)))) s))),(1,.pp xs 0)],[],.dead,[]⟩:=pJ 197 [] 2 1 (.k 1 a (.c f (.c c (.c a (.c d (.c e .nil)))))) (.c g .nil) h
theorem an4 {nt:Nat} (a:22≤nt) (s:List UInt8) (xs:List AV) (b:Bool) (c:lit false (decide (((0:Nat):Int)<(((List.length s):Nat):Int)))=true):ax prog ap [] nt (ag 0 (ai f197)) ⟨[(0,.str s),(1,.pp xs 0)],[],.dead,[]⟩ (.exit 0) ⟨[(0,.str s)],[],.dead,[]⟩:=pJ 197 [] 1 0 (.c c .nil) (.nil) a
theorem alC (s r:List UInt8) (xs:List AV) (a:aO prog ap [] 22 (.block 0 (.loop (ag 0 (ai f197)))) ⟨[(0,.str s),(1,.pp xs 0),(4,.str []),(7,.dead),(15,.dead)],[],.dead,[]⟩ (.normal) ⟨[(0,.str r)],[],.dead,[]⟩):CO 197 [.str s,.pp xs 0] (.ret (.str r)):=pK [0] 0 0 .nil (.l a .nil)
def aeb:List Bool:= [false,false,false,false,false,false,false,false,false,false,false,false,false,false,false,false,false,false,false,false,false,false,false,false,false,false,false,false,false,false,false,false,false,false,false,false,false,false,false,false,false,false,false,false,false,false,false,false,true,true,true,true,true,true,true,true,true,true,false,false,false,false,false,false,false,false,false,false,false,false,false,false,false,false,false,false,false,false,false,false,false,false,false,false,false,false,false,false,false,false,false,false,false,false,false,true,false,true,true,true,true,true,true,true,true,true,true,true,true,true,true,true,true,true,true,true,true,true,true,true,true,true,true,false,false,false,false,false,false,false,false,false,false,false,false,false,false,false,false,false,false,false,false,false,false,false,false,false,false,false,false,false,false,false,false,false,false,false,false,false,false,false,false,false,false,false,false,false,false,false,false,false,false,false,false,false,false,false,false,false,false,false,false,false,false,false,false,false,false,false,false,false,false,false,false,false,false,false,false,false,false,false,false,false,false,false,false,false,false,false,false,false,false,false,false,false,false,false,false,false,false,false,false,false,false,false,false,false,false,false,false,false,false,false,false,false,false,false,false,false,false,false,false,false,false,false,false,false,false,false,false,false,false,false,false,false]
theorem aec:IP=aeb.map AV.bool:=rfl
def inN (c:Nat):Bool:=(decide (97≤c) && decide (c≤122))||(decide (48≤c) && decide (c≤57))||decide (c=95)
def iR (c:UInt8):Bool:=inN c.toNat
theorem Y7:∀ i:Fin 256,aeb.getD i.val false=inN i.val:=by decide
theorem VA (c:UInt8):CO 212 [.pp IP 0,.int .u8 (c.toNat:Int)] (.ret (.bool (iR c))):=by
 have b:c.toNat<256:=UInt8.toNat_lt c
 have e:aeb.length=256:=by decide
 have d:List.headD (List.drop c.toNat IP) .dead= .bool (iR c):=by
  have a:=Y7 ⟨c.toNat,b⟩
  simp only at a
  rw [aec,← List.map_drop,List.drop_eq_getElem_cons (by omega),List.map_cons,List.headD_cons]
  rw [List.getD_eq_getElem?_getD,List.getElem?_eq_getElem (by omega)] at a
  unfold iR
  rw [← a];rfl
 have h:=ahQ IP c.toNat
 rw [aJ,Nat.zero_add,Nat.mul_one,d] at h
 exact h rfl (by rw [eu];exact decide_eq_true (by omega)) (by rw [bI];exact decide_eq_true b)
def akU (s:List UInt8):St:=⟨[(0,.str s),(1,.pp IP 0)],[],.dead,[]⟩
def adz (s:List UInt8):St:=⟨[(0,.str s)],[],.dead,[]⟩
theorem acE {nt:Nat} (a:16≤nt):∀ (s:List UInt8),s.length<2^40→aI prog ap [] nt (ag 0 (ai f194)) (fun _=> .exit 0) akU adz s (s.dropWhile iR):=by
 intro s
 induction s with
 |nil=>exact fun _=> .done (anV a [] IP true rfl)
 | cons c s ih=>
  intro e
  simp only [List.length_cons] at e
  rw [List.dropWhile_cons]
  have d:=VA c
  cases b:iR c with
  |true=>
   rw [b] at d
   refine .next ?_ (by simpa using ih (by omega))
   have h:=anU a (c::s) IP true
   have f:List.drop 1 (List.take (s.length+1) (c::s))=s:=by simp
   simp only [List.length_cons,List.getD_cons_zero] at h
   simp (disch:=first|omega|(simp [ay,az]<;>omega)) only [eu,bG,Bool.not_true,fB,Bool.not_false,bI,bQ,aJ,f] at h
   apply h<;>first|exact True.intro|omega|assumption|exact rfl
  |false=>
   rw [b] at d
   refine .done ?_
   have h:=anT a (c::s) IP false
   simp only [List.length_cons,List.getD_cons_zero] at h
   simp (disch:=first|omega|(simp [ay,az]<;>omega)) only [Bool.not_false,bQ,bI,bG] at h
   apply h<;>first|exact True.intro|omega|assumption|exact rfl
def Yy (s:List UInt8):List UInt8:=(s.reverse.dropWhile iR).reverse
theorem Yz (s:List UInt8) (c:UInt8):Yy (s++ [c])=if iR c=true then Yy s else s++ [c]:=by
 unfold Yy
 rw [List.reverse_append]
 simp only [List.reverse_cons,List.reverse_nil,List.nil_append,List.singleton_append,List.dropWhile_cons]
 by_cases h:iR c=true
 ·simp [h]
 ·simp [h]
theorem acK {nt:Nat} (b:22≤nt):∀ (k:Nat) (s:List UInt8),s.length=k→k<2^40→aI prog ap [] nt (ag 0 (ai f197)) (fun _=> .exit 0) akU adz s (Yy s):=by
 intro k
 induction k with
 |zero=>
  intro s hs _
  have:s= []:=List.eq_nil_of_length_eq_zero hs
  subst this
  exact .done (an4 b [] IP true rfl)
 | succ k ih=>
  intro s hs j
  rcases List.eq_nil_or_concat s with rfl|⟨s',c,rfl⟩
  ·simp at hs
  ·rw [List.concat_eq_append] at hs ⊢
   have d:s'.length=k:=by simpa using hs
   rw [Yz]
   have i:=VA c
   have g:(s'++ [c]).getD s'.length 0=c:=by simp
   have e:s'.length+1 - 1=s'.length:=rfl
   have a:List.take s'.length (s'++ [c])=s':=by simp
   cases f:iR c with
   |true=>
    rw [f] at i
    rw [if_pos rfl]
    refine .next ?_ (ih s' d (by omega))
    have h:=anY b (s'++ [c]) IP true
    simp (disch:=first|omega|(simp [ay,az]<;>omega)) only [List.length_append,List.length_cons,List.length_nil,Nat.zero_add,jJ,e,eu,bG,Bool.not_true,fB,Bool.not_false,bI,bQ,aJ,g,a,List.drop_zero] at h
    apply h<;>first|exact True.intro|omega|assumption|exact rfl
   |false=>
    rw [f] at i
    rw [if_neg (by simp)]
    refine .done ?_
    have h:=anX b (s'++ [c]) IP false
    simp (disch:=first|omega|(simp [ay,az]<;>omega)) only [Bool.not_false,bQ,List.length_append,List.length_cons,List.length_nil,Nat.zero_add,jJ,e,eu,bG,bI,aJ,g] at h
    apply h<;>first|exact True.intro|omega|assumption|exact rfl
theorem acL (s u v:List UInt8) (a:lit true (s== [])=true):CO 164 [.str s,.str SK] (.ret (.str s)):=pK [] 2 3 (.k 1 a .nil) (.nil)
theorem acM (s u v:List UInt8) (c:lit false (s== [])=true) (a:CO 193 [.str SK] (.ret (.tup [.agg IP,.bool true]))) (d:CO 197 [.str s,.pp IP 0] (.ret (.str u))) (b:CO 194 [.str u,.pp IP 0] (.ret (.str v))):CO 164 [.str s,.str SK] (.ret (.str v)):=pK [] 5 16 (.k 5 c .nil) (.c b (.c d (.c a .nil)))
theorem aaR (s v:List UInt8) (a:lit true (s== [])=true):CO 122 [.str s] (.ret (.bool false)):=pK [] 4 15 (.k 3 a .nil) (.nil)
theorem aaS (s v:List UInt8) (b:lit true (decide (((20:Nat):Int)<(((List.length s):Nat):Int)))=true) (a:lit false (s== [])=true):CO 122 [.str s] (.ret (.bool false)):=pK [] 4 14 (.k 2 b (.c a .nil)) (.nil)
theorem aaT (s v:List UInt8) (d:lit true (decide (((UInt8.toNat (List.getD s 0 0):Nat):Int)<((97:Nat):Int)))=true) (c:(decide (((0:Nat):Int)<(((List.length s):Nat):Int)))=true) (a:lit false (decide (((20:Nat):Int)<(((List.length s):Nat):Int)))=true) (b:lit false (s== [])=true):CO 122 [.str s] (.ret (.bool false)):=pK [] 4 12 (.k 1 d (.k 1 c (.c a (.c b .nil)))) (.nil)
theorem aaU (s v:List UInt8) (e:lit true (decide (((122:Nat):Int)<((UInt8.toNat (List.getD s 0 0):Nat):Int)))=true) (a:(decide (((0:Nat):Int)<(((List.length s):Nat):Int)))=true) (b:lit false (decide (((UInt8.toNat (List.getD s 0 0):Nat):Int)<((97:Nat):Int)))=true) (c:lit false (decide (((20:Nat):Int)<(((List.length s):Nat):Int)))=true) (d:lit false (s== [])=true):CO 122 [.str s] (.ret (.bool false)):=pK [] 4 8 (.c e (.k 1 a (.c b (.k 1 a (.c c (.c d .nil)))))) (.nil)
theorem aaV (s v:List UInt8) (f:lit false (decide (((122:Nat):Int)<((UInt8.toNat (List.getD s 0 0):Nat):Int)))=true) (a:(decide (((0:Nat):Int)<(((List.length s):Nat):Int)))=true) (b:lit false (decide (((UInt8.toNat (List.getD s 0 0):Nat):Int)<((97:Nat):Int)))=true) (c:lit false (decide (((20:Nat):Int)<(((List.length s):Nat):Int)))=true) (d:lit false (s== [])=true) (e:CO 164 [.str s,.str SK] (.ret (.str v))):CO 122 [.str s] (.ret (.bool (v== []))):=pK [] 4 0 (.c f (.k 1 a (.c b (.k 1 a (.c c (.c d .nil)))))) (.c e .nil)
def BK (s:List UInt8):Bool:= !(s== []) && decide (s.length≤20) && decide (97≤(s.getD 0 0).toNat) && decide ((s.getD 0 0).toNat≤122) && s.all iR
theorem I8 {p:UInt8→Bool}:∀ {l:List UInt8},l.dropWhile p= []↔∀ x ∈ l,p x=true
 | []=>by simp
 |c::l=>by
  rw [List.dropWhile_cons]
  cases h:p c with
  |true=>simp [h,I8 (l:=l)]
  |false=>simp [h]
theorem YD {s:List UInt8}:(Yy s).dropWhile iR= []↔s.all iR=true:=by
 unfold Yy
 rw [List.all_eq_true]
 constructor
 ·intro h
  have f:∀ x ∈ (s.reverse.dropWhile iR),iR x=true:=by
   intro x a
   exact I8.1 h x (by simpa using a)
  have d:s.reverse.dropWhile iR= []:=by
   cases hd:s.reverse.dropWhile iR with
   |nil=>rfl
   | cons y r=>
    exfalso
    have b:=f y (by rw [hd];simp)
    have e:∀ (l:List UInt8),l.dropWhile iR=y::r→iR y=false:=by
     intro l
     induction l with
     |nil=>intro h;simp at h
     | cons z l ih=>
      intro h
      rw [List.dropWhile_cons] at h
      split at h
      ·exact ih h
      ·rename_i c
       cases h
       simpa using c
    rw [e _ hd] at b
    cases b
  intro x a
  exact I8.1 d x (by simpa using a)
 ·intro h
  have:s.reverse.dropWhile iR= []:=I8.2 fun x a=>h x (by simpa using a)
  rw [this];rfl
theorem ag5 (s:List UInt8) (hs:s.length<2^40):CO 194 [.str s,.pp IP 0] (.ret (.str (s.dropWhile iR))):=
 aly s _ IP (aI.blk (fun nt a=>acE a s hs) (by simp) rfl (aQ.of ⟨rfl,rfl,trivial⟩) (aQ.of ⟨rfl,trivial⟩))
theorem ag6 (s:List UInt8) (hs:s.length<2^40):CO 197 [.str s,.pp IP 0] (.ret (.str (Yy s))):=
 alC s _ IP (aI.blk (fun nt a=>acK a _ s rfl hs) (by simp) rfl (aQ.of ⟨rfl,rfl,trivial⟩) (aQ.of ⟨rfl,trivial⟩))
theorem acJ (s:List UInt8):(Yy s).length≤s.length:=by
 unfold Yy
 rw [List.length_reverse]
 have:=(List.dropWhile_sublist iR (l:=s.reverse)).length_le
 simpa using this
theorem acN (s:List UInt8) (hs:s.length<2^40):CO 164 [.str s,.str SK] (.ret (.str ((Yy s).dropWhile iR))):=by
 by_cases h:s= []
 ·subst h
  exact acL [] [] [] rfl
 ·have a:=acJ s
  exact acM s _ _ (by simp [lit,h]) aed (ag6 s hs) (ag5 _ (by omega))
theorem lN (s:List UInt8):CO 122 [.str s] (.ret (.bool (BK s))):=by
 unfold BK
 by_cases h0:s= []
 ·subst h0;exact aaR [] [] rfl
 ·have a:(s== [])=false:=by simpa using h0
  have b:0<s.length:=by cases s with|nil=>exact absurd rfl h0|cons _ _=>simp
  rw [a]
  by_cases h1:s.length≤20
  ·have c:lit false (decide (((20:Nat):Int)<(s.length:Int)))=true:=by rw [bI];simp [lit,h1]
   have cl:decide (((0:Nat):Int)<(s.length:Int))=true:=by rw [bI];exact decide_eq_true b
   rw [decide_eq_true h1]
   by_cases h2:97≤(s.getD 0 0).toNat
   ·rw [decide_eq_true h2]
    have d:lit false (decide (((s.getD 0 0).toNat:Int)<((97:Nat):Int)))=true:=by rw [bI];simp only [lit,Bool.not_eq_true'];exact decide_eq_false (by omega)
    by_cases h3:(s.getD 0 0).toNat≤122
    ·rw [decide_eq_true h3]
     have f:lit false (decide (((122:Nat):Int)<((s.getD 0 0).toNat:Int)))=true:=by rw [bI];simp only [lit,Bool.not_eq_true'];exact decide_eq_false (by omega)
     have h:=aaV s _ f cl d c (by rw [a];rfl) (acN s (by omega))
     have e:((Yy s).dropWhile iR== [])=s.all iR:=by
      rw [Bool.eq_iff_iff,← YD];simp
     rw [e] at h
     exact h
    ·rw [decide_eq_false h3]
     exact aaU s [] (by rw [bI];exact decide_eq_true (by omega)) cl d c (by rw [a];rfl)
   ·rw [decide_eq_false h2]
    exact aaT s [] (by rw [bI];exact decide_eq_true (by omega)) cl c (by rw [a];rfl)
  ·rw [decide_eq_false h1]
   exact aaS s [] (by rw [bI];exact decide_eq_true (by omega)) (by rw [a];rfl)
def jD:List AV:= [.str [],.int .i64 0,.bool false,.bool false,.bool false,.str [36],.int .i64 0,.bool true,.bool false,.bool false,.str [],.int .i64 0,.bool true,.bool false,.bool false,.str [],.int .i64 0,.bool true,.bool false,.bool false,.str [],.int .i64 0,.bool true,.bool false,.bool false,.str [102,97,99,116,46],.int .i64 0,.bool false,.bool true,.bool false,.str [111,119,110,46],.int .i64 0,.bool false,.bool true,.bool false,.str [112,114,105,111,114,46],.int .i64 0,.bool false,.bool true,.bool false,.str [115,112,111,117,115,101,46],.int .i64 0,.bool false,.bool true,.bool false,.str [97,100,100],.int .i64 2,.bool false,.bool false,.bool false,.str [115,117,98],.int .i64 2,.bool false,.bool false,.bool false,.str [109,117,108],.int .i64 2,.bool false,.bool false,.bool false,.str [100,105,118],.int .i64 2,.bool false,.bool false,.bool false,.str [109,105,110],.int .i64 2,.bool false,.bool false,.bool false,.str [109,97,120],.int .i64 2,.bool false,.bool false,.bool false,.str [105,102],.int .i64 3,.bool false,.bool false,.bool false,.str [108,101,115,115],.int .i64 2,.bool false,.bool false,.bool false,.str [101,113,117,97,108],.int .i64 2,.bool false,.bool false,.bool false,.str [97,110,100],.int .i64 2,.bool false,.bool false,.bool false,.str [111,114],.int .i64 2,.bool false,.bool false,.bool false,.str [110,111,116],.int .i64 1,.bool false,.bool false,.bool false,.str [100,111,119,110],.int .i64 1,.bool false,.bool false,.bool true,.str [117,112],.int .i64 1,.bool false,.bool false,.bool true,.str [110,101,97,114],.int .i64 1,.bool false,.bool false,.bool true,.str [114,97,116,101,46],.int .i64 1,.bool false,.bool true,.bool false]
theorem ajB (a:Int) (b:lit true (decide (a<((1:Nat):Int)))=true):CO 120 [.int .i64 a] (.ret (.tup [.agg zcc2_0,.bool false])):=pK [] 2 3 (.k 7 b .nil) (.nil)
theorem ajC (a:Int) (c:lit true (decide (((24:Nat):Int)<a))=true) (b:lit false (decide (a<((1:Nat):Int)))=true):CO 120 [.int .i64 a] (.ret (.tup [.agg zcc2_0,.bool false])):=pK [] 2 2 (.k 6 c (.c b .nil)) (.nil)
theorem ajD (a:Int) (i:(chk .str (List.headD (List.drop (0+((Int.toNat a)*5)) jD) .dead))=true) (f:(chk (.int .i64) (List.headD (List.tail (List.drop (0+((Int.toNat a)*5)) jD)) .dead))=true) (c:(chk .bool (List.headD (List.tail (List.tail (List.drop (0+((Int.toNat a)*5)) jD))) .dead))=true) (d:(chk .bool (List.headD (List.tail (List.tail (List.tail (List.drop (0+((Int.toNat a)*5)) jD)))) .dead))=true) (e:(chk .bool (List.headD (List.tail (List.tail (List.tail (List.tail (List.drop (0+((Int.toNat a)*5)) jD))))) .dead))=true) (j:(decide (((0:Nat):Int)≤a))=true) (b:(decide (a<((25:Nat):Int)))=true) (g:lit false (decide (((24:Nat):Int)<a))=true) (h:lit false (decide (a<((1:Nat):Int)))=true):CO 120 [.int .i64 a] (.ret (.tup [.agg [.str (AV.toStr (List.headD (List.drop (0+((Int.toNat a)*5)) jD) .dead)),.int .i64 (AV.toInt (List.headD (List.tail (List.drop (0+((Int.toNat a)*5)) jD)) .dead)),.bool (AV.toBool (List.headD (List.tail (List.tail (List.drop (0+((Int.toNat a)*5)) jD))) .dead)),.bool (AV.toBool (List.headD (List.tail (List.tail (List.tail (List.drop (0+((Int.toNat a)*5)) jD)))) .dead)),.bool (AV.toBool (List.headD (List.tail (List.tail (List.tail (List.tail (List.drop (0+((Int.toNat a)*5)) jD))))) .dead))],.bool true])):=pK [] 2 0 (.k 6 i (.c f (.c c (.c d (.c e (.c j (.c b (.c g (.c h .nil))))))))) (.nil)
def fG (op:Int):Nat:=if op=15 then 3 else if (9≤op∧op≤14)∨(16≤op∧op≤19) then 2 else if 20≤op∧op≤24 then 1 else 0
def rH (op:Int):Bool:=decide ((5≤op∧op≤8)∨op=24)
def OI (op:Int):Bool:=decide (1≤op∧op≤4)
def Pv (op:Int):Bool:=decide (21≤op∧op≤23)
def YM (op:Int):List UInt8:=AV.toStr (List.headD (List.drop (0+((Int.toNat op)*5)) jD) .dead)
theorem L8 {a:Int} (h:1≤a) (b:a≤24):a=1∨a=2∨a=3∨a=4∨a=5∨a=6∨a=7∨a=8∨a=9∨a=10∨a=11∨a=12∨a=13∨a=14∨a=15∨a=16∨a=17∨a=18∨a=19∨a=20∨a=21∨a=22∨a=23∨a=24:=by omega
abbrev shA (op:Int):AV:= .agg [.str (YM op),.int .i64 ((fG op:Nat):Int),.bool (OI op),.bool (rH op),.bool (Pv op)]
theorem ajH {a:Int} (h:1≤a) (b:a≤24):CO 120 [.int .i64 a] (.ret (.tup [shA a,.bool true])):=by
 rcases L8 h b with rfl|rfl|rfl|rfl|rfl|rfl|rfl|rfl|rfl|rfl|rfl|rfl|rfl|rfl|rfl|rfl|rfl|rfl|rfl|rfl|rfl|rfl|rfl|rfl
 all_goals exact ajD _ rfl rfl rfl rfl rfl rfl rfl rfl rfl
theorem afU {a:Int} (h:a<1∨24<a):CO 120 [.int .i64 a] (.ret (.tup [.agg zcc2_0,.bool false])):=by
 by_cases h1:a<1
 ·exact ajB a (by simp [lit];omega)
 ·exact ajC a (by simp [lit];omega) (by simp [lit];omega)
theorem PE {a:Int} (h:1≤a) (b:a≤24):List.headD (List.drop (a.toNat*5+1) jD) .dead= .int .i64 ((fG a:Nat):Int):=by
 rcases L8 h b with rfl|rfl|rfl|rfl|rfl|rfl|rfl|rfl|rfl|rfl|rfl|rfl|rfl|rfl|rfl|rfl|rfl|rfl|rfl|rfl|rfl|rfl|rfl|rfl
 all_goals rfl
def inI (op:Int):Bool:=decide (1≤op∧op≤24)
theorem bY (a:Int):CO 120 [.int .i64 a] (.ret (.tup [shA a,.bool (inI a)])):=by
 by_cases h:1≤a∧a≤24
 ·have e:inI a=true:=decide_eq_true h
  rw [e];exact ajH h.1 h.2
 ·have e:inI a=false:=decide_eq_false h
  have f:fG a=0:=by unfold fG;(repeat' split)<;>omega
  have c:OI a=false:=by unfold OI;rw [decide_eq_false_iff_not];omega
  have g:rH a=false:=by unfold rH;rw [decide_eq_false_iff_not];omega
  have d:Pv a=false:=by unfold Pv;rw [decide_eq_false_iff_not];omega
  have b:YM a= []:=by
   unfold YM
   by_cases h1:a<1
   ·have:a.toNat=0:=by omega
    rw [this];rfl
   ·have i:jD.length=125:=by decide
    rw [List.drop_of_length_le (by omega)];rfl
  unfold shA
  rw [e,f,c,g,d,b]
  exact afU (by omega)
structure Nd where
 op:Int
 neg:Bool
 num:List UInt8
 den:List UInt8
 name:List UInt8
def zQ (x:Nd):List AV:= [.int .i64 x.op,.bool x.neg,.str x.num,.str x.den,.str x.name]
def Nd.sm (x:Nd):Prop:=x.num.length<2^33∧x.den.length<2^33
def jg (x:Nd):Bool:=cond (x.op==((4:Nat):Int)) (yL x.neg x.num x.den 0||yL x.neg x.num x.den 1) (cond (OI x.op) (fA x.neg x.num x.den) (cond (Pv x.op) (fA x.neg x.num x.den && decide (((0:Nat):Int)<rU x.neg x.num x.den)) ((x.neg==false) && ((x.num== []) && ((x.den== []) && true)))))
def aK (x:Nd):Int:=cond (!inI x.op||(!rH x.op && !(x.name== []))) 11 (cond (!jg x) 11 (cond (rH x.op && !BK x.name) 12 0))
theorem YN (x:Nd) (c:x.sm):CO 73 [.agg (zQ x)] (.ret (.int .i64 (aK x))):=by
 have a:x.num.length<2^36:=Nat.lt_trans c.1 (by decide)
 have b:x.den.length<2^36:=Nat.lt_trans c.2 (by decide)
 rcases tf (inI x.op) with b0|b0
 ·rcases tf (rH x.op) with b1|b1
  ·rcases tf (x.op==((4:Nat):Int)) with b2|b2
   ·rcases tf ((x.neg==false) && ((x.num==(af 0)) && ((x.den==(af 1)) && true))) with b3|b3
    ·rcases tf (BK x.name) with b4|b4
     ·rw [show aK x=0 by simp only [aK,jg,yL,b0,b1,b2,b3,b4]<;>rfl]
      exact pK [] 8 88 (.c (a_ b4) (.k 1 (aG b1) (.k 2 (aG b3) (.k 3 (aG b2) (.k 2 (a_ b1) (.k 1 (a_ b0) (.n 2 .nil))))))) (.c (lN x.name) (.c (jo) (.c (bY x.op) .nil)))
     ·rw [show aK x=12 by simp only [aK,jg,yL,b0,b1,b2,b3,b4]<;>rfl]
      exact pK [] 8 216 (.c (eF b4) (.k 1 (aG b1) (.k 2 (aG b3) (.k 3 (aG b2) (.k 2 (a_ b1) (.k 1 (a_ b0) (.n 2 .nil))))))) (.c (lN x.name) (.c (jo) (.c (bY x.op) .nil)))
    ·rcases tf ((x.neg==false) && ((x.num==(af 1)) && ((x.den==(af 1)) && true))) with b4|b4
     ·rcases tf (BK x.name) with b5|b5
      ·rw [show aK x=0 by simp only [aK,jg,yL,b0,b1,b2,b3,b4,b5]<;>rfl]
       exact pK [] 8 72 (.c (a_ b5) (.k 1 (aG b1) (.k 1 (a_ b4) (.k 3 (aF b3) (.k 3 (aG b2) (.k 2 (a_ b1) (.k 1 (a_ b0) (.n 2 .nil)))))))) (.c (lN x.name) (.c (vg) (.c (jo) (.c (bY x.op) .nil))))
      ·rw [show aK x=12 by simp only [aK,jg,yL,b0,b1,b2,b3,b4,b5]<;>rfl]
       exact pK [] 8 200 (.c (eF b5) (.k 1 (aG b1) (.k 1 (a_ b4) (.k 3 (aF b3) (.k 3 (aG b2) (.k 2 (a_ b1) (.k 1 (a_ b0) (.n 2 .nil)))))))) (.c (lN x.name) (.c (vg) (.c (jo) (.c (bY x.op) .nil))))
     ·rw [show aK x=11 by simp only [aK,jg,yL,b0,b1,b2,b3,b4]<;>rfl]
      exact pK [] 6 40 (.c (eF b4) (.k 3 (aF b3) (.k 3 (aG b2) (.k 2 (a_ b1) (.k 1 (a_ b0) (.n 2 .nil)))))) (.c (vg) (.c (jo) (.c (bY x.op) .nil)))
   ·rcases tf (OI x.op) with b3|b3
    ·rcases tf (fA x.neg x.num x.den) with b4|b4
     ·rcases tf (BK x.name) with b5|b5
      ·rw [show aK x=0 by simp only [aK,jg,yL,b0,b1,b2,b3,b4,b5]<;>rfl]
       exact pK [] 8 80 (.c (a_ b5) (.k 1 (aG b1) (.k 1 (a_ b4) (.k 3 (aG b3) (.k 1 (aF b2) (.k 2 (a_ b1) (.k 1 (a_ b0) (.n 2 .nil)))))))) (.c (lN x.name) (.c (gm x.neg x.num x.den a b) (.c (bY x.op) .nil)))
      ·rw [show aK x=12 by simp only [aK,jg,yL,b0,b1,b2,b3,b4,b5]<;>rfl]
       exact pK [] 8 208 (.c (eF b5) (.k 1 (aG b1) (.k 1 (a_ b4) (.k 3 (aG b3) (.k 1 (aF b2) (.k 2 (a_ b1) (.k 1 (a_ b0) (.n 2 .nil)))))))) (.c (lN x.name) (.c (gm x.neg x.num x.den a b) (.c (bY x.op) .nil)))
     ·rw [show aK x=11 by simp only [aK,jg,yL,b0,b1,b2,b3,b4]<;>rfl]
      exact pK [] 6 48 (.c (eF b4) (.k 3 (aG b3) (.k 1 (aF b2) (.k 2 (a_ b1) (.k 1 (a_ b0) (.n 2 .nil)))))) (.c (gm x.neg x.num x.den a b) (.c (bY x.op) .nil))
    ·rcases tf (Pv x.op) with b4|b4
     ·rcases tf (fA x.neg x.num x.den) with b5|b5
      ·rcases tf (decide (((0:Nat):Int)<(rU x.neg x.num x.den))) with b6|b6
       ·rcases tf (BK x.name) with b7|b7
        ·rw [show aK x=0 by simp only [aK,jg,yL,b0,b1,b2,b3,b4,b5,b6,b7]<;>rfl]
         exact pK [] 10 352 (.c (a_ b7) (.k 1 (aG b1) (.k 1 (a_ b6) (.k 3 (aG b5) (.k 3 (aG b4) (.k 1 (aF b3) (.k 1 (aF b2) (.k 2 (a_ b1) (.k 1 (a_ b0) (.n 2 .nil)))))))))) (.c (lN x.name) (.c (oO x.neg x.num x.den a b) (.c (gm x.neg x.num x.den a b) (.c (bY x.op) .nil))))
        ·rw [show aK x=12 by simp only [aK,jg,yL,b0,b1,b2,b3,b4,b5,b6,b7]<;>rfl]
         exact pK [] 10 864 (.c (eF b7) (.k 1 (aG b1) (.k 1 (a_ b6) (.k 3 (aG b5) (.k 3 (aG b4) (.k 1 (aF b3) (.k 1 (aF b2) (.k 2 (a_ b1) (.k 1 (a_ b0) (.n 2 .nil)))))))))) (.c (lN x.name) (.c (oO x.neg x.num x.den a b) (.c (gm x.neg x.num x.den a b) (.c (bY x.op) .nil))))
       ·rw [show aK x=11 by simp only [aK,jg,yL,b0,b1,b2,b3,b4,b5,b6]<;>rfl]
        exact pK [] 8 224 (.c (eF b6) (.k 3 (aG b5) (.k 3 (aG b4) (.k 1 (aF b3) (.k 1 (aF b2) (.k 2 (a_ b1) (.k 1 (a_ b0) (.n 2 .nil)))))))) (.c (oO x.neg x.num x.den a b) (.c (gm x.neg x.num x.den a b) (.c (bY x.op) .nil)))
      ·rw [show aK x=11 by simp only [aK,jg,yL,b0,b1,b2,b3,b4,b5]<;>rfl]
       exact pK [] 8 160 (.k 1 (aF b5) (.k 3 (aG b4) (.k 1 (aF b3) (.k 1 (aF b2) (.k 2 (a_ b1) (.k 1 (a_ b0) (.n 2 .nil))))))) (.c (gm x.neg x.num x.den a b) (.c (bY x.op) .nil))
     ·rcases tf ((x.neg==false) && ((x.num== []) && ((x.den== []) && true))) with b5|b5
      ·rcases tf (BK x.name) with b6|b6
       ·rw [show aK x=0 by simp only [aK,jg,yL,b0,b1,b2,b3,b4,b5,b6]<;>rfl]
        exact pK [] 9 128 (.c (a_ b6) (.k 1 (aG b1) (.k 1 (a_ b5) (.k 3 (aF b4) (.k 1 (aF b3) (.k 1 (aF b2) (.k 2 (a_ b1) (.k 1 (a_ b0) (.n 2 .nil))))))))) (.c (lN x.name) (.c (bY x.op) .nil))
       ·rw [show aK x=12 by simp only [aK,jg,yL,b0,b1,b2,b3,b4,b5,b6]<;>rfl]
        exact pK [] 9 384 (.c (eF b6) (.k 1 (aG b1) (.k 1 (a_ b5) (.k 3 (aF b4) (.k 1 (aF b3) (.k 1 (aF b2) (.k 2 (a_ b1) (.k 1 (a_ b0) (.n 2 .nil))))))))) (.c (lN x.name) (.c (bY x.op) .nil))
      ·rw [show aK x=11 by simp only [aK,jg,yL,b0,b1,b2,b3,b4,b5]<;>rfl]
       exact pK [] 7 64 (.c (eF b5) (.k 3 (aF b4) (.k 1 (aF b3) (.k 1 (aF b2) (.k 2 (a_ b1) (.k 1 (a_ b0) (.n 2 .nil))))))) (.c (bY x.op) .nil)
  ·rcases tf (x.name== []) with b2|b2
   ·rcases tf (x.op==((4:Nat):Int)) with b3|b3
    ·rcases tf ((x.neg==false) && ((x.num==(af 0)) && ((x.den==(af 1)) && true))) with b4|b4
     ·rw [show aK x=0 by simp only [aK,jg,yL,b0,b1,b2,b3,b4]<;>rfl]
      exact pK [] 8 26 (.k 1 (aF b1) (.k 2 (aG b4) (.k 3 (aG b3) (.k 1 (a_ b2) (.k 1 (eF b1) (.k 1 (a_ b0) (.n 2 .nil))))))) (.c (jo) (.c (bY x.op) .nil))
     ·rcases tf ((x.neg==false) && ((x.num==(af 1)) && ((x.den==(af 1)) && true))) with b5|b5
      ·rw [show aK x=0 by simp only [aK,jg,yL,b0,b1,b2,b3,b4,b5]<;>rfl]
       exact pK [] 8 10 (.k 1 (aF b1) (.k 1 (a_ b5) (.k 3 (aF b4) (.k 3 (aG b3) (.k 1 (a_ b2) (.k 1 (eF b1) (.k 1 (a_ b0) (.n 2 .nil)))))))) (.c (vg) (.c (jo) (.c (bY x.op) .nil)))
      ·rw [show aK x=11 by simp only [aK,jg,yL,b0,b1,b2,b3,b4,b5]<;>rfl]
       exact pK [] 6 42 (.c (eF b5) (.k 3 (aF b4) (.k 3 (aG b3) (.k 1 (a_ b2) (.k 1 (eF b1) (.k 1 (a_ b0) (.n 2 .nil))))))) (.c (vg) (.c (jo) (.c (bY x.op) .nil)))
    ·rcases tf (OI x.op) with b4|b4
     ·rcases tf (fA x.neg x.num x.den) with b5|b5
      ·rw [show aK x=0 by simp only [aK,jg,yL,b0,b1,b2,b3,b4,b5]<;>rfl]
       exact pK [] 8 18 (.k 1 (aF b1) (.k 1 (a_ b5) (.k 3 (aG b4) (.k 1 (aF b3) (.k 1 (a_ b2) (.k 1 (eF b1) (.k 1 (a_ b0) (.n 2 .nil)))))))) (.c (gm x.neg x.num x.den a b) (.c (bY x.op) .nil))
      ·rw [show aK x=11 by simp only [aK,jg,yL,b0,b1,b2,b3,b4,b5]<;>rfl]
       exact pK [] 6 50 (.c (eF b5) (.k 3 (aG b4) (.k 1 (aF b3) (.k 1 (a_ b2) (.k 1 (eF b1) (.k 1 (a_ b0) (.n 2 .nil))))))) (.c (gm x.neg x.num x.den a b) (.c (bY x.op) .nil))
     ·rcases tf (Pv x.op) with b5|b5
      ·rcases tf (fA x.neg x.num x.den) with b6|b6
       ·rcases tf (decide (((0:Nat):Int)<(rU x.neg x.num x.den))) with b7|b7
        ·rw [show aK x=0 by simp only [aK,jg,yL,b0,b1,b2,b3,b4,b5,b6,b7]<;>rfl]
         exact pK [] 10 98 (.k 1 (aF b1) (.k 1 (a_ b7) (.k 3 (aG b6) (.k 3 (aG b5) (.k 1 (aF b4) (.k 1 (aF b3) (.k 1 (a_ b2) (.k 1 (eF b1) (.k 1 (a_ b0) (.n 2 .nil)))))))))) (.c (oO x.neg x.num x.den a b) (.c (gm x.neg x.num x.den a b) (.c (bY x.op) .nil)))
        ·rw [show aK x=11 by simp only [aK,jg,yL,b0,b1,b2,b3,b4,b5,b6,b7]<;>rfl]
         exact pK [] 8 226 (.c (eF b7) (.k 3 (aG b6) (.k 3 (aG b5) (.k 1 (aF b4) (.k 1 (aF b3) (.k 1 (a_ b2) (.k 1 (eF b1) (.k 1 (a_ b0) (.n 2 .nil))))))))) (.c (oO x.neg x.num x.den a b) (.c (gm x.neg x.num x.den a b) (.c (bY x.op) .nil)))
       ·rw [show aK x=11 by simp only [aK,jg,yL,b0,b1,b2,b3,b4,b5,b6]<;>rfl]
        exact pK [] 8 162 (.k 1 (aF b6) (.k 3 (aG b5) (.k 1 (aF b4) (.k 1 (aF b3) (.k 1 (a_ b2) (.k 1 (eF b1) (.k 1 (a_ b0) (.n 2 .nil)))))))) (.c (gm x.neg x.num x.den a b) (.c (bY x.op) .nil))
      ·rcases tf ((x.neg==false) && ((x.num== []) && ((x.den== []) && true))) with b6|b6
       ·rw [show aK x=0 by simp only [aK,jg,yL,b0,b1,b2,b3,b4,b5,b6]<;>rfl]
        exact pK [] 9 2 (.k 1 (aF b1) (.k 1 (a_ b6) (.k 3 (aF b5) (.k 1 (aF b4) (.k 1 (aF b3) (.k 1 (a_ b2) (.k 1 (eF b1) (.k 1 (a_ b0) (.n 2 .nil))))))))) (.c (bY x.op) .nil)
       ·rw [show aK x=11 by simp only [aK,jg,yL,b0,b1,b2,b3,b4,b5,b6]<;>rfl]
        exact pK [] 7 66 (.c (eF b6) (.k 3 (aF b5) (.k 1 (aF b4) (.k 1 (aF b3) (.k 1 (a_ b2) (.k 1 (eF b1) (.k 1 (a_ b0) (.n 2 .nil)))))))) (.c (bY x.op) .nil)
   ·rw [show aK x=11 by simp only [aK,jg,yL,b0,b1,b2]<;>rfl]
    exact pK [] 3 6 (.c (eF b2) (.k 1 (eF b1) (.k 1 (a_ b0) (.n 2 .nil)))) (.c (bY x.op) .nil)
 ·rw [show aK x=11 by simp only [aK,jg,yL,b0]<;>rfl]
  exact pK [] 2 3 (.k 1 (eF b0) (.n 2 .nil)) (.c (bY x.op) .nil)
def aZ (l:List Nd):List AV:=l.flatMap zQ
theorem aml {nt:Nat} (g:35≤nt) (l:List Nd) (nn:Bool) (k d:Nat) (w:Int) (x:Nd) (r:List Nd) (a:(List.drop ((Int.toNat (k:Int))*5) (aZ l))=zQ x++aZ r) (i:lit true (!(w==((0:Nat):Int)))=true) (f:(decide (((0:Nat):Int)≤(k:Int)))=true) (b:(decide ((k:Int)<(l.length:Int)))=true) (c:lit true (decide ((k:Int)<(l.length:Int)))=true) (e:CO 73 [.agg [.int .i64 x.op,.bool x.neg,.str x.num,.str x.den,.str x.name]] (.ret (.int .i64 w))):ax prog ap [] nt (ag 0 (ai f44)) ⟨[(10,.sl (aZ l) l.length nn),(11,.int .i64 (l.length:Int)),(12,.int .i64 (k:Int)),(3,.int .i64 (d:Int))],[],.dead,[]⟩ (.ret) ⟨[(2,.int .i64 w)],[],.dead,[]⟩:=
 have h:ax prog ap [] nt (ag 0 (ai f44)) ⟨[(10,.sl (aZ l) l.length nn),(11,.int .i64 (l.length:Int)),(12,.int .i64 (k:Int)),(3,.int .i64 (d:Int))],[],.dead,[]⟩ (.ret) ⟨[(2,.int .i64 w)],[(0,⟨[.int .i64 x.op,.bool x.neg,.str x.num,.str x.den,.str x.name],0,false,0,0,true⟩)],.dead,[]⟩:=pJ 44 [] 2 3 (.c i (.k 11 f (.c b (.c c .nil)))) (.c e (.v 14 (.ppt a) .nil)) g
 h.forgetD 0 ⟨[.int .i64 x.op,.bool x.neg,.str x.num,.str x.den,.str x.name],0,false,0,0,true⟩ (by intro v h;cases h) (by decide) rfl ⟨Fz.same rfl,trivial⟩ rfl rfl
theorem amm {nt:Nat} (b:35≤nt) (l:List Nd) (nn:Bool) (k d:Nat) (w:Int) (x:Nd) (r:List Nd) (a:(List.drop ((Int.toNat (k:Int))*5) (aZ l))=zQ x++aZ r) (o:lit true (decide ((IntKind.wrap .i64 ((d:Int) - (AV.toInt (List.headD (List.drop ((0+((Int.toNat x.op)*5))+1) jD) .dead))))<((0:Nat):Int)))=true) (g:(chk (.int .i64) (List.headD (List.drop ((0+((Int.toNat x.op)*5))+1) jD) .dead))=true) (j:(decide (((0:Nat):Int)≤x.op))=true) (m:(decide (x.op<((25:Nat):Int)))=true) (f:lit false (!(w==((0:Nat):Int)))=true) (e:(decide (((0:Nat):Int)≤(k:Int)))=true) (c:(decide ((k:Int)<(l.length:Int)))=true) (i:lit true (decide ((k:Int)<(l.length:Int)))=true) (n:CO 73 [.agg [.int .i64 x.op,.bool x.neg,.str x.num,.str x.den,.str x.name]] (.ret (.int .i64 w))):ax prog ap [] nt (ag 0 (ai f44)) ⟨[(10,.sl (aZ l) l.length nn),(11,.int .i64 (l.length:Int)),(12,.int .i64 (k:Int)),(3,.int .i64 (d:Int))],[],.dead,[]⟩ (.ret) ⟨[(2,.int .i64 11)],[],.dead,[]⟩:=
 have h:ax prog ap [] nt (ag 0 (ai f44)) ⟨[(10,.sl (aZ l) l.length nn),(11,.int .i64 (l.length:Int)),(12,.int .i64 (k:Int)),(3,.int .i64 (d:Int))],[],.dead,[]⟩ (.ret) ⟨[(2,.int .i64 11)],[(0,⟨[.int .i64 x.op,.bool x.neg,.str x.num,.str x.den,.str x.name],0,false,0,0,true⟩)],.dead,[]⟩:=pJ 44 [] 3 5 (.c o (.c g (.c j (.c m (.k 1 f (.k 11 e (.c c (.c i .nil)))))))) (.c n (.v 14 (.ppt a) .nil)) b
 h.forgetD 0 ⟨[.int .i64 x.op,.bool x.neg,.str x.num,.str x.den,.str x.name],0,false,0,0,true⟩ (by intro v h;cases h) (by decide) rfl ⟨Fz.same rfl,trivial⟩ rfl rfl
theorem amn {nt:Nat} (b:35≤nt) (l:List Nd) (nn:Bool) (k d:Nat) (w:Int) (x:Nd) (r:List Nd) (a:(List.drop ((Int.toNat (k:Int))*5) (aZ l))=zQ x++aZ r) (o:lit false (decide ((IntKind.wrap .i64 ((d:Int) - (AV.toInt (List.headD (List.drop ((0+((Int.toNat x.op)*5))+1) jD) .dead))))<((0:Nat):Int)))=true) (g:(chk (.int .i64) (List.headD (List.drop ((0+((Int.toNat x.op)*5))+1) jD) .dead))=true) (j:(decide (((0:Nat):Int)≤x.op))=true) (m:(decide (x.op<((25:Nat):Int)))=true) (f:lit false (!(w==((0:Nat):Int)))=true) (e:(decide (((0:Nat):Int)≤(k:Int)))=true) (c:(decide ((k:Int)<(l.length:Int)))=true) (i:lit true (decide ((k:Int)<(l.length:Int)))=true) (n:CO 73 [.agg [.int .i64 x.op,.bool x.neg,.str x.num,.str x.den,.str x.name]] (.ret (.int .i64 w))):ax prog ap [] nt (ag 0 (ai f44)) ⟨[(10,.sl (aZ l) l.length nn),(11,.int .i64 (l.length:Int)),(12,.int .i64 (k:Int)),(3,.int .i64 (d:Int))],[],.dead,[]⟩ (.normal) ⟨[(10,.sl (aZ l) l.length nn),(11,.int .i64 (l.length:Int)),(12,.int .i64 (IntKind.wrap .i64 ((k:Int)+((1:Nat):Int)))),(3,.int .i64 (IntKind.wrap .i64 ((IntKind.wrap .i64 ((d:Int) - (AV.toInt (List.headD (List.drop ((0+((Int.toNat x.op)*5))+1) jD) .dead))))+((1:Nat):Int))))],[],.dead,[]⟩:=
 have h:ax prog ap [] nt (ag 0 (ai f44)) ⟨[(10,.sl (aZ l) l.length nn),(11,.int .i64 (l.length:Int)),(12,.int .i64 (k:Int)),(3,.int .i64 (d:Int))],[],.dead,[]⟩ (.normal) ⟨[(10,.sl (aZ l) l.length nn),(11,.int .i64 (l.length:Int)),(12,.int .i64 (IntKind.wrap .i64 ((k:Int)+((1:Nat):Int)))),(3,.int .i64 (IntKind.wrap .i64 ((IntKind.wrap .i64 ((d:Int) - (AV.toInt (List.headD (List.drop ((0+((Int.toNat x.op)*5))+1) jD) .dead))))+((1:Nat):Int))))],[(0,⟨[.int .i64 x.op,.bool x.neg,.str x.num,.str x.den,.str x.name],0,false,0,0,true⟩)],.dead,[]⟩:=pJ 44 [] 3 1 (.c o (.c g (.c j (.c m (.k 1 f (.k 11 e (.c c (.c i .nil)))))))) (.c n (.v 14 (.ppt a) .nil)) b
 h.forgetD 0 ⟨[.int .i64 x.op,.bool x.neg,.str x.num,.str x.den,.str x.name],0,false,0,0,true⟩ (by intro v h;cases h) (by decide) rfl ⟨Fz.same rfl,Fz.same rfl,Fz.same rfl,Fz.same rfl,trivial⟩ rfl rfl
theorem Vt {nt:Nat} (a:35≤nt) (l:List Nd) (nn:Bool) (k d:Nat) (w:Int) (b:lit false (decide ((k:Int)<(l.length:Int)))=true):ax prog ap [] nt (ag 0 (ai f44)) ⟨[(10,.sl (aZ l) l.length nn),(11,.int .i64 (l.length:Int)),(12,.int .i64 (k:Int)),(3,.int .i64 (d:Int))],[],.dead,[]⟩ (.exit 0) ⟨[(3,.int .i64 (d:Int))],[],.dead,[]⟩:=pJ 44 [] 1 0 (.c b .nil) (.nil) a
theorem ahJ (l:List Nd) (nn:Bool) (d:Nat) (a:lit true (decide (((60:Nat):Int)<(l.length:Int)))=true):CO 44 [.sl (aZ l) l.length nn] (.ret (.int .i64 2)):=pK [0] 1 1 (.c a .nil) (.nil)
theorem ahK (l:List Nd) (nn:Bool) (d:Nat) (c:lit true (!((d:Int)==((1:Nat):Int)))=true) (b:lit false (decide (((60:Nat):Int)<(l.length:Int)))=true) (a:aO prog ap [] 35 (.block 0 (.loop (ag 0 (ai f44)))) ⟨[(0,.sl (aZ l) l.length nn),(2,.int .i64 0),(3,.int .i64 0),(5,.dead),(6,.dead),(9,.bool (decide (((60:Nat):Int)<(l.length:Int)))),(10,.sl (aZ l) l.length nn),(11,.int .i64 (l.length:Int)),(12,.int .i64 0),(13,.dead),(19,.dead),(29,.dead),(34,.dead)],[],.dead,[]⟩ (.normal) ⟨[(3,.int .i64 (d:Int))],[],.dead,[]⟩):CO 44 [.sl (aZ l) l.length nn] (.ret (.int .i64 11)):=pK [0] 2 2 (.c c (.c b .nil)) (.l a .nil)
theorem ahL (l:List Nd) (nn:Bool) (d:Nat) (c:lit false (!((d:Int)==((1:Nat):Int)))=true) (b:lit false (decide (((60:Nat):Int)<(l.length:Int)))=true) (a:aO prog ap [] 35 (.block 0 (.loop (ag 0 (ai f44)))) ⟨[(0,.sl (aZ l) l.length nn),(2,.int .i64 0),(3,.int .i64 0),(5,.dead),(6,.dead),(9,.bool (decide (((60:Nat):Int)<(l.length:Int)))),(10,.sl (aZ l) l.length nn),(11,.int .i64 (l.length:Int)),(12,.int .i64 0),(13,.dead),(19,.dead),(29,.dead),(34,.dead)],[],.dead,[]⟩ (.normal) ⟨[(3,.int .i64 (d:Int))],[],.dead,[]⟩):CO 44 [.sl (aZ l) l.length nn] (.ret (.int .i64 0)):=pK [0] 2 0 (.c c (.c b .nil)) (.l a .nil)
theorem ahM (l:List Nd) (nn:Bool) (w:Int) (b:lit false (decide (((60:Nat):Int)<(l.length:Int)))=true) (a:aO prog ap [] 35 (.block 0 (.loop (ag 0 (ai f44)))) ⟨[(0,.sl (aZ l) l.length nn),(2,.int .i64 0),(3,.int .i64 0),(5,.dead),(6,.dead),(9,.bool (decide (((60:Nat):Int)<(l.length:Int)))),(10,.sl (aZ l) l.length nn),(11,.int .i64 (l.length:Int)),(12,.int .i64 0),(13,.dead),(19,.dead),(29,.dead),(34,.dead)],[],.dead,[]⟩ (.ret) ⟨[(2,.int .i64 w)],[],.dead,[]⟩):CO 44 [.sl (aZ l) l.length nn] (.ret (.int .i64 w)):=pK [0] 1 0 (.c b .nil) (.l a .nil)
theorem LV (x:Nd) (r:List Nd):aZ (x::r)=zQ x++aZ r:=rfl
theorem Ju (a b:List Nd):aZ (a++b)=aZ a++aZ b:=by unfold aZ;rw [List.flatMap_append]
theorem aN (l:List Nd):(aZ l).length=l.length*5:=by
 induction l with
 |nil=>rfl
 |cons x r ih=>rw [LV,List.length_append,ih,List.length_cons];simp [zQ];omega
theorem Jv {p r:List Nd} {x:Nd} {k:Nat} (h:k=p.length):List.drop (Int.toNat (k:Int)*5) (aZ (p++x::r))=zQ x++aZ r:=by
 subst h
 rw [aJ,Ju,LV,← aN,List.drop_left]
def iy:List Nd→Nat→Nat ⊕ Int
 | [],d=> .inl d
 |x::r,d=>if aK x=0 then (if d<fG x.op then .inr 11 else iy r (d - fG x.op+1)) else .inr (aK x)
def dE (l:List Nd):Int:=if 60<l.length then 2 else match iy l 0 with| .inl d=>if d=1 then 0 else 11| .inr w=>w
def Zd:Nat ⊕ Int→bJ
 | .inl _=> .exit 0
 | .inr _=> .ret
def SV (l:List Nd) (nn:Bool) (p:Nat × Nat):St:=⟨[(10,.sl (aZ l) l.length nn),(11,.int .i64 (l.length:Int)),(12,.int .i64 (p.1:Int)),(3,.int .i64 (p.2:Int))],[],.dead,[]⟩
def P9:Nat ⊕ Int→St
 | .inl d=> ⟨[(3,.int .i64 (d:Int))],[],.dead,[]⟩
 | .inr w=> ⟨[(2,.int .i64 w)],[],.dead,[]⟩
theorem Vh (a:Int):fG a≤3:=by unfold fG;(repeat' split)<;>omega
theorem vI {x:Nd} (h:aK x=0):1≤x.op∧x.op≤24:=by
 cases a:inI x.op with
 |true=>simpa [inI] using a
 |false=>unfold aK at h;rw [a] at h;simp at h
theorem Vu {nt:Nat} (h:35≤nt) (l p r:List Nd) (nn:Bool) (x:Nd) (d:Nat) (s:x.sm) (m:l=p++x::r) (t:l.length<2^40) (hd:d<2^41):
  (¬ aK x=0→ax prog ap [] nt (ag 0 (ai f44)) (SV l nn (p.length,d)) .ret (P9 (.inr (aK x))))∧
  (aK x=0→d<fG x.op→ax prog ap [] nt (ag 0 (ai f44)) (SV l nn (p.length,d)) .ret (P9 (.inr 11)))∧
  (aK x=0→¬ d<fG x.op→ax prog ap [] nt (ag 0 (ai f44)) (SV l nn (p.length,d)) .normal (SV l nn (p.length+1,d - fG x.op+1))):=by
 have c:List.drop (Int.toNat (p.length:Int)*5) (aZ l)=zQ x++aZ r:=by rw [m];exact Jv rfl
 have k:p.length+(r.length+1)=l.length:=by rw [m];simp
 have n:=YN x s
 have o:=Vh x.op
 unfold SV P9
 refine ⟨fun b=> ?_,fun b q=> ?_,fun b q=> ?_⟩
 ·have a:=aml h l nn p.length d (aK x) x r c
  have e:(!(aK x==((0:Nat):Int)))=true:=by simpa using b
  simp (disch:=first|omega|(simp [ay,az]<;>omega)) only [e,bQ,eu,bG,bI] at a
  apply a<;>first|exact True.intro|omega|assumption|exact rfl
 ·obtain ⟨g,j⟩:=vI b
  have i:=PE g j
  rw [b] at n
  have a:=amm h l nn p.length d 0 x r c
  have f:IntKind.wrap .i64 ((d:Int) - ((fG x.op:Nat):Int))=(d:Int) - (fG x.op:Int):=bF (by omega) (by omega)
  simp (disch:=first|omega|(simp [ay,az]<;>omega)) only [Nat.zero_add,i,bg,f,bQ,bG,d_,fB,gy,Xo,eu,bI] at a
  apply a<;>first|exact True.intro|omega|assumption|exact rfl
 ·obtain ⟨g,j⟩:=vI b
  have i:=PE g j
  rw [b] at n
  have a:=amn h l nn p.length d 0 x r c
  have f:IntKind.wrap .i64 ((d:Int) - ((fG x.op:Nat):Int))=((d - fG x.op:Nat):Int):=by rw [bF]<;>omega
  simp (disch:=first|omega|(simp [ay,az]<;>omega)) only [Nat.zero_add,i,bg,f,bI,fB,gy,gY,d_,bG,Xo,eu,bQ,dD,bz] at a
  apply a<;>first|exact True.intro|omega|assumption|exact rfl
theorem Zh {nt:Nat} (c:35≤nt) (l:List Nd) (nn:Bool) (b:l.length<2^40) (a:∀ x ∈ l,x.sm):∀ (r p:List Nd) (d:Nat),p++r=l→d≤p.length→aI prog ap [] nt (ag 0 (ai f44)) Zd (SV l nn) P9 (p.length,d) (iy r d):=by
 intro r
 induction r with
 |nil=>
  intro p d h _
  have hp:p.length=l.length:=by rw [← h];simp
  rw [hp]
  exact .done (Vt c l nn l.length d 0 (by rw [bI];simp [lit]))
 | cons x r ih=>
  intro p d h hd
  have i:p.length+(r.length+1)=l.length:=by rw [← h];simp
  obtain ⟨e,f,g⟩:=Vu c l p r nn x d (a x (by rw [← h];simp)) h.symm b (by omega)
  simp only [iy]
  by_cases h1:aK x=0
  ·rw [if_pos h1]
   by_cases h2:d<fG x.op
   ·rw [if_pos h2];exact .done (f h1 h2)
   ·rw [if_neg h2]
    have hnext:=ih (p++ [x]) (d - fG x.op+1) (by simp [h]) (by simp;omega)
    rw [List.length_append,List.length_singleton] at hnext
    exact .next (g h1 h2) hnext
  ·rw [if_neg h1];exact .done (e h1)
theorem D5 (l:List Nd) (nn:Bool) (a:∀ x ∈ l,x.sm):CO 44 [.sl (aZ l) l.length nn] (.ret (.int .i64 (dE l))):=by
 unfold dE
 by_cases h60:60<l.length
 ·rw [if_pos h60]
  exact ahJ l nn 0 (by rw [bI];exact decide_eq_true h60)
 ·rw [if_neg h60]
  have b:lit false (decide (((60:Nat):Int)<(l.length:Int)))=true:=by rw [bI];simp only [lit,Bool.not_eq_true'];exact decide_eq_false h60
  have hloop:=fun nt (hn:35≤nt)=>Zh hn l nn (by omega) a l [] 0 rfl (by simp)
  cases c:iy l 0 with
  | inl d=>
   rw [c] at hloop
   by_cases hd:d=1
   ·have h:=ahL l nn d (by rw [qp,decide_eq_true hd];rfl) b
    simp only [if_pos hd]
    exact h (aI.blk hloop (by simp [Zd]) rfl (aQ.of ⟨rfl,rfl,rfl,rfl,trivial⟩) (aQ.of ⟨rfl,trivial⟩))
   ·have h:=ahK l nn d (by rw [qp,decide_eq_false hd];rfl) b
    simp only [if_neg hd]
    exact h (aI.blk hloop (by simp [Zd]) rfl (aQ.of ⟨rfl,rfl,rfl,rfl,trivial⟩) (aQ.of ⟨rfl,trivial⟩))
  |inr w=>
   rw [c] at hloop
   exact ahM l nn w b (aI.blk hloop (by simp [Zd]) rfl (aQ.of ⟨rfl,rfl,rfl,rfl,trivial⟩) (aQ.of ⟨rfl,trivial⟩))
theorem ahx {nt:Nat} (e:45≤nt) (l:List Nd) (nn:Bool) (k:Nat) (C:List AV) (st own:List Nat) (x:Nd) (r:List Nd) (a:(List.drop ((Int.toNat (k:Int))*5) (aZ l))=zQ x++aZ r) (d:(decide ((IntKind.wrap .i64 (((0:Nat):Int) - (AV.toInt (List.headD (List.drop ((0+((Int.toNat x.op)*5))+1) jD) .dead))))=0))=true) (j:(Nat.ble (((0+(Int.toNat (k:Int)))*1)+1) (List.length C))=true) (b:(decide (((0:Nat):Int)≤(k:Int)))=true) (c:(decide ((k:Int)<(l.length:Int)))=true) (i:(chk (.int .i64) (List.headD (List.drop ((0+((Int.toNat x.op)*5))+1) jD) .dead))=true) (g:(decide (((0:Nat):Int)≤x.op))=true) (f:(decide (x.op<((25:Nat):Int)))=true) (m:lit true (decide ((k:Int)<(l.length:Int)))=true) (n:CO 59 [.nilS] (.ret (.sl (ak own) own.length false))):ax prog ap [] nt (ag 0 (ai f24)) ⟨[(15,.sl (aZ l) l.length nn),(16,.int .i64 (l.length:Int)),(17,.int .i64 (k:Int)),(4,.ref 0 0 0 l.length),(5,.nilS)],[(0,⟨C,0,false,0,1,true⟩)],.dead,[]⟩ (.normal) ⟨[(15,.sl (aZ l) l.length nn),(16,.int .i64 (l.length:Int)),(17,.int .i64 (IntKind.wrap .i64 ((k:Int)+((1:Nat):Int)))),(4,.ref 0 0 0 l.length),(5,.ref 1 0 0 1)],[(0,⟨(List.take ((0+(Int.toNat (k:Int)))*1) C++ [.sl (ak own) own.length false]++List.drop (((0+(Int.toNat (k:Int)))*1)+1) C),0,false,0,1,true⟩),(1,⟨[.int .i64 (k:Int)],0,false,0,1,true⟩)],.dead,[]⟩:=
 have h:ax prog ap [] nt (ag 0 (ai f24)) ⟨[(15,.sl (aZ l) l.length nn),(16,.int .i64 (l.length:Int)),(17,.int .i64 (k:Int)),(4,.ref 0 0 0 l.length),(5,.nilS)],[(0,⟨C,0,false,0,1,true⟩)],.dead,[]⟩ (.normal) ⟨[(15,.sl (aZ l) l.length nn),(16,.int .i64 (l.length:Int)),(17,.int .i64 (IntKind.wrap .i64 ((k:Int)+((1:Nat):Int)))),(4,.ref 0 0 0 l.length),(5,.ref 1 0 0 1)],[(0,⟨(List.take ((0+(Int.toNat (k:Int)))*1) C++ [.sl (ak own) own.length false]++List.drop (((0+(Int.toNat (k:Int)))*1)+1) C),0,false,0,1,true⟩),(1,⟨[.int .i64 (k:Int)],0,false,0,1,true⟩),(2,⟨[.int .i64 x.op,.bool x.neg,.str x.num,.str x.den,.str x.name],0,false,0,0,true⟩)],.dead,[]⟩:=pJ 24 [] 2 1 (.k 4 d (.c j (.c b (.c c (.c d (.k 1 i (.c g (.c f (.k 7 b (.c c (.c m .nil))))))))))) (.c n (.v 20 (.ppt a) .nil)) e
 h.forgetD 2 ⟨[.int .i64 x.op,.bool x.neg,.str x.num,.str x.den,.str x.name],0,false,0,0,true⟩ (by intro v h;cases h) (by decide) rfl ⟨Fz.same rfl,Fz.same rfl,Fz.same rfl,Fz.same rfl,Fz.same rfl,trivial⟩ ⟨rfl,NE.same rfl,by decide,rfl,NE.same rfl,by decide,rfl⟩ rfl
theorem SG {nt:Nat} (a:45≤nt) (l:List Nd) (nn:Bool) (k:Nat) (C:List AV) (st own:List Nat) (b:lit false (decide ((k:Int)<(l.length:Int)))=true):ax prog ap [] nt (ag 0 (ai f24)) ⟨[(15,.sl (aZ l) l.length nn),(16,.int .i64 (l.length:Int)),(17,.int .i64 (k:Int)),(4,.ref 0 0 0 l.length),(5,.nilS)],[(0,⟨C,0,false,0,1,true⟩)],.dead,[]⟩ (.exit 0) ⟨[(4,.ref 0 0 0 l.length)],[(0,⟨C,0,false,0,1,true⟩)],.dead,[]⟩:=pJ 24 [] 1 0 (.c b .nil) (.nil) a
theorem ahu {nt:Nat} (i:45≤nt) (l:List Nd) (nn:Bool) (k:Nat) (C:List AV) (st own:List Nat) (x:Nd) (r:List Nd) (c:(List.drop ((Int.toNat (k:Int))*5) (aZ l))=zQ x++aZ r) (s:(Nat.ble (((Int.toNat (IntKind.wrap .i64 ((st.length:Int) - (AV.toInt (List.headD (List.drop ((0+((Int.toNat x.op)*5))+1) jD) .dead))))) - 0)+1) 1099511627776)=true) (n:(Nat.ble (((Int.toNat (IntKind.wrap .i64 ((st.length:Int) - (AV.toInt (List.headD (List.drop ((0+((Int.toNat x.op)*5))+1) jD) .dead))))) - 0)*1) (List.length (ak st)))=true) (f:(decide (((0:Nat):Int)≤(IntKind.wrap .i64 ((st.length:Int) - (AV.toInt (List.headD (List.drop ((0+((Int.toNat x.op)*5))+1) jD) .dead))))))=true) (g:(decide ((IntKind.wrap .i64 ((st.length:Int) - (AV.toInt (List.headD (List.drop ((0+((Int.toNat x.op)*5))+1) jD) .dead))))≤(st.length:Int)))=true) (m:(Nat.ble (((0+(Int.toNat (k:Int)))*1)+1) (List.length C))=true) (e:(decide (((0:Nat):Int)≤(k:Int)))=true) (d:(decide ((k:Int)<(l.length:Int)))=true) (o:(decide ((st.length:Int)≤(st.length:Int)))=true) (q:(chk (.int .i64) (List.headD (List.drop ((0+((Int.toNat x.op)*5))+1) jD) .dead))=true) (j:(decide (((0:Nat):Int)≤x.op))=true) (b:(decide (x.op<((25:Nat):Int)))=true) (a:lit true (decide ((k:Int)<(l.length:Int)))=true) (p:aC prog ap 59 [.ref 0 0 (0+(Int.toNat (IntKind.wrap .i64 ((st.length:Int) - (AV.toInt (List.headD (List.drop ((0+((Int.toNat x.op)*5))+1) jD) .dead)))))) ((Int.toNat (st.length:Int)) - (Int.toNat (IntKind.wrap .i64 ((st.length:Int) - (AV.toInt (List.headD (List.drop ((0+((Int.toNat x.op)*5))+1) jD) .dead))))))] [⟨(ak st),0,false,0,1,true⟩] (.ret (.sl (ak own) own.length false)) [⟨(ak st),0,false,0,1,true⟩]):ax prog ap [] nt (ag 0 (ai f24)) ⟨[(15,.sl (aZ l) l.length nn),(16,.int .i64 (l.length:Int)),(17,.int .i64 (k:Int)),(4,.ref 0 0 0 l.length),(5,.ref 1 0 0 st.length)],[(0,⟨C,0,false,0,1,true⟩),(1,⟨(ak st),0,false,0,1,true⟩)],.dead,[]⟩ (.normal) ⟨[(15,.sl (aZ l) l.length nn),(16,.int .i64 (l.length:Int)),(17,.int .i64 (IntKind.wrap .i64 ((k:Int)+((1:Nat):Int)))),(4,.ref 0 0 0 l.length),(5,.ref 1 0 0 (((Int.toNat (IntKind.wrap .i64 ((st.length:Int) - (AV.toInt (List.headD (List.drop ((0+((Int.toNat x.op)*5))+1) jD) .dead))))) - 0)+1))],[(0,⟨(List.take ((0+(Int.toNat (k:Int)))*1) C++ [.sl (ak own) own.length false]++List.drop (((0+(Int.toNat (k:Int)))*1)+1) C),0,false,0,1,true⟩),(1,⟨((List.take (((Int.toNat (IntKind.wrap .i64 ((st.length:Int) - (AV.toInt (List.headD (List.drop ((0+((Int.toNat x.op)*5))+1) jD) .dead))))) - 0)*1) (ak st))++ [.int .i64 (k:Int)]),0,false,0,1,true⟩)],.dead,[]⟩:=
 have h:ax prog ap [] nt (ag 0 (ai f24)) ⟨[(15,.sl (aZ l) l.length nn),(16,.int .i64 (l.length:Int)),(17,.int .i64 (k:Int)),(4,.ref 0 0 0 l.length),(5,.ref 1 0 0 st.length)],[(0,⟨C,0,false,0,1,true⟩),(1,⟨(ak st),0,false,0,1,true⟩)],.dead,[]⟩ (.normal) ⟨[(15,.sl (aZ l) l.length nn),(16,.int .i64 (l.length:Int)),(17,.int .i64 (IntKind.wrap .i64 ((k:Int)+((1:Nat):Int)))),(4,.ref 0 0 0 l.length),(5,.ref 1 0 0 (((Int.toNat (IntKind.wrap .i64 ((st.length:Int) - (AV.toInt (List.headD (List.drop ((0+((Int.toNat x.op)*5))+1) jD) .dead))))) - 0)+1))],[(0,⟨(List.take ((0+(Int.toNat (k:Int)))*1) C++ [.sl (ak own) own.length false]++List.drop (((0+(Int.toNat (k:Int)))*1)+1) C),0,false,0,1,true⟩),(1,⟨((List.take (((Int.toNat (IntKind.wrap .i64 ((st.length:Int) - (AV.toInt (List.headD (List.drop ((0+((Int.toNat x.op)*5))+1) jD) .dead))))) - 0)*1) (ak st))++ [.int .i64 (k:Int)]),0,false,0,1,true⟩),(2,⟨[.int .i64 x.op,.bool x.neg,.str x.num,.str x.den,.str x.name],0,false,0,0,true⟩)],.dead,[]⟩:=pJ 24 [] 1 1 (.k 1 s (.c n (.k 2 f (.c g (.c m (.c e (.c d (.c f (.c g (.c o (.c q (.c j (.c b (.k 7 e (.c d (.c a .nil)))))))))))))))) (.c p (.v 20 (.ppt c) .nil)) i
 h.forgetD 2 ⟨[.int .i64 x.op,.bool x.neg,.str x.num,.str x.den,.str x.name],0,false,0,0,true⟩ (by intro v h;cases h) (by decide) rfl ⟨Fz.same rfl,Fz.same rfl,Fz.same rfl,Fz.same rfl,Fz.same rfl,trivial⟩ ⟨rfl,NE.same rfl,by decide,rfl,NE.same rfl,by decide,rfl⟩ rfl
theorem SE {nt:Nat} (a:45≤nt) (l:List Nd) (nn:Bool) (k:Nat) (C:List AV) (st own:List Nat) (b:lit false (decide ((k:Int)<(l.length:Int)))=true):ax prog ap [] nt (ag 0 (ai f24)) ⟨[(15,.sl (aZ l) l.length nn),(16,.int .i64 (l.length:Int)),(17,.int .i64 (k:Int)),(4,.ref 0 0 0 l.length),(5,.ref 1 0 0 st.length)],[(0,⟨C,0,false,0,1,true⟩),(1,⟨(ak st),0,false,0,1,true⟩)],.dead,[]⟩ (.exit 0) ⟨[(4,.ref 0 0 0 l.length)],[(0,⟨C,0,false,0,1,true⟩),(1,⟨(ak st),0,false,0,1,true⟩)],.dead,[]⟩:=pJ 24 [] 1 0 (.c b .nil) (.nil) a
theorem ahv (l:List Nd) (nn:Bool) (w:Int) (C:List AV) (b:lit true (!(w==((0:Nat):Int)))=true) (a:CO 44 [.sl (aZ l) l.length nn] (.ret (.int .i64 w))):CO 24 [.sl (aZ l) l.length nn] (.ret (.tup [.nilS,.bool false])):=pK [0] 1 1 (.c b .nil) (.c a .nil)
theorem ahw (l:List Nd) (nn:Bool) (w:Int) (C:List AV) (f:(decide (((0:Nat):Int)≤(l.length:Int)))=true) (e:(decide ((l.length:Int)=(l.length:Int)))=true) (a:(decide ((l.length:Int)≤((1099511627776:Nat):Int)))=true) (b:lit false (!(w==((0:Nat):Int)))=true) (c:CO 44 [.sl (aZ l) l.length nn] (.ret (.int .i64 w))) (d:aO prog ap [] 45 (.block 0 (.loop (ag 0 (ai f24)))) ⟨[(0,.sl (aZ l) l.length nn),(2,.nilS),(3,.bool false),(4,.ref 0 0 0 (Int.toNat (l.length:Int))),(5,.nilS),(6,.dead),(7,.dead),(8,.dead),(11,.bool (!(w==((0:Nat):Int)))),(15,.sl (aZ l) l.length nn),(16,.int .i64 (l.length:Int)),(17,.int .i64 0),(18,.dead)],[(0,⟨(gu (Int.toNat (l.length:Int)) [.nilS]),0,false,0,1,true⟩)],.dead,[]⟩ (.normal) ⟨[(4,.ref 0 0 0 l.length)],[(0,⟨C,0,false,0,1,true⟩)],.dead,[]⟩):CO 24 [.sl (aZ l) l.length nn] (.ret (.tup [.own (List.take (l.length*1) C) l.length 1,.bool true])):=pK [0] 1 0 (.c f (.c e (.c a (.c b .nil)))) (.l d (.c c .nil))
theorem ahO:CO 59 [.nilS] (.ret (.nilS)):=pK [] 1 1 (.n 1 .nil) (.nil)
theorem ahN (st:List Nat) (i n:Nat) (b:(Nat.beq (List.length (List.take (n*1) (List.drop (i*1) (ak st)))) (n*1))=true) (a:(Nat.ble (0+n) 1099511627776)=true):aC prog ap 59 [.ref 0 0 i n] [⟨(ak st),0,false,0,1,true⟩] (.ret (.own (List.take ((0+n)*1) ([]++(List.take (n*1) (List.drop (i*1) (ak st))))) (0+n) 1)) [⟨(ak st),0,false,0,1,true⟩]:=pK [] 1 0 (.c b (.c a (.n 3 .nil))) (.nil)
def uh:List Nd→Nat→List Nat→List (List Nat)
 | [],_,_=> []
 |x::r,k,st=>st.drop (st.length - fG x.op)::uh r (k+1) (st.take (st.length - fG x.op)++ [k])
def eX (l:List Nd):List (List Nat):=uh l 0 []
def SH (a:List Nat):AV:= .sl (ak a) a.length false
def dC (ll:List (List Nat)):List AV:=ll.map SH
def stR:List Nd→Nat→List Nat→List Nat
 | [],_,st=>st
 |x::r,k,st=>stR r (k+1) (st.take (st.length - fG x.op)++ [k])
theorem Kt (r:List Nd):∀ k st,(uh r k st).length=r.length:=by
 induction r with
 |nil=>intros;rfl
 |cons x r ih=>intro k st;simp only [uh,List.length_cons,ih]
def agE (st:List Nat):AV:=match st with| []=> .nilS|x::l=> .ref 1 0 0 (x::l).length
def agH (st:List Nat):Hp:=match st with| []=> []|x::l=> [(1,⟨ak (x::l),0,false,0,1,true⟩)]
theorem NJ {l:List Nat} (h:l ≠ []):agE l= .ref 1 0 0 l.length:=by cases l with|nil=>exact absurd rfl h|cons _ _=>rfl
theorem IK {l:List Nat} (h:l ≠ []):agH l= [(1,⟨ak l,0,false,0,1,true⟩)]:=by cases l with|nil=>exact absurd rfl h|cons _ _=>rfl
def IL (l:List Nd) (nn:Bool) (p:Nat × List Nat × List AV):St:=⟨[(15,.sl (aZ l) l.length nn),(16,.int .i64 (l.length:Int)),(17,.int .i64 (p.1:Int)),(4,.ref 0 0 0 l.length),(5,agE p.2.1)],(0,⟨p.2.2,0,false,0,1,true⟩)::agH p.2.1,.dead,[]⟩
def G_ (l:List Nd) (p:List Nat × List AV):St:=⟨[(4,.ref 0 0 0 l.length)],(0,⟨p.2,0,false,0,1,true⟩)::agH p.1,.dead,[]⟩
theorem S9:aC prog ap 59 [.nilS] [] (.ret (.sl (ak []) ([]:List Nat).length false)) []:=ahO.out (jq.ret rfl rfl (aW.nilS false rfl))
theorem Vy (st:List Nat) (i n:Nat) (h:i+n=st.length) (f:st.length<2^40):aC prog ap 59 [.ref 0 0 i n] [⟨ak st,0,false,0,1,true⟩] (.ret (.sl (ak (st.drop i)) n false)) [⟨ak st,0,false,0,1,true⟩]:=by
 have d:=ahN st i n
 have e:n≤st.length:=by omega
 have c:List.take n (List.drop i (ak st))=ak (st.drop i):=by
  rw [KP,dK,List.take_of_length_le (by simp;omega)]
 have a:(ak (st.drop i)).length=n:=by rw [bZ,List.length_drop];omega
 simp (disch:=first|omega|(simp [ay,az]<;>omega)) only [Nat.mul_one,c,a,Jt,decide_true,Nat.zero_add,fZ,bG,List.nil_append] at d
 have b:=(d True.intro (by omega)).thaw (by simp)
 simp only [zD,thaw,Nat.mul_one] at b
 rw [List.take_of_length_le (by rw [List.length_take,a];omega),List.take_of_length_le (by omega)] at b
 exact b.out (jq.sl1 _ _ _)
theorem Y1 {nt:Nat} (h:45≤nt) (l p r:List Nd) (nn:Bool) (x:Nd) (st:List Nat) (C C2:List AV) (k:l=p++x::r) (w:l.length<2^39) (e:1≤x.op∧x.op≤24) (d:fG x.op≤st.length) (q:st.length≤p.length) (j:C.length=l.length)
  (hset:List.take p.length C++ [SH (st.drop (st.length - fG x.op))]++List.drop (p.length+1) C=C2):
  ax prog ap [] nt (ag 0 (ai f24)) (IL l nn (p.length,st,C)) .normal (IL l nn (p.length+1,st.take (st.length - fG x.op)++ [p.length],C2)):=by
 have b:List.drop (Int.toNat (p.length:Int)*5) (aZ l)=zQ x++aZ r:=by rw [k];exact Jv rfl
 have g:p.length+(r.length+1)=l.length:=by rw [k];simp
 obtain ⟨t,u⟩:=e
 have i:=PE t u
 unfold IL
 simp only
 rw [NJ (iT _ _),IK (iT _ _)]
 rcases Decidable.em (st= []) with rfl|hne
 ·have y:fG x.op=0:=by simpa using d
  have a:=ahx h l nn p.length C [] [] x r b
  simp only [List.length_nil,Nat.zero_sub,List.drop_nil,List.take_nil,List.nil_append] at hset ⊢
  unfold SH at hset
  have f:=S9
  simp (disch:=first|omega|(simp [ay,az]<;>omega)) only [Nat.zero_add,i,y,bg,jJ,Nat.sub_zero,bG,aJ,Nat.mul_one,j,fZ,eu,bI,d_,bQ,List.length_nil,dD,bz] at a
  simp only [agE,agH,ak,List.map_cons,List.map_nil,List.length_cons,List.length_nil,Nat.zero_add] at a hset f ⊢
  rw [hset] at a
  apply a<;>first|exact True.intro|omega|assumption|exact rfl|skip
 ·have s:=Vy st (st.length - fG x.op) (fG x.op) (by omega) (by omega)
  have a:=ahu h l nn p.length C st (st.drop (st.length - fG x.op)) x r b
  rw [NJ hne,IK hne]
  unfold SH at hset
  generalize z:st.length - fG x.op=m at*
  have c:(st.drop m).length=fG x.op:=by rw [List.length_drop];omega
  have n:IntKind.wrap .i64 ((st.length:Int) - ((fG x.op:Nat):Int))=(m:Int):=by rw [bF]<;>omega
  have v:st.length - m=fG x.op:=by omega
  rw [c] at a hset
  have o:(st.take m).length=m:=by rw [List.length_take];omega
  simp (disch:=first|omega|(simp [ay,az]<;>omega)) only [Nat.zero_add,i,bg,n,aJ,Nat.sub_zero,fZ,bG,Nat.mul_one,bZ,eu,j,bI,d_,bQ,v,dD,bz,hset,dK,kJ] at a
  simp only [List.length_append,List.length_singleton,o]
  apply a<;>first|exact True.intro|omega|assumption|exact rfl|skip
theorem Ze {r:List Nd} {d e:Nat} {x:Nd} (h:iy (x::r) d= .inl e):(1≤x.op∧x.op≤24)∧fG x.op≤d∧iy r (d - fG x.op+1)= .inl e:=by
 simp only [iy] at h
 by_cases h1:aK x=0
 ·rw [if_pos h1] at h
  by_cases h2:d<fG x.op
  ·rw [if_pos h2] at h;cases h
  ·rw [if_neg h2] at h
   exact ⟨vI h1,by omega,h⟩
 ·rw [if_neg h1] at h;cases h
theorem vN (a:List (List Nat)):(dC a).length=a.length:=by simp [dC]
theorem SI (done:List (List Nat)) (a:List Nat) (m:Nat):List.take done.length (dC done++List.replicate (m+1) AV.nilS)++ [SH a]++List.drop (done.length+1) (dC done++List.replicate (m+1) AV.nilS)=dC (done++ [a])++List.replicate m AV.nilS:=by
 have b:=vN done
 rw [List.take_append_of_le_length (by omega),List.take_of_length_le (by omega),List.drop_append,List.drop_of_length_le (by omega),List.nil_append,show done.length+1 - (dC done).length=1 by omega,List.replicate_succ,List.drop_succ_cons,List.drop_zero]
 unfold dC
 rw [List.map_append]
 rfl
theorem Y0 {nt:Nat} (g:45≤nt) (l:List Nd) (nn:Bool) (j:l.length<2^39) (e:Nat):∀ (r p:List Nd) (st:List Nat) (done:List (List Nat)),p++r=l→iy r st.length= .inl e→st.length≤p.length→done.length=p.length→aI prog ap [] nt (ag 0 (ai f24)) (fun _=> .exit 0) (IL l nn) (G_ l) (p.length,st,dC done++List.replicate r.length .nilS) (stR r p.length st,dC (done++uh r p.length st)):=by
 intro r
 induction r with
 | nil=>
  intro p st done h k c hd
  have hp:p.length=l.length:=by rw [← h];simp
  rw [hp]
  simp only [uh,stR,List.append_nil,List.length_nil,List.replicate_zero]
  refine .done ?_
  unfold IL G_
  have m:ax prog ap [] nt (ag 0 (ai f24)) (IL l nn (l.length,st,dC done)) (.exit 0) (G_ l (st,dC done)):=by
   unfold IL G_
   rcases Decidable.em (st= []) with rfl|hne
   ·exact SG g l nn l.length (dC done) [] [] (by rw [bI];simp [lit])
   ·simp only
    rw [NJ hne,IK hne]
    exact SE g l nn l.length (dC done) st [] (by rw [bI];simp [lit])
  exact m
 | cons x r ih=>
  intro p st done h k c hd
  obtain ⟨f,d,i⟩:=Ze k
  have n:p.length+(r.length+1)=l.length:=by rw [← h];simp
  have b:(st.take (st.length - fG x.op)++ [p.length]).length=st.length - fG x.op+1:=by
   rw [List.length_append,List.length_take,List.length_singleton,Nat.min_eq_left (by omega)]
  have hnext:=ih (p++ [x]) (st.take (st.length - fG x.op)++ [p.length]) (done++ [st.drop (st.length - fG x.op)]) (by simp [h]) (by rw [b];exact i) (by rw [b];simp;omega) (by simp [hd])
  rw [List.length_append,List.length_singleton,List.append_assoc] at hnext
  simp only [uh,stR,List.length_cons]
  have a:=SI done (st.drop (st.length - fG x.op)) r.length
  rw [hd] at a
  have hstep:=Y1 g l p r nn x st (dC done++List.replicate (r.length+1) .nilS) _ h.symm j f d c (by rw [List.length_append,vN,List.length_replicate];omega) a
  exact .next hstep hnext
theorem XR (n:Nat):gu n [AV.nilS]=List.replicate n AV.nilS:=by
 unfold gu
 induction n with
 |zero=>rfl
 |succ n ih=>rw [List.replicate_succ,List.flatten_cons,ih,List.replicate_succ];rfl
theorem NU {l:List Nd} (h:dE l=0):l.length≤60∧iy l 0= .inl 1:=by
 unfold dE at h
 by_cases h60:60<l.length
 ·rw [if_pos h60] at h;cases h
 ·rw [if_neg h60] at h
  refine ⟨by omega, ?_⟩
  have a:∀ (r:List Nd) (d:Nat) (w:Int),iy r d= .inr w→w ≠ 0:=by
   intro r
   induction r with
   |nil=>intro d w h;cases h
   | cons x r ih=>
    intro d w h
    simp only [iy] at h
    by_cases h1:aK x=0
    ·rw [if_pos h1] at h
     by_cases h2:d<fG x.op
     ·rw [if_pos h2] at h;cases h;decide
     ·rw [if_neg h2] at h;exact ih _ _ h
    ·rw [if_neg h1] at h;cases h;exact h1
  cases b:iy l 0 with
  |inl d=>
   rw [b] at h
   by_cases hd:d=1
   ·rw [hd]
   ·simp only [if_neg hd] at h;cases h
  |inr w=>rw [b] at h;exact absurd h (a l 0 w b)
theorem Y6 (l:List Nd) (nn:Bool) (e:∀ x ∈ l,x.sm) (k:dE l=0):CO 24 [.sl (aZ l) l.length nn] (.ret (.tup [.sl (dC (eX l)) l.length true,.bool true])):=by
 have b:List.take l.length (dC (eX l))=dC (eX l):=List.take_of_length_le (by rw [vN];unfold eX;rw [Kt];omega)
 suffices hown:CO 24 [.sl (aZ l) l.length nn] (.ret (.tup [.own (dC (eX l)) l.length 1,.bool true])) by
  have h:=hown.thaw (by simp)
  simp only [zD,List.map_cons,List.map_nil,thaw,Nat.mul_one,b] at h
  exact h
 have i:=D5 l nn e
 obtain ⟨n,f⟩:=NU k
 rw [k] at i
 have hloop:=fun nt (hn:45≤nt)=>Y0 hn l nn (by omega) 1 l [] [] [] rfl f (by simp) rfl
 have d:(eX l).length=l.length:=Kt l 0 []
 have h:=ahw l nn 0 (dC (eX l))
 simp (disch:=first|omega|(simp [ay,az]<;>omega)) only [eu,bG,decide_true,fB,gy,Xo,aJ,XR,Nat.mul_one,b] at h
 have j:(dC (eX l)).length=l.length:=by rw [vN,d]
 have o:l.length<1099511627776:=by omega
 apply h<;>first|exact True.intro|omega|assumption|exact rfl|skip
 intro nt c
 have g:=aI.blk (s:=IL l nn (0,[],List.replicate l.length AV.nilS)) (s':=G_ l (stR l 0 [],dC (eX l))) (id:=0) hloop (by simp) rfl (aQ.refl _) (aQ.refl _) nt c
 unfold IL G_ at g
 simp only [agE,agH] at g
 have a:=g.weak (s':=⟨[(0,.sl (aZ l) l.length nn),(2,.nilS),(3,.bool false),(4,.ref 0 0 0 l.length),(5,.nilS),(6,.dead),(7,.dead),(8,.dead),(11,.bool false),(15,.sl (aZ l) l.length nn),(16,.int .i64 (l.length:Int)),(17,.int .i64 0),(18,.dead)],[(0,⟨List.replicate l.length AV.nilS,0,false,0,1,true⟩)],.dead,[]⟩) (aQ.of ⟨rfl,rfl,rfl,rfl,rfl,trivial⟩) (aQ.refl _)
 rcases Decidable.em (stR l 0 []= []) with he|he
 ·rw [he] at a;exact a
 ·have m:=IK he
  unfold agH at m
  rw [m] at a
  exact a.forget 1 _ (by intro v h;cases h) (by decide) rfl ⟨Fz.same rfl,trivial⟩ ⟨rfl,NE.same rfl,by decide,rfl⟩
theorem nS (k:Nat):decide (((0:Nat):Int)≤(k:Int))=true:=decide_eq_true (by omega)
theorem kX {k n:Nat} (h:k<n):decide ((k:Int)<(n:Int))=true:=decide_eq_true (by omega)
theorem Ce {k n:Nat} (h:n≤k):decide ((k:Int)<(n:Int))=false:=decide_eq_false (by omega)
def ixE:Option Nat→bJ
 |none=> .exit 0
 |some _=> .ret
def ixI:Option Nat→Int
 |none=> -1
 |some i=>(i:Int)
theorem kC {p q:Prop} (h:p) (e:p=q):q:=e ▸ h
end Go.Proofs.Tryz
set_option maxRecDepth 100000
set_option linter.unusedVariables false
open Go AM
namespace Go.Proofs.Tryz
theorem am1 {nt:Nat} (w:92≤nt) (u v o:List Nat) (i j c a x y:Nat) (m:AV.int .i64 (AV.toInt (List.headD (List.drop ((0+(Int.toNat (((i+j):Nat):Int)))*1) (ak o)) .dead))= .int .i64 (x:Int)) (k:AV.int .i64 (AV.toInt (List.headD (List.drop ((Int.toNat (i:Int))*1) (ak u)) .dead))= .int .i64 (a:Int)) (p:AV.int .i64 (AV.toInt (List.headD (List.drop ((Int.toNat (j:Int))*1) (ak v)) .dead))= .int .i64 (y:Int)) (h:AV.int .i64 (IntKind.wrap .i64 ((a:Int)*(y:Int)))= .int .i64 (((a*y):Nat):Int)) (f:AV.int .i64 (IntKind.wrap .i64 ((x:Int)+(((a*y):Nat):Int)))= .int .i64 (((x+a*y):Nat):Int)) (n:AV.int .i64 (IntKind.wrap .i64 ((((x+a*y):Nat):Int)+(c:Int)))= .int .i64 (((x+a*y+c):Nat):Int)) (d:AV.int .i64 (IntKind.wrap .i64 ((i:Int)+(j:Int)))= .int .i64 (((i+j):Nat):Int)) (l:AV.int .i64 (Int.tmod (((x+a*y+c):Nat):Int) ((16777216:Nat):Int))= .int .i64 ((((x+a*y+c) % 16777216):Nat):Int)) (g:AV.int .i64 (IntKind.wrap .i64 (Int.tdiv (((x+a*y+c):Nat):Int) ((16777216:Nat):Int)))= .int .i64 ((((x+a*y+c) / 16777216):Nat):Int)) (e:AV.int .i64 (IntKind.wrap .i64 ((j:Int)+((1:Nat):Int)))= .int .i64 (((j+1):Nat):Int)) (D:(Nat.ble (((0+(Int.toNat (((i+j):Nat):Int)))*1)+1) (List.length (ak o)))=true) (q:(decide (((0:Nat):Int)≤(((i+j):Nat):Int)))=true) (r:(decide ((((i+j):Nat):Int)<(o.length:Int)))=true) (z:(chk (.int .i64) (List.headD (List.drop ((Int.toNat (j:Int))*1) (ak v)) .dead))=true) (A:(decide (((0:Nat):Int)≤(j:Int)))=true) (C:(chk (.int .i64) (List.headD (List.drop ((Int.toNat (i:Int))*1) (ak u)) .dead))=true) (B:(decide (((0:Nat):Int)≤(i:Int)))=true) (s:(decide ((i:Int)<(u.length:Int)))=true) (t:(chk (.int .i64) (List.headD (List.drop ((0+(Int.toNat (((i+j):Nat):Int)))*1) (ak o)) .dead))=true) (b:(decide ((j:Int)<(v.length:Int)))=true):ax prog ap [] nt (ag 2 (ai f100)) ⟨[(9,.sl (ak u) u.length false),(10,.sl (ak v) v.length false),(11,.ref 0 0 0 o.length),(12,.int .i64 (i:Int)),(13,.int .i64 (c:Int)),(14,.int .i64 (j:Int))],[(0,⟨(ak o),0,false,0,1,true⟩)],.dead,[]⟩ (.normal) ⟨[(9,.sl (ak u) u.length false),(10,.sl (ak v) v.length false),(11,.ref 0 0 0 o.length),(12,.int .i64 (i:Int)),(13,.int .i64 ((((x+a*y+c) / 16777216):Nat):Int)),(14,.int .i64 (((j+1):Nat):Int))],[(0,⟨(List.take ((0+(Int.toNat (((i+j):Nat):Int)))*1) (ak o)++ [.int .i64 ((((x+a*y+c) % 16777216):Nat):Int)]++List.drop (((0+(Int.toNat (((i+j):Nat):Int)))*1)+1) (ak o)),0,false,0,1,true⟩)],.dead,[]⟩:=pN 100 [] 1 1 (.k 1 D (.c q (.c r (.k 1 z (.c A (.c b (.c C (.c B (.c s (.c t (.c q (.c r (.c (aG b) .nil))))))))))))) (.v 55 (.eq e) (.v 82 (.eq g) (.v 79 (.eq l) (.v 77 (.eq d) (.v 73 (.eq n) (.v 71 (.eq f) (.v 70 (.eq h) (.v 69 (.eq p) (.v 65 (.eq k) (.v 61 (.eq m) (.v 59 (.eq d) .nil))))))))))) w
theorem am2 {nt:Nat} (b:92≤nt) (u v o:List Nat) (i j c a x y:Nat) (d:(decide ((j:Int)<(v.length:Int)))=false):ax prog ap [] nt (ag 2 (ai f100)) ⟨[(9,.sl (ak u) u.length false),(10,.sl (ak v) v.length false),(11,.ref 0 0 0 o.length),(12,.int .i64 (i:Int)),(13,.int .i64 (c:Int)),(14,.int .i64 (j:Int))],[(0,⟨(ak o),0,false,0,1,true⟩)],.dead,[]⟩ (.exit 2) ⟨[(9,.sl (ak u) u.length false),(10,.sl (ak v) v.length false),(11,.ref 0 0 0 o.length),(12,.int .i64 (i:Int)),(13,.int .i64 (c:Int))],[(0,⟨(ak o),0,false,0,1,true⟩)],.dead,[]⟩:=pN 100 [] 1 0 (.c (aF d) .nil) (.nil) b
theorem am3 {nt:Nat} (g:92≤nt) (u v o a:List Nat) (i d:Nat) (b:AV.int .i64 (IntKind.wrap .i64 ((i:Int)+(v.length:Int)))= .int .i64 (((i+v.length):Nat):Int)) (c:AV.int .i64 (IntKind.wrap .i64 ((i:Int)+((1:Nat):Int)))= .int .i64 (((i+1):Nat):Int)) (k:(Nat.ble (((0+(Int.toNat (((i+v.length):Nat):Int)))*1)+1) (List.length (ak a)))=true) (h:(decide (((0:Nat):Int)≤(((i+v.length):Nat):Int)))=true) (f:(decide ((((i+v.length):Nat):Int)<(a.length:Int)))=true) (j:(decide ((i:Int)<(u.length:Int)))=true) (e:aO prog ap [] 92 (.block 2 (.loop (ag 2 (ai f100)))) ⟨[(0,.dead),(1,.dead),(4,.dead),(5,.dead),(6,.dead),(7,.dead),(8,.dead),(9,.sl (ak u) u.length false),(10,.sl (ak v) v.length false),(11,.ref 0 0 0 o.length),(12,.int .i64 (i:Int)),(13,.int .i64 0),(14,.int .i64 0),(15,.dead),(29,.dead),(47,.bool (decide ((i:Int)<(u.length:Int)))),(53,.dead)],[(0,⟨(ak o),0,false,0,1,true⟩)],.dead,[]⟩ (.normal) ⟨[(9,.sl (ak u) u.length false),(10,.sl (ak v) v.length false),(11,.ref 0 0 0 a.length),(12,.int .i64 (i:Int)),(13,.int .i64 (d:Int))],[(0,⟨(ak a),0,false,0,1,true⟩)],.dead,[]⟩):ax prog ap [] nt (ag 0 (ai f100)) ⟨[(9,.sl (ak u) u.length false),(10,.sl (ak v) v.length false),(11,.ref 0 0 0 o.length),(12,.int .i64 (i:Int))],[(0,⟨(ak o),0,false,0,1,true⟩)],.dead,[]⟩ (.normal) ⟨[(9,.sl (ak u) u.length false),(10,.sl (ak v) v.length false),(11,.ref 0 0 0 a.length),(12,.int .i64 (((i+1):Nat):Int))],[(0,⟨(List.take ((0+(Int.toNat (((i+v.length):Nat):Int)))*1) (ak a)++ [.int .i64 (d:Int)]++List.drop (((0+(Int.toNat (((i+v.length):Nat):Int)))*1)+1) (ak a)),0,false,0,1,true⟩)],.dead,[]⟩:=pN 100 [2] 1 1 (.c k (.c h (.c f (.c (aG j) .nil)))) (.v 49 (.eq c) (.v 87 (.eq b) (.l e .nil))) g
theorem am4 {nt:Nat} (a:92≤nt) (u v o c:List Nat) (i d:Nat) (b:(decide ((i:Int)<(u.length:Int)))=false):ax prog ap [] nt (ag 0 (ai f100)) ⟨[(9,.sl (ak u) u.length false),(10,.sl (ak v) v.length false),(11,.ref 0 0 0 o.length),(12,.int .i64 (i:Int))],[(0,⟨(ak o),0,false,0,1,true⟩)],.dead,[]⟩ (.exit 0) ⟨[(11,.ref 0 0 0 o.length)],[(0,⟨(ak o),0,false,0,1,true⟩)],.dead,[]⟩:=pN 100 [] 1 0 (.c (aF b) .nil) (.nil) a
theorem amY (s t:List UInt8) (x y z:Nat) (a:List Nat) (c:(decide (((0:Nat):Int)≤(IntKind.wrap .i64 ((((au (ah s)).length:Nat):Int)+(((au (ah t)).length:Nat):Int)))))=true) (i:(decide ((IntKind.wrap .i64 ((((au (ah s)).length:Nat):Int)+(((au (ah t)).length:Nat):Int)))=(IntKind.wrap .i64 ((((au (ah s)).length:Nat):Int)+(((au (ah t)).length:Nat):Int)))))=true) (g:(decide ((IntKind.wrap .i64 ((((au (ah s)).length:Nat):Int)+(((au (ah t)).length:Nat):Int)))≤((1099511627776:Nat):Int)))=true) (d:CO 134 [.str s,.int .i64 3] (.ret (.tup [.int .i64 (x:Int),.bool true]))) (j:CO 134 [.str t,.int .i64 4] (.ret (.tup [.int .i64 (y:Int),.bool false]))) (b:CO 135 [.str s] (.ret (.sl (ak (au (ah s))) (au (ah s)).length false))) (h:CO 135 [.str t] (.ret (.sl (ak (au (ah t))) (au (ah t)).length false))) (e:CO 136 [.sl (List.take (a.length*1) (ak a)) a.length true] (.ret (.str (af z)))) (f:aO prog ap [] 92 (.block 0 (.loop (ag 0 (ai f100)))) ⟨[(0,.str s),(1,.str t),(4,.str []),(5,.int .i64 (x:Int)),(6,.bool true),(7,.int .i64 (y:Int)),(8,.bool false),(9,.sl (ak (au (ah s))) (au (ah s)).length false),(10,.sl (ak (au (ah t))) (au (ah t)).length false),(11,.ref 0 0 0 (Int.toNat (IntKind.wrap .i64 ((((au (ah s)).length:Nat):Int)+(((au (ah t)).length:Nat):Int))))),(12,.int .i64 0),(13,.dead),(14,.dead),(15,.dead),(29,.bool false),(47,.dead),(53,.dead)],[(0,⟨(gu (Int.toNat (IntKind.wrap .i64 ((((au (ah s)).length:Nat):Int)+(((au (ah t)).length:Nat):Int)))) [.int .i64 0]),0,false,0,1,true⟩)],.dead,[]⟩ (.normal) ⟨[(11,.ref 0 0 0 a.length)],[(0,⟨(ak a),0,false,0,1,true⟩)],.dead,[]⟩):CO 100 [.str s,.str t] (.ret (.str (af z))):=pK [0] 2 1 (.c c (.c i (.c g (.n 2 .nil)))) (.c e (.l f (.c h (.c b (.c j (.c d .nil))))))
theorem amZ (s t:List UInt8) (x y z:Nat) (a:List Nat) (c:(decide (((0:Nat):Int)≤(IntKind.wrap .i64 ((((au (ah s)).length:Nat):Int)+(((au (ah t)).length:Nat):Int)))))=true) (i:(decide ((IntKind.wrap .i64 ((((au (ah s)).length:Nat):Int)+(((au (ah t)).length:Nat):Int)))=(IntKind.wrap .i64 ((((au (ah s)).length:Nat):Int)+(((au (ah t)).length:Nat):Int)))))=true) (g:(decide ((IntKind.wrap .i64 ((((au (ah s)).length:Nat):Int)+(((au (ah t)).length:Nat):Int)))≤((1099511627776:Nat):Int)))=true) (d:CO 134 [.str s,.int .i64 3] (.ret (.tup [.int .i64 (x:Int),.bool false]))) (j:CO 134 [.str t,.int .i64 4] (.ret (.tup [.int .i64 (y:Int),.bool true]))) (b:CO 135 [.str s] (.ret (.sl (ak (au (ah s))) (au (ah s)).length false))) (h:CO 135 [.str t] (.ret (.sl (ak (au (ah t))) (au (ah t)).length false))) (e:CO 136 [.sl (List.take (a.length*1) (ak a)) a.length true] (.ret (.str (af z)))) (f:aO prog ap [] 92 (.block 0 (.loop (ag 0 (ai f100)))) ⟨[(0,.str s),(1,.str t),(4,.str []),(5,.int .i64 (x:Int)),(6,.bool false),(7,.int .i64 (y:Int)),(8,.bool true),(9,.sl (ak (au (ah s))) (au (ah s)).length false),(10,.sl (ak (au (ah t))) (au (ah t)).length false),(11,.ref 0 0 0 (Int.toNat (IntKind.wrap .i64 ((((au (ah s)).length:Nat):Int)+(((au (ah t)).length:Nat):Int))))),(12,.int .i64 0),(13,.dead),(14,.dead),(15,.dead),(29,.bool false),(47,.dead),(53,.dead)],[(0,⟨(gu (Int.toNat (IntKind.wrap .i64 ((((au (ah s)).length:Nat):Int)+(((au (ah t)).length:Nat):Int)))) [.int .i64 0]),0,false,0,1,true⟩)],.dead,[]⟩ (.normal) ⟨[(11,.ref 0 0 0 a.length)],[(0,⟨(ak a),0,false,0,1,true⟩)],.dead,[]⟩):CO 100 [.str s,.str t] (.ret (.str (af z))):=pK [0] 2 0 (.c c (.c i (.c g (.n 2 .nil)))) (.c e (.l f (.c h (.c b (.c j (.c d .nil))))))
theorem am0 (s t:List UInt8) (x y z:Nat) (a:List Nat) (c:(decide (((0:Nat):Int)≤(IntKind.wrap .i64 ((((au (ah s)).length:Nat):Int)+(((au (ah t)).length:Nat):Int)))))=true) (i:(decide ((IntKind.wrap .i64 ((((au (ah s)).length:Nat):Int)+(((au (ah t)).length:Nat):Int)))=(IntKind.wrap .i64 ((((au (ah s)).length:Nat):Int)+(((au (ah t)).length:Nat):Int)))))=true) (g:(decide ((IntKind.wrap .i64 ((((au (ah s)).length:Nat):Int)+(((au (ah t)).length:Nat):Int)))≤((1099511627776:Nat):Int)))=true) (d:CO 134 [.str s,.int .i64 3] (.ret (.tup [.int .i64 (x:Int),.bool false]))) (j:CO 134 [.str t,.int .i64 4] (.ret (.tup [.int .i64 (y:Int),.bool false]))) (b:CO 135 [.str s] (.ret (.sl (ak (au (ah s))) (au (ah s)).length false))) (h:CO 135 [.str t] (.ret (.sl (ak (au (ah t))) (au (ah t)).length false))) (e:CO 136 [.sl (List.take (a.length*1) (ak a)) a.length true] (.ret (.str (af z)))) (f:aO prog ap [] 92 (.block 0 (.loop (ag 0 (ai f100)))) ⟨[(0,.str s),(1,.str t),(4,.str []),(5,.int .i64 (x:Int)),(6,.bool false),(7,.int .i64 (y:Int)),(8,.bool false),(9,.sl (ak (au (ah s))) (au (ah s)).length false),(10,.sl (ak (au (ah t))) (au (ah t)).length false),(11,.ref 0 0 0 (Int.toNat (IntKind.wrap .i64 ((((au (ah s)).length:Nat):Int)+(((au (ah t)).length:Nat):Int))))),(12,.int .i64 0),(13,.dead),(14,.dead),(15,.dead),(29,.bool false),(47,.dead),(53,.dead)],[(0,⟨(gu (Int.toNat (IntKind.wrap .i64 ((((au (ah s)).length:Nat):Int)+(((au (ah t)).length:Nat):Int)))) [.int .i64 0]),0,false,0,1,true⟩)],.dead,[]⟩ (.normal) ⟨[(11,.ref 0 0 0 a.length)],[(0,⟨(ak a),0,false,0,1,true⟩)],.dead,[]⟩):CO 100 [.str s,.str t] (.ret (.str (af z))):=pK [0] 2 0 (.c c (.c i (.c g (.n 2 .nil)))) (.c e (.l f (.c h (.c b (.c j (.c d .nil))))))
def Gs (a:Nat):List Nat→List Nat→Nat→List Nat × Nat
 |x::m,y::v,c=>((x+a*y+c) % 16777216::(Gs a m v ((x+a*y+c) / 16777216)).1,(Gs a m v ((x+a*y+c) / 16777216)).2)
 |_,_,c=>([],c)
theorem LU {a x y c:Nat} (e:a<16777216) (f:x<16777216) (b:y<16777216) (g:c<16777216):a*y<281474976710656∧x+a*y+c<281474976710656∧(x+a*y+c) / 16777216<16777216:=by
 have d:a*y≤16777215*16777215:=Nat.mul_le_mul (by omega) (by omega)
 omega
theorem Js {a:Nat} (b:a<16777216):∀ (m v:List Nat) (c:Nat),m.length=v.length→c<16777216→bu m→bu v→(Gs a m v c).2<16777216∧bu (Gs a m v c).1∧(Gs a m v c).1.length=v.length∧cO (Gs a m v c).1+16777216^v.length*(Gs a m v c).2=cO m+a*cO v+c
 | [],[],c,_,hc,_,_=> ⟨hc,bu.nil,rfl,by simp [Gs,cO]⟩
 |x::m,y::v,c,hl,hc,hm,hv=>by
  obtain ⟨_,_,e⟩:=LU b hm.head hv.head hc
  obtain ⟨d,f,g,i⟩:=Js b m v _ (by simpa using hl) e hm.tail hv.tail
  simp only [Gs]
  refine ⟨d,bu.cons (Nat.mod_lt _ (by omega)) f,by simp [g], ?_⟩
  simp only [cO,List.length_cons,Nat.pow_succ]
  rw [Nat.mul_comm (16777216^v.length),Nat.mul_assoc,Nat.mul_add,Nat.mul_left_comm a]
  omega
 | [],_::_,_,h,_,_,_=>by simp at h
 |_::_,[],_,h,_,_,_=>by simp at h
def UZ (v:List Nat):List Nat→List Nat→List Nat
 | [],m=>m
 |a::u,m=>((Gs a m v 0).1++ [(Gs a m v 0).2]).headD 0::UZ v u ((Gs a m v 0).1++ [(Gs a m v 0).2]).tail
theorem Jf (l:List Nat) (y:Nat):∃ z m,l++ [y]=z::m∧m.length=l.length:=by
 cases l with
 |nil=>exact ⟨y,[],rfl,rfl⟩
 |cons b l=>exact ⟨b,l++ [y],rfl,by simp⟩
theorem QQ {v:List Nat} (d:bu v):∀ (u m:List Nat),bu u→bu m→m.length=v.length→bu (UZ v u m)∧(UZ v u m).length=u.length+v.length∧cO (UZ v u m)=cO m+cO u*cO v
 | [],m,_,hm,hl=> ⟨hm,by simp [UZ,hl],by simp [UZ,cO]⟩
 | a::u,m,hu,hm,hl=>by
  obtain ⟨j,h,i,n⟩:=Js hu.head m v 0 hl (by omega) hm d
  obtain ⟨z,b,c,o⟩:=Jf (Gs a m v 0).1 (Gs a m v 0).2
  have e:bu (z::b):=by rw [← c];exact bu.app h (bu.cons j bu.nil)
  have f:cO (z::b)=cO m+a*cO v:=by
   rw [← c,zM,i];simp only [cO];omega
  simp only [UZ,c,List.headD_cons,List.tail_cons]
  obtain ⟨g,k,l⟩:=QQ d u b hu.tail e.tail (by omega)
  refine ⟨bu.cons e.head g,by simp [k];omega, ?_⟩
  simp only [cO] at f ⊢
  rw [l,Nat.add_mul,Nat.mul_add,Nat.mul_assoc]
  omega
def ajr (u v:List Nat) (i:Nat) (p:Nat × List Nat × Nat):St:=⟨[(9,.sl (ak u) u.length false),(10,.sl (ak v) v.length false),(11,.ref 0 0 0 p.2.1.length),(12,.int .i64 (i:Int)),(13,.int .i64 (p.2.2:Int)),(14,.int .i64 (p.1:Int))],[(0,⟨ak p.2.1,0,false,0,1,true⟩)],.dead,[]⟩
def anh (u v:List Nat) (i:Nat) (p:List Nat × Nat):St:=⟨[(9,.sl (ak u) u.length false),(10,.sl (ak v) v.length false),(11,.ref 0 0 0 p.1.length),(12,.int .i64 (i:Int)),(13,.int .i64 (p.2:Int))],[(0,⟨ak p.1,0,false,0,1,true⟩)],.dead,[]⟩
theorem Yc {p s:List Nat} {x y k:Nat} (h:k=p.length):List.take ((0+(Int.toNat (k:Int)))*1) (ak (p++x::s))++ [AV.int .i64 (y:Int)]++List.drop (((0+(Int.toNat (k:Int)))*1)+1) (ak (p++x::s))=ak (p++y::s):=by
 rw [Nat.zero_add,Nat.mul_one,aJ,Qz (by rw [h];simp)]
 subst h
 simp
theorem afn {p s:List Nat} {x k:Nat} (h:k=p.length):(List.headD (List.drop ((0+(Int.toNat (k:Int)))*1) (ak (p++x::s))) .dead)= .int .i64 (x:Int):=by
 rw [Nat.zero_add,Nat.mul_one,aJ];exact Qy h
theorem Qv {p s:List Nat} {x k:Nat} (h:k=p.length):(List.headD (List.drop ((Int.toNat (k:Int))*1) (ak (p++x::s))) .dead)= .int .i64 (x:Int):=by
 rw [Nat.mul_one,aJ];exact Qy h
theorem Sr {a b:Nat} (h:a+b<9223372036854775808):AV.int .i64 (IntKind.wrap .i64 ((a:Int)+(b:Int)))= .int .i64 ((a+b:Nat):Int):=by
 rw [dD,bz h]
theorem aam {nt:Nat} (o:92≤nt) (u u1 u2 v:List Nat) (a:Nat) (A:u=u1++a::u2) (J:a<16777216) (G:bu v) (P:u.length<2^36) (Q:v.length<2^36):∀ (w m b d pp z:List Nat) (c:Nat),b++w=v→m.length=w.length→d.length=b.length→pp.length=u1.length→bu m→c<16777216→
  aI prog ap [] nt (ag 2 (ai f100)) (fun _=> .exit 2) (ajr u v u1.length) (anh u v u1.length) (b.length,pp++d++m++z,c) (pp++d++(Gs a m w c).1++z,(Gs a m w c).2):=by
 intro w
 induction w with
 |nil=>
  intro m b d pp z c f g B t j q
  have M:m= []:=List.length_eq_zero_iff.1 (by simpa using g)
  subst M
  have l:b=v:=by simpa using f
  simp only [Gs]
  exact .done (am2 o u v _ _ _ _ 0 0 0 (by rw [l];exact decide_eq_false (by omega)))
 | cons y w ih=>
  intro m b d pp z c f g B t j q
  cases m with
  |nil=>simp at g
  | cons x m=>
   have V:b.length+(w.length+1)=v.length:=by rw [← f];simp
   have O:u1.length+(u2.length+1)=u.length:=by rw [A];simp
   have C:y<16777216:=G y (by rw [← f];simp)
   obtain ⟨W,X,F⟩:=LU J j.head C q
   have e:=ih m (b++ [y]) (d++ [(x+a*y+c) % 16777216]) pp z ((x+a*y+c) / 16777216) (by simp [f]) (by simpa using g) (by simp [B]) t j.tail F
   simp only [Gs]
   rw [List.length_append,List.length_singleton] at e
   have U:pp++d++x::m++z=(pp++d)++x::(m++z):=by simp
   have N:pp++(d++ [(x+a*y+c) % 16777216])++m++z=(pp++d)++(x+a*y+c) % 16777216::(m++z):=by simp
   have K:pp++(d++ [(x+a*y+c) % 16777216])++(Gs a m w ((x+a*y+c) / 16777216)).1++z=pp++d++(x+a*y+c) % 16777216::(Gs a m w ((x+a*y+c) / 16777216)).1++z:=by simp
   rw [K] at e
   refine .next ?_ e
   have r:u1.length+b.length=(pp++d).length:=by rw [List.length_append];omega
   have n:((pp++d)++x::(m++z)).length=(pp++d).length+(m++z).length+1:=by simp;omega
   have hlen2:((pp++d)++(x+a*y+c) % 16777216::(m++z)).length=((pp++d)++x::(m++z)).length:=by simp
   have R:=afn (p:=pp++d) (s:=m++z) (x:=x) r
   have T:(List.headD (List.drop ((Int.toNat (u1.length:Int))*1) (ak u)) .dead)= .int .i64 (a:Int):=by rw [A];exact Qv rfl
   have E:(List.headD (List.drop ((Int.toNat (b.length:Int))*1) (ak v)) .dead)= .int .i64 (y:Int):=by rw [← f];exact Qv rfl
   have H:=Yc (p:=pp++d) (s:=m++z) (x:=x) (y:=(x+a*y+c) % 16777216) r
   unfold ajr
   simp only [U,N,hlen2]
   have hs:=am1 o u v ((pp++d)++x::(m++z)) u1.length b.length c a x y
   rw [H,R,T,E] at hs
   have i:u1.length<u.length:=by omega
   have k:b.length<v.length:=by omega
   have h:u1.length+b.length<((pp++d)++x::(m++z)).length:=by omega
   have L:AV.int .i64 (Int.tmod (((x+a*y+c):Nat):Int) ((16777216:Nat):Int))= .int .i64 ((((x+a*y+c) % 16777216):Nat):Int):=by rw [uu]
   have D:AV.int .i64 (IntKind.wrap .i64 (Int.tdiv (((x+a*y+c):Nat):Int) ((16777216:Nat):Int)))= .int .i64 ((((x+a*y+c) / 16777216):Nat):Int):=by rw [su,bz (by omega)]
   have S:AV.int .i64 (IntKind.wrap .i64 ((a:Int)*(y:Int)))= .int .i64 ((a*y:Nat):Int):=by rw [Sm (by omega)]
   have I:Nat.ble (((0+(Int.toNat (((u1.length+b.length):Nat):Int)))*1)+1) (List.length (ak ((pp++d)++x::(m++z))))=true:=by
    rw [Nat.ble_eq,aJ,bZ];omega
   apply hs<;>first|exact rfl|exact Sr (by omega)|exact L|exact D|exact S|exact I|exact nS _|exact kX i|exact kX k|exact kX h
def Xh (u v:List Nat) (p:Nat × List Nat):St:=⟨[(9,.sl (ak u) u.length false),(10,.sl (ak v) v.length false),(11,.ref 0 0 0 p.2.length),(12,.int .i64 (p.1:Int))],[(0,⟨ak p.2,0,false,0,1,true⟩)],.dead,[]⟩
def afM (o:List Nat):St:=⟨[(11,.ref 0 0 0 o.length)],[(0,⟨ak o,0,false,0,1,true⟩)],.dead,[]⟩
theorem XG {nt:Nat} (g:92≤nt) (u v:List Nat) (d:bu u) (A:bu v) (o:u.length<2^36) (q:v.length<2^36):∀ (u2 u1 m pp:List Nat),u1++u2=u→m.length=v.length→pp.length=u1.length→bu m→
  aI prog ap [] nt (ag 0 (ai f100)) (fun _=> .exit 0) (Xh u v) afM (u1.length,pp++m++List.replicate u2.length 0) (pp++UZ v u2 m):=by
 intro u2
 induction u2 with
 |nil=>
  intro u1 m pp c t w n
  have h:u1=u:=by simpa using c
  simp only [UZ,List.length_nil,List.replicate_zero,List.append_nil]
  exact .done (am4 g u v _ [] _ 0 (by rw [h];exact decide_eq_false (by omega)))
 | cons a u2 ih=>
  intro u1 m pp c t w n
  have K:u1.length+(u2.length+1)=u.length:=by rw [← c];simp
  have B:a<16777216:=d a (by rw [← c];simp)
  obtain ⟨C,J,N,O⟩:=Js B m v 0 t (by omega) n A
  have j:=fun nt (g:92≤nt)=>aam g u u1 u2 v a c.symm B A o q v m [] [] pp (List.replicate (u2.length+1) 0) 0 rfl t rfl w n (by omega)
  simp only [UZ]
  generalize Gs a m v 0=r at*
  obtain ⟨z,f,l,M⟩:=Jf r.1 r.2
  have D:bu (z::f):=by rw [← l];exact bu.app J (bu.cons C bu.nil)
  have b:=ih (u1++ [a]) f (pp++ [z]) (by simp [c]) (by omega) (by simp [w]) D.tail
  simp only [l,List.headD_cons,List.tail_cons]
  rw [List.length_append,List.length_singleton] at b
  have G:pp++ [z]++UZ v u2 f=pp++z::UZ v u2 f:=by simp
  rw [G] at b
  refine .next ?_ b
  rw [List.append_nil] at j
  have H:u1.length+v.length=(pp++r.1).length:=by rw [List.length_append];omega
  have L:pp++r.1++List.replicate (u2.length+1) 0=(pp++r.1)++0::List.replicate u2.length 0:=by rw [List.replicate_succ]
  have I:pp++ [z]++f++List.replicate u2.length 0=(pp++r.1)++r.2::List.replicate u2.length 0:=by
   rw [List.append_assoc pp,List.singleton_append,← l];simp
  have E:=Yc (p:=pp++r.1) (s:=List.replicate u2.length 0) (x:=0) (y:=r.2) H
  rw [L] at j
  have e:((pp++r.1)++0::List.replicate u2.length 0).length=((pp++r.1)++r.2::List.replicate u2.length 0).length:=by simp
  have hlen2:((pp++r.1)++0::List.replicate u2.length 0).length=(pp++r.1).length+u2.length+1:=by simp;omega
  have hs:=am3 g u v (pp++m++List.replicate (u2.length+1) 0) ((pp++r.1)++0::List.replicate u2.length 0) u1.length r.2
  rw [E] at hs
  have k:u1.length<u.length:=by omega
  have i:u1.length+v.length<((pp++r.1)++0::List.replicate u2.length 0).length:=by omega
  have F:Nat.ble (((0+(Int.toNat (((u1.length+v.length):Nat):Int)))*1)+1) (List.length (ak ((pp++r.1)++0::List.replicate u2.length 0)))=true:=by
   rw [Nat.ble_eq,aJ,bZ];omega
  unfold Xh
  simp only [I,List.length_cons]
  rw [← e]
  apply hs<;>first|exact Sr (by omega)|exact F|exact nS _|exact kX k|exact kX i|skip
  exact aI.blk j (by simp) rfl (aQ.of ⟨rfl,rfl,rfl,rfl,rfl,rfl,trivial⟩) (aQ.refl _)
theorem xw {s:List UInt8} (h:s.length<2^35):(au (ah s)).length<2^35:=by
 have a:(au (ah s)).length≤s.length:=sJ (Nat.lt_of_lt_of_le (kV s) (by rw [Nat.pow_mul];exact Nat.pow_le_pow_left (by decide) _))
 omega
theorem T_ (s t:List UInt8) (hs:s.length<2^35) (e:t.length<2^35):∃ o3:List Nat,o3.length<2^36∧bu o3∧cO o3=ah s*ah t∧∀ nt,92≤nt→aI prog ap [] nt (ag 0 (ai f100)) (fun _=> .exit 0) (Xh (au (ah s)) (au (ah t))) afM (0,List.replicate ((au (ah s)).length+(au (ah t)).length) 0) o3:=by
 have g:=xw hs
 have f:=xw e
 obtain ⟨a,b,c⟩:=QQ (bu.dig (ah t)) (au (ah s)) (List.replicate (au (ah t)).length 0) (bu.dig _) (bu.zeros _) (by simp)
 refine ⟨_,by rw [b];omega,a, ?_,fun nt d=> ?_⟩
 ·rw [c,PO,eP,eP,Nat.zero_add]
 ·have:=XG d (au (ah s)) (au (ah t)) (bu.dig _) (bu.dig _) (by omega) (by omega) (au (ah s)) [] (List.replicate (au (ah t)).length 0) [] rfl (by simp) rfl (bu.zeros _)
  rw [List.nil_append,List.nil_append,List.replicate_append_replicate,Nat.add_comm] at this
  exact this
theorem Xg (s t:List UInt8) (hs:s.length<2^35) (o:t.length<2^35):CO 100 [.str s,.str t] (.ret (.str (af (ah s*ah t)))):=by
 obtain ⟨a,w,y,z,v⟩:=T_ s t hs o
 have B:=xw hs
 have C:=xw o
 have g:=BP s (by omega)
 have l:=BP t (by omega)
 have f:=uU a true w y
 rw [z] at f
 have i:List.take (a.length*1) (ak a)=ak a:=by rw [Nat.mul_one,dK,List.take_length]
 rw [← i] at f
 have A:IntKind.wrap .i64 ((((au (ah s)).length:Nat):Int)+(((au (ah t)).length:Nat):Int))=(((au (ah s)).length+(au (ah t)).length:Nat):Int):=by
  rw [dD,bz (by omega)]
 have u:=amY s t (ah s) 0 (ah s*ah t) a
 have q:=amZ s t 0 (ah t) (ah s*ah t) a
 have r:=am0 s t 0 0 (ah s*ah t) a
 rw [A,aJ,JL] at u q r
 have h:=decide_eq_true (p:=((0:Nat):Int)≤(((au (ah s)).length+(au (ah t)).length:Nat):Int)) (by omega)
 have j:=decide_eq_true (p:=(((au (ah s)).length+(au (ah t)).length:Nat):Int)=(((au (ah s)).length+(au (ah t)).length:Nat):Int)) rfl
 have k:=decide_eq_true (p:=(((au (ah s)).length+(au (ah t)).length:Nat):Int)≤((1099511627776:Nat):Int)) (by omega)
 have e:=aI.blk (s:=Xh (au (ah s)) (au (ah t)) (0,List.replicate ((au (ah s)).length+(au (ah t)).length) 0)) (s':=afM a) (id:=0) v (by simp) rfl (aQ.refl _) (aQ.refl _)
 have x:((au (ah s)).length+(au (ah t)).length)=(List.replicate ((au (ah s)).length+(au (ah t)).length) 0).length:=by rw [List.length_replicate]
 unfold Xh at e
 simp only [← x] at e
 rcases Nat.lt_or_ge (ah s) (2^(8*3)) with c1|c1
 ·have d:=gU s 3 (by omega) (by omega) c1
  rcases Nat.lt_or_ge (ah t) (2^(8*4)) with c2|c2
  ·have b:=gU t 4 (by omega) (by omega) c2
   have m:ah s*ah t<9223372036854775808:=Nat.lt_of_le_of_lt (Nat.mul_le_mul (show ah s≤16777215 by omega) (show ah t≤4294967295 by omega)) (by omega)
   have n:=jQ (ah s*ah t) m
   rw [← Sm m] at n
   exact agK s t _ _ _ d b n
  ·have b:=kS t 4 (by omega) c2
   exact u h j k d b g l f fun nt c=>(e nt c).weak (aQ.of ⟨rfl,rfl,rfl,rfl,trivial⟩) (aQ.refl _)
 ·have d:=kS s 3 (by omega) c1
  rcases Nat.lt_or_ge (ah t) (2^(8*4)) with c2|c2
  ·have b:=gU t 4 (by omega) (by omega) c2
   exact q h j k d b g l f fun nt c=>(e nt c).weak (aQ.of ⟨rfl,rfl,rfl,rfl,trivial⟩) (aQ.refl _)
  ·have b:=kS t 4 (by omega) c2
   exact r h j k d b g l f fun nt c=>(e nt c).weak (aQ.of ⟨rfl,rfl,rfl,rfl,trivial⟩) (aQ.refl _)
theorem anq {nt:Nat} (A:68≤nt) (u v o:List Nat) (w d:Bool) (i j c a x y:Nat) (g:AV.int .u32 (AV.toInt (List.headD (List.drop ((Int.toNat (j:Int))*1) (aj v)) .dead))= .int .u32 (y:Int)) (l:AV.int .u64 (IntKind.wrap .u64 (a:Int))= .int .u64 (a:Int)) (r:AV.int .u64 (IntKind.wrap .u64 (y:Int))= .int .u64 (y:Int)) (f:AV.int .u64 (IntKind.wrap .u64 ((a:Int)*(y:Int)))= .int .u64 (((a*y):Nat):Int)) (e:AV.int .u32 (AV.toInt (List.headD (List.drop ((0+(Int.toNat (((i+j):Nat):Int)))*1) (aj o)) .dead))= .int .u32 (x:Int)) (h:AV.int .u64 (IntKind.wrap .u64 (x:Int))= .int .u64 (x:Int)) (q:AV.int .u64 (IntKind.wrap .u64 ((((a*y):Nat):Int)+(x:Int)))= .int .u64 (((a*y+x):Nat):Int)) (n:AV.int .u64 (IntKind.wrap .u64 ((((a*y+x):Nat):Int)+(c:Int)))= .int .u64 (((a*y+x+c):Nat):Int)) (b:AV.int .i64 (IntKind.wrap .i64 ((i:Int)+(j:Int)))= .int .i64 (((i+j):Nat):Int)) (p:AV.int .u32 (IntKind.wrap .u32 (((a*y+x+c):Nat):Int))= .int .u32 ((((a*y+x+c) % 4294967296):Nat):Int)) (m:AV.int .u64 (Int.fdiv (((a*y+x+c):Nat):Int) (2^(min 32 64)))= .int .u64 ((((a*y+x+c) / 4294967296):Nat):Int)) (k:AV.int .i64 (IntKind.wrap .i64 ((j:Int)+((1:Nat):Int)))= .int .i64 (((j+1):Nat):Int)) (E:(Nat.ble (((0+(Int.toNat (((i+j):Nat):Int)))*1)+1) (List.length (aj o)))=true) (s:(decide (((0:Nat):Int)≤(((i+j):Nat):Int)))=true) (t:(decide ((((i+j):Nat):Int)<(o.length:Int)))=true) (B:(chk (.int .u32) (List.headD (List.drop ((0+(Int.toNat (((i+j):Nat):Int)))*1) (aj o)) .dead))=true) (D:(chk (.int .u32) (List.headD (List.drop ((Int.toNat (j:Int))*1) (aj v)) .dead))=true) (C:(decide (((0:Nat):Int)≤(j:Int)))=true) (z:(decide ((j:Int)<(v.length:Int)))=true):ax prog ap [] nt (ag 2 (ai f201)) ⟨[(1,.sl (aj v) v.length d),(5,.ref 0 0 0 o.length),(6,.int .i64 (i:Int)),(7,.int .u32 (a:Int)),(8,.int .u64 (c:Int)),(18,.sl (aj u) u.length w),(19,.int .i64 (u.length:Int)),(20,.int .i64 (i:Int)),(25,.sl (aj v) v.length d),(26,.int .i64 (v.length:Int)),(27,.int .i64 (j:Int))],[(0,⟨(aj o),0,false,0,1,true⟩)],.dead,[]⟩ (.normal) ⟨[(1,.sl (aj v) v.length d),(5,.ref 0 0 0 o.length),(6,.int .i64 (i:Int)),(7,.int .u32 (a:Int)),(8,.int .u64 ((((a*y+x+c) / 4294967296):Nat):Int)),(18,.sl (aj u) u.length w),(19,.int .i64 (u.length:Int)),(20,.int .i64 (i:Int)),(25,.sl (aj v) v.length d),(26,.int .i64 (v.length:Int)),(27,.int .i64 (((j+1):Nat):Int))],[(0,⟨(List.take ((0+(Int.toNat (((i+j):Nat):Int)))*1) (aj o)++ [.int .u32 ((((a*y+x+c) % 4294967296):Nat):Int)]++List.drop (((0+(Int.toNat (((i+j):Nat):Int)))*1)+1) (aj o)),0,false,0,1,true⟩)],.dead,[]⟩:=pN 201 [] 1 1 (.c E (.c s (.c t (.k 1 B (.c s (.c t (.c D (.c C (.c z (.c (aG z) .nil)))))))))) (.v 56 (.eq k) (.v 54 (.eq m) (.v 52 (.eq p) (.v 50 (.eq b) (.v 46 (.eq n) (.v 44 (.eq q) (.v 43 (.eq h) (.v 42 (.eq e) (.v 40 (.eq b) (.v 36 (.eq f) (.v 35 (.eq r) (.v 33 (.eq l) (.v 31 (.eq g) .nil))))))))))))) A
theorem anr {nt:Nat} (e:68≤nt) (u v o:List Nat) (d b:Bool) (i j c a x y:Nat) (f:(decide ((j:Int)<(v.length:Int)))=false):ax prog ap [] nt (ag 2 (ai f201)) ⟨[(1,.sl (aj v) v.length b),(5,.ref 0 0 0 o.length),(6,.int .i64 (i:Int)),(7,.int .u32 (a:Int)),(8,.int .u64 (c:Int)),(18,.sl (aj u) u.length d),(19,.int .i64 (u.length:Int)),(20,.int .i64 (i:Int)),(25,.sl (aj v) v.length b),(26,.int .i64 (v.length:Int)),(27,.int .i64 (j:Int))],[(0,⟨(aj o),0,false,0,1,true⟩)],.dead,[]⟩ (.exit 2) ⟨[(1,.sl (aj v) v.length b),(5,.ref 0 0 0 o.length),(6,.int .i64 (i:Int)),(8,.int .u64 (c:Int)),(18,.sl (aj u) u.length d),(19,.int .i64 (u.length:Int)),(20,.int .i64 (i:Int))],[(0,⟨(aj o),0,false,0,1,true⟩)],.dead,[]⟩:=pN 201 [] 1 0 (.c (aF f) .nil) (.nil) e
theorem anu {nt:Nat} (n:68≤nt) (u v o b:List Nat) (d c:Bool) (i a e:Nat) (h:AV.int .u32 (AV.toInt (List.headD (List.drop ((Int.toNat (i:Int))*1) (aj u)) .dead))= .int .u32 (a:Int)) (j:AV.int .i64 (IntKind.wrap .i64 ((i:Int)+(v.length:Int)))= .int .i64 (((i+v.length):Nat):Int)) (g:AV.int .u32 (IntKind.wrap .u32 (e:Int))= .int .u32 (e:Int)) (f:AV.int .i64 (IntKind.wrap .i64 ((i:Int)+((1:Nat):Int)))= .int .i64 (((i+1):Nat):Int)) (s:(Nat.ble (((0+(Int.toNat (((i+v.length):Nat):Int)))*1)+1) (List.length (aj b)))=true) (m:(decide (((0:Nat):Int)≤(((i+v.length):Nat):Int)))=true) (q:(decide ((((i+v.length):Nat):Int)<(b.length:Int)))=true) (p:(chk (.int .u32) (List.headD (List.drop ((Int.toNat (i:Int))*1) (aj u)) .dead))=true) (r:(decide (((0:Nat):Int)≤(i:Int)))=true) (k:(decide ((i:Int)<(u.length:Int)))=true) (l:aO prog ap [] 68 (.block 2 (.loop (ag 2 (ai f201)))) ⟨[(0,.dead),(1,.sl (aj v) v.length c),(4,.dead),(5,.ref 0 0 0 o.length),(6,.int .i64 (i:Int)),(7,.int .u32 (a:Int)),(8,.int .u64 0),(9,.dead),(10,.dead),(11,.dead),(18,.sl (aj u) u.length d),(19,.int .i64 (u.length:Int)),(20,.int .i64 (i:Int)),(21,.bool (decide ((i:Int)<(u.length:Int)))),(25,.sl (aj v) v.length c),(26,.int .i64 (v.length:Int)),(27,.int .i64 0),(28,.dead)],[(0,⟨(aj o),0,false,0,1,true⟩)],.dead,[]⟩ (.normal) ⟨[(1,.sl (aj v) v.length c),(5,.ref 0 0 0 b.length),(6,.int .i64 (i:Int)),(8,.int .u64 (e:Int)),(18,.sl (aj u) u.length d),(19,.int .i64 (u.length:Int)),(20,.int .i64 (i:Int))],[(0,⟨(aj b),0,false,0,1,true⟩)],.dead,[]⟩):ax prog ap [] nt (ag 0 (ai f201)) ⟨[(1,.sl (aj v) v.length c),(5,.ref 0 0 0 o.length),(18,.sl (aj u) u.length d),(19,.int .i64 (u.length:Int)),(20,.int .i64 (i:Int))],[(0,⟨(aj o),0,false,0,1,true⟩)],.dead,[]⟩ (.normal) ⟨[(1,.sl (aj v) v.length c),(5,.ref 0 0 0 b.length),(18,.sl (aj u) u.length d),(19,.int .i64 (u.length:Int)),(20,.int .i64 (((i+1):Nat):Int))],[(0,⟨(List.take ((0+(Int.toNat (((i+v.length):Nat):Int)))*1) (aj b)++ [.int .u32 (e:Int)]++List.drop (((0+(Int.toNat (((i+v.length):Nat):Int)))*1)+1) (aj b)),0,false,0,1,true⟩)],.dead,[]⟩:=pN 201 [2] 1 1 (.c s (.c m (.c q (.c p (.c r (.c k (.c (aG k) .nil))))))) (.v 65 (.eq f) (.v 63 (.eq g) (.v 61 (.eq j) (.l l (.v 24 (.eq h) .nil))))) n
theorem anv {nt:Nat} (b:68≤nt) (u v o f:List Nat) (e c:Bool) (i a g:Nat) (d:(decide ((i:Int)<(u.length:Int)))=false):ax prog ap [] nt (ag 0 (ai f201)) ⟨[(1,.sl (aj v) v.length c),(5,.ref 0 0 0 o.length),(18,.sl (aj u) u.length e),(19,.int .i64 (u.length:Int)),(20,.int .i64 (i:Int))],[(0,⟨(aj o),0,false,0,1,true⟩)],.dead,[]⟩ (.exit 0) ⟨[(5,.ref 0 0 0 o.length)],[(0,⟨(aj o),0,false,0,1,true⟩)],.dead,[]⟩:=pN 201 [] 1 0 (.c (aF d) .nil) (.nil) b
theorem abk (a b w:List Nat) (c d:Bool) (z:Nat) (f:(decide (((0:Nat):Int)≤(IntKind.wrap .i64 ((a.length:Int)+(b.length:Int)))))=true) (i:(decide ((IntKind.wrap .i64 ((a.length:Int)+(b.length:Int)))=(IntKind.wrap .i64 ((a.length:Int)+(b.length:Int)))))=true) (h:(decide ((IntKind.wrap .i64 ((a.length:Int)+(b.length:Int)))≤((1099511627776:Nat):Int)))=true) (e:CO 162 [.sl (List.take (w.length*1) (aj w)) w.length true] (.ret (.sl (aj (digs z)) (digs z).length true))) (g:aO prog ap [] 68 (.block 0 (.loop (ag 0 (ai f201)))) ⟨[(0,.sl (aj a) a.length c),(1,.sl (aj b) b.length d),(4,.nilS),(5,.ref 0 0 0 (Int.toNat (IntKind.wrap .i64 ((a.length:Int)+(b.length:Int))))),(6,.dead),(7,.dead),(8,.dead),(9,.dead),(10,.dead),(11,.dead),(18,.sl (aj a) a.length c),(19,.int .i64 (a.length:Int)),(20,.int .i64 0),(21,.dead),(25,.dead),(26,.dead),(27,.dead),(28,.dead)],[(0,⟨(gu (Int.toNat (IntKind.wrap .i64 ((a.length:Int)+(b.length:Int)))) [.int .u32 0]),0,false,0,1,true⟩)],.dead,[]⟩ (.normal) ⟨[(5,.ref 0 0 0 w.length)],[(0,⟨(aj w),0,false,0,1,true⟩)],.dead,[]⟩):CO 201 [.sl (aj a) a.length c,.sl (aj b) b.length d] (.ret (.sl (aj (digs z)) (digs z).length true)):=pK [0] 0 0 (.c f (.c i (.c h .nil))) (.c e (.l g .nil))
def prI (u v:List Nat) (na nb:Bool) (i a:Nat) (p:Nat × List Nat × Nat):St:=⟨[(1,.sl (aj v) v.length nb),(5,.ref 0 0 0 p.2.1.length),(6,.int .i64 (i:Int)),(7,.int .u32 (a:Int)),(8,.int .u64 (p.2.2:Int)),(18,.sl (aj u) u.length na),(19,.int .i64 (u.length:Int)),(20,.int .i64 (i:Int)),(25,.sl (aj v) v.length nb),(26,.int .i64 (v.length:Int)),(27,.int .i64 (p.1:Int))],[(0,⟨(aj p.2.1),0,false,0,1,true⟩)],.dead,[]⟩
def prJ (u v:List Nat) (na nb:Bool) (i:Nat) (p:List Nat × Nat):St:=⟨[(1,.sl (aj v) v.length nb),(5,.ref 0 0 0 p.1.length),(6,.int .i64 (i:Int)),(8,.int .u64 (p.2:Int)),(18,.sl (aj u) u.length na),(19,.int .i64 (u.length:Int)),(20,.int .i64 (i:Int))],[(0,⟨(aj p.1),0,false,0,1,true⟩)],.dead,[]⟩
def prO (u v:List Nat) (na nb:Bool) (p:Nat × List Nat):St:=⟨[(1,.sl (aj v) v.length nb),(5,.ref 0 0 0 p.2.length),(18,.sl (aj u) u.length na),(19,.int .i64 (u.length:Int)),(20,.int .i64 (p.1:Int))],[(0,⟨(aj p.2),0,false,0,1,true⟩)],.dead,[]⟩
def prR (o:List Nat):St:=⟨[(5,.ref 0 0 0 o.length)],[(0,⟨(aj o),0,false,0,1,true⟩)],.dead,[]⟩
def Gt (a:Nat):List Nat→List Nat→Nat→List Nat × Nat
 |x::m,y::v,c=>((a*y+x+c) % 4294967296::(Gt a m v ((a*y+x+c) / 4294967296)).1,(Gt a m v ((a*y+x+c) / 4294967296)).2)
 |_,_,c=>([],c)
theorem L_ {a x y c:Nat} (e:a<4294967296) (f:x<4294967296) (b:y<4294967296) (g:c<4294967296):a*y<18446744073709551616∧a*y+x+c<18446744073709551616∧(a*y+x+c) / 4294967296<4294967296:=by
 have d:a*y≤4294967295*4294967295:=Nat.mul_le_mul (by omega) (by omega)
 omega
theorem JG {a:Nat} (b:a<4294967296):∀ (m v:List Nat) (c:Nat),m.length=v.length→c<4294967296→bM m→bM v→(Gt a m v c).2<4294967296∧bM (Gt a m v c).1∧(Gt a m v c).1.length=v.length∧aH (Gt a m v c).1+4294967296^v.length*(Gt a m v c).2=aH m+a*aH v+c
 | [],[],c,_,hc,_,_=> ⟨hc,bM.nil,rfl,by simp [Gt,aH]⟩
 |x::m,y::v,c,hl,hc,hm,hv=>by
  obtain ⟨_,_,e⟩:=L_ b hm.head hv.head hc
  obtain ⟨d,f,g,i⟩:=JG b m v _ (by simpa using hl) e hm.tail hv.tail
  simp only [Gt]
  refine ⟨d,bM.cons (Nat.mod_lt _ (by omega)) f,by simp [g], ?_⟩
  simp only [aH,List.length_cons,Nat.pow_succ]
  rw [Nat.mul_comm (4294967296^v.length),Nat.mul_assoc,Nat.mul_add,Nat.mul_left_comm a]
  omega
 | [],_::_,_,h,_,_,_=>by simp at h
 |_::_,[],_,h,_,_,_=>by simp at h
def Q7 (v:List Nat):List Nat→List Nat→List Nat
 | [],m=>m
 |a::u,m=>((Gt a m v 0).1++ [(Gt a m v 0).2]).headD 0::Q7 v u ((Gt a m v 0).1++ [(Gt a m v 0).2]).tail
theorem Q8 {v:List Nat} (d:bM v):∀ (u m:List Nat),bM u→bM m→m.length=v.length→bM (Q7 v u m)∧(Q7 v u m).length=u.length+v.length∧aH (Q7 v u m)=aH m+aH u*aH v
 | [],m,_,hm,hl=> ⟨hm,by simp [Q7,hl],by simp [Q7,aH]⟩
 | a::u,m,hu,hm,hl=>by
  obtain ⟨j,h,i,n⟩:=JG hu.head m v 0 hl (by omega) hm d
  obtain ⟨z,b,c,o⟩:=Jf (Gt a m v 0).1 (Gt a m v 0).2
  have e:bM (z::b):=by rw [← c];exact bM.app h (bM.cons j bM.nil)
  have f:aH (z::b)=aH m+a*aH v:=by
   rw [← c,mM,i];simp only [aH];omega
  simp only [Q7,c,List.headD_cons,List.tail_cons]
  obtain ⟨g,k,l⟩:=Q8 d u b hu.tail e.tail (by omega)
  refine ⟨bM.cons e.head g,by simp [k];omega, ?_⟩
  simp only [aH] at f ⊢
  rw [l,Nat.add_mul,Nat.mul_add,Nat.mul_assoc]
  omega
theorem Yd {p s:List Nat} {x y k:Nat} (h:k=p.length):List.take ((0+(Int.toNat (k:Int)))*1) (aj (p++x::s))++ [AV.int .u32 (y:Int)]++List.drop (((0+(Int.toNat (k:Int)))*1)+1) (aj (p++x::s))=aj (p++y::s):=by
 subst h;exact zL
theorem Jd {p s:List Nat} {x k:Nat} (h:k=p.length):(List.headD (List.drop ((Int.toNat (k:Int))*1) (aj (p++x::s))) .dead)= .int .u32 (x:Int):=by
 subst h;rw [zJ];rfl
theorem afo {p s:List Nat} {x k:Nat} (h:k=p.length):(List.headD (List.drop ((0+(Int.toNat (k:Int)))*1) (aj (p++x::s))) .dead)= .int .u32 (x:Int):=by
 rw [Nat.zero_add];exact Jd h
theorem wdp {a b:Nat} (h:a+b<9223372036854775808):AV.int .i64 (IntKind.wrap .i64 ((a:Int)+(b:Int)))= .int .i64 ((a+b:Nat):Int):=by
 rw [dD,bz h]
theorem an9 {a b:Nat} (h:a+b<18446744073709551616):AV.int .u64 (IntKind.wrap .u64 ((a:Int)+(b:Int)))= .int .u64 ((a+b:Nat):Int):=by
 rw [dD,oV,Nat.mod_eq_of_lt h]
theorem an8 {a:Nat} (h:a<18446744073709551616):AV.int .u64 (IntKind.wrap .u64 (a:Int))= .int .u64 (a:Int):=by
 rw [oV,Nat.mod_eq_of_lt h]
theorem an7 {a:Nat} (h:a<4294967296):AV.int .u32 (IntKind.wrap .u32 (a:Int))= .int .u32 (a:Int):=by
 rw [rW,Nat.mod_eq_of_lt h]
theorem aan {nt:Nat} (r:68≤nt) (u u1 u2 v:List Nat) (h i:Bool) (a:Nat) (R:u=u1++a::u2) (L:a<4294967296) (I:bM v) (S:u.length<2^38) (T:v.length<2^38):∀ (w m b d pp z:List Nat) (c:Nat),b++w=v→m.length=w.length→d.length=b.length→pp.length=u1.length→bM m→c<4294967296→
  aI prog ap [] nt (ag 2 (ai f201)) (fun _=> .exit 2) (prI u v h i u1.length a) (prJ u v h i u1.length) (b.length,pp++d++m++z,c) (pp++d++(Gt a m w c).1++z,(Gt a m w c).2):=by
 intro w
 induction w with
 |nil=>
  intro m b d pp z c f j C B g t
  have O:m= []:=List.length_eq_zero_iff.1 (by simpa using j)
  subst O
  have o:b=v:=by simpa using f
  simp only [Gt]
  exact .done (anr r u v _ h i _ _ _ a 0 0 (by rw [o];exact decide_eq_false (by omega)))
 | cons y w ih=>
  intro m b d pp z c f j C B g t
  cases m with
  |nil=>simp at j
  | cons x m=>
   have X:b.length+(w.length+1)=v.length:=by rw [← f];simp
   have Q:u1.length+(u2.length+1)=u.length:=by rw [R];simp
   have D:y<4294967296:=I y (by rw [← f];simp)
   have Z:=g.head
   obtain ⟨G,Y,H⟩:=L_ L g.head D t
   have e:=ih m (b++ [y]) (d++ [(a*y+x+c) % 4294967296]) pp z ((a*y+x+c) / 4294967296) (by simp [f]) (by simpa using j) (by simp [C]) B g.tail H
   simp only [Gt]
   rw [List.length_append,List.length_singleton] at e
   have W:pp++d++x::m++z=(pp++d)++x::(m++z):=by simp
   have P:pp++(d++ [(a*y+x+c) % 4294967296])++m++z=(pp++d)++(a*y+x+c) % 4294967296::(m++z):=by simp
   have M:pp++(d++ [(a*y+x+c) % 4294967296])++(Gt a m w ((a*y+x+c) / 4294967296)).1++z=pp++d++(a*y+x+c) % 4294967296::(Gt a m w ((a*y+x+c) / 4294967296)).1++z:=by simp
   rw [M] at e
   refine .next ?_ e
   have A:u1.length+b.length=(pp++d).length:=by rw [List.length_append];omega
   have q:((pp++d)++x::(m++z)).length=(pp++d).length+(m++z).length+1:=by simp;omega
   have hlen2:((pp++d)++(a*y+x+c) % 4294967296::(m++z)).length=((pp++d)++x::(m++z)).length:=by simp
   have U:=afo (p:=pp++d) (s:=m++z) (x:=x) A
   have F:(List.headD (List.drop ((Int.toNat (b.length:Int))*1) (aj v)) .dead)= .int .u32 (y:Int):=by rw [← f];exact Jd rfl
   have J:=Yd (p:=pp++d) (s:=m++z) (x:=x) (y:=(a*y+x+c) % 4294967296) A
   unfold prI
   simp only [W,P,hlen2]
   have hs:=anq r u v ((pp++d)++x::(m++z)) h i u1.length b.length c a x y
   rw [J,U,F] at hs
   have l:u1.length<u.length:=by omega
   have n:b.length<v.length:=by omega
   have k:u1.length+b.length<((pp++d)++x::(m++z)).length:=by omega
   have N:AV.int .u32 (IntKind.wrap .u32 (((a*y+x+c):Nat):Int))= .int .u32 ((((a*y+x+c) % 4294967296):Nat):Int):=by rw [rW]
   have E:AV.int .u64 (Int.fdiv (((a*y+x+c):Nat):Int) (2^(min 32 64)))= .int .u64 ((((a*y+x+c) / 4294967296):Nat):Int):=by rw [show min 32 64=32 from rfl,kY]
   have V:AV.int .u64 (IntKind.wrap .u64 ((a:Int)*(y:Int)))= .int .u64 ((a*y:Nat):Int):=by rw [← Int.natCast_mul,oV,Nat.mod_eq_of_lt G]
   have K:Nat.ble (((0+(Int.toNat (((u1.length+b.length):Nat):Int)))*1)+1) (List.length (aj ((pp++d)++x::(m++z))))=true:=by
    rw [Nat.ble_eq,aJ,ay];omega
   have y1:a*y+x<18446744073709551616:=by omega
   apply hs<;>first|exact rfl|exact wdp (by omega)|exact an9 (by omega)|exact N|exact E|exact V|exact an8 (by omega)|exact K|exact nS _|exact kX l|exact kX n|exact kX k
theorem XH {nt:Nat} (g:68≤nt) (u v:List Nat) (h i:Bool) (d:bM u) (C:bM v) (t:u.length<2^38) (w:v.length<2^38):∀ (u2 u1 m pp:List Nat),u1++u2=u→m.length=v.length→pp.length=u1.length→bM m→
  aI prog ap [] nt (ag 0 (ai f201)) (fun _=> .exit 0) (prO u v h i) prR (u1.length,pp++m++List.replicate u2.length 0) (pp++Q7 v u2 m):=by
 intro u2
 induction u2 with
 |nil=>
  intro u1 m pp c A B q
  have j:u1=u:=by simpa using c
  simp only [Q7,List.length_nil,List.replicate_zero,List.append_nil]
  exact .done (anv g u v _ [] h i _ 0 0 (by rw [j];exact decide_eq_false (by omega)))
 | cons a u2 ih=>
  intro u1 m pp c A B q
  have N:u1.length+(u2.length+1)=u.length:=by rw [← c];simp
  have D:a<4294967296:=d a (by rw [← c];simp)
  obtain ⟨E,M,Q,R⟩:=JG D m v 0 A (by omega) q C
  have l:=fun nt (g:68≤nt)=>aan g u u1 u2 v h i a c.symm D C t w v m [] [] pp (List.replicate (u2.length+1) 0) 0 rfl A rfl B q (by omega)
  simp only [Q7]
  generalize Gt a m v 0=r at*
  obtain ⟨z,f,o,P⟩:=Jf r.1 r.2
  have G:bM (z::f):=by rw [← o];exact bM.app M (bM.cons E bM.nil)
  have b:=ih (u1++ [a]) f (pp++ [z]) (by simp [c]) (by omega) (by simp [B]) G.tail
  simp only [o,List.headD_cons,List.tail_cons]
  rw [List.length_append,List.length_singleton] at b
  have J:pp++ [z]++Q7 v u2 f=pp++z::Q7 v u2 f:=by simp
  rw [J] at b
  refine .next ?_ b
  rw [List.append_nil] at l
  have K:u1.length+v.length=(pp++r.1).length:=by rw [List.length_append];omega
  have O:pp++r.1++List.replicate (u2.length+1) 0=(pp++r.1)++0::List.replicate u2.length 0:=by rw [List.replicate_succ]
  have L:pp++ [z]++f++List.replicate u2.length 0=(pp++r.1)++r.2::List.replicate u2.length 0:=by
   rw [List.append_assoc pp,List.singleton_append,← o];simp
  have F:(List.headD (List.drop ((Int.toNat (u1.length:Int))*1) (aj u)) .dead)= .int .u32 (a:Int):=by rw [← c];exact Jd rfl
  have H:=Yd (p:=pp++r.1) (s:=List.replicate u2.length 0) (x:=0) (y:=r.2) K
  rw [O] at l
  have e:((pp++r.1)++0::List.replicate u2.length 0).length=((pp++r.1)++r.2::List.replicate u2.length 0).length:=by simp
  have hlen2:((pp++r.1)++0::List.replicate u2.length 0).length=(pp++r.1).length+u2.length+1:=by simp;omega
  have hs:=anu g u v (pp++m++List.replicate (u2.length+1) 0) ((pp++r.1)++0::List.replicate u2.length 0) h i u1.length a r.2
  rw [H,F] at hs
  have n:u1.length<u.length:=by omega
  have k:u1.length+v.length<((pp++r.1)++0::List.replicate u2.length 0).length:=by omega
  have I:Nat.ble (((0+(Int.toNat (((u1.length+v.length):Nat):Int)))*1)+1) (List.length (aj ((pp++r.1)++0::List.replicate u2.length 0)))=true:=by
   rw [Nat.ble_eq,aJ,ay];omega
  unfold prO
  simp only [L,List.length_cons]
  rw [← e]
  apply hs<;>first|exact rfl|exact wdp (by omega)|exact an7 (by omega)|exact I|exact nS _|exact kX n|exact kX k|skip
  exact aI.blk l (by simp) rfl (aQ.of ⟨rfl,rfl,rfl,rfl,rfl,rfl,rfl,rfl,rfl,rfl,rfl,trivial⟩) (aQ.refl _)
theorem abm (a b:List Nat) (g d:Bool) (e:bM a) (c:bM b) (t:a.length<2^37) (q:b.length<2^37):CO 201 [.sl (aj a) a.length g,.sl (aj b) b.length d] (.ret (.sl (aj (digs (aH a*aH b))) (digs (aH a*aH b)).length true)):=by
 obtain ⟨m,r,k⟩:=Q8 c a (List.replicate b.length 0) e (fun x j=>by rw [(List.mem_replicate.1 j).2];omega) (by simp)
 have l:aH (List.replicate b.length 0)=0:=by
  generalize b.length=n
  induction n with
  |zero=>rfl
  |succ n ih=>rw [List.replicate_succ];simp only [aH,ih]
 rw [l,Nat.zero_add] at k
 have o:∀ nt,68≤nt→aI prog ap [] nt (ag 0 (ai f201)) (fun _=> .exit 0) (prO a b g d) prR (0,List.replicate (a.length+b.length) 0) (Q7 b a (List.replicate b.length 0)):=fun nt i=>by
  have:=XH i a b g d e c (by omega) (by omega) a [] (List.replicate b.length 0) [] rfl (by simp) rfl (fun x j=>by rw [(List.mem_replicate.1 j).2];omega)
  rw [List.nil_append,List.nil_append,List.replicate_append_replicate,Nat.add_comm] at this
  exact this
 generalize Q7 b a (List.replicate b.length 0)=w at*
 have f:=abk a b w g d (aH a*aH b)
 have p:IntKind.wrap .i64 ((a.length:Int)+(b.length:Int))=((a.length+b.length:Nat):Int):=by rw [dD,bz (by omega)]
 rw [p,aJ,qh] at f
 have h:=aI.blk (s:=prO a b g d (0,List.replicate (a.length+b.length) 0)) (s':=prR w) (id:=0) o (by simp) rfl (aQ.refl _) (aQ.refl _)
 unfold prO at h
 simp only [List.length_replicate] at h
 exact f (decide_eq_true (by omega)) (decide_eq_true rfl) (decide_eq_true (by omega)) (BR w _ _ rfl (by rw [jE m,k]) (by omega)) fun nt i=>(h nt i).weak (aQ.of ⟨rfl,rfl,rfl,rfl,rfl,trivial⟩) (aQ.refl _)
theorem aaZ (s t:List UInt8) (hs:s.length<2^36) (c:t.length<2^36):CO 171 [.str s,.str t] (.ret (.str (af (ah s*ah t)))):=by
 have b:=qP (s:=s) (n:=2^34) (by omega)
 have a:=qP (s:=t) (n:=2^34) (by omega)
 have d:=Td b a
 have h:=abm (digs (ah s)) (digs (ah t)) true true (bM.digs _) (bM.digs _) (by omega) (by omega)
 rw [fC,fC] at h
 exact afL s t _ (uX s (by omega)) (uX t (by omega)) h (rJ _ _ true (wG _) (by omega) (by omega))
theorem ako {nt:Nat} (l:83≤nt) (u v o:List Nat) (k c x y:Nat) (m:AV.int .i64 (AV.toInt (List.headD (List.drop ((Int.toNat (k:Int))*1) (ak u)) .dead))= .int .i64 (x:Int)) (b:AV.int .i64 (IntKind.wrap .i64 ((c:Int)+(x:Int)))= .int .i64 (((c+x):Nat):Int)) (j:AV.int .i64 (AV.toInt (List.headD (List.drop ((Int.toNat (k:Int))*1) (ak v)) .dead))= .int .i64 (y:Int)) (g:AV.int .i64 (IntKind.wrap .i64 ((((c+x):Nat):Int)+(y:Int)))= .int .i64 (((c+x+y):Nat):Int)) (a:AV.int .i64 (Int.tmod (((c+x+y):Nat):Int) ((16777216:Nat):Int))= .int .i64 ((((c+x+y) % 16777216):Nat):Int)) (d:AV.int .i64 (IntKind.wrap .i64 (Int.tdiv (((c+x+y):Nat):Int) ((16777216:Nat):Int)))= .int .i64 ((((c+x+y) / 16777216):Nat):Int)) (e:AV.int .i64 (IntKind.wrap .i64 ((k:Int)+((1:Nat):Int)))= .int .i64 (((k+1):Nat):Int)) (p:(chk (.int .i64) (List.headD (List.drop ((Int.toNat (k:Int))*1) (ak v)) .dead))=true) (h:(decide (((0:Nat):Int)≤(k:Int)))=true) (i:(decide ((k:Int)<(v.length:Int)))=true) (n:(chk (.int .i64) (List.headD (List.drop ((Int.toNat (k:Int))*1) (ak u)) .dead))=true) (f:(decide ((k:Int)<(u.length:Int)))=true):ax prog ap [] nt (ag 0 (ai f80)) ⟨[(9,.sl (ak u) u.length false),(10,.sl (ak v) v.length false),(11,.nilS),(12,.int .i64 (c:Int)),(13,.int .i64 (k:Int))],[],.dead,[]⟩ (.normal) ⟨[(9,.sl (ak u) u.length false),(10,.sl (ak v) v.length false),(11,.ref 0 0 0 1),(12,.int .i64 ((((c+x+y) / 16777216):Nat):Int)),(13,.int .i64 (((k+1):Nat):Int))],[(0,⟨[.int .i64 ((((c+x+y) % 16777216):Nat):Int)],0,false,0,1,true⟩)],.dead,[]⟩:=pN 80 [] 6 31 (.k 5 p (.c h (.c i (.c (aG i) (.c n (.c h (.c f (.c (aG f) (.k 2 (aG f) .nil))))))))) (.v 52 (.eq e) (.v 80 (.eq d) (.v 76 (.eq a) (.v 73 (.eq g) (.v 72 (.eq j) (.v 63 (.eq b) (.v 62 (.eq m) .nil))))))) l
theorem akp {nt:Nat} (h:83≤nt) (u v o:List Nat) (k c x y:Nat) (i:AV.int .i64 (AV.toInt (List.headD (List.drop ((Int.toNat (k:Int))*1) (ak u)) .dead))= .int .i64 (x:Int)) (b:AV.int .i64 (IntKind.wrap .i64 ((c:Int)+(x:Int)))= .int .i64 (((c+x):Nat):Int)) (f:AV.int .i64 (Int.tmod (((c+x):Nat):Int) ((16777216:Nat):Int))= .int .i64 ((((c+x) % 16777216):Nat):Int)) (e:AV.int .i64 (IntKind.wrap .i64 (Int.tdiv (((c+x):Nat):Int) ((16777216:Nat):Int)))= .int .i64 ((((c+x) / 16777216):Nat):Int)) (a:AV.int .i64 (IntKind.wrap .i64 ((k:Int)+((1:Nat):Int)))= .int .i64 (((k+1):Nat):Int)) (l:(decide ((k:Int)<(v.length:Int)))=false) (j:(chk (.int .i64) (List.headD (List.drop ((Int.toNat (k:Int))*1) (ak u)) .dead))=true) (g:(decide (((0:Nat):Int)≤(k:Int)))=true) (d:(decide ((k:Int)<(u.length:Int)))=true):ax prog ap [] nt (ag 0 (ai f80)) ⟨[(9,.sl (ak u) u.length false),(10,.sl (ak v) v.length false),(11,.nilS),(12,.int .i64 (c:Int)),(13,.int .i64 (k:Int))],[],.dead,[]⟩ (.normal) ⟨[(9,.sl (ak u) u.length false),(10,.sl (ak v) v.length false),(11,.ref 0 0 0 1),(12,.int .i64 ((((c+x) / 16777216):Nat):Int)),(13,.int .i64 (((k+1):Nat):Int))],[(0,⟨[.int .i64 ((((c+x) % 16777216):Nat):Int)],0,false,0,1,true⟩)],.dead,[]⟩:=pN 80 [] 6 15 (.k 5 (aF l) (.c j (.c g (.c d (.c (aG d) (.k 2 (aG d) .nil)))))) (.v 52 (.eq a) (.v 80 (.eq e) (.v 76 (.eq f) (.v 63 (.eq b) (.v 62 (.eq i) .nil))))) h
theorem akq {nt:Nat} (i:83≤nt) (u v o:List Nat) (k c x y:Nat) (h:AV.int .i64 (AV.toInt (List.headD (List.drop ((Int.toNat (k:Int))*1) (ak v)) .dead))= .int .i64 (y:Int)) (b:AV.int .i64 (IntKind.wrap .i64 ((c:Int)+(y:Int)))= .int .i64 (((c+y):Nat):Int)) (e:AV.int .i64 (Int.tmod (((c+y):Nat):Int) ((16777216:Nat):Int))= .int .i64 ((((c+y) % 16777216):Nat):Int)) (d:AV.int .i64 (IntKind.wrap .i64 (Int.tdiv (((c+y):Nat):Int) ((16777216:Nat):Int)))= .int .i64 ((((c+y) / 16777216):Nat):Int)) (a:AV.int .i64 (IntKind.wrap .i64 ((k:Int)+((1:Nat):Int)))= .int .i64 (((k+1):Nat):Int)) (l:(chk (.int .i64) (List.headD (List.drop ((Int.toNat (k:Int))*1) (ak v)) .dead))=true) (j:(decide (((0:Nat):Int)≤(k:Int)))=true) (f:(decide ((k:Int)<(v.length:Int)))=true) (g:(decide ((k:Int)<(u.length:Int)))=false):ax prog ap [] nt (ag 0 (ai f80)) ⟨[(9,.sl (ak u) u.length false),(10,.sl (ak v) v.length false),(11,.nilS),(12,.int .i64 (c:Int)),(13,.int .i64 (k:Int))],[],.dead,[]⟩ (.normal) ⟨[(9,.sl (ak u) u.length false),(10,.sl (ak v) v.length false),(11,.ref 0 0 0 1),(12,.int .i64 ((((c+y) / 16777216):Nat):Int)),(13,.int .i64 (((k+1):Nat):Int))],[(0,⟨[.int .i64 ((((c+y) % 16777216):Nat):Int)],0,false,0,1,true⟩)],.dead,[]⟩:=pN 80 [] 6 22 (.k 5 l (.c j (.c f (.c (aG f) (.c (aF g) (.k 1 (aG f) (.c (aF g) .nil))))))) (.v 52 (.eq a) (.v 80 (.eq d) (.v 76 (.eq e) (.v 73 (.eq b) (.v 72 (.eq h) .nil))))) i
theorem akr {nt:Nat} (h:83≤nt) (u v o:List Nat) (k c x y:Nat) (d:AV.int .i64 (Int.tmod (c:Int) ((16777216:Nat):Int))= .int .i64 (((c % 16777216):Nat):Int)) (b:AV.int .i64 (IntKind.wrap .i64 (Int.tdiv (c:Int) ((16777216:Nat):Int)))= .int .i64 (((c / 16777216):Nat):Int)) (a:AV.int .i64 (IntKind.wrap .i64 ((k:Int)+((1:Nat):Int)))= .int .i64 (((k+1):Nat):Int)) (f:(decide ((k:Int)<(v.length:Int)))=false) (e:(decide ((k:Int)<(u.length:Int)))=false) (g:(decide (((0:Nat):Int)<(c:Int)))=true):ax prog ap [] nt (ag 0 (ai f80)) ⟨[(9,.sl (ak u) u.length false),(10,.sl (ak v) v.length false),(11,.nilS),(12,.int .i64 (c:Int)),(13,.int .i64 (k:Int))],[],.dead,[]⟩ (.normal) ⟨[(9,.sl (ak u) u.length false),(10,.sl (ak v) v.length false),(11,.ref 0 0 0 1),(12,.int .i64 (((c / 16777216):Nat):Int)),(13,.int .i64 (((k+1):Nat):Int))],[(0,⟨[.int .i64 (((c % 16777216):Nat):Int)],0,false,0,1,true⟩)],.dead,[]⟩:=pN 80 [] 6 4 (.k 5 (aF f) (.c (aF e) (.c (aG g) (.c (aF f) (.c (aF e) .nil))))) (.v 52 (.eq a) (.v 80 (.eq b) (.v 76 (.eq d) .nil))) h
theorem akt {nt:Nat} (d:83≤nt) (u v o:List Nat) (k c x y:Nat) (e:(decide (((0:Nat):Int)<(c:Int)))=false) (b:(decide ((k:Int)<(v.length:Int)))=false) (a:(decide ((k:Int)<(u.length:Int)))=false):ax prog ap [] nt (ag 0 (ai f80)) ⟨[(9,.sl (ak u) u.length false),(10,.sl (ak v) v.length false),(11,.nilS),(12,.int .i64 (c:Int)),(13,.int .i64 (k:Int))],[],.dead,[]⟩ (.exit 0) ⟨[(11,.nilS)],[],.dead,[]⟩:=pN 80 [] 3 0 (.c (aF e) (.c (aF b) (.c (aF a) .nil))) (.nil) d
theorem akj {nt:Nat} (m:83≤nt) (u v o:List Nat) (k c x y:Nat) (p:AV.int .i64 (AV.toInt (List.headD (List.drop ((Int.toNat (k:Int))*1) (ak u)) .dead))= .int .i64 (x:Int)) (d:AV.int .i64 (IntKind.wrap .i64 ((c:Int)+(x:Int)))= .int .i64 (((c+x):Nat):Int)) (j:AV.int .i64 (AV.toInt (List.headD (List.drop ((Int.toNat (k:Int))*1) (ak v)) .dead))= .int .i64 (y:Int)) (g:AV.int .i64 (IntKind.wrap .i64 ((((c+x):Nat):Int)+(y:Int)))= .int .i64 (((c+x+y):Nat):Int)) (b:AV.int .i64 (Int.tmod (((c+x+y):Nat):Int) ((16777216:Nat):Int))= .int .i64 ((((c+x+y) % 16777216):Nat):Int)) (e:AV.int .i64 (IntKind.wrap .i64 (Int.tdiv (((c+x+y):Nat):Int) ((16777216:Nat):Int)))= .int .i64 ((((c+x+y) / 16777216):Nat):Int)) (f:AV.int .i64 (IntKind.wrap .i64 ((k:Int)+((1:Nat):Int)))= .int .i64 (((k+1):Nat):Int)) (r:(Nat.ble (o.length+1) 1099511627776)=true) (l:(Nat.ble (o.length*1) (List.length (ak o)))=true) (n:(chk (.int .i64) (List.headD (List.drop ((Int.toNat (k:Int))*1) (ak v)) .dead))=true) (h:(decide (((0:Nat):Int)≤(k:Int)))=true) (i:(decide ((k:Int)<(v.length:Int)))=true) (q:(chk (.int .i64) (List.headD (List.drop ((Int.toNat (k:Int))*1) (ak u)) .dead))=true) (a:(decide ((k:Int)<(u.length:Int)))=true):ax prog ap [] nt (ag 0 (ai f80)) ⟨[(9,.sl (ak u) u.length false),(10,.sl (ak v) v.length false),(11,.ref 0 0 0 o.length),(12,.int .i64 (c:Int)),(13,.int .i64 (k:Int))],[(0,⟨(ak o),0,false,0,1,true⟩)],.dead,[]⟩ (.normal) ⟨[(9,.sl (ak u) u.length false),(10,.sl (ak v) v.length false),(11,.ref 0 0 0 (o.length+1)),(12,.int .i64 ((((c+x+y) / 16777216):Nat):Int)),(13,.int .i64 (((k+1):Nat):Int))],[(0,⟨((List.take (o.length*1) (ak o))++ [.int .i64 ((((c+x+y) % 16777216):Nat):Int)]),0,false,0,1,true⟩)],.dead,[]⟩:=pN 80 [] 5 31 (.k 2 r (.c l (.k 2 n (.c h (.c i (.c (aG i) (.c q (.c h (.c a (.c (aG a) (.k 2 (aG a) .nil))))))))))) (.v 52 (.eq f) (.v 80 (.eq e) (.v 76 (.eq b) (.v 73 (.eq g) (.v 72 (.eq j) (.v 63 (.eq d) (.v 62 (.eq p) .nil))))))) m
theorem akk {nt:Nat} (h:83≤nt) (u v o:List Nat) (k c x y:Nat) (l:AV.int .i64 (AV.toInt (List.headD (List.drop ((Int.toNat (k:Int))*1) (ak u)) .dead))= .int .i64 (x:Int)) (b:AV.int .i64 (IntKind.wrap .i64 ((c:Int)+(x:Int)))= .int .i64 (((c+x):Nat):Int)) (a:AV.int .i64 (Int.tmod (((c+x):Nat):Int) ((16777216:Nat):Int))= .int .i64 ((((c+x) % 16777216):Nat):Int)) (d:AV.int .i64 (IntKind.wrap .i64 (Int.tdiv (((c+x):Nat):Int) ((16777216:Nat):Int)))= .int .i64 ((((c+x) / 16777216):Nat):Int)) (e:AV.int .i64 (IntKind.wrap .i64 ((k:Int)+((1:Nat):Int)))= .int .i64 (((k+1):Nat):Int)) (n:(Nat.ble (o.length+1) 1099511627776)=true) (g:(Nat.ble (o.length*1) (List.length (ak o)))=true) (j:(decide ((k:Int)<(v.length:Int)))=false) (i:(chk (.int .i64) (List.headD (List.drop ((Int.toNat (k:Int))*1) (ak u)) .dead))=true) (m:(decide (((0:Nat):Int)≤(k:Int)))=true) (f:(decide ((k:Int)<(u.length:Int)))=true):ax prog ap [] nt (ag 0 (ai f80)) ⟨[(9,.sl (ak u) u.length false),(10,.sl (ak v) v.length false),(11,.ref 0 0 0 o.length),(12,.int .i64 (c:Int)),(13,.int .i64 (k:Int))],[(0,⟨(ak o),0,false,0,1,true⟩)],.dead,[]⟩ (.normal) ⟨[(9,.sl (ak u) u.length false),(10,.sl (ak v) v.length false),(11,.ref 0 0 0 (o.length+1)),(12,.int .i64 ((((c+x) / 16777216):Nat):Int)),(13,.int .i64 (((k+1):Nat):Int))],[(0,⟨((List.take (o.length*1) (ak o))++ [.int .i64 ((((c+x) % 16777216):Nat):Int)]),0,false,0,1,true⟩)],.dead,[]⟩:=pN 80 [] 5 15 (.k 2 n (.c g (.k 2 (aF j) (.c i (.c m (.c f (.c (aG f) (.k 2 (aG f) .nil)))))))) (.v 52 (.eq e) (.v 80 (.eq d) (.v 76 (.eq a) (.v 63 (.eq b) (.v 62 (.eq l) .nil))))) h
theorem akl {nt:Nat} (j:83≤nt) (u v o:List Nat) (k c x y:Nat) (h:AV.int .i64 (AV.toInt (List.headD (List.drop ((Int.toNat (k:Int))*1) (ak v)) .dead))= .int .i64 (y:Int)) (f:AV.int .i64 (IntKind.wrap .i64 ((c:Int)+(y:Int)))= .int .i64 (((c+y):Nat):Int)) (a:AV.int .i64 (Int.tmod (((c+y):Nat):Int) ((16777216:Nat):Int))= .int .i64 ((((c+y) % 16777216):Nat):Int)) (d:AV.int .i64 (IntKind.wrap .i64 (Int.tdiv (((c+y):Nat):Int) ((16777216:Nat):Int)))= .int .i64 ((((c+y) / 16777216):Nat):Int)) (e:AV.int .i64 (IntKind.wrap .i64 ((k:Int)+((1:Nat):Int)))= .int .i64 (((k+1):Nat):Int)) (n:(Nat.ble (o.length+1) 1099511627776)=true) (i:(Nat.ble (o.length*1) (List.length (ak o)))=true) (m:(chk (.int .i64) (List.headD (List.drop ((Int.toNat (k:Int))*1) (ak v)) .dead))=true) (l:(decide (((0:Nat):Int)≤(k:Int)))=true) (b:(decide ((k:Int)<(v.length:Int)))=true) (g:(decide ((k:Int)<(u.length:Int)))=false):ax prog ap [] nt (ag 0 (ai f80)) ⟨[(9,.sl (ak u) u.length false),(10,.sl (ak v) v.length false),(11,.ref 0 0 0 o.length),(12,.int .i64 (c:Int)),(13,.int .i64 (k:Int))],[(0,⟨(ak o),0,false,0,1,true⟩)],.dead,[]⟩ (.normal) ⟨[(9,.sl (ak u) u.length false),(10,.sl (ak v) v.length false),(11,.ref 0 0 0 (o.length+1)),(12,.int .i64 ((((c+y) / 16777216):Nat):Int)),(13,.int .i64 (((k+1):Nat):Int))],[(0,⟨((List.take (o.length*1) (ak o))++ [.int .i64 ((((c+y) % 16777216):Nat):Int)]),0,false,0,1,true⟩)],.dead,[]⟩:=pN 80 [] 5 22 (.k 2 n (.c i (.k 2 m (.c l (.c b (.c (aG b) (.c (aF g) (.k 1 (aG b) (.c (aF g) .nil))))))))) (.v 52 (.eq e) (.v 80 (.eq d) (.v 76 (.eq a) (.v 73 (.eq f) (.v 72 (.eq h) .nil))))) j
theorem akm {nt:Nat} (h:83≤nt) (u v o:List Nat) (k c x y:Nat) (d:AV.int .i64 (Int.tmod (c:Int) ((16777216:Nat):Int))= .int .i64 (((c % 16777216):Nat):Int)) (b:AV.int .i64 (IntKind.wrap .i64 (Int.tdiv (c:Int) ((16777216:Nat):Int)))= .int .i64 (((c / 16777216):Nat):Int)) (a:AV.int .i64 (IntKind.wrap .i64 ((k:Int)+((1:Nat):Int)))= .int .i64 (((k+1):Nat):Int)) (j:(Nat.ble (o.length+1) 1099511627776)=true) (i:(Nat.ble (o.length*1) (List.length (ak o)))=true) (e:(decide ((k:Int)<(v.length:Int)))=false) (f:(decide ((k:Int)<(u.length:Int)))=false) (g:(decide (((0:Nat):Int)<(c:Int)))=true):ax prog ap [] nt (ag 0 (ai f80)) ⟨[(9,.sl (ak u) u.length false),(10,.sl (ak v) v.length false),(11,.ref 0 0 0 o.length),(12,.int .i64 (c:Int)),(13,.int .i64 (k:Int))],[(0,⟨(ak o),0,false,0,1,true⟩)],.dead,[]⟩ (.normal) ⟨[(9,.sl (ak u) u.length false),(10,.sl (ak v) v.length false),(11,.ref 0 0 0 (o.length+1)),(12,.int .i64 (((c / 16777216):Nat):Int)),(13,.int .i64 (((k+1):Nat):Int))],[(0,⟨((List.take (o.length*1) (ak o))++ [.int .i64 (((c % 16777216):Nat):Int)]),0,false,0,1,true⟩)],.dead,[]⟩:=pN 80 [] 5 4 (.k 2 j (.c i (.k 2 (aF e) (.c (aF f) (.c (aG g) (.c (aF e) (.c (aF f) .nil))))))) (.v 52 (.eq a) (.v 80 (.eq b) (.v 76 (.eq d) .nil))) h
theorem akn {nt:Nat} (d:83≤nt) (u v o:List Nat) (k c x y:Nat) (e:(decide (((0:Nat):Int)<(c:Int)))=false) (b:(decide ((k:Int)<(v.length:Int)))=false) (a:(decide ((k:Int)<(u.length:Int)))=false):ax prog ap [] nt (ag 0 (ai f80)) ⟨[(9,.sl (ak u) u.length false),(10,.sl (ak v) v.length false),(11,.ref 0 0 0 o.length),(12,.int .i64 (c:Int)),(13,.int .i64 (k:Int))],[(0,⟨(ak o),0,false,0,1,true⟩)],.dead,[]⟩ (.exit 0) ⟨[(11,.ref 0 0 0 o.length)],[(0,⟨(ak o),0,false,0,1,true⟩)],.dead,[]⟩:=pN 80 [] 3 0 (.c (aF e) (.c (aF b) (.c (aF a) .nil))) (.nil) d
theorem afZ (s t:List UInt8) (x y z:Nat) (w:List Nat) (a:CO 134 [.str s,.int .i64 7] (.ret (.tup [.int .i64 (x:Int),.bool true]))) (c:CO 134 [.str t,.int .i64 7] (.ret (.tup [.int .i64 (y:Int),.bool true]))) (b:CO 79 [.int .i64 (IntKind.wrap .i64 ((x:Int)+(y:Int)))] (.ret (.str (af z)))):CO 80 [.str s,.str t] (.ret (.str (af z))):=pK [] 2 3 (.n 2 .nil) (.c b (.c c (.c a .nil)))
theorem af2 (s t:List UInt8) (x y z:Nat) (w:List Nat) (a:CO 134 [.str s,.int .i64 7] (.ret (.tup [.int .i64 (x:Int),.bool true]))) (f:CO 134 [.str t,.int .i64 7] (.ret (.tup [.int .i64 (y:Int),.bool false]))) (d:CO 135 [.str s] (.ret (.sl (ak (au (ah s))) (au (ah s)).length false))) (c:CO 135 [.str t] (.ret (.sl (ak (au (ah t))) (au (ah t)).length false))) (e:CO 136 [.sl (List.take (w.length*1) (ak w)) w.length true] (.ret (.str (af z)))) (b:aO prog ap [] 83 (.block 0 (.loop (ag 0 (ai f80)))) ⟨[(0,.str s),(1,.str t),(4,.str []),(5,.int .i64 (x:Int)),(6,.bool true),(7,.int .i64 (y:Int)),(8,.bool false),(9,.sl (ak (au (ah s))) (au (ah s)).length false),(10,.sl (ak (au (ah t))) (au (ah t)).length false),(11,.nilS),(12,.int .i64 0),(13,.int .i64 0),(14,.dead),(28,.bool false),(50,.dead),(57,.dead),(67,.dead)],[],.dead,[]⟩ (.normal) ⟨[(11,.ref 0 0 0 w.length)],[(0,⟨(ak w),0,false,0,1,true⟩)],.dead,[]⟩):CO 80 [.str s,.str t] (.ret (.str (af z))):=pK [0] 2 1 (.n 2 .nil) (.c e (.l b (.c c (.c d (.c f (.c a .nil))))))
theorem af4 (s t:List UInt8) (x y z:Nat) (w:List Nat) (a:CO 134 [.str s,.int .i64 7] (.ret (.tup [.int .i64 (x:Int),.bool false]))) (f:CO 134 [.str t,.int .i64 7] (.ret (.tup [.int .i64 (y:Int),.bool true]))) (d:CO 135 [.str s] (.ret (.sl (ak (au (ah s))) (au (ah s)).length false))) (c:CO 135 [.str t] (.ret (.sl (ak (au (ah t))) (au (ah t)).length false))) (e:CO 136 [.sl (List.take (w.length*1) (ak w)) w.length true] (.ret (.str (af z)))) (b:aO prog ap [] 83 (.block 0 (.loop (ag 0 (ai f80)))) ⟨[(0,.str s),(1,.str t),(4,.str []),(5,.int .i64 (x:Int)),(6,.bool false),(7,.int .i64 (y:Int)),(8,.bool true),(9,.sl (ak (au (ah s))) (au (ah s)).length false),(10,.sl (ak (au (ah t))) (au (ah t)).length false),(11,.nilS),(12,.int .i64 0),(13,.int .i64 0),(14,.dead),(28,.bool false),(50,.dead),(57,.dead),(67,.dead)],[],.dead,[]⟩ (.normal) ⟨[(11,.ref 0 0 0 w.length)],[(0,⟨(ak w),0,false,0,1,true⟩)],.dead,[]⟩):CO 80 [.str s,.str t] (.ret (.str (af z))):=pK [0] 2 0 (.n 2 .nil) (.c e (.l b (.c c (.c d (.c f (.c a .nil))))))
theorem af5 (s t:List UInt8) (x y z:Nat) (w:List Nat) (a:CO 134 [.str s,.int .i64 7] (.ret (.tup [.int .i64 (x:Int),.bool false]))) (f:CO 134 [.str t,.int .i64 7] (.ret (.tup [.int .i64 (y:Int),.bool false]))) (d:CO 135 [.str s] (.ret (.sl (ak (au (ah s))) (au (ah s)).length false))) (c:CO 135 [.str t] (.ret (.sl (ak (au (ah t))) (au (ah t)).length false))) (e:CO 136 [.sl (List.take (w.length*1) (ak w)) w.length true] (.ret (.str (af z)))) (b:aO prog ap [] 83 (.block 0 (.loop (ag 0 (ai f80)))) ⟨[(0,.str s),(1,.str t),(4,.str []),(5,.int .i64 (x:Int)),(6,.bool false),(7,.int .i64 (y:Int)),(8,.bool false),(9,.sl (ak (au (ah s))) (au (ah s)).length false),(10,.sl (ak (au (ah t))) (au (ah t)).length false),(11,.nilS),(12,.int .i64 0),(13,.int .i64 0),(14,.dead),(28,.bool false),(50,.dead),(57,.dead),(67,.dead)],[],.dead,[]⟩ (.normal) ⟨[(11,.ref 0 0 0 w.length)],[(0,⟨(ak w),0,false,0,1,true⟩)],.dead,[]⟩):CO 80 [.str s,.str t] (.ret (.str (af z))):=pK [0] 2 0 (.n 2 .nil) (.c e (.l b (.c c (.c d (.c f (.c a .nil))))))
theorem akI (s t:List UInt8) (x y z:Nat) (w:List Nat) (b:(decide ((lU (ah s) (ah t))<((0:Nat):Int)))=false) (a:CO 101 [.str s,.str t] (.ret (.int .i64 (lU (ah s) (ah t))))) (f:CO 135 [.str s] (.ret (.sl (ak (au (ah s))) (au (ah s)).length false))) (d:CO 135 [.str t] (.ret (.sl (ak (au (ah t))) (au (ah t)).length false))) (c:CO 151 [.sl (ak (au (ah s))) (au (ah s)).length false,.sl (ak (au (ah t))) (au (ah t)).length false] (.ret (.sl (ak (au z)) (au z).length false))) (e:CO 136 [.sl (ak (au z)) (au z).length false] (.ret (.str (af z)))):CO 102 [.str s,.str t] (.ret (.tup [.str (af z),.bool true])):=pK [] 1 0 (.c (aF b) .nil) (.c e (.c c (.c d (.c f (.c a .nil)))))
def apQ (o:List Nat):AV:=match o with| []=> .nilS|_::_=> .ref 0 0 0 o.length
def hpQ (o:List Nat):Hp:=match o with| []=> []|a::r=> [(0,⟨ak (a::r),0,false,0,1,true⟩)]
def AO (u v:List Nat) (p:List Nat × Nat):St:=⟨[(9,.sl (ak u) u.length false),(10,.sl (ak v) v.length false),(11,apQ p.1),(12,.int .i64 (p.2:Int)),(13,.int .i64 (p.1.length:Int))],hpQ p.1,.dead,[]⟩
def Ri (o:List Nat):St:=⟨[(11,apQ o)],hpQ o,.dead,[]⟩
theorem JH {u r:List Nat} {x k:Nat} (h:List.drop k u=x::r):(List.headD (List.drop ((Int.toNat (k:Int))*1) (ak u)) .dead)= .int .i64 (x:Int)∧k<u.length:=by
 refine ⟨?_, ?_⟩
 ·rw [aJ,Nat.mul_one]
  have:List.drop k (ak u)=ak (List.drop k u):=by unfold ak;rw [List.map_drop]
  rw [this,h];rfl
 ·have:=congrArg List.length h
  rw [List.length_drop,List.length_cons] at this
  omega
theorem AL {u:List Nat} {k:Nat} (h:List.drop k u= []):u.length≤k:=by
 have:=congrArg List.length h
 rw [List.length_drop,List.length_nil] at this
 omega
theorem Rf (o:List Nat) (d:Nat):List.take (o.length*1) (ak o)++ [AV.int .i64 (d:Int)]=ak (o++ [d]):=by
 rw [Nat.mul_one,dK,List.take_length,kJ]
theorem MC (S:Nat):AV.int .i64 (Int.tmod (S:Int) ((16777216:Nat):Int))= .int .i64 (((S % 16777216):Nat):Int):=by rw [uu]
theorem MB {S:Nat} (h:S<2^62):AV.int .i64 (IntKind.wrap .i64 (Int.tdiv (S:Int) ((16777216:Nat):Int)))= .int .i64 (((S / 16777216):Nat):Int):=by rw [su,bz (by omega)]
theorem aki {nt:Nat} (d:83≤nt) {u v o ru rv:List Nat} {c x y:Nat} (g:List.drop o.length u=x::ru) (i:List.drop o.length v=y::rv) (m:x<16777216) (j:y<16777216) (k:c<16777216) (l:o.length<2^39):
  ax prog ap [] nt (ag 0 (ai f80)) (AO u v (o,c)) .normal (AO u v (o++ [(c+x+y) % 16777216],(c+x+y) / 16777216)):=by
 obtain ⟨e,k1⟩:=JH g
 obtain ⟨f,k2⟩:=JH i
 cases o with
 |nil=>
  have hs:=ako d u v [] ([]:List Nat).length c x y
  rw [e,f] at hs
  apply hs<;>first|exact rfl|exact Sr (by omega)|exact MC _|exact MB (by omega)|exact nS _|exact kX k1|exact kX k2
 |cons a r=>
  have hs:=akj d u v (a::r) (a::r).length c x y
  rw [e,f,Rf,show (a::r).length+1=((a::r)++ [(c+x+y) % 16777216]).length by simp] at hs
  apply hs<;>first|exact rfl|exact Sr (by omega)|exact MC _|exact MB (by omega)|exact nS _|exact kX k1|exact kX k2|(rw [Nat.ble_eq];simp only [List.length_append,List.length_singleton,bZ,Nat.mul_one];omega)|(have h:=Sr (a:=(a::r).length) (b:=1) (by omega);rw [show (a::r).length+1=((a::r)++ [(c+x+y) % 16777216]).length by simp] at h;exact h)
theorem akh {nt:Nat} (d:83≤nt) {u v o ru rv:List Nat} {c x y:Nat} (f:List.drop o.length u=x::ru) (g:List.drop o.length v= []) (k:x<16777216) (i:c<16777216) (j:o.length<2^39):
  ax prog ap [] nt (ag 0 (ai f80)) (AO u v (o,c)) .normal (AO u v (o++ [(c+x) % 16777216],(c+x) / 16777216)):=by
 obtain ⟨e,k1⟩:=JH f
 have k2:=AL g
 cases o with
 |nil=>
  have hs:=akp d u v [] ([]:List Nat).length c x y
  rw [e] at hs
  apply hs<;>first|exact rfl|exact Sr (by omega)|exact MC _|exact MB (by omega)|exact nS _|exact kX k1|exact Ce k2
 |cons a r=>
  have hs:=akk d u v (a::r) (a::r).length c x y
  rw [e,Rf,show (a::r).length+1=((a::r)++ [(c+x) % 16777216]).length by simp] at hs
  apply hs<;>first|exact rfl|exact Sr (by omega)|exact MC _|exact MB (by omega)|exact nS _|exact kX k1|exact Ce k2|(rw [Nat.ble_eq];simp only [List.length_append,List.length_singleton,bZ,Nat.mul_one];omega)|(have h:=Sr (a:=(a::r).length) (b:=1) (by omega);rw [show (a::r).length+1=((a::r)++ [(c+x) % 16777216]).length by simp] at h;exact h)
theorem akg {nt:Nat} (d:83≤nt) {u v o ru rv:List Nat} {c x y:Nat} (f:List.drop o.length u= []) (g:List.drop o.length v=y::rv) (i:y<16777216) (j:c<16777216) (k:o.length<2^39):
  ax prog ap [] nt (ag 0 (ai f80)) (AO u v (o,c)) .normal (AO u v (o++ [(c+y) % 16777216],(c+y) / 16777216)):=by
 have k1:=AL f
 obtain ⟨e,k2⟩:=JH g
 cases o with
 |nil=>
  have hs:=akq d u v [] ([]:List Nat).length c x y
  rw [e] at hs
  apply hs<;>first|exact rfl|exact Sr (by omega)|exact MC _|exact MB (by omega)|exact nS _|exact Ce k1|exact kX k2
 |cons a r=>
  have hs:=akl d u v (a::r) (a::r).length c x y
  rw [e,Rf,show (a::r).length+1=((a::r)++ [(c+y) % 16777216]).length by simp] at hs
  apply hs<;>first|exact rfl|exact Sr (by omega)|exact MC _|exact MB (by omega)|exact nS _|exact Ce k1|exact kX k2|(rw [Nat.ble_eq];simp only [List.length_append,List.length_singleton,bZ,Nat.mul_one];omega)|(have h:=Sr (a:=(a::r).length) (b:=1) (by omega);rw [show (a::r).length+1=((a::r)++ [(c+y) % 16777216]).length by simp] at h;exact h)
theorem akf {nt:Nat} (e:83≤nt) {u v o ru rv:List Nat} {c x y:Nat} (f:List.drop o.length u= []) (g:List.drop o.length v= []) (d:0<c) (i:c<16777216) (j:o.length<2^39):
  ax prog ap [] nt (ag 0 (ai f80)) (AO u v (o,c)) .normal (AO u v (o++ [(c) % 16777216],(c) / 16777216)):=by
 have k1:=AL f
 have k2:=AL g
 cases o with
 |nil=>
  have hs:=akr e u v [] ([]:List Nat).length c x y
  apply hs<;>first|exact rfl|exact Sr (by omega)|exact MC _|exact MB (by omega)|exact nS _|exact Ce k1|exact Ce k2|exact kX d
 |cons a r=>
  have hs:=akm e u v (a::r) (a::r).length c x y
  rw [Rf,show (a::r).length+1=((a::r)++ [(c) % 16777216]).length by simp] at hs
  apply hs<;>first|exact rfl|exact Sr (by omega)|exact MC _|exact MB (by omega)|exact nS _|exact Ce k1|exact Ce k2|exact kX d|(rw [Nat.ble_eq];simp only [List.length_append,List.length_singleton,bZ,Nat.mul_one];omega)|(have h:=Sr (a:=(a::r).length) (b:=1) (by omega);rw [show (a::r).length+1=((a::r)++ [(c) % 16777216]).length by simp] at h;exact h)
theorem XO {nt:Nat} (b:83≤nt) {u v o:List Nat} (d:List.drop o.length u= []) (c:List.drop o.length v= []):ax prog ap [] nt (ag 0 (ai f80)) (AO u v (o,0)) (.exit 0) (Ri o):=by
 have k1:=AL d
 have k2:=AL c
 cases o with
 |nil=>exact akt b u v [] ([]:List Nat).length 0 0 0 rfl (Ce k2) (Ce k1)
 |cons a r=>exact akn b u v (a::r) (a::r).length 0 0 0 rfl (Ce k2) (Ce k1)
def Kq:List Nat→List Nat→Nat→List Nat
 | [],[],c=>if 0<c then [c % 16777216] else []
 | [],y::v,c=>(c+y) % 16777216::Kq [] v ((c+y) / 16777216)
 |x::u,[],c=>(c+x) % 16777216::Kq u [] ((c+x) / 16777216)
 |x::u,y::v,c=>(c+x+y) % 16777216::Kq u v ((c+x+y) / 16777216)
theorem CS:∀ (u v:List Nat) (c:Nat),bu u→bu v→c≤1→cO (Kq u v c)=cO u+cO v+c∧bu (Kq u v c)∧(Kq u v c).length≤u.length+v.length+1∧u.length≤(Kq u v c).length∧v.length≤(Kq u v c).length
 | [],[],c,_,_,hc=>by
  simp only [Kq]
  rcases Nat.eq_zero_or_pos c with h|h
  ·subst h;exact ⟨rfl,bu.nil,by simp,by simp,by simp⟩
  ·rw [if_pos h]
   exact ⟨by simp only [cO];omega,bu.cons (Nat.mod_lt _ (by omega)) bu.nil,by simp,by simp,by simp⟩
 | [],y::v,c,hu,hv,hc=>by
  have g:=hv.head
  obtain ⟨a,b,e,f,d⟩:=CS [] v ((c+y) / 16777216) hu hv.tail (by omega)
  simp only [Kq]
  refine ⟨?_,bu.cons (Nat.mod_lt _ (by omega)) b,by simp only [List.length_cons,List.length_nil] at*;omega,by simp,by simp only [List.length_cons];omega⟩
  simp only [cO] at*
  rw [a];omega
 |x::u,[],c,hu,hv,hc=>by
  have i:=hu.head
  obtain ⟨a,b,e,f,d⟩:=CS u [] ((c+x) / 16777216) hu.tail hv (by omega)
  simp only [Kq]
  refine ⟨?_,bu.cons (Nat.mod_lt _ (by omega)) b,by simp only [List.length_cons,List.length_nil] at*;omega,by simp only [List.length_cons];omega,by simp⟩
  simp only [cO] at*
  rw [a];omega
 |x::u,y::v,c,hu,hv,hc=>by
  have i:=hu.head
  have g:=hv.head
  obtain ⟨a,b,e,f,d⟩:=CS u v ((c+x+y) / 16777216) hu.tail hv.tail (by omega)
  simp only [Kq]
  refine ⟨?_,bu.cons (Nat.mod_lt _ (by omega)) b,by simp only [List.length_cons] at*;omega,by simp only [List.length_cons];omega,by simp only [List.length_cons];omega⟩
  simp only [cO] at*
  rw [a];omega
theorem Qk {u r:List Nat} {x d:Nat} {o:List Nat} (h:List.drop o.length u=x::r):List.drop (o++ [d]).length u=r:=by
 rw [List.length_append,List.length_singleton,← List.drop_drop,h];rfl
theorem Qj {u:List Nat} {d:Nat} {o:List Nat} (h:List.drop o.length u= []):List.drop (o++ [d]).length u= []:=by
 rw [List.length_append,List.length_singleton,← List.drop_drop,h];rfl
theorem Dl {nt:Nat} (d:83≤nt) {u v:List Nat}:∀ (a b o:List Nat) (c:Nat),List.drop o.length u=a→List.drop o.length v=b→bu a→bu b→c≤1→o.length+a.length+b.length<2^38→
  aI prog ap [] nt (ag 0 (ai f80)) (fun _=> .exit 0) (AO u v) Ri (o,c) (o++Kq a b c)
 | [],[],o,c,hu,hv,_,_,hc,hl=>by
  simp only [List.length_nil] at hl
  simp only [Kq]
  rcases Nat.eq_zero_or_pos c with h|h
  ·subst h
   rw [if_neg (by omega),List.append_nil]
   exact .done (XO d hu hv)
  ·rw [if_pos h]
   have j:c / 16777216=0:=by omega
   have i:=akf d (x:=0) (y:=0) (ru:= []) (rv:= []) hu hv h (by omega) (by omega)
   rw [j] at i
   exact .next i (.done (XO d (Qj hu) (Qj hv)))
 | [],y::b,o,c,hu,hv,ha,hb,hc,hl=>by
  have f:=hb.head
  simp only [List.length_nil,List.length_cons] at hl
  have e:=Dl d [] b (o++ [(c+y) % 16777216]) ((c+y) / 16777216) (Qj hu) (Qk hv) ha hb.tail (by omega) (by simp only [List.length_append,List.length_singleton,List.length_nil];omega)
  rw [List.append_assoc,List.singleton_append] at e
  simp only [Kq]
  exact .next (akg d (x:=0) (ru:= []) hu hv f (by omega) (by omega)) e
 |x::a,[],o,c,hu,hv,ha,hb,hc,hl=>by
  have g:=ha.head
  simp only [List.length_nil,List.length_cons] at hl
  have e:=Dl d a [] (o++ [(c+x) % 16777216]) ((c+x) / 16777216) (Qk hu) (Qj hv) ha.tail hb (by omega) (by simp only [List.length_append,List.length_singleton,List.length_nil];omega)
  rw [List.append_assoc,List.singleton_append] at e
  simp only [Kq]
  exact .next (akh d (y:=0) (rv:= []) hu hv g (by omega) (by omega)) e
 |x::a,y::b,o,c,hu,hv,ha,hb,hc,hl=>by
  have g:=ha.head
  have f:=hb.head
  simp only [List.length_cons] at hl
  have e:=Dl d a b (o++ [(c+x+y) % 16777216]) ((c+x+y) / 16777216) (Qk hu) (Qk hv) ha.tail hb.tail (by omega) (by simp only [List.length_append,List.length_singleton];omega)
  rw [List.append_assoc,List.singleton_append] at e
  simp only [Kq]
  exact .next (aki d hu hv g f (by omega) (by omega)) e
theorem Qg (s:List UInt8):(au (ah s)).length≤s.length:=sJ (Nat.lt_of_lt_of_le (kV s) (by rw [Nat.pow_mul];exact Nat.pow_le_pow_left (by decide) _))
theorem XN (s t:List UInt8) (hs:s.length<2^35) (j:t.length<2^35) (h:2^(8*7)≤ah s∨2^(8*7)≤ah t):∃ w:List Nat,w.length≤s.length+t.length+1∧bu w∧cO w=ah s+ah t∧w ≠ []∧∀ nt,83≤nt→aI prog ap [] nt (ag 0 (ai f80)) (fun _=> .exit 0) (AO (au (ah s)) (au (ah t))) Ri ([],0) w:=by
 have e:=Qg s
 have i:=Qg t
 obtain ⟨a,b,f,g,k⟩:=CS (au (ah s)) (au (ah t)) 0 (bu.dig _) (bu.dig _) (by omega)
 rw [eP,eP,Nat.add_zero] at a
 refine ⟨_,by omega,b,a, ?_,fun nt d=>Dl d (au (ah s)) (au (ah t)) [] 0 rfl rfl (bu.dig _) (bu.dig _) (by omega) (by simp only [List.length_nil];omega)⟩
 intro c
 rw [c] at a
 simp only [cO] at a
 omega
theorem Il (s t:List UInt8) (hs:s.length<2^34) (x:t.length<2^34):CO 80 [.str s,.str t] (.ret (.str (af (ah s+ah t)))):=by
 have g:=BP s (by omega)
 have k:=BP t (by omega)
 have q:=xw (s:=s) (by omega)
 have u:=xw (s:=t) (by omega)
 have f:2^(8*7)≤ah s∨2^(8*7)≤ah t→∃ w:List Nat,CO 136 [.sl (List.take (w.length*1) (ak w)) w.length true] (.ret (.str (af (ah s+ah t))))∧aO prog ap [] 83 (.block 0 (.loop (ag 0 (ai f80)))) (AO (au (ah s)) (au (ah t)) ([],0)) .normal ⟨[(11,.ref 0 0 0 w.length)],[(0,⟨ak w,0,false,0,1,true⟩)],.dead,[]⟩:=by
  intro h
  obtain ⟨w,v,n,o,m,p⟩:=XN s t (by omega) (by omega) h
  have j:w.length<2^36:=by omega
  have b:=uU w true j n
  rw [o] at b
  have i:List.take (w.length*1) (ak w)=ak w:=by rw [Nat.mul_one,dK,List.take_length]
  refine ⟨w,by rw [i];exact b, ?_⟩
  have c:=aI.blk (s:=AO (au (ah s)) (au (ah t)) ([],0)) (s':=Ri w) (id:=0) p (by simp) rfl (aQ.refl _) (aQ.refl _)
  cases w with
  |nil=>exact absurd rfl m
  |cons a r=>exact c
 rcases Nat.lt_or_ge (ah s) (2^(8*7)) with c1|c1
 ·have e:=gU s 7 (by omega) (by omega) c1
  rcases Nat.lt_or_ge (ah t) (2^(8*7)) with c2|c2
  ·have l:=jQ (ah s+ah t) (by omega)
   have j:IntKind.wrap .i64 (((ah s:Nat):Int)+((ah t:Nat):Int))=((ah s+ah t:Nat):Int):=by rw [dD,bz (by omega)]
   rw [← j] at l
   exact afZ s t _ _ _ [] e (gU t 7 (by omega) (by omega) c2) l
  ·obtain ⟨w,b,c⟩:=f (.inr c2)
   exact af2 s t _ 0 _ w e (kS t 7 (by omega) c2) g k b fun nt d=>(c nt d).weak (aQ.of ⟨rfl,rfl,rfl,rfl,rfl,trivial⟩) (aQ.refl _)
 ·have e:=kS s 7 (by omega) c1
  obtain ⟨w,b,c⟩:=f (.inl c1)
  rcases Nat.lt_or_ge (ah t) (2^(8*7)) with c2|c2
  ·exact af4 s t 0 _ _ w e (gU t 7 (by omega) (by omega) c2) g k b fun nt d=>(c nt d).weak (aQ.of ⟨rfl,rfl,rfl,rfl,rfl,trivial⟩) (aQ.refl _)
  ·exact af5 s t 0 0 _ w e (kS t 7 (by omega) c2) g k b fun nt d=>(c nt d).weak (aQ.of ⟨rfl,rfl,rfl,rfl,rfl,trivial⟩) (aQ.refl _)
theorem Yf (x y:Nat):decide (lU x y<((0:Nat):Int))=decide (x<y):=by
 unfold lU
 by_cases h:x<y
 ·rw [if_pos h,decide_eq_true h];rfl
 ·rw [if_neg h,decide_eq_false h];split<;>rfl
theorem Zt {x y:Nat} (h:y≤x) (b:(au x).length<2^36):(au y).length<2^36:=by
 have a:=zN (bu.dig x)
 rw [eP] at a
 exact Nat.lt_of_le_of_lt (sJ (Nat.lt_of_le_of_lt h a)) b
theorem Uw (s t:List UInt8) (hs:s.length<2^35) (d:t.length<2^35) (h:ah t≤ah s):CO 102 [.str s,.str t] (.ret (.tup [.str (af (ah s - ah t)),.bool true])):=by
 have c:=xw (s:=s) hs
 have b:=Zt (Nat.sub_le (ah s) (ah t)) (by omega)
 have a:=uU (au (ah s - ah t)) false b (bu.dig _)
 rw [eP] at a
 exact akI s t 0 0 _ [] (by rw [Yf];exact decide_eq_false (by omega)) (JI s t (by omega) (by omega)) (BP s (by omega)) (BP t (by omega)) (LP _ _ false false h (by omega)) a
theorem akN (d k:Bool) (e c j i:List UInt8) (a b r:RQ) (h:(iU d e c)=false) (f:CO 115 [.agg [.bool d,.str e,.str c]] (.ret (.bool (iU d e c)))) (g:CO 42 [.int .i64 0] (.ret (.agg [.bool false,.str (af 0),.str (af 1)]))):CO 170 [.agg [.bool d,.str e,.str c]] (.ret (.agg [.bool false,.str (af 0),.str (af 1)])):=pK [] 1 1 (.k 4 (eF h) (.n 3 .nil)) (.c g (.c f .nil))
theorem akO (d j:Bool) (e c i h:List UInt8) (a b r:RQ) (g:(iU d e c)=true) (f:CO 115 [.agg [.bool d,.str e,.str c]] (.ret (.bool (iU d e c)))):CO 170 [.agg [.bool d,.str e,.str c]] (.ret (.agg [.bool d,.str e,.str c])):=pK [] 1 0 (.k 7 (a_ g) (.n 3 .nil)) (.c f .nil)
theorem akC (d j:Bool) (e c i h:List UInt8) (a b r:RQ) (g:a.neg=false) (f:CO 170 [.agg [.bool d,.str e,.str c]] (.ret (.agg [.bool a.neg,.str (af a.n),.str (af a.d)]))):CO 200 [.agg [.bool d,.str e,.str c]] (.ret (.agg [.bool (!((af a.n)== [])),.str (af a.n),.str (af a.d)])):=pK [] 1 1 (.k 9 (eF g) (.n 5 .nil)) (.c f .nil)
theorem akD (d j:Bool) (e c i h:List UInt8) (a b r:RQ) (g:a.neg=true) (f:CO 170 [.agg [.bool d,.str e,.str c]] (.ret (.agg [.bool a.neg,.str (af a.n),.str (af a.d)]))):CO 200 [.agg [.bool d,.str e,.str c]] (.ret (.agg [.bool false,.str (af a.n),.str (af a.d)])):=pK [] 1 0 (.k 8 (a_ g) (.n 5 .nil)) (.c f .nil)
theorem abC (e h:Bool) (f c g d:List UInt8) (a b r:RQ) (p:(a.neg==b.neg)=true) (i:CO 170 [.agg [.bool e,.str f,.str c]] (.ret (.agg [.bool a.neg,.str (af a.n),.str (af a.d)]))) (m:CO 170 [.agg [.bool h,.str g,.str d]] (.ret (.agg [.bool b.neg,.str (af b.n),.str (af b.d)]))) (n:CO 171 [.str (af a.n),.str (af b.d)] (.ret (.str (af (a.n*b.d))))) (l:CO 171 [.str (af b.n),.str (af a.d)] (.ret (.str (af (b.n*a.d))))) (o:CO 171 [.str (af a.d),.str (af b.d)] (.ret (.str (af (a.d*b.d))))) (j:CO 71 [.str (af (a.n*b.d)),.str (af (b.n*a.d))] (.ret (.str (af ((a.n*b.d)+(b.n*a.d)))))) (k:CO 160 [.bool a.neg,.str (af ((a.n*b.d)+(b.n*a.d))),.str (af (a.d*b.d))] (.ret (.agg [.bool r.neg,.str (af r.n),.str (af r.d)]))):CO 167 [.agg [.bool e,.str f,.str c],.agg [.bool h,.str g,.str d]] (.ret (.agg [.bool r.neg,.str (af r.n),.str (af r.d)])):=pK [] 1 1 (.k 5 (aG p) (.n 16 .nil)) (.c k (.c j (.c o (.c l (.c n (.c m (.c i .nil)))))))
theorem abD (e h:Bool) (f c g d:List UInt8) (a b r:RQ) (p:(a.neg==b.neg)=false) (i:CO 170 [.agg [.bool e,.str f,.str c]] (.ret (.agg [.bool a.neg,.str (af a.n),.str (af a.d)]))) (m:CO 170 [.agg [.bool h,.str g,.str d]] (.ret (.agg [.bool b.neg,.str (af b.n),.str (af b.d)]))) (n:CO 171 [.str (af a.n),.str (af b.d)] (.ret (.str (af (a.n*b.d))))) (l:CO 171 [.str (af b.n),.str (af a.d)] (.ret (.str (af (b.n*a.d))))) (o:CO 171 [.str (af a.d),.str (af b.d)] (.ret (.str (af (a.d*b.d))))) (j:CO 199 [.str (af (a.n*b.d)),.str (af (b.n*a.d))] (.ret (.tup [.str (af ((a.n*b.d) - (b.n*a.d))),.bool true]))) (k:CO 160 [.bool a.neg,.str (af ((a.n*b.d) - (b.n*a.d))),.str (af (a.d*b.d))] (.ret (.agg [.bool r.neg,.str (af r.n),.str (af r.d)]))):CO 167 [.agg [.bool e,.str f,.str c],.agg [.bool h,.str g,.str d]] (.ret (.agg [.bool r.neg,.str (af r.n),.str (af r.d)])):=pK [] 2 2 (.k 6 (aF p) (.n 16 .nil)) (.c k (.c j (.c o (.c l (.c n (.c m (.c i .nil)))))))
theorem abB (e h:Bool) (f c g d:List UInt8) (a b r:RQ) (q:(a.neg==b.neg)=false) (i:CO 170 [.agg [.bool e,.str f,.str c]] (.ret (.agg [.bool a.neg,.str (af a.n),.str (af a.d)]))) (m:CO 170 [.agg [.bool h,.str g,.str d]] (.ret (.agg [.bool b.neg,.str (af b.n),.str (af b.d)]))) (n:CO 171 [.str (af a.n),.str (af b.d)] (.ret (.str (af (a.n*b.d))))) (l:CO 171 [.str (af b.n),.str (af a.d)] (.ret (.str (af (b.n*a.d))))) (o:CO 171 [.str (af a.d),.str (af b.d)] (.ret (.str (af (a.d*b.d))))) (j:CO 199 [.str (af (a.n*b.d)),.str (af (b.n*a.d))] (.ret (.tup [.str [],.bool false]))) (k:CO 199 [.str (af (b.n*a.d)),.str (af (a.n*b.d))] (.ret (.tup [.str (af ((b.n*a.d) - (a.n*b.d))),.bool true]))) (p:CO 160 [.bool b.neg,.str (af ((b.n*a.d) - (a.n*b.d))),.str (af (a.d*b.d))] (.ret (.agg [.bool r.neg,.str (af r.n),.str (af r.d)]))):CO 167 [.agg [.bool e,.str f,.str c],.agg [.bool h,.str g,.str d]] (.ret (.agg [.bool r.neg,.str (af r.n),.str (af r.d)])):=pK [] 2 0 (.k 6 (aF q) (.n 16 .nil)) (.c p (.c k (.c j (.c o (.c l (.c n (.c m (.c i .nil))))))))
theorem akJ (e h:Bool) (f c g d:List UInt8) (a b r:RQ) (i:CO 200 [.agg [.bool h,.str g,.str d]] (.ret (.agg [.bool b.neg,.str (af b.n),.str (af b.d)]))) (j:CO 167 [.agg [.bool e,.str f,.str c],.agg [.bool b.neg,.str (af b.n),.str (af b.d)]] (.ret (.agg [.bool r.neg,.str (af r.n),.str (af r.d)]))):CO 168 [.agg [.bool e,.str f,.str c],.agg [.bool h,.str g,.str d]] (.ret (.agg [.bool r.neg,.str (af r.n),.str (af r.d)])):=pK [] 0 0 (.n 10 .nil) (.c j (.c i .nil))
theorem akw (e h:Bool) (f c g d:List UInt8) (a b r:RQ) (i:CO 168 [.agg [.bool e,.str f,.str c],.agg [.bool h,.str g,.str d]] (.ret (.agg [.bool r.neg,.str (af r.n),.str (af r.d)]))) (j:CO 121 [.agg [.bool r.neg,.str (af r.n),.str (af r.d)]] (.ret (.int .i64 (wO r)))):CO 127 [.agg [.bool e,.str f,.str c],.agg [.bool h,.str g,.str d]] (.ret (.int .i64 (wO r))):=pK [] 0 0 (.n 6 .nil) (.c j (.c i .nil))
theorem akB (e h:Bool) (f c g d:List UInt8) (a b r:RQ) (i:CO 170 [.agg [.bool e,.str f,.str c]] (.ret (.agg [.bool a.neg,.str (af a.n),.str (af a.d)]))) (k:CO 170 [.agg [.bool h,.str g,.str d]] (.ret (.agg [.bool b.neg,.str (af b.n),.str (af b.d)]))) (l:CO 171 [.str (af a.n),.str (af b.n)] (.ret (.str (af (a.n*b.n))))) (j:CO 171 [.str (af a.d),.str (af b.d)] (.ret (.str (af (a.d*b.d))))) (m:CO 160 [.bool (!(a.neg==b.neg)),.str (af (a.n*b.n)),.str (af (a.d*b.d))] (.ret (.agg [.bool r.neg,.str (af r.n),.str (af r.d)]))):CO 169 [.agg [.bool e,.str f,.str c],.agg [.bool h,.str g,.str d]] (.ret (.agg [.bool r.neg,.str (af r.n),.str (af r.d)])):=pK [] 0 0 (.n 18 .nil) (.c m (.c j (.c l (.c k (.c i .nil)))))
theorem akE (e h:Bool) (f c g d:List UInt8) (a b r:RQ) (k:((af b.n)== [])=true) (i:CO 170 [.agg [.bool e,.str f,.str c]] (.ret (.agg [.bool a.neg,.str (af a.n),.str (af a.d)]))) (j:CO 170 [.agg [.bool h,.str g,.str d]] (.ret (.agg [.bool b.neg,.str (af b.n),.str (af b.d)]))):CO 125 [.agg [.bool e,.str f,.str c],.agg [.bool h,.str g,.str d]] (.ret (.tup [.agg [.bool false,.str [],.str []],.bool false])):=pK [] 1 1 (.k 4 (aG k) (.n 9 .nil)) (.c j (.c i .nil))
theorem akF (e h:Bool) (f c g d:List UInt8) (a b r:RQ) (n:((af b.n)== [])=false) (i:CO 170 [.agg [.bool e,.str f,.str c]] (.ret (.agg [.bool a.neg,.str (af a.n),.str (af a.d)]))) (k:CO 170 [.agg [.bool h,.str g,.str d]] (.ret (.agg [.bool b.neg,.str (af b.n),.str (af b.d)]))) (l:CO 171 [.str (af a.n),.str (af b.d)] (.ret (.str (af (a.n*b.d))))) (j:CO 171 [.str (af a.d),.str (af b.n)] (.ret (.str (af (a.d*b.n))))) (m:CO 160 [.bool (!(a.neg==b.neg)),.str (af (a.n*b.d)),.str (af (a.d*b.n))] (.ret (.agg [.bool r.neg,.str (af r.n),.str (af r.d)]))):CO 125 [.agg [.bool e,.str f,.str c],.agg [.bool h,.str g,.str d]] (.ret (.tup [.agg [.bool r.neg,.str (af r.n),.str (af r.d)],.bool true])):=pK [] 1 0 (.k 10 (aF n) (.n 9 .nil)) (.c m (.c j (.c l (.c k (.c i .nil)))))
theorem abo (e h:Bool) (f c g d:List UInt8) (a b r:RQ) (p:(a.neg==b.neg)=true) (i:CO 98 [.agg [.bool e,.str f,.str c]] (.ret (.agg [.bool a.neg,.str (af a.n),.str (af a.d)]))) (m:CO 98 [.agg [.bool h,.str g,.str d]] (.ret (.agg [.bool b.neg,.str (af b.n),.str (af b.d)]))) (n:CO 100 [.str (af a.n),.str (af b.d)] (.ret (.str (af (a.n*b.d))))) (l:CO 100 [.str (af b.n),.str (af a.d)] (.ret (.str (af (b.n*a.d))))) (o:CO 100 [.str (af a.d),.str (af b.d)] (.ret (.str (af (a.d*b.d))))) (j:CO 80 [.str (af (a.n*b.d)),.str (af (b.n*a.d))] (.ret (.str (af ((a.n*b.d)+(b.n*a.d)))))) (k:CO 99 [.bool a.neg,.str (af ((a.n*b.d)+(b.n*a.d))),.str (af (a.d*b.d))] (.ret (.agg [.bool r.neg,.str (af r.n),.str (af r.d)]))):CO 62 [.agg [.bool e,.str f,.str c],.agg [.bool h,.str g,.str d]] (.ret (.agg [.bool r.neg,.str (af r.n),.str (af r.d)])):=pK [] 1 1 (.k 5 (aG p) (.n 16 .nil)) (.c k (.c j (.c o (.c l (.c n (.c m (.c i .nil)))))))
theorem abp (e g:Bool) (f c h d:List UInt8) (a b r:RQ) (q:(decide (((0:Nat):Int)≤(lU (a.n*b.d) (b.n*a.d))))=true) (j:(a.neg==b.neg)=false) (o:CO 98 [.agg [.bool e,.str f,.str c]] (.ret (.agg [.bool a.neg,.str (af a.n),.str (af a.d)]))) (s:CO 98 [.agg [.bool g,.str h,.str d]] (.ret (.agg [.bool b.neg,.str (af b.n),.str (af b.d)]))) (p:CO 100 [.str (af a.n),.str (af b.d)] (.ret (.str (af (a.n*b.d))))) (n:CO 100 [.str (af b.n),.str (af a.d)] (.ret (.str (af (b.n*a.d))))) (k:CO 100 [.str (af a.d),.str (af b.d)] (.ret (.str (af (a.d*b.d))))) (i:CO 101 [.str (af (a.n*b.d)),.str (af (b.n*a.d))] (.ret (.int .i64 (lU (a.n*b.d) (b.n*a.d))))) (m:CO 102 [.str (af (a.n*b.d)),.str (af (b.n*a.d))] (.ret (.tup [.str (af ((a.n*b.d) - (b.n*a.d))),.bool true]))) (l:CO 99 [.bool a.neg,.str (af ((a.n*b.d) - (b.n*a.d))),.str (af (a.d*b.d))] (.ret (.agg [.bool r.neg,.str (af r.n),.str (af r.d)]))):CO 62 [.agg [.bool e,.str f,.str c],.agg [.bool g,.str h,.str d]] (.ret (.agg [.bool r.neg,.str (af r.n),.str (af r.d)])):=pK [] 2 2 (.k 5 (aG q) (.c (aF j) (.n 16 .nil))) (.c l (.c m (.c i (.c k (.c n (.c p (.c s (.c o .nil))))))))
theorem abq (e g:Bool) (f c h d:List UInt8) (a b r:RQ) (q:(decide (((0:Nat):Int)≤(lU (a.n*b.d) (b.n*a.d))))=false) (j:(a.neg==b.neg)=false) (o:CO 98 [.agg [.bool e,.str f,.str c]] (.ret (.agg [.bool a.neg,.str (af a.n),.str (af a.d)]))) (s:CO 98 [.agg [.bool g,.str h,.str d]] (.ret (.agg [.bool b.neg,.str (af b.n),.str (af b.d)]))) (p:CO 100 [.str (af a.n),.str (af b.d)] (.ret (.str (af (a.n*b.d))))) (n:CO 100 [.str (af b.n),.str (af a.d)] (.ret (.str (af (b.n*a.d))))) (k:CO 100 [.str (af a.d),.str (af b.d)] (.ret (.str (af (a.d*b.d))))) (i:CO 101 [.str (af (a.n*b.d)),.str (af (b.n*a.d))] (.ret (.int .i64 (lU (a.n*b.d) (b.n*a.d))))) (m:CO 102 [.str (af (b.n*a.d)),.str (af (a.n*b.d))] (.ret (.tup [.str (af ((b.n*a.d) - (a.n*b.d))),.bool true]))) (l:CO 99 [.bool b.neg,.str (af ((b.n*a.d) - (a.n*b.d))),.str (af (a.d*b.d))] (.ret (.agg [.bool r.neg,.str (af r.n),.str (af r.d)]))):CO 62 [.agg [.bool e,.str f,.str c],.agg [.bool g,.str h,.str d]] (.ret (.agg [.bool r.neg,.str (af r.n),.str (af r.d)])):=pK [] 2 0 (.k 5 (aF q) (.c (aF j) (.n 16 .nil))) (.c l (.c m (.c i (.c k (.c n (.c p (.c s (.c o .nil))))))))
theorem akb (e h:Bool) (f c g d:List UInt8) (a b r:RQ) (n:((af b.n)== [])=false) (i:CO 98 [.agg [.bool e,.str f,.str c]] (.ret (.agg [.bool a.neg,.str (af a.n),.str (af a.d)]))) (k:CO 98 [.agg [.bool h,.str g,.str d]] (.ret (.agg [.bool b.neg,.str (af b.n),.str (af b.d)]))) (l:CO 100 [.str (af a.n),.str (af b.d)] (.ret (.str (af (a.n*b.d))))) (j:CO 100 [.str (af a.d),.str (af b.n)] (.ret (.str (af (a.d*b.n))))) (m:CO 99 [.bool (!(a.neg==b.neg)),.str (af (a.n*b.d)),.str (af (a.d*b.n))] (.ret (.agg [.bool r.neg,.str (af r.n),.str (af r.d)]))):CO 60 [.agg [.bool e,.str f,.str c],.agg [.bool h,.str g,.str d]] (.ret (.tup [.agg [.bool r.neg,.str (af r.n),.str (af r.d)],.bool true])):=pK [] 1 0 (.k 10 (aF n) (.n 9 .nil)) (.c m (.c j (.c l (.c k (.c i .nil)))))
def zg (q:RQ):RQ:=⟨!q.neg && decide (0<q.n),q.n,q.d⟩
def iV (a b:RQ):RQ:=if a.neg=b.neg then g_ a.neg (a.n*b.d+b.n*a.d) (a.d*b.d) else if b.n*a.d≤a.n*b.d then g_ a.neg (a.n*b.d - b.n*a.d) (a.d*b.d) else g_ b.neg (b.n*a.d - a.n*b.d) (a.d*b.d)
def ji (a b:RQ):RQ:=iV a (zg b)
def lD (a b:RQ):Int:=wO (ji a b)
def nC (a b:RQ):RQ:=g_ (!(a.neg==b.neg)) (a.n*b.n) (a.d*b.d)
def ui (a b:RQ):RQ:=g_ (!(a.neg==b.neg)) (a.n*b.d) (a.d*b.n)
theorem kU {q:RQ} (h:q.ok):vQ q.neg (af q.n) (af q.d)=q:=by
 unfold vQ;rw [if_pos (oD q h),aB,aB]
theorem Jw {q:RQ} (h:q.ok):(zg q).ok:=by
 refine ⟨h.1,h.2.1,fun a=> ?_⟩
 simp only [zg,Bool.and_eq_true,decide_eq_true_eq] at a
 exact a.2
theorem jF {a b:RQ} (c:a.ok) (d:b.ok):(iV a b).ok:=by
 have hd:0<a.d*b.d:=Nat.mul_pos c.1 d.1
 unfold iV;split
 ·exact ny hd
 ·split
  ·exact ny hd
  ·exact ny hd
theorem sQ {a b:RQ} (c:a.ok) (d:b.ok):(nC a b).ok:=ny (Nat.mul_pos c.1 d.1)
theorem Dk {a b:RQ} (c:a.ok) (d:0<b.n):(ui a b).ok:=ny (Nat.mul_pos c.1 d)
theorem EG (x:Nat):x<2^(8*(af x).length):=sS.1 (Nat.le_refl _)
theorem dR (x y:Nat):(af (x*y)).length≤(af x).length+(af y).length:=by
 refine dw ?_
 rw [Nat.mul_add,Nat.pow_add]
 exact Nat.mul_lt_mul'' (EG x) (EG y)
theorem oI {x y:Nat} (h:x≤y):(af x).length≤(af y).length:=dw (Nat.lt_of_le_of_lt h (EG y))
theorem yV (x y:Nat):(af (x+y)).length≤(af x).length+(af y).length+1:=by
 refine dw ?_
 have a:=Nat.lt_of_lt_of_le (EG x) (Nat.pow_le_pow_right (n:=2) (by omega) (show 8*(af x).length≤8*((af x).length+(af y).length) by omega))
 have b:=Nat.lt_of_lt_of_le (EG y) (Nat.pow_le_pow_right (n:=2) (by omega) (show 8*(af y).length≤8*((af x).length+(af y).length) by omega))
 rw [show 8*((af x).length+(af y).length+1)=8*((af x).length+(af y).length)+8 by omega,Nat.pow_add]
 generalize 2^(8*((af x).length+(af y).length))=P at*
 omega
theorem adl (s:List UInt8):(af (ah s)).length≤s.length:=dw (kV s)
theorem lI (s:Bool) (n d:List UInt8):(af (vQ s n d).n).length≤n.length∧(af (vQ s n d).d).length≤d.length+1:=by
 unfold vQ;split
 ·exact ⟨adl n,Nat.le_succ_of_le (adl d)⟩
 ·refine ⟨by show (af 0).length≤_;rw [dI];simp, ?_⟩
  show (af 1).length≤_
  have:(af 1).length≤1:=dw (by decide)
  omega
theorem sO (a:Bool) (n d:Nat):(af (g_ a n d).n).length≤(af n).length∧(af (g_ a n d).d).length≤(af d).length:=
 ⟨oI (Nat.div_le_self _ _),oI (Nat.div_le_self _ _)⟩
theorem yX (a b:RQ) (L:Nat) (h:(af a.n).length≤L) (d:(af a.d).length≤L) (e:(af b.n).length≤L) (f:(af b.d).length≤L):(af (iV a b).n).length≤4*L+1∧(af (iV a b).d).length≤2*L:=by
 have c:=dR a.n b.d
 have g:=dR b.n a.d
 have i:=dR a.d b.d
 have j:=yV (a.n*b.d) (b.n*a.d)
 unfold iV;split
 ·have:=sO a.neg (a.n*b.d+b.n*a.d) (a.d*b.d);omega
 ·split
  ·have:=sO a.neg (a.n*b.d - b.n*a.d) (a.d*b.d)
   have:=oI (Nat.sub_le (a.n*b.d) (b.n*a.d));omega
  ·have:=sO b.neg (b.n*a.d - a.n*b.d) (a.d*b.d)
   have:=oI (Nat.sub_le (b.n*a.d) (a.n*b.d));omega
theorem E8 (x y:Nat) (b:(af x).length<2^34) (a:(af y).length<2^34):CO 171 [.str (af x),.str (af y)] (.ret (.str (af (x*y)))):=by
 have h:=aaZ (af x) (af y) (by omega) (by omega)
 rw [aB,aB] at h;exact h
theorem adp (x y:Nat) (b:(af x).length<2^34) (a:(af y).length<2^34):CO 71 [.str (af x),.str (af y)] (.ret (.str (af (x+y)))):=by
 have h:=aaQ (af x) (af y) (by omega) (by omega)
 rw [aB,aB] at h;exact h
theorem adq (x y:Nat) (c:(af x).length<2^34) (b:(af y).length<2^34) (a:y≤x):CO 199 [.str (af x),.str (af y)] (.ret (.tup [.str (af (x - y)),.bool true])):=by
 have h:=aa3 (af x) (af y) (by omega) (by omega) (by rw [aB,aB];exact a)
 rw [aB,aB] at h;exact h
theorem ajw (x y:Nat) (c:(af x).length<2^34) (b:(af y).length<2^34) (a:x<y):CO 199 [.str (af x),.str (af y)] (.ret (.tup [.str [],.bool false])):=
 aa2 (af x) (af y) (by omega) (by omega) (by rw [aB,aB];exact a)
theorem Md (x y:Nat) (b:(af x).length<2^33) (a:(af y).length<2^33):CO 100 [.str (af x),.str (af y)] (.ret (.str (af (x*y)))):=by
 have h:=Xg (af x) (af y) (by omega) (by omega)
 rw [aB,aB] at h;exact h
theorem aj9 (x y:Nat) (b:(af x).length<2^33) (a:(af y).length<2^33):CO 80 [.str (af x),.str (af y)] (.ret (.str (af (x+y)))):=by
 have h:=Il (af x) (af y) (by omega) (by omega)
 rw [aB,aB] at h;exact h
theorem adw (x y:Nat) (c:(af x).length<2^33) (b:(af y).length<2^33) (a:y≤x):CO 102 [.str (af x),.str (af y)] (.ret (.tup [.str (af (x - y)),.bool true])):=by
 have h:=Uw (af x) (af y) (by omega) (by omega) (by rw [aB,aB];exact a)
 rw [aB,aB] at h;exact h
theorem aj_ (x y:Nat) (b:(af x).length<2^33) (a:(af y).length<2^33):CO 101 [.str (af x),.str (af y)] (.ret (.int .i64 (lU x y))):=by
 have h:=JI (af x) (af y) (by omega) (by omega)
 rw [aB,aB] at h;exact h
theorem Iq (a:Bool) (n d:Nat) (c:(af n).length<2^33) (hd:(af d).length<2^33) (b:0<d):CO 160 [.bool a,.str (af n),.str (af d)] (.ret (qA (g_ a n d))):=by
 have h:=WZ a (af n) (af d) (by omega) (by omega) (by rw [aB];exact b)
 rw [aB,aB] at h;exact h
theorem X4 (q:RQ) (a:q.ok) (b:(af q.n).length<2^33) (hd:(af q.d).length<2^33):CO 121 [.agg [.bool q.neg,.str (af q.n),.str (af q.d)]] (.ret (.int .i64 (wO q))):=by
 have h:=oO q.neg (af q.n) (af q.d) (by omega) (by omega)
 rw [Ye,kU a] at h;exact h
theorem nJ (a:Bool) (n d:List UInt8) (e:n.length<2^33) (hd:d.length<2^33):CO 170 [.agg [.bool a,.str n,.str d]] (.ret (qA (vQ a n d))):=by
 have c:=mF a n d (by omega) (by omega)
 unfold vQ
 cases b:iU a n d with
 |false=>
  rw [b] at c
  have h:=akN a false n d [] [] q0 q0 q0 b (by rw [b];exact c) jo
  rw [if_neg (by simp)]
  exact h
 |true=>
  rw [b] at c
  have h:=akO a false n d [] [] q0 q0 q0 b (by rw [b];exact c)
  rw [if_pos rfl,← QC b]
  exact h
theorem XZ (b:Bool) (n d:List UInt8) (g:n.length<2^33) (hd:d.length<2^33):CO 200 [.agg [.bool b,.str n,.str d]] (.ret (qA (zg (vQ b n d)))):=by
 have c:=nJ b n d g hd
 generalize vQ b n d=a at*
 have e:(!((af a.n)== []))=decide (0<a.n):=by
  rcases Nat.eq_zero_or_pos a.n with h|h
  ·rw [h,dI];rfl
  ·rw [decide_eq_true h,Bool.not_eq_true',beq_eq_false_iff_ne]
   intro i;rw [iD] at i;omega
 unfold zg qA
 cases f:a.neg with
 |false=>
  have h:=akC b false n d [] [] a q0 q0 f c
  rw [e] at h;exact h
 |true=>exact akD b false n d [] [] a q0 q0 f c
theorem FN (g h:Bool) (e c f d:List UInt8) (r:e.length<2^29) (z:c.length<2^29) (A:f.length<2^29) (q:d.length<2^29):CO 167 [.agg [.bool g,.str e,.str c],.agg [.bool h,.str f,.str d]] (.ret (qA (iV (vQ g e c) (vQ h f d)))):=by
 have j:=nJ g e c (by omega) (by omega)
 have m:=nJ h f d (by omega) (by omega)
 obtain ⟨t,D⟩:=lI g e c
 obtain ⟨u,v⟩:=lI h f d
 have p:=lg g e c
 have o:=lg h f d
 generalize vQ g e c=a at*
 generalize vQ h f d=b at*
 have hd:0<a.d*b.d:=Nat.mul_pos p.1 o.1
 have x:=dR a.n b.d
 have B:=dR b.n a.d
 have s:=dR a.d b.d
 have l:=E8 a.n b.d (by omega) (by omega)
 have k:=E8 b.n a.d (by omega) (by omega)
 have n:=E8 a.d b.d (by omega) (by omega)
 have w:=yV (a.n*b.d) (b.n*a.d)
 have C:=oI (Nat.sub_le (a.n*b.d) (b.n*a.d))
 have y:=oI (Nat.sub_le (b.n*a.d) (a.n*b.d))
 unfold iV
 by_cases hs:a.neg=b.neg
 ·rw [if_pos hs]
  exact abC g h e c f d a b _ (by rw [hs];exact beq_self_eq_true _) j m l k n (adp _ _ (by omega) (by omega)) (Iq a.neg _ _ (by omega) (by omega) hd)
 ·rw [if_neg hs]
  have i:(a.neg==b.neg)=false:=beq_eq_false_iff_ne.2 hs
  by_cases hl:b.n*a.d≤a.n*b.d
  ·rw [if_pos hl]
   exact abD g h e c f d a b _ i j m l k n (adq _ _ (by omega) (by omega) hl) (Iq a.neg _ _ (by omega) (by omega) hd)
  ·rw [if_neg hl]
   exact abB g h e c f d a b _ i j m l k n (ajw _ _ (by omega) (by omega) (by omega)) (adq _ _ (by omega) (by omega) (by omega)) (Iq b.neg _ _ (by omega) (by omega) hd)
theorem FP (f c:Bool) (e d b a:List UInt8) (j:e.length<2^29) (g:d.length<2^29) (n:b.length<2^28) (o:a.length<2^28):CO 168 [.agg [.bool f,.str e,.str d],.agg [.bool c,.str b,.str a]] (.ret (qA (ji (vQ f e d) (vQ c b a)))):=by
 have i:=XZ c b a (by omega) (by omega)
 obtain ⟨m,k⟩:=lI c b a
 have l:=Jw (lg c b a)
 unfold ji
 have h:=FN f (zg (vQ c b a)).neg e d (af (zg (vQ c b a)).n) (af (zg (vQ c b a)).d) j g (Nat.lt_of_le_of_lt m (by omega)) (Nat.lt_of_le_of_lt k (by omega))
 rw [kU l] at h
 exact akJ f c e d b a q0 _ _ i h
theorem FO (e f:Bool) (c a d b:List UInt8) (p:c.length<2^28) (n:a.length<2^28) (g:d.length<2^28) (i:b.length<2^28):CO 127 [.agg [.bool e,.str c,.str a],.agg [.bool f,.str d,.str b]] (.ret (.int .i64 (lD (vQ e c a) (vQ f d b)))):=by
 have h:=FP e f c a d b (by omega) (by omega) g i
 obtain ⟨q,o⟩:=lI e c a
 obtain ⟨j,k⟩:=lI f d b
 have l:(ji (vQ e c a) (vQ f d b)).ok:=jF (lg _ _ _) (Jw (lg _ _ _))
 have m:=yX (vQ e c a) (zg (vQ f d b)) (2^29) (by omega) (by omega) (Nat.le_trans j (by omega)) (Nat.le_trans k (by omega))
 exact akw e f c a d b q0 q0 _ h (X4 _ l (by unfold ji;omega) (by unfold ji;omega))
theorem MK (g i:Bool) (e c f d:List UInt8) (o:e.length<2^29) (t:c.length<2^29) (u:f.length<2^29) (n:d.length<2^29) (m:0<(vQ i f d).n):CO 125 [.agg [.bool g,.str e,.str c],.agg [.bool i,.str f,.str d]] (.ret (.tup [qA (ui (vQ g e c) (vQ i f d)),.bool true])):=by
 have j:=nJ g e c (by omega) (by omega)
 have k:=nJ i f d (by omega) (by omega)
 obtain ⟨p,w⟩:=lI g e c
 obtain ⟨q,r⟩:=lI i f d
 have l:=lg g e c
 generalize vQ g e c=a at*
 generalize vQ i f d=b at*
 have s:=dR a.n b.d
 have v:=dR a.d b.n
 exact akF g i e c f d a b (ui a b) (by rw [beq_eq_false_iff_ne];intro h;rw [iD] at h;omega) j k (E8 a.n b.d (by omega) (by omega)) (E8 a.d b.n (by omega) (by omega)) (Iq _ _ _ (by omega) (by omega) (Nat.mul_pos l.1 m))
theorem X0 (f e:Bool) (d c b a:List UInt8) (m:d.length<2^29) (j:c.length<2^29) (k:b.length<2^29) (l:a.length<2^29) (i:(vQ e b a).n=0):CO 125 [.agg [.bool f,.str d,.str c],.agg [.bool e,.str b,.str a]] (.ret (.tup [.agg [.bool false,.str [],.str []],.bool false])):=by
 have h:=nJ f d c (by omega) (by omega)
 have g:=nJ e b a (by omega) (by omega)
 exact akE f e d c b a _ _ q0 (by rw [i,dI];rfl) h g
theorem abn (g h:Bool) (e c f d:List UInt8) (t:e.length<2^29) (B:c.length<2^29) (C:f.length<2^29) (s:d.length<2^29):CO 62 [.agg [.bool g,.str e,.str c],.agg [.bool h,.str f,.str d]] (.ret (qA (iV (vQ g e c) (vQ h f d)))):=by
 have j:=rO g e c (by omega) (by omega)
 have n:=rO h f d (by omega) (by omega)
 obtain ⟨v,F⟩:=lI g e c
 obtain ⟨w,x⟩:=lI h f d
 have r:=lg g e c
 have q:=lg h f d
 generalize vQ g e c=a at*
 generalize vQ h f d=b at*
 have hd:0<a.d*b.d:=Nat.mul_pos r.1 q.1
 have z:=dR a.n b.d
 have D:=dR b.n a.d
 have u:=dR a.d b.d
 have m:=Md a.n b.d (by omega) (by omega)
 have k:=Md b.n a.d (by omega) (by omega)
 have o:=Md a.d b.d (by omega) (by omega)
 have y:=yV (a.n*b.d) (b.n*a.d)
 have E:=oI (Nat.sub_le (a.n*b.d) (b.n*a.d))
 have A:=oI (Nat.sub_le (b.n*a.d) (a.n*b.d))
 unfold iV
 by_cases hs:a.neg=b.neg
 ·rw [if_pos hs]
  exact abo g h e c f d a b _ (by rw [hs];exact beq_self_eq_true _) j n m k o (aj9 _ _ (by omega) (by omega)) (uZ a.neg _ _ (by omega) (by omega) hd)
 ·rw [if_neg hs]
  have i:(a.neg==b.neg)=false:=beq_eq_false_iff_ne.2 hs
  have p:=aj_ (a.n*b.d) (b.n*a.d) (by omega) (by omega)
  by_cases hl:b.n*a.d≤a.n*b.d
  ·rw [if_pos hl]
   have l:decide (((0:Nat):Int)≤lU (a.n*b.d) (b.n*a.d))=true:=by unfold lU;rw [if_neg (by omega)];split<;>rfl
   exact abp g h e c f d a b _ l i j n m k o p (adw _ _ (by omega) (by omega) hl) (uZ a.neg _ _ (by omega) (by omega) hd)
  ·rw [if_neg hl]
   have l:decide (((0:Nat):Int)≤lU (a.n*b.d) (b.n*a.d))=false:=by unfold lU;rw [if_pos (by omega)];rfl
   exact abq g h e c f d a b _ l i j n m k o p (adw _ _ (by omega) (by omega) (by omega)) (uZ b.neg _ _ (by omega) (by omega) hd)
theorem abv (g i:Bool) (e c f d:List UInt8) (o:e.length<2^29) (t:c.length<2^29) (u:f.length<2^29) (n:d.length<2^29) (m:0<(vQ i f d).n):CO 60 [.agg [.bool g,.str e,.str c],.agg [.bool i,.str f,.str d]] (.ret (.tup [qA (ui (vQ g e c) (vQ i f d)),.bool true])):=by
 have j:=rO g e c (by omega) (by omega)
 have k:=rO i f d (by omega) (by omega)
 obtain ⟨p,w⟩:=lI g e c
 obtain ⟨q,r⟩:=lI i f d
 have l:=lg g e c
 generalize vQ g e c=a at*
 generalize vQ i f d=b at*
 have s:=dR a.n b.d
 have v:=dR a.d b.n
 exact akb g i e c f d a b (ui a b) (by rw [beq_eq_false_iff_ne];intro h;rw [iD] at h;omega) j k (Md a.n b.d (by omega) (by omega)) (Md a.d b.n (by omega) (by omega)) (uZ _ _ _ (by omega) (by omega) (Nat.mul_pos l.1 m))
theorem Rt (g h:Bool) (e c f d:List UInt8) (n:e.length<2^29) (s:c.length<2^29) (t:f.length<2^29) (m:d.length<2^29):CO 169 [.agg [.bool g,.str e,.str c],.agg [.bool h,.str f,.str d]] (.ret (qA (nC (vQ g e c) (vQ h f d)))):=by
 have i:=nJ g e c (by omega) (by omega)
 have k:=nJ h f d (by omega) (by omega)
 obtain ⟨o,v⟩:=lI g e c
 obtain ⟨p,q⟩:=lI h f d
 have l:=lg g e c
 have j:=lg h f d
 generalize vQ g e c=a at*
 generalize vQ h f d=b at*
 have r:=dR a.n b.n
 have u:=dR a.d b.d
 exact akB g h e c f d a b (nC a b) i k (E8 a.n b.n (by omega) (by omega)) (E8 a.d b.d (by omega) (by omega)) (Iq _ _ _ (by omega) (by omega) (Nat.mul_pos l.1 j.1))
end Go.Proofs.Tryz
