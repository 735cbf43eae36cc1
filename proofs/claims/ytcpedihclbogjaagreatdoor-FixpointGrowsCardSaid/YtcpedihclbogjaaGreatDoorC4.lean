/- Contracts of functions; joined by a program of mine. -/
import Derived.Test.YtcpedihclbogjaaGreatDoorC3
import Derived.Test.YtcpedihclbogjaaGreatDoorC2
import Derived.Test.YtcpedihclbogjaaGreatDoorM5
import Derived.Test.YtcpedihclbogjaaGreatDoorC1
import Derived.OwnWalkIn
import Derived.Maps.OwnIn
import Derived.Stop.RegionWithIn
import Derived.Test.YtcpedihclbogjaaGreatDoorM4
import Derived.Test.YtcpedihclbogjaaGreatDoorCards
import Derived.Test.YtcpedihclbogjaaGreatDoorTie
import Derived.Deep.DeepHandedRow
set_option linter.unusedSimpArgs false
set_option linter.unusedVariables false
set_option maxRecDepth 100000
set_option linter.unusedVariables false
open Go AM
open List renaming zip_cons_cons->Xzj,range->Xqm,length_map->Xqp,getD_eq_getElem?_getD->μ,getElem?_eq_getElem->ν,length_cons->ο,take->τ,take_of_length_le->Xqa,drop->ε,length->θ,flatMap_cons->Xxw,map_cons->Xqf,map_drop->Xjy,all_cons->Xzn,eq_nil_of_length_eq_zero->Xq2,replicate->ζ,range'->Xk9,range'_succ->Xwx,length_replicate->Xq9,getElem?_map->Xqx,getElem?_eq_none->Xq8,size_toArray->Xxg,length_nil->Ξ,push_toArray->Xx9,append_toArray->Xxz,nil_append->Xqb,cons_append->Xqu,map_append->Xq5,prefix_refl->Xww,append_assoc->Xqe,getElem?_cons_zero->Xxf,getElem?_cons_succ->Xjl,getElem?_toArray->Xzh,length_append->ξ,getLast?_map->Yqn,map_map->Xzd,mem_of_getElem?->Xqn,getLast?_eq_none_iff->Xv2,length_singleton->Δ,mem_cons->Xza,not_mem_nil->Xwd,length_drop->Xx3,getLast?_cons->Yqf,find?_append->Xj7,drop_zero->Xx8
open Bool renaming and_eq_true->π,false_ne_true->Xxt,false_eq_true->Xqy
open Int renaming toNat->δ,le_refl->Xk7,tdiv->Xxb,tmod->Xxp
open Nat renaming le_refl->κ,div_le_self->Xxo,le_trans->Xqs,mul_le_mul->Xwu,mul_one->Xqi,lt_of_le_of_lt->φ,ble->Xqr,ble_eq_true_of_le->Xqc,lt_of_lt_of_le->υ,zero_mul->Xzp,zero_add->Ψ,add_zero->Xq3,reduceAdd->Xj8,reduceSub->Xj9,zero_le->Xqo,one_pos->Yq7,gcd_one_right->Xw9
open IntKind renaming wrap->γ,wrap_i64->Xkj
open AV renaming sl->Xke
open Option renaming some_get->Yxc
namespace Go.Proofs.Tryz
abbrev zcc4_0 : List UInt8 := [97,98,99,100,101,102,103,104,105,106,107,108,109,110,111,112,113,114,115,116,117,118,119,120,121,122,48,49,50,51,52,53,54,55,56,57,95]
abbrev zcc4_1 : List UInt8 := [97,98,99,100,101,102,103,104,105,106,107,108,109,110,111,112,113,114,115,116,117,118,119,120,121,122]
abbrev zcc4_2 : List UInt8 := [109,105,110,40,102,97,99,116,46,120,44,32,97,100,100,40,111,119,110,46,117,44,32,36,49,41,41]
abbrev zcc4_3 : List UInt8 := [109,105,110,40,102,97,99,116,46,120,44,32,97,100,100,40,111,119,110,46,117,44,32,36,53,41,41]
abbrev zcc4_4 : List UInt8 := [102,97,99,116,46,120,44,32,97,100,100,40,111,119,110,46,117,44,32,36,49,41,41]
abbrev zcc4_5 : List UInt8 := [102,97,99,116,46,120,44,32,97,100,100,40,111,119,110,46,117,44,32,36,53,41,41]
abbrev zcc4_6 : List UInt8 := [115,117,98,40,102,97,99,116,46,120,44,32,111,119,110,46,117,41]
abbrev zcc4_7 : List UInt8 := [109,117,108,40,111,119,110,46,116,44,32,49,47,50,41]
abbrev zcc4_8 : List UInt8 := [97,100,100,40,111,119,110,46,117,44,32,36,49,41,41]
abbrev zcc4_9 : List UInt8 := [97,100,100,40,111,119,110,46,117,44,32,36,53,41,41]
abbrev zcc4_10 : List UInt8 := [102,97,99,116,46,120,44,32,111,119,110,46,117,41]
abbrev zcc4_11 : List UInt8 := [111,119,110,46,117,44,32,36,49,41,41]
abbrev zcc4_12 : List UInt8 := [111,119,110,46,116,44,32,49,47,50,41]
abbrev zcc4_13 : List UInt8 := [111,119,110,46,117,44,32,36,53,41,41]
abbrev zcc4_14 : List UInt8 := [45,48,49,50,51,52,53,54,55,56,57,47]
abbrev zcc4_15 : List UInt8 := [111,119,110,46,117,41]
abbrev zcc4_16 : List UInt8 := [111,119,110,46,117]
abbrev zcc4_17 : List AV := [ω 5,.bool false,.str [],.str [],.str [120],ω 6,.bool false,.str [],.str [],.str [117]]
abbrev zcc4_18 : List AV := [ω 5,.bool false,.str [],.str [],.str [120]]
abbrev zcc4_19 : List AV := [ω 6,.bool false,.str [],.str [],.str [116]]
def okU (x:aP) (y:Rw):Prop:=0<=aX y x.st/\aX y x.st<=aX x.cp x.st
def da:List aP->List Rw->Prop
 | [],[]=>True
 |x::es,y::v=>okU x y/\da es v
 |_,_=>False
theorem da.len:∀ {es:List aP} {v:List Rw},da es v->v.length=es.length
 | [],[],_=>rfl
 |x::es,y::v,h=>by simp [h.2.len]
 | [],_::_,h=>h.elim
 |_::_,[],h=>h.elim
theorem Bv:∀ {es:List aP} {v:List Rw},rZ es v=true↔da es v:=by
 have key:∀ (es:List aP) (v:List Rw),v.length=es.length->(goL Dc (λ_=>true) (es.zip v) ()=true↔da es v):=by
  intro es
  induction es with
  |nil=>intro v a;cases v with
   |nil=>simp [goL,da]
   |cons _ _=>simp at a
  | cons x es b=>intro v a;cases v with
   |nil=>simp at a
   |cons y v=>
    have b:=b v (by simpa using a);simp only [Xzj,goL,Dc,da,okU];by_cases hc:0<=aX y x.st/\aX y x.st<=aX x.cp x.st
    .rw [if_pos hc];simp only [b,hc,true_and,and_self]
    .rw [if_neg hc];simp [hc]
 intro es v;unfold rZ;rw [π,decide_eq_true_eq];constructor
 .rintro ⟨h1,h2⟩;exact (key es v h1).1 h2
 .intro h;exact ⟨h.len,(key es v h.len).2 h⟩
structure qX (n:Nat) (es:List aP):Prop where
 ok:∀ x ∈ es,wv n x
 ris:∀ x ∈ es,uX es x=true
def oL (ss:List (List Lk)) (es:List aP) (v:List Rw):Int ⊕ List Rw:=jd ((Xqm ss.length).map (iO es v ss)) es
theorem Gc {ss:List (List Lk)} {es:List aP} {v:List Rw} {x:aP} (h:wv ss.length x):((Xqm ss.length).map (iO es v ss)).getD (δ x.sd) []=iO es v ss (δ x.sd):=by
 have b:=h.lo;have c:=h.hi;have a:δ x.sd<((Xqm ss.length).map (iO es v ss)).length:=by rw [Xqp,List.length_range];omega
 rw [μ,ν a,List.getElem_map,List.getElem_range];rfl
theorem fk {ss:List (List Lk)} {es:List aP} {v:List Rw}:∀ {r:List aP} {w:List Rw},(∀ x ∈ r,wv ss.length x)->jd ((Xqm ss.length).map (iO es v ss)) r= .inr w->da r w
 | [],w,_,h=>by cases h;exact trivial
 |x::r,w,hk,h=>by
  simp only [jd] at h;split at h
  .cases h
  rename_i a b;split at h
  .cases h
  rename_i l d;cases h;exact ⟨KJ (hk x (by simp)).cap (kG _ _) b,fk (λy c=>hk y (by simp [c])) d⟩
theorem zy {ss:List (List Lk)} {es:List aP} {v f:List Rw} (s:v.length=es.length) (c:py v f):∀ {r:List aP} {w w':List Rw},(∀ x ∈ r,wv ss.length x/\uX es x=true)->jd ((Xqm ss.length).map (iO es v ss)) r= .inr w->jd ((Xqm ss.length).map (iO es f ss)) r= .inr w'->py w w'
 | [],w,w',_,h,h'=>by cases h;cases h';exact py.nil
 | x::r,w,w',hk,h,h'=>by
  simp only [jd] at h h';obtain ⟨o,z⟩:=hk x (by simp);rw [Gc o] at h h';split at h
  .cases h
  rename_i a d;split at h
  .cases h
  rename_i l u;cases h;split at h'
  .cases h'
  rename_i b g;split at h'
  .cases h'
  rename_i m A;cases h';refine py.cons ?_ (zy s c (λy t=>hk y (by simp [t])) u A);have k:=kG ⟨iO es v ss (δ x.sd),[]⟩ x.body;have j:=kG ⟨iO es f ss (δ x.sd),[]⟩ x.body;cases hp:gi ⟨iO es v ss (δ x.sd),[]⟩ x.body with
  |err e=>rw [hp] at d;cases d
  | val p=>cases i:gi ⟨iO es f ss (δ x.sd),[]⟩ x.body with
   |err e=>rw [i] at g;cases g
   |val q=>
    rw [hp] at d k;rw [i] at g j;exact Ox o.cap k.1 j.1 (QQ ss _ s c z hp i) d g
def t_:List aP->List Rw->Nat
 |x::es,y::v=>(aX y x.st).toNat+t_ es v
 |_,_=>0
def Cf:List aP->Nat
 | []=>0
 |x::es=>(aX x.cp x.st).toNat+Cf es
theorem Do:∀ {es:List aP} {v:List Rw},da es v->t_ es v<=Cf es
 | [],[],_=>κ _
 |x::es,y::v,h=>by
  have:=Do h.2;have:=h.1.2;have:=h.1.1;simp only [t_,Cf];omega
 | [],_::_,h=>h.elim
 |_::_,[],h=>h.elim
theorem FV:∀ {es:List aP},(∀ x ∈ es,gR x=true)->Cf es<=200*es.length
 | [],_=>κ _
 |x::es,h=>by
  have d:=FV (es:=es) λy b=>h y (by simp [b])
  obtain ⟨_,_,_,c⟩:=jX (h x (by simp));have h5:=(k_ (a:=x.cp) (s:=x.st) (by omega)).2.2.1;simp only [Cf,ο];omega
theorem PI {x:aP} {a b:Rw} (t:gR x=true) (l:okU x a) (u:okU x b) (h:a.v.rt<=b.v.rt):aX a x.st<=aX b x.st/\(aX a x.st=aX b x.st->a=b):=by
 obtain ⟨s1,w,p⟩:=zR t;obtain ⟨_,d,_,g⟩:=k_ l.1;obtain ⟨_,f,_,q⟩:=k_ u.1;constructor
 .rcases Int.lt_or_le (aX b x.st) (aX a x.st) with hlt|hge
  .exfalso;have:((aX b x.st:Int):Rat)<((aX a x.st:Int):Rat):=by exact_mod_cast hlt
   have:=Rat.mul_lt_mul_of_pos_right this p;grind
  .exact hge
 .intro e;rw [e,<- q] at g;have c:a.v=b.v:=mi (cV _ _ _) (cV _ _ _) g;obtain ⟨z,y,v⟩:=a;obtain ⟨A,B,C⟩:=b;simp only [Rw.v,vQ] at c;simp only at d f;rw [if_pos d,if_pos f] at c;obtain ⟨r,s⟩:=ja d;obtain ⟨m,o⟩:=ja f;have i:=congrArg RQ.neg c;have j:=congrArg RQ.n c;have k:=congrArg RQ.d c;simp only at i j k;rw [<- r,<- s,<- m,<- o,i,j,k]
theorem Dp:∀ {es:List aP} {v w:List Rw},(∀ x ∈ es,gR x=true)->da es v->da es w->py v w->t_ es v<=t_ es w/\(t_ es v=t_ es w->v=w)
 | [],[],[],_,_,_,_=> ⟨κ _,λ_=>rfl⟩
 |x::es,y::v,z::w,hc,hv,hw,h=>by
  obtain ⟨d,b⟩:=Dp (λq a=>hc q (by simp [a])) hv.2 hw.2 h.tail;obtain ⟨f,c⟩:=PI (hc x (by simp)) hv.1 hw.1 h.head;have:=hv.1.1;have:=hw.1.1;simp only [t_];refine ⟨by omega,λe=> ?_⟩;rw [c (by omega),b (by omega)]
 | [],_::_,_,_,h,_,_=>h.elim
 | [],[],_::_,_,_,h,_=>h.elim
 |_::_,[],_,_,h,_,_=>h.elim
 |_::_,_::_,[],_,_,h,_=>h.elim
inductive HB (F:List Rw->Int ⊕ List Rw):List Rw->Int ⊕ List (List Rw)->Prop
 |err {v:List Rw} {e:Int}:F v= .inl e->HB F v (.inl e)
 |fix {v:List Rw}:F v= .inr v->HB F v (.inr [v])
 |stepE {v w:List Rw} {e:Int}:F v= .inr w->v ≠ w->HB F w (.inl e)->HB F v (.inl e)
 |stepC {v w:List Rw} {c:List (List Rw)}:F v= .inr w->v ≠ w->HB F w (.inr c)->HB F v (.inr (v::c))
theorem OL {ss:List (List Lk)} {es:List aP} (hs:qX ss.length es):∀ (d:Nat) (v:List Rw),da es v->Cf es - t_ es v<=d->(∀ w,oL ss es v= .inr w->py v w)->∃ r,HB (oL ss es) v r/\∀ c,r= .inr c->c.length<=d+1:=by
 intro d
 induction d with
 | zero=>
  intro v i hd b;cases h:oL ss es v with
  |inl e=>exact ⟨_,.err h,λc a=>by cases a⟩
  |inr w=>
   have g:=fk hs.ok h;obtain ⟨o,j⟩:=Dp (λx f=>(hs.ok x f).cap) i g (b w h);have:=Do g;have e:=j (by omega);subst e;exact ⟨_,.fix h,λc a=>by cases a;simp⟩
 | succ d ih=>
  intro v i hd b;cases h:oL ss es v with
  |inl e=>exact ⟨_,.err h,λc a=>by cases a⟩
  | inr w=>
   have g:=fk hs.ok h;by_cases hn:v=w
   .subst hn;exact ⟨_,.fix h,λc a=>by cases a;simp⟩
   .obtain ⟨o,j⟩:=Dp (λx f=>(hs.ok x f).cap) i g (b w h);have q:t_ es v ≠ t_ es w:=λe=>hn (j e)
    obtain ⟨r,k,l⟩:=ih w g (by omega) λu m=>zy i.len (b w h) (λx f=> ⟨hs.ok x f,hs.ris x f⟩) h m
    cases r with
    |inl e=>exact ⟨_,.stepE h hn k,λc a=>by cases a⟩
    |inr c=>exact ⟨_,.stepC h hn k,λp a=>by cases a;have:=l c rfl;simp;omega⟩
def Ae (es:List aP):List Rw:=es.map λ_=>wQ q0
theorem XW {x:aP} (b:gR x=true):aX (wQ q0) x.st=0/\0<aX x.cp x.st:=by
 obtain ⟨s1,d,c⟩:=zR b;exact ⟨ui (a:=wQ q0) (s:=x.st) (Dv vS) s1 d c 0 (by omega) (by rw [wG vS,Iy];grind),(jX b).2.2.2⟩
theorem kv:∀ {es:List aP},(∀ x ∈ es,gR x=true)->da es (Ae es)/\t_ es (Ae es)=0
 | [],_=> ⟨trivial,rfl⟩
 |x::es,h=>by
  obtain ⟨b,c⟩:=kv (es:=es) λy d=>h y (by simp [d])
  obtain ⟨a,e⟩:=XW (h x (by simp));refine ⟨⟨⟨by rw [a];exact Xk7 _,by rw [a];omega⟩,b⟩, ?_⟩;show (aX (wQ q0) x.st).toNat+t_ es (Ae es)=0;rw [a,c];rfl
theorem Af:∀ {es:List aP} {v:List Rw},(∀ x ∈ es,gR x=true)->da es v->py (Ae es) v
 | [],[],_,_=>py.nil
 |x::es,y::v,hc,h=>by
  refine py.cons ?_ (Af (λq a=>hc q (by simp [a])) h.2);obtain ⟨s1,c,b⟩:=zR (hc x (by simp));obtain ⟨_,_,_,e⟩:=k_ h.1.1;rw [wG vS,Iy,e];have:(0:Rat)<=((aX y x.st:Int):Rat):=by exact_mod_cast h.1.1
  exact Rat.mul_nonneg this (by grind)
 | [],_::_,_,h=>h.elim
 |_::_,[],_,h=>h.elim
theorem Xm {ss:List (List Lk)} {es:List aP} (hs:qX ss.length es):∃ r,HB (oL ss es) (Ae es) r/\∀ c,r= .inr c->c.length<=Cf es+1:=by
 have a:∀ x ∈ es,gR x=true:=λx e=>(hs.ok x e).cap
 obtain ⟨b,f⟩:=kv a;exact OL hs (Cf es) _ b (by omega) λw d=>Af a (fk hs.ok d)
def eY (l:List (List Int)):List AV:=l.flatMap λxs=> [.sl (iL xs) xs.length false]
theorem Hr (n k:Nat) (h:n<2^62):ω (γ .i64 (Xxb (n:Int) (k:Int)))= ω ((n / k:Nat):Int):=by
 have a:n / k<=n:=Xxo _ _;rw [<- Int.ofNat_tdiv];generalize n / k=q at a ⊢;rw [cf (by omega) (by omega)]
structure mF (x:aP):Prop where
 cap:gR x=true
 st:∃ w:RQ,w.ok/\w.n<=3/\w.d<=3/\x.st=wQ w
theorem cB {q:RQ} (a:q.n<=600) (b:q.d<=3):(wQ q).ti:=⟨Xqs (bN (k:=2) (by omega)) (by decide),Xqs (bN (k:=2) (by omega)) (by decide)⟩
theorem WP {x:aP} {y:Rw} (o:mF x) (h:0<=aX y x.st):y.ti:=by
 obtain ⟨w,c,p,u,e⟩:=o.st;obtain ⟨_,g,r,i⟩:=k_ h;obtain ⟨k,m⟩:∃ k:Nat,aX y x.st=k:=⟨(aX y x.st).toNat,by omega⟩
 rw [m] at i r;have a:(⟨false,k,1⟩:RQ).ok:=⟨by simp,by simp,by simp⟩
 have d:(⟨false,k,1⟩:RQ).rt=((k:Nat):Rat):=by unfold RQ.rt;grind
 have t:y.v=eH w ⟨false,k,1⟩:=by
  refine mi (cV _ _ _) (tF c a) ?_;rw [i,e,wG c,r_ c a,d];have:((k:Int):Rat)=((k:Nat):Rat):=by norm_cast
  rw [this];grind
 have f:(eH w ⟨false,k,1⟩).n<=600:=by
  unfold eH gT;refine Xqs (Xxo _ _) ?_;show w.n*k<=600;exact Xqs (Xwu p (by omega:k<=200)) (by decide)
 have hd:(eH w ⟨false,k,1⟩).d<=3:=by
  unfold eH gT;refine Xqs (Xxo _ _) ?_;show w.d*1<=3;omega
 rw [<- t] at f hd;obtain ⟨j,l⟩:=ja g;have b:y.v=⟨y.n,aj y.a,aj y.d⟩:=BN g;rw [b] at f hd;have:=cB (q:=⟨y.n,aj y.a,aj y.d⟩) f hd;have s:wQ ⟨y.n,aj y.a,aj y.d⟩=y:=by
  show (⟨y.n,ae (aj y.a),ae (aj y.d)⟩:Rw)=y;rw [j,l]
 rw [s] at this;exact this
theorem zw:∀ {es:List aP} {v:List Rw},(∀ x ∈ es,mF x)->da es v->∀ y ∈ v,y.ti
 | [],[],_,_,y,hy=>by cases hy
 |x::es,z::v,hc,h,y,hy=>by
  rcases List.mem_cons.1 hy with rfl|hy
  .exact WP (hc x (by simp)) h.1.1
  .exact zw (λq a=>hc q (by simp [a])) h.2 y hy
 | [],_::_,_,h,_,_=>h.elim
 |_::_,[],_,h,_,_=>h.elim
theorem tE (a b c:Nat) (B:0<a:=by omega) (s:a<=3:=by omega) (D:0<b:=by omega) (u:b<=3:=by omega) (L:0<c:=by omega) (A:c<=14:=by omega):∃ st cp:Rw,st.sm/\cp.sm/\(∀ x:aP,x.st=st->x.cp=cp->mF x)/\CO 32 [Ω false (ae a) (ae 1),Ω false (ae b) (ae 1)] (.ret (.tup [.agg st.c,.bool true]))/\CO 38 [.agg st.c,Ω false (ae c) (ae 1)] (.ret (.agg cp.c)):=by
 have e:∀ x:Nat,x<2^16->(ae x).length<=2:=λx v=>bN (k:=2) v
 have h:=C6 false false (ae a) (ae 1) (ae b) (ae 1) (by have:=e a (by omega);omega) (by have:=e 1 (by omega);omega) (by have:=e b (by omega);omega) (by have:=e 1 (by omega);omega) (by rw [sx];exact D);rw [sx,sx] at h;have t:(⟨false,a,1⟩:RQ).ok:=⟨by simp,by simp,by simp⟩
 have m:(⟨false,c,1⟩:RQ).ok:=⟨by simp,by simp,by simp⟩
 have d:=jT (a:=⟨false,a,1⟩) (b:=⟨false,b,1⟩) t D;have l:(bB ⟨false,a,1⟩ ⟨false,b,1⟩).neg=false:=by simp [bB,gT]
 have g:(bB ⟨false,a,1⟩ ⟨false,b,1⟩).n<=3:=by
  unfold bB gT;exact Xqs (Xxo _ _) (by simpa using s)
 have r:(bB ⟨false,a,1⟩ ⟨false,b,1⟩).d<=3:=by
  unfold bB gT;exact Xqs (Xxo _ _) (by simpa using u)
 have i:0<(bB ⟨false,a,1⟩ ⟨false,b,1⟩).n:=by
  unfold bB gT;simp only [Xqi,Nat.one_mul];exact Nat.div_pos (Nat.gcd_le_left _ B) (Nat.gcd_pos_of_pos_left _ B)
 generalize bB ⟨false,a,1⟩ ⟨false,b,1⟩=w at*
 have C:=Od w.neg false (ae w.n) (ae w.d) (ae c) (ae 1) (by have:=e w.n (by omega);omega) (by have:=e w.d (by omega);omega) (by have:=e c (by omega);omega) (by have:=e 1 (by omega);omega);rw [sx,fT d] at C;have f:=tF d m;have E:(eH w ⟨false,c,1⟩).n<=42:=by
  unfold eH gT;refine Xqs (Xxo _ _) ?_;show w.n*c<=42;exact Xqs (Xwu g A) (by decide)
 have F:(eH w ⟨false,c,1⟩).d<=3:=by
  unfold eH gT;refine Xqs (Xxo _ _) ?_;show w.d*1<=3;omega
 have o:∀ x:Nat,x<2^16->(ae x).length<2^28:=λx v=>φ (e x v) (by decide)
 refine ⟨wQ w,wQ (eH w ⟨false,c,1⟩),⟨o _ (by omega),o _ (by omega)⟩,⟨o _ (by omega),o _ (by omega)⟩, ?_,h,C⟩;intro x j y;refine ⟨?_,w,d,g,r,j⟩;have q:=r_ d m;have p:(⟨false,c,1⟩:RQ).rt=((c:Nat):Rat):=by unfold RQ.rt;grind
 have z:0<w.rt:=(ol d).2.2.1 (by
  have:fQ w=1:=by unfold fQ;rw [if_neg (by omega),l];rfl
  omega)
 have G:aX (wQ (eH w ⟨false,c,1⟩)) (wQ w)=c:=ui (Dv f) (by rw [wG d];exact d) (by rw [wG d];exact i) (by rw [wG d];exact z) c (by omega) (by rw [wG d,wG f,q,p];grind);unfold gR;rw [j,y,G];have J:cT (wQ w).n (wQ w).a (wQ w).d=true:=HW d (by omega) (by omega);have I:cT (wQ (eH w ⟨false,c,1⟩)).n (wQ (eH w ⟨false,c,1⟩)).a (wQ (eH w ⟨false,c,1⟩)).d=true:=HW f (by omega) (by omega);have K:ml (wQ w).n (wQ w).a (wQ w).d=1:=XD d l i;rw [J,I,K];simp;omega
def mqA (es:List aP) (q:Nat):AV:=match es with| []=> .nilS|_::_=> .ref 2 0 0 q
def mqS (es:List aP) (ns:Nat):AV:=match es with| []=> .ref 2 0 0 ns|_::_=> .ref 3 0 0 ns
def mqT (b ns:Nat) (K0 K1:List AV):Hp:=match ns with|1=> [(b,⟨[.ref (b+1) 0 0 11],0,false,0,1,false⟩),(b+1,⟨K0,0,false,0,6,true⟩)]|_=> [(b,⟨[.ref (b+1) 0 0 11,.ref (b+2) 0 0 11],0,false,0,1,false⟩),(b+1,⟨K0,0,false,0,6,true⟩),(b+2,⟨K1,0,false,0,6,true⟩)]
def mqH (es:List aP) (ns:Nat) (K0 K1:List AV):Hp:=match es with| []=>mqT 2 ns K0 K1|a::r=>(2,⟨bq (a::r),0,false,0,14,true⟩)::mqT 3 ns K0 K1
def yR (l:List (List Int)) (nl:Bool) (K0 K1:List AV) (ns:Nat) (p:Nat × Nat × List aP):St:=⟨[(0,.sl (eY l) l.length nl),(4,.ptr 0 0 0),(5,.ptr 1 0 0),(10,ω (p.1:Int))],(0,⟨[.nilS,.nilS,.nilS],0,false,0,0,true⟩)::(1,⟨[mqA p.2.2 p.2.1,mqS p.2.2 ns,.nilS],0,false,0,0,false⟩)::mqH p.2.2 ns K0 K1,.dead,[]⟩
def Ev (K0 K1:List AV) (ns:Nat) (p:Nat × List aP):St:=⟨[(4,.ptr 0 0 0),(5,.ptr 1 0 0)],(0,⟨[.nilS,.nilS,.nilS],0,false,0,0,true⟩)::(1,⟨[mqA p.2 p.1,mqS p.2 ns,.nilS],0,false,0,0,false⟩)::mqH p.2 ns K0 K1,.dead,[]⟩
theorem Vr {f:Nat} {args b:List AV} {n:Nat} {a:Bool} (h:CO f args (.ret (.sl b n a))):CO f args (.ret (.sl b n false)):=by
 refine ⟨h.len,h.ent,λm S w cargs i g=>(h.calls m S w cargs i g).mono ?_⟩
 rintro e w' ⟨m',S',hF⟩
 obtain ⟨cv,d,c⟩:=hF.out;exact ⟨m',S',hF.srel,hF.fr,cv,d,bC.sl b n a (aW []) m' S' cv c⟩
theorem mL {es:List aP} {q:Nat} (h:es.length=q) (x:aP):τ (q*14) (bq es)++PT x=bq (es++ [x]):=by
 have e:(bq es).length=q*14:=by rw [<- h];exact kH uz es
 rw [Xqa (by omega)];unfold bq;rw [List.flatMap_append];simp
theorem Wx (l:List (List Int)) (m:Bool) (K0 K1:List AV) (k q:Nat) (es:List aP) (f:List Int) (F:List AV) (i v:List UInt8) (e:List Nd) (c g:Rw) (h:es.length=q) (E:q=k) (B:k<4) (d:k<l.length) (o:(ε ((δ (k:Int))*1) (eY l))= [Xke (iL f) f.length false]++F) (C:Int) (s:List Int) (z:ε 0 (iL f)= [ω C]++iL s) (I:0<f.length) (p:Xke (ε 1 (τ ((δ (f.length:Int))*1) (iL f))) ((δ (f.length:Int)) - 1) false=Xke (iL s) s.length false) (n:Nat) (b:n<2^62) (t:CO 35 [ω C,ω ((1048576:Nat):Int)] (.ret (ω (n:Int))))
  (hst:c.sm) (hcp:g.sm) (hcap:∀ x:aP,x.st=c->x.cp=g->mF x) (he1:e.length<=61) (he2:∀ x ∈ e,x.sm) (cq:CO 32 [Ω false (ae (1+n / 4 % 3)) (ae 1),Ω false (ae (1+n / 12 % 3)) (ae 1)] (.ret (.tup [.agg c.c,.bool true]))) (cm:CO 38 [.agg c.c,Ω false (ae (1+n / 36 % 14)) (ae 1)] (.ret (.agg g.c)))
  (cb:CO 37 [.sl (iL s) s.length false] (.ret (.sl (aO e) e.length false))) (cp1:CO 34 [ω (k:Int)] (.ret (.str i))) (cp2:CO 34 [ω ((k - n % 2:Nat):Int)] (.ret (.str v))):∃ x:aP,x.sm/\mF x/\∀ nt,190<=nt->ag prog ap [] nt (af 4 (am f11)) (yR l m K0 K1 1 (k,q,es)) .normal (yR l m K0 K1 1 (k+1,q+1,es++ [x])):=by
 have D:k<2^62:=by omega
 have u:∀ (x:aP),x.body=e->x.st=c->x.cp=g->x.sm:=λx A j G=> ⟨by rw [A];exact he2,by rw [A];omega,by rw [j];exact hst,by rw [G];exact hcp⟩
 cases es with
 |nil=>
  obtain rfl:q=0:=by simpa using h.symm
  refine ⟨⟨0,(k:Int),i,false,1,0,e,false,c,g⟩,u _ rfl rfl rfl,hcap _ rfl rfl,λnt y=> ?_⟩;have j:ag prog ap [] nt (af 4 (am f11)) (Ux (.sl (eY l) l.length m) k K0) .normal (BI (.sl (eY l) l.length m) (k+1) [.ref 2 0 0 1,.ref 3 0 0 1,.nilS] [ω 0,ω (k:Int),.str i,.bool false,ω 1,ω 0,.sl (aO e) e.length false,.bool false,.bool c.n,.str c.a,.str c.d,.bool g.n,.str g.a,.str g.d] K0):=pN 11 [] 6 7 (.k 38 (cR 1 f.length) (.c (cR f.length f.length) (.k 1 (kT k) (.c (aS d) (.k 2 (lj 0 f.length) (.k 1 (kT k) (.c (aS d) (.c (ax (lj 0 f.length)) (.k 1 (kT k) (.c (aS d) (.c (ax (aS B)) (.c (ax (aS d)) .nil)))))))))))) (.v 113 (.eq (ku D)) (.c cm (.c (bp (1+n / 36 % 14)) (.v 158 (.eq (wF (k:=n / 36 % 14))) (.v 157 (.eq (js (n / 36) 14)) (.v 156 (.eq (Hr n 36 b)) (.c cb (.c cp1 (.c cq (.c (bp (1+n / 12 % 3)) (.v 142 (.eq (wF (k:=n / 12 % 3))) (.v 141 (.eq (js (n / 12) 3)) (.v 140 (.eq (Hr n 12 b)) (.c (bp (1+n / 4 % 3)) (.v 137 (.eq (wF (k:=n / 4 % 3))) (.v 136 (.eq (js (n / 4) 3)) (.v 135 (.eq (Hr n 4 b)) (.v 132 (.eq p) (.v 130 (.ppt o) (.c t (.v 125 (.ppt z) (.v 123 (.ppt o) (.v 117 (.ppt o) .nil))))))))))))))))))))))) y;exact j
 |cons a r=>
  have w:(Xqr (q*14) (θ (bq (a::r))))=true:=Xqc (by have:=kH uz (a::r);unfold bq;rw [this,h];exact κ _);refine ⟨⟨0,(k:Int),i,false,1,0,e,false,c,g⟩,u _ rfl rfl rfl,hcap _ rfl rfl,λnt y=> ?_⟩;have j:ag prog ap [] nt (af 4 (am f11)) (BI (.sl (eY l) l.length m) k [.ref 2 0 0 q,.ref 3 0 0 1,.nilS] (bq (a::r)) K0) .normal (BI (.sl (eY l) l.length m) (k+1) [.ref 2 0 0 (q+1),.ref 3 0 0 1,.nilS] ((τ (q*14) (bq (a::r)))++ [ω 0,ω (k:Int),.str i,.bool false,ω 1,ω 0,.sl (aO e) e.length false,.bool false,.bool c.n,.str c.a,.str c.d,.bool g.n,.str g.a,.str g.d]) K0):=pN 11 [] 5 7 (.k 2 (Xqc (by omega:q+1<=549755813888)) (.c w (.k 35 (cR 1 f.length) (.c (cR f.length f.length) (.k 1 (kT k) (.c (aS d) (.k 2 (lj 0 f.length) (.k 1 (kT k) (.c (aS d) (.c (ax (lj 0 f.length)) (.k 1 (kT k) (.c (aS d) (.c (ax (aS B)) (.c (ax (aS d)) .nil)))))))))))))) (.v 113 (.eq (ku D)) (.c cm (.c (bp (1+n / 36 % 14)) (.v 158 (.eq (wF (k:=n / 36 % 14))) (.v 157 (.eq (js (n / 36) 14)) (.v 156 (.eq (Hr n 36 b)) (.c cb (.c cp1 (.c cq (.c (bp (1+n / 12 % 3)) (.v 142 (.eq (wF (k:=n / 12 % 3))) (.v 141 (.eq (js (n / 12) 3)) (.v 140 (.eq (Hr n 12 b)) (.c (bp (1+n / 4 % 3)) (.v 137 (.eq (wF (k:=n / 4 % 3))) (.v 136 (.eq (js (n / 4) 3)) (.v 135 (.eq (Hr n 4 b)) (.v 132 (.eq p) (.v 130 (.ppt o) (.c t (.v 125 (.ppt z) (.v 123 (.ppt o) (.v 117 (.ppt o) .nil))))))))))))))))))))))) y;have J:τ (q*14) (bq (a::r))++ [ω 0,ω (k:Int),.str i,.bool false,ω 1,ω 0,.sl (aO e) e.length false,.bool false,.bool c.n,.str c.a,.str c.d,.bool g.n,.str g.a,.str g.d]=bq ((a::r)++ [⟨0,(k:Int),i,false,1,0,e,false,c,g⟩]):=mL h ⟨0,(k:Int),i,false,1,0,e,false,c,g⟩;rw [J] at j;exact j
theorem Ww (l:List (List Int)) (i:Bool) (K0 K1:List AV) (k q:Nat) (es:List aP) (m:List Int) (z:List AV) (g o:List UInt8) (e:List Nd) (b c:Rw) (d:es.length=q) (y:q=k) (u:k<4) (f:k<l.length) (w:(ε ((δ (k:Int))*1) (eY l))= [Xke (iL m) m.length false]++z) (B:m.length=0)
  (hst:b.sm) (hcp:c.sm) (hcap:∀ x:aP,x.st=b->x.cp=c->mF x) (he1:e.length<=61) (he2:∀ x ∈ e,x.sm) (cq:CO 32 [Ω false (ae 1) (ae 1),Ω false (ae 1) (ae 1)] (.ret (.tup [.agg b.c,.bool true]))) (cm:CO 38 [.agg b.c,Ω false (ae 1) (ae 1)] (.ret (.agg c.c)))
  (cb:CO 37 [.sl [] 0 true] (.ret (.sl (aO e) e.length false))) (cp1:CO 34 [ω (k:Int)] (.ret (.str g))) (cp2:CO 34 [ω ((k - 0:Nat):Int)] (.ret (.str o))):∃ x:aP,x.sm/\mF x/\∀ nt,190<=nt->ag prog ap [] nt (af 4 (am f11)) (yR l i K0 K1 1 (k,q,es)) .normal (yR l i K0 K1 1 (k+1,q+1,es++ [x])):=by
 have v:k<2^62:=by omega
 have j:∀ (x:aP),x.body=e->x.st=b->x.cp=c->x.sm:=λx t h A=> ⟨by rw [t];exact he2,by rw [t];omega,by rw [h];exact hst,by rw [A];exact hcp⟩
 cases es with
 |nil=>
  obtain rfl:q=0:=by simpa using d.symm
  refine ⟨⟨0,(k:Int),g,false,1,0,e,false,b,c⟩,j _ rfl rfl rfl,hcap _ rfl rfl,λnt s=> ?_⟩;have h:ag prog ap [] nt (af 4 (am f11)) (Ux (.sl (eY l) l.length i) k K0) .normal (BI (.sl (eY l) l.length i) (k+1) [.ref 2 0 0 1,.ref 3 0 0 1,.nilS] [ω 0,ω (k:Int),.str g,.bool false,ω 1,ω 0,.sl (aO e) e.length false,.bool false,.bool b.n,.str b.a,.str b.d,.bool c.n,.str c.a,.str c.d] K0):=pN 11 [] 6 3 (.k 37 (aw (iI 0 m.length)) (.k 1 (kT k) (.c (aS f) (.c (ax (aS u)) (.c (ax (aS f)) .nil))))) (.v 113 (.eq (ku v)) (.c cm (.c (bp 1) (.c cb (.c cp1 (.c cq (.c (bp 1) (.c (bp 1) (.v 117 (.ppt w) .nil))))))))) s;exact h
 |cons a r=>
  have p:(Xqr (q*14) (θ (bq (a::r))))=true:=Xqc (by have:=kH uz (a::r);unfold bq;rw [this,d];exact κ _);refine ⟨⟨0,(k:Int),g,false,1,0,e,false,b,c⟩,j _ rfl rfl rfl,hcap _ rfl rfl,λnt s=> ?_⟩;have h:ag prog ap [] nt (af 4 (am f11)) (BI (.sl (eY l) l.length i) k [.ref 2 0 0 q,.ref 3 0 0 1,.nilS] (bq (a::r)) K0) .normal (BI (.sl (eY l) l.length i) (k+1) [.ref 2 0 0 (q+1),.ref 3 0 0 1,.nilS] ((τ (q*14) (bq (a::r)))++ [ω 0,ω (k:Int),.str g,.bool false,ω 1,ω 0,.sl (aO e) e.length false,.bool false,.bool b.n,.str b.a,.str b.d,.bool c.n,.str c.a,.str c.d]) K0):=pN 11 [] 5 3 (.k 2 (Xqc (by omega:q+1<=549755813888)) (.c p (.k 34 (aw (iI 0 m.length)) (.k 1 (kT k) (.c (aS f) (.c (ax (aS u)) (.c (ax (aS f)) .nil))))))) (.v 113 (.eq (ku v)) (.c cm (.c (bp 1) (.c cb (.c cp1 (.c cq (.c (bp 1) (.c (bp 1) (.v 117 (.ppt w) .nil))))))))) s;have C:τ (q*14) (bq (a::r))++ [ω 0,ω (k:Int),.str g,.bool false,ω 1,ω 0,.sl (aO e) e.length false,.bool false,.bool b.n,.str b.a,.str b.d,.bool c.n,.str c.a,.str c.d]=bq ((a::r)++ [⟨0,(k:Int),g,false,1,0,e,false,b,c⟩]):=mL d ⟨0,(k:Int),g,false,1,0,e,false,b,c⟩;rw [C] at h;exact h
theorem Wz (l:List (List Int)) (p:Bool) (K0 K1:List AV) (k q:Nat) (es:List aP) (h:List Int) (J:List AV) (s j:List UInt8) (e:List Nd) (d f:Rw) (i:es.length=q) (I:q=k) (D:k<4) (g:k<l.length) (o:(ε ((δ (k:Int))*1) (eY l))= [Xke (iL h) h.length false]++J) (G:Int) (w:List Int) (B:ε 0 (iL h)= [ω G]++iL w) (L:0<h.length) (t:Xke (ε 1 (τ ((δ (h.length:Int))*1) (iL h))) ((δ (h.length:Int)) - 1) false=Xke (iL w) w.length false) (n:Nat) (c:n<2^62) (u:CO 35 [ω G,ω ((1048576:Nat):Int)] (.ret (ω (n:Int))))
  (hst:d.sm) (hcp:f.sm) (hcap:∀ x:aP,x.st=d->x.cp=f->mF x) (he1:e.length<=61) (he2:∀ x ∈ e,x.sm) (cq:CO 32 [Ω false (ae (1+n / 4 % 3)) (ae 1),Ω false (ae (1+n / 12 % 3)) (ae 1)] (.ret (.tup [.agg d.c,.bool true]))) (cm:CO 38 [.agg d.c,Ω false (ae (1+n / 36 % 14)) (ae 1)] (.ret (.agg f.c)))
  (cb:CO 37 [.sl (iL w) w.length false] (.ret (.sl (aO e) e.length false))) (cp1:CO 34 [ω (k:Int)] (.ret (.str s))) (cp2:CO 34 [ω ((k - n % 2:Nat):Int)] (.ret (.str j))):∃ x:aP,x.sm/\mF x/\∀ nt,190<=nt->ag prog ap [] nt (af 4 (am f11)) (yR l p K0 K1 2 (k,q,es)) .normal (yR l p K0 K1 2 (k+1,q+1,es++ [x])):=by
 have z:k<2^62:=by omega
 have v:∀ (x:aP),x.body=e->x.st=d->x.cp=f->x.sm:=λx F m K=> ⟨by rw [F];exact he2,by rw [F];omega,by rw [m];exact hst,by rw [K];exact hcp⟩
 cases es with
 |nil=>
  obtain rfl:q=0:=by simpa using i.symm
  have C:¬ 2<=k:=by omega
  refine ⟨⟨0,(k:Int),s,false,1,0,e,false,d,f⟩,v _ rfl rfl rfl,hcap _ rfl rfl,λnt A=> ?_⟩;have m:ag prog ap [] nt (af 4 (am f11)) (Uy (.sl (eY l) l.length p) k K0 K1) .normal (AA (.sl (eY l) l.length p) (k+1) [.ref 2 0 0 1,.ref 3 0 0 2,.nilS] [ω 0,ω (k:Int),.str s,.bool false,ω 1,ω 0,.sl (aO e) e.length false,.bool false,.bool d.n,.str d.a,.str d.d,.bool f.n,.str f.a,.str f.d] K0 K1):=pN 11 [] 6 15 (.k 19 (aw (eu 2 k)) (.k 18 (cR 1 h.length) (.c (cR h.length h.length) (.k 1 (kT k) (.c (aS g) (.k 2 (lj 0 h.length) (.k 1 (kT k) (.c (aS g) (.c (ax (lj 0 h.length)) (.k 1 (kT k) (.c (aS g) (.c (ax (aS D)) (.c (ax (aS g)) .nil))))))))))))) (.v 113 (.eq (ku z)) (.c cm (.c (bp (1+n / 36 % 14)) (.v 158 (.eq (wF (k:=n / 36 % 14))) (.v 157 (.eq (js (n / 36) 14)) (.v 156 (.eq (Hr n 36 c)) (.c cb (.c cp1 (.c cq (.c (bp (1+n / 12 % 3)) (.v 142 (.eq (wF (k:=n / 12 % 3))) (.v 141 (.eq (js (n / 12) 3)) (.v 140 (.eq (Hr n 12 c)) (.c (bp (1+n / 4 % 3)) (.v 137 (.eq (wF (k:=n / 4 % 3))) (.v 136 (.eq (js (n / 4) 3)) (.v 135 (.eq (Hr n 4 c)) (.v 132 (.eq t) (.v 130 (.ppt o) (.c u (.v 125 (.ppt B) (.v 123 (.ppt o) (.v 117 (.ppt o) .nil))))))))))))))))))))))) A;exact m
 | cons a r=>
  have y:(Xqr (q*14) (θ (bq (a::r))))=true:=Xqc (by have:=kH uz (a::r);unfold bq;rw [this,i];exact κ _);by_cases C:2<=k
  .refine ⟨⟨1,(((k - 2):Nat):Int),j,false,1,0,e,false,d,f⟩,v _ rfl rfl rfl,hcap _ rfl rfl,λnt A=> ?_⟩;have m:ag prog ap [] nt (af 4 (am f11)) (AA (.sl (eY l) l.length p) k [.ref 2 0 0 q,.ref 3 0 0 2,.nilS] (bq (a::r)) K0 K1) .normal (AA (.sl (eY l) l.length p) (k+1) [.ref 2 0 0 (q+1),.ref 3 0 0 2,.nilS] ((τ (q*14) (bq (a::r)))++ [ω 1,ω (((k - 2):Nat):Int),.str j,.bool false,ω 1,ω 0,.sl (aO e) e.length false,.bool false,.bool d.n,.str d.a,.str d.d,.bool f.n,.str f.a,.str f.d]) K0 K1):=pN 11 [] 5 31 (.k 2 (Xqc (by omega:q+1<=549755813888)) (.c y (.k 19 (ax (cR 2 k)) (.k 18 (cR 1 h.length) (.c (cR h.length h.length) (.k 1 (kT k) (.c (aS g) (.k 2 (lj 0 h.length) (.k 1 (kT k) (.c (aS g) (.c (ax (lj 0 h.length)) (.k 1 (kT k) (.c (aS g) (.c (ax (aS D)) (.c (ax (aS g)) .nil))))))))))))))) (.v 113 (.eq (ku z)) (.c cp2 (.v 178 (.eq (XU (a:=n % 2) (b:=k) (by omega) z)) (.v 177 (.eq (js n 2)) (.v 173 (.eq (XU (a:=2) (b:=k) (by omega) z)) (.c cm (.c (bp (1+n / 36 % 14)) (.v 158 (.eq (wF (k:=n / 36 % 14))) (.v 157 (.eq (js (n / 36) 14)) (.v 156 (.eq (Hr n 36 c)) (.c cb (.c cp1 (.c cq (.c (bp (1+n / 12 % 3)) (.v 142 (.eq (wF (k:=n / 12 % 3))) (.v 141 (.eq (js (n / 12) 3)) (.v 140 (.eq (Hr n 12 c)) (.c (bp (1+n / 4 % 3)) (.v 137 (.eq (wF (k:=n / 4 % 3))) (.v 136 (.eq (js (n / 4) 3)) (.v 135 (.eq (Hr n 4 c)) (.v 132 (.eq t) (.v 130 (.ppt o) (.c u (.v 125 (.ppt B) (.v 123 (.ppt o) (.v 117 (.ppt o) .nil))))))))))))))))))))))))))) A;have E:τ (q*14) (bq (a::r))++ [ω 1,ω (((k - 2):Nat):Int),.str j,.bool false,ω 1,ω 0,.sl (aO e) e.length false,.bool false,.bool d.n,.str d.a,.str d.d,.bool f.n,.str f.a,.str f.d]=bq ((a::r)++ [⟨1,(((k - 2):Nat):Int),j,false,1,0,e,false,d,f⟩]):=mL i ⟨1,(((k - 2):Nat):Int),j,false,1,0,e,false,d,f⟩;rw [E] at m;exact m
  .refine ⟨⟨0,(k:Int),s,false,1,0,e,false,d,f⟩,v _ rfl rfl rfl,hcap _ rfl rfl,λnt A=> ?_⟩;have m:ag prog ap [] nt (af 4 (am f11)) (AA (.sl (eY l) l.length p) k [.ref 2 0 0 q,.ref 3 0 0 2,.nilS] (bq (a::r)) K0 K1) .normal (AA (.sl (eY l) l.length p) (k+1) [.ref 2 0 0 (q+1),.ref 3 0 0 2,.nilS] ((τ (q*14) (bq (a::r)))++ [ω 0,ω (k:Int),.str s,.bool false,ω 1,ω 0,.sl (aO e) e.length false,.bool false,.bool d.n,.str d.a,.str d.d,.bool f.n,.str f.a,.str f.d]) K0 K1):=pN 11 [] 5 15 (.k 2 (Xqc (by omega:q+1<=549755813888)) (.c y (.k 16 (aw (eu 2 k)) (.k 18 (cR 1 h.length) (.c (cR h.length h.length) (.k 1 (kT k) (.c (aS g) (.k 2 (lj 0 h.length) (.k 1 (kT k) (.c (aS g) (.c (ax (lj 0 h.length)) (.k 1 (kT k) (.c (aS g) (.c (ax (aS D)) (.c (ax (aS g)) .nil))))))))))))))) (.v 113 (.eq (ku z)) (.c cm (.c (bp (1+n / 36 % 14)) (.v 158 (.eq (wF (k:=n / 36 % 14))) (.v 157 (.eq (js (n / 36) 14)) (.v 156 (.eq (Hr n 36 c)) (.c cb (.c cp1 (.c cq (.c (bp (1+n / 12 % 3)) (.v 142 (.eq (wF (k:=n / 12 % 3))) (.v 141 (.eq (js (n / 12) 3)) (.v 140 (.eq (Hr n 12 c)) (.c (bp (1+n / 4 % 3)) (.v 137 (.eq (wF (k:=n / 4 % 3))) (.v 136 (.eq (js (n / 4) 3)) (.v 135 (.eq (Hr n 4 c)) (.v 132 (.eq t) (.v 130 (.ppt o) (.c u (.v 125 (.ppt B) (.v 123 (.ppt o) (.v 117 (.ppt o) .nil))))))))))))))))))))))) A;have E:τ (q*14) (bq (a::r))++ [ω 0,ω (k:Int),.str s,.bool false,ω 1,ω 0,.sl (aO e) e.length false,.bool false,.bool d.n,.str d.a,.str d.d,.bool f.n,.str f.a,.str f.d]=bq ((a::r)++ [⟨0,(k:Int),s,false,1,0,e,false,d,f⟩]):=mL i ⟨0,(k:Int),s,false,1,0,e,false,d,f⟩;rw [E] at m;exact m
theorem Wy (l:List (List Int)) (j:Bool) (K0 K1:List AV) (k q:Nat) (es:List aP) (p:List Int) (C:List AV) (m h:List UInt8) (e:List Nd) (c d:Rw) (f:es.length=q) (B:q=k) (w:k<4) (g:k<l.length) (y:(ε ((δ (k:Int))*1) (eY l))= [Xke (iL p) p.length false]++C) (E:p.length=0)
  (hst:c.sm) (hcp:d.sm) (hcap:∀ x:aP,x.st=c->x.cp=d->mF x) (he1:e.length<=61) (he2:∀ x ∈ e,x.sm) (cq:CO 32 [Ω false (ae 1) (ae 1),Ω false (ae 1) (ae 1)] (.ret (.tup [.agg c.c,.bool true]))) (cm:CO 38 [.agg c.c,Ω false (ae 1) (ae 1)] (.ret (.agg d.c)))
  (cb:CO 37 [.sl [] 0 true] (.ret (.sl (aO e) e.length false))) (cp1:CO 34 [ω (k:Int)] (.ret (.str m))) (cp2:CO 34 [ω ((k - 0:Nat):Int)] (.ret (.str h))):∃ x:aP,x.sm/\mF x/\∀ nt,190<=nt->ag prog ap [] nt (af 4 (am f11)) (yR l j K0 K1 2 (k,q,es)) .normal (yR l j K0 K1 2 (k+1,q+1,es++ [x])):=by
 have t:k<2^62:=by omega
 have o:∀ (x:aP),x.body=e->x.st=c->x.cp=d->x.sm:=λx A i D=> ⟨by rw [A];exact he2,by rw [A];omega,by rw [i];exact hst,by rw [D];exact hcp⟩
 cases es with
 |nil=>
  obtain rfl:q=0:=by simpa using f.symm
  have v:¬ 2<=k:=by omega
  refine ⟨⟨0,(k:Int),m,false,1,0,e,false,c,d⟩,o _ rfl rfl rfl,hcap _ rfl rfl,λnt u=> ?_⟩;have i:ag prog ap [] nt (af 4 (am f11)) (Uy (.sl (eY l) l.length j) k K0 K1) .normal (AA (.sl (eY l) l.length j) (k+1) [.ref 2 0 0 1,.ref 3 0 0 2,.nilS] [ω 0,ω (k:Int),.str m,.bool false,ω 1,ω 0,.sl (aO e) e.length false,.bool false,.bool c.n,.str c.a,.str c.d,.bool d.n,.str d.a,.str d.d] K0 K1):=pN 11 [] 6 11 (.k 19 (aw (eu 2 k)) (.k 17 (aw (iI 0 p.length)) (.k 1 (kT k) (.c (aS g) (.c (ax (aS w)) (.c (ax (aS g)) .nil)))))) (.v 113 (.eq (ku t)) (.c cm (.c (bp 1) (.c cb (.c cp1 (.c cq (.c (bp 1) (.c (bp 1) (.v 117 (.ppt y) .nil))))))))) u;exact i
 | cons a r=>
  have s:(Xqr (q*14) (θ (bq (a::r))))=true:=Xqc (by have:=kH uz (a::r);unfold bq;rw [this,f];exact κ _);by_cases v:2<=k
  .refine ⟨⟨1,(((k - 2):Nat):Int),h,false,1,0,e,false,c,d⟩,o _ rfl rfl rfl,hcap _ rfl rfl,λnt u=> ?_⟩;have i:ag prog ap [] nt (af 4 (am f11)) (AA (.sl (eY l) l.length j) k [.ref 2 0 0 q,.ref 3 0 0 2,.nilS] (bq (a::r)) K0 K1) .normal (AA (.sl (eY l) l.length j) (k+1) [.ref 2 0 0 (q+1),.ref 3 0 0 2,.nilS] ((τ (q*14) (bq (a::r)))++ [ω 1,ω (((k - 2):Nat):Int),.str h,.bool false,ω 1,ω 0,.sl (aO e) e.length false,.bool false,.bool c.n,.str c.a,.str c.d,.bool d.n,.str d.a,.str d.d]) K0 K1):=pN 11 [] 5 27 (.k 2 (Xqc (by omega:q+1<=549755813888)) (.c s (.k 19 (ax (cR 2 k)) (.k 17 (aw (iI 0 p.length)) (.k 1 (kT k) (.c (aS g) (.c (ax (aS w)) (.c (ax (aS g)) .nil)))))))) (.v 113 (.eq (ku t)) (.c cp2 (.v 178 (.eq (XU (a:=0) (b:=k) (by omega) t)) (.v 173 (.eq (XU (a:=2) (b:=k) (by omega) t)) (.c cm (.c (bp 1) (.c cb (.c cp1 (.c cq (.c (bp 1) (.c (bp 1) (.v 117 (.ppt y) .nil)))))))))))) u;have z:τ (q*14) (bq (a::r))++ [ω 1,ω (((k - 2):Nat):Int),.str h,.bool false,ω 1,ω 0,.sl (aO e) e.length false,.bool false,.bool c.n,.str c.a,.str c.d,.bool d.n,.str d.a,.str d.d]=bq ((a::r)++ [⟨1,(((k - 2):Nat):Int),h,false,1,0,e,false,c,d⟩]):=mL f ⟨1,(((k - 2):Nat):Int),h,false,1,0,e,false,c,d⟩;rw [z] at i;exact i
  .refine ⟨⟨0,(k:Int),m,false,1,0,e,false,c,d⟩,o _ rfl rfl rfl,hcap _ rfl rfl,λnt u=> ?_⟩;have i:ag prog ap [] nt (af 4 (am f11)) (AA (.sl (eY l) l.length j) k [.ref 2 0 0 q,.ref 3 0 0 2,.nilS] (bq (a::r)) K0 K1) .normal (AA (.sl (eY l) l.length j) (k+1) [.ref 2 0 0 (q+1),.ref 3 0 0 2,.nilS] ((τ (q*14) (bq (a::r)))++ [ω 0,ω (k:Int),.str m,.bool false,ω 1,ω 0,.sl (aO e) e.length false,.bool false,.bool c.n,.str c.a,.str c.d,.bool d.n,.str d.a,.str d.d]) K0 K1):=pN 11 [] 5 11 (.k 2 (Xqc (by omega:q+1<=549755813888)) (.c s (.k 16 (aw (eu 2 k)) (.k 17 (aw (iI 0 p.length)) (.k 1 (kT k) (.c (aS g) (.c (ax (aS w)) (.c (ax (aS g)) .nil)))))))) (.v 113 (.eq (ku t)) (.c cm (.c (bp 1) (.c cb (.c cp1 (.c cq (.c (bp 1) (.c (bp 1) (.v 117 (.ppt y) .nil))))))))) u;have z:τ (q*14) (bq (a::r))++ [ω 0,ω (k:Int),.str m,.bool false,ω 1,ω 0,.sl (aO e) e.length false,.bool false,.bool c.n,.str c.a,.str c.d,.bool d.n,.str d.a,.str d.d]=bq ((a::r)++ [⟨0,(k:Int),m,false,1,0,e,false,c,d⟩]):=mL f ⟨0,(k:Int),m,false,1,0,e,false,c,d⟩;rw [z] at i;exact i
theorem Rh {l:List (List Int)} {i:Nat} (h:i<l.length):ε (δ (i:Int)*1) (eY l)= [Xke (iL (l.getD i [])) (l.getD i []).length false]++eY (l.drop (i+1)):=by
 have e:∀ l:List (List Int),eY l=l.map λb=>Xke (iL b) b.length false:=by
  intro l
  induction l with
  |nil=>rfl
  |cons a r ih=>simp only [eY,Xxw,Xqf] at ih ⊢;rw [ih];rfl
 rw [aF,Xqi,e,e,<- Xjy,List.drop_eq_getElem_cons h,μ,ν h];rfl
theorem wO (a:List Int) (b:Bool):∃ e:List Nd,e.length<=61/\(∀ x ∈ e,x.sm)/\CO 37 [.sl (iL a) a.length b] (.ret (.sl (aO e) e.length false)):=by
 obtain ⟨e,_,c,f,d⟩:=Qa a b;have h5:=d.thaw (by simp);simp only [ny,thaw] at h5;rw [Xqa (by rw [qw];exact κ _)] at h5;exact ⟨e,c,f,Vr h5⟩
theorem Zw (b:Int) (a:List Int):Xke (ε 1 (τ ((δ (((b::a).length:Nat):Int))*1) (iL (b::a)))) ((δ (((b::a).length:Nat):Int)) - 1) false=Xke (iL a) a.length false:=by
 rw [aF,Xqi,Xqa (by simp [iL])];rfl
theorem Ny (l:List (List Int)) (u:Bool) (K0 K1:List AV) (z:Nat) (B:z=1\/z=2) (k q:Nat) (es:List aP) (h:es.length=q) (m:q=k) (y:k<4) (i:k<l.length):
  ∃ x:aP,x.sm/\mF x/\∀ nt,190<=nt->ag prog ap [] nt (af 4 (am f11)) (yR l u K0 K1 z (k,q,es)) .normal (yR l u K0 K1 z (k+1,q+1,es++ [x])):=by
 obtain ⟨w,v,A⟩:∃ (w:List Int) (v:List AV),ε (δ (k:Int)*1) (eY l)= [Xke (iL w) w.length false]++v:=⟨_,_,Rh i⟩
 rcases B with rfl|rfl
 ·
  cases w with
  |nil=>
   obtain ⟨e,f,d,r⟩:=wO [] true;obtain ⟨t,s,c,g,b,p,o⟩:=tE 1 1 1;exact Ww l u K0 K1 k q es [] v _ _ e t s h m y i A rfl c g b f d p o r (fD _) (fD _)
  |cons y0 yr=>
   obtain ⟨e,f,d,r⟩:=wO yr false;have C:=cW (a:=y0) (n:=1048576);have j:=fW y0 1048576;generalize eG y0 1048576=n at C j;obtain ⟨t,s,c,g,b,p,o⟩:=tE (1+n / 4 % 3) (1+n / 12 % 3) (1+n / 36 % 14);exact Wx l u K0 K1 k q es (y0::yr) v _ _ e t s h m y i A y0 yr rfl (by simp) (Zw y0 yr) n (by omega) j c g b f d p o r (fD _) (fD _)
 ·
  cases w with
  |nil=>
   obtain ⟨e,f,d,r⟩:=wO [] true;obtain ⟨t,s,c,g,b,p,o⟩:=tE 1 1 1;exact Wy l u K0 K1 k q es [] v _ _ e t s h m y i A rfl c g b f d p o r (fD _) (fD _)
  |cons y0 yr=>
   obtain ⟨e,f,d,r⟩:=wO yr false;have C:=cW (a:=y0) (n:=1048576);have j:=fW y0 1048576;generalize eG y0 1048576=n at C j;obtain ⟨t,s,c,g,b,p,o⟩:=tE (1+n / 4 % 3) (1+n / 12 % 3) (1+n / 36 % 14);exact Wz l u K0 K1 k q es (y0::yr) v _ _ e t s h m y i A y0 yr rfl (by simp) (Zw y0 yr) n (by omega) j c g b f d p o r (fD _) (fD _)
theorem Ib (l:List (List Int)) (o:Bool) (K0 K1:List AV) (j:Nat) (f:j=1\/j=2):∀ (d k:Nat) (es:List aP),k+d=min l.length 4->es.length=k->(∀ x ∈ es,x.sm/\mF x)->
  ∃ c:List aP,c.length=min l.length 4/\(∀ x ∈ c,x.sm/\mF x)/\∀ nt,190<=nt->aB prog ap [] nt (af 4 (am f11)) (λ_=> .exit 4) (yR l o K0 K1 j) (Ev K0 K1 j) (k,k,es) (min l.length 4,c):=by
 intro d
 induction d with
 | zero=>
  intro k es hd i m;obtain rfl:k=min l.length 4:=by omega
  refine ⟨es,i,m,λnt e=> .done ?_⟩;generalize v:min l.length 4=k at i ⊢;by_cases b:l.length<=k
  .rcases f with rfl|rfl
   .cases es with
    |nil=>exact pN 11 [] 2 0 (.k 1 (aw (ux b)) .nil) (.nil) e
    |cons a r=>exact pN 11 [] 2 0 (.k 1 (aw (ux b)) .nil) (.nil) e
   .cases es with
    |nil=>exact pN 11 [] 2 0 (.k 1 (aw (ux b)) .nil) (.nil) e
    |cons a r=>exact pN 11 [] 2 0 (.k 1 (aw (ux b)) .nil) (.nil) e
  .have g:4<=k:=by omega
   have b:k<l.length:=by omega
   rcases f with rfl|rfl
   .cases es with
    |nil=>exact pN 11 [] 2 1 (.c (aw (ux g)) (.c (ax (aS b)) .nil)) (.nil) e
    |cons a r=>exact pN 11 [] 2 1 (.c (aw (ux g)) (.c (ax (aS b)) .nil)) (.nil) e
   .cases es with
    |nil=>exact pN 11 [] 2 1 (.c (aw (ux g)) (.c (ax (aS b)) .nil)) (.nil) e
    |cons a r=>exact pN 11 [] 2 1 (.c (aw (ux g)) (.c (ax (aS b)) .nil)) (.nil) e
 | succ d ih=>
  intro k es hd i m;obtain ⟨x,q,s,u⟩:=Ny l o K0 K1 j f k k es i rfl (by omega) (by omega);obtain ⟨c,g,h5,t⟩:=ih (k+1) (es++ [x]) (by omega) (by simp [i]) (by
   intro y p;rcases List.mem_append.1 p with h|h
   .exact m y h
   .rw [List.mem_singleton.1 h];exact ⟨q,s⟩)
  exact ⟨c,g,h5,λnt e=> .next (u nt e) (t nt e)⟩
end Go.Proofs.Tryz
open Go AM Go.RowKit Go.Shelf
namespace Go.Proofs.Tryz
section
variable {P:Program} {n:Nat} {α:Type}
def Hz {β:Type} (J:β->World->Prop):Prop:=∀ s W W',J s W->W.grownBy W' none->J s W'
def oI {β:Type} (B:Nat) (I:β->World->Prop):Prop:=
 ∀ s W W' row,I s W->W.grownBy W' row->(∀ r,row=some r->B<=r/\∃ o:Obj,W.heap[r]? =some o/\o.isCells=false/\o.isWalk=false)->I s W'
theorem oI.putObj {β:Type} {B:Nat} {I:β->World->Prop} (h:oI B I) {s:β} {W:World} {l:Nat} {o:Obj} (a:Obj) (hs:I s W) (c:B<=l) (d:W.heap[l]? =some o) (b:o.isCells=false) (f:o.isWalk=false):I s (W.putObj l a):=
 h s W _ (some l) hs (grownBy_putObj' W l a) (λr e=>by cases e;exact ⟨c,o,d,b,f⟩)
theorem oI.grows {β:Type} {B:Nat} {I:β->World->Prop} (h:oI B I):Hz I:=λs W W' hs a=>h s W W' none hs a (λr e=>by cases e)
theorem oI.alloc {β:Type} {B:Nat} {I:β->World->Prop} (h:oI B I) {s:β} {W:World} (o:Obj) (hs:I s W):I s (W.alloc o):=
 h.grows s W _ hs (World.grownBy_alloc W o none)
def Lx (n:Nat) (P:Program) (gf:Nat) (lb:Array Value) (encs:α->Array Value) (G:List α × α->World->Prop) (Kp:World->World->Prop) (S Sp:List α->World->Prop) (w:World):Prop:=
 ∀ (l:Nat) (J Jx:List α->World->Prop) (W:World),Below w.heap.size w W->Hz J->Hz Jx->
  (∀ pre x W1,J pre W1->G (pre,x) W1->YieldAt Fence.wide (n - 1) P l (encs x) W1 λe W'=>(e= .returned (.bool true)/\J (pre++ [x]) W'/\Kp W1 W')\/(e= .returned (.bool false)/\Jx (pre++ [x]) W'))->
  J [] W->CallsIn Fence.wide n P gf (#[.func (.yield l) #[] #[]]++lb) W λe W'=>(∃ v,e= .returned v)/\((∃ xs,S xs W'/\J xs W')\/∃ pre,Sp pre W'/\Jx pre W')
def iS (d l:Nat) (r:Loop) (W:World):Prop:=W.heap[l]? =some (.loop r)/\W.heap[d]? =some (.deferred (some []))
theorem iS.put {d l:Nat} {r r':Loop} {W:World} (h:iS d l r W) (a:d ≠ l):iS d l r' (W.putObj l (.loop r')):=
 ⟨World.putObj_heap_same (Array.getElem?_eq_some_iff.1 h.1).1,(World.putObj_heap_other a).trans h.2⟩
theorem iS.abides {d l:Nat} {r:Loop} {A B:World} (h:iS d l r A) (a:A.grownBy B none):iS d l r B:=
 ⟨(a.block l (Array.getElem?_eq_some_iff.1 h.1).1 (by simp)).trans h.1,(a.block d (Array.getElem?_eq_some_iff.1 h.2).1 (by simp)).trans h.2⟩
theorem iS.others {d l:Nat} {r:Loop} {A B:World} (h:iS d l r A) (a:KeepsOthers A B):iS d l r B:=⟨a.same _ _ h.1 rfl,a.same _ _ h.2 rfl⟩
theorem G8 {B d l:Nat} {r:Loop} {I:List α->World->Prop} {Ix:Code->List α->World->Prop} {Kp:World->World->Prop} {q:List α} {W A W3:World} {i:Exit} {p:Act} (f:d ≠ l) (a:B<=l) (s:oI B I) (j:∀ c,oI B (Ix c))
  (hKt:∀ {A B C:World},Kp A B->Kp B C->Kp A C) (hKb:∀ (W:World) (l:Nat) (o o':Obj),B<=l->W.heap[l]? =some o->o.isCells=false->o.isWalk=false->Kp W (W.putObj l o'))
  (hr:r.state= .ready) (hp0:r.pending=none) (hW:iS d l r W) (hA:A=W.putObj l (.loop {r with state:= .busy})) (hpost:ownPostK Kp I Ix q A i p W3):
  roundPost P l (λe W'=>(e= .returned (.bool true)/\(I q W'/\iS d l r W')/\Kp W W')\/(e= .returned (.bool false)/\∃ c,Ix c q W'/\iS d l {r with state:= .done,pending:=some c} W')) i p W3:=by
 subst hA;have m:iS d l {r with state:= .busy} (W.putObj l (.loop {r with state:= .busy})):=hW.put f;have u:=hKb W l _ (.loop {r with state:= .busy}) a hW.1 rfl rfl;have out:∀ c,KeepsOthers (W.putObj l (.loop {r with state:= .busy})) W3->Ix c q W3->∃ v w',(Instr.endRound l (some c)).run P W3= .ok v w'/\((Ending.returned v= .returned (.bool true)/\(I q w'/\iS d l r w')/\Kp W w')\/(Ending.returned v= .returned (.bool false)/\∃ c,Ix c q w'/\iS d l {r with state:= .done,pending:=some c} w')):=by
  intro c k h;have b:=m.others k;exact ⟨_,_,run_endRound (some c) b.1,.inr ⟨rfl,c,(j c).putObj _ h a b.1 rfl rfl,b.put f⟩⟩
 cases i with
 |normal=>
  obtain ⟨k,g,h⟩:=hpost;have b:=m.others k;refine ⟨_,_,run_endRound none b.1,.inl ⟨rfl,⟨s.putObj _ h a b.1 rfl rfl, ?_⟩,hKt (hKt u g) (hKb _ _ _ _ a b.1 rfl rfl)⟩⟩;have:=b.put (r':={r with state:= .ready,pending:=none}) f;have e:({r with state:= .ready,pending:=none}:Loop)=r:=by cases r;simp only at hr hp0;subst hr hp0;rfl
  rw [e] at this;simpa [e] using this
 |ret=>exact out .ret hpost.1 hpost.2
 |exit id=>exact out (.exit id) hpost.1 hpost.2
 |goto t=>exact out (.goto t) hpost.1 hpost.2
 |panic ch=>exact hpost.elim
 |outgrown=>exact hpost.elim
theorem Bs {g:Operand} {ps:Array Tmp} {assign d:Code} {Q:Exit->Act->World->Prop} {a:Act} {w:World} (J:1<=n) {gf:Nat} {lb:Array Value} (F:a.eval g= .func (.func gf) #[] lb) (E:∀ args w,(callFunc gf args).run P w= .ok (.enter gf args) w)
  {encs:α->Array Value} {G:List α × α->World->Prop} {Kp:World->World->Prop} {S Sp:List α->World->Prop} (hseq:Lx (n - 1) P gf lb encs G Kp S Sp w) (hps:∀ x,(encs x).size=ps.size)
  (I:List α->World->Prop) (Ix:Code->List α->World->Prop) (hI:oI w.heap.size I) (hIx:∀ c,oI w.heap.size (Ix c)) (hG:oI w.heap.size G) (hS:oI w.heap.size S) (hSp:oI w.heap.size Sp)
  (hKt:∀ {A B C:World},Kp A B->Kp B C->Kp A C) (hKb:∀ (W:World) (l:Nat) (o o':Obj),w.heap.size<=l->W.heap[l]? =some o->o.isCells=false->o.isWalk=false->Kp W (W.putObj l o')) (h0:I [] w) (a₁:α->Act)
  (hassign:∀ (l:Nat) (x:α) (W:World) (K:Act->World->Prop),K (a₁ x) W->assign.wpIn (Fence.wide.inRound l) (n - 1 - 1) P (Exit.then K (λ_ _ _=>False)) {tmps:=(ps.zip (encs x)).foldl (λt (p,v)=>t.setIfInBounds p v) a.tmps,defers:= []} W)
  (hbody:∀ (l:Nat) (pre:List α) (x:α) (W:World),I pre W->G (pre,x) W->d.wpIn (Fence.wide.inRound l) (n - 1 - 1) P (ownPostK Kp I Ix (pre++ [x]) W) (a₁ x) W)
  (hdone:∀ (D:Nat) (xs:List α) (W:World),w.heap.size<=D->S xs W->I xs W->W.heap[D]? =some (.deferred (some []))->Q .normal {a with defers:={target:= .collected D,args:=#[]}::a.defers} W)
  (hstop:∀ (D:Nat) (c:Code) (pre:List α) (W:World),w.heap.size<=D->Sp pre W->Ix c pre W->W.heap[D]? =some (.deferred (some []))->c.wpIn Fence.wide n P Q {a with defers:={target:= .collected D,args:=#[]}::a.defers} W):
  (Code.rangeFunc g ps assign d).wpIn Fence.wide n P Q a w:=by
 refine wpIn_rangeFunc λm q=> ?_
 obtain ⟨r,f⟩:∃ r:Loop,r={state:= .ready,pending:=none,fn:=m,tmps:=a.tmps,params:=ps,assign,body:=d,defers:=w.heap.size}:=⟨_,rfl⟩
 obtain ⟨W1,b⟩:∃ W1,(w.alloc (.deferred (some []))).alloc (.loop r)=W1:=⟨_,rfl⟩
 have i:iS w.heap.size (w.heap.size+1) r W1:=by
  subst b;refine ⟨?_,(Below.heap_alloc _ _ _ (by simp)).trans (World.alloc_heap_new w _)⟩;have:=World.alloc_heap_new (w.alloc (.deferred (some []))) (.loop r);rwa [World.size_alloc] at this
 have j:Below w.heap.size w W1:=by
  subst b;exact ((Below.refl _ w).alloc (κ _) _).alloc (by simp) _
 have L:W1.heap.size=w.heap.size+2:=by subst b;simp
 have u:I [] W1:=by subst b;exact hI.alloc _ (hI.alloc _ h0)
 refine ⟨w.heap.size+1,[{target:= .collected w.heap.size,args:=#[]}],W1,{target:= .fn (.func gf) lb,args:=#[.func (.yield (w.heap.size+1)) #[] #[]]},W1,gf,#[.func (.yield (w.heap.size+1)) #[] #[]]++lb,W1, ?_, ?_,λ_ _=>trivial, ?_,λ_=>J, ?_⟩
 .rw [<- b,f];exact run_enterLoop_outer _ _ _ _ _
 .simp only [resolve,F];simp [go_sem]
 .simp [invoke,go_sem,E]
 refine (hseq (w.heap.size+1) (λpre W=>I pre W/\iS w.heap.size (w.heap.size+1) r W) (λpre W=> ∃ c,Ix c pre W/\iS w.heap.size (w.heap.size+1) {r with state:= .done,pending:=some c} W) W1 j ?_ ?_ ?_ ⟨u,i⟩).mono ?_
 .rintro s A B ⟨h2,h3⟩ hgr
  exact ⟨hI.grows s A B h2 hgr,h3.abides hgr⟩
 .rintro s A B ⟨c,h2,h3⟩ hgr
  exact ⟨c,(hIx c).grows s A B h2 hgr,h3.abides hgr⟩
 .rintro pre x W ⟨hi,hl⟩ hgd
  have z:=run_yield (P:=P) (args:=encs x) hl.1 (by rw [f];exact hps x);rw [f] at z;refine ⟨m,_,assign,d,z,roundIn_of_wpIn q (hassign _ x W _ ⟨_,run_beginRound hl.1 (by rw [f]), ?_⟩)⟩;refine wpIn_mono (hbody _ pre x _ (hI.putObj _ hi (by omega) hl.1 rfl rfl) (hG.putObj _ hgd (by omega) hl.1 rfl rfl)) ?_;intro N M W3 hp;exact G8 (by omega) (by omega) hI hIx (λh k=>hKt h k) hKb (by rw [f]) (by rw [f]) hl rfl hp
 .rintro e W2 ⟨⟨v,rfl⟩,⟨xs,hs,hi,hl⟩|⟨pre,hs,c,hi,hl⟩⟩
  .have y:=run_endLoop (P:=P) hl.1 (by rw [f];simp);have hd:=hl.put (r':={r with state:= .exhausted,pending:=none}) (by omega);refine ⟨r.pending,_,y, ?_⟩;rw [show r.pending=none by rw [f]];exact hdone _ xs _ (κ _) (hS.putObj _ hs (by omega) hl.1 rfl rfl) (hI.putObj _ hi (by omega) hl.1 rfl rfl) hd.2
  .have y:=run_endLoop (P:=P) hl.1 (by simp);have hd:=hl.put (r':={r with state:= .exhausted,pending:=some c}) (by omega);exact ⟨some c,_,y,hstop _ c pre _ (κ _) (hSp.putObj _ hs (by omega) hl.1 rfl rfl) ((hIx c).putObj _ hi (by omega) hl.1 rfl rfl) hd.2⟩
end
end Go.Proofs.Tryz
open Go AM Go.RowKit Go.Shelf
namespace Go.Proofs.Tryz
def vk:AV->Bool
 | .tup l=>l.all jo
 |x=>jo x
def fF (S:aH):AV->Value->Prop
 | .tup l,v=> ∃ vs,v= .tuple vs.toArray/\bw S l vs
 |x,v=>PR S x v
theorem Jp {S S':aH} (h:eO S S'):∀ (x:AV) {v:Value},fF S x v->fF S' x v:=by
 intro x v a;cases x with
 |tup l=>obtain ⟨vs,e,hp⟩:=a;exact ⟨vs,e,aY h _ hp⟩
 |_=>exact aQ h _ a
theorem vU (n:Nat):∀ {l:List AV},l.all jo=true->cX n l=(l,[])
 | [],_=>rfl
 |x::r,h=>by
  simp only [Xzn,π] at h;have d:=vU n h.2;cases x with
  |own a b c=>exact absurd h.1 Xxt
  |_=>simp only [cX,d]
theorem GV {x:AV} (h:vk x=true) (n:Nat):(gq n x).2= []:=by
 cases x with
 |tup l=>simp only [gq,vU n h]
 |own a b c=>cases h
 |_=>rfl
theorem rJ {gh gf:bW} {m:aN} {S:aH} (n:Nat):∀ {l:List AV} {vs:List Value},l.all jo=true->(fq gh gf m S n l vs↔aU gh m S l vs)
 | [],[],_=>by simp [fq,aU]
 |x::r,v::vs,h=>by
  simp only [Xzn,π] at h;have d:=rJ (gh:=gh) (gf:=gf) (m:=m) (S:=S) n (vs:=vs) h.2;cases x with
  |own a b c=>exact absurd h.1 Xxt
  |_=>simp only [fq,aU,d]
 | [],_::_,_=>by simp [fq,aU]
 |x::_,[],_=>by cases x<;>simp [fq,aU]
theorem xA {gf:bW} {m:aN} {S:aH} {n:Nat} {x:AV} {v:Value} (h:vk x=true):qL (aW []) gf m S n x v↔fF S x v:=by
 have pr:∀ y,VR (aW []) m S y v↔PR S y v:=λy=> ⟨iW y,dZ y⟩
 cases x with
 |tup l=>
  simp only [qL,fF];constructor
  .rintro ⟨vs,e,hv⟩;exact ⟨vs,e,eJ _ ((rJ n h).1 hv)⟩
  .rintro ⟨vs,e,hv⟩;exact ⟨vs,e,(rJ n h).2 (bz _ hv)⟩
 |own a b c=>cases h
 |_=>exact pr _
structure kw (S:aH) (W:World) (S':aH) (W':World):Prop where
 sle:eO S S'
 cell:eO S' (aR W')
 new:∀ k o v,S' k o=some v->S k o=some v\/W.heap.size<=k
 bel:Below W.heap.size W W'
theorem kw.glob {S S':aH} {W W':World} (h:kw S W S' W') (c:cG ap S):cG ap S':=by
 intro k d f;obtain ⟨vs,e,a⟩:=c k d f;exact ⟨vs,aY h.sle _ e,λj u b=> ⟨h.sle _ _ _ (a j u b).1,(a j u b).2⟩⟩
theorem DS {f:Nat} {args:List AV} {x:AV} (j:CO f args (.ret x)) (g:vk x=true) {S:aH} {W:World} (p:eO S (aR W)) (i:cG ap S) {cargs:List Value} (m:bw S args cargs) {n:Nat}:
  CallsIn Fence.wide n prog f cargs.toArray W λe W'=> ∃ S' cv,e= .returned cv/\fF S' x cv/\kw S W S' W':=by
 refine callsIn_wide.2 ?_;refine (j.calls (λ_=>(0,0)) S W cargs ⟨λb q B B' h=>by simp [aW] at h,λb B h=>by simp [aW] at h,p,λb B h=>by simp [aW] at h,i⟩ (bz _ m)).mono ?_
 rintro e W' ⟨m',S',hF⟩
 obtain ⟨hs,a,c⟩:=hF;obtain ⟨cv,rfl,l⟩:=c;refine ⟨S',cv,rfl,(xA g).1 l,a.sle,hs.sealed,λk o v d=> ?_,a.os,a.tape,a.output,a.size,λk d=>a.rest k d λb B h=>by simp [aW] at h⟩;rcases a.sealN k o v d with h|h|⟨b,B,h,_⟩
 .exact .inl h
 .exact .inr h
 .simp [aW] at h
theorem Tz {f:Nat} {args:List AV} {x:AV} (a:rD prog f) (g:vk x=true) (h:∀ (S:aH) (w:World) (cargs:List Value),eO S (aR w)->cG ap S->bw S args cargs->CallsIn Fence.wide 9 prog f cargs.toArray w λe w'=> ∃ S' cv,e= .returned cv/\fF S' x cv/\kw S w S' w'):CO f args (.ret x):=by
 refine ⟨κ _,a, ?_⟩;intro m S w cargs d j;refine (callsIn_wide.1 (h S w cargs d.sealed d.glob (eJ (m:=m) _ j))).mono ?_
 rintro e w' ⟨S',cv,rfl,hr,ha⟩
 have i:il ([]:List aM).length (.ret x)= []:=GV g 0;refine ⟨m,S', ?_, ?_,⟨cv,rfl,(xA g).2 hr⟩⟩
 .rw [i];exact ⟨λb l B B' h=>by simp [aW] at h,λb B h=>by simp [aW] at h,ha.cell,λb B h=>by simp [aW] at h,ha.glob d.glob⟩
 .rw [i];refine ⟨Ge.refl _ _,ha.sle,ha.bel.os,ha.bel.tape,ha.bel.output,ha.bel.size,λk c _=>ha.bel.block k c,λ_ B h=>by simp [aW] at h,λk o v c=> ?_⟩;rcases ha.new k o v c with h|h
  .exact .inl h
  .exact .inr (.inl h)
structure Bx where
 S:aH
 n:Nat
 c:Nat
 le:n<=c
def dD (W:World) (c:Bx) (k:Nat):Prop:=∃ a l cap,W.cell? ⟨c.c,0,none⟩=some (.slice (some a) l cap)/\a.block=k
open Classical in
noncomputable def still (c:Bx) (W:World):aH:=λk o=>if k=c.c\/dD W c k\/(k<c.n/\c.S k o ≠ aR W k o) then none else aR W k o
theorem bF {c:Bx} {W:World} {k o:Nat} {v:Value}:still c W k o=some v↔k ≠ c.c/\¬ dD W c k/\aR W k o=some v/\(k<c.n->c.S k o=some v):=by
 unfold still;split
 .rename_i h;constructor
  .intro e;cases e
  .rintro ⟨h1,a,b,h4⟩;rcases h with h|h|⟨h5,f⟩
   .exact absurd h h1
   .exact absurd h a
   .exact absurd ((h4 h5).trans b.symm) f
 .rename_i h;constructor
  .intro e;exact ⟨λe=>h (.inl e),λe=>h (.inr (.inl e)),e,λd=>Classical.byContradiction λa=>h (.inr (.inr ⟨d,λb=>a (b.trans e)⟩))⟩
  .exact λe=>e.2.2.1
theorem tX (c:Bx) (W:World):eO (still c W) (aR W):=λ_ _ _ h=>(bF.1 h).2.2.1
structure bV (c:Bx) (W W':World):Prop where
 os:W'.os=W.os
 tape:W'.tape=W.tape
 output:W'.output=W.output
 size:W.heap.size<=W'.heap.size
 stl:eO (still c W) (still c W')
 back:(∀ k,dD W c k->k<W.heap.size)->∀ k,dD W' c k->k<W'.heap.size
theorem bV.refl (c:Bx) (W:World):bV c W W:=⟨rfl,rfl,rfl,κ _,λ_ _ _ h=>h,λh=>h⟩
theorem bV.trans {c:Bx} {A B C:World} (h:bV c A B) (k:bV c B C):bV c A C:=
 ⟨k.os.trans h.os,k.tape.trans h.tape,k.output.trans h.output,Xqs h.size k.size,λa b v e=>k.stl a b v (h.stl a b v e),λe=>k.back (h.back e)⟩
theorem kD {c:Bx} {W W':World} (h:W'.cell? ⟨c.c,0,none⟩=W.cell? ⟨c.c,0,none⟩) {k:Nat}:dD W' c k↔dD W c k:=by
 unfold dD;rw [h]
theorem bV.below {c:Bx} {W W':World} (d:c.c<W.heap.size) (h:Below W.heap.size W W'):bV c W W':=by
 have hs:∀ {k},dD W' c k↔dD W c k:=fun {k}=>kD (World.cell?_of_block (a:=⟨c.c,0,none⟩) (h.block c.c d))
 refine ⟨h.os,h.tape,h.output,h.size,λk o v e=> ?_,λm k l=>υ (m k (hs.1 l)) h.size⟩;obtain ⟨f,i,b,j⟩:=bF.1 e;exact bF.2 ⟨f,λg=>i (hs.1 g),by rw [eR (h.block k (ju b))];exact b,j⟩
theorem bV.put {c:Bx} (W:World) (l:Nat) (o d:Obj) (p:W.heap[l]? =some o) (t:o.isCells=false) (u:o.isWalk=false) (f:c.c ≠ l):bV c W (W.putObj l d):=by
 have j:∀ k,k ≠ l->(W.putObj l d).heap[k]? =W.heap[k]? :=λk b=>World.putObj_heap_other b
 have hs:∀ {k},dD (W.putObj l d) c k↔dD W c k:=fun {k}=>kD (World.cell?_of_block (a:=⟨c.c,0,none⟩) (j c.c f))
 have q:(W.putObj l d).heap.size=W.heap.size:=by simp
 refine ⟨rfl,rfl,rfl,by omega,λk a v e=> ?_,λg k b=>by rw [q];exact g k (hs.1 b)⟩;obtain ⟨r,s,i,m⟩:=bF.1 e;have b:k ≠ l:=by
  rintro rfl
  unfold aR at i;rw [p] at i;cases o<;>simp_all [Obj.isCells,Obj.isWalk,World.cell?]
 exact bF.2 ⟨r,λh=>s (hs.1 h),by rw [eR (j k b)];exact i,m⟩
theorem Fk {c:Bx} {S S':aH} {W W':World} (b:c.c<W.heap.size) (f:∀ k,dD W c k->k<W.heap.size) (g:eO S (still c W)) (h:kw S W S' W'):eO S' (still c W'):=by
 have hs:∀ {k},dD W' c k↔dD W c k:=fun {k}=>kD (World.cell?_of_block (a:=⟨c.c,0,none⟩) (h.bel.block c.c b))
 intro k o v e;rcases h.new k o v e with e1|e1
 .exact (bV.below b h.bel).stl k o v (g k o v e1)
 .exact bF.2 ⟨by omega,λd=>by have:=f k (hs.1 d);omega,h.cell k o v e,λd=>by have:=c.le;omega⟩
theorem bV.grown {c:Bx} {A B:World} {d:Option Nat} (s:c.c<A.heap.size) (b:A.grownBy B d) (l:∀ r,d=some r->c.c<r/\∃ o:Obj,A.heap[r]? =some o/\o.isCells=false/\o.isWalk=false):bV c A B:=by
 have u:∀ k,(∃ o v,aR A k o=some v)->some k ≠ d:=by
  rintro k ⟨o,v,h⟩ e
  obtain ⟨_,q,i,m,f⟩:=l k e.symm;unfold aR at h;rw [i] at h;cases q<;>simp_all [Obj.isCells,Obj.isWalk,World.cell?]
 have g:B.heap[c.c]? =A.heap[c.c]? :=b.block _ s λe=>by have:=(l c.c e.symm).1;omega
 have hs:∀ {k},dD B c k↔dD A c k:=fun {k}=>kD (World.cell?_of_block (a:=⟨c.c,0,none⟩) g)
 refine ⟨b.os,b.tape,b.output,b.size,λk o v e=> ?_,λw k j=>υ (w k (hs.1 j)) b.size⟩;obtain ⟨i,m,f,p⟩:=bF.1 e;exact bF.2 ⟨i,λt=>m (hs.1 t),by rw [eR (b.block k (ju f) (u k ⟨_,_,f⟩))];exact f,p⟩
theorem gC {f:Nat} {c:Bx} {args:List AV} {x:AV} (a:CO f args (.ret x)) (i:vk x=true) {W:World} (d:c.c<W.heap.size) (g:∀ k,dD W c k->k<W.heap.size) (b:cG ap (still c W)) {cargs:List Value} (j:bw (still c W) args cargs) {n:Nat}:
  CallsIn Fence.wide n prog f cargs.toArray W λe W'=> ∃ cv,e= .returned cv/\fF (still c W') x cv/\Below W.heap.size W W':=by
 refine (DS a i (tX c W) b j).mono ?_
 rintro e W' ⟨S',cv,rfl,hr,ha⟩
 exact ⟨cv,rfl,Jp (Fk d g (λ_ _ _ h=>h) ha) x hr,ha.bel⟩
theorem bV.glob {c:Bx} {A B:World} (h:bV c A B) (d:cG ap (still c A)):cG ap (still c B):=by
 intro k f g;obtain ⟨vs,e,a⟩:=d k f g;exact ⟨vs,aY h.stl _ e,λj u b=> ⟨h.stl _ _ _ (a j u b).1,(a j u b).2⟩⟩
attribute [local go_sem] Oper.semAt_some
inductive lT (F:List Rw->Int ⊕ List Rw):List Rw->List (List Rw × Int)->Prop
 |err {v:List Rw} {e:Int}:F v= .inl e->lT F v [(v,e)]
 |fix {v:List Rw}:F v= .inr v->lT F v [(v,0)]
 |step {v w:List Rw} {l:List (List Rw × Int)}:F v= .inr w->v ≠ w->lT F w l->lT F v ((v,0)::l)
theorem lT.det {F:List Rw->Int ⊕ List Rw} {v:List Rw} {r r':List (List Rw × Int)} (h:lT F v r) (a:lT F v r'):r=r':=by
 induction h generalizing r' with
 |err h1=>cases a with
  |err h2=>rw [h1] at h2;cases h2;rfl
  |fix h2=>rw [h1] at h2;cases h2
  |step h2=>rw [h1] at h2;cases h2
 |fix h1=>cases a with
  |err h2=>rw [h1] at h2;cases h2
  |fix h2=>rfl
  |step h2 hn=>rw [h1] at h2;cases h2;exact absurd rfl hn
 |step h1 hn _ ih=>cases a with
  |err h2=>rw [h1] at h2;cases h2
  |fix h2=>rw [h1] at h2;cases h2;exact absurd rfl hn
  |step h2 _ h3=>rw [h1] at h2;cases h2;rw [ih h3]
structure rI (sA:AV) (m:Nat) (F:List Rw->Int ⊕ List Rw) (inv:List Rw->Prop):Prop where
 co:∀ v,inv v->CO 41 [sA,.sl (cg v) v.length false] (.ret (Ay (F v)))
 len:∀ v,inv v->v.length=m
 nx:∀ v w,inv v->F v= .inr w->inv w
 er:∀ v e,inv v->F v= .inl e->e ≠ 0
theorem II {S:aH}:∀ {a b:List Rw} {vs:List Value},bw S (cg a) vs->bw S (cg b) vs->a=b
 | [],[],_,_,_=>rfl
 | [],y::b,vs,h,c=>by
  cases vs with
  |nil=>exact absurd c (by simp [cg,bw])
  |cons v vs=>exact absurd h (by simp [cg,bw])
 |x::a,[],vs,h,c=>by
  cases vs with
  |nil=>exact absurd h (by simp [cg,bw])
  |cons v vs=>exact absurd c (by simp [cg,bw])
 | x::a,y::b,vs,h,c=>by
  match vs,h,c with
  |v1::v2::v3::vs,h,c=>
   have i:cg (x::a)= .bool x.n::.str x.a::.str x.d::cg a:=rfl;have j:cg (y::b)= .bool y.n::.str y.a::.str y.d::cg b:=rfl;rw [i] at h;rw [j] at c;simp only [bw,PR] at h c;obtain ⟨rfl,rfl,rfl,h⟩:=h;obtain ⟨e,f,g,c⟩:=c;have:=II h c;subst this;obtain ⟨n,p,d⟩:=x;obtain ⟨m,l,k⟩:=y;simp only [Value.bool.injEq,Value.string.injEq] at e f g;cases e;have:=congrArg (·.data.toList) f;have:=congrArg (·.data.toList) g;simp at*
   simp [*]
theorem Ti {S:aH} {a b:List Rw} {u:Value} (h:PR S (dh a) u) (i:PR S (dh b) u):a=b:=by
 simp only [dh,PR] at h i;obtain ⟨y,cap,rfl,_,h⟩:=h;obtain ⟨s,m,e,_,i⟩:=i;simp only [Value.slice.injEq] at e;obtain ⟨rfl,c,_⟩:=e;rcases h with ⟨_,_,d,_⟩|⟨k,o,vs,rfl,d,w⟩
 .rw [d] at c;rw [Xq2 d,Xq2 c.symm]
 .rcases i with ⟨_,_,g,_⟩|⟨x,z,f,e,g,t⟩
  .rw [g] at c;rw [Xq2 g,Xq2 c]
  .simp only [Option.some.injEq,Addr.mk.injEq] at e;obtain ⟨rfl,rfl,_⟩:=e;have v:vs.length=f.length:=by rw [<- kz d,<- kz g,jp,jp,c]
   have:vs=f:=by
    apply List.ext_getElem v;intro j p q;have r:=(w j _ (ν p)).1;have l:=(t j _ (ν q)).1;rw [r] at l;exact Option.some.inj l
   subst this;exact II d g
theorem TL:(prog.info? 27).isSome=true:=by kernel_rfl
theorem adn:∃ i,prog.info? 27=some i/\i.zero=some (.agg #[.bool false,.string ⟨#[]⟩,.string ⟨#[]⟩])/\i.size=3/\i.bytes=40:=⟨(prog.info? 27).get TL,(Yxc TL).symm,by kernel_rfl,by kernel_rfl,by kernel_rfl⟩
theorem TM:(prog.info? 43).isSome=true:=by kernel_rfl
theorem ado:∃ i,prog.info? 43=some i/\i.zero=some (.slice none 0 0)/\i.size=1/\i.bytes=24:=⟨(prog.info? 43).get TM,(Yxc TM).symm,by kernel_rfl,by kernel_rfl,by kernel_rfl⟩
attribute [local go_sem] Oper.semAt_some
def zc (j:Nat):Value:=if j % 3=0 then .bool false else if j % 3=1 then .string ⟨#[]⟩ else .string ⟨#[1]⟩
theorem PM (j:Nat):(zc j).oneCell'=true:=by unfold zc;split<;>(try split)<;>rfl
theorem Li {S:aH} (m:Nat):bw S (cg (ζ m (wQ q0))) ((Xqm (m*3)).map zc):=by
 have key:∀ (m i:Nat),bw S (cg (ζ m (wQ q0))) ((Xk9 (i*3) (m*3)).map zc):=by
  intro m
  induction m with
  |zero=>intro i;simp [cg,bw]
  | succ m ih=>
   intro i;have h:=ih (i+1);have e:Xk9 (i*3) ((m+1)*3)=i*3::(i*3+1)::(i*3+2)::Xk9 ((i+1)*3) (m*3):=by
    rw [show (m+1)*3=m*3+1+1+1 by omega,Xwx,Xwx,Xwx];rw [show i*3+1+1+1=(i+1)*3 by omega]
   rw [e,List.replicate_succ];have a:cg (wQ q0::ζ m (wQ q0))= .bool false::.str []::.str [1]::cg (ζ m (wQ q0)):=rfl;rw [a];simp only [Xqf,bw,PR];refine ⟨?_, ?_, ?_,h⟩
   .simp [zc]
   .rw [zc,if_neg (by omega),if_pos (by omega)]
   .rw [zc,if_neg (by omega),if_neg (by omega)]
 have:=key m 0;rwa [Xzp,<- List.range_eq_range'] at this
theorem PN {S:aH} {m b:Nat} (h:∀ j,j<m*3->S b j=some (zc j)):PR S (dh (ζ m (wQ q0))) (.slice (some ⟨b,0,none⟩) m m):=by
 simp only [dh,PR,Xq9];refine ⟨_,_,rfl,κ _,.inr ⟨b,0,_,rfl,Li m, ?_⟩⟩;intro j u a;rw [Xqx] at a;by_cases hj:j<m*3
 .rw [List.getElem?_range hj] at a;cases a;exact ⟨by rw [Ψ];exact h j hj,PM j⟩
 .rw [Xq8 (by simp;omega)] at a;cases a
theorem KD {S:aH} {cv:Value} (h:fF S (C8 false 0 1) cv):cv= .agg #[.bool false,.string ⟨#[]⟩,.string ⟨#[1]⟩]:=by
 have e:C8 false 0 1= .agg [.bool false,.str [],.str [1]]:=by
  have b:ae 0= []:=by kernel_rfl
  have a:ae 1= [1]:=by kernel_rfl
  rw [C8,b,a]
 rw [e] at h;simp only [fF,PR] at h;obtain ⟨vs,rfl,h⟩:=h
 match vs,h with
 | [v1,v2,v3],h=>
  simp only [bw,PR] at h;obtain ⟨rfl,rfl,rfl,_⟩:=h;rfl
 | [],h=>simp [bw] at h
 | [_],h=>simp [bw] at h
 | [_,_],h=>simp [bw] at h
 |_::_::_::_::_,h=>simp [bw] at h
theorem adh {W:World} {b k m:Nat} (l:k<m) (d:∀ o,o<m*3->(W.cell? ⟨b,o,none⟩).isSome=true/\W.frozen? ⟨b,o,none⟩=false) (hd:∀ j,j<k*3->W.cell? ⟨b,j,none⟩=some (zc j)):
  ∃ W',(Sem.run prog (storeCells ⟨b,k*3,none⟩ [.bool false,.string ⟨#[]⟩,.string ⟨#[1]⟩]) W)= .ok () W'/\(∀ o,o<m*3->(W'.cell? ⟨b,o,none⟩).isSome=true/\W'.frozen? ⟨b,o,none⟩=false)/\(∀ j,j<(k+1)*3->W'.cell? ⟨b,j,none⟩=some (zc j))/\(∀ e,e ≠ b->W'.heap[e]? =W.heap[e]?)/\W'.heap.size=W.heap.size/\W'.os=W.os/\W'.tape=W.tape/\W'.output=W.output:=by
 have g:=run_storeCells_cells (P:=prog) b (k*3) [.bool false,.string ⟨#[]⟩,.string ⟨#[1]⟩] 0 W (λj f=>(d _ (by simp at f;omega)).1) (λj f=>(d _ (by simp at f;omega)).2) (by simp [Value.oneCell']);refine ⟨_,g, ?_, ?_, ?_, ?_, ?_, ?_, ?_⟩
 .intro o i;have a:=d o i;simp only [World.setCells,Xq3];constructor
  .by_cases e1:o=k*3+1+1
   .subst e1;rw [World.cell?_setCell_same' _ _ _ (by rw [World.cell?_setCell_other _ _ _ _ (by simp),World.cell?_setCell_other _ _ _ _ (by simp)];exact a.1)];rfl
   .rw [World.cell?_setCell_other _ _ _ _ (by simp<;>omega)];by_cases e2:o=k*3+1
    .subst e2;rw [World.cell?_setCell_same' _ _ _ (by rw [World.cell?_setCell_other _ _ _ _ (by simp)];exact a.1)];rfl
    .rw [World.cell?_setCell_other _ _ _ _ (by simp<;>omega)];by_cases e3:o=k*3
     .subst e3;rw [World.cell?_setCell_same' _ _ _ a.1];rfl
     .rw [World.cell?_setCell_other _ _ _ _ (by simp<;>omega)];exact a.1
  .simp [World.frozen?_setCell,a.2]
 .intro j f;simp only [World.setCells,Xq3];have h0:=(d (k*3) (by omega)).1;have a:=(d (k*3+1) (by omega)).1;have h:=(d (k*3+1+1) (by omega)).1;by_cases e1:j=k*3+1+1
  .subst e1;rw [World.cell?_setCell_same' _ _ _ (by rw [World.cell?_setCell_other _ _ _ _ (by simp),World.cell?_setCell_other _ _ _ _ (by simp)];exact h),zc,if_neg (by omega),if_neg (by omega)]
  .rw [World.cell?_setCell_other _ _ _ _ (by simp<;>omega)];by_cases e2:j=k*3+1
   .subst e2;rw [World.cell?_setCell_same' _ _ _ (by rw [World.cell?_setCell_other _ _ _ _ (by simp)];exact a),zc,if_neg (by omega),if_pos (by omega)]
   .rw [World.cell?_setCell_other _ _ _ _ (by simp<;>omega)];by_cases e3:j=k*3
    .subst e3;rw [World.cell?_setCell_same' _ _ _ h0,zc,if_pos (by omega)]
    .rw [World.cell?_setCell_other _ _ _ _ (by simp<;>omega)];exact hd j (by omega)
 .intro e c;simp only [World.setCells];rw [Below.heap_setCell _ _ _ _ c,Below.heap_setCell _ _ _ _ c,Below.heap_setCell _ _ _ _ c]
 .simp [World.setCells,World.setCell]
 .rfl
 .rfl
 .rfl
attribute [local go_sem] Oper.semAt_some
structure El where
 v:List Rw
 e:Int
 u:Value
abbrev El.p (x:El):List Rw × Int:=(x.v,x.e)
abbrev elE (x:El):Array Value:=#[x.u,.int .i64 x.e]
abbrev X0 (c:Bx) (L:List (List Rw × Int)) (p:List El × El) (W:World):Prop:=c.c<W.heap.size/\PR (still c W) (dh p.2.v) p.2.u/\(p.1++ [p.2]).map El.p<+:L
open Classical in
noncomputable def Wp (F:List Rw->Int ⊕ List Rw) (c:Bx) (u:Value) (W:World):Nat:=if h:∃ k v l,PR (still c W) (dh v) u/\lT F v l/\l.length=k then h.choose else 0
theorem H7 {F:List Rw->Int ⊕ List Rw} {c:Bx} {u:Value} {W:World} {v:List Rw} {l:List (List Rw × Int)} (h:PR (still c W) (dh v) u) (hs:lT F v l):Wp F c u W=l.length:=by
 unfold Wp;have a:∃ k v l,PR (still c W) (dh v) u/\lT F v l/\l.length=k:=⟨_,v,l,h,hs,rfl⟩
 rw [dif_pos a];obtain ⟨g,f,b,d,e⟩:=a.choose_spec;rw [<- e];have:=Ti h b;subst this;rw [hs.det d]
theorem SB {S:aH} {e:Int} {cv:Value} (h:fF S (Ay (.inl e)) cv):cv= .tuple #[.slice none 0 0,.int .i64 e]:=by
 simp only [Ay,fF] at h;obtain ⟨vs,rfl,h⟩:=h
 match vs,h with
 | [v1,v2],h=>
  simp only [bw,PR] at h;obtain ⟨rfl,rfl,_⟩:=h;rfl
 | [],h=>simp [bw] at h
 | [_],h=>simp [bw] at h
 |_::_::_::_,h=>simp [bw] at h
theorem SD {S:aH} {w:List Rw} {cv:Value} (h:fF S (Ay (.inr w)) cv):∃ u,cv= .tuple #[u,.int .i64 0]/\PR S (dh w) u:=by
 simp only [Ay,fF] at h;obtain ⟨vs,rfl,h⟩:=h
 match vs,h with
 | [v1,v2],h=>
  simp only [bw] at h;obtain ⟨b,a,_⟩:=h;simp only [PR] at a;subst a;exact ⟨v1,rfl,b⟩
 | [],h=>simp [bw] at h
 | [_],h=>simp [bw] at h
 |_::_::_::_,h=>simp [bw] at h
theorem KC {S:aH} {cv:Value} (h:fF S (C8 false 0 1) cv):∃ cs,cv= .agg cs/\cs.size=3/\Hid (cs=#[.bool false,.string ⟨#[]⟩,.string ⟨#[1]⟩]):=⟨_,KD h,rfl,rfl⟩
set_option maxRecDepth 100000 in
set_option maxHeartbeats 1000000 in
theorem KM (n:Nat) (hn:2<=n) (kn kx:Nat) (c:Bx) (m:Nat) (hm:m<=60) {sA:AV} {sv:Value} {F:List Rw->Int ⊕ List Rw} {inv:List Rw->Prop} (hN:rI sA m F inv) {L:List (List Rw × Int)} (hL:lT F (ζ m (wQ q0)) L) (hi0:inv (ζ m (wQ q0)))
  (l:Nat) (J Jx:List El->World->Prop) (W:World) (hAJ:Hz J) (hc:c.c<W.heap.size)
  (cn:still c W kn 0=some (.int .i64 (m:Int))) (cx:still c W kx 0=some (.func (.func 41) #[sv] #[])) (hs:PR (still c W) sA sv) (hg:cG ap (still c W)) (hb:∀ k,dD W c k->k<W.heap.size)
  (hY:∀ pre x W1,J pre W1->X0 c L (pre,x) W1->YieldAt Fence.wide (n - 1) prog l (elE x) W1 λe W'=>(e= .returned (.bool true)/\J (pre++ [x]) W'/\bV c W1 W')\/(e= .returned (.bool false)/\Jx (pre++ [x]) W')) (h0:J [] W):
  CallsIn Fence.wide n prog 81 #[.func (.yield l) #[] #[],.pointer (some ⟨kn,0,none⟩),.pointer (some ⟨kx,0,none⟩)] W λe W'=>(∃ v,e= .returned v)/\((∃ xs,xs.map El.p=L/\J xs W')\/∃ pre,pre.map El.p<+:L/\Jx pre W'):=by
 have h1n:1<=n:=by omega
 have hf75:Fence.wide.fn 75:=trivial;have cn':W.cell? ⟨kn,0,none⟩=some (.int .i64 (m:Int)):=iY (tX _ _ _ _ _ cn) rfl;refine callsIn_of_wp Tryz.func81 rfl trivial ?_ rfl;simp only [Tryz.ntmps81,Xxg,ο,Ξ,Xj8,Xj9,Array.replicate_succ,Array.replicate_zero,Xx9,Xxz,Xqb,Xqu]
 gi_wp2
 obtain ⟨i27,h27,z27,s27,b27⟩:=adn;have hr:=run_make (P:=prog) W 43 27 _ _ (by kernel_rfl) h27 z27 .i64 .i64 m m (Int.natCast_nonneg _) (Xk7 _) (by rw [b27];omega) (by omega);rw [hr];obtain ⟨W0,hW0⟩:∃ W0,W.alloc (.cells (madeCells (Value.agg #[.bool false,.string ⟨#[]⟩,.string ⟨#[]⟩]).cells ((m:Int).toNat*i27.size)) 27)=W0:=⟨_,rfl⟩
 have hb9:Below W.heap.size W W0:=by rw [<- hW0];exact (Below.refl _ W).alloc (κ _) _
 have hsz0:W.heap.size<W0.heap.size:=by rw [<- hW0];simp
 have hd0:∀ o,o<m*3->(W0.cell? ⟨W.heap.size,o,none⟩).isSome=true/\W0.frozen? ⟨W.heap.size,o,none⟩=false:=by
  intro o ho;have hh:W0.heap[W.heap.size]? =some (.cells (madeCells (Value.agg #[.bool false,.string ⟨#[]⟩,.string ⟨#[]⟩]).cells ((m:Int).toNat*i27.size)) 27):=by rw [<- hW0];exact World.alloc_heap_new W _
  constructor
  .simp only [World.cell?,hh];rw [Array.getElem?_eq_getElem (by rw [size_madeCells,s27];omega)];rfl
  .simp [World.frozen?,hh]
 rw [hW0];clear hr
 gi_wp2
 gi_loopw [12] (λi wr=> ∃ k:Nat,k<=m/\i= .int .i64 k/\Below W.heap.size W wr/\W.heap.size<wr.heap.size/\(∀ o,o<m*3->(wr.cell? ⟨W.heap.size,o,none⟩).isSome=true/\wr.frozen? ⟨W.heap.size,o,none⟩=false)/\(∀ j,j<k*3->wr.cell? ⟨W.heap.size,j,none⟩=some (zc j)))
  (λi _=>m - (intOf i).toNat)
 case atStart=>exact ⟨0,Xqo _,rfl,hb9,hsz0,hd0,λj hj=>by omega⟩
 case round=>
  obtain ⟨k,hk,rfl,hbw,hsz,hd1,hd2⟩:=hrel;by_cases hlt:k<m
  .have hkc:=(bV.below hc hbw)
   have hgw:cG ap (still c wr):=hkc.glob hg;have hbk:∀ k,dD wr c k->k<wr.heap.size:=hkc.back hb;have hcw:c.c<wr.heap.size:=by omega
   gi_wp2_with (gi_at_call 75;refine (gC gV rfl hcw hbk hgw (by simp only [bw,PR];exact ⟨trivial,trivial⟩)).mono ?_;rintro e W1 ⟨cv,rfl,hr1,hb1⟩;obtain ⟨cs,rfl,hcs,hH⟩:=KC hr1)
   have hcl:cs.toList= [.bool false,.string ⟨#[]⟩,.string ⟨#[1]⟩]:=by rw [hH.out]
   have hb1c:=hb1.block W.heap.size hsz;obtain ⟨W2,hr2,hd3,hd4,hne,hz2,ho2,ht2,hu2⟩:=adh (W:=W1) (b:=W.heap.size) hlt (λo ho=>by rw [World.cell?_of_block (a:=⟨W.heap.size,o,none⟩) hb1c,World.frozen?_of_block (a:=⟨W.heap.size,o,none⟩) hb1c];exact hd1 o ho) (λj hj=>by rw [World.cell?_of_block (a:=⟨W.heap.size,j,none⟩) hb1c];exact hd2 j hj);have hb2:Below W.heap.size W W2:=hbw.trans ((hb1.mono (by omega)).trans ⟨ho2,ht2,hu2,by omega,λk' hk'=>hne k' (by omega)⟩);rw [hcl,hr2]
   gi_wp2
   go_roundw
   case rel=>exact ⟨k+1,by omega,by simp,hb2,by have:=hb1.size;omega,hd3,hd4⟩
   case measure=>simp [intOf];omega
  .obtain rfl:k=m:=by omega
   have hkc:=(bV.below hc hbw)
   have hcw:c.c<wr.heap.size:=by omega
   have hbm:∀ k,dD wr c k->k<wr.heap.size:=hkc.back hb;have hzv:PR (still c wr) (dh (ζ k (wQ q0))) (.slice (some ⟨W.heap.size,0,none⟩) k k):=by
    refine PN λj hj=> ?_
    refine bF.2 ⟨by omega,λhB=> ?_,eQ (hd2 j hj) (PM j),λhk=>by have:=c.le;omega⟩;have:=hb _ ((kD (World.cell?_of_block (a:=⟨c.c,0,none⟩) (hbw.block c.c hc))).1 hB);omega
   have hJ0:J [] wr:=hAJ _ _ _ h0 (eT hbw none);clear hd0 hd1 hd2
   gi_wp2
   gi_loopw [4] (λu wr'=> ∃ pre v l2,PR (still c wr') (dh v) u/\inv v/\lT F v l2/\pre.map El.p++l2=L/\J pre wr'/\bV c W wr') (λu wr'=>Wp F c u wr')
   case atStart=>exact ⟨[],_,L,hzv,hi0,hL,rfl,hJ0,hkc⟩
   case round=>
    obtain ⟨pre,v,l2,hv,hiv,hsv,hpl,hJp,hkw⟩:=hrel;have hcw2:c.c<wr.heap.size:=υ hc hkw.size;have hbw2:∀ k,dD wr c k->k<wr.heap.size:=hkw.back hb;have hgw2:cG ap (still c wr):=hkw.glob hg;have cx2:wr.cell? ⟨kx,0,none⟩=some (.func (.func 41) #[sv] #[]):=iY (tX _ _ _ _ _ (hkw.stl _ _ _ cx)) rfl;have hs2:PR (still c wr) sA sv:=aQ hkw.stl _ hs;have hf41:Fence.wide.fn 41:=trivial;have hf45:Fence.wide.fn 45:=trivial;have hlv:=hN.len v hiv;have hleft:=H7 (F:=F) (c:=c) (W:=wr) hv hsv;have hco:=hN.co v hiv;have hY2:∀ pre v e u W1,J pre W1->c.c<W1.heap.size->PR (still c W1) (dh v) u->pre.map El.p++ [(v,e)]<+:L->YieldAt Fence.wide (n - 1) prog l #[u,.int .i64 e] W1 λe' W'=>(e'= .returned (.bool true)/\J (pre++ [⟨v,e,u⟩]) W'/\bV c W1 W')\/(e'= .returned (.bool false)/\Jx (pre++ [⟨v,e,u⟩]) W'):=λpre v e u W1 h1 h2 h3 h4=>hY pre ⟨v,e,u⟩ W1 h1 ⟨h2,h3,by rw [Xq5];exact h4⟩
    cases hF:F v with
    | inl e=>
     have he:=hN.er v e hiv hF;have hed:decide (e=0)=false:=Yq1 he;rw [hF] at hco;have hl2:l2= [(v,e)]:=hsv.det (.err hF);subst hl2
     gi_wp2_with (gi_at_call 41;refine (gC hco rfl hcw2 hbw2 hgw2 (by simp only [bw];exact ⟨hs2,hv,trivial⟩)).mono ?_;rintro ee W1 ⟨cv,rfl,hr1,hb1⟩;obtain rfl:=SB hr1;obtain ⟨fn,tmps,assign,body,hy,hR⟩:=hY2 pre v e u4 W1 (hAJ _ _ _ hJp (eT hb1 none)) (υ hcw2 hb1.size) (aQ (bV.below hcw2 hb1).stl _ hv) (by rw [hpl];exact Xww _))
     refine hR.mono ?_
     rintro ee W3 (⟨rfl,hJ3,hk3⟩|⟨rfl,hJx3⟩)
     .gi_wp2
      refine bodyPost_ret (results_none rfl _ _ _) rfl ?_;exact ⟨⟨_,rfl⟩,.inl ⟨_,by rw [Xq5];exact hpl,hJ3⟩⟩
     .gi_wp2
      refine bodyPost_ret (results_none rfl _ _ _) rfl ?_;exact ⟨⟨_,rfl⟩,.inr ⟨_,by rw [Xq5,<- hpl];exact Xww _,hJx3⟩⟩
    | inr w=>
     rw [hF] at hco;have hpre:pre.map El.p++ [(v,0)]<+:L:=by
      rw [<- hpl];cases hsv with
      |err h1=>rw [hF] at h1;cases h1
      |fix h1=>exact Xww _
      |step h1 h2 h3=>exact ⟨_,Xqe ..⟩
     have hfe:CO 45 [dh v,dh w] (.ret (.bool (decide (v=w)))):=Cz v w false false (by have:=hN.len v hiv;omega);have hstop:∀ (u:Value) (W3:World),Jx (pre++ [⟨v,0,u⟩]) W3->∃ pre',pre'.map El.p<+:L/\Jx pre' W3:=λu W3 hx=> ⟨_,by rw [Xq5];exact hpre,hx⟩
     gi_wp2_with (gi_at_call 41;refine (gC hco rfl hcw2 hbw2 hgw2 (by simp only [bw];exact ⟨hs2,hv,trivial⟩)).mono ?_;rintro ee W1 ⟨cv,rfl,hr1,hb1⟩;obtain ⟨uw,rfl,huw⟩:=SD hr1;obtain ⟨fn,tmps,assign,body,hy,hR⟩:=hY2 pre v 0 u4 W1 (hAJ _ _ _ hJp (eT hb1 none)) (υ hcw2 hb1.size) (aQ (bV.below hcw2 hb1).stl _ hv) hpre)
     have hk1:=bV.below hcw2 hb1;refine hR.mono ?_
     rintro ee W3 (⟨rfl,hJ3,hk3⟩|⟨rfl,hJx3⟩)
     .have hv3:PR (still c W3) (dh v) u4:=aQ (hk1.trans hk3).stl _ hv;have hw3:PR (still c W3) (dh w) uw:=aQ hk3.stl _ huw;have hcw3:c.c<W3.heap.size:=υ hcw2 (hk1.trans hk3).size;have hbw3:=(hk1.trans hk3).back hbw2;have hgw3:=(hk1.trans hk3).glob hgw2;by_cases hvw:v=w
      .rw [Yq0 hvw] at hfe;have hl2:l2= [(v,0)]:=hsv.det (.fix (by rw [hF,hvw]));subst hl2
       gi_wp2_with (gi_at_call 45;refine (gC hfe rfl hcw3 hbw3 hgw3 (by simp only [bw];exact ⟨hv3,hw3,trivial⟩)).mono ?_;rintro ee W4 ⟨cv,rfl,hr4,hb4⟩;simp only [fF,PR] at hr4;subst hr4)
       refine bodyPost_ret (results_none rfl _ _ _) rfl ?_;exact ⟨⟨_,rfl⟩,.inl ⟨_,by rw [Xq5];exact hpl,hAJ _ _ _ hJ3 (eT hb4 none)⟩⟩
      .rw [Yq1 hvw] at hfe;cases hsv with
       |err h1=>rw [hF] at h1;cases h1
       |fix h1=>rw [hF] at h1;cases h1;exact absurd rfl hvw
       | step h1 h2 h3=>
        rw [hF] at h1;cases h1
        gi_wp2_with (gi_at_call 45;refine (gC hfe rfl hcw3 hbw3 hgw3 (by simp only [bw];exact ⟨hv3,hw3,trivial⟩)).mono ?_;rintro ee W4 ⟨cv,rfl,hr4,hb4⟩;simp only [fF,PR] at hr4;subst hr4)
        have hk4:=bV.below hcw3 hb4;have hw4:PR (still c W4) (dh w) uw:=aQ hk4.stl _ hw3
        go_roundw
        case rel=>exact ⟨_,_,_,hw4,hN.nx v w hiv hF,h3,by rw [Xq5,Xqe];exact hpl,hAJ _ _ _ hJ3 (eT hb4 none),hkw.trans (hk1.trans (hk3.trans hk4))⟩
        case measure=>
         rw [hleft,H7 hw4 h3];simp
     .gi_wp2
      refine bodyPost_ret (results_none rfl _ _ _) rfl ?_;exact ⟨⟨_,rfl⟩,.inr (hstop _ _ hJx3)⟩
attribute [local go_sem] Oper.semAt_some
theorem BC (m:Int) (n:Nat) (w:World) (sv:Value):
  CallsIn Fence.wide n prog 44 #[.int .i64 m,.func (.func 41) #[sv] #[]] w λe w'=>e= .returned (.func (.func 81) #[] #[.pointer (some ⟨w.heap.size,0,none⟩),.pointer (some ⟨w.heap.size+1,0,none⟩)])/\w'=(w.alloc (.cells #[.int .i64 m] 3)).alloc (.cells #[.func (.func 41) #[sv] #[]] 144):=by
 refine callsIn_of_wp Tryz.func44 rfl trivial ?_ rfl;simp only [Tryz.ntmps44,Xxg,ο,Ξ,Xj8,Xj9,Array.replicate_succ,Array.replicate_zero,Xx9,Xxz,Xqb,Xqu]
 gi_wp2
 go_ret
 refine ⟨?_,rfl⟩;simp
theorem pU (n:Nat) (p:2<=n) (kn d:Nat) (c:Bx) (m:Nat) (i:m<=60) {e:AV} {sv:Value} {F:List Rw->Int ⊕ List Rw} {inv:List Rw->Prop} (j:rI e m F inv) {L:List (List Rw × Int)} (h:lT F (ζ m (wQ q0)) L) (b:inv (ζ m (wQ q0)))
  (w:World) (hc:c.c<w.heap.size) (cn:still c w kn 0=some (.int .i64 (m:Int))) (cx:still c w d 0=some (.func (.func 41) #[sv] #[])) (hs:PR (still c w) e sv) (hg:cG ap (still c w)) (hb:∀ k,dD w c k->k<w.heap.size):
  Lx n prog 81 #[.pointer (some ⟨kn,0,none⟩),.pointer (some ⟨d,0,none⟩)] elE (X0 c L) (bV c) (λo _=>o.map El.p=L) (λpre _=>pre.map El.p<+:L) w:=by
 intro l J Jx W q g _ f h0;have a:=bV.below hc q;exact KM n p kn d c m i j h b l J Jx W g (υ hc a.size) (a.stl _ _ _ cn) (a.stl _ _ _ cx) (aQ a.stl _ hs) (a.glob hg) (a.back hb) f h0
theorem Oo {w:World} {tmps:Array Value} {a b c:Nat} {u v x:Value} (g:tmps.getD 2 undef= .pointer (some ⟨a,0,none⟩)) (j:tmps.getD 3 undef= .pointer (some ⟨b,0,none⟩)) (h:tmps.getD 4 undef= .pointer (some ⟨c,0,none⟩)) (k:w.cell? ⟨a,0,none⟩=some u) (m:w.cell? ⟨b,0,none⟩=some v) (l:w.cell? ⟨c,0,none⟩=some x):(results f23 tmps).run prog w= .ok (.tuple #[u,v,x]) w:=by
 refine fP (vs:= [u,v,x]) rfl ?_;intro i r y e d
 match i with
 | 0=>
  simp only [Xxf,Option.some.injEq] at d;subst d;have:r= .cell 2 43:=by
   have h0:f23.results.toList[0]? =some (.cell 2 43):=rfl;rw [h0] at e;exact (Option.some.inj e).symm
  subst this;have f:prog.underlying 43=some (.slice 27):=by kernel_rfl
  simp only [rq,g];simp [asAddr,loadVar,f,k,go_sem]
 | 1=>
  simp only [Xjl,Xxf,Option.some.injEq] at d;subst d;have:r= .cell 3 47:=by
   have h0:f23.results.toList[1]? =some (.cell 3 47):=rfl;rw [h0] at e;exact (Option.some.inj e).symm
  subst this;have f:prog.underlying 47=some (.slice 43):=by kernel_rfl
  simp only [rq,j];simp [asAddr,loadVar,f,m,go_sem]
 | 2=>
  simp only [Xjl,Xxf,Option.some.injEq] at d;subst d;have:r= .cell 4 48:=by
   have h0:f23.results.toList[2]? =some (.cell 4 48):=rfl;rw [h0] at e;exact (Option.some.inj e).symm
  subst this;have f:prog.underlying 48=some (.int .i64):=by kernel_rfl
  simp only [rq,h];simp [asAddr,loadVar,f,l,go_sem]
 |n+3=>simp at d
theorem LM {w W0:World} {a b c d:Array Value} {ta tb tc td:TypeId} (h:(((w.alloc (.cells a ta)).alloc (.cells b tb)).alloc (.cells c tc)).alloc (.cells d td)=W0):
  Below w.heap.size w W0/\W0.heap.size=w.heap.size+4/\W0.heap[w.heap.size]? =some (.cells a ta)/\W0.heap[w.heap.size+1]? =some (.cells b tb)/\W0.heap[w.heap.size+1+1]? =some (.cells c tc)/\W0.heap[w.heap.size+1+1+1]? =some (.cells d td):=by
 subst h;refine ⟨((((Below.refl _ w).alloc (κ _) _).alloc (by simp) _).alloc (by simp;omega) _).alloc (by simp;omega) _,by simp, ?_, ?_, ?_, ?_⟩
 .rw [Below.heap_alloc _ _ _ (by simp;omega),Below.heap_alloc _ _ _ (by simp;omega),Below.heap_alloc _ _ _ (by simp),World.alloc_heap_new]
 .rw [Below.heap_alloc _ _ _ (by simp),Below.heap_alloc _ _ _ (by simp)];have:=World.alloc_heap_new (w.alloc (.cells a ta)) (.cells b tb);rwa [World.size_alloc] at this
 .rw [Below.heap_alloc _ _ _ (by simp)];have:=World.alloc_heap_new ((w.alloc (.cells a ta)).alloc (.cells b tb)) (.cells c tc);rwa [World.size_alloc,World.size_alloc] at this
 .have:=World.alloc_heap_new (((w.alloc (.cells a ta)).alloc (.cells b tb)).alloc (.cells c tc)) (.cells d td);rwa [World.size_alloc,World.size_alloc,World.size_alloc] at this
theorem aT {W:World} {k:Nat} {a:Array Value} {t:TypeId} (h:W.heap[k]? =some (.cells a t)) (j:Nat):W.cell? ⟨k,j,none⟩=a[j]? /\W.frozen? ⟨k,j,none⟩=false:=by
 simp [World.cell?,World.frozen?,h]
theorem O5 {W:World} {a b c:Nat} (e:a ≠ b) (f:a ≠ c) (d:b ≠ c) {u v x:Value} (g:(W.cell? ⟨a,0,none⟩).isSome=true) (j:(W.cell? ⟨b,0,none⟩).isSome=true) (i:(W.cell? ⟨c,0,none⟩).isSome=true):
  (((W.setCell ⟨a,0,none⟩ u).setCell ⟨b,0,none⟩ v).setCell ⟨c,0,none⟩ x).cell? ⟨a,0,none⟩=some u/\(((W.setCell ⟨a,0,none⟩ u).setCell ⟨b,0,none⟩ v).setCell ⟨c,0,none⟩ x).cell? ⟨b,0,none⟩=some v/\(((W.setCell ⟨a,0,none⟩ u).setCell ⟨b,0,none⟩ v).setCell ⟨c,0,none⟩ x).cell? ⟨c,0,none⟩=some x:=by
 have o:∀ {W:World} {k l:Nat} {y:Value},k ≠ l->(W.setCell ⟨l,0,none⟩ y).cell? ⟨k,0,none⟩=W.cell? ⟨k,0,none⟩:=fun {W k l y} h=>World.cell?_setCell_other _ _ _ _ (by simp [h])
 refine ⟨?_, ?_, ?_⟩
 .rw [o f,o e];exact World.cell?_setCell_same' _ _ _ g
 .rw [o d];exact World.cell?_setCell_same' _ _ _ (by rw [o e.symm];exact j)
 .exact World.cell?_setCell_same' _ _ _ (by rw [o d.symm,o f.symm];exact i)
theorem kB {S:aH} {w W:World} (a:eO S (aR w)) (h:Below w.heap.size w W):kw S w S W:=⟨λ_ _ _ h=>h,λk o v e=>dl h k o v (a k o v e),λ_ _ _ e=> .inl e,h⟩
abbrev fR (es:List aP) (ss:List (List Lk)) (ne ns:Bool):AV:= .agg [.sl (bq es) es.length ne,.sl (eM ss) ss.length ns,.sl [] 0 false]
set_option maxRecDepth 100000 in
set_option maxHeartbeats 1000000 in
theorem Nc (es:List aP) (ss:List (List Lk)) (ne ns:Bool) (ck:Int) (h0:ck ≠ 0) (hck:CO 33 [fR es ss ne ns] (.ret (.int .i64 ck)))
  (S:aH) (w:World) (v0 v1 v2:Value) (hS:eO S (aR w)) (hg:cG ap S) (hv:PR S (fR es ss ne ns) (.agg #[v0,v1,v2])) (n:Nat) (hn:4<=n):
  CallsIn Fence.wide n prog 23 #[.agg #[v0,v1,v2]] w λe w'=>e= .returned (.tuple #[.slice none 0 0,.slice none 0 0,.int .i64 ck])/\kw S w S w':=by
 have hf33:Fence.wide.fn 33:=trivial;have hx:decide (ck=0)=false:=Yq1 h0;have h1n:1<=n:=by omega
 obtain ⟨W0,hW0⟩:∃ W0,(((w.alloc (.cells #[v0,v1,v2] 37)).alloc (.cells #[.slice none 0 0] 43)).alloc (.cells #[.slice none 0 0] 47)).alloc (.cells #[.int .i64 0] 48)=W0:=⟨_,rfl⟩
 obtain ⟨hb0,hz0,a1,a2,a3,a4⟩:=LM hW0;have hS0:eO S (aR W0):=λk o v h=>dl hb0 k o v (hS k o v h)
 have e0:W0.cell? ⟨w.heap.size,0,none⟩=some v0:=(aT a1 0).1;have e1:W0.cell? ⟨w.heap.size,1,none⟩=some v1:=(aT a1 1).1;have e2:W0.cell? ⟨w.heap.size,2,none⟩=some v2:=(aT a1 2).1;refine callsIn_of_wp_marks Tryz.func23 rfl trivial ?_ rfl;simp only [Tryz.ntmps23,Xxg,ο,Ξ,Xj8,Xj9,Array.replicate_succ,Array.replicate_zero,Xx9,Xxz,Xqb,Xqu]
 gi_wp2_with (first|(gi_at_call 33;refine (DS hck rfl (S:=S) (W:=W0) hS0 hg (by simp only [bw];exact ⟨hv,trivial⟩)).mono ?_;rintro e W1 ⟨S1,cv,rfl,hr1,ha1⟩;simp only [fF,PR] at hr1;subst hr1;have b2:=aT ((ha1.bel.block (w.heap.size+1) (by omega)).trans a2) 0;have b3:=aT ((ha1.bel.block (w.heap.size+1+1) (by omega)).trans a3) 0;have b4:=aT ((ha1.bel.block (w.heap.size+1+1+1) (by omega)).trans a4) 0;have c2:=b2.1;have c3:=b3.1;have c4:=b4.1;have d2:=b2.2;have d3:=b3.2;have d4:=b4.2;clear b2 b3 b4;simp only [Xzh,Xxf] at c2 c3 c4)|gi_in)
 obtain ⟨x1,x2,x3⟩:=O5 (W:=W1) (a:=w.heap.size+1) (b:=w.heap.size+1+1) (c:=w.heap.size+1+1+1) (u:= .slice none 0 0) (v:= .slice none 0 0) (x:= .int .i64 ck) (by omega) (by omega) (by omega) (by rw [c2];rfl) (by rw [c3];rfl) (by rw [c4];rfl);exact ⟨_,Oo rfl rfl rfl x1 x2 x3,rfl,kB hS ((((hb0.trans (ha1.bel.mono (by omega))).setCell (p:=⟨w.heap.size+1,0,none⟩) (by show w.heap.size<=w.heap.size+1;omega) _).setCell (p:=⟨w.heap.size+1+1,0,none⟩) (by show w.heap.size<=w.heap.size+1+1;omega) _).setCell (p:=⟨w.heap.size+1+1+1,0,none⟩) (by show w.heap.size<=w.heap.size+1+1+1;omega) _)⟩
theorem Lh (v:List Rw) (h:v.length<2^39):CO 53 [.sl (cg v) v.length true] (.ret (.sl (cg v) v.length true)):=by
 have b:Nat.beq (θ (cg v)) (v.length*3)=true:=by rw [jp];exact Nat.beq_refl _
 have a:Xqr (0+v.length) 1099511627776=true:=by rw [Nat.ble_eq];omega
 have c:CO 53 [.sl (cg v) v.length true] (.ret (.own (τ ((0+v.length)*3) ([]++(cg v))) (0+v.length) 3)):=pK [] 1 0 (.c b (.c a (.n 3 .nil))) (.nil);have h:=c.thaw (by simp);simp only [ny,thaw,Ψ,Xqb,List.take_take,Nat.min_self] at h;rwa [Xqa (by rw [jp];exact κ _)] at h
end Go.Proofs.Tryz
open Go AM Go.RowKit Go.Shelf
namespace Go.Proofs.Tryz
attribute [local go_sem] Oper.semAt_some
structure LI (B:Bx) (W3:World) (pre:List El) (W:World):Prop where
 keep:bV B W3 W
 low:∀ k,k<B.c->W.heap[k]? =W3.heap[k]?
 box:∃ cv,W.cell? ⟨B.c,0,none⟩=some cv/\W.frozen? ⟨B.c,0,none⟩=false/\W.ownsRow W3.heap.size 43 1 cv pre.length (pre.map El.u)
 els:∀ x ∈ pre,x.e=0/\PR (still B W) (dh x.v) x.u
theorem LI.own {B:Bx} {W3:World} (i:B.c<W3.heap.size):oI W3.heap.size (LI B W3):=by
 rintro pre A A' row ⟨h1,h2,⟨cv,h3,h4,h5⟩,h6⟩ hg hr
 have c:∀ r,row=some r->∃ o:Obj,A.heap[r]? =some o/\o.isCells=false:=λr e=>by obtain ⟨_,o,a,b,_⟩:=hr r e;exact ⟨o,a,b⟩
 have f:bV B A A':=bV.grown (υ i h1.size) hg (λr e=> ⟨by have:=(hr r e).1;omega,(hr r e).2⟩);refine ⟨h1.trans f,λk d=>(hg.block k (by have:=h1.size;omega) ?_).trans (h2 k d),⟨cv,cell_kept h3 hg c,(frozen_kept h3 hg c).trans h4,h5.kept hg ?_⟩,λx h=> ⟨(h6 x h).1,aQ f.stl _ (h6 x h).2⟩⟩
 .intro e;have:=(hr k e.symm).1;omega
 .by_cases e:cv.ownBlock=none
  .exact .inl e
  .refine .inr λj=> ?_
   obtain ⟨_,⟨rfl,_⟩|⟨g,cap,cur,rfl,_,h7,_⟩⟩:=h5
   .exact e rfl
   .obtain ⟨o,a,b⟩:=c g j.symm;rw [h7] at a;cases a;cases b
def LX (w W3:World) (c:Code) (pre:List El) (W:World):Prop:=c= .ret/\(∃ p x,pre=p++ [x]/\x.e ≠ 0/\W.cell? ⟨w.heap.size+1,0,none⟩=some (.slice none 0 0)/\W.cell? ⟨w.heap.size+1+1,0,none⟩=some (.slice none 0 0)/\W.cell? ⟨w.heap.size+1+1+1,0,none⟩=some (.int .i64 x.e))/\Below w.heap.size w W
theorem LX.own {w W3:World} (f:w.heap.size<=W3.heap.size) (c:Code):oI W3.heap.size (LX w W3 c):=by
 rintro pre A A' row ⟨h1,⟨p,x,h2,h3,h4,h5,h6⟩,h7⟩ hg hr
 have d:∀ r,row=some r->∃ o:Obj,A.heap[r]? =some o/\o.isCells=false:=λr e=>by obtain ⟨_,o,a,b,_⟩:=hr r e;exact ⟨o,a,b⟩
 exact ⟨h1,⟨p,x,h2,h3,cell_kept h4 hg d,cell_kept h5 hg d,cell_kept h6 hg d⟩,h7.grown hg h7.size λk e=>by have:=(hr k e).1;omega⟩
theorem X0.own {B:Bx} {L:List (List Rw × Int)} {n:Nat} (a:B.c<n):oI n (X0 B L):=by
 rintro ⟨pre,x⟩ A A' row ⟨h1,h2,h3⟩ hg hr
 exact ⟨υ h1 hg.size,aQ (bV.grown h1 hg (λr e=> ⟨by have:=(hr r e).1;omega,(hr r e).2⟩)).stl _ h2,h3⟩
theorem jW {W:World} {c:Bx} {cv:Value} (h:W.cell? ⟨c.c,0,none⟩=some cv) {k:Nat}:dD W c k↔cv.ownBlock=some k:=by
 unfold dD;rw [h];constructor
 .rintro ⟨a,l,cap,e,rfl⟩;cases e;rfl
 .intro e;unfold Value.ownBlock at e;split at e
  .cases e;exact ⟨_,_,_,rfl,rfl⟩
  .cases e
theorem FY {B:Bx} {W3 W W4:World} {pre:List El} {x:El} {cv:Value} {o:Obj} {g cap:Nat} (z:LI B W3 pre W) (Z:B.c<W3.heap.size) (t:W.cell? ⟨B.c,0,none⟩=some cv) (R:W.frozen? ⟨B.c,0,none⟩=false) (A:W.ownsRow W3.heap.size 43 1 cv pre.length (pre.map El.u)) (K:x.e=0) (M:PR (still B W) (dh x.v) x.u) (c:(W.alloc o).grownBy W4 cv.ownBlock) (q:W4.ownsRow W3.heap.size 43 1 (.slice (some ⟨g,0,none⟩) (pre.length+1) cap) (pre.length+1) (pre.map El.u++ [x.u])) (O:some g=cv.ownBlock\/some g=some (W.alloc o).heap.size):
  KeepsOthers W (W4.setCell ⟨B.c,0,none⟩ (.slice (some ⟨g,0,none⟩) (pre.length+1) cap))/\bV B W (W4.setCell ⟨B.c,0,none⟩ (.slice (some ⟨g,0,none⟩) (pre.length+1) cap))/\LI B W3 (pre++ [x]) (W4.setCell ⟨B.c,0,none⟩ (.slice (some ⟨g,0,none⟩) (pre.length+1) cap)):=by
 have Y:=z.keep.size;have J:B.c<W.heap.size:=by omega
 have w:∀ k,cv.ownBlock=some k->W3.heap.size<=k/\k<W.heap.size:=λk e=>A.lt k e
 have U:W.heap.size+1<=W4.heap.size:=by have:=c.size;simpa using this
 have d:∀ k,k<W.heap.size->cv.ownBlock ≠ some k->W4.heap[k]? =W.heap[k]? :=λk l i=>(c.block k (by simp;omega) (λe=>i e.symm)).trans (Below.heap_alloc _ _ _ l)
 have u:W4.heap[B.c]? =W.heap[B.c]? :=d _ J λe=>by have:=(w _ e).1;omega
 have C:=(World.cell?_of_block (a:=⟨B.c,0,none⟩) u).trans t;have D:=(World.frozen?_of_block (a:=⟨B.c,0,none⟩) u).trans R;obtain ⟨W',b⟩:∃ W',W4.setCell ⟨B.c,0,none⟩ (.slice (some ⟨g,0,none⟩) (pre.length+1) cap)=W':=⟨_,rfl⟩
 have hcell:W'.cell? ⟨B.c,0,none⟩=some (.slice (some ⟨g,0,none⟩) (pre.length+1) cap):=by rw [<- b];exact World.cell?_setCell_same' _ _ _ (by rw [C];rfl)
 have L:W'.frozen? ⟨B.c,0,none⟩=false:=by rw [<- b];simp [D]
 have r:∀ k,k ≠ B.c->W'.heap[k]? =W4.heap[k]? :=λk h=>by rw [<- b];exact Below.heap_setCell _ _ _ _ h
 have V:W'.heap.size=W4.heap.size:=by rw [<- b];simp [World.setCell]
 have T:W3.heap.size<=g/\g<W4.heap.size:=by
  obtain ⟨_,⟨h,_⟩|⟨g',p,cur,h,l,i,_⟩⟩:=q
  .cases h
  .cases h;exact ⟨l,(Array.getElem?_eq_some_iff.1 i).1⟩
 have m:bV B W W':=by
  refine ⟨by rw [<- b];exact c.os,by rw [<- b];exact c.tape,by rw [<- b];exact c.output,by omega,λk a v e=> ?_,λ_ k Q=> ?_⟩
  .obtain ⟨l,i,G,X⟩:=bF.1 e;have I:=ju G;have F:cv.ownBlock ≠ some k:=λe=>i ((jW t).2 e)
   refine bF.2 ⟨l,λE=> ?_,by rw [eR ((r k l).trans (d k I F))];exact G,X⟩;have N:=(jW hcell).1 E;have f:some g=some k:=N;rcases O with h|h
   .exact F (h.symm.trans f)
   .rw [h] at f;simp at f;omega
  .have N:=(jW hcell).1 Q;have f:some g=some k:=N;cases f;omega
 rw [b];refine ⟨?_,m,z.keep.trans m,λk Q=> ?_,⟨_,hcell,L, ?_⟩,λy s=> ?_⟩
 .rw [<- b];refine ((KeepsOthers.alloc W o).trans (KeepsOthers.of_grownBy c λj ob e S=> ?_)).trans (KeepsOthers.setCell _ _ _);obtain ⟨_,⟨rfl,_⟩|⟨g',p,cur,rfl,l,i,_⟩⟩:=A
  .cases e
  .cases e;have:(W.alloc o).heap[g']? =W.heap[g']? :=Below.heap_alloc _ _ _ (Array.getElem?_eq_some_iff.1 i).1;rw [this,i] at S;cases S;rfl
 .rw [r k (by omega),d k (by omega) (λe=>by have:=(w _ e).1;omega)];exact z.low k Q
 .rw [Xq5,ξ];obtain ⟨h0,⟨h,_⟩|⟨g',p,cur,h,l,i,G⟩⟩:=q
  .cases h
  .cases h;exact ⟨h0,.inr ⟨g,cap,cur,rfl,l,(r g (by omega)).trans i,G⟩⟩
 .rcases List.mem_append.1 s with s|s
  .exact ⟨(z.els y s).1,aQ m.stl _ (z.els y s).2⟩
  .rw [List.mem_singleton.1 s];exact ⟨K,aQ m.stl _ M⟩
theorem D2 {S:aH}:∀ {xs:List El},(∀ x ∈ xs,PR S (dh x.v) x.u)->bw S (xs.map λx=>dh x.v) (xs.map El.u)
 | [],_=>trivial
 |x::r,h=> ⟨h x (by simp),D2 λy a=>h y (by simp [a])⟩
theorem Kb {B:Bx} (J:B.n=B.c) {w W3 W W5 W7:World} {L:List (List Rw × Int)} {b:List El} (I:eO B.S (aR w)) (O:w.heap.size<=B.c) (K:B.c<W3.heap.size) (q:LI B W3 b W) (d:b.map El.p=L) {x:El} (S:b.getLast? =some x) {E:Value} (h5:Below W.heap.size W W5) (z:PR (still B W5) (dh x.v) E)
  (h7:∀ k o v,B.c<k->aR W5 k o=some v->aR W7 k o=some v) (hbw:Below w.heap.size w W7) {g cap:Nat} (how:W.ownsRow W3.heap.size 43 1 (.slice (some ⟨g,0,none⟩) b.length cap) b.length (b.map El.u)):
  ∃ S',(∀ p ∈ L,p.2=0)/\(∃ p,L.getLast? =some p/\PR S' (dh p.1) E)/\PR S' (.sl (L.map λp=>dh p.1) L.length false) (.slice (some ⟨g,0,none⟩) b.length cap)/\kw B.S w S' W7:=by
 have s:B.c<W.heap.size:=υ K q.keep.size;have i:eO (still B W5) λk o=>if k<B.c then B.S k o else aR W7 k o:=by
  intro k o v e;obtain ⟨M,t,A,G⟩:=bF.1 e;show (if k<B.c then B.S k o else aR W7 k o)=some v;split
  .rename_i h;exact G (by omega)
  .exact h7 k o v (by omega) A
 have C:eO (still B W) λk o=>if k<B.c then B.S k o else aR W7 k o:=λk o v e=>i k o v ((bV.below s h5).stl k o v e)
 have D:∀ k o v,B.S k o=some v->k<w.heap.size:=λk o v e=>ju (I k o v e)
 refine ⟨λk o=>if k<B.c then B.S k o else aR W7 k o, ?_,⟨x.p, ?_,aQ i _ z⟩, ?_,⟨?_, ?_, ?_,hbw⟩⟩
 .intro p hp;rw [<- d] at hp;obtain ⟨y,l,rfl⟩:=List.mem_map.1 hp;exact (q.els y l).1
 .rw [<- d,Yqn,S];rfl
 .have R:(L.map λp=>dh p.1)=b.map λx=>dh x.v:=by rw [<- d,Xzd];rfl
  have Q:L.length=b.length:=by rw [<- d,Xqp]
  rw [R,Q];simp only [PR];obtain ⟨_,⟨h,_⟩|⟨g',F,cur,e,M,t,A,G,N,T⟩⟩:=how
  .cases h
  .cases e;refine ⟨_,_,rfl,A,.inr ⟨g,0,b.map El.u,rfl,D2 λy l=>aQ C _ (q.els y l).2, ?_⟩⟩;intro j u m;have f:u.oneCell'=true:=by
    obtain ⟨y,l,rfl⟩:=List.mem_map.1 (Xqn m);have:=(q.els y l).2;simp only [dh,PR] at this;obtain ⟨a,c,e,_⟩:=this;rw [e];rfl
   refine ⟨?_,f⟩;show (if g<B.c then B.S g (0+j) else aR W7 g (0+j))=some u;rw [if_neg (by omega)];have r:=(Array.getElem?_eq_some_iff.1 t).1;refine h7 g _ u (by omega) ?_;rw [eR (h5.block g r)];refine eQ ?_ f;rw [(aT t (0+j)).1];rw [<- T,List.getElem?_take] at m;split at m
   .rw [Ψ];simpa using m
   .cases m
 .intro k o v e;show (if k<B.c then B.S k o else aR W7 k o)=some v;rw [if_pos (by have:=D k o v e;omega)];exact e
 .intro k o v e;have e:(if k<B.c then B.S k o else aR W7 k o)=some v:=e;split at e
  .exact dl hbw k o v (I k o v e)
  .exact e
 .intro k o v e;have e:(if k<B.c then B.S k o else aR W7 k o)=some v:=e;split at e
  .exact .inl e
  .exact .inr (by omega)
attribute [local go_sem] Oper.semAt_some
theorem JA {w W0 W1:World} {x y z:Value} (c:Below W0.heap.size W0 W1) (d:W0.heap.size=w.heap.size+4) (h:W0.heap[w.heap.size]? =some (.cells #[x,y,z] 37)):
  ∃ W2,W1.alloc (.cells #[.slice none 0 0] 47)=W2/\Below W1.heap.size W1 W2/\W2.cell? ⟨w.heap.size,0,none⟩=some x/\W2.cell? ⟨w.heap.size,1,none⟩=some y/\W2.cell? ⟨w.heap.size,2,none⟩=some z:=by
 have a:Below W1.heap.size W1 (W1.alloc (.cells #[.slice none 0 0] 47)):=(Below.refl _ W1).alloc (κ _) _;have b:=(a.block w.heap.size (by have:=c.size;omega)).trans ((c.block w.heap.size (by omega)).trans h);exact ⟨_,rfl,a,(aT b 0).1,(aT b 1).1,(aT b 2).1⟩
theorem Bm {W:World} {base e k:Nat} {v:Value} {a:List Value} (h:W.ownsRow base e 1 v (k+1) a):∃ g cap,v= .slice (some ⟨g,0,none⟩) (k+1) cap/\base<=g/\g<W.heap.size:=by
 obtain ⟨_,⟨_,h⟩|⟨g,cap,cur,rfl,b,c,_⟩⟩:=h
 .omega
 .exact ⟨g,cap,rfl,b,(Array.getElem?_eq_some_iff.1 c).1⟩
theorem lT.inv {F:List Rw->Int ⊕ List Rw} {v:List Rw} {L:List (List Rw × Int)} (h:lT F v L) {c:AV} {m:Nat} {inv:List Rw->Prop} (b:rI c m F inv) (a:inv v):∀ p ∈ L,inv p.1:=by
 induction h with
 |err h1=>intro p hp;rw [List.mem_singleton.1 hp];exact a
 |fix h1=>intro p hp;rw [List.mem_singleton.1 hp];exact a
 |step h1 h2 h3 ih=>
  intro p hp;rcases List.mem_cons.1 hp with rfl|hp
  .exact a
  .exact ih (b.nx _ _ a h1) p hp
theorem xq {S:aH} {v:List Rw} {b:Bool} {u:Value} (h:fF S (.sl (cg v) v.length b) u):∃ a c,u= .slice a v.length c:=by
 simp only [fF,PR] at h;obtain ⟨a,c,e,_⟩:=h;exact ⟨a,c,e⟩
theorem KS {W:World} {k l:Nat} {y:Value} (h:k ≠ l):(W.setCell ⟨l,0,none⟩ y).cell? ⟨k,0,none⟩=W.cell? ⟨k,0,none⟩:=World.cell?_setCell_other _ _ _ _ (by simp [h])
def Z3 (P:Act->World->Prop):Exit->Act->World->Prop
 | .normal,a,w=>P a w
 |_,_,_=>False
def Jn (L:List (List Rw × Int)) (S:aH) (w:World) (e:Ending) (w':World):Prop:=
 (∃ u ch S',e= .returned (.tuple #[u,ch,.int .i64 0])/\(∀ p ∈ L,p.2=0)/\(∃ p,L.getLast? =some p/\PR S' (dh p.1) u)/\PR S' (.sl (L.map λp=>dh p.1) L.length false) ch/\kw S w S' w')\/
 ∃ q pv pe,q++ [(pv,pe)]<+:L/\pe ≠ 0/\e= .returned (.tuple #[.slice none 0 0,.slice none 0 0,.int .i64 pe])/\kw S w S w'
theorem N0 {W:World} {k:Nat} {v:Value} (h:W.cell? ⟨k,0,none⟩=some v):∀ j u,[v][j]? =some u->W.cell? ((⟨k,0,none⟩:Addr).add j)=some u:=by
 intro j u a;cases j with
 |zero=>cases a;exact h
 |succ j=>simp at a
theorem DP {S:aH} {w W0 W1 W2 W3:World} {f:Value} {m:Int} (C:f.oneCell'=true) {a b c d:Array Value} {ta tb tc td:TypeId} (r:eO S (aR w)) (p:Below w.heap.size w W0) (u:W0.heap.size=w.heap.size+4) (s:Below W0.heap.size W0 W1) (l:W1.alloc (.cells #[.slice none 0 0] 47)=W2) (g:(W2.alloc (.cells #[.int .i64 m] 3)).alloc (.cells #[f] 144)=W3) (D:w.heap.size<=W1.heap.size):
  W3.heap.size=W1.heap.size+3/\Below W1.heap.size W1 W3/\W3.cell? ⟨W1.heap.size,0,none⟩=some (.slice none 0 0)/\W3.frozen? ⟨W1.heap.size,0,none⟩=false/\(∀ k,¬ dD W3 ⟨S,W1.heap.size,W1.heap.size,κ _⟩ k)/\eO S (still ⟨S,W1.heap.size,W1.heap.size,κ _⟩ W3)/\still ⟨S,W1.heap.size,W1.heap.size,κ _⟩ W3 W2.heap.size 0=some (.int .i64 m)/\still ⟨S,W1.heap.size,W1.heap.size,κ _⟩ W3 (W2.heap.size+1) 0=some f/\W2.heap.size=W1.heap.size+1:=by
 have z:W2.heap.size=W1.heap.size+1:=by rw [<- l];simp
 have B:W3.heap.size=W1.heap.size+3:=by rw [<- g];simp;omega
 have q:Below W1.heap.size W1 W3:=by
  rw [<- g];refine Below.alloc (Below.alloc ?_ (by omega) _) (by simp;omega) _;rw [<- l];exact (Below.refl _ W1).alloc (κ _) _
 have j:W3.heap[W1.heap.size]? =some (.cells #[.slice none 0 0] 47):=by
  rw [<- g,Below.heap_alloc _ _ _ (by simp;omega),Below.heap_alloc _ _ _ (by omega),<- l];exact World.alloc_heap_new W1 _
 have A:W3.heap[W2.heap.size]? =some (.cells #[.int .i64 m] 3):=by
  rw [<- g,Below.heap_alloc _ _ _ (by simp)];exact World.alloc_heap_new W2 _
 have t:W3.heap[W2.heap.size+1]? =some (.cells #[f] 144):=by
  have:=World.alloc_heap_new (W2.alloc (.cells #[.int .i64 m] 3)) (.cells #[f] 144);rw [World.size_alloc] at this;rw [<- g];exact this
 have i:∀ k,¬ dD W3 ⟨S,W1.heap.size,W1.heap.size,κ _⟩ k:=by
  rintro k ⟨ad,x,y,h,_⟩
  have:=(aT j 0).1;rw [show W3.cell? ⟨W1.heap.size,0,none⟩=_ from h] at this;simp at this
 refine ⟨B,q,(aT j 0).1,(aT j 0).2,i, ?_, ?_, ?_,z⟩
 .intro k o v e;have E:k<w.heap.size:=ju (r k o v e);refine bF.2 ⟨by show k ≠ W1.heap.size;omega,i k, ?_,λ_=>e⟩;exact dl (p.trans ((s.mono (by omega)).trans (q.mono D))) k o v (r k o v e)
 .exact bF.2 ⟨by show W2.heap.size ≠ W1.heap.size;omega,i _,eQ ((aT A 0).1) rfl,λh=>by have:W2.heap.size<W1.heap.size:=h;omega⟩
 .exact bF.2 ⟨by show W2.heap.size+1 ≠ W1.heap.size;omega,i _,eQ ((aT t 0).1) C,λh=>by have:W2.heap.size+1<W1.heap.size:=h;omega⟩
set_option maxRecDepth 100000 in
set_option maxHeartbeats 1000000 in
theorem Kc (es:List aP) (ss:List (List Lk)) (ne ns:Bool) (hck:CO 33 [fR es ss ne ns] (.ret (.int .i64 0))) (hm:es.length<=60) (hm0:es.length ≠ 0) {F:List Rw->Int ⊕ List Rw} {inv:List Rw->Prop} (hN:rI (fR es ss ne ns) es.length F inv) {L:List (List Rw × Int)} (hL:lT F (ζ es.length (wQ q0)) L) (hi0:inv (ζ es.length (wQ q0))) (hLL:L.length<=1048576)
  (S:aH) (w:World) (a0:Option Addr) (p0:Nat) (v1 v2:Value) (hS:eO S (aR w)) (hg:cG ap S) (hv:PR S (fR es ss ne ns) (.agg #[.slice a0 es.length p0,v1,v2])) (n:Nat) (hn:4<=n):
  CallsIn Fence.wide n prog 23 #[.agg #[.slice a0 es.length p0,v1,v2]] w (Jn L S w):=by
 have hf33:Fence.wide.fn 33:=trivial;have hf44:Fence.wide.fn 44:=trivial;have h1n:1<=n:=by omega
 obtain ⟨W0,hW0⟩:∃ W0,(((w.alloc (.cells #[.slice a0 es.length p0,v1,v2] 37)).alloc (.cells #[.slice none 0 0] 43)).alloc (.cells #[.slice none 0 0] 47)).alloc (.cells #[.int .i64 0] 48)=W0:=⟨_,rfl⟩
 obtain ⟨hb0,hz0,a1,a2,a3,a4⟩:=LM hW0;have hS0:eO S (aR W0):=λk o v h=>dl hb0 k o v (hS k o v h)
 have e0:W0.cell? ⟨w.heap.size,0,none⟩=some (.slice a0 es.length p0):=(aT a1 0).1;have e1:W0.cell? ⟨w.heap.size,1,none⟩=some v1:=(aT a1 1).1;have e2:W0.cell? ⟨w.heap.size,2,none⟩=some v2:=(aT a1 2).1;refine callsIn_of_wp_marks Tryz.func23 rfl trivial ?_ rfl;simp only [Tryz.ntmps23,Xxg,ο,Ξ,Xj8,Xj9,Array.replicate_succ,Array.replicate_zero,Xx9,Xxz,Xqb,Xqu]
 gi_wp2_with (first
  |(gi_at_call 33;refine (DS hck rfl (S:=S) (W:=W0) hS0 hg (by simp only [bw];exact ⟨hv,trivial⟩)).mono ?_;rintro e W1 ⟨S1,cv,rfl,hr1,ha1⟩;simp only [fF,PR] at hr1;subst hr1;obtain ⟨W2,hW2,hb2,c10,c11,c12⟩:=JA ha1.bel hz0 a1)
  |(gi_at_call 44;refine (BC _ _ _ _).mono ?_;rintro e W3 ⟨rfl,rfl⟩)
  |gi_in)
 have hl:w.heap.size<=W1.heap.size:=by have:=ha1.bel.size;omega
 obtain ⟨W3,hW3⟩:∃ W3,(W2.alloc (.cells #[.int .i64 (es.length:Int)] 3)).alloc (.cells #[.func (.func 41) #[.agg #[.slice a0 es.length p0,v1,v2]] #[]] 144)=W3:=⟨_,rfl⟩
 obtain ⟨z3,hb13,kc,kf,nb,hSs,s1,s2,z2⟩:=DP (a:=#[]) (b:=#[]) (c:=#[]) (d:=#[]) (ta:=0) (tb:=0) (tc:=0) (td:=0) rfl hS hb0 hz0 ha1.bel hW2 hW3 hl;rw [hW3];have hcW:(⟨S,W1.heap.size,W1.heap.size,κ _⟩:Bx).c<W3.heap.size:=by show W1.heap.size<_;omega
 have hg3:cG ap (still ⟨S,W1.heap.size,W1.heap.size,κ _⟩ W3):=by
  intro k xs hk;obtain ⟨vs,h1,h2⟩:=hg k xs hk;exact ⟨vs,aY hSs _ h1,λj u hu=> ⟨hSs _ _ _ (h2 j u hu).1,(h2 j u hu).2⟩⟩
 refine Bs h1n (gf:=81) (lb:=#[.pointer (some ⟨W2.heap.size,0,none⟩),.pointer (some ⟨W2.heap.size+1,0,none⟩)]) rfl (enters_of Tryz.func81 (by kernel_rfl) rfl)
  (pU (n - 1) (by omega) W2.heap.size (W2.heap.size+1) ⟨S,W1.heap.size,W1.heap.size,κ _⟩ es.length hm hN hL hi0 W3 hcW s1 s2 (aQ hSs _ hv) hg3 (λk h=>absurd h (nb k))) (λ_=>rfl)
  (LI ⟨S,W1.heap.size,W1.heap.size,κ _⟩ W3) (LX w W3) (LI.own hcW) (LX.own (by omega)) (X0.own hcW) (λ_ _ _ _ h _ _=>h) (λ_ _ _ _ h _ _=>h) (λh k=>h.trans k)
  (λW l o o' hlW h1 h2 h3=>bV.put W l o o' h1 h2 h3 (by have:W1.heap.size<_:=hcW;show W1.heap.size ≠ l;omega))
  ⟨bV.refl _ _,λ_ _=>rfl,⟨_,kc,kf,World.ownsRow_nil _ _ _ _⟩,λx hx=>by cases hx⟩
  (λx=> {tmps:=#[.agg #[.slice a0 es.length p0,v1,v2],.pointer (some ⟨w.heap.size,0,none⟩),.pointer (some ⟨w.heap.size+1,0,none⟩),.pointer (some ⟨w.heap.size+1+1,0,none⟩),.pointer (some ⟨w.heap.size+1+1+1,0,none⟩),.int .i64 0,.pointer (some ⟨W1.heap.size,0,none⟩),x.u,.int .i64 x.e,.agg #[.slice a0 es.length p0,v1,v2],.int .i64 0,.int .i64 0,.bool false,undef,.pointer (some ⟨w.heap.size,0,none⟩),.slice a0 es.length p0,.int .i64 es.length,.agg #[.slice a0 es.length p0,v1,v2],.agg #[.slice a0 es.length p0,v1,v2],.func (.func 41) #[.agg #[.slice a0 es.length p0,v1,v2]] #[],.func (.func 81) #[] #[.pointer (some ⟨W2.heap.size,0,none⟩),.pointer (some ⟨W2.heap.size+1,0,none⟩)],x.u,.int .i64 x.e,undef,undef,undef,undef,undef,undef,undef,undef,undef,undef,undef,undef,undef,undef,undef],defers:= []}) ?assign ?body ?done ?stop
 case assign=>
  intro l x W K hK;clear z2 z3
  gi_wp2
  exact hK
 case body=>
  rintro l pre ⟨xv,xe,xu⟩ W ⟨hk,hlow,⟨cv,hcv,hcf,how⟩,hels⟩ ⟨hcw,hpx,hpre⟩
  have hcw2:W1.heap.size<W.heap.size:=hcw;have hlen:pre.length<=1048576:=by
   have:=hpre.length_le;simp at this;omega
  have hpx0:PR (still ⟨S,W1.heap.size,W1.heap.size,κ _⟩ W) (dh xv) xu:=hpx;simp only [dh,PR] at hpx;obtain ⟨ad,cp,rfl,_⟩:=hpx;by_cases hx:xe=0
  .subst hx;obtain ⟨i43,h43,z43,s43,b43⟩:=ado;have hI:LI ⟨S,W1.heap.size,W1.heap.size,κ _⟩ W3 pre W:=⟨hk,hlow,⟨cv,hcv,hcf,how⟩,hels⟩
   have hal:=(aT (World.alloc_heap_new W (.cells #[.slice ad xv.length cp] 43)) 0).1;have hca:(W.alloc (.cells #[.slice ad xv.length cp] 43)).heap[W1.heap.size]? =W.heap[W1.heap.size]? :=Below.heap_alloc _ _ _ hcw;have hob:cv.ownBlock ≠ some W1.heap.size:=λe=>by have:=(how.lt _ e).1;omega
   gi_wp2_with (gi_at_builtin;refine wpListIn_append_own_at _ rfl _ _ _ rfl W3.heap.size 43 i43 (.slice none 0 0) 1 24 (by kernel_rfl) h43 z43 s43 b43 rfl (by omega) cv pre.length (pre.map El.u) rfl (how.alloc _) ⟨W.heap.size,0,none⟩ 1 1 [.slice ad xv.length cp] rfl rfl (N0 hal) (by rintro u hu;rw [List.mem_singleton.1 hu];rfl) (by simp [maxLen];omega) (by omega) (by have:=hk.size;simp;omega) ?_;rintro v' W4 hown4 hgr4 _ hat;obtain ⟨g,cap,rfl,hg4,hgl⟩:=Bm hown4;have hc4:W4.heap[W1.heap.size]? =W.heap[W1.heap.size]? :=(hgr4.block _ (by simp;omega) (λe=>hob e.symm)).trans hca;have hcc4:=(World.cell?_of_block (a:=⟨W1.heap.size,0,none⟩) hc4).trans hcv;have hcf4:=(World.frozen?_of_block (a:=⟨W1.heap.size,0,none⟩) hc4).trans hcf)
   exact FY (B:=⟨S,W1.heap.size,W1.heap.size,κ _⟩) hI hcW hcv hcf how rfl hpx0 hgr4 hown4 hat
  .have hxd:decide (xe=0)=false:=Yq1 hx;have hh:∀ k,k<W0.heap.size->W.heap[k]? =W0.heap[k]? :=λk h=>(hlow k (by show k<W1.heap.size;have:=ha1.bel.size;omega)).trans ((hb13.block k (by have:=ha1.bel.size;omega)).trans (ha1.bel.block k h))
   have b2:=aT ((hh (w.heap.size+1) (by omega)).trans a2) 0;have b3:=aT ((hh (w.heap.size+1+1) (by omega)).trans a3) 0;have b4:=aT ((hh (w.heap.size+1+1+1) (by omega)).trans a4) 0;obtain ⟨c2,d2⟩:=b2;obtain ⟨c3,d3⟩:=b3;obtain ⟨c4,d4⟩:=b4;simp only [Xzh,Xxf] at c2 c3 c4;have hbW:Below w.heap.size w W:=hb0.trans ⟨hk.os.trans (hb13.os.trans ha1.bel.os),hk.tape.trans (hb13.tape.trans ha1.bel.tape),hk.output.trans (hb13.output.trans ha1.bel.output),by have:=ha1.bel.size;omega,λk h=>hh k (by omega)⟩
   gi_wp2
   obtain ⟨x1,x2,x3⟩:=O5 (W:=W) (a:=w.heap.size+1) (b:=w.heap.size+1+1) (c:=w.heap.size+1+1+1) (u:= .slice none 0 0) (v:= .slice none 0 0) (x:= .int .i64 xe) (by omega) (by omega) (by omega) (by rw [c2];rfl) (by rw [c3];rfl) (by rw [c4];rfl);refine ⟨((KeepsOthers.setCell _ _ _).trans (KeepsOthers.setCell _ _ _)).trans (KeepsOthers.setCell _ _ _),rfl,⟨pre,_,rfl,hx,x1,x2,x3⟩, ?_⟩;exact (((hbW.setCell (p:=⟨w.heap.size+1,0,none⟩) (by show w.heap.size<=w.heap.size+1;omega) _).setCell (p:=⟨w.heap.size+1+1,0,none⟩) (by show w.heap.size<=w.heap.size+1+1;omega) _).setCell (p:=⟨w.heap.size+1+1+1,0,none⟩) (by show w.heap.size<=w.heap.size+1+1+1;omega) _)
 case done=>
  rintro D xs W hD hxs ⟨hk,hlow,⟨cv,hcv,hcf,how⟩,hels⟩ hK
  obtain ⟨x,hx⟩:∃ x,xs.getLast? =some x:=by
   cases h:xs.getLast? with
   |some x=>exact ⟨x,rfl⟩
   |none=>
    rw [Xv2] at h;subst h;rw [<- hxs] at hL;cases hL
  obtain ⟨ys,rfl⟩:=List.getLast?_eq_some_iff.1 hx;obtain ⟨xv,xe,xu⟩:=x;rw [ξ,Δ] at how;obtain ⟨g,cap,rfl,hg1,hg2⟩:=Bm how;have hxe:=(hels ⟨xv,xe,xu⟩ (by simp)).2;have hxm:(xv,xe) ∈ L:=by rw [<- hxs];simp
  have hxl:xv.length=es.length:=hN.len _ (hL.inv hN hi0 _ hxm);have hx1:PR (still ⟨S,W1.heap.size,W1.heap.size,κ _⟩ W) (.sl (cg xv) xv.length true) xu:=by
   simp only [dh,PR] at hxe ⊢;obtain ⟨a,cp,e,h1,h2⟩:=hxe;refine ⟨a,cp,e,h1, ?_⟩;rcases h2 with ⟨_,_,h,_⟩|h
   .omega
   .exact .inr h
  have hce:W.cell? ⟨g,ys.length,none⟩=some xu:=by
   have:=how.cells rfl ys.length xu (by simp);unfold Addr.add at this;split at this
   .rename_i h0;have:ys.length=0:=by simpa using h0
    rw [this];assumption
   .simpa using this
  have hcl:=Lh xv (by omega);have hf53:Fence.wide.fn 53:=trivial;have hcW2:W1.heap.size<W.heap.size:=by have:=hk.size;omega
  have hyl:ys.length<=1048576:=by
   have:(ys++ [(⟨xv,xe,xu⟩:El)]).length=L.length:=by rw [<- hxs,Xqp]
   simp at this;omega
  have hwr0:IntKind.i64.wrap (ys.length:Int)=(ys.length:Int):=by rw [Xkj];omega
  have hwr1:IntKind.i64.wrap ((ys.length:Int)+1 - 1)=(ys.length:Int):=by rw [Xkj];omega
  have hwr2:IntKind.i64.wrap (((ys.length+1:Nat):Int) - 1)=(ys.length:Int):=by rw [Xkj];omega
  have hix1:(ys.length:Int)<((ys.length+1:Nat):Int):=by omega
  have hix2:(ys.length:Int)<(ys.length:Int)+1:=by omega
  gi_wp2
  have hst:still ⟨S,W1.heap.size,W1.heap.size,κ _⟩ W.drew=still ⟨S,W1.heap.size,W1.heap.size,κ _⟩ W:=rfl;have hx2:PR (still ⟨S,W1.heap.size,W1.heap.size,κ _⟩ W.drew) (.sl (cg xv) xv.length true) xu:=by rw [hst];exact hx1
  have hgd:cG ap (still ⟨S,W1.heap.size,W1.heap.size,κ _⟩ W.drew):=by rw [hst];exact hk.glob hg3
  have hbd:∀ k,dD W.drew ⟨S,W1.heap.size,W1.heap.size,κ _⟩ k->k<W.drew.heap.size:=hk.back (λk h=>absurd h (nb k));have hcd:(⟨S,W1.heap.size,W1.heap.size,κ _⟩:Bx).c<W.drew.heap.size:=hcW2;have hh:∀ k,k<W0.heap.size->W.heap[k]? =W0.heap[k]? :=λk h=>(hlow k (by show k<W1.heap.size;have:=ha1.bel.size;omega)).trans ((hb13.block k (by have:=ha1.bel.size;omega)).trans (ha1.bel.block k h))
  have hl1:w.heap.size+4<=W1.heap.size:=by have:=ha1.bel.size;omega
  have hl0:W0.heap.size<=W.heap.size:=by have:=ha1.bel.size;omega
  refine wpIn_mono (Q:=Z3 λa W6=>(a.tmps.getD 2 undef= .pointer (some ⟨w.heap.size+1,0,none⟩)/\a.tmps.getD 3 undef= .pointer (some ⟨w.heap.size+1+1,0,none⟩)/\a.tmps.getD 4 undef= .pointer (some ⟨w.heap.size+1+1+1,0,none⟩)/\a.defers= [{target:= .collected D,args:=#[]}])/\∃ uc W5,fF (still ⟨S,W1.heap.size,W1.heap.size,κ _⟩ W5) (.sl (cg xv) xv.length true) uc/\Below W.drew.heap.size W.drew W5/\W6=(((W5.setCell ⟨w.heap.size+1,0,none⟩ uc).setCell ⟨w.heap.size+1+1,0,none⟩ (.slice (some ⟨g,0,none⟩) (ys.length+1) cap)).setCell ⟨w.heap.size+1+1+1,0,none⟩ (.int .i64 0))) ?_ ?_
  rotate_left
  .intro e a W6 h;cases e with
   | normal=>
    obtain ⟨⟨t2,t3,t4,td⟩,uc,W5,hr5,hb5,rfl⟩:=h;obtain ⟨tm,df⟩:=a;simp only at t2 t3 t4 td;subst td;have hb5':Below W.heap.size W W5:=⟨hb5.os,hb5.tape,hb5.output,hb5.size,hb5.block⟩
    have hD1:D<W.heap.size:=(Array.getElem?_eq_some_iff.1 hK).1;obtain ⟨W6,hW6⟩:∃ W6,((W5.setCell ⟨w.heap.size+1,0,none⟩ uc).setCell ⟨w.heap.size+1+1,0,none⟩ (.slice (some ⟨g,0,none⟩) (ys.length+1) cap)).setCell ⟨w.heap.size+1+1+1,0,none⟩ (.int .i64 0)=W6:=⟨_,rfl⟩
    have h6:∀ k,w.heap.size+4<=k->W6.heap[k]? =W5.heap[k]? :=λk hk=>by rw [<- hW6,Below.heap_setCell _ _ _ _ (by show k ≠ w.heap.size+1+1+1;omega),Below.heap_setCell _ _ _ _ (by show k ≠ w.heap.size+1+1;omega),Below.heap_setCell _ _ _ _ (by show k ≠ w.heap.size+1;omega)]
    have hK6:W6.heap[D]? =some (.deferred (some [])):=(h6 D (by omega)).trans ((hb5'.block D hD1).trans hK);have b2:=aT ((hb5'.block (w.heap.size+1) (by omega)).trans ((hh (w.heap.size+1) (by omega)).trans a2)) 0;have b3:=aT ((hb5'.block (w.heap.size+1+1) (by omega)).trans ((hh (w.heap.size+1+1) (by omega)).trans a3)) 0;have b4:=aT ((hb5'.block (w.heap.size+1+1+1) (by omega)).trans ((hh (w.heap.size+1+1+1) (by omega)).trans a4)) 0;obtain ⟨x1,x2,x3⟩:=O5 (W:=W5) (a:=w.heap.size+1) (b:=w.heap.size+1+1) (c:=w.heap.size+1+1+1) (u:=uc) (v:= .slice (some ⟨g,0,none⟩) (ys.length+1) cap) (x:= .int .i64 0) (by omega) (by omega) (by omega) (by rw [b2.1];rfl) (by rw [b3.1];rfl) (by rw [b4.1];rfl);rw [hW6] at x1 x2 x3 ⊢;clear hx1 hx2 hwr0 hwr1 hwr2 hix1 hix2
    gi_wp2
    have hbWW:Below w.heap.size w W:=hb0.trans ⟨hk.os.trans (hb13.os.trans ha1.bel.os),hk.tape.trans (hb13.tape.trans ha1.bel.tape),hk.output.trans (hb13.output.trans ha1.bel.output),by have:=ha1.bel.size;omega,λk h=>hh k (by omega)⟩;have hb56:Below w.heap.size W5 W6:=by
     rw [<- hW6];exact (((Below.refl _ W5).setCell (p:=⟨w.heap.size+1,0,none⟩) (by show w.heap.size<=w.heap.size+1;omega) _).setCell (p:=⟨w.heap.size+1+1,0,none⟩) (by show w.heap.size<=w.heap.size+1+1;omega) _).setCell (p:=⟨w.heap.size+1+1+1,0,none⟩) (by show w.heap.size<=w.heap.size+1+1+1;omega) _
    have hbw6:Below w.heap.size w W6:=(hbWW.trans (hb5'.mono (by omega))).trans hb56;refine ⟨by simp,.inl ⟨_,_,rfl,run_takeDeferred hK6, ?_⟩⟩;have oC:∀ k v,k<W3.heap.size->W6.cell? ⟨k,0,none⟩=some v->(W6.putObj D (.deferred none)).cell? ⟨k,0,none⟩=some v:=λk v h hv=>(World.cell?_of_block (World.putObj_heap_other (show k ≠ D by omega))).trans hv
    have h7:∀ k o v,W1.heap.size<k->aR W5 k o=some v->aR (W6.putObj D (.deferred none)) k o=some v:=by
     intro k o v h e;have hkD:k ≠ D:=by
      rintro rfl
      unfold aR at e;rw [(hb5'.block k hD1).trans hK] at e;simp [World.cell?,(hb5'.block k hD1).trans hK] at e
     rw [eR (World.putObj_heap_other hkD),eR (h6 k (by omega))];exact e
    have hbw7:Below w.heap.size w (W6.putObj D (.deferred none)):=hbw6.trans ((Below.refl _ W6).grown (grownBy_putObj' W6 D _) hbw6.size (λk e=>by cases e;omega));have hr5':PR (still ⟨S,W1.heap.size,W1.heap.size,κ _⟩ W5) (dh xv) uc:=by
     simp only [fF,PR] at hr5;simp only [dh,PR];obtain ⟨a,cp,e,h1,h2⟩:=hr5;refine ⟨a,cp,e,h1, ?_⟩;rcases h2 with ⟨_,h⟩|h
     .exact .inl ⟨by simp,h⟩
     .exact .inr h
    have hzl:(ys++ [(⟨xv,xe,xu⟩:El)]).length=ys.length+1:=by simp
    obtain ⟨S',q1,q2,q3,q4⟩:=Kb (B:=⟨S,W1.heap.size,W1.heap.size,κ _⟩) (x:=⟨xv,xe,xu⟩) (g:=g) (cap:=cap) rfl hS hl hcW ⟨hk,hlow,⟨_,hcv,hcf,by rw [hzl];exact how⟩,hels⟩ hxs hx hb5' hr5' h7 hbw7 (by rw [hzl];exact how);rw [hzl] at q3;exact ⟨_,Oo t2 t3 t4 (oC _ _ (by omega) x1) (oC _ _ (by omega) x2) (oC _ _ (by omega) x3),.inl ⟨_,_,S',rfl,q1,q2,q3,q4⟩⟩
   |_=>exact h.elim
  gi_region_with (gi_at_call 53;refine (gC hcl rfl hcd hbd hgd (by simp only [bw];exact ⟨hx2,trivial⟩)).mono ?_;rintro ee W5 ⟨uc,rfl,hr5,hb5⟩;obtain ⟨au,cu,rfl⟩:=xq hr5;have b2:=aT ((hb5.block (w.heap.size+1) (by show w.heap.size+1<W.heap.size;omega)).trans ((hh (w.heap.size+1) (by omega)).trans a2)) 0;have b3:=aT ((hb5.block (w.heap.size+1+1) (by show w.heap.size+1+1<W.heap.size;omega)).trans ((hh (w.heap.size+1+1) (by omega)).trans a3)) 0;have b4:=aT ((hb5.block (w.heap.size+1+1+1) (by show w.heap.size+1+1+1<W.heap.size;omega)).trans ((hh (w.heap.size+1+1+1) (by omega)).trans a4)) 0;have c2:=b2.1;have c3:=b3.1;have c4:=b4.1;have d2:=b2.2;have d3:=b3.2;have d4:=b4.2;clear b2 b3 b4;simp only [Xzh,Xxf] at c2 c3 c4;have c5:=(World.cell?_of_block (a:=⟨W1.heap.size,0,none⟩) (hb5.block W1.heap.size hcd)).trans hcv;have c6:=(KS (W:=W5) (k:=W1.heap.size) (l:=w.heap.size+1) (y:= .slice au xv.length cu) (by omega)).trans c5)
  all_goals exact ⟨⟨rfl,rfl,rfl,rfl⟩,_,_,by rw [hxl];rw [hxl] at hr5;exact hr5,by exact hb5,rfl⟩
 case stop=>
  rintro D c pre W hD hSp ⟨rfl,⟨p,x,rfl,hx,x1,x2,x3⟩,hbW⟩ hK
  gi_wp2
  refine ⟨by simp,.inl ⟨_,_,rfl,run_takeDeferred hK, ?_⟩⟩;have hl3:w.heap.size+4<=W3.heap.size:=by have:=ha1.bel.size;omega
  have oC:∀ k v,k<W3.heap.size->W.cell? ⟨k,0,none⟩=some v->(W.putObj D (.deferred none)).cell? ⟨k,0,none⟩=some v:=λk v h hv=>(World.cell?_of_block (World.putObj_heap_other (show k ≠ D by omega))).trans hv
  refine ⟨_,Oo rfl rfl rfl (oC _ _ (by omega) x1) (oC _ _ (by omega) x2) (oC _ _ (by omega) x3),.inr ⟨p.map El.p,x.v,x.e,by simpa using hSp,hx,rfl,kB hS (hbW.trans ((Below.refl _ W).grown (grownBy_putObj' W D _) hbW.size (λk e=>by cases e;omega)))⟩⟩
theorem SA {o:Oq} {x:aP} {w:Rw} (b:x.sm) (h:qP o x= .inr w):w.sm:=by
 unfold qP at h;split at h
 .cases h
 .split at h
  .cases h;have:=cP (q:=q0) (by kernel_rfl);exact ⟨φ this.1 (by omega),φ this.2 (by omega)⟩
  .split at h
   .cases h;exact b.cp
   .split at h
    .rename_i q _ _ a;cases h;have:=cP a;exact ⟨φ this.1 (by omega),φ this.2 (by omega)⟩
    .cases h
theorem Sz {o:Oq} {x:aP} {e:Int} (a:o.ok) (h:qP o x= .inl e):e ≠ 0:=by
 unfold qP at h;split at h
 .cases h;exact a
 .split at h
  .cases h
  .split at h
   .cases h
   .split at h
    .cases h
    .cases h;decide
theorem tN {EL:List (List Lk)}:∀ {es:List aP} {w:List Rw},(∀ x ∈ es,x.sm)->jd EL es= .inr w->∀ y ∈ w,y.sm
 | [],w,_,h=>by cases h;intro y b;cases b
 | x::r,w,hx,h=>by
  unfold jd at h;split at h
  .cases h
  .rename_i a c;split at h
   .cases h
   .rename_i l d;cases h;intro y b;rcases List.mem_cons.1 b with rfl|b
    .exact SA (hx x (by simp)) c
    .exact tN (λz e=>hx z (by simp [e])) d y b
theorem qB {EL:List (List Lk)}:∀ {es:List aP} {e:Int},jd EL es= .inl e->e ≠ 0
 | [],e,h=>by cases h
 | x::r,e,h=>by
  unfold jd at h;split at h
  .rename_i a b;cases h;exact Sz (kG _ _) b
  .rename_i a b;split at h
   .rename_i l c;cases h;exact qB c
   .cases h
structure fB (es:List aP) (ss:List (List Lk)):Prop where
 len:es.length<2^39
 sm:∀ x ∈ es,x.sm
 ls:∀ l ∈ ss,l.length<2^39
 lk:∀ l ∈ ss,∀ x ∈ l,x.a.length<2^36/\x.d.length<2^36
theorem fB.env {es:List aP} {ss:List (List Lk)} (h:fB es ss) {v:List Rw} (e:∀ y ∈ v,y.sm) (i:Nat):fE.sm ⟨iO es v ss i,[]⟩:=by
 have c:(ss.getD i []).length<2^39/\∀ x ∈ ss.getD i [],x.a.length<2^36/\x.d.length<2^36:=by
  rw [μ];cases b:ss[i]? with
  |none=>exact ⟨by decide,λx a=>by cases a⟩
  |some l=>exact ⟨h.ls l (Xqn b),h.lk l (Xqn b)⟩
 have d:=h.len;refine ⟨?_,(by show 0<2^40;decide), ?_,rfl⟩
 .show (iO es v ss i).length<_;unfold iO;rw [ξ,Xqp,List.length_zip];omega
 .intro x a;have a:x ∈ iO es v ss i:=a;unfold iO at a;rcases List.mem_append.1 a with a|a
  .obtain ⟨⟨q,y⟩,hp,rfl⟩:=List.mem_map.1 a;have:=e y (List.of_mem_zip hp).2;unfold Rw.sm at this;refine ⟨?_, ?_⟩
   .show y.a.length<_;omega
   .show y.d.length<_;omega
  .exact c.2 x a
def uF:Int ⊕ List (List Rw)->AV
 | .inl e=> .tup [.nilS,.nilS,.int .i64 e]
 | .inr c=> .tup [dh (c.getLast?.getD []),.sl (lV c) c.length false,.int .i64 0]
def rG (ss:List (List Lk)) (es:List aP) (r:Int ⊕ List (List Rw)):Prop:=(qN ss.length es ≠ 0/\r= .inl (qN ss.length es))\/(qN ss.length es=0/\HB (oL ss es) (Ae es) r)
theorem EX {F:List Rw->Int ⊕ List Rw} (f:∀ v e,F v= .inl e->e ≠ 0) {v:List Rw} {r:Int ⊕ List (List Rw)} (h:HB F v r):∃ L,lT F v L/\match r with
  | .inl e=> ∃ q a,L=q++ [(a,e)]/\(∀ p ∈ q,p.2=0)/\e ≠ 0
  | .inr c=>L=c.map (λv=>(v,0))/\c ≠ []:=by
 induction h with
 |err h1=>exact ⟨_,.err h1,[],_,rfl,(λp hp=>by cases hp),f _ _ h1⟩
 |fix h1=>exact ⟨_,.fix h1,rfl,by simp⟩
 |stepE h1 hn _ ih=>
  obtain ⟨L,b,q,a,rfl,d,g⟩:=ih;exact ⟨_,.step h1 hn b,_::q,a,rfl,(λp hp=>(List.mem_cons.1 hp).elim (λe=>by rw [e]) (d p)),g⟩
 |stepC h1 hn _ ih=>
  obtain ⟨L,b,rfl,d⟩:=ih;exact ⟨_,.step h1 hn b,rfl,by simp⟩
theorem lT.tail {F:List Rw->Int ⊕ List Rw} {v:List Rw} {L q:List (List Rw × Int)} {d:List Rw} {c:Int} (h:lT F v L) (hp:q++ [(d,c)]<+:L) (e:c ≠ 0):L=q++ [(d,c)]:=by
 induction h generalizing q with
 |err h1=>
  cases q with
  |nil=>obtain ⟨r,b⟩:=hp;simp at b;obtain ⟨b,_⟩:=b;rw [b.1,b.2];rfl
  |cons a q=>have:=hp.length_le;simp at this
 |fix h1=>
  cases q with
  |nil=>obtain ⟨r,b⟩:=hp;simp at b;exact absurd b.1.2 e
  |cons a q=>have:=hp.length_le;simp at this
 | step h1 hn h2 ih=>
  cases q with
  |nil=>obtain ⟨r,b⟩:=hp;simp at b;exact absurd b.1.2 e
  |cons a q=>
   obtain ⟨r,b⟩:=hp;simp only [Xqu,List.cons.injEq] at b;rw [ih ⟨r,b.2⟩,<- b.1];rfl
theorem E5 {ss:List (List Lk)} {es:List aP} (hs:qX ss.length es) {v:List Rw} {L:List (List Rw × Int)} (h:lT (oL ss es) v L):da es v->(∀ w,oL ss es v= .inr w->py v w)->L.length+t_ es v<=Cf es+1:=by
 induction h with
 |err h1=>intro a _;have:=Do a;simp;omega
 |fix h1=>intro a _;have:=Do a;simp;omega
 |step h1 hn h2 ih=>
  intro a b;have d:=fk hs.ok h1;obtain ⟨g,f⟩:=Dp (λx c=>(hs.ok x c).cap) a d (b _ h1);have h5:=mt f hn;have:=ih d (λu e=>zy a.len (b _ h1) (λx c=> ⟨hs.ok x c,hs.ris x c⟩) h1 e);simp;omega
theorem uk (es:List aP):Ae es=ζ es.length (wQ q0):=by
 unfold Ae;exact List.map_const' ..
theorem BL {S:aH} {es:List aP} {ss:List (List Lk)} {d b:Bool} {u:Value} (h:PR S (fR es ss d b) u):∃ a0 p0 v1 v2,u= .agg #[.slice a0 es.length p0,v1,v2]:=by
 simp only [fR,PR] at h;obtain ⟨vs,rfl,h⟩:=h
 match vs,h with
 | [x,y,z],h=>
  simp only [bw,PR] at h;obtain ⟨⟨a,c,rfl,_⟩,_⟩:=h;exact ⟨_,_,_,_,rfl⟩
 | [],h=>simp [bw] at h
 | [_],h=>simp [bw] at h
 | [_,_],h=>simp [bw] at h
 |_::_::_::_::_,h=>simp [bw] at h
theorem CL (r:Int ⊕ List (List Rw)):vk (uF r)=true:=by
 cases r<;>rfl
theorem mA (es:List aP) (ss:List (List Lk)) (j m:Bool) (h:fB es ss) {r:Int ⊕ List (List Rw)} (N:rG ss es r):CO 23 [fR es ss j m] (.ret (uF r)):=by
 have g:=jZ es ss j m h.len h.sm;refine Tz (enters_of Tryz.func23 (by kernel_rfl) rfl) (CL r) λS w cargs K J a=> ?_
 match cargs,a with
 | [u],a=>
  simp only [bw] at a;obtain ⟨a,_⟩:=a;obtain ⟨V,X,v1,T,rfl⟩:=BL a;rcases N with ⟨b,rfl⟩|⟨h0,f⟩
  .refine (Nc es ss j m _ b g S w _ _ _ K J a 9 (by omega)).mono ?_
   rintro e w' ⟨rfl,ha⟩
   refine ⟨S,_,rfl, ?_,ha⟩;simp only [uF,fF];exact ⟨[_,_,_],rfl,by simp only [bw,PR];exact ⟨trivial,trivial,trivial,trivial⟩⟩
  .rw [h0] at g;obtain ⟨E,s,D,d,t,_⟩:=Ci h0 h.sm;have Y:rI (fR es ss j m) es.length (oL ss es) (λv=>v.length=es.length/\∀ y ∈ v,y.sm):=by
    refine ⟨λv a=> ?_,λv a=>a.1,λv w a k=> ⟨pT k,tN h.sm k⟩,λv e a k=>qB k⟩;exact zA es ss v j m false E h.len s a.1.symm h.ls d λi hi=>h.env a.2 i
   obtain ⟨L,o,A⟩:=EX (λv e k=>qB k) f;rw [uk] at o f;have Q:∀ y ∈ ζ es.length (wQ q0),y.sm:=λy M=>by
    rw [(List.mem_replicate.1 M).2];have:=cP (q:=q0) (by kernel_rfl);exact ⟨φ this.1 (by omega),φ this.2 (by omega)⟩
   refine (Kc es ss j m g D (by intro e;exact s (Xq2 e)) Y o ⟨Xq9,Q⟩ ?_ S w V X v1 T K J a 9 (by omega)).mono ?_
   .have F:qX ss.length es:=⟨d,λx C=>(t x C).2⟩
    have z:∀ x ∈ es,gR x=true:=λx C=>(d x C).cap
    obtain ⟨O,z2⟩:=kv z;rw [<- uk] at o;have:=E5 F o O λw U=>Af z (fk d U)
    have:=FV z;omega
   .rintro e w' (⟨u,ch,S',rfl,q1,⟨p,q2,q3⟩,q4,ha⟩|⟨q,B,pe,h1,h2,rfl,ha⟩)
    .cases r with
     |inl e=>
      obtain ⟨q,B,rfl,_,b⟩:=A;exact absurd (q1 (B,e) (by simp)) b
     | inr c=>
      obtain ⟨rfl,z⟩:=A;refine ⟨S',_,rfl, ?_,ha⟩;simp only [uF,fF];refine ⟨[_,_,_],rfl, ?_⟩;simp only [bw];refine ⟨?_, ?_,by simp only [PR],trivial⟩
      .rw [Yqn] at q2;cases I:c.getLast? with
       |none=>rw [I] at q2;cases q2
       |some l=>rw [I] at q2;cases q2;exact q3
      .rw [Xzd,Xqp] at q4;rw [wP];exact q4
    .have G:=o.tail h1 h2;cases r with
     |inl e=>
      obtain ⟨Z,R,rfl,_,b⟩:=A;have:=List.append_inj_right' G (by simp);simp at this;obtain ⟨_,rfl⟩:=this;refine ⟨S,_,rfl, ?_,ha⟩;simp only [uF,fF];exact ⟨[_,_,_],rfl,by simp only [bw,PR];exact ⟨trivial,trivial,trivial,trivial⟩⟩
     |inr c=>
      obtain ⟨rfl,_⟩:=A;have:(B,pe) ∈ c.map (λv=>(v,(0:Int))):=by rw [G];simp
      obtain ⟨_,_,e⟩:=List.mem_map.1 this;cases e;exact absurd rfl h2
theorem WB (l:List (List Int)) (b:Bool) (d c a:Int) (K0 K1:List AV) (es:List aP) (q:Nat) (e:((Xxp (γ .i64 (Xxb a ((2:Nat):Int))) ((2:Nat):Int))==((0:Nat):Int))=true) (g:LB 190 0 f11 (BJ (.sl (eY l) l.length b) (.agg [ω d,ω c,ω a]) (!((Xxp (γ .i64 (Xxb a ((2:Nat):Int))) ((2:Nat):Int))==((0:Nat):Int))) (!((Xxp (γ .i64 (Xxb a ((2:Nat):Int))) ((2:Nat):Int))==((0:Nat):Int))) [ω d,ω c,ω a] [.nilS,.ref 3 0 0 1,.nilS] [.nilS]) (.normal) (I2 (.sl (eY l) l.length b) K0)) (f:LB 190 4 f11 (I3 (.sl (eY l) l.length b) K0) (.normal) ⟨[(4,.ptr 0 0 0),(5,.ptr 1 0 0)],[(0,⟨[.nilS,.nilS,.nilS],0,false,0,0,true⟩),(1,⟨[.nilS,.ref 2 0 0 1,.nilS],0,false,0,0,false⟩),(2,⟨[.ref 3 0 0 11],0,false,0,1,false⟩),(3,⟨K0,0,false,0,6,true⟩)],.dead,[]⟩):az prog ap 11 [.sl (eY l) l.length b,.agg [ω d,ω c,ω a]] [] (.ret (.agg [.nilS,.ref 1 0 0 1,.nilS])) [⟨[.nilS,.ref 1 0 0 1,.nilS],0,false,0,0,false⟩,⟨[.ref 2 0 0 11],0,false,0,1,false⟩,⟨K0,0,false,0,6,true⟩]:=
 qh th 3 (F:=⟨f11,[0,1,3,4,5,6,7,8,9,10,11,12,13,15,16,25,36,40,111,120,171],true⟩) rfl rfl (λnt h=>(pN 11 [0,4] 1 0 (.k 4 (aI e) (.n 6 .nil)) (.l f (.l g .nil)) h:ag prog ap [] nt (am f11) (fI .dead [.sl (eY l) l.length b,.agg [ω d,ω c,ω a]] []) .ret ⟨[(4,.ptr 0 0 0)],[(0,⟨[.nilS,.ref 1 0 0 1,.nilS],0,false,0,0,false⟩),(1,⟨[.ref 2 0 0 11],0,false,0,1,false⟩),(2,⟨K0,0,false,0,6,true⟩)],.dead,[]⟩)) rfl (Xqo _) rfl
theorem WA (l:List (List Int)) (b:Bool) (d c a:Int) (K0 K1:List AV) (es:List aP) (q:Nat) (e:((Xxp (γ .i64 (Xxb a ((2:Nat):Int))) ((2:Nat):Int))==((0:Nat):Int))=true) (g:LB 190 0 f11 (BJ (.sl (eY l) l.length b) (.agg [ω d,ω c,ω a]) (!((Xxp (γ .i64 (Xxb a ((2:Nat):Int))) ((2:Nat):Int))==((0:Nat):Int))) (!((Xxp (γ .i64 (Xxb a ((2:Nat):Int))) ((2:Nat):Int))==((0:Nat):Int))) [ω d,ω c,ω a] [.nilS,.ref 3 0 0 1,.nilS] [.nilS]) (.normal) (I2 (.sl (eY l) l.length b) K0)) (f:LB 190 4 f11 (I3 (.sl (eY l) l.length b) K0) (.normal) ⟨[(4,.ptr 0 0 0),(5,.ptr 1 0 0)],[(0,⟨[.nilS,.nilS,.nilS],0,false,0,0,true⟩),(1,⟨[.ref 2 0 0 q,.ref 3 0 0 1,.nilS],0,false,0,0,false⟩),(2,⟨(bq es),0,false,0,14,true⟩),(3,⟨[.ref 4 0 0 11],0,false,0,1,false⟩),(4,⟨K0,0,false,0,6,true⟩)],.dead,[]⟩):az prog ap 11 [.sl (eY l) l.length b,.agg [ω d,ω c,ω a]] [] (.ret (.agg [.ref 1 0 0 q,.ref 2 0 0 1,.nilS])) [⟨[.ref 1 0 0 q,.ref 2 0 0 1,.nilS],0,false,0,0,false⟩,⟨(bq es),0,false,0,14,true⟩,⟨[.ref 3 0 0 11],0,false,0,1,false⟩,⟨K0,0,false,0,6,true⟩]:=
 qh th 4 (F:=⟨f11,[0,1,3,4,5,6,7,8,9,10,11,12,13,15,16,25,36,40,111,120,171],true⟩) rfl rfl (λnt h=>(pN 11 [0,4] 1 0 (.k 4 (aI e) (.n 6 .nil)) (.l f (.l g .nil)) h:ag prog ap [] nt (am f11) (fI .dead [.sl (eY l) l.length b,.agg [ω d,ω c,ω a]] []) .ret ⟨[(4,.ptr 0 0 0)],[(0,⟨[.ref 1 0 0 q,.ref 2 0 0 1,.nilS],0,false,0,0,false⟩),(1,⟨(bq es),0,false,0,14,true⟩),(2,⟨[.ref 3 0 0 11],0,false,0,1,false⟩),(3,⟨K0,0,false,0,6,true⟩)],.dead,[]⟩)) rfl (Xqo _) rfl
theorem WD (l:List (List Int)) (b:Bool) (d c a:Int) (K0 K1:List AV) (es:List aP) (q:Nat) (e:((Xxp (γ .i64 (Xxb a ((2:Nat):Int))) ((2:Nat):Int))==((0:Nat):Int))=false) (g:LB 190 0 f11 (BJ (.sl (eY l) l.length b) (.agg [ω d,ω c,ω a]) (!((Xxp (γ .i64 (Xxb a ((2:Nat):Int))) ((2:Nat):Int))==((0:Nat):Int))) (!((Xxp (γ .i64 (Xxb a ((2:Nat):Int))) ((2:Nat):Int))==((0:Nat):Int))) [ω d,ω c,ω a] [.nilS,.ref 3 0 0 2,.nilS] [.nilS,.nilS]) (.normal) (I4 (.sl (eY l) l.length b) K0 K1)) (f:LB 190 4 f11 (I5 (.sl (eY l) l.length b) K0 K1) (.normal) ⟨[(4,.ptr 0 0 0),(5,.ptr 1 0 0)],[(0,⟨[.nilS,.nilS,.nilS],0,false,0,0,true⟩),(1,⟨[.nilS,.ref 2 0 0 2,.nilS],0,false,0,0,false⟩),(2,⟨[.ref 3 0 0 11,.ref 4 0 0 11],0,false,0,1,false⟩),(3,⟨K0,0,false,0,6,true⟩),(4,⟨K1,0,false,0,6,true⟩)],.dead,[]⟩):az prog ap 11 [.sl (eY l) l.length b,.agg [ω d,ω c,ω a]] [] (.ret (.agg [.nilS,.ref 1 0 0 2,.nilS])) [⟨[.nilS,.ref 1 0 0 2,.nilS],0,false,0,0,false⟩,⟨[.ref 2 0 0 11,.ref 3 0 0 11],0,false,0,1,false⟩,⟨K0,0,false,0,6,true⟩,⟨K1,0,false,0,6,true⟩]:=
 qh th 4 (F:=⟨f11,[0,1,3,4,5,6,7,8,9,10,11,12,13,15,16,25,36,40,111,120,171],true⟩) rfl rfl (λnt h=>(pN 11 [0,4] 1 1 (.k 10 (bu e) (.n 6 .nil)) (.l f (.l g .nil)) h:ag prog ap [] nt (am f11) (fI .dead [.sl (eY l) l.length b,.agg [ω d,ω c,ω a]] []) .ret ⟨[(4,.ptr 0 0 0)],[(0,⟨[.nilS,.ref 1 0 0 2,.nilS],0,false,0,0,false⟩),(1,⟨[.ref 2 0 0 11,.ref 3 0 0 11],0,false,0,1,false⟩),(2,⟨K0,0,false,0,6,true⟩),(3,⟨K1,0,false,0,6,true⟩)],.dead,[]⟩)) rfl (Xqo _) rfl
theorem WC (l:List (List Int)) (b:Bool) (d c a:Int) (K0 K1:List AV) (es:List aP) (q:Nat) (e:((Xxp (γ .i64 (Xxb a ((2:Nat):Int))) ((2:Nat):Int))==((0:Nat):Int))=false) (g:LB 190 0 f11 (BJ (.sl (eY l) l.length b) (.agg [ω d,ω c,ω a]) (!((Xxp (γ .i64 (Xxb a ((2:Nat):Int))) ((2:Nat):Int))==((0:Nat):Int))) (!((Xxp (γ .i64 (Xxb a ((2:Nat):Int))) ((2:Nat):Int))==((0:Nat):Int))) [ω d,ω c,ω a] [.nilS,.ref 3 0 0 2,.nilS] [.nilS,.nilS]) (.normal) (I4 (.sl (eY l) l.length b) K0 K1)) (f:LB 190 4 f11 (I5 (.sl (eY l) l.length b) K0 K1) (.normal) ⟨[(4,.ptr 0 0 0),(5,.ptr 1 0 0)],[(0,⟨[.nilS,.nilS,.nilS],0,false,0,0,true⟩),(1,⟨[.ref 2 0 0 q,.ref 3 0 0 2,.nilS],0,false,0,0,false⟩),(2,⟨(bq es),0,false,0,14,true⟩),(3,⟨[.ref 4 0 0 11,.ref 5 0 0 11],0,false,0,1,false⟩),(4,⟨K0,0,false,0,6,true⟩),(5,⟨K1,0,false,0,6,true⟩)],.dead,[]⟩):az prog ap 11 [.sl (eY l) l.length b,.agg [ω d,ω c,ω a]] [] (.ret (.agg [.ref 1 0 0 q,.ref 2 0 0 2,.nilS])) [⟨[.ref 1 0 0 q,.ref 2 0 0 2,.nilS],0,false,0,0,false⟩,⟨(bq es),0,false,0,14,true⟩,⟨[.ref 3 0 0 11,.ref 4 0 0 11],0,false,0,1,false⟩,⟨K0,0,false,0,6,true⟩,⟨K1,0,false,0,6,true⟩]:=
 qh th 5 (F:=⟨f11,[0,1,3,4,5,6,7,8,9,10,11,12,13,15,16,25,36,40,111,120,171],true⟩) rfl rfl (λnt h=>(pN 11 [0,4] 1 1 (.k 10 (bu e) (.n 6 .nil)) (.l f (.l g .nil)) h:ag prog ap [] nt (am f11) (fI .dead [.sl (eY l) l.length b,.agg [ω d,ω c,ω a]] []) .ret ⟨[(4,.ptr 0 0 0)],[(0,⟨[.ref 1 0 0 q,.ref 2 0 0 2,.nilS],0,false,0,0,false⟩),(1,⟨(bq es),0,false,0,14,true⟩),(2,⟨[.ref 3 0 0 11,.ref 4 0 0 11],0,false,0,1,false⟩),(3,⟨K0,0,false,0,6,true⟩),(4,⟨K1,0,false,0,6,true⟩)],.dead,[]⟩)) rfl (Xqo _) rfl
theorem Rg:∀ L:List Lk,(bP L).length=L.length*6:=kH (f:=Wq) (λ_=>rfl)
theorem TU (l:List (List Int)) (f:Bool) (b d a:Int) (K0 K1:List AV) (m0 i e:Nat) (y:Rw) (v:m0<40) (r:i<40) (s:e<2) (p:CO 35 [ω b,ω ((40:Nat):Int)] (.ret (ω (m0:Int)))) (w:CO 35 [ω d,ω ((40:Nat):Int)] (.ret (ω (i:Int)))) (t:CO 35 [ω a,ω ((2:Nat):Int)] (.ret (ω (e:Int)))) (cy:CO 36 [.agg [ω d,ω b,ω ((3:Nat):Int)]] (.ret (.agg y.c))) (k:CO 34 [ω ((0:Nat):Int)] (.ret (.str (aV 0)))) (j:CO 34 [ω ((1:Nat):Int)] (.ret (.str (aV 1)))) (m:CO 34 [ω ((2:Nat):Int)] (.ret (.str (aV 2)))) (g:CO 34 [ω ((3:Nat):Int)] (.ret (.str (aV 3)))) (o:[ω 6,.str (aV 0),.bool false,.str (ae 0),.str (ae 1),ω 0,ω 8,.str (aV 0),.bool false,.str (ae 0),.str (ae 1),ω 0,ω 6,.str (aV 1),.bool false,.str (ae 1),.str (ae 1),ω 0,ω 8,.str (aV 1),.bool false,.str (ae 2),.str (ae 1),ω 0,ω 6,.str (aV 2),.bool false,.str (ae 2),.str (ae 1),ω 0,ω 8,.str (aV 2),.bool false,.str (ae 4),.str (ae 1),ω 0,ω 6,.str (aV 3),.bool false,.str (ae 3),.str (ae 1),ω 0,ω 8,.str (aV 3),.bool false,.str (ae 6),.str (ae 1),ω 0,ω 5,.str [120],.bool false,.str (ae m0),.str (ae 1),ω 0,ω 5,.str [121],.bool y.n,.str y.a,.str y.d,ω 0,ω 5,.str [99],.bool false,.str (ae e),.str (ae 1),ω 0]=K0):LB 190 0 f11 (BJ (.sl (eY l) l.length f) (.agg [ω b,ω d,ω a]) (!((Xxp (γ .i64 (Xxb a ((2:Nat):Int))) ((2:Nat):Int))==((0:Nat):Int))) (!((Xxp (γ .i64 (Xxb a ((2:Nat):Int))) ((2:Nat):Int))==((0:Nat):Int))) [ω b,ω d,ω a] [.nilS,.ref 3 0 0 1,.nilS] [.nilS]) (.normal) (I2 (.sl (eY l) l.length f) K0):=by
 intro nt u;have h:ag prog ap [] nt (.block 0 (.loop (af 0 (am f11)))) (Uz (.sl (eY l) l.length f) (.agg [ω b,ω d,ω a]) (!((Xxp (γ .i64 (Xxb a ((2:Nat):Int))) ((2:Nat):Int))==((0:Nat):Int))) (!((Xxp (γ .i64 (Xxb a ((2:Nat):Int))) ((2:Nat):Int))==((0:Nat):Int))) [ω b,ω d,ω a] [.nilS,.ref 3 0 0 1,.nilS] [.nilS]) .normal (I2 (.sl (eY l) l.length f) [ω 6,.str (aV 0),.bool false,.str (ae 0),.str (ae 1),ω 0,ω 8,.str (aV 0),.bool false,.str (ae 0),.str (ae 1),ω 0,ω 6,.str (aV 1),.bool false,.str (ae 1),.str (ae 1),ω 0,ω 8,.str (aV 1),.bool false,.str (ae 2),.str (ae 1),ω 0,ω 6,.str (aV 2),.bool false,.str (ae 2),.str (ae 1),ω 0,ω 8,.str (aV 2),.bool false,.str (ae 4),.str (ae 1),ω 0,ω 6,.str (aV 3),.bool false,.str (ae 3),.str (ae 1),ω 0,ω 8,.str (aV 3),.bool false,.str (ae 6),.str (ae 1),ω 0,ω 5,.str [120],.bool false,.str (ae m0),.str (ae 1),ω 0,ω 5,.str [121],.bool y.n,.str y.a,.str y.d,ω 0,ω 5,.str [99],.bool false,.str (ae e),.str (ae 1),ω 0]):=pN 11 [] 8 59 (.n 84 .nil) (.c (bp e) (.c t (.c cy (.c (bp m0) (.c p (.c (bp 6) (.c g (.c (bp 3) (.c g (.c (bp 4) (.c m (.c (bp 2) (.c m (.c (bp 2) (.c j (.c (bp 1) (.c j (.c (bp 0) (.c k (.c (bp 0) (.c k .nil))))))))))))))))))))) u;subst o;refine ag.unplain h (wo 3 _ rfl rfl λc q=> ?_) rfl rfl rfl
 match c with
 |0=>rfl
 |1=>rfl
 |2=>rfl
 |3=>exact absurd rfl q
 |n+4=>rfl
theorem TV (l:List (List Int)) (m:Bool) (d e a:Int) (K0 K1:List AV) (m0 f b:Nat) (y:Rw) (x:m0<40) (u:f<40) (v:b<2) (q:CO 35 [ω d,ω ((40:Nat):Int)] (.ret (ω (m0:Int)))) (t:CO 35 [ω e,ω ((40:Nat):Int)] (.ret (ω (f:Int)))) (o:CO 35 [ω a,ω ((2:Nat):Int)] (.ret (ω (b:Int)))) (cy:CO 36 [.agg [ω e,ω d,ω ((3:Nat):Int)]] (.ret (.agg y.c))) (j:CO 34 [ω ((0:Nat):Int)] (.ret (.str (aV 0)))) (i:CO 34 [ω ((1:Nat):Int)] (.ret (.str (aV 1)))) (k:CO 34 [ω ((2:Nat):Int)] (.ret (.str (aV 2)))) (g:CO 34 [ω ((3:Nat):Int)] (.ret (.str (aV 3)))) (p:[ω 6,.str (aV 0),.bool false,.str (ae 0),.str (ae 1),ω 0,ω 8,.str (aV 0),.bool false,.str (ae 0),.str (ae 1),ω 0,ω 6,.str (aV 1),.bool false,.str (ae 1),.str (ae 1),ω 0,ω 8,.str (aV 1),.bool false,.str (ae 2),.str (ae 1),ω 0,ω 6,.str (aV 2),.bool false,.str (ae 2),.str (ae 1),ω 0,ω 8,.str (aV 2),.bool false,.str (ae 4),.str (ae 1),ω 0,ω 6,.str (aV 3),.bool false,.str (ae 3),.str (ae 1),ω 0,ω 8,.str (aV 3),.bool false,.str (ae 6),.str (ae 1),ω 0,ω 5,.str [120],.bool false,.str (ae m0),.str (ae 1),ω 0,ω 5,.str [121],.bool y.n,.str y.a,.str y.d,ω 0,ω 5,.str [99],.bool false,.str (ae b),.str (ae 1),ω 0]=K0) (s:[ω 6,.str (aV 0),.bool false,.str (ae 0),.str (ae 1),ω 0,ω 8,.str (aV 0),.bool false,.str (ae 0),.str (ae 1),ω 0,ω 6,.str (aV 1),.bool false,.str (ae 1),.str (ae 1),ω 0,ω 8,.str (aV 1),.bool false,.str (ae 2),.str (ae 1),ω 0,ω 6,.str (aV 2),.bool false,.str (ae 2),.str (ae 1),ω 0,ω 8,.str (aV 2),.bool false,.str (ae 4),.str (ae 1),ω 0,ω 6,.str (aV 3),.bool false,.str (ae 3),.str (ae 1),ω 0,ω 8,.str (aV 3),.bool false,.str (ae 6),.str (ae 1),ω 0,ω 5,.str [120],.bool false,.str (ae f),.str (ae 1),ω 0,ω 5,.str [121],.bool y.n,.str y.a,.str y.d,ω 0,ω 5,.str [99],.bool false,.str (ae b),.str (ae 1),ω 0]=K1):LB 190 0 f11 (BJ (.sl (eY l) l.length m) (.agg [ω d,ω e,ω a]) (!((Xxp (γ .i64 (Xxb a ((2:Nat):Int))) ((2:Nat):Int))==((0:Nat):Int))) (!((Xxp (γ .i64 (Xxb a ((2:Nat):Int))) ((2:Nat):Int))==((0:Nat):Int))) [ω d,ω e,ω a] [.nilS,.ref 3 0 0 2,.nilS] [.nilS,.nilS]) (.normal) (I4 (.sl (eY l) l.length m) K0 K1):=by
 intro nt w;have h:ag prog ap [] nt (.block 0 (.loop (af 0 (am f11)))) (Uz (.sl (eY l) l.length m) (.agg [ω d,ω e,ω a]) (!((Xxp (γ .i64 (Xxb a ((2:Nat):Int))) ((2:Nat):Int))==((0:Nat):Int))) (!((Xxp (γ .i64 (Xxb a ((2:Nat):Int))) ((2:Nat):Int))==((0:Nat):Int))) [ω d,ω e,ω a] [.nilS,.ref 3 0 0 2,.nilS] [.nilS,.nilS]) .normal (I4 (.sl (eY l) l.length m) [ω 6,.str (aV 0),.bool false,.str (ae 0),.str (ae 1),ω 0,ω 8,.str (aV 0),.bool false,.str (ae 0),.str (ae 1),ω 0,ω 6,.str (aV 1),.bool false,.str (ae 1),.str (ae 1),ω 0,ω 8,.str (aV 1),.bool false,.str (ae 2),.str (ae 1),ω 0,ω 6,.str (aV 2),.bool false,.str (ae 2),.str (ae 1),ω 0,ω 8,.str (aV 2),.bool false,.str (ae 4),.str (ae 1),ω 0,ω 6,.str (aV 3),.bool false,.str (ae 3),.str (ae 1),ω 0,ω 8,.str (aV 3),.bool false,.str (ae 6),.str (ae 1),ω 0,ω 5,.str [120],.bool false,.str (ae m0),.str (ae 1),ω 0,ω 5,.str [121],.bool y.n,.str y.a,.str y.d,ω 0,ω 5,.str [99],.bool false,.str (ae b),.str (ae 1),ω 0] [ω 6,.str (aV 0),.bool false,.str (ae 0),.str (ae 1),ω 0,ω 8,.str (aV 0),.bool false,.str (ae 0),.str (ae 1),ω 0,ω 6,.str (aV 1),.bool false,.str (ae 1),.str (ae 1),ω 0,ω 8,.str (aV 1),.bool false,.str (ae 2),.str (ae 1),ω 0,ω 6,.str (aV 2),.bool false,.str (ae 2),.str (ae 1),ω 0,ω 8,.str (aV 2),.bool false,.str (ae 4),.str (ae 1),ω 0,ω 6,.str (aV 3),.bool false,.str (ae 3),.str (ae 1),ω 0,ω 8,.str (aV 3),.bool false,.str (ae 6),.str (ae 1),ω 0,ω 5,.str [120],.bool false,.str (ae f),.str (ae 1),ω 0,ω 5,.str [121],.bool y.n,.str y.a,.str y.d,ω 0,ω 5,.str [99],.bool false,.str (ae b),.str (ae 1),ω 0]):=pN 11 [] 15 7611 (.n 166 .nil) (.c (bp b) (.c o (.c cy (.c (bp f) (.c t (.c (bp 6) (.c g (.c (bp 3) (.c g (.c (bp 4) (.c k (.c (bp 2) (.c k (.c (bp 2) (.c i (.c (bp 1) (.c i (.c (bp 0) (.c j (.c (bp 0) (.c j (.c (bp b) (.c o (.c cy (.c (bp m0) (.c q (.c (bp 6) (.c g (.c (bp 3) (.c g (.c (bp 4) (.c k (.c (bp 2) (.c k (.c (bp 2) (.c i (.c (bp 1) (.c i (.c (bp 0) (.c j (.c (bp 0) (.c j .nil)))))))))))))))))))))))))))))))))))))))))) w;subst p s;refine ag.unplain h (wo 3 _ rfl rfl λc r=> ?_) rfl rfl rfl
 match c with
 |0=>rfl
 |1=>rfl
 |2=>rfl
 |3=>exact absurd rfl r
 |n+4=>rfl
def bT (m0 m2:Nat) (y:Rw):List Lk:= [⟨6,(aV 0),false,(ae 0),(ae 1),0⟩,⟨8,(aV 0),false,(ae 0),(ae 1),0⟩,⟨6,(aV 1),false,(ae 1),(ae 1),0⟩,⟨8,(aV 1),false,(ae 2),(ae 1),0⟩,⟨6,(aV 2),false,(ae 2),(ae 1),0⟩,⟨8,(aV 2),false,(ae 4),(ae 1),0⟩,⟨6,(aV 3),false,(ae 3),(ae 1),0⟩,⟨8,(aV 3),false,(ae 6),(ae 1),0⟩,⟨5,[120],false,(ae m0),(ae 1),0⟩,⟨5,[121],y.n,y.a,y.d,0⟩,⟨5,[99],false,(ae m2),(ae 1),0⟩]
def eF (m1 m2:Nat) (y:Rw):List Lk:= [⟨6,(aV 0),false,(ae 0),(ae 1),0⟩,⟨8,(aV 0),false,(ae 0),(ae 1),0⟩,⟨6,(aV 1),false,(ae 1),(ae 1),0⟩,⟨8,(aV 1),false,(ae 2),(ae 1),0⟩,⟨6,(aV 2),false,(ae 2),(ae 1),0⟩,⟨8,(aV 2),false,(ae 4),(ae 1),0⟩,⟨6,(aV 3),false,(ae 3),(ae 1),0⟩,⟨8,(aV 3),false,(ae 6),(ae 1),0⟩,⟨5,[120],false,(ae m1),(ae 1),0⟩,⟨5,[121],y.n,y.a,y.d,0⟩,⟨5,[99],false,(ae m2),(ae 1),0⟩]
theorem lL {n:Nat} (h:n<2^20:=by omega):(ae n).length<2^36:=φ (bN (k:=5) (υ h (by decide))) (by decide)
theorem Nv (q0 b:Int):∃ y:Rw,y.a.length<2^36/\y.d.length<2^36/\CO 36 [.agg [ω q0,ω b,ω ((3:Nat):Int)]] (.ret (.agg y.c)):=by
 have h:=Nu q0 b ((3:Nat):Int) (by decide);have c:eG q0 7<2^128/\1+eG b 7<2^128:=by
  have h7:=cW (a:=q0) (n:=7);have d:=cW (a:=b) (n:=7);omega
 refine ⟨⟨_,ae _,ae _⟩, ?_, ?_,h⟩
 .exact υ (vg (φ (Xxo _ _) c.1)) (by decide)
 .exact υ (vg (φ (Xxo _ _) c.2)) (by decide)
theorem Ro {m0 c:Nat} {y:Rw} (h0:m0<40) (e:c<2) (b:y.a.length<2^36) (a:y.d.length<2^36):∀ x ∈ bT m0 c y,x.a.length<2^36/\x.d.length<2^36:=by
 intro x d;simp only [bT,Xza,Xwd,or_false] at d;rcases d with rfl|rfl|rfl|rfl|rfl|rfl|rfl|rfl|rfl|rfl|rfl<;>first|exact ⟨b,a⟩|exact ⟨lL,lL⟩
theorem Rp {d c:Nat} {y:Rw} (h0:d<40) (f:c<2) (b:y.a.length<2^36) (a:y.d.length<2^36):∀ x ∈ eF d c y,x.a.length<2^36/\x.d.length<2^36:=by
 intro x e;simp only [eF,Xza,Xwd,or_false] at e;rcases e with rfl|rfl|rfl|rfl|rfl|rfl|rfl|rfl|rfl|rfl|rfl<;>first|exact ⟨b,a⟩|exact ⟨lL,lL⟩
def gmA (es:List aP) (ns:Nat):AV:=match es with| []=> .agg [.nilS,.ref 1 0 0 ns,.nilS]|a::r=> .agg [.ref 1 0 0 (a::r).length,.ref 2 0 0 ns,.nilS]
def gmT (b ns:Nat) (K0 K1:List AV):List aM:=match ns with|1=> [⟨[.ref (b+1) 0 0 11],0,false,0,1,false⟩,⟨K0,0,false,0,6,true⟩]|_=> [⟨[.ref (b+1) 0 0 11,.ref (b+2) 0 0 11],0,false,0,1,false⟩,⟨K0,0,false,0,6,true⟩,⟨K1,0,false,0,6,true⟩]
def gmB (es:List aP) (ns:Nat) (K0 K1:List AV):List aM:=match es with| []=> ⟨[.nilS,.ref 1 0 0 ns,.nilS],0,false,0,0,false⟩::gmT 1 ns K0 K1|a::r=> ⟨[.ref 1 0 0 (a::r).length,.ref 2 0 0 ns,.nilS],0,false,0,0,false⟩::⟨bq (a::r),0,false,0,14,true⟩::gmT 2 ns K0 K1
theorem Kg (l:List (List Int)) (d:Bool) (f i g:Int):∃ (es:List aP) (m0 m1 m2:Nat) (y:Rw) (ns:Nat),m0<40/\m1<40/\m2<2/\y.a.length<2^36/\y.d.length<2^36/\es.length<=4/\(∀ x ∈ es,x.sm/\mF x)/\(ns=1\/ns=2)/\az prog ap 11 [.sl (eY l) l.length d,.agg [.int .i64 f,.int .i64 i,.int .i64 g]] [] (.ret (gmA es ns)) (gmB es ns (bP (bT m0 m2 y)) (match ns with|1=> []|_=>bP (eF m1 m2 y))):=by
 have e:=cW (a:=f) (n:=40);have b:=cW (a:=i) (n:=40);have c:=cW (a:=g) (n:=2);have p:=fW f 40;have t:=fW i 40;have o:=fW g 2;generalize eG f 40=m0 at e p;generalize eG i 40=m1 at b t;generalize eG g 2=m2 at c o;obtain ⟨y,u,s,cy⟩:=Nv i f;have w:CO 34 [ω ((0:Nat):Int)] (.ret (.str (aV 0))):=fD 0;have z:CO 34 [ω ((1:Nat):Int)] (.ret (.str (aV 1))):=fD 1;have A:CO 34 [ω ((2:Nat):Int)] (.ret (.str (aV 2))):=fD 2;have v:CO 34 [ω ((3:Nat):Int)] (.ret (.str (aV 3))):=fD 3;cases B:((Xxp (γ .i64 (Xxb g ((2:Nat):Int))) ((2:Nat):Int))==((0:Nat):Int)) with
 | true=>
  obtain ⟨es,j,m,q⟩:=Ib l d (bP (bT m0 m2 y)) [] 1 (.inl rfl) (min l.length 4) 0 [] (by omega) rfl (by simp);refine ⟨es,m0,m1,m2,y,1,e,b,c,u,s,by omega,m,.inl rfl, ?_⟩;cases es with
  |nil=>
   have k:LB 190 4 f11 (I3 (.sl (eY l) l.length d) (bP (bT m0 m2 y))) (.normal) (Ev (bP (bT m0 m2 y)) [] 1 (min l.length 4,[])):=aB.blk (id:=4) (e':= .normal) q (by simp) rfl (aD.of ⟨rfl,rfl,rfl,rfl,trivial⟩) (aD.refl _);have h:=WB l d f i g (bP (bT m0 m2 y)) [] [] 0 B (TU l d f i g (bP (bT m0 m2 y)) [] m0 m1 m2 y e b c p t o cy w z A v (by kernel_rfl)) k;exact h
  |cons a r=>
   have k:LB 190 4 f11 (I3 (.sl (eY l) l.length d) (bP (bT m0 m2 y))) (.normal) (Ev (bP (bT m0 m2 y)) [] 1 (min l.length 4,(a::r))):=aB.blk (id:=4) (e':= .normal) q (by simp) rfl (aD.of ⟨rfl,rfl,rfl,rfl,trivial⟩) (aD.refl _);have h:=WA l d f i g (bP (bT m0 m2 y)) [] (a::r) (min l.length 4) B (TU l d f i g (bP (bT m0 m2 y)) [] m0 m1 m2 y e b c p t o cy w z A v (by kernel_rfl)) k;rw [<- j] at h;exact h
 | false=>
  obtain ⟨es,j,m,q⟩:=Ib l d (bP (bT m0 m2 y)) (bP (eF m1 m2 y)) 2 (.inr rfl) (min l.length 4) 0 [] (by omega) rfl (by simp);refine ⟨es,m0,m1,m2,y,2,e,b,c,u,s,by omega,m,.inr rfl, ?_⟩;cases es with
  |nil=>
   have k:LB 190 4 f11 (I5 (.sl (eY l) l.length d) (bP (bT m0 m2 y)) (bP (eF m1 m2 y))) (.normal) (Ev (bP (bT m0 m2 y)) (bP (eF m1 m2 y)) 2 (min l.length 4,[])):=aB.blk (id:=4) (e':= .normal) q (by simp) rfl (aD.of ⟨rfl,rfl,rfl,rfl,trivial⟩) (aD.refl _);have h:=WD l d f i g (bP (bT m0 m2 y)) (bP (eF m1 m2 y)) [] 0 B (TV l d f i g (bP (bT m0 m2 y)) (bP (eF m1 m2 y)) m0 m1 m2 y e b c p t o cy w z A v (by kernel_rfl) (by kernel_rfl)) k;exact h
  |cons a r=>
   have k:LB 190 4 f11 (I5 (.sl (eY l) l.length d) (bP (bT m0 m2 y)) (bP (eF m1 m2 y))) (.normal) (Ev (bP (bT m0 m2 y)) (bP (eF m1 m2 y)) 2 (min l.length 4,(a::r))):=aB.blk (id:=4) (e':= .normal) q (by simp) rfl (aD.of ⟨rfl,rfl,rfl,rfl,trivial⟩) (aD.refl _);have h:=WC l d f i g (bP (bT m0 m2 y)) (bP (eF m1 m2 y)) (a::r) (min l.length 4) B (TV l d f i g (bP (bT m0 m2 y)) (bP (eF m1 m2 y)) m0 m1 m2 y e b c p t o cy w z A v (by kernel_rfl) (by kernel_rfl)) k;rw [<- j] at h;exact h
theorem Tm {es:List aP}:∀ y ∈ Ae es,y.sm:=by
 intro y a;rw [uk] at a;rw [(List.mem_replicate.1 a).2];exact ⟨by decide,by decide⟩
end Go.Proofs.Tryz
open Go AM Go.RowKit Go.Shelf
namespace Go.Proofs.Tryz
attribute [local go_sem] Oper.semAt_some
theorem IC {w:World} {tmps:Array Value} {k:Nat} {b:Int} (e:tmps.getD 6 undef= .pointer (some ⟨k,0,none⟩)) (d:w.cell? ⟨k,0,none⟩=some (.int .i64 b)):(results f19 tmps).run prog w= .ok (.int .i64 b) w:=by
 refine fP (vs:= [.int .i64 b]) rfl ?_;intro i r v c a
 match i with
 | 0=>
  simp only [Xxf,Option.some.injEq] at a;subst a;have:r= .cell 6 48:=by
   have h0:f19.results.toList[0]? =some (.cell 6 48):=rfl;rw [h0] at c;exact (Option.some.inj c).symm
  subst this;have f:prog.underlying 48=some (.int .i64):=by kernel_rfl
  simp only [rq,e];simp [asAddr,loadVar,f,d,go_sem]
 |n+1=>simp at a
theorem LL {w W0:World} {a b c:Array Value} {ta tb tc:TypeId} (h:((w.alloc (.cells a ta)).alloc (.cells b tb)).alloc (.cells c tc)=W0):
  Below w.heap.size w W0/\W0.heap.size=w.heap.size+3/\W0.heap[w.heap.size]? =some (.cells a ta)/\W0.heap[w.heap.size+1]? =some (.cells b tb)/\W0.heap[w.heap.size+1+1]? =some (.cells c tc):=by
 subst h;refine ⟨(((Below.refl _ w).alloc (κ _) _).alloc (by simp) _).alloc (by simp;omega) _,by simp, ?_, ?_, ?_⟩
 .rw [Below.heap_alloc _ _ _ (by simp;omega),Below.heap_alloc _ _ _ (by simp),World.alloc_heap_new]
 .rw [Below.heap_alloc _ _ _ (by simp)];have:=World.alloc_heap_new (w.alloc (.cells a ta)) (.cells b tb);rwa [World.size_alloc] at this
 .have:=World.alloc_heap_new ((w.alloc (.cells a ta)).alloc (.cells b tb)) (.cells c tc);rwa [World.size_alloc,World.size_alloc] at this
theorem LQ {S:aH} {c:List (List Rw)} {g:Bool} {u:Value} (h:PR S (.sl (lV c) c.length g) u):∃ ao cap b o,u= .slice ao c.length cap/\c.length<=cap/\(0<c.length->ao=some ⟨b,o,none⟩)/\∀ i (d:i<c.length),∃ x,S b (o+i)=some x/\PR S (dh c[i]) x:=by
 simp only [PR] at h;obtain ⟨a,cap,rfl,e,h⟩:=h;rcases h with ⟨_,_,h,_⟩|⟨b,o,vs,rfl,f,k⟩
 .exact ⟨a,cap,0,0,rfl,e,λl=>absurd h (by omega),λi d=>absurd h (by omega)⟩
 .refine ⟨_,cap,b,o,rfl,e,λ_=>rfl,λi d=> ?_⟩;rw [wP] at f;obtain ⟨x,j,hp⟩:=BU f i (x:=dh c[i]) (by rw [Xqx,ν d];rfl);exact ⟨x,(k i x j).1,hp⟩
theorem FW {S:aH} {c:List (List Rw)} {cap b o k:Nat} (r:k<=c.length) (i:0<c.length) (m:c.length<=cap) (h:PR S (.sl (lV c) c.length false) (.slice (some ⟨b,o,none⟩) c.length cap)):PR S (.sl (lV (c.drop k)) (c.drop k).length false) (.slice (some ⟨b,o+k,none⟩) (c.length - k) (cap - k)):=by
 simp only [PR] at h ⊢;obtain ⟨a,g,e,_,h⟩:=h;cases e;rcases h with ⟨_,_,h,_⟩|⟨p,q,vs,e,f,l⟩
 .omega
 .cases e;refine ⟨_,_,by rw [Xx3],by rw [Xx3];omega,.inr ⟨b,o+k,vs.drop k,rfl, ?_, ?_⟩⟩
  .rw [wP,Xjy];rw [wP] at f;exact ky k f
  .intro j u d;rw [List.getElem?_drop] at d;rw [Nat.add_assoc];exact l _ u d
structure AcI (B:Bx) (W3:World) (ch:List (List Rw)) (pre:List El) (W:World):Prop where
 keep:bV B W3 W
 low:∀ k,k<B.c->W.heap[k]? =W3.heap[k]?
 box:W.cell? ⟨B.c,0,none⟩=some (.int .i64 (pre.length:Int))/\W.frozen? ⟨B.c,0,none⟩=false
 els:(∀ x ∈ pre,x.e=0)/\pre.map El.v<+:ch
theorem AcI.own {B:Bx} {W3:World} {g:List (List Rw)} (f:B.c<W3.heap.size):oI W3.heap.size (AcI B W3 g):=by
 rintro pre A A' row ⟨h1,h2,⟨h3,h4⟩,h6⟩ hg hr
 have c:∀ r,row=some r->∃ o:Obj,A.heap[r]? =some o/\o.isCells=false:=λr e=>by obtain ⟨_,o,a,b,_⟩:=hr r e;exact ⟨o,a,b⟩
 have h:bV B A A':=bV.grown (υ f h1.size) hg (λr e=> ⟨by have:=(hr r e).1;omega,(hr r e).2⟩);refine ⟨h1.trans h,λk d=>(hg.block k (by have:=h1.size;omega) ?_).trans (h2 k d),⟨cell_kept h3 hg c,(frozen_kept h3 hg c).trans h4⟩,h6⟩;intro e;have:=(hr k e.symm).1;omega
def X9 (w W3:World) (ch:List (List Rw)) (c:Code) (pre:List El) (W:World):Prop:=c= .ret/\(∃ p x,pre=p++ [x]/\(x.e ≠ 0\/¬ pre.map El.v<+:ch)/\W.cell? ⟨w.heap.size+1+1,0,none⟩=some (.int .i64 26))/\Below w.heap.size w W
theorem X9.own {w W3:World} {f:List (List Rw)} (g:w.heap.size<=W3.heap.size) (c:Code):oI W3.heap.size (X9 w W3 f c):=by
 rintro pre A A' row ⟨h1,⟨p,x,h2,h3,h4⟩,h7⟩ hg hr
 have d:∀ r,row=some r->∃ o:Obj,A.heap[r]? =some o/\o.isCells=false:=λr e=>by obtain ⟨_,o,a,b,_⟩:=hr r e;exact ⟨o,a,b⟩
 exact ⟨h1,⟨p,x,h2,h3,cell_kept h4 hg d⟩,h7.grown hg h7.size λk e=>by have:=(hr k e).1;omega⟩
def Lo (L:List (List Rw × Int)) (ch:List (List Rw)) (v:List Rw) (S:aH) (w:World) (e:Ending) (w':World):Prop:=
 ∃ x:Int,e= .returned (.int .i64 x)/\kw S w S w'/\(x=0\/x=26)/\(x=0↔(∀ p ∈ L,p.2=0)/\ch=L.map (·.1)/\ch.getLast? =some v)
theorem FX {c a:List (List Rw)} {v:List Rw} (h:c<+:a) (b:c ≠ []):a.drop (c.length - 1)= [v]↔a=c/\a.getLast? =some v:=by
 obtain ⟨r,rfl⟩:=h;obtain ⟨q,y,rfl⟩:∃ q y,c=q++ [y]:=⟨c.dropLast,c.getLast b,(List.dropLast_concat_getLast b).symm⟩
 have e:(q++ [y]++r).drop ((q++ [y]).length - 1)=y::r:=by simp
 rw [e];constructor
 .intro h;simp only [List.cons.injEq] at h;obtain ⟨rfl,rfl⟩:=h;simp
 .rintro ⟨h1,h2⟩
  have:r= []:=by simpa using h1
  subst this;simp at h2;rw [h2]
attribute [local go_sem] Oper.semAt_some
set_option maxRecDepth 100000 in
set_option maxHeartbeats 1000000 in
theorem Jq (es:List aP) (ss:List (List Lk)) (ne ns:Bool) (ck:Int) (h0:ck ≠ 0) (hck:CO 33 [fR es ss ne ns] (.ret (.int .i64 ck)))
  (S:aH) (w:World) (v0 v1 v2 uv:Value) (ac:Option Addr) (lc cc:Nat) (hS:eO S (aR w)) (hg:cG ap S) (hv:PR S (fR es ss ne ns) (.agg #[v0,v1,v2])) (n:Nat) (hn:4<=n):
  CallsIn Fence.wide n prog 19 #[.agg #[v0,v1,v2],uv,.slice ac lc cc] w λe w'=>e= .returned (.int .i64 ck)/\kw S w S w':=by
 have hf33:Fence.wide.fn 33:=trivial;have hx:decide (ck=0)=false:=Yq1 h0;have h1n:1<=n:=by omega
 obtain ⟨W0,hW0⟩:∃ W0,((w.alloc (.cells #[v0,v1,v2] 37)).alloc (.cells #[.slice ac lc cc] 47)).alloc (.cells #[.int .i64 0] 48)=W0:=⟨_,rfl⟩
 obtain ⟨hb0,hz0,a1,a2,a3⟩:=LL hW0;have hS0:eO S (aR W0):=λk o v h=>dl hb0 k o v (hS k o v h)
 have e0:W0.cell? ⟨w.heap.size,0,none⟩=some v0:=(aT a1 0).1;have e1:W0.cell? ⟨w.heap.size,1,none⟩=some v1:=(aT a1 1).1;have e2:W0.cell? ⟨w.heap.size,2,none⟩=some v2:=(aT a1 2).1;refine callsIn_of_wp_marks Tryz.func19 rfl trivial ?_ rfl;simp only [Tryz.ntmps19,Xxg,ο,Ξ,Xj8,Xj9,Array.replicate_succ,Array.replicate_zero,Xx9,Xxz,Xqb,Xqu]
 gi_wp2_with (first|(gi_at_call 33;refine (DS hck rfl (S:=S) (W:=W0) hS0 hg (by simp only [bw];exact ⟨hv,trivial⟩)).mono ?_;rintro e W1 ⟨S1,cv,rfl,hr1,ha1⟩;simp only [fF,PR] at hr1;subst hr1;have b3:=aT ((ha1.bel.block (w.heap.size+1+1) (by omega)).trans a3) 0;have c3:=b3.1;have d3:=b3.2;clear b3;simp only [Xzh,Xxf] at c3)|gi_in)
 exact ⟨_,IC rfl (World.cell?_setCell_same' _ _ _ (by rw [c3];rfl)),rfl,kB hS ((hb0.trans (ha1.bel.mono (by omega))).setCell (p:=⟨w.heap.size+1+1,0,none⟩) (by show w.heap.size<=w.heap.size+1+1;omega) _)⟩
theorem bV.setc {B:Bx} {W:World} {i j:Int} (h:W.cell? ⟨B.c,0,none⟩=some (.int .i64 i)):bV B W (W.setCell ⟨B.c,0,none⟩ (.int .i64 j)):=by
 have a:(W.setCell ⟨B.c,0,none⟩ (.int .i64 j)).cell? ⟨B.c,0,none⟩=some (.int .i64 j):=World.cell?_setCell_same' _ _ _ (by rw [h];rfl);have m:(W.setCell ⟨B.c,0,none⟩ (.int .i64 j)).heap.size=W.heap.size:=by simp [World.setCell]
 refine ⟨rfl,rfl,rfl,by omega,λk o v e=> ?_,λ_ k f=> ?_⟩
 .obtain ⟨b,l,g,d⟩:=bF.1 e;refine bF.2 ⟨b,λc=> ?_,by rw [eR (Below.heap_setCell _ _ _ _ b)];exact g,d⟩;have:=(jW a).1 c;cases this
 .have:=(jW a).1 f;cases this
theorem Ve {w W0 W1:World} {x y z:Value} (d:Below W0.heap.size W0 W1) (e:W0.heap.size=w.heap.size+3) (h:W0.heap[w.heap.size]? =some (.cells #[x,y,z] 37)):
  ∃ W2,(W1.alloc (.cells #[.int .i64 0] 3)).setCell ⟨W1.heap.size,0,none⟩ (.int .i64 0)=W2/\Below W1.heap.size W1 W2/\W2.cell? ⟨w.heap.size,0,none⟩=some x/\W2.cell? ⟨w.heap.size,1,none⟩=some y/\W2.cell? ⟨w.heap.size,2,none⟩=some z/\W2.cell? ⟨W1.heap.size,0,none⟩=some (.int .i64 0)/\W2.frozen? ⟨W1.heap.size,0,none⟩=false/\W2.heap.size=W1.heap.size+1:=by
 have a:Below W1.heap.size W1 ((W1.alloc (.cells #[.int .i64 0] 3)).setCell ⟨W1.heap.size,0,none⟩ (.int .i64 0)):=((Below.refl _ W1).alloc (κ _) _).setCell (p:=⟨W1.heap.size,0,none⟩) (κ _) _;have b:=(a.block w.heap.size (by have:=d.size;omega)).trans ((d.block w.heap.size (by omega)).trans h);have c:=aT (World.alloc_heap_new W1 (.cells #[.int .i64 0] 3)) 0;exact ⟨_,rfl,a,(aT b 0).1,(aT b 1).1,(aT b 2).1,World.cell?_setCell_same' _ _ _ (by rw [c.1];rfl),by simp [c.2],by simp [World.setCell]⟩
theorem LF {S:aH} {w W0 W1 W2 W3:World} {f:Value} {m:Int} (B:f.oneCell'=true) (p:eO S (aR w)) (i:Below w.heap.size w W0) (q:Below W0.heap.size W0 W1) (u:W0.heap.size=w.heap.size+3) (s:Below W1.heap.size W1 W2) (E:W2.heap.size=W1.heap.size+1) (t:W2.cell? ⟨W1.heap.size,0,none⟩=some (.int .i64 0)) (D:W2.frozen? ⟨W1.heap.size,0,none⟩=false) (d:(W2.alloc (.cells #[.int .i64 m] 3)).alloc (.cells #[f] 144)=W3) (C:w.heap.size<=W1.heap.size):
  W3.heap.size=W1.heap.size+3/\Below W1.heap.size W1 W3/\W3.cell? ⟨W1.heap.size,0,none⟩=some (.int .i64 0)/\W3.frozen? ⟨W1.heap.size,0,none⟩=false/\(∀ k,¬ dD W3 ⟨S,W1.heap.size,W1.heap.size,κ _⟩ k)/\eO S (still ⟨S,W1.heap.size,W1.heap.size,κ _⟩ W3)/\still ⟨S,W1.heap.size,W1.heap.size,κ _⟩ W3 W2.heap.size 0=some (.int .i64 m)/\still ⟨S,W1.heap.size,W1.heap.size,κ _⟩ W3 (W2.heap.size+1) 0=some f:=by
 have A:W3.heap.size=W1.heap.size+3:=by rw [<- d];simp;omega
 have b:Below W2.heap.size W2 W3:=by
  rw [<- d];exact ((Below.refl _ W2).alloc (κ _) _).alloc (by simp) _
 have l:Below W1.heap.size W1 W3:=s.trans (b.mono (by omega));have c:W3.cell? ⟨W1.heap.size,0,none⟩=some (.int .i64 0):=(World.cell?_of_block (a:=⟨W1.heap.size,0,none⟩) (b.block W1.heap.size (by omega))).trans t;have j:W3.frozen? ⟨W1.heap.size,0,none⟩=false:=(World.frozen?_of_block (a:=⟨W1.heap.size,0,none⟩) (b.block W1.heap.size (by omega))).trans D;have z:W3.heap[W2.heap.size]? =some (.cells #[.int .i64 m] 3):=by
  rw [<- d,Below.heap_alloc _ _ _ (by simp)];exact World.alloc_heap_new W2 _
 have r:W3.heap[W2.heap.size+1]? =some (.cells #[f] 144):=by
  have:=World.alloc_heap_new (W2.alloc (.cells #[.int .i64 m] 3)) (.cells #[f] 144);rw [World.size_alloc] at this;rw [<- d];exact this
 have g:∀ k,¬ dD W3 ⟨S,W1.heap.size,W1.heap.size,κ _⟩ k:=by
  rintro k ⟨ad,x,y,h,_⟩
  rw [show W3.cell? ⟨W1.heap.size,0,none⟩=_ from h] at c;cases c
 refine ⟨A,l,c,j,g, ?_, ?_, ?_⟩
 .intro k o v e;have F:k<w.heap.size:=ju (p k o v e);refine bF.2 ⟨by show k ≠ W1.heap.size;omega,g k, ?_,λ_=>e⟩;exact dl (i.trans ((q.mono (by omega)).trans (l.mono C))) k o v (p k o v e)
 .exact bF.2 ⟨by show W2.heap.size ≠ W1.heap.size;omega,g _,eQ ((aT z 0).1) rfl,λh=>by have:W2.heap.size<W1.heap.size:=h;omega⟩
 .exact bF.2 ⟨by show W2.heap.size+1 ≠ W1.heap.size;omega,g _,eQ ((aT r 0).1) B,λh=>by have:W2.heap.size+1<W1.heap.size:=h;omega⟩
attribute [local go_sem] Oper.semAt_some
set_option maxRecDepth 100000 in
set_option maxHeartbeats 1000000 in
theorem FJ (es:List aP) (ss:List (List Lk)) (ne ns:Bool) (hck:CO 33 [fR es ss ne ns] (.ret (.int .i64 0))) (hm:es.length<=60) {F:List Rw->Int ⊕ List Rw} {inv:List Rw->Prop} (hN:rI (fR es ss ne ns) es.length F inv) {L:List (List Rw × Int)} (hL:lT F (ζ es.length (wQ q0)) L) (hi0:inv (ζ es.length (wQ q0))) (hLL:L.length<=1048576)
  (S:aH) (w:World) (a0:Option Addr) (p0:Nat) (v1 v2 uv:Value) (v:List Rw) (ch:List (List Rw)) (ac:Option Addr) (cc b o:Nat) (hch:ch.length<2^40) (hcl:∀ x ∈ ch,x.length<2^40) (hS:eO S (aR w)) (hg:cG ap S) (hv:PR S (fR es ss ne ns) (.agg #[.slice a0 es.length p0,v1,v2]))
  (huv:PR S (dh v) uv) (huc:PR S (.sl (lV ch) ch.length false) (.slice ac ch.length cc)) (hcc:ch.length<=cc) (hac:0<ch.length->ac=some ⟨b,o,none⟩) (hat:∀ i (hi:i<ch.length),∃ x,S b (o+i)=some x/\PR S (dh ch[i]) x) (n:Nat) (hn:4<=n):
  CallsIn Fence.wide n prog 19 #[.agg #[.slice a0 es.length p0,v1,v2],uv,.slice ac ch.length cc] w (Lo L ch v S w):=by
 have hf33:Fence.wide.fn 33:=trivial;have hf44:Fence.wide.fn 44:=trivial;have hf45:Fence.wide.fn 45:=trivial;have hf46:Fence.wide.fn 46:=trivial;have h1n:1<=n:=by omega
 obtain ⟨W0,hW0⟩:∃ W0,((w.alloc (.cells #[.slice a0 es.length p0,v1,v2] 37)).alloc (.cells #[.slice ac ch.length cc] 47)).alloc (.cells #[.int .i64 0] 48)=W0:=⟨_,rfl⟩
 obtain ⟨hb0,hz0,a1,a2,a3⟩:=LL hW0;have hS0:eO S (aR W0):=λk o v h=>dl hb0 k o v (hS k o v h)
 have e0:W0.cell? ⟨w.heap.size,0,none⟩=some (.slice a0 es.length p0):=(aT a1 0).1;have e1:W0.cell? ⟨w.heap.size,1,none⟩=some v1:=(aT a1 1).1;have e2:W0.cell? ⟨w.heap.size,2,none⟩=some v2:=(aT a1 2).1;refine callsIn_of_wp_marks Tryz.func19 rfl trivial ?_ rfl;simp only [Tryz.ntmps19,Xxg,ο,Ξ,Xj8,Xj9,Array.replicate_succ,Array.replicate_zero,Xx9,Xxz,Xqb,Xqu]
 gi_wp2_with (first
  |(gi_at_call 33;refine (DS hck rfl (S:=S) (W:=W0) hS0 hg (by simp only [bw];exact ⟨hv,trivial⟩)).mono ?_;rintro e W1 ⟨S1,cv,rfl,hr1,ha1⟩;simp only [fF,PR] at hr1;subst hr1;obtain ⟨W2,hW2,hb2,c10,c11,c12,kc,kf,z2⟩:=Ve ha1.bel hz0 a1)
  |(gi_at_call 44;refine (BC _ _ _ _).mono ?_;rintro e W3 ⟨rfl,rfl⟩)
  |gi_in)
 have hl:w.heap.size<=W1.heap.size:=by have:=ha1.bel.size;omega
 obtain ⟨W3,hW3⟩:∃ W3,(W2.alloc (.cells #[.int .i64 (es.length:Int)] 3)).alloc (.cells #[.func (.func 41) #[.agg #[.slice a0 es.length p0,v1,v2]] #[]] 144)=W3:=⟨_,rfl⟩
 obtain ⟨z3,hb13,kc3,kf3,nb,hSs,s1,s2⟩:=LF (f:= .func (.func 41) #[.agg #[.slice a0 es.length p0,v1,v2]] #[]) rfl hS hb0 ha1.bel hz0 hb2 z2 kc kf hW3 hl;rw [hW3];have hcW:(⟨S,W1.heap.size,W1.heap.size,κ _⟩:Bx).c<W3.heap.size:=by show W1.heap.size<_;omega
 have hg3:cG ap (still ⟨S,W1.heap.size,W1.heap.size,κ _⟩ W3):=by
  intro k xs hk;obtain ⟨vs,h1,h2⟩:=hg k xs hk;exact ⟨vs,aY hSs _ h1,λj u hu=> ⟨hSs _ _ _ (h2 j u hu).1,(h2 j u hu).2⟩⟩
 refine Bs h1n (gf:=81) (lb:=#[.pointer (some ⟨W1.heap.size+1,0,none⟩),.pointer (some ⟨W1.heap.size+1+1,0,none⟩)]) rfl (enters_of Tryz.func81 (by kernel_rfl) rfl)
  (pU (n - 1) (by omega) (W1.heap.size+1) (W1.heap.size+1+1) ⟨S,W1.heap.size,W1.heap.size,κ _⟩ es.length hm hN hL hi0 W3 hcW (by rw [<- z2];exact s1) (by rw [<- z2];exact s2) (aQ hSs _ hv) hg3 (λk h=>absurd h (nb k))) (λ_=>rfl)
  (AcI ⟨S,W1.heap.size,W1.heap.size,κ _⟩ W3 ch) (X9 w W3 ch) (AcI.own hcW) (X9.own (by omega)) (X0.own hcW) (λ_ _ _ _ h _ _=>h) (λ_ _ _ _ h _ _=>h) (λh k=>h.trans k)
  (λW l o o' hlW h1 h2 h3=>bV.put W l o o' h1 h2 h3 (by have:W1.heap.size<_:=hcW;show W1.heap.size ≠ l;omega))
  ⟨bV.refl _ _,λ_ _=>rfl,⟨kc3,kf3⟩,(λx hx=>by cases hx),List.nil_prefix⟩
  (λx=> {tmps:=#[.agg #[.slice a0 es.length p0,v1,v2],uv,.slice ac ch.length cc,.pointer (some ⟨w.heap.size,0,none⟩),undef,.pointer (some ⟨w.heap.size+1,0,none⟩),.pointer (some ⟨w.heap.size+1+1,0,none⟩),.int .i64 0,.pointer (some ⟨W1.heap.size,0,none⟩),x.u,.int .i64 x.e,.agg #[.slice a0 es.length p0,v1,v2],.int .i64 0,.int .i64 0,.bool false,undef,.pointer (some ⟨w.heap.size,0,none⟩),.slice a0 es.length p0,.int .i64 es.length,.agg #[.slice a0 es.length p0,v1,v2],.agg #[.slice a0 es.length p0,v1,v2],.func (.func 41) #[.agg #[.slice a0 es.length p0,v1,v2]] #[],.func (.func 81) #[] #[.pointer (some ⟨W1.heap.size+1,0,none⟩),.pointer (some ⟨W1.heap.size+1+1,0,none⟩)],x.u,.int .i64 x.e,undef,undef,undef,undef,undef,undef,undef,undef,undef,undef,undef,undef,undef,undef,undef,undef,undef,undef,undef,undef,undef,undef,undef,undef,undef,undef,undef],defers:= []}) ?assign ?body ?done ?stop
 case assign=>
  intro l x W K hK
  gi_wp2
  exact hK
 case body=>
  rintro l pre ⟨xv,xe,xu⟩ W ⟨hk,hlow,⟨hcv,hcf⟩,hels,hpx⟩ ⟨hcw,hxu,hpre⟩
  have hcw2:W1.heap.size<W.heap.size:=hcw;have hlen:pre.length<=1048576:=by
   have:=hpre.length_le;simp at this;omega
  have hh:∀ k,k<W0.heap.size->W.heap[k]? =W0.heap[k]? :=λk h=>(hlow k (by show k<W1.heap.size;have:=ha1.bel.size;omega)).trans ((hb13.block k (by have:=ha1.bel.size;omega)).trans (ha1.bel.block k h))
  have hbW:Below w.heap.size w W:=hb0.trans ⟨hk.os.trans (hb13.os.trans ha1.bel.os),hk.tape.trans (hb13.tape.trans ha1.bel.tape),hk.output.trans (hb13.output.trans ha1.bel.output),by have:=ha1.bel.size;omega,λk h=>hh k (by omega)⟩;have hl3:w.heap.size+3<=W1.heap.size:=by have:=ha1.bel.size;omega
  have b2:=aT ((hh (w.heap.size+1) (by omega)).trans a2) 0;have b3:=aT ((hh (w.heap.size+1+1) (by omega)).trans a3) 0;obtain ⟨c2,d2⟩:=b2;obtain ⟨c3,d3⟩:=b3;simp only [Xzh,Xxf] at c2 c3;have hend:∀ W5,Below W.heap.size W W5->(xe ≠ 0\/¬ (pre++ [(⟨xv,xe,xu⟩:El)]).map El.v<+:ch)->KeepsOthers W (W5.setCell ⟨w.heap.size+1+1,0,none⟩ (.int .i64 26))/\X9 w W3 ch .ret (pre++ [⟨xv,xe,xu⟩]) (W5.setCell ⟨w.heap.size+1+1,0,none⟩ (.int .i64 26)):=by
   intro W5 hb5 hq;have c5:=(World.cell?_of_block (a:=⟨w.heap.size+1+1,0,none⟩) (hb5.block (w.heap.size+1+1) (by omega))).trans c3;refine ⟨(KeepsOthers.of_grownBy (eT hb5 none) (λj o e=>by cases e)).trans (KeepsOthers.setCell _ _ _),rfl,⟨pre,_,rfl,hq,World.cell?_setCell_same' _ _ _ (by rw [c5];rfl)⟩, ?_⟩;exact (hbW.trans (hb5.mono (by omega))).setCell (p:=⟨w.heap.size+1+1,0,none⟩) (by show w.heap.size<=w.heap.size+1+1;omega) _
  by_cases hx:xe=0
  .subst hx;by_cases hal:pre.length<ch.length
   .have hn1:decide ((ch.length:Int)<=(pre.length:Int))=false:=Yq1 (by omega);have hn2:(pre.length:Int)<(ch.length:Int):=by omega
    have hn3:¬ ((ch.length:Int)<=(pre.length:Int)):=by omega
    obtain ⟨xi,hx1,hx2⟩:=hat pre.length hal;have hac2:=hac (by omega);subst hac2;have hSW:eO S (still ⟨S,W1.heap.size,W1.heap.size,κ _⟩ W):=λk o v e=>hk.stl _ _ _ (hSs _ _ _ e)
    have hxo:xi.oneCell'=true:=by
     have:=hx2;simp only [dh,PR] at this;obtain ⟨ad,cap,e,_⟩:=this;rw [e];rfl
    have hci:W.cell? ⟨b,o+pre.length,none⟩=some xi:=iY (tX _ _ _ _ _ (hSW _ _ _ hx1)) hxo;obtain ⟨ai,ci,rfl⟩:=xq (b:=false) (v:=ch[pre.length]) (S:=S) (by simpa only [fF] using hx2);obtain ⟨au,cu,rfl⟩:=xq (b:=false) (v:=xv) (S:=still ⟨S,W1.heap.size,W1.heap.size,κ _⟩ W) (by simpa only [fF] using hxu);have hfe:=Cz ch[pre.length] xv false false (hcl _ (List.getElem_mem hal));by_cases heq:ch[pre.length]=xv
    .rw [Yq0 heq] at hfe;have heqH:Hid (ch[pre.length]=xv):=heq;clear heq
     gi_wp2_with (refine ⟨λ_=>by omega, ?_⟩;gi_at_call 45;refine (CallsIn.inRound l (gC hfe rfl hcw (hk.back (λk h=>absurd h (nb k))) (hk.glob hg3) (by simp only [bw];exact ⟨aQ hSW _ hx2,hxu,trivial⟩))).mono ?_;rintro ee W5 ⟨cv,rfl,hr5,hb5⟩;simp only [fF,PR] at hr5;subst hr5;have c5:=(World.cell?_of_block (a:=⟨W1.heap.size,0,none⟩) (hb5.block W1.heap.size hcw2)).trans hcv;have d5:=(World.frozen?_of_block (a:=⟨W1.heap.size,0,none⟩) (hb5.block W1.heap.size hcw2)).trans hcf)
     have hkc:bV ⟨S,W1.heap.size,W1.heap.size,κ _⟩ W W5:=bV.below hcw hb5;have hks:=bV.setc (B:=⟨S,W1.heap.size,W1.heap.size,κ _⟩) (j:=(pre.length:Int)+1) c5;refine ⟨(KeepsOthers.of_grownBy (eT hb5 none) (λj o e=>by cases e)).trans (KeepsOthers.setCell _ _ _),hkc.trans hks,hk.trans (hkc.trans hks),λk hk'=> ?_,⟨?_,by simp [d5]⟩, ?_, ?_⟩
     .have hk':k<W1.heap.size:=hk';rw [Below.heap_setCell _ _ _ _ (by show k ≠ W1.heap.size;omega),hb5.block k (by omega)];exact hlow k hk'
     .rw [ξ,Δ];exact World.cell?_setCell_same' _ _ _ (by rw [c5];rfl)
     .intro y hy;rcases List.mem_append.1 hy with hy|hy
      .exact hels y hy
      .rw [List.mem_singleton.1 hy]
     .rw [Xq5];obtain ⟨r,rfl⟩:=hpx;cases r with
      |nil=>simp at hal
      |cons y r=>
       have:=heqH.out;simp at this;exact ⟨r,by simp [this]⟩
    .rw [Yq1 heq] at hfe
     gi_wp2_with (refine ⟨λ_=>by omega, ?_⟩;gi_at_call 45;refine (CallsIn.inRound l (gC hfe rfl hcw (hk.back (λk h=>absurd h (nb k))) (hk.glob hg3) (by simp only [bw];exact ⟨aQ hSW _ hx2,hxu,trivial⟩))).mono ?_;rintro ee W5 ⟨cv,rfl,hr5,hb5⟩;simp only [fF,PR] at hr5;subst hr5;have c5:=(World.cell?_of_block (a:=⟨w.heap.size+1+1,0,none⟩) (hb5.block (w.heap.size+1+1) (by omega))).trans c3;have d5:=(World.frozen?_of_block (a:=⟨w.heap.size+1+1,0,none⟩) (hb5.block (w.heap.size+1+1) (by omega))).trans d3)
     refine hend W5 hb5 (.inr λh=>heq ?_);obtain ⟨r,hr⟩:=h;rw [Xq5] at hr;have:(ch)[pre.length]? =some xv:=by rw [<- hr];simp
     rw [ν hal] at this;exact Option.some.inj this
   .have hn1:decide ((ch.length:Int)<=(pre.length:Int))=true:=Yq0 (by omega);have hn2:(ch.length:Int)<=(pre.length:Int):=by omega
    gi_wp2
    exact hend W (Below.refl _ _) (.inr λh=>by have:=h.length_le;simp at this;omega)
  .have hxd:decide (xe=0)=false:=Yq1 hx
   gi_wp2
   exact hend W (Below.refl _ _) (.inl hx)
 case done=>
  rintro D xs W hD hxs ⟨hk,hlow,⟨hcv,hcf⟩,hels,hpx⟩ hK
  obtain ⟨x,hx⟩:∃ x,xs.getLast? =some x:=by
   cases h:xs.getLast? with
   |some x=>exact ⟨x,rfl⟩
   |none=>
    rw [Xv2] at h;subst h;rw [<- hxs] at hL;cases hL
  obtain ⟨ys,rfl⟩:=List.getLast?_eq_some_iff.1 hx;have hzl:(ys++ [x]).length=ys.length+1:=by simp
  rw [hzl] at hcv;have hyl:ys.length<=1048576:=by
   have:(ys++ [x]).length=L.length:=by rw [<- hxs,Xqp]
   omega
  have hpl:ys.length+1<=ch.length:=by have:=hpx.length_le;rwa [Xqp,hzl] at this
  have hac2:=hac (by omega);subst hac2;obtain ⟨av,cv,rfl⟩:=xq (b:=false) (v:=v) (S:=S) (by simpa only [fF] using huv);have hl3:w.heap.size+3<=W1.heap.size:=by have:=ha1.bel.size;omega
  have hh:∀ k,k<W0.heap.size->W.heap[k]? =W0.heap[k]? :=λk h=>(hlow k (by show k<W1.heap.size;omega)).trans ((hb13.block k (by omega)).trans (ha1.bel.block k h))
  have hcw2:W1.heap.size<W.heap.size:=by have:=hk.size;omega
  have hbW:Below w.heap.size w W:=hb0.trans ⟨hk.os.trans (hb13.os.trans ha1.bel.os),hk.tape.trans (hb13.tape.trans ha1.bel.tape),hk.output.trans (hb13.output.trans ha1.bel.output),by omega,λk h=>hh k (by omega)⟩;have b2:=aT ((hh (w.heap.size+1) (by omega)).trans a2) 0;have b3:=aT ((hh (w.heap.size+1+1) (by omega)).trans a3) 0;obtain ⟨c2,d2⟩:=b2;obtain ⟨c3,d3⟩:=b3;simp only [Xzh,Xxf] at c2 c3;have hn1:(ys.length:Int)<=(ch.length:Int):=by omega
  have hn2:(ch.length:Int)<=(cc:Int):=by omega
  have hn3:(0:Int)<=(ys.length:Int):=by omega
  have hbA:Below W.heap.size W (W.alloc (.cells #[.slice av v.length cv] 43)):=(Below.refl _ W).alloc (κ _) _;have hkA:bV ⟨S,W1.heap.size,W1.heap.size,κ _⟩ W (W.alloc (.cells #[.slice av v.length cv] 43)):=bV.below hcw2 hbA;have hSA:eO S (still ⟨S,W1.heap.size,W1.heap.size,κ _⟩ (W.alloc (.cells #[.slice av v.length cv] 43))):=λk o v e=>hkA.stl _ _ _ (hk.stl _ _ _ (hSs _ _ _ e))
  have hcA:(W.alloc (.cells #[.slice av v.length cv] 43)).cell? ⟨W1.heap.size,0,none⟩=some (.int .i64 ((ys.length+1:Nat):Int)):=(World.cell?_of_block (a:=⟨W1.heap.size,0,none⟩) (hbA.block _ hcw2)).trans hcv;have hnA:∀ k,¬ dD (W.alloc (.cells #[.slice av v.length cv] 43)) ⟨S,W1.heap.size,W1.heap.size,κ _⟩ k:=λk h=>by
   have:=(jW (c:=⟨S,W1.heap.size,W1.heap.size,κ _⟩) hcA).1 h;cases this
  have hvA:PR (still ⟨S,W1.heap.size,W1.heap.size,κ _⟩ (W.alloc (.cells #[.slice av v.length cv] 43))) (.sl (lV [v]) [v].length false) (.slice (some ⟨W.heap.size,0,none⟩) 1 1):=by
   simp only [PR];refine ⟨_,_,rfl,κ _,.inr ⟨W.heap.size,0,[.slice av v.length cv],rfl,⟨aQ hSA _ huv,trivial⟩, ?_⟩⟩;intro j u hu;cases j with
   |zero=>
    cases hu;exact ⟨bF.2 ⟨by show W.heap.size ≠ W1.heap.size;omega,hnA _,eQ (aT (World.alloc_heap_new W (.cells #[.slice av v.length cv] 43)) 0).1 rfl,λh=>by have:W.heap.size<W1.heap.size:=h;omega⟩,rfl⟩
   |succ j=>simp at hu
  have hdA:=FW (k:=ys.length) (by omega) (by omega) hcc (aQ hSA _ huc);have hfA:PR (still ⟨S,W1.heap.size,W1.heap.size,κ _⟩ (W.alloc (.cells #[.slice av v.length cv] 43))) (.fn 45 [] []) (.func (.func 45) #[] #[]):=by
   simp only [PR];exact ⟨[],[],rfl,trivial,trivial⟩
  have hfs:=MR (ch.drop ys.length) [v] false false (by rw [Xx3];omega) (λy hy=>hcl y (List.mem_of_mem_drop hy));have hlast:=FX (v:=v) hpx (by simp);rw [Xqp,hzl,Nat.add_sub_cancel] at hlast;have hLm:(ys++ [x]).map El.v=L.map (·.1):=by rw [<- hxs,Xzd];rfl
  have hL0:∀ p ∈ L,p.2=0:=λp hp=>by
   rw [<- hxs] at hp;obtain ⟨y,hy,rfl⟩:=List.mem_map.1 hp;exact hels y hy
  have hD1:D<W.heap.size:=(Array.getElem?_eq_some_iff.1 hK).1;have fin:∀ (W5:World) (z:Int),Below (W.alloc (.cells #[.slice av v.length cv] 43)).heap.size (W.alloc (.cells #[.slice av v.length cv] 43)) W5->(z=0\/z=26)->(z=0↔ch.drop ys.length= [v])->∃ W6,W6=W5.setCell ⟨w.heap.size+1+1,0,none⟩ (.int .i64 z)/\W6.heap[D]? =some (.deferred (some []))/\(W6.putObj D (.deferred none)).cell? ⟨w.heap.size+1+1,0,none⟩=some (.int .i64 z)/\Lo L ch v S w (.returned (.int .i64 z)) (W6.putObj D (.deferred none)):=by
   intro W5 z hb5 hz hzz;have hb5':Below W.heap.size W W5:=hbA.trans (hb5.mono (by simp));have c5:=(World.cell?_of_block (a:=⟨w.heap.size+1+1,0,none⟩) (hb5'.block (w.heap.size+1+1) (by omega))).trans c3;have k6:(W5.setCell ⟨w.heap.size+1+1,0,none⟩ (.int .i64 z)).heap[D]? =some (.deferred (some [])):=(Below.heap_setCell _ _ _ _ (by show D ≠ w.heap.size+1+1;omega)).trans ((hb5'.block D hD1).trans hK);have hb6:Below w.heap.size w (W5.setCell ⟨w.heap.size+1+1,0,none⟩ (.int .i64 z)):=(hbW.trans (hb5'.mono (by omega))).setCell (p:=⟨w.heap.size+1+1,0,none⟩) (by show w.heap.size<=w.heap.size+1+1;omega) _;refine ⟨_,rfl,k6, ?_,z,rfl,kB hS (hb6.trans ((Below.refl _ _).grown (grownBy_putObj' _ D _) hb6.size (λk e=>by cases e;omega))),hz, ?_⟩
   .rw [World.cell?_of_block (World.putObj_heap_other (show w.heap.size+1+1 ≠ D by omega))];exact World.cell?_setCell_same' _ _ _ (by rw [c5];rfl)
   .rw [hzz,hlast,hLm];exact ⟨λh=> ⟨hL0,h⟩,λh=>h.2⟩
  clear hx hpx;by_cases heq:ch.drop ys.length= [v]
  .rw [Yq0 heq] at hfs;have heqH:Hid (ch.drop ys.length= [v]):=heq;clear heq
   gi_wp2_with (gi_at_call 46;refine (gC hfs rfl (υ hcw2 hbA.size) (λk h=>absurd h (hnA k)) (hkA.glob (hk.glob hg3)) (by simp only [bw];exact ⟨hdA,hvA,hfA,trivial⟩)).mono ?_;rintro ee W5 ⟨cv,rfl,hr5,hb5⟩;simp only [fF,PR] at hr5;subst hr5;have hb5w:Below W.heap.size W W5:=hbA.trans (hb5.mono (by simp));have c5:=(World.cell?_of_block (a:=⟨w.heap.size+1+1,0,none⟩) (hb5w.block (w.heap.size+1+1) (by omega))).trans c3;have d5:=(World.frozen?_of_block (a:=⟨w.heap.size+1+1,0,none⟩) (hb5w.block (w.heap.size+1+1) (by omega))).trans d3)
   obtain ⟨W6,rfl,k6,x6,hp6⟩:=fin W5 0 hb5 (.inl rfl) ⟨λ_=>heqH.out,λ_=>rfl⟩;exact ⟨by simp,.inl ⟨_,_,rfl,run_takeDeferred k6,_,IC rfl x6,hp6⟩⟩
  .rw [Yq1 heq] at hfs;have heqH:Hid (¬ ch.drop ys.length= [v]):=heq;clear heq
   gi_wp2_with (gi_at_call 46;refine (gC hfs rfl (υ hcw2 hbA.size) (λk h=>absurd h (hnA k)) (hkA.glob (hk.glob hg3)) (by simp only [bw];exact ⟨hdA,hvA,hfA,trivial⟩)).mono ?_;rintro ee W5 ⟨cv,rfl,hr5,hb5⟩;simp only [fF,PR] at hr5;subst hr5;have hb5w:Below W.heap.size W W5:=hbA.trans (hb5.mono (by simp));have c5:=(World.cell?_of_block (a:=⟨w.heap.size+1+1,0,none⟩) (hb5w.block (w.heap.size+1+1) (by omega))).trans c3;have d5:=(World.frozen?_of_block (a:=⟨w.heap.size+1+1,0,none⟩) (hb5w.block (w.heap.size+1+1) (by omega))).trans d3)
   obtain ⟨W6,rfl,k6,x6,hp6⟩:=fin W5 26 hb5 (.inr rfl) ⟨(λh=>by cases h),λh=>absurd h heqH.out⟩;exact ⟨by simp,.inl ⟨_,_,rfl,run_takeDeferred k6,_,IC rfl x6,hp6⟩⟩
 case stop=>
  rintro D c pre W hD hSp ⟨rfl,⟨p,x,rfl,hx,x1⟩,hbW⟩ hK
  gi_wp2
  refine ⟨by simp,.inl ⟨_,_,rfl,run_takeDeferred hK, ?_⟩⟩;have oC:∀ k v,k<W3.heap.size->W.cell? ⟨k,0,none⟩=some v->(W.putObj D (.deferred none)).cell? ⟨k,0,none⟩=some v:=λk v h hv=>(World.cell?_of_block (World.putObj_heap_other (show k ≠ D by omega))).trans hv
  refine ⟨_,IC rfl (oC _ _ (by have:=ha1.bel.size;omega) x1),26,rfl,kB hS (hbW.trans ((Below.refl _ W).grown (grownBy_putObj' W D _) hbW.size (λk e=>by cases e;omega))),.inr rfl,⟨(λh=>by cases h), ?_⟩⟩
  rintro ⟨h1,h2,_⟩
  exfalso;rcases hx with hx|hx
  .exact hx (h1 x.p (hSp.subset (by simp)))
  .apply hx;rw [h2];have:=hSp.map (·.1);rwa [Xzd] at this
def UV (n:Nat) (es:List aP) (r:Int ⊕ List (List Rw)) (v:List Rw) (ch:List (List Rw)):Int:=
 if qN n es ≠ 0 then qN n es else match r with
  | .inl _=>26
  | .inr c=>if ch=c/\ch.getLast? =some v then 0 else 26
theorem IW {S:aH} {d:List AV} {n:Nat} {b:Bool} {u:Value} (h:PR S (.sl d n b) u):PR S (.sl d n false) u:=by
 simp only [PR] at h ⊢;obtain ⟨a,c,e,f,g⟩:=h;refine ⟨a,c,e,f, ?_⟩;rcases g with ⟨_,h⟩|h
 .exact .inl ⟨by simp,h⟩
 .exact .inr h
theorem ul (es:List aP) (ss:List (List Lk)) (s A nv nc:Bool) (h:fB es ss) (v:List Rw) (k:List (List Rw)) (F:k.length<2^40) (D:∀ x ∈ k,x.length<2^40) {r:Int ⊕ List (List Rw)} (X:rG ss es r):
  CO 19 [fR es ss s A,.sl (cg v) v.length nv,.sl (lV k) k.length nc] (.ret (ω (UV ss.length es r v k))):=by
 have l:=jZ es ss s A h.len h.sm;refine Tz (enters_of Tryz.func19 (by kernel_rfl) rfl) rfl λS w cargs U R a=> ?_
 match cargs,a with
 | [u,uv,uc],a=>
  simp only [bw] at a;obtain ⟨a,m,f,_⟩:=a;have m:=IW m;have f:=IW f;obtain ⟨a0,p0,v1,v2,rfl⟩:=BL a;obtain ⟨ac,cc,b,o,rfl,C,E,O⟩:=LQ f;rcases X with ⟨d,rfl⟩|⟨h0,j⟩
  .refine (Jq es ss s A _ d l S w _ _ _ _ _ _ _ U R a 9 (by omega)).mono ?_
   rintro e w' ⟨rfl,ha⟩
   refine ⟨S,_,rfl, ?_,ha⟩;simp only [fF,PR];unfold UV;rw [if_pos d]
  .rw [h0] at l;obtain ⟨M,K,J,g,B,_⟩:=Ci h0 h.sm;have hN:rI (fR es ss s A) es.length (oL ss es) (λv=>v.length=es.length/\∀ y ∈ v,y.sm):=by
    refine ⟨λv a=> ?_,λv a=>a.1,λv w a t=> ⟨pT t,tN h.sm t⟩,λv e a t=>qB t⟩;exact zA es ss v s A false M h.len K a.1.symm h.ls g λi hi=>h.env a.2 i
   obtain ⟨L,I,T⟩:=EX (λv e t=>qB t) j;have N:qX ss.length es:=⟨g,λx z=>(B x z).2⟩
   have G:∀ x ∈ es,gR x=true:=λx z=>(g x z).cap
   obtain ⟨Z,z2⟩:=kv G;have hLl:=E5 N I Z λw hw=>Af G (fk g hw)
   have Q:=FV G;rw [uk] at I j;have Y:∀ y ∈ ζ es.length (wQ q0),y.sm:=λy V=>by
    rw [(List.mem_replicate.1 V).2];have:=cP (q:=q0) (by kernel_rfl);exact ⟨φ this.1 (by omega),φ this.2 (by omega)⟩
   refine (FJ es ss s A l J hN I ⟨Xq9,Y⟩ (by omega) S w a0 p0 v1 v2 uv v k ac cc b o F D U R a m f C E O 9 (by omega)).mono ?_
   rintro e w' ⟨x,rfl,ha,z,hxx⟩
   refine ⟨S,_,rfl, ?_,ha⟩;simp only [fF,PR];congr 1;unfold UV;rw [if_neg (by rw [h0];simp)];cases r with
   |inl e=>
    obtain ⟨q,pv,rfl,_,d⟩:=T;rcases z with rfl|rfl
    .exact absurd ((hxx.1 rfl).1 (pv,e) (by simp)) d
    .rfl
   | inr c=>
    obtain ⟨rfl,_⟩:=T;have e1:(c.map λv=>(v,(0:Int))).map (·.1)=c:=by rw [Xzd];exact List.map_id'' (λ_=>rfl) c
    rw [e1] at hxx;have e2:∀ p ∈ c.map λv=>(v,(0:Int)),p.2=0:=λp hp=>by obtain ⟨_,_,rfl⟩:=List.mem_map.1 hp;rfl
    show x=if k=c/\k.getLast? =some v then 0 else 26
    split
    .rename_i h;exact hxx.2 ⟨e2,h⟩
    .rename_i h;rcases z with rfl|rfl
     .exact absurd (hxx.1 rfl).2 h
     .rfl
def X4 (a b:List Rw):Bool:=decide (a.length=b.length) && (a.zip b).all λp=>Nb p.1 p.2
theorem H6 {x y:Rw}:Nb x y=true↔x.v.rt<=y.v.rt:=by
 have h:=(nM (cV x.n x.a x.d) (cV y.n y.a y.d)).2.2;unfold Nb;rw [Bool.not_eq_true',decide_eq_false_iff_not];constructor
 .intro q;exact Rat.not_lt.1 λa=>q (h.2 a)
 .intro q a;exact absurd (h.1 a) (Rat.not_lt.2 q)
theorem H5:∀ {a b:List Rw},X4 a b=true↔py a b
 | [],[]=> ⟨λ_=>py.nil,λ_=>rfl⟩
 | [],y::b=> ⟨λh=>by simp [X4] at h,λh=>by have:=h.1;simp at this⟩
 |x::a,[]=> ⟨λh=>by simp [X4] at h,λh=>by have:=h.1;simp at this⟩
 | x::a,y::b=>by
  have c:=H5 (a:=a) (b:=b);unfold X4 at c ⊢;simp only [ο,Nat.add_right_cancel_iff,Xzj,Xzn,π,decide_eq_true_eq] at c ⊢;constructor
  .rintro ⟨h1,h2,h3⟩
   exact py.cons (H6.1 h2) (c.1 ⟨h1,h3⟩)
  .intro h;have:=c.2 h.tail;exact ⟨this.1,H6.2 h.head,this.2⟩
theorem Rl (a b:List Rw) (f g:Bool) (c:a.length<2^40) (e:∀ x ∈ a,x.ti) (d:∀ x ∈ b,x.ti):CO 24 [.sl (cg a) a.length f,.sl (cg b) b.length g] (.ret (.bool (X4 a b))):=Rk a b f g c e d
section
variable {es:List aP} {ss:List (List Lk)}
theorem Oy {w r:List Rw} (h:nG ss es w= .inr r):qN ss.length es=0/\da es w/\oL ss es w= .inr r:=by
 unfold nG at h;split at h
 .rename_i h0;split at h
  .rename_i a;exact ⟨by have:=beq_iff_eq.1 h0;omega,Bv.1 a,h⟩
  .cases h
 .cases h
theorem Oz {w:List Rw} (h0:qN ss.length es=0) (a:da es w):nG ss es w=oL ss es w:=by
 unfold nG;rw [if_pos (by rw [h0];rfl),if_pos (Bv.2 a)];rfl
theorem SK {v:List Rw} {r:Int ⊕ List (List Rw)} (j:fB es ss) (f:qX ss.length es) (h:HB (oL ss es) v r):(∀ y ∈ v,y.sm)->da es v->(∀ e,r= .inl e->e ≠ 0)/\∀ c,r= .inr c->(∃ l,c.getLast? =some l/\da es l/\oL ss es l= .inr l/\∀ y ∈ l,y.sm)/\(∀ x ∈ c,da es x/\∀ y ∈ x,y.sm)/\c.head? =some v:=by
 induction h with
 |err h1=>intro _ _;exact ⟨λe a=>(by cases a;exact qB h1),λc b=>(by cases b)⟩
 |fix h1=>intro i d;exact ⟨λe a=>(by cases a),λc b=>by cases b;exact ⟨⟨_,rfl,d,h1,i⟩,λx g=>by rcases List.mem_singleton.1 g with rfl;exact ⟨d,i⟩,rfl⟩⟩
 |stepE h1 hn _ ih=>
  intro i d;obtain ⟨m,_⟩:=ih (tN j.sm h1) (fk f.ok h1);exact ⟨λe a=>m e (by cases a;rfl),λc b=>(by cases b)⟩
 |stepC h1 hn _ ih=>
  intro i d;obtain ⟨_,k⟩:=ih (tN j.sm h1) (fk f.ok h1);refine ⟨λe a=>(by cases a),λc b=> ?_⟩;cases b;obtain ⟨⟨l,o,p⟩,q,_⟩:=k _ rfl;refine ⟨⟨l,by rw [Yqf,o];rfl,p⟩,λx g=> ?_,rfl⟩;rcases List.mem_cons.1 g with rfl|g
  .exact ⟨d,i⟩
  .exact q x g
theorem yG (j:fB es ss):(∃ e,e ≠ 0/\rG ss es (.inl e))\/∃ (c:List (List Rw)) (v:List Rw),qN ss.length es=0/\qX ss.length es/\HB (oL ss es) (Ae es) (.inr c)/\c.getLast? =some v/\da es v/\nG ss es v= .inr v/\(∀ y ∈ v,y.sm)/\rG ss es (.inr c):=by
 by_cases h0:qN ss.length es=0
 .obtain ⟨_,_,_,d,f,_⟩:=Ci h0 j.sm;have a:qX ss.length es:=⟨d,λx i=>(f x i).2⟩
  obtain ⟨r,g,_⟩:=Xm a;obtain ⟨k,l⟩:=SK j a g Tm (kv λx i=>(d x i).cap).1;cases r with
  |inl e=>exact .inl ⟨e,k e rfl,.inr ⟨h0,g⟩⟩
  |inr c=>
   obtain ⟨⟨v,o,b,m,h⟩,_⟩:=l c rfl;exact .inr ⟨c,v,h0,a,g,o,b,by rw [Oz h0 b,m],h,.inr ⟨h0,g⟩⟩
 .exact .inl ⟨_,h0,.inl ⟨h0,rfl⟩⟩
end
def Tt (n:List UInt8) (a b:Lk):Prop:=a.op=b.op/\a.nm=b.nm/\(¬ (a.op=5/\a.nm=n)->a=b)/\∀ p q,Ws a= .val p->Ws b= .val q->p.rt<=q.rt
theorem Tt.refl (n:List UInt8) (a:Lk):Tt n a a:=⟨rfl,rfl,λ_=>rfl,λp q h b=>by rw [h] at b;cases b;exact Rat.le_refl⟩
def FH (n:List UInt8):List Lk->List Lk->Prop
 | [],[]=>True
 |a::l,b::m=>Tt n a b/\FH n l m
 |_,_=>False
theorem FH.refl (n:List UInt8):∀ l,FH n l l
 | []=>trivial
 |a::l=> ⟨Tt.refl n a,FH.refl n l⟩
theorem Ds {n:List UInt8} (o:Int) (c:List UInt8):∀ {L M:List Lk},FH n L M->(L.find? (λy=>(o==y.op) && (c==y.nm))=none/\M.find? (λy=>(o==y.op) && (c==y.nm))=none)\/∃ a b,L.find? (λy=>(o==y.op) && (c==y.nm))=some a/\M.find? (λy=>(o==y.op) && (c==y.nm))=some b/\Tt n a b/\o=a.op/\c=a.nm
 | [],[],_=> .inl ⟨rfl,rfl⟩
 | a::l,b::m,h=>by
  simp only [List.find?_cons,<- h.1.1,<- h.1.2.1];cases d:((o==a.op) && (c==a.nm)) with
  |true=>
   simp only [π,beq_iff_eq] at d;exact .inr ⟨a,b,rfl,rfl,h.1,d.1,d.2⟩
  |false=>exact Ds o c h.2
 | [],_::_,h=>h.elim
 |_::_,[],h=>h.elim
abbrev NmX (es:List aP):=Option (NmI es)
def nxO {es:List aP}:NmX es->Int
 |none=>5
 |some u=>u.1.1
def nxN {es:List aP} (n:List UInt8):NmX es->List UInt8
 |none=>n
 |some u=>u.1.2
theorem L6 {es:List aP} {v t:List Rw} {ss A:List (List Lk)} {n:List UInt8} (i:Nat) (z:v.length=es.length) (h:py v t) (B:FH n (ss.getD i []) (A.getD i [])):UY ⟨iO es v ss i,[]⟩ ⟨iO es t A i,[]⟩ (nxO (es:=es)) (nxN n) where
 qs:=rfl
 nil:=rfl
 lk o m hn:=by
  unfold Dy iO;rw [Xj7,Xj7];rcases tB (i:Int) o m z h with ⟨f,g⟩|⟨x,y,j,C,_,_,_,k,l⟩
  .rw [f,g];rcases Ds o m B with ⟨d,e⟩|⟨a,b,d,e,s,k,D⟩
   .rw [d,e]
   .rw [d,e,s.2.2.1 λw=>hn none ⟨k.trans w.1,D.trans w.2⟩]
  .exact absurd ⟨rfl,rfl⟩ (hn (some ⟨(o,m),k,by rw [l];exact List.mem_map.2 ⟨x,C,rfl⟩⟩))
 atN:=by
  intro u p q hp c;generalize nxO u=o at hp c;generalize nxN n u=m at hp c;unfold Dy iO at hp c;rw [Xj7] at hp c;rcases tB (i:Int) o m z h with ⟨f,g⟩|⟨x,y,j,C,f,g,r,_,_⟩
  .rw [f] at hp;rw [g] at c;rcases Ds o m B with ⟨d,e⟩|⟨a,b,d,e,s,_,_⟩
   .rw [d] at hp;cases hp
   .rw [d] at hp;rw [e] at c;exact s.2.2.2 p q hp c
  .rw [f] at hp;rw [g] at c;have hp:oM y.n y.a y.d 0= .val p:=hp;have c:oM j.n j.a j.d 0= .val q:=c;rw [qD hp,qD c];exact r
theorem MH {es:List aP} {v b:List Rw} {ss a:List (List Lk)} {n:List UInt8} (i:Nat) (c:v.length=es.length) (h:py v b) (e:FH n (ss.getD i []) (a.getD i [])) {x:aP} (d:uX es x=true) (g:dF (mn bY) (mz bY) x.body [] 5 n<=1) {p q:RQ} (hp:gi ⟨iO es v ss i,[]⟩ x.body= .val p) (f:gi ⟨iO es b a i,[]⟩ x.body= .val q):p.rt<=q.rt:=
 BH (L6 i c h e) (λu=>by
  match u with
  |none=>show (5:Int)<=5/\(5:Int)<=8;exact ⟨by decide,by decide⟩
  |some u=>have:=u.2.1;show 5<=u.1.1/\u.1.1<=8;omega) x.body (λu=>by
  match u with
  |none=>exact g
  |some u=>exact Bw d u) p q hp f
theorem BA {ss d:List (List Lk)} {es:List aP} {v j:List Rw} {n:List UInt8} (c:d.length=ss.length) (u:∀ i,FH n (ss.getD i []) (d.getD i [])) (A:v.length=es.length) (f:py v j):∀ {r:List aP} {w w':List Rw},(∀ x ∈ r,wv ss.length x/\uX es x=true/\dF (mn bY) (mz bY) x.body [] 5 n<=1)->jd ((Xqm ss.length).map (iO es v ss)) r= .inr w->jd ((Xqm d.length).map (iO es j d)) r= .inr w'->py w w'
 | [],w,w',_,h,h'=>by cases h;cases h';exact py.nil
 | x::r,w,w',hk,h,h'=>by
  simp only [jd] at h h';obtain ⟨s,D,hs⟩:=hk x (by simp);rw [Gc s] at h;rw [Gc (ss:=d) (by rw [c];exact s)] at h';split at h
  .cases h
  rename_i a g;split at h
  .cases h
  rename_i l C;cases h;split at h'
  .cases h'
  rename_i b k;split at h'
  .cases h'
  rename_i m E;cases h';refine py.cons ?_ (BA c u A f (λy B=>hk y (by simp [B])) C E);have z:=kG ⟨iO es v ss (δ x.sd),[]⟩ x.body;have t:=kG ⟨iO es j d (δ x.sd),[]⟩ x.body;cases hp:gi ⟨iO es v ss (δ x.sd),[]⟩ x.body with
  |err e=>rw [hp] at g;cases g
  | val p=>cases o:gi ⟨iO es j d (δ x.sd),[]⟩ x.body with
   |err e=>rw [o] at k;cases k
   |val q=>
    rw [hp] at g z;rw [o] at k t;exact Ox s.cap z.1 t.1 (MH _ A f (u _) D hs hp o) g k
theorem KP {ss f:List (List Lk)} {es:List aP} {n:List UInt8} (hs:qX ss.length es) (b:f.length=ss.length) (o:∀ i,FH n (ss.getD i []) (f.getD i [])) (m:∀ x ∈ es,dF (mn bY) (mz bY) x.body [] 5 n<=1) {u:List Rw} (k:oL f es u= .inr u):∀ {v:List Rw} {c:List (List Rw)},HB (oL ss es) v (.inr c)->da es v->py v u->∃ l,c.getLast? =some l/\py l u:=by
 intro v c h;generalize d:(Sum.inr c:Int ⊕ List (List Rw))=q at h
 induction h generalizing c with
 |err _=>cases d
 |fix h1=>cases d;intro _ a;exact ⟨_,rfl,a⟩
 |stepE _ _ _ _=>cases d
 |stepC h1 hn h2 ih=>
  cases d;intro r a;rename_i v w c;have p:py w u:=BA b o r.len a (λx e=> ⟨hs.ok x e,hs.ris x e,m x e⟩) h1 k;obtain ⟨l,j,g⟩:=ih rfl (fk hs.ok h1) p;refine ⟨l, ?_,g⟩;rw [Yqf,j];rfl
theorem J7 {ss e:List (List Lk)} {es:List aP} {n:List UInt8} (d:qX ss.length es) (a:e.length=ss.length) (m:∀ i,FH n (ss.getD i []) (e.getD i [])) (f:∀ x ∈ es,dF (mn bY) (mz bY) x.body [] 5 n<=1) {c:List (List Rw)} {v w:List Rw} (b:HB (oL ss es) (Ae es) (.inr c)) (j:c.getLast? =some v) (p:da es w) (k:nG e es w= .inr w):X4 v w=true:=by
 have g:∀ x ∈ es,gR x=true:=λx f=>(d.ok x f).cap
 obtain ⟨l,h,o⟩:=KP d a m f (Oy k).2.2 b (kv g).1 (Af g p);rw [j] at h;cases h;exact H5.2 o
theorem oE {b n:Nat} {L:List Lk} (a:L.length=n):Fz b ⟨bP L,0,false,0,6,true⟩ (.ref b 0 0 n) (.sl (bP L) L.length false):=by
 subst a;exact .fit .ref (by rw [Xzp,Xx8,Xqa (by rw [Rg];exact κ _)];exact bC.sl _ _ _)
theorem eU {b c:Nat} {B C:aM} {r l:Hp} (d:yA b B r l) (hp:C.pr=true:=by rfl) (a:c ≠ b:=by decide):yA b B ((c,C)::r) ((c,C)::l):=⟨rfl,wJ.same hp,a,d⟩
theorem FB {b c:Nat} {B:aM} {cs a:List AV} {e:Nat} {p:Bool} {r l:Hp} (h:Ls b B cs a) (hp:(bD a).isEmpty=true) (f:yA b B r l) (d:c ≠ b:=by decide):yA b B ((c,⟨a,0,false,0,e,true⟩)::r) ((c,⟨cs,0,false,0,e,p⟩)::l):=⟨rfl,⟨rfl,rfl,rfl,rfl,.inr ⟨h,λ_=>hp⟩⟩,d,f⟩
theorem Q3 {b c:Nat} {B:aM} {cs a:List AV} {e:Nat} {p:Bool} {r l:Hp} (h:Ls b B cs a) (f:yA b B r l) (d:c ≠ b:=by decide):yA b B ((c,⟨a,0,false,0,e,false⟩)::r) ((c,⟨cs,0,false,0,e,p⟩)::l):=⟨rfl,⟨rfl,rfl,rfl,rfl,.inr ⟨h,λh=>by cases h⟩⟩,d,f⟩
theorem Ea {b:Nat} {B:aM}:∀ {cs:List AV},iP (pd b) cs=cs->Ls b B cs cs
 | [],_=> .nil
 |x::r,h=>by
  simp only [iP,List.cons.injEq] at h;exact .cons (.same h.1) (Ea h.2)
theorem oO {b c:Nat} {B:aM} {cs:List AV} {e:Nat} {p:Bool} {r l:Hp} (h:iP (pd b) cs=cs) (d:yA b B r l) (a:c ≠ b:=by decide):yA b B ((c,⟨cs,0,false,0,e,false⟩)::r) ((c,⟨cs,0,false,0,e,p⟩)::l):=Q3 (Ea h) d a
theorem Ic {b n:Nat} {es:List aP} (a:es.length=n):Fz b ⟨bq es,0,false,0,14,true⟩ (.ref b 0 0 n) (.sl (bq es) n true):=by
 subst a;exact .fit .ref (.eq (by rw [Xzp,Xx8,Xqa (by rw [show (bq es).length=es.length*14 from kH uz es];exact κ _)]))
theorem Zs {nt:Nat} {a:Code} {s:St} {f e d:Int} {L0 M0:List Lk} (b:L0.length=11) (c:M0.length=11) (h:ag prog ap [] nt a s .normal ⟨[(4,.ptr 0 0 0),(7,.bool true),(8,.ptr 1 0 0),(9,.ptr 2 0 0)],[(0,⟨[ω f,ω e,ω d],0,false,0,0,true⟩),(1,⟨[.nilS,.ref 3 0 0 1,.nilS],0,false,0,0,false⟩),(2,⟨[.nilS,.ref 4 0 0 1,.nilS],0,false,0,0,false⟩),(3,⟨[.ref 5 0 0 11],0,false,0,1,false⟩),(4,⟨[.ref 6 0 0 11],0,false,0,1,false⟩),(5,⟨(bP L0),0,false,0,6,true⟩),(6,⟨(bP M0),0,false,0,6,true⟩)],.dead,[]⟩):ag prog ap [] nt a s .normal (tU [ω f,ω e,ω d] [.sl (bq []) 0 false,.sl (eM [L0]) 1 false,.sl [] 0 false] [.sl (bq []) 0 false,.sl (eM [M0]) 1 false,.sl [] 0 false]):=by
 have h:=ag.forget (en':= [(4,_),(7,_),(8,_),(9,_)]) (hp':= [(0,_),(1,_),(2,_),(3,_),(4,_),(5,_)]) 6 _ h (by simp) (Xqo _) rfl ⟨Fz.same rfl,Fz.same rfl,Fz.same rfl,Fz.same rfl,trivial⟩
  (eU (oO rfl (oO rfl (oO rfl (FB (.cons (oE c) .nil) rfl (eU rfl))))))
 have h:=ag.forget (en':= [(4,_),(7,_),(8,_),(9,_)]) (hp':= [(0,_),(1,_),(2,_),(3,_),(4,_)]) 5 _ h (by simp) (Xqo _) rfl ⟨Fz.same rfl,Fz.same rfl,Fz.same rfl,Fz.same rfl,trivial⟩
  (eU (oO rfl (oO rfl (FB (.cons (oE b) .nil) rfl (eU rfl)))))
 have h:=ag.forget (en':= [(4,_),(7,_),(8,_),(9,_)]) (hp':= [(0,_),(1,_),(2,_),(3,_)]) 4 _ h (by simp) (Xqo _) rfl ⟨Fz.same rfl,Fz.same rfl,Fz.same rfl,Fz.same rfl,trivial⟩
  (eU (oO rfl (FB (.cons (.fit (.same rfl) (.nilS _ rfl)) (.cons (.fit .ref (.sl _ _ _)) (.cons (.fit (.same rfl) (.nilS _ rfl)) .nil))) rfl (eU rfl))))
 have h:=ag.forget (en':= [(4,_),(7,_),(8,_),(9,_)]) (hp':= [(0,_),(1,_),(2,_)]) 3 _ h (by simp) (Xqo _) rfl ⟨Fz.same rfl,Fz.same rfl,Fz.same rfl,Fz.same rfl,trivial⟩
  (eU (FB (.cons (.fit (.same rfl) (.nilS _ rfl)) (.cons (.fit .ref (.sl _ _ _)) (.cons (.fit (.same rfl) (.nilS _ rfl)) .nil))) rfl (eU rfl)))
 exact h
theorem Zr {nt:Nat} {b:Code} {s:St} {g f e:Int} {a:aP} {r:List aP} {L0 M0:List Lk} (c:L0.length=11) (d:M0.length=11) (h:ag prog ap [] nt b s .normal ⟨[(4,.ptr 0 0 0),(7,.bool true),(8,.ptr 1 0 0),(9,.ptr 2 0 0)],[(0,⟨[ω g,ω f,ω e],0,false,0,0,true⟩),(1,⟨[.ref 3 0 0 (a::r).length,.ref 4 0 0 1,.nilS],0,false,0,0,false⟩),(2,⟨[.ref 5 0 0 (a::r).length,.ref 6 0 0 1,.nilS],0,false,0,0,false⟩),(3,⟨(bq (a::r)),0,false,0,14,true⟩),(4,⟨[.ref 7 0 0 11],0,false,0,1,false⟩),(5,⟨(bq (a::r)),0,false,0,14,true⟩),(6,⟨[.ref 8 0 0 11],0,false,0,1,false⟩),(7,⟨(bP L0),0,false,0,6,true⟩),(8,⟨(bP M0),0,false,0,6,true⟩)],.dead,[]⟩):ag prog ap [] nt b s .normal (tU [ω g,ω f,ω e] [.sl (bq (a::r)) (a::r).length false,.sl (eM [L0]) 1 false,.sl [] 0 false] [.sl (bq (a::r)) (a::r).length false,.sl (eM [M0]) 1 false,.sl [] 0 false]):=by
 have h:=ag.forget (en':= [(4,_),(7,_),(8,_),(9,_)]) (hp':= [(0,_),(1,_),(2,_),(3,_),(4,_),(5,_),(6,_),(7,_)]) 8 _ h (by simp) (Xqo _) rfl ⟨Fz.same rfl,Fz.same rfl,Fz.same rfl,Fz.same rfl,trivial⟩
  (eU (oO rfl (oO rfl (eU (oO rfl (eU (FB (.cons (oE d) .nil) rfl (eU rfl))))))))
 have h:=ag.forget (en':= [(4,_),(7,_),(8,_),(9,_)]) (hp':= [(0,_),(1,_),(2,_),(3,_),(4,_),(5,_),(6,_)]) 7 _ h (by simp) (Xqo _) rfl ⟨Fz.same rfl,Fz.same rfl,Fz.same rfl,Fz.same rfl,trivial⟩
  (eU (oO rfl (oO rfl (eU (FB (.cons (oE c) .nil) rfl (eU (eU rfl)))))))
 have h:=ag.forget (en':= [(4,_),(7,_),(8,_),(9,_)]) (hp':= [(0,_),(1,_),(2,_),(3,_),(4,_),(5,_)]) 6 _ h (by simp) (Xqo _) rfl ⟨Fz.same rfl,Fz.same rfl,Fz.same rfl,Fz.same rfl,trivial⟩
  (eU (oO rfl (Q3 (.cons (.same rfl) (.cons (.fit .ref (.sl _ _ _)) (.cons (.fit (.same rfl) (.nilS _ rfl)) .nil))) (eU (eU (eU rfl))))))
 have h:=ag.forget (en':= [(4,_),(7,_),(8,_),(9,_)]) (hp':= [(0,_),(1,_),(2,_),(3,_),(4,_)]) 5 _ h (by simp) (Xqo _) rfl ⟨Fz.same rfl,Fz.same rfl,Fz.same rfl,Fz.same rfl,trivial⟩
  (eU (oO rfl (FB (.cons (.fit (Ic rfl) (.sl _ _ _)) (.cons (.same rfl) (.cons (.same rfl) .nil))) rfl (eU (eU rfl)))))
 have h:=ag.forget (en':= [(4,_),(7,_),(8,_),(9,_)]) (hp':= [(0,_),(1,_),(2,_),(3,_)]) 4 _ h (by simp) (Xqo _) rfl ⟨Fz.same rfl,Fz.same rfl,Fz.same rfl,Fz.same rfl,trivial⟩
  (eU (Q3 (.cons (.same rfl) (.cons (.fit .ref (.sl _ _ _)) (.cons (.fit (.same rfl) (.nilS _ rfl)) .nil))) (eU (eU rfl))))
 have h:=ag.forget (en':= [(4,_),(7,_),(8,_),(9,_)]) (hp':= [(0,_),(1,_),(2,_)]) 3 _ h (by simp) (Xqo _) rfl ⟨Fz.same rfl,Fz.same rfl,Fz.same rfl,Fz.same rfl,trivial⟩
  (eU (FB (.cons (.fit (Ic rfl) (.sl _ _ _)) (.cons (.same rfl) (.cons (.same rfl) .nil))) rfl (eU rfl)))
 exact h
theorem Zu {nt:Nat} {a:Code} {s:St} {i g f:Int} {L0 L1 M0 M1:List Lk} (b:L0.length=11) (d:L1.length=11) (e:M0.length=11) (c:M1.length=11) (h:ag prog ap [] nt a s .normal ⟨[(4,.ptr 0 0 0),(7,.bool true),(8,.ptr 1 0 0),(9,.ptr 2 0 0)],[(0,⟨[ω i,ω g,ω f],0,false,0,0,true⟩),(1,⟨[.nilS,.ref 3 0 0 2,.nilS],0,false,0,0,false⟩),(2,⟨[.nilS,.ref 4 0 0 2,.nilS],0,false,0,0,false⟩),(3,⟨[.ref 5 0 0 11,.ref 6 0 0 11],0,false,0,1,false⟩),(4,⟨[.ref 7 0 0 11,.ref 8 0 0 11],0,false,0,1,false⟩),(5,⟨(bP L0),0,false,0,6,true⟩),(6,⟨(bP L1),0,false,0,6,true⟩),(7,⟨(bP M0),0,false,0,6,true⟩),(8,⟨(bP M1),0,false,0,6,true⟩)],.dead,[]⟩):ag prog ap [] nt a s .normal (tU [ω i,ω g,ω f] [.sl (bq []) 0 false,.sl (eM [L0,L1]) 2 false,.sl [] 0 false] [.sl (bq []) 0 false,.sl (eM [M0,M1]) 2 false,.sl [] 0 false]):=by
 have h:=ag.forget (en':= [(4,_),(7,_),(8,_),(9,_)]) (hp':= [(0,_),(1,_),(2,_),(3,_),(4,_),(5,_),(6,_),(7,_)]) 8 _ h (by simp) (Xqo _) rfl ⟨Fz.same rfl,Fz.same rfl,Fz.same rfl,Fz.same rfl,trivial⟩
  (eU (oO rfl (oO rfl (oO rfl (Q3 (.cons (.same rfl) (.cons (oE c) .nil)) (eU (eU (eU rfl))))))))
 have h:=ag.forget (en':= [(4,_),(7,_),(8,_),(9,_)]) (hp':= [(0,_),(1,_),(2,_),(3,_),(4,_),(5,_),(6,_)]) 7 _ h (by simp) (Xqo _) rfl ⟨Fz.same rfl,Fz.same rfl,Fz.same rfl,Fz.same rfl,trivial⟩
  (eU (oO rfl (oO rfl (oO rfl (FB (.cons (oE e) (.cons (.same rfl) .nil)) rfl (eU (eU rfl)))))))
 have h:=ag.forget (en':= [(4,_),(7,_),(8,_),(9,_)]) (hp':= [(0,_),(1,_),(2,_),(3,_),(4,_),(5,_)]) 6 _ h (by simp) (Xqo _) rfl ⟨Fz.same rfl,Fz.same rfl,Fz.same rfl,Fz.same rfl,trivial⟩
  (eU (oO rfl (oO rfl (Q3 (.cons (.same rfl) (.cons (oE d) .nil)) (eU (eU rfl))))))
 have h:=ag.forget (en':= [(4,_),(7,_),(8,_),(9,_)]) (hp':= [(0,_),(1,_),(2,_),(3,_),(4,_)]) 5 _ h (by simp) (Xqo _) rfl ⟨Fz.same rfl,Fz.same rfl,Fz.same rfl,Fz.same rfl,trivial⟩
  (eU (oO rfl (oO rfl (FB (.cons (oE b) (.cons (.same rfl) .nil)) rfl (eU rfl)))))
 have h:=ag.forget (en':= [(4,_),(7,_),(8,_),(9,_)]) (hp':= [(0,_),(1,_),(2,_),(3,_)]) 4 _ h (by simp) (Xqo _) rfl ⟨Fz.same rfl,Fz.same rfl,Fz.same rfl,Fz.same rfl,trivial⟩
  (eU (oO rfl (FB (.cons (.fit (.same rfl) (.nilS _ rfl)) (.cons (.fit .ref (.sl _ _ _)) (.cons (.fit (.same rfl) (.nilS _ rfl)) .nil))) rfl (eU rfl))))
 have h:=ag.forget (en':= [(4,_),(7,_),(8,_),(9,_)]) (hp':= [(0,_),(1,_),(2,_)]) 3 _ h (by simp) (Xqo _) rfl ⟨Fz.same rfl,Fz.same rfl,Fz.same rfl,Fz.same rfl,trivial⟩
  (eU (FB (.cons (.fit (.same rfl) (.nilS _ rfl)) (.cons (.fit .ref (.sl _ _ _)) (.cons (.fit (.same rfl) (.nilS _ rfl)) .nil))) rfl (eU rfl)))
 exact h
theorem Zt {nt:Nat} {b:Code} {s:St} {j i g:Int} {a:aP} {r:List aP} {L0 L1 M0 M1:List Lk} (c:L0.length=11) (e:L1.length=11) (f:M0.length=11) (d:M1.length=11) (h:ag prog ap [] nt b s .normal ⟨[(4,.ptr 0 0 0),(7,.bool true),(8,.ptr 1 0 0),(9,.ptr 2 0 0)],[(0,⟨[ω j,ω i,ω g],0,false,0,0,true⟩),(1,⟨[.ref 3 0 0 (a::r).length,.ref 4 0 0 2,.nilS],0,false,0,0,false⟩),(2,⟨[.ref 5 0 0 (a::r).length,.ref 6 0 0 2,.nilS],0,false,0,0,false⟩),(3,⟨(bq (a::r)),0,false,0,14,true⟩),(4,⟨[.ref 7 0 0 11,.ref 8 0 0 11],0,false,0,1,false⟩),(5,⟨(bq (a::r)),0,false,0,14,true⟩),(6,⟨[.ref 9 0 0 11,.ref 10 0 0 11],0,false,0,1,false⟩),(7,⟨(bP L0),0,false,0,6,true⟩),(8,⟨(bP L1),0,false,0,6,true⟩),(9,⟨(bP M0),0,false,0,6,true⟩),(10,⟨(bP M1),0,false,0,6,true⟩)],.dead,[]⟩):ag prog ap [] nt b s .normal (tU [ω j,ω i,ω g] [.sl (bq (a::r)) (a::r).length false,.sl (eM [L0,L1]) 2 false,.sl [] 0 false] [.sl (bq (a::r)) (a::r).length false,.sl (eM [M0,M1]) 2 false,.sl [] 0 false]):=by
 have h:=ag.forget (en':= [(4,_),(7,_),(8,_),(9,_)]) (hp':= [(0,_),(1,_),(2,_),(3,_),(4,_),(5,_),(6,_),(7,_),(8,_),(9,_)]) 10 _ h (by simp) (Xqo _) rfl ⟨Fz.same rfl,Fz.same rfl,Fz.same rfl,Fz.same rfl,trivial⟩
  (eU (oO rfl (oO rfl (eU (oO rfl (eU (Q3 (.cons (.same rfl) (.cons (oE d) .nil)) (eU (eU (eU rfl))))))))))
 have h:=ag.forget (en':= [(4,_),(7,_),(8,_),(9,_)]) (hp':= [(0,_),(1,_),(2,_),(3,_),(4,_),(5,_),(6,_),(7,_),(8,_)]) 9 _ h (by simp) (Xqo _) rfl ⟨Fz.same rfl,Fz.same rfl,Fz.same rfl,Fz.same rfl,trivial⟩
  (eU (oO rfl (oO rfl (eU (oO rfl (eU (FB (.cons (oE f) (.cons (.same rfl) .nil)) rfl (eU (eU rfl)))))))))
 have h:=ag.forget (en':= [(4,_),(7,_),(8,_),(9,_)]) (hp':= [(0,_),(1,_),(2,_),(3,_),(4,_),(5,_),(6,_),(7,_)]) 8 _ h (by simp) (Xqo _) rfl ⟨Fz.same rfl,Fz.same rfl,Fz.same rfl,Fz.same rfl,trivial⟩
  (eU (oO rfl (oO rfl (eU (Q3 (.cons (.same rfl) (.cons (oE e) .nil)) (eU (eU (eU rfl))))))))
 have h:=ag.forget (en':= [(4,_),(7,_),(8,_),(9,_)]) (hp':= [(0,_),(1,_),(2,_),(3,_),(4,_),(5,_),(6,_)]) 7 _ h (by simp) (Xqo _) rfl ⟨Fz.same rfl,Fz.same rfl,Fz.same rfl,Fz.same rfl,trivial⟩
  (eU (oO rfl (oO rfl (eU (FB (.cons (oE c) (.cons (.same rfl) .nil)) rfl (eU (eU rfl)))))))
 have h:=ag.forget (en':= [(4,_),(7,_),(8,_),(9,_)]) (hp':= [(0,_),(1,_),(2,_),(3,_),(4,_),(5,_)]) 6 _ h (by simp) (Xqo _) rfl ⟨Fz.same rfl,Fz.same rfl,Fz.same rfl,Fz.same rfl,trivial⟩
  (eU (oO rfl (Q3 (.cons (.same rfl) (.cons (.fit .ref (.sl _ _ _)) (.cons (.fit (.same rfl) (.nilS _ rfl)) .nil))) (eU (eU (eU rfl))))))
 have h:=ag.forget (en':= [(4,_),(7,_),(8,_),(9,_)]) (hp':= [(0,_),(1,_),(2,_),(3,_),(4,_)]) 5 _ h (by simp) (Xqo _) rfl ⟨Fz.same rfl,Fz.same rfl,Fz.same rfl,Fz.same rfl,trivial⟩
  (eU (oO rfl (FB (.cons (.fit (Ic rfl) (.sl _ _ _)) (.cons (.same rfl) (.cons (.same rfl) .nil))) rfl (eU (eU rfl)))))
 have h:=ag.forget (en':= [(4,_),(7,_),(8,_),(9,_)]) (hp':= [(0,_),(1,_),(2,_),(3,_)]) 4 _ h (by simp) (Xqo _) rfl ⟨Fz.same rfl,Fz.same rfl,Fz.same rfl,Fz.same rfl,trivial⟩
  (eU (Q3 (.cons (.same rfl) (.cons (.fit .ref (.sl _ _ _)) (.cons (.fit (.same rfl) (.nilS _ rfl)) .nil))) (eU (eU rfl))))
 have h:=ag.forget (en':= [(4,_),(7,_),(8,_),(9,_)]) (hp':= [(0,_),(1,_),(2,_)]) 3 _ h (by simp) (Xqo _) rfl ⟨Fz.same rfl,Fz.same rfl,Fz.same rfl,Fz.same rfl,trivial⟩
  (eU (FB (.cons (.fit (Ic rfl) (.sl _ _ _)) (.cons (.same rfl) (.cons (.same rfl) .nil))) rfl (eU rfl)))
 exact h
def HX (mo m0 m1:Nat) (z0 z1:Rw):Prop:=CO 27 [ω (γ .i64 (mo:Int))] (.ret (.agg [.bool false,.str (ae mo),.str (ae 1)]))/\CO 22 [.agg [.bool false,.str (ae m0),.str (ae 1)],.agg [.bool false,.str (ae mo),.str (ae 1)]] (.ret (.agg z0.c))/\CO 22 [.agg [.bool false,.str (ae m1),.str (ae 1)],.agg [.bool false,.str (ae mo),.str (ae 1)]] (.ret (.agg z1.c))
def dW (m0 m2:Nat) (y z0:Rw):List Lk:=(bT m0 m2 y).set 8 ⟨5,[120],z0.n,z0.a,z0.d,0⟩
def lm (m1 m2:Nat) (y z1:Rw):List Lk:=(eF m1 m2 y).set 8 ⟨5,[120],z1.n,z1.a,z1.d,0⟩
theorem Zm (l:List (List Int)) (h:Bool) (d c b:Int) (g m0 i a:Nat) (y e j:Rw) (f:HX g m0 i e j):LB 136 0 f9 ⟨[(0,.sl (eY l) l.length h),(1,.agg [ω d,ω c,ω b]),(2,.int .u8 (g:Int)),(4,.ptr 0 0 0),(6,.bool false),(7,.bool true),(8,.ptr 1 0 0),(9,.ptr 2 0 0),(10,ω 0),(11,.dead),(12,.dead),(13,.dead),(15,.dead),(16,.dead),(18,.dead),(30,.dead),(41,.dead),(67,.dead),(97,.dead),(108,.dead)],[(0,⟨[ω d,ω c,ω b],0,false,0,0,true⟩),(1,⟨[.nilS,.ref 3 0 0 1,.nilS],0,false,0,0,false⟩),(2,⟨[.nilS,.ref 4 0 0 1,.nilS],0,false,0,0,false⟩),(3,⟨[.ref 5 0 0 11],0,false,0,1,false⟩),(4,⟨[.ref 6 0 0 11],0,false,0,1,false⟩),(5,⟨(bP (bT m0 a y)),0,false,0,6,true⟩),(6,⟨(bP (bT m0 a y)),0,false,0,6,true⟩)],.dead,[]⟩ (.normal) (tU [ω d,ω c,ω b] [.sl (bq []) 0 false,.sl (eM [bT m0 a y]) 1 false,.sl [] 0 false] [.sl (bq []) 0 false,.sl (eM [dW m0 a y e]) 1 false,.sl [] 0 false]):=λnt k=>
 Zs (L0:=(bT m0 a y)) (M0:=(dW m0 a y e)) rfl rfl (pN 9 [] 36 7487431827 (.n 200 .nil) (.c f.2.1 (.c f.1 .nil)) k)
theorem Zl (a:aP) (r:List aP) (l:List (List Int)) (i:Bool) (e d c:Int) (h m0 j b:Nat) (y f k:Rw) (g:HX h m0 j f k):LB 136 0 f9 ⟨[(0,.sl (eY l) l.length i),(1,.agg [ω e,ω d,ω c]),(2,.int .u8 (h:Int)),(4,.ptr 0 0 0),(6,.bool false),(7,.bool true),(8,.ptr 1 0 0),(9,.ptr 2 0 0),(10,ω 0),(11,.dead),(12,.dead),(13,.dead),(15,.dead),(16,.dead),(18,.dead),(30,.dead),(41,.dead),(67,.dead),(97,.dead),(108,.dead)],[(0,⟨[ω e,ω d,ω c],0,false,0,0,true⟩),(1,⟨[.ref 3 0 0 (a::r).length,.ref 4 0 0 1,.nilS],0,false,0,0,false⟩),(2,⟨[.ref 5 0 0 (a::r).length,.ref 6 0 0 1,.nilS],0,false,0,0,false⟩),(3,⟨(bq (a::r)),0,false,0,14,true⟩),(4,⟨[.ref 7 0 0 11],0,false,0,1,false⟩),(5,⟨(bq (a::r)),0,false,0,14,true⟩),(6,⟨[.ref 8 0 0 11],0,false,0,1,false⟩),(7,⟨(bP (bT m0 b y)),0,false,0,6,true⟩),(8,⟨(bP (bT m0 b y)),0,false,0,6,true⟩)],.dead,[]⟩ (.normal) (tU [ω e,ω d,ω c] [.sl (bq (a::r)) (a::r).length false,.sl (eM [bT m0 b y]) 1 false,.sl [] 0 false] [.sl (bq (a::r)) (a::r).length false,.sl (eM [dW m0 b y f]) 1 false,.sl [] 0 false]):=λnt m=>
 Zr (L0:=(bT m0 b y)) (M0:=(dW m0 b y f)) rfl rfl (pN 9 [] 36 7487431827 (.n 200 .nil) (.c g.2.1 (.c g.1 .nil)) m)
theorem Zo (l:List (List Int)) (j:Bool) (f e d:Int) (i m0 b a:Nat) (y h g:Rw) (c:HX i m0 b h g):LB 136 0 f9 ⟨[(0,.sl (eY l) l.length j),(1,.agg [ω f,ω e,ω d]),(2,.int .u8 (i:Int)),(4,.ptr 0 0 0),(6,.bool false),(7,.bool true),(8,.ptr 1 0 0),(9,.ptr 2 0 0),(10,ω 0),(11,.dead),(12,.dead),(13,.dead),(15,.dead),(16,.dead),(18,.dead),(30,.dead),(41,.dead),(67,.dead),(97,.dead),(108,.dead)],[(0,⟨[ω f,ω e,ω d],0,false,0,0,true⟩),(1,⟨[.nilS,.ref 3 0 0 2,.nilS],0,false,0,0,false⟩),(2,⟨[.nilS,.ref 4 0 0 2,.nilS],0,false,0,0,false⟩),(3,⟨[.ref 5 0 0 11,.ref 6 0 0 11],0,false,0,1,false⟩),(4,⟨[.ref 7 0 0 11,.ref 8 0 0 11],0,false,0,1,false⟩),(5,⟨(bP (bT m0 a y)),0,false,0,6,true⟩),(6,⟨(bP (eF b a y)),0,false,0,6,true⟩),(7,⟨(bP (bT m0 a y)),0,false,0,6,true⟩),(8,⟨(bP (eF b a y)),0,false,0,6,true⟩)],.dead,[]⟩ (.normal) (tU [ω f,ω e,ω d] [.sl (bq []) 0 false,.sl (eM [bT m0 a y,eF b a y]) 2 false,.sl [] 0 false] [.sl (bq []) 0 false,.sl (eM [dW m0 a y h,lm b a y g]) 2 false,.sl [] 0 false]):=λnt k=>
 Zu (L0:=(bT m0 a y)) (L1:=(eF b a y)) (M0:=(dW m0 a y h)) (M1:=(lm b a y g)) rfl rfl rfl rfl (pN 9 [] 71 257266198631443670163 (.n 398 .nil) (.c c.2.2 (.c c.1 (.c c.2.1 (.c c.1 .nil)))) k)
theorem Zn (a:aP) (r:List aP) (l:List (List Int)) (k:Bool) (g f e:Int) (j m0 c b:Nat) (y i h:Rw) (d:HX j m0 c i h):LB 136 0 f9 ⟨[(0,.sl (eY l) l.length k),(1,.agg [ω g,ω f,ω e]),(2,.int .u8 (j:Int)),(4,.ptr 0 0 0),(6,.bool false),(7,.bool true),(8,.ptr 1 0 0),(9,.ptr 2 0 0),(10,ω 0),(11,.dead),(12,.dead),(13,.dead),(15,.dead),(16,.dead),(18,.dead),(30,.dead),(41,.dead),(67,.dead),(97,.dead),(108,.dead)],[(0,⟨[ω g,ω f,ω e],0,false,0,0,true⟩),(1,⟨[.ref 3 0 0 (a::r).length,.ref 4 0 0 2,.nilS],0,false,0,0,false⟩),(2,⟨[.ref 5 0 0 (a::r).length,.ref 6 0 0 2,.nilS],0,false,0,0,false⟩),(3,⟨(bq (a::r)),0,false,0,14,true⟩),(4,⟨[.ref 7 0 0 11,.ref 8 0 0 11],0,false,0,1,false⟩),(5,⟨(bq (a::r)),0,false,0,14,true⟩),(6,⟨[.ref 9 0 0 11,.ref 10 0 0 11],0,false,0,1,false⟩),(7,⟨(bP (bT m0 b y)),0,false,0,6,true⟩),(8,⟨(bP (eF c b y)),0,false,0,6,true⟩),(9,⟨(bP (bT m0 b y)),0,false,0,6,true⟩),(10,⟨(bP (eF c b y)),0,false,0,6,true⟩)],.dead,[]⟩ (.normal) (tU [ω g,ω f,ω e] [.sl (bq (a::r)) (a::r).length false,.sl (eM [bT m0 b y,eF c b y]) 2 false,.sl [] 0 false] [.sl (bq (a::r)) (a::r).length false,.sl (eM [dW m0 b y i,lm c b y h]) 2 false,.sl [] 0 false]):=λnt m=>
 Zt (L0:=(bT m0 b y)) (L1:=(eF c b y)) (M0:=(dW m0 b y i)) (M1:=(lm c b y h)) rfl rfl rfl rfl (pN 9 [] 71 257266198631443670163 (.n 398 .nil) (.c d.2.2 (.c d.1 (.c d.2.1 (.c d.1 .nil)))) m)
def sqX (x:aP):Nat:=dF (mn bY) (mz bY) x.body [] 5 [120]
theorem XF (x:aP) (h:x.sm):CO 28 [.sl (aO x.body) x.body.length false,.nilS,ω 5,.str [120]] (.ret (ω ((sqX x:Nat):Int))):=
 az.args (.cons (bC.refl _) (.cons (bC.nilS false rfl) (.cons (bC.refl _) (.cons (bC.refl _) .nil)))) (nT x.body false [] false bY 5 [120] h.body h.len rfl)
def g4S (f0 f1 f2:Int) (es:List aP) (ss tt:List (List Lk)) (ns:Nat) (p:Nat × Unit):St:=⟨[(4,.ptr 0 0 0),(7,.bool true),(8,.ptr 1 0 0),(9,.ptr 2 0 0),(12,ω (p.1:Int))],[(0,⟨[ω f0,ω f1,ω f2],0,false,0,0,true⟩),(1,⟨[.sl (bq es) es.length false,.sl (eM ss) ns false,.sl [] 0 false],0,false,0,0,true⟩),(2,⟨[.sl (bq es) es.length false,.sl (eM tt) ns false,.sl [] 0 false],0,false,0,0,true⟩)],.dead,[]⟩
def QW (f0 f1 f2:Int) (es:List aP) (ss tt:List (List Lk)) (ns:Nat):Bool->St
 |true=>(tU [.int .i64 f0,.int .i64 f1,.int .i64 f2] [.sl (bq es) es.length false,.sl (eM ss) ns false,.sl [] 0 false] [.sl (bq es) es.length false,.sl (eM tt) ns false,.sl [] 0 false])
 |false=>(Fb true)
def QV:Bool->a_
 |true=> .exit 4
 |false=> .ret
def PU (_:Unit) (x:aP):Unit ⊕ Bool:=if decide (((1:Nat):Int)<((sqX x:Nat):Int))=true then .inr false else .inl ()
theorem wV {nt:Nat} (i:136<=nt) (b g d:Int) (es:List aP) (ss c:List (List Lk)) (e:Nat) (l:es.length<2^39) (h:∀ x ∈ es,x.sm):aB prog ap [] nt (af 4 (am f9)) QV (g4S b g d es ss c e) (QW b g d es ss c e) (0,()) (goL PU (λ_=>true) es ()):=by
 refine aB.goD PU (λ_=>true) es (λ_ _=>True) ?_ ?_ () trivial
 .intro p x r _ a _;have j:(ε ((δ (p.length:Int))*14) (bq es))=PT x++bq r:=cQ uz a;have f:(decide ((p.length:Int)<(es.length:Int)))=true:=kl (mV a);have cs:=XF x (h x (by rw [a];simp));have m:p.length<2^62:=by have:=mV a;omega
  show (∃ s',_/\ag _ _ _ _ _ (g4S b g d es ss c e (p.length,())) _ _/\_)\/∃ q,_/\ag _ _ _ _ _ (g4S b g d es ss c e (p.length,())) _ _;generalize p.length=k at*
  clear a;rcases tf (decide (((1:Nat):Int)<((sqX x:Nat):Int))) with b0|b0
  .exact .inr ⟨false,by rw [PU,if_pos b0],pN 9 [] 2 3 (.c (ax b0) (.k 1 (k0 k) (.c f (.k 1 (ax f) (.n 1 .nil))))) (.c cs (.v 103 (.ppt j) .nil)) i⟩
  .exact .inl ⟨(),by rw [PU,if_neg (by rw [b0];decide)],pN 9 [] 2 1 (.c (aw b0) (.k 1 (k0 k) (.c f (.k 1 (ax f) (.n 1 .nil))))) (.v 99 (.eq (ku m)) (.c cs (.v 103 (.ppt j) .nil))) i,trivial⟩
 .intro _ _;exact pN 9 [] 1 0 (.c (aw (kn (κ es.length))) (.n 1 .nil)) (.nil) i
theorem yo:∀ {es:List aP},goL PU (λ_=>true) es ()=true->∀ x ∈ es,sqX x<=1
 | [],_,x,hx=>by cases hx
 | y::es,h,x,hx=>by
  simp only [goL,PU] at h;by_cases hb:decide (((1:Nat):Int)<((sqX y:Nat):Int))=true
  .rw [if_pos hb] at h;cases h
  .rw [if_neg hb] at h;rcases List.mem_cons.1 hx with rfl|hx
   .simp only [decide_eq_true_eq] at hb;omega
   .exact yo h x hx
def U6 (n:List UInt8) (ss tt:List (List Lk)):Prop:=∀ i,FH n (ss.getD i []) (tt.getD i [])
theorem wW {es:List aP} {ss a:List (List Lk)} {n:List UInt8} (f:fB es ss) (d:fB es a) (g:∀ x ∈ es,mF x) (j:a.length=ss.length) (B:U6 n ss a) (t:∀ x ∈ es,dF (mn bY) (mz bY) x.body [] 5 n<=1):
  (∃ ev:Int,(ev==((0:Nat):Int))=false/\CO 23 [fR es ss false false] (.ret (.tup [.nilS,.nilS,ω ev]))/\((∃ ew:Int,CO 23 [fR es a false false] (.ret (.tup [.nilS,.nilS,ω ew])))\/∃ (w:List Rw) (cw:List (List Rw)),CO 23 [fR es a false false] (.ret (.tup [.sl (cg w) w.length false,.sl (lV cw) cw.length false,ω 0]))))\/
  ∃ (v:List Rw) (cv:List (List Rw)),CO 23 [fR es ss false false] (.ret (.tup [.sl (cg v) v.length false,.sl (lV cv) cv.length false,ω 0]))/\((∃ ew:Int,(ew==((0:Nat):Int))=false/\CO 23 [fR es a false false] (.ret (.tup [.nilS,.nilS,ω ew])))\/∃ (w:List Rw) (cw:List (List Rw)),CO 23 [fR es a false false] (.ret (.tup [.sl (cg w) w.length false,.sl (lV cw) cw.length false,ω 0]))/\CO 24 [.sl (cg v) v.length false,.sl (cg w) w.length false] (.ret (.bool true))):=by
 have p:∀ {ss:List (List Lk)} {c:List (List Rw)} {v:List Rw},fB es ss->c.getLast? =some v->rG ss es (.inr c)->CO 23 [fR es ss false false] (.ret (.tup [.sl (cg v) v.length false,.sl (lV c) c.length false,ω 0])):=λf C u=>by
  have:=mA es _ false false f u;rw [uF,C,Option.getD_some] at this;exact this
 rcases yG f with ⟨e,A,o⟩|⟨c,v,h0,r,i,hlast,l,D,y,o⟩
 .refine .inl ⟨e,beq_eq_false_iff_ne.2 A,mA es ss false false f o, ?_⟩;rcases yG d with ⟨s,h,b⟩|⟨q,w,_,_,_,hlast2,_,_,_,b⟩
  .exact .inl ⟨s,mA es a false false d b⟩
  .exact .inr ⟨w,q,p d hlast2 b⟩
 .refine .inr ⟨v,c,p f hlast o, ?_⟩;rcases yG d with ⟨s,h,b⟩|⟨q,w,_,_,_,hlast2,k,m,z,b⟩
  .exact .inl ⟨s,beq_eq_false_iff_ne.2 h,mA es a false false d b⟩
  .refine .inr ⟨w,q,p d hlast2 b, ?_⟩;have cl:=Rl v w false false (by have:=l.len;have:=f.len;omega) (zw g l) (zw g k);rw [J7 r j B t i hlast k m] at cl;exact cl
theorem Wa (l:List (List Int)) (q:Bool) (d e f:Int) (s m0 u a:Nat) (y c z:Rw) (E:HX s m0 u c z) (cs:CO 10 [] (.ret (.bool true))) (b:az prog ap 11 [.sl (eY l) l.length q,.agg [ω d,ω e,ω f]] [] (.ret (.agg [.nilS,.ref 1 0 0 1,.nilS])) [⟨[.nilS,.ref 1 0 0 1,.nilS],0,false,0,0,false⟩,⟨[.ref 2 0 0 11],0,false,0,1,false⟩,⟨(bP (bT m0 a y)),0,false,0,6,true⟩]) (t:fB [] [bT m0 a y]) (A:fB [] [dW m0 a y c]) (o:∀ x ∈ ([]:List aP),mF x) (D:U6 [120] [bT m0 a y] [dW m0 a y c]):CO 9 [.sl (eY l) l.length q,.agg [ω d,ω e,ω f],.int .u8 (s:Int)] (.ret (.bool true)):=by
 have k:=Zm l q d e f s m0 u a y c z E;have m:=λnt (hn:136<=nt)=>wV hn d e f [] [bT m0 a y] [dW m0 a y c] 1 t.len t.sm
 cases p:goL PU (λ_=>true) [] () with
 |false=>
  rw [p] at m;have h:LB 136 4 f9 (wh [ω d,ω e,ω f] [.sl (bq []) 0 false,.sl (eM [bT m0 a y]) 1 false,.sl [] 0 false] [.sl (bq []) 0 false,.sl (eM [dW m0 a y c]) 1 false,.sl [] 0 false]) (.ret) (QW d e f [] [bT m0 a y] [dW m0 a y c] 1 false):=aB.blk (id:=4) (e':= .ret) m (by simp [QV]) rfl (aD.of ⟨rfl,rfl,rfl,rfl,rfl,trivial⟩) (aD.refl _);exact pK [0,4] 0 0 (.n 8 .nil) (.l h (.l k (.c b (.c b (.c cs .nil)))))
 |true=>
  rw [p] at m;have h:LB 136 4 f9 (wh [ω d,ω e,ω f] [.sl (bq []) 0 false,.sl (eM [bT m0 a y]) 1 false,.sl [] 0 false] [.sl (bq []) 0 false,.sl (eM [dW m0 a y c]) 1 false,.sl [] 0 false]) (.normal) (QW d e f [] [bT m0 a y] [dW m0 a y c] 1 true):=aB.blk (id:=4) (e':= .normal) m (by simp [QV]) rfl (aD.of ⟨rfl,rfl,rfl,rfl,rfl,trivial⟩) (aD.refl _);rcases wW t A o rfl D (yo p) with ⟨F,i,j,⟨C,g⟩|⟨w,B,g⟩⟩|⟨v,cv,j,⟨C,r,g⟩|⟨w,B,g,cl⟩⟩
  .exact pK [0,4] 3 7 (.k 1 (bu i) (.n 15 .nil)) (.c g (.c j (.l h (.l k (.c b (.c b (.c cs .nil)))))))
  .exact pK [0,4] 3 7 (.k 1 (bu i) (.n 15 .nil)) (.c g (.c j (.l h (.l k (.c b (.c b (.c cs .nil)))))))
  .exact pK [0,4] 3 5 (.c (bu r) (.n 16 .nil)) (.c g (.c j (.l h (.l k (.c b (.c b (.c cs .nil)))))))
  .exact pK [0,4] 3 1 (.n 17 .nil) (.c cl (.c g (.c j (.l h (.l k (.c b (.c b (.c cs .nil))))))))
theorem V_ (a:aP) (r:List aP) (l:List (List Int)) (s:Bool) (e f g:Int) (u m0 A b:Nat) (y d B:Rw) (G:HX u m0 A d B) (cs:CO 10 [] (.ret (.bool true))) (c:az prog ap 11 [.sl (eY l) l.length s,.agg [ω e,ω f,ω g]] [] (.ret (.agg [.ref 1 0 0 (a::r).length,.ref 2 0 0 1,.nilS])) [⟨[.ref 1 0 0 (a::r).length,.ref 2 0 0 1,.nilS],0,false,0,0,false⟩,⟨(bq (a::r)),0,false,0,14,true⟩,⟨[.ref 3 0 0 11],0,false,0,1,false⟩,⟨(bP (bT m0 b y)),0,false,0,6,true⟩]) (z:fB (a::r) [bT m0 b y]) (C:fB (a::r) [dW m0 b y d]) (p:∀ x ∈ ((a::r):List aP),mF x) (F:U6 [120] [bT m0 b y] [dW m0 b y d]):CO 9 [.sl (eY l) l.length s,.agg [ω e,ω f,ω g],.int .u8 (u:Int)] (.ret (.bool true)):=by
 have m:=Zl a r l s e f g u m0 A b y d B G;have o:=λnt (hn:136<=nt)=>wV hn e f g (a::r) [bT m0 b y] [dW m0 b y d] 1 z.len z.sm
 cases q:goL PU (λ_=>true) (a::r) () with
 |false=>
  rw [q] at o;have i:LB 136 4 f9 (wh [ω e,ω f,ω g] [.sl (bq (a::r)) (a::r).length false,.sl (eM [bT m0 b y]) 1 false,.sl [] 0 false] [.sl (bq (a::r)) (a::r).length false,.sl (eM [dW m0 b y d]) 1 false,.sl [] 0 false]) (.ret) (QW e f g (a::r) [bT m0 b y] [dW m0 b y d] 1 false):=aB.blk (id:=4) (e':= .ret) o (by simp [QV]) rfl (aD.of ⟨rfl,rfl,rfl,rfl,rfl,trivial⟩) (aD.refl _);exact pK [0,4] 0 0 (.n 8 .nil) (.l i (.l m (.c c (.c c (.c cs .nil)))))
 |true=>
  rw [q] at o;have i:LB 136 4 f9 (wh [ω e,ω f,ω g] [.sl (bq (a::r)) (a::r).length false,.sl (eM [bT m0 b y]) 1 false,.sl [] 0 false] [.sl (bq (a::r)) (a::r).length false,.sl (eM [dW m0 b y d]) 1 false,.sl [] 0 false]) (.normal) (QW e f g (a::r) [bT m0 b y] [dW m0 b y d] 1 true):=aB.blk (id:=4) (e':= .normal) o (by simp [QV]) rfl (aD.of ⟨rfl,rfl,rfl,rfl,rfl,trivial⟩) (aD.refl _);rcases wW z C p rfl F (yo q) with ⟨I,j,k,⟨E,h⟩|⟨w,D,h⟩⟩|⟨v,cv,k,⟨E,t,h⟩|⟨w,D,h,cl⟩⟩
  .exact pK [0,4] 3 7 (.k 1 (bu j) (.n 15 .nil)) (.c h (.c k (.l i (.l m (.c c (.c c (.c cs .nil)))))))
  .exact pK [0,4] 3 7 (.k 1 (bu j) (.n 15 .nil)) (.c h (.c k (.l i (.l m (.c c (.c c (.c cs .nil)))))))
  .exact pK [0,4] 3 5 (.c (bu t) (.n 16 .nil)) (.c h (.c k (.l i (.l m (.c c (.c c (.c cs .nil)))))))
  .exact pK [0,4] 3 1 (.n 17 .nil) (.c cl (.c h (.c k (.l i (.l m (.c c (.c c (.c cs .nil))))))))
theorem Wc (l:List (List Int)) (s:Bool) (f g h:Int) (u m0 b a:Nat) (y e d:Rw) (E:HX u m0 b e d) (cs:CO 10 [] (.ret (.bool true))) (c:az prog ap 11 [.sl (eY l) l.length s,.agg [ω f,ω g,ω h]] [] (.ret (.agg [.nilS,.ref 1 0 0 2,.nilS])) [⟨[.nilS,.ref 1 0 0 2,.nilS],0,false,0,0,false⟩,⟨[.ref 2 0 0 11,.ref 3 0 0 11],0,false,0,1,false⟩,⟨(bP (bT m0 a y)),0,false,0,6,true⟩,⟨(bP (eF b a y)),0,false,0,6,true⟩]) (z:fB [] [bT m0 a y,eF b a y]) (A:fB [] [dW m0 a y e,lm b a y d]) (q:∀ x ∈ ([]:List aP),mF x) (D:U6 [120] [bT m0 a y,eF b a y] [dW m0 a y e,lm b a y d]):CO 9 [.sl (eY l) l.length s,.agg [ω f,ω g,ω h],.int .u8 (u:Int)] (.ret (.bool true)):=by
 have o:=Zo l s f g h u m0 b a y e d E;have p:=λnt (hn:136<=nt)=>wV hn f g h [] [bT m0 a y,eF b a y] [dW m0 a y e,lm b a y d] 2 z.len z.sm
 cases r:goL PU (λ_=>true) [] () with
 |false=>
  rw [r] at p;have j:LB 136 4 f9 (wh [ω f,ω g,ω h] [.sl (bq []) 0 false,.sl (eM [bT m0 a y,eF b a y]) 2 false,.sl [] 0 false] [.sl (bq []) 0 false,.sl (eM [dW m0 a y e,lm b a y d]) 2 false,.sl [] 0 false]) (.ret) (QW f g h [] [bT m0 a y,eF b a y] [dW m0 a y e,lm b a y d] 2 false):=aB.blk (id:=4) (e':= .ret) p (by simp [QV]) rfl (aD.of ⟨rfl,rfl,rfl,rfl,rfl,trivial⟩) (aD.refl _);exact pK [0,4] 0 0 (.n 8 .nil) (.l j (.l o (.c c (.c c (.c cs .nil)))))
 |true=>
  rw [r] at p;have j:LB 136 4 f9 (wh [ω f,ω g,ω h] [.sl (bq []) 0 false,.sl (eM [bT m0 a y,eF b a y]) 2 false,.sl [] 0 false] [.sl (bq []) 0 false,.sl (eM [dW m0 a y e,lm b a y d]) 2 false,.sl [] 0 false]) (.normal) (QW f g h [] [bT m0 a y,eF b a y] [dW m0 a y e,lm b a y d] 2 true):=aB.blk (id:=4) (e':= .normal) p (by simp [QV]) rfl (aD.of ⟨rfl,rfl,rfl,rfl,rfl,trivial⟩) (aD.refl _);rcases wW z A q rfl D (yo r) with ⟨F,k,m,⟨C,i⟩|⟨w,B,i⟩⟩|⟨v,cv,m,⟨C,t,i⟩|⟨w,B,i,cl⟩⟩
  .exact pK [0,4] 3 7 (.k 1 (bu k) (.n 15 .nil)) (.c i (.c m (.l j (.l o (.c c (.c c (.c cs .nil)))))))
  .exact pK [0,4] 3 7 (.k 1 (bu k) (.n 15 .nil)) (.c i (.c m (.l j (.l o (.c c (.c c (.c cs .nil)))))))
  .exact pK [0,4] 3 5 (.c (bu t) (.n 16 .nil)) (.c i (.c m (.l j (.l o (.c c (.c c (.c cs .nil)))))))
  .exact pK [0,4] 3 1 (.n 17 .nil) (.c cl (.c i (.c m (.l j (.l o (.c c (.c c (.c cs .nil))))))))
theorem Wb (a:aP) (r:List aP) (l:List (List Int)) (u:Bool) (g h i:Int) (A m0 c b:Nat) (y f e:Rw) (G:HX A m0 c f e) (cs:CO 10 [] (.ret (.bool true))) (d:az prog ap 11 [.sl (eY l) l.length u,.agg [ω g,ω h,ω i]] [] (.ret (.agg [.ref 1 0 0 (a::r).length,.ref 2 0 0 2,.nilS])) [⟨[.ref 1 0 0 (a::r).length,.ref 2 0 0 2,.nilS],0,false,0,0,false⟩,⟨(bq (a::r)),0,false,0,14,true⟩,⟨[.ref 3 0 0 11,.ref 4 0 0 11],0,false,0,1,false⟩,⟨(bP (bT m0 b y)),0,false,0,6,true⟩,⟨(bP (eF c b y)),0,false,0,6,true⟩]) (B:fB (a::r) [bT m0 b y,eF c b y]) (C:fB (a::r) [dW m0 b y f,lm c b y e]) (s:∀ x ∈ ((a::r):List aP),mF x) (F:U6 [120] [bT m0 b y,eF c b y] [dW m0 b y f,lm c b y e]):CO 9 [.sl (eY l) l.length u,.agg [ω g,ω h,ω i],.int .u8 (A:Int)] (.ret (.bool true)):=by
 have p:=Zn a r l u g h i A m0 c b y f e G;have q:=λnt (hn:136<=nt)=>wV hn g h i (a::r) [bT m0 b y,eF c b y] [dW m0 b y f,lm c b y e] 2 B.len B.sm
 cases t:goL PU (λ_=>true) (a::r) () with
 |false=>
  rw [t] at q;have k:LB 136 4 f9 (wh [ω g,ω h,ω i] [.sl (bq (a::r)) (a::r).length false,.sl (eM [bT m0 b y,eF c b y]) 2 false,.sl [] 0 false] [.sl (bq (a::r)) (a::r).length false,.sl (eM [dW m0 b y f,lm c b y e]) 2 false,.sl [] 0 false]) (.ret) (QW g h i (a::r) [bT m0 b y,eF c b y] [dW m0 b y f,lm c b y e] 2 false):=aB.blk (id:=4) (e':= .ret) q (by simp [QV]) rfl (aD.of ⟨rfl,rfl,rfl,rfl,rfl,trivial⟩) (aD.refl _);exact pK [0,4] 0 0 (.n 8 .nil) (.l k (.l p (.c d (.c d (.c cs .nil)))))
 |true=>
  rw [t] at q;have k:LB 136 4 f9 (wh [ω g,ω h,ω i] [.sl (bq (a::r)) (a::r).length false,.sl (eM [bT m0 b y,eF c b y]) 2 false,.sl [] 0 false] [.sl (bq (a::r)) (a::r).length false,.sl (eM [dW m0 b y f,lm c b y e]) 2 false,.sl [] 0 false]) (.normal) (QW g h i (a::r) [bT m0 b y,eF c b y] [dW m0 b y f,lm c b y e] 2 true):=aB.blk (id:=4) (e':= .normal) q (by simp [QV]) rfl (aD.of ⟨rfl,rfl,rfl,rfl,rfl,trivial⟩) (aD.refl _);rcases wW B C s rfl F (yo t) with ⟨I,m,o,⟨E,j⟩|⟨w,D,j⟩⟩|⟨v,cv,o,⟨E,z,j⟩|⟨w,D,j,cl⟩⟩
  .exact pK [0,4] 3 7 (.k 1 (bu m) (.n 15 .nil)) (.c j (.c o (.l k (.l p (.c d (.c d (.c cs .nil)))))))
  .exact pK [0,4] 3 7 (.k 1 (bu m) (.n 15 .nil)) (.c j (.c o (.l k (.l p (.c d (.c d (.c cs .nil)))))))
  .exact pK [0,4] 3 5 (.c (bu z) (.n 16 .nil)) (.c j (.c o (.l k (.l p (.c d (.c d (.c cs .nil)))))))
  .exact pK [0,4] 3 1 (.n 17 .nil) (.c cl (.c j (.c o (.l k (.l p (.c d (.c d (.c cs .nil))))))))
theorem NT (m:Nat):vQ false (ae m) (ae 1)=⟨false,m,1⟩:=by
 have ok:(⟨false,m,1⟩:RQ).ok:=⟨Yq7,Xw9 _,λh=>by cases h⟩
 have h:=fT ok;dsimp only at h;exact h
theorem WL (a b:Nat):iC ⟨false,a,1⟩ ⟨false,b,1⟩=⟨false,a+b,1⟩:=by
 have ok:∀ m,(⟨false,m,1⟩:RQ).ok:=λm=> ⟨Yq7,Xw9 _,λh=>by cases h⟩
 refine mi (eP (ok a) (ok b)) (ok _) ?_;rw [pV (ok a) (ok b)];unfold RQ.rt;simp only [Xqy,if_false];grind
theorem Hx {n:List UInt8} {b:Lk}:∀ {l:List Lk} {k:Nat} {a:Lk},l[k]? =some a->Tt n a b->FH n l (l.set k b)
 | [],_,_,h,_=>by simp at h
 |x::l,0,a,h,hk=>by simp at h;subst h;exact ⟨hk,FH.refl n l⟩
 |x::l,k+1,a,h,hk=> ⟨Tt.refl n x,Hx (l:=l) (k:=k) (by simpa using h) hk⟩
theorem aca (m a:Nat):Tt [120] ⟨5,[120],false,ae m,ae 1,0⟩ ⟨5,[120],false,ae (m+a),ae 1,0⟩:=by
 refine ⟨rfl,rfl,λh=>absurd ⟨rfl,rfl⟩ h,λp q hp b=> ?_⟩;have hp:oM false (ae m) (ae 1) 0= .val p:=hp;have b:oM false (ae (m+a)) (ae 1) 0= .val q:=b;have c:=qD (y:=⟨false,ae m,ae 1⟩) hp;have d:=qD (y:=⟨false,ae (m+a),ae 1⟩) b;rw [c,d];show (vQ false (ae m) (ae 1)).rt<=(vQ false (ae (m+a)) (ae 1)).rt;rw [NT,NT];unfold RQ.rt;simp only [Xqy,if_false];have:((m:Nat):Rat)<=((m+a:Nat):Rat):=by exact_mod_cast Nat.le_add_right m a
 grind
theorem acd {a:Nat} (h:a<256):ω (γ .i64 (a:Int))= ω (a:Int):=by rw [bi (by omega)]
theorem Yx {m a:Nat} (h:m<40) (c:a<256):CO 22 [Ω false (ae m) (ae 1),Ω false (ae a) (ae 1)] (.ret (.agg (Rw.c ⟨false,ae (m+a),ae 1⟩))):=by
 have hs:∀ k,k<65536->(ae k).length<=2:=λk b=>bN (k:=2) (by omega)
 have:=Iz false false (ae m) (ae 1) (ae a) (ae 1) (Xqs (hs _ (by omega)) (by decide)) (hs _ (by omega)) (Xqs (hs _ (by omega)) (by decide)) (Xqs (hs _ (by omega)) (by decide)) (by rw [NT];exact Xqs (hs 1 (by omega)) (by decide));rw [NT,NT,WL] at this;exact this
theorem O4 {l:List Lk} {k:Nat} {b:Lk} (h:∀ x ∈ l,x.a.length<2^36/\x.d.length<2^36) (a:b.a.length<2^36/\b.d.length<2^36):∀ x ∈ l.set k b,x.a.length<2^36/\x.d.length<2^36:=λx c=>by
 rcases List.mem_or_eq_of_mem_set c with h1|h1
 .exact h x h1
 .rw [h1];exact a
theorem Wd (cs:CO 10 [] (.ret (.bool true))) (l:List (List Int)) (u:Bool) (q s t:Int) (b:Nat) (p:b<256):CO 9 [.sl (eY l) l.length u,.agg [ω q,ω s,ω t],.int .u8 (b:Int)] (.ret (.bool true)):=by
 obtain ⟨es,m0,d,c,y,U,h0,K,L,w,C,T,g,I,E⟩:=Kg l u q s t;have m:CO 27 [ω (γ .i64 (b:Int))] (.ret (Ω false (ae b) (ae 1))):=by
  rw [acd p];exact bp b
 have j:=Yx h0 p;have h:=Yx K p;have F:=Ro h0 L w C;have M:=Rp K L w C;have Q:(ae (m0+b)).length<2^36/\(ae 1).length<2^36:=⟨lL,lL⟩
 have O:(ae (d+b)).length<2^36/\(ae 1).length<2^36:=⟨lL,lL⟩
 have J:∀ x ∈ dW m0 c y ⟨false,ae (m0+b),ae 1⟩,x.a.length<2^36/\x.d.length<2^36:=O4 F Q;have R:∀ x ∈ lm d c y ⟨false,ae (d+b),ae 1⟩,x.a.length<2^36/\x.d.length<2^36:=O4 M O;have u0:FH [120] (bT m0 c y) (dW m0 c y ⟨false,ae (m0+b),ae 1⟩):=Hx (k:=8) rfl (aca m0 b);have u1:FH [120] (eF d c y) (lm d c y ⟨false,ae (d+b),ae 1⟩):=Hx (k:=8) rfl (aca d b);have z:∀ x ∈ es,x.sm:=λx e=>(g x e).1
 have o:es.length<2^39:=by omega
 have S1:∀ {A:List Lk},A.length=11->(∀ x ∈ A,x.a.length<2^36/\x.d.length<2^36)->fB es [A]:=λG e=> ⟨o,z,λl f=>by rw [List.mem_singleton.1 f,G];decide,λl f=>by rw [List.mem_singleton.1 f];exact e⟩
 have S2:∀ {A B:List Lk},A.length=11->B.length=11->(∀ x ∈ A,x.a.length<2^36/\x.d.length<2^36)->(∀ x ∈ B,x.a.length<2^36/\x.d.length<2^36)->fB es [A,B]:=λG S e N=> ⟨o,z,λl f=>by
  rcases List.mem_cons.1 f with rfl|f
  .rw [G];decide
  .rw [List.mem_singleton.1 f,S];decide,λl f=>by
  rcases List.mem_cons.1 f with rfl|f
  .exact e
  .rw [List.mem_singleton.1 f];exact N⟩
 have U1:U6 [120] [bT m0 c y] [dW m0 c y ⟨false,ae (m0+b),ae 1⟩]:=λi=>match i with
  |0=>u0
  |_+1=>trivial
 have U2:U6 [120] [bT m0 c y,eF d c y] [dW m0 c y ⟨false,ae (m0+b),ae 1⟩,lm d c y ⟨false,ae (d+b),ae 1⟩]:=λi=>match i with
  |0=>u0
  |1=>u1
  |_+2=>trivial
 rcases I with rfl|rfl
 .have D:=S1 (A:=bT m0 c y) rfl F;have v:=S1 (A:=dW m0 c y ⟨false,ae (m0+b),ae 1⟩) rfl J;clear S1 S2;cases es with
  |nil=>exact Wa l u q s t b m0 d c y _ _ ⟨m,j,h⟩ cs E D v (λx e=>(g x e).2) U1
  |cons a r=>exact V_ a r l u q s t b m0 d c y _ _ ⟨m,j,h⟩ cs E D v (λx e=>(g x e).2) U1
 .have D:=S2 (A:=bT m0 c y) (B:=eF d c y) rfl rfl F M;have v:=S2 (A:=dW m0 c y ⟨false,ae (m0+b),ae 1⟩) (B:=lm d c y ⟨false,ae (d+b),ae 1⟩) rfl rfl J R;clear S1 S2;cases es with
  |nil=>exact Wc l u q s t b m0 d c y _ _ ⟨m,j,h⟩ cs E D v (λx e=>(g x e).2) U2
  |cons a r=>exact Wb a r l u q s t b m0 d c y _ _ ⟨m,j,h⟩ cs E D v (λx e=>(g x e).2) U2
end Go.Proofs.Tryz
set_option maxRecDepth 100000
open Go AM Go.ChangeShapes Go.WideShapes Go.ChangeAt Go.RowKit
namespace Go.Proofs.Tryz
noncomputable def yJ (t:TypeId) (d:DataW Unit):List Lit:=((jA prog 6 t d 0).getD []).map (·.2)
open Go.Proofs.YtcpedihclbogjaaGreatDoor
def Na:List (String × DataW Unit):= [("unicode/utf8.acceptRanges",Rows.laid_unicode_utf8_acceptRanges),("tithing/expr.table",Rows.laid_tithing_expr_table),("unicode/utf8.first",Rows.laid_unicode_utf8_first)]
theorem Km:Na.filter (λx=>x.2.handleName?.isSome)= []:=by kernel_rfl
theorem Zp {W:World} (h:laidMetH prog Na W):Lu ap W:=by
 have c (i:Nat) (n:String) (d:DataW Unit) (hm:Na[i]? =some (n,d)) (g:Nat) (t:TypeId) (hg:prog.globalNamed n=some g) (ht:(prog.globals[g]?).map (·.type)=some t)
   (hl:jA prog 6 t d 0=some ((yJ t d).zipIdx.map λ(l,i)=>(i,l))):=Gw h Km (Xqn hm) hg ht hl
 have f:=c 1 _ _ rfl 0 160 (by kernel_rfl) (by kernel_rfl) (by kernel_rfl);have e:=c 0 _ _ rfl 2 272 (by kernel_rfl) (by kernel_rfl) (by kernel_rfl);have key (k:Nat) (t:TypeId) (d:DataW Unit) (hx:(ap.gl[k]?).join=some ((yJ t d).map Ej)) (ho:(yJ t d).all yI=true) (hc:∀ (j:Nat) (l:Lit),(yJ t d)[j]? =some l->W.cell? ⟨k,j,none⟩=some (l_ l)):
   ∀ b,(ap.gl[k]?).join=some b->∃ ls:List Lit,b=ls.map Ej/\ls.all yI=true/\∀ (j:Nat) (l:Lit),ls[j]? =some l->W.cell? ⟨k,j,none⟩=some (l_ l):=by
  intro b a;rw [hx] at a;cases a;exact ⟨_,rfl,ho,hc⟩
 intro k
 match k with
 |0=>exact key 0 _ _ (by kernel_rfl) (by kernel_rfl) f
 |1=>intro b a;exact absurd (show (none:Option (List AV))=some b from a) (by simp)
 |2=>exact key 2 _ _ (by kernel_rfl) (by kernel_rfl) e
 |3=>intro b a;exact absurd (show (none:Option (List AV))=some b from a) (by simp)
 |k+4=>
  intro b a;have:ap.gl.length=4:=by kernel_rfl
  rw [Xq8 (by omega)] at a;cases a
theorem own:ownKnob prog.godebug=none:=by kernel_rfl
theorem ack:laidOutB prog=true:=by kernel_rfl
noncomputable def XB (t:TypeId) (d:DataW Unit):Obj->Obj
 | .cells _ t' fr=> .cells ((yJ t d).map l_).toArray t' fr
 |o=>o
noncomputable def X3 (os:Os):World:=
 let w:=World.holding prog os ⟨#[],#[],[]⟩
 {w with heap:=((w.heap.modify 0 (XB 160 Rows.laid_tithing_expr_table)).modify 1 (XB 269 Rows.laid_unicode_utf8_first)).modify 2 (XB 272 Rows.laid_unicode_utf8_acceptRanges)}
end Go.Proofs.Tryz
set_option maxRecDepth 100000
set_option linter.unusedVariables false
open Go AM Go.ChangeShapes Go.WideShapes Go.ChangeAt Go.RowKit
namespace Go.Proofs.Tryz
open Go.Proofs.YtcpedihclbogjaaGreatDoor
section
variable {H:Type}
theorem Yv (d:DataW H):1<=Rows.uptoBulk d:=by
 cases d with
 |lit x=>cases x<;>simp [Rows.uptoBulk]
 |_=>simp [Rows.uptoBulk]
theorem xM:∀ {l:List (DataW H)} {d:DataW H},d ∈ l->Rows.uptoBulk d<=Rows.uptoBulkAll l
 |x::r,d,h=>by
  simp only [Rows.uptoBulkAll];rcases List.mem_cons.1 h with rfl|h
  .omega
  .have:=xM h;omega
theorem DN:∀ l:List (DataW H),l.length<=Rows.uptoBulkAll l
 | []=>Xqo _
 |x::r=>by
  simp only [Rows.uptoBulkAll,ο];have:=DN r;have:=Yv x;omega
theorem Yw:X_ (Rows.uptoBulk (H:=H)) where
 str s:=by simp only [Rows.uptoBulk];omega
 agg l d h:=by
  simp only [Rows.uptoBulk];have:=xM h;omega
 slc l r:=by
  simp only [Rows.uptoBulk];exact ⟨λd h=>by have:=xM h;omega,by have:=DN l;omega⟩
theorem CM {α:Type} {b:Nat} {ks:List DK} (f:α->List AV) (Q:α->Prop) (d:∀ x,dU b ks x->∃ a,x=f a/\Q a):∀ L:List (List AV),(∀ x ∈ L,dU b ks x)->∃ l:List α,L.flatten=l.flatMap f/\L.length=l.length/\∀ a ∈ l,Q a
 | [],_=> ⟨[],rfl,rfl,λa h=>by cases h⟩
 |x::L,h=>by
  obtain ⟨a,e,q⟩:=d x (h x (by simp));obtain ⟨l,g,i,j⟩:=CM f Q d L λy c=>h y (by simp [c])
  refine ⟨a::l,by rw [List.flatten_cons,Xxw,e,g],by simp [i],λy c=> ?_⟩;rcases List.mem_cons.1 c with rfl|c
  .exact q
  .exact j y c
abbrev kI:List DK:= [.slc [.int .i64]]
theorem acK {b:Nat} {a:List AV} (h:dU b [.int .i64] a):∃ y:Int,a= [ω y]/\True:=by
 cases h with|int h=>cases h with|nil=>exact ⟨_,rfl,trivial⟩
theorem Q5 (l:List Int):(l.flatMap λa=> [ω a])=iL l:=by
 induction l with
 |nil=>rfl
 |cons a r ih=>rw [Xxw,ih];rfl
theorem Zx {b:Nat} {L:List (List AV)} (h:∀ x ∈ L,dU b [.int .i64] x):∃ l:List Int,Xke L.flatten L.length false= .sl (iL l) l.length false:=by
 obtain ⟨l,a,d,_⟩:=CM (λy:Int=> [ω y]) (λ_=>True) (λx c=>acK c) L h;exact ⟨l,by rw [a,d,Q5]⟩
theorem ZB {b:Nat} {a:List AV} (h:dU b kI a):∃ l:List Int,a= [.sl (iL l) l.length false]/\True:=by
 cases h with|slc hx hl h=>cases h with|nil=>
  obtain ⟨l,e⟩:=Zx hx;exact ⟨l,by rw [e],trivial⟩
variable {enc:TypeId × Value->H} {W:World} {base:Nat}
theorem RZ {t e:TypeId} {n:Nat} {ks:List DK} (i:prog.underlying t=some (.slice e)) (g:AW prog n t=some [.slc ks]) {v:Value} {d:DataW H} {p:List MemPlace} (f:Value.okWide prog W .any base t v) (h:DataW.Trod enc prog W 0 (λ_=>true) true t v d p):
  ∃ L:List (List AV),(∀ x ∈ L,dU (Rows.uptoBulk d) ks x)/\PR (gY W) (.sl L.flatten L.length false) v:=by
 obtain ⟨a,h⟩:=h;obtain ⟨j,b,c,_⟩:=JG Yw (λ_=>rfl) n t _ g a _ _ h;rw [E7 i f] at c;cases b with|slc hx hl b=>cases b with|nil=>
  simp only [bw,and_true] at c;exact ⟨_,hx,c⟩
theorem aco {v:Value} {d:DataW H} {p:List MemPlace} (i:Value.okWide prog W .any base 22 v) (h:DataW.Trod enc prog W 0 (λ_=>true) true 22 v d p):
  ∃ l:List (List Int),PR (gY W) (.sl (eY l) l.length false) v:=by
 obtain ⟨L,b,a⟩:=RZ (n:=5) (ks:=kI) (e:=42) (by kernel_rfl) (by kernel_rfl) i h;obtain ⟨l,c,g,_⟩:=CM (λxs:List Int=> [Xke (iL xs) xs.length false]) (λ_=>True) (λx f=>ZB f) _ b;rw [c,g] at a;exact ⟨l,a⟩
theorem acn {v:Value} {d:DataW H} {p:List MemPlace} (f:Value.okWide prog W .any base 23 v) (h:DataW.Trod enc prog W 0 (λ_=>true) true 23 v d p):
  ∃ f0 f1 f2:Int,v= .agg #[.int .i64 f0,.int .i64 f1,.int .i64 f2]:=by
 have a:=Kv (n:=4) (ks:= [.int .i64,.int .i64,.int .i64]) (by kernel_rfl) h;generalize b:v.cells.toList=c2 at a;rcases a with _|@⟨_,q0,_,_,a⟩|_|_;rcases a with _|@⟨_,c,_,_,a⟩|_|_;rcases a with _|@⟨_,e,_,_,a⟩|_|_;cases a;rw [BZ b (by simp)] at f ⊢;exact ⟨q0,c,e,rfl⟩
end
end Go.Proofs.Tryz
namespace Go.Proofs.Tryz
open Go AM
theorem cD (c:List Nat) {ans:List (gy × List aM)} {ps:List Prop} {f:Nat} {args:List AV} {h a:List aM} {out:gy} (hp:PS prog ap ps ans [] [])
  (he:lF ap (Hb prog ap 3000 c 9) 3000 .dead f args h ⟨true,[],[],[],ans,[]⟩= .ok (out,a,.dead) ⟨true,[],[],ps,[],[]⟩:=by kernel_rfl):az prog ap f args h out a:=Xn th.apok th.mixed th.fnok he ⟨λ_ b=>(by cases b),hp.all.mem⟩
instance (x:Rw):Decidable x.sm:=inferInstanceAs (Decidable (_/\_))
def sy:List (List Lk):= [[⟨5,[120],false,[10],[1],0⟩]]
def fZ:List Nat:= [10,15,17,19,23,27,31,32,33,62,89,104,144,148,204]
def Y9 (l:List aP):List AV:=l.flatMap λx=> [ω x.sd,ω x.ix,.str x.nm,.bool x.tr,ω x.tm,ω x.td,.sl (aO x.body) x.body.length true,.bool x.ch,.bool x.st.n,.str x.st.a,.str x.st.d,.bool x.cp.n,.str x.cp.a,.str x.cp.d]
def zS (es:List aP):AV:= .agg [.sl (Y9 es) es.length true,.sl [.sl (bP (sy.getD 0 [])) 1 true] 1 true,.nilS]
theorem D5:∀ es:List aP,Lt (Y9 es) (bq es)
 | []=> .nil
 |_::es=> .same (.same (.same (.same (.same (.same (.sl (.same (.same (.same (.same (.same (.same (.same (D5 es))))))))))))))
theorem ru (es:List aP):bC (zS es) (fR es sy true true):=bC.agg (.cons (bC.slP (D5 es)) (.cons (bC.slP (.sl .nil)) (.cons (bC.nilS false rfl) .nil)))
def w1 (n:UInt8):Rw:=⟨false,if n=0 then [] else [n],[1]⟩
def rv (a b:UInt8):List Rw:= [w1 a,w1 b]
abbrev sv (a b:UInt8) (f:Bool):AV:= .sl (cg (rv a b)) 2 f
def uZ:List aP:= [⟨0,0,[116],false,0,0,[⟨5,false,[],[],[120]⟩,⟨6,false,[],[],[117]⟩,⟨1,false,[1],[1],[]⟩,⟨9,false,[],[],[]⟩,⟨13,false,[],[],[]⟩],false,⟨false,[1],[1]⟩,⟨false,[20],[1]⟩⟩,⟨0,1,[117],false,0,0,[⟨6,false,[],[],[116]⟩,⟨3,false,[1],[2],[]⟩,⟨11,false,[],[],[]⟩],false,⟨false,[1],[1]⟩,⟨false,[8],[1]⟩⟩]
theorem E1:fB uZ sy:=by
 refine ⟨by decide,λx a=> ?_,by decide,by decide⟩;simp only [uZ,Xza,Xwd,or_false] at a;rcases a with rfl|rfl<;>exact ⟨Dj (by kernel_rfl),by decide,⟨by decide,by decide⟩,⟨by decide,by decide⟩⟩
def sj:List aP:= [⟨0,0,[116],false,0,0,[⟨5,false,[],[],[120]⟩,⟨6,false,[],[],[117]⟩,⟨1,false,[5],[1],[]⟩,⟨9,false,[],[],[]⟩,⟨13,false,[],[],[]⟩],false,⟨false,[1],[1]⟩,⟨false,[20],[1]⟩⟩,⟨0,1,[117],false,0,0,[⟨6,false,[],[],[116]⟩,⟨3,false,[1],[2],[]⟩,⟨11,false,[],[],[]⟩],false,⟨false,[1],[1]⟩,⟨false,[8],[1]⟩⟩]
theorem IM:fB sj sy:=by
 refine ⟨by decide,λx a=> ?_,by decide,by decide⟩;simp only [sj,Xza,Xwd,or_false] at a;rcases a with rfl|rfl<;>exact ⟨Dj (by kernel_rfl),by decide,⟨by decide,by decide⟩,⟨by decide,by decide⟩⟩
def OU:List aP:= [⟨0,0,[116],false,0,0,[⟨5,false,[],[],[120]⟩,⟨6,false,[],[],[117]⟩,⟨10,false,[],[],[]⟩],false,⟨false,[1],[1]⟩,⟨false,[20],[1]⟩⟩,⟨0,1,[117],false,0,0,[⟨6,false,[],[],[116]⟩,⟨3,false,[1],[2],[]⟩,⟨11,false,[],[],[]⟩],false,⟨false,[1],[1]⟩,⟨false,[8],[1]⟩⟩]
theorem Uf:fB OU sy:=by
 refine ⟨by decide,λx a=> ?_,by decide,by decide⟩;simp only [OU,Xza,Xwd,or_false] at a;rcases a with rfl|rfl<;>exact ⟨Dj (by kernel_rfl),by decide,⟨by decide,by decide⟩,⟨by decide,by decide⟩⟩
def OV:List aP:= [⟨0,0,[116],false,0,0,[⟨6,false,[],[],[117]⟩],false,⟨false,[1],[1]⟩,⟨false,[41],[2]⟩⟩,⟨0,1,[117],false,0,0,[⟨6,false,[],[],[116]⟩,⟨3,false,[1],[2],[]⟩,⟨11,false,[],[],[]⟩],false,⟨false,[1],[1]⟩,⟨false,[8],[1]⟩⟩]
theorem Ug:fB OV sy:=by
 refine ⟨by decide,λx a=> ?_,by decide,by decide⟩;simp only [OV,Xza,Xwd,or_false] at a;rcases a with rfl|rfl<;>exact ⟨Dj (by kernel_rfl),by decide,⟨by decide,by decide⟩,⟨by decide,by decide⟩⟩
theorem adf:rG sy uZ (.inr [(rv 0 0),(rv 1 0)]):= .inr ⟨by kernel_rfl,(.stepC (by kernel_rfl) (by decide) (.fix (by kernel_rfl)))⟩
theorem SN:rG sy sj (.inr [(rv 0 0),(rv 5 0),(rv 5 2),(rv 7 2),(rv 7 3),(rv 8 3),(rv 8 4),(rv 9 4)]):= .inr ⟨by kernel_rfl,(.stepC (by kernel_rfl) (by decide) (.stepC (by kernel_rfl) (by decide) (.stepC (by kernel_rfl) (by decide) (.stepC (by kernel_rfl) (by decide) (.stepC (by kernel_rfl) (by decide) (.stepC (by kernel_rfl) (by decide) (.stepC (by kernel_rfl) (by decide) (.fix (by kernel_rfl)))))))))⟩
theorem IL {es:List aP} (h:fB es sy) (v:List Rw) (a:Bool) (b:∀ y ∈ v,y.sm):CO 15 [fR es sy true true,.sl (cg v) v.length a] (.ret (Ay (nG sy es v))):=
 Lv es sy v true true a h.len h.sm b h.ls λi _=>h.env b i
theorem sa0:CO 27 [ω 20] (.ret (Ω false [20] [1])):=jI (bp 20 (by decide)) (by kernel_rfl)
theorem sa2:az prog ap 144 [.ptr 0 0 0,.str zcc4_1] [⟨[.str zcc4_2,.nilS,ω 1,.bool false],0,false,0,0,true⟩] (.ret (.str [109,105,110])) [⟨[.str [40,102,97,99,116,46,120,44,32,97,100,100,40,111,119,110,46,117,44,32,36,49,41,41],.nilS,ω 1,.bool false],0,false,0,0,true⟩]:=jI (ct zcc4_2 zcc4_1 (1) false none (by decide) (by decide)) (by kernel_rfl)
theorem ac2:az prog ap 144 [.ptr 0 0 0,.str zcc4_1] [⟨[.str zcc4_4,.nilS,ω 2,.bool false],0,false,0,0,true⟩] (.ret (.str [102,97,99,116])) [⟨[.str [46,120,44,32,97,100,100,40,111,119,110,46,117,44,32,36,49,41,41],.nilS,ω 2,.bool false],0,false,0,0,true⟩]:=jI (ct zcc4_4 zcc4_1 (2) false none (by decide) (by decide)) (by kernel_rfl)
theorem ac3:az prog ap 144 [.ptr 0 0 0,.str zcc4_0] [⟨[.str [120,44,32,97,100,100,40,111,119,110,46,117,44,32,36,49,41,41],.nilS,ω 2,.bool false],0,false,0,0,true⟩] (.ret (.str [120])) [⟨[.str [44,32,97,100,100,40,111,119,110,46,117,44,32,36,49,41,41],.nilS,ω 2,.bool false],0,false,0,0,true⟩]:=jI (ct [120,44,32,97,100,100,40,111,119,110,46,117,44,32,36,49,41,41] zcc4_0 (2) false none (by decide) (by decide)) (by kernel_rfl)
theorem ac4:az prog ap 104 [.ptr 0 0 0] [⟨[.str zcc4_4,.nilS,ω 1,.bool false],0,false,0,0,true⟩] (.ret (.tup [])) [⟨[.str [44,32,97,100,100,40,111,119,110,46,117,44,32,36,49,41,41],.ref 1 0 0 1,ω 2,.bool false],0,false,0,0,false⟩,⟨zcc4_18,0,false,0,5,true⟩]:=cD fZ (.c ac3 (.c ac2 .nil))
theorem ac5:az prog ap 144 [.ptr 0 0 0,.str zcc4_1] [⟨[.str zcc4_8,.ref 1 0 0 1,ω 3,.bool false],0,false,0,0,false⟩,⟨zcc4_18,0,false,0,5,true⟩] (.ret (.str [97,100,100])) [⟨[.str [40,111,119,110,46,117,44,32,36,49,41,41],.ref 1 0 0 1,ω 3,.bool false],0,false,0,0,false⟩,⟨zcc4_18,0,false,0,5,true⟩]:=jI (ct zcc4_8 zcc4_1 (3) false (some (1,zcc4_18)) (by decide) (by decide)) (by kernel_rfl)
theorem ac6:az prog ap 144 [.ptr 0 0 0,.str zcc4_1] [⟨[.str zcc4_11,.ref 1 0 0 1,ω 4,.bool false],0,false,0,0,false⟩,⟨zcc4_18,0,false,0,5,true⟩] (.ret (.str [111,119,110])) [⟨[.str [46,117,44,32,36,49,41,41],.ref 1 0 0 1,ω 4,.bool false],0,false,0,0,false⟩,⟨zcc4_18,0,false,0,5,true⟩]:=jI (ct zcc4_11 zcc4_1 (4) false (some (1,zcc4_18)) (by decide) (by decide)) (by kernel_rfl)
theorem ac7:az prog ap 144 [.ptr 0 0 0,.str zcc4_0] [⟨[.str [117,44,32,36,49,41,41],.ref 1 0 0 1,ω 4,.bool false],0,false,0,0,false⟩,⟨zcc4_18,0,false,0,5,true⟩] (.ret (.str [117])) [⟨[.str [44,32,36,49,41,41],.ref 1 0 0 1,ω 4,.bool false],0,false,0,0,false⟩,⟨zcc4_18,0,false,0,5,true⟩]:=jI (ct [117,44,32,36,49,41,41] zcc4_0 (4) false (some (1,zcc4_18)) (by decide) (by decide)) (by kernel_rfl)
theorem ac8:az prog ap 104 [.ptr 0 0 0] [⟨[.str zcc4_11,.ref 1 0 0 1,ω 3,.bool false],0,false,0,0,false⟩,⟨zcc4_18,0,false,0,5,true⟩] (.ret (.tup [])) [⟨[.str [44,32,36,49,41,41],.ref 1 1 0 2,ω 4,.bool false],0,false,0,0,false⟩,⟨zcc4_17,1,false,0,5,true⟩]:=cD fZ (.c ac7 (.c ac6 .nil))
theorem ac9:az prog ap 142 [.ptr 0 0 0,.str [36]] [⟨[.str [36,49,41,41],.ref 1 0 0 2,ω 5,.bool false],0,false,0,0,false⟩,⟨zcc4_17,0,false,0,5,true⟩] (.ret (.bool true)) [⟨[.str [49,41,41],.ref 1 0 0 2,ω 5,.bool false],0,false,0,0,false⟩,⟨zcc4_17,0,false,0,5,true⟩]:=cD fZ (.nil)
theorem ac_:az prog ap 144 [.ptr 0 0 0,.str zcc4_14] [⟨[.str [49,41,41],.ref 1 0 0 2,ω 5,.bool false],0,false,0,0,false⟩,⟨zcc4_17,0,false,0,5,true⟩] (.ret (.str [49])) [⟨[.str [41,41],.ref 1 0 0 2,ω 5,.bool false],0,false,0,0,false⟩,⟨zcc4_17,0,false,0,5,true⟩]:=jI (ct [49,41,41] zcc4_14 (5) false (some (2,zcc4_17)) (by decide) (by decide)) (by kernel_rfl)
theorem SM:CO 204 [.str [49]] (.ret (.tup [.str [1],.bool true])):=cD fZ (.nil)
theorem Xq:CO 89 [.str [1],.str [1]] (.ret (.str [1])):=cD fZ (.nil)
theorem abM:CO 148 [Ω false [1] [1]] (.ret (.str [49])):=cD fZ (.c Xq .nil)
theorem ada:az prog ap 143 [.ptr 0 0 0] [⟨[.str [49,41,41],.ref 1 0 0 2,ω 5,.bool false],0,false,0,0,false⟩,⟨zcc4_17,0,false,0,5,true⟩] (.ret (Ω false [1] [1])) [⟨[.str [41,41],.ref 1 0 0 2,ω 5,.bool false],0,false,0,0,false⟩,⟨zcc4_17,0,false,0,5,true⟩]:=cD fZ (.c abM (.c Xq (.c SM (.c SM (.c ac_ .nil)))))
theorem abN:gk prog ap [⟨[.str [36,49,41,41],.ref 1 0 0 2,ω 4,.bool false],0,false,0,0,false⟩,⟨zcc4_17,0,false,0,5,true⟩] 206 (C_ 5 (am f104)) (UH [.str [49,41,41],.ref 1 0 0 2,ω 5,.bool false]) (.normal) ⟨[(0,.ptr 0 0 0),(2,.bool true),(3,.dead),(4,.dead),(5,.dead),(6,.dead),(7,.dead),(8,.dead),(9,.dead),(10,.dead),(11,.dead),(12,.dead),(13,.dead),(14,.dead),(15,.dead),(41,.bool false),(47,.bool true),(65,.dead),(70,.dead),(100,.dead),(102,.dead),(117,.dead),(122,.dead),(128,.dead),(133,.dead),(139,.dead),(145,.dead),(158,.dead),(166,.dead),(170,.dead),(175,.dead),(184,.dead),(188,.dead),(192,.dead)],[(0,⟨[.str [41,41],.ref 1 1 0 3,ω 5,.bool false],0,false,0,0,false⟩),(1,⟨[ω 5,.bool false,.str [],.str [],.str [120],ω 6,.bool false,.str [],.str [],.str [117],ω 1,.bool false,.str [1],.str [1],.str []],1,false,0,5,true⟩)],.dead,[]⟩:=λnt a=>Jd th (keep:=uD ap 104) (i:=4) (b:=0) (d:=52) (nt0:=206) (ans:= [(.ret (Ω false [1] [1]),[⟨[.str [41,41],.ref 1 0 0 2,ω 5,.bool false],0,false,0,0,false⟩,⟨zcc4_17,0,false,0,5,true⟩])]) (.cons (rfl:(.ref 1 0 0 2:AV)=(.ref 1 0 0 2:AV)) (.cons (rfl:(.ref 1 0 0 2:AV)=(.ref 1 0 0 2:AV)) (.cons ada .nil))) a (by kernel_rfl)
theorem adb:az prog ap 104 [.ptr 0 0 0] [⟨[.str [36,49,41,41],.ref 1 0 0 2,ω 4,.bool false],0,false,0,0,false⟩,⟨zcc4_17,0,false,0,5,true⟩] (.ret (.tup [])) [⟨[.str [41,41],.ref 1 1 0 3,ω 5,.bool false],0,false,0,0,false⟩,⟨[ω 5,.bool false,.str [],.str [],.str [120],ω 6,.bool false,.str [],.str [],.str [117],ω 1,.bool false,.str [1],.str [1],.str []],1,false,0,5,true⟩]:=pK [1005] 4 8 (.n 9 .nil) (.l abN (.c ac9 .nil))
theorem adc:az prog ap 104 [.ptr 0 0 0] [⟨[.str zcc4_8,.ref 1 0 0 1,ω 2,.bool false],0,false,0,0,false⟩,⟨zcc4_18,0,false,0,5,true⟩] (.ret (.tup [])) [⟨[.str [41],.ref 1 3 0 4,ω 5,.bool false],0,false,0,0,false⟩,⟨[ω 5,.bool false,.str [],.str [],.str [120],ω 6,.bool false,.str [],.str [],.str [117],ω 1,.bool false,.str [1],.str [1],.str [],ω 9,.bool false,.str [],.str [],.str []],3,false,0,5,true⟩]:=cD fZ (.c adb (.c ac8 (.c ac5 .nil)))
theorem ade:az prog ap 104 [.ptr 0 0 0] [⟨[.str zcc4_2,.nilS,ω 0,.bool false],0,false,0,0,true⟩] (.ret (.tup [])) [⟨[.str [],.ref 1 0 0 5,ω 5,.bool false],0,false,0,0,false⟩,⟨[ω 5,.bool false,.str [],.str [],.str [120],ω 6,.bool false,.str [],.str [],.str [117],ω 1,.bool false,.str [1],.str [1],.str [],ω 9,.bool false,.str [],.str [],.str [],ω 13,.bool false,.str [],.str [],.str []],0,false,0,5,true⟩]:=cD fZ (.c adc (.c ac4 (.c sa2 .nil)))
theorem aaT:CO 62 [.str zcc4_2] (.ret (.tup [.sl [ω 5,.bool false,.str [],.str [],.str [120],ω 6,.bool false,.str [],.str [],.str [117],ω 1,.bool false,.str [1],.str [1],.str [],ω 9,.bool false,.str [],.str [],.str [],ω 13,.bool false,.str [],.str [],.str []] 5 true,ω 0])):=cD fZ (.c abM (.c Xq (.c ade .nil)))
theorem aaU:az prog ap 144 [.ptr 0 0 0,.str zcc4_1] [⟨[.str zcc4_7,.nilS,ω 1,.bool false],0,false,0,0,true⟩] (.ret (.str [109,117,108])) [⟨[.str [40,111,119,110,46,116,44,32,49,47,50,41],.nilS,ω 1,.bool false],0,false,0,0,true⟩]:=jI (ct zcc4_7 zcc4_1 (1) false none (by decide) (by decide)) (by kernel_rfl)
theorem aaV:az prog ap 144 [.ptr 0 0 0,.str zcc4_1] [⟨[.str zcc4_12,.nilS,ω 2,.bool false],0,false,0,0,true⟩] (.ret (.str [111,119,110])) [⟨[.str [46,116,44,32,49,47,50,41],.nilS,ω 2,.bool false],0,false,0,0,true⟩]:=jI (ct zcc4_12 zcc4_1 (2) false none (by decide) (by decide)) (by kernel_rfl)
theorem aaW:az prog ap 144 [.ptr 0 0 0,.str zcc4_0] [⟨[.str [116,44,32,49,47,50,41],.nilS,ω 2,.bool false],0,false,0,0,true⟩] (.ret (.str [116])) [⟨[.str [44,32,49,47,50,41],.nilS,ω 2,.bool false],0,false,0,0,true⟩]:=jI (ct [116,44,32,49,47,50,41] zcc4_0 (2) false none (by decide) (by decide)) (by kernel_rfl)
theorem aaX:az prog ap 104 [.ptr 0 0 0] [⟨[.str zcc4_12,.nilS,ω 1,.bool false],0,false,0,0,true⟩] (.ret (.tup [])) [⟨[.str [44,32,49,47,50,41],.ref 1 0 0 1,ω 2,.bool false],0,false,0,0,false⟩,⟨zcc4_19,0,false,0,5,true⟩]:=cD fZ (.c aaW (.c aaV .nil))
theorem aaY:az prog ap 144 [.ptr 0 0 0,.str zcc4_14] [⟨[.str [49,47,50,41],.ref 1 0 0 1,ω 3,.bool false],0,false,0,0,false⟩,⟨zcc4_19,0,false,0,5,true⟩] (.ret (.str [49,47,50])) [⟨[.str [41],.ref 1 0 0 1,ω 3,.bool false],0,false,0,0,false⟩,⟨zcc4_19,0,false,0,5,true⟩]:=jI (ct [49,47,50,41] zcc4_14 (3) false (some (1,zcc4_19)) (by decide) (by decide)) (by kernel_rfl)
theorem aaZ:CO 204 [.str [50]] (.ret (.tup [.str [2],.bool true])):=cD fZ (.nil)
theorem OM:CO 89 [.str [1],.str [2]] (.ret (.str [1])):=cD fZ (.nil)
theorem Ub:CO 148 [Ω false [1] [2]] (.ret (.str [49,47,50])):=cD fZ (.c OM .nil)
theorem aa0:az prog ap 104 [.ptr 0 0 0] [⟨[.str [49,47,50,41],.ref 1 0 0 1,ω 2,.bool false],0,false,0,0,false⟩,⟨zcc4_19,0,false,0,5,true⟩] (.ret (.tup [])) [⟨[.str [41],.ref 1 1 0 2,ω 3,.bool false],0,false,0,0,false⟩,⟨[ω 6,.bool false,.str [],.str [],.str [116],ω 3,.bool false,.str [1],.str [2],.str []],1,false,0,5,true⟩]:=cD fZ (.c Ub (.c OM (.c aaZ (.c SM (.c aaY .nil)))))
theorem aa1:az prog ap 104 [.ptr 0 0 0] [⟨[.str zcc4_7,.nilS,ω 0,.bool false],0,false,0,0,true⟩] (.ret (.tup [])) [⟨[.str [],.ref 1 0 0 3,ω 3,.bool false],0,false,0,0,false⟩,⟨[ω 6,.bool false,.str [],.str [],.str [116],ω 3,.bool false,.str [1],.str [2],.str [],ω 11,.bool false,.str [],.str [],.str []],0,false,0,5,true⟩]:=cD fZ (.c aa0 (.c aaX (.c aaU .nil)))
theorem IJ:CO 62 [.str zcc4_7] (.ret (.tup [.sl [ω 6,.bool false,.str [],.str [],.str [116],ω 3,.bool false,.str [1],.str [2],.str [],ω 11,.bool false,.str [],.str [],.str []] 3 true,ω 0])):=cD fZ (.c Ub (.c OM (.c aa1 .nil)))
theorem tP:CO 27 [ω 1] (.ret (Ω false [1] [1])):=jI (bp 1 (by decide)) (by kernel_rfl)
theorem BD:CO 27 [ω 8] (.ret (Ω false [8] [1])):=jI (bp 8 (by decide)) (by kernel_rfl)
theorem EY:CO 27 [ω 10] (.ret (Ω false [10] [1])):=jI (bp 10 (by decide)) (by kernel_rfl)
theorem aa2:az prog ap 144 [.ptr 0 0 0,.str zcc4_1] [⟨[.str zcc4_3,.nilS,ω 1,.bool false],0,false,0,0,true⟩] (.ret (.str [109,105,110])) [⟨[.str [40,102,97,99,116,46,120,44,32,97,100,100,40,111,119,110,46,117,44,32,36,53,41,41],.nilS,ω 1,.bool false],0,false,0,0,true⟩]:=jI (ct zcc4_3 zcc4_1 (1) false none (by decide) (by decide)) (by kernel_rfl)
theorem aa3:az prog ap 144 [.ptr 0 0 0,.str zcc4_1] [⟨[.str zcc4_5,.nilS,ω 2,.bool false],0,false,0,0,true⟩] (.ret (.str [102,97,99,116])) [⟨[.str [46,120,44,32,97,100,100,40,111,119,110,46,117,44,32,36,53,41,41],.nilS,ω 2,.bool false],0,false,0,0,true⟩]:=jI (ct zcc4_5 zcc4_1 (2) false none (by decide) (by decide)) (by kernel_rfl)
theorem aa4:az prog ap 144 [.ptr 0 0 0,.str zcc4_0] [⟨[.str [120,44,32,97,100,100,40,111,119,110,46,117,44,32,36,53,41,41],.nilS,ω 2,.bool false],0,false,0,0,true⟩] (.ret (.str [120])) [⟨[.str [44,32,97,100,100,40,111,119,110,46,117,44,32,36,53,41,41],.nilS,ω 2,.bool false],0,false,0,0,true⟩]:=jI (ct [120,44,32,97,100,100,40,111,119,110,46,117,44,32,36,53,41,41] zcc4_0 (2) false none (by decide) (by decide)) (by kernel_rfl)
theorem aa5:az prog ap 104 [.ptr 0 0 0] [⟨[.str zcc4_5,.nilS,ω 1,.bool false],0,false,0,0,true⟩] (.ret (.tup [])) [⟨[.str [44,32,97,100,100,40,111,119,110,46,117,44,32,36,53,41,41],.ref 1 0 0 1,ω 2,.bool false],0,false,0,0,false⟩,⟨zcc4_18,0,false,0,5,true⟩]:=cD fZ (.c aa4 (.c aa3 .nil))
theorem aa6:az prog ap 144 [.ptr 0 0 0,.str zcc4_1] [⟨[.str zcc4_9,.ref 1 0 0 1,ω 3,.bool false],0,false,0,0,false⟩,⟨zcc4_18,0,false,0,5,true⟩] (.ret (.str [97,100,100])) [⟨[.str [40,111,119,110,46,117,44,32,36,53,41,41],.ref 1 0 0 1,ω 3,.bool false],0,false,0,0,false⟩,⟨zcc4_18,0,false,0,5,true⟩]:=jI (ct zcc4_9 zcc4_1 (3) false (some (1,zcc4_18)) (by decide) (by decide)) (by kernel_rfl)
theorem aa7:az prog ap 144 [.ptr 0 0 0,.str zcc4_1] [⟨[.str zcc4_13,.ref 1 0 0 1,ω 4,.bool false],0,false,0,0,false⟩,⟨zcc4_18,0,false,0,5,true⟩] (.ret (.str [111,119,110])) [⟨[.str [46,117,44,32,36,53,41,41],.ref 1 0 0 1,ω 4,.bool false],0,false,0,0,false⟩,⟨zcc4_18,0,false,0,5,true⟩]:=jI (ct zcc4_13 zcc4_1 (4) false (some (1,zcc4_18)) (by decide) (by decide)) (by kernel_rfl)
theorem aa8:az prog ap 144 [.ptr 0 0 0,.str zcc4_0] [⟨[.str [117,44,32,36,53,41,41],.ref 1 0 0 1,ω 4,.bool false],0,false,0,0,false⟩,⟨zcc4_18,0,false,0,5,true⟩] (.ret (.str [117])) [⟨[.str [44,32,36,53,41,41],.ref 1 0 0 1,ω 4,.bool false],0,false,0,0,false⟩,⟨zcc4_18,0,false,0,5,true⟩]:=jI (ct [117,44,32,36,53,41,41] zcc4_0 (4) false (some (1,zcc4_18)) (by decide) (by decide)) (by kernel_rfl)
theorem aa9:az prog ap 104 [.ptr 0 0 0] [⟨[.str zcc4_13,.ref 1 0 0 1,ω 3,.bool false],0,false,0,0,false⟩,⟨zcc4_18,0,false,0,5,true⟩] (.ret (.tup [])) [⟨[.str [44,32,36,53,41,41],.ref 1 1 0 2,ω 4,.bool false],0,false,0,0,false⟩,⟨zcc4_17,1,false,0,5,true⟩]:=cD fZ (.c aa8 (.c aa7 .nil))
theorem aa_:az prog ap 142 [.ptr 0 0 0,.str [36]] [⟨[.str [36,53,41,41],.ref 1 0 0 2,ω 5,.bool false],0,false,0,0,false⟩,⟨zcc4_17,0,false,0,5,true⟩] (.ret (.bool true)) [⟨[.str [53,41,41],.ref 1 0 0 2,ω 5,.bool false],0,false,0,0,false⟩,⟨zcc4_17,0,false,0,5,true⟩]:=cD fZ (.nil)
theorem aba:az prog ap 144 [.ptr 0 0 0,.str zcc4_14] [⟨[.str [53,41,41],.ref 1 0 0 2,ω 5,.bool false],0,false,0,0,false⟩,⟨zcc4_17,0,false,0,5,true⟩] (.ret (.str [53])) [⟨[.str [41,41],.ref 1 0 0 2,ω 5,.bool false],0,false,0,0,false⟩,⟨zcc4_17,0,false,0,5,true⟩]:=jI (ct [53,41,41] zcc4_14 (5) false (some (2,zcc4_17)) (by decide) (by decide)) (by kernel_rfl)
theorem abb:CO 204 [.str [53]] (.ret (.tup [.str [5],.bool true])):=cD fZ (.nil)
theorem OO:CO 89 [.str [5],.str [1]] (.ret (.str [1])):=cD fZ (.nil)
theorem Uc:CO 148 [Ω false [5] [1]] (.ret (.str [53])):=cD fZ (.c OO .nil)
theorem abc:az prog ap 143 [.ptr 0 0 0] [⟨[.str [53,41,41],.ref 1 0 0 2,ω 5,.bool false],0,false,0,0,false⟩,⟨zcc4_17,0,false,0,5,true⟩] (.ret (Ω false [5] [1])) [⟨[.str [41,41],.ref 1 0 0 2,ω 5,.bool false],0,false,0,0,false⟩,⟨zcc4_17,0,false,0,5,true⟩]:=cD fZ (.c Uc (.c OO (.c SM (.c abb (.c aba .nil)))))
theorem Xp:gk prog ap [⟨[.str [36,53,41,41],.ref 1 0 0 2,ω 4,.bool false],0,false,0,0,false⟩,⟨zcc4_17,0,false,0,5,true⟩] 206 (C_ 5 (am f104)) (UH [.str [53,41,41],.ref 1 0 0 2,ω 5,.bool false]) (.normal) ⟨[(0,.ptr 0 0 0),(2,.bool true),(3,.dead),(4,.dead),(5,.dead),(6,.dead),(7,.dead),(8,.dead),(9,.dead),(10,.dead),(11,.dead),(12,.dead),(13,.dead),(14,.dead),(15,.dead),(41,.bool false),(47,.bool true),(65,.dead),(70,.dead),(100,.dead),(102,.dead),(117,.dead),(122,.dead),(128,.dead),(133,.dead),(139,.dead),(145,.dead),(158,.dead),(166,.dead),(170,.dead),(175,.dead),(184,.dead),(188,.dead),(192,.dead)],[(0,⟨[.str [41,41],.ref 1 1 0 3,ω 5,.bool false],0,false,0,0,false⟩),(1,⟨[ω 5,.bool false,.str [],.str [],.str [120],ω 6,.bool false,.str [],.str [],.str [117],ω 1,.bool false,.str [5],.str [1],.str []],1,false,0,5,true⟩)],.dead,[]⟩:=λnt a=>Jd th (keep:=uD ap 104) (i:=4) (b:=0) (d:=52) (nt0:=206) (ans:= [(.ret (Ω false [5] [1]),[⟨[.str [41,41],.ref 1 0 0 2,ω 5,.bool false],0,false,0,0,false⟩,⟨zcc4_17,0,false,0,5,true⟩])]) (.cons (rfl:(.ref 1 0 0 2:AV)=(.ref 1 0 0 2:AV)) (.cons (rfl:(.ref 1 0 0 2:AV)=(.ref 1 0 0 2:AV)) (.cons abc .nil))) a (by kernel_rfl)
theorem abd:az prog ap 104 [.ptr 0 0 0] [⟨[.str [36,53,41,41],.ref 1 0 0 2,ω 4,.bool false],0,false,0,0,false⟩,⟨zcc4_17,0,false,0,5,true⟩] (.ret (.tup [])) [⟨[.str [41,41],.ref 1 1 0 3,ω 5,.bool false],0,false,0,0,false⟩,⟨[ω 5,.bool false,.str [],.str [],.str [120],ω 6,.bool false,.str [],.str [],.str [117],ω 1,.bool false,.str [5],.str [1],.str []],1,false,0,5,true⟩]:=pK [1005] 4 8 (.n 9 .nil) (.l Xp (.c aa_ .nil))
theorem abe:az prog ap 104 [.ptr 0 0 0] [⟨[.str zcc4_9,.ref 1 0 0 1,ω 2,.bool false],0,false,0,0,false⟩,⟨zcc4_18,0,false,0,5,true⟩] (.ret (.tup [])) [⟨[.str [41],.ref 1 3 0 4,ω 5,.bool false],0,false,0,0,false⟩,⟨[ω 5,.bool false,.str [],.str [],.str [120],ω 6,.bool false,.str [],.str [],.str [117],ω 1,.bool false,.str [5],.str [1],.str [],ω 9,.bool false,.str [],.str [],.str []],3,false,0,5,true⟩]:=cD fZ (.c abd (.c aa9 (.c aa6 .nil)))
theorem abf:az prog ap 104 [.ptr 0 0 0] [⟨[.str zcc4_3,.nilS,ω 0,.bool false],0,false,0,0,true⟩] (.ret (.tup [])) [⟨[.str [],.ref 1 0 0 5,ω 5,.bool false],0,false,0,0,false⟩,⟨[ω 5,.bool false,.str [],.str [],.str [120],ω 6,.bool false,.str [],.str [],.str [117],ω 1,.bool false,.str [5],.str [1],.str [],ω 9,.bool false,.str [],.str [],.str [],ω 13,.bool false,.str [],.str [],.str []],0,false,0,5,true⟩]:=cD fZ (.c abe (.c aa5 (.c aa2 .nil)))
theorem abg:CO 62 [.str zcc4_3] (.ret (.tup [.sl [ω 5,.bool false,.str [],.str [],.str [120],ω 6,.bool false,.str [],.str [],.str [117],ω 1,.bool false,.str [5],.str [1],.str [],ω 9,.bool false,.str [],.str [],.str [],ω 13,.bool false,.str [],.str [],.str []] 5 true,ω 0])):=cD fZ (.c Uc (.c OO (.c abf .nil)))
theorem oG:CO 27 [ω 0] (.ret (Ω false [] [1])):=jI (bp 0 (by decide)) (by kernel_rfl)
theorem abh:CO 15 [(zS uZ),sv 0 0 true] (.ret (.tup [sv 1 0 false,ω 0])):=az.args (args:= [(fR uZ sy true true),sv 0 0 true]) (.cons (ru _) (.cons (bC.refl _) .nil)) (jI (IL E1 (rv 0 0) true (by decide)) (by kernel_rfl))
theorem abj:CO 15 [(zS uZ),sv 1 0 true] (.ret (.tup [sv 1 0 false,ω 0])):=az.args (args:= [(fR uZ sy true true),sv 1 0 true]) (.cons (ru _) (.cons (bC.refl _) .nil)) (jI (IL E1 (rv 1 0) true (by decide)) (by kernel_rfl))
theorem abk:CO 23 [(zS uZ)] (.ret (.tup [sv 1 0 false,.sl [sv 0 0 false,sv 1 0 false] 2 false,ω 0])):=az.args (args:= [(fR uZ sy true true)]) (.cons (ru _) .nil) (jI (mA uZ sy true true E1 adf) (by kernel_rfl))
theorem abl:CO 23 [(zS sj)] (.ret (.tup [sv 9 4 false,.sl [sv 0 0 false,sv 5 0 false,sv 5 2 false,sv 7 2 false,sv 7 3 false,sv 8 3 false,sv 8 4 false,sv 9 4 false] 8 false,ω 0])):=az.args (args:= [(fR sj sy true true)]) (.cons (ru _) .nil) (jI (mA sj sy true true IM SN) (by kernel_rfl))
theorem OP:CO 17 [sv 1 0 false,sv 1 0 true] (.ret (.bool true)):=jI (zB (rv 1 0) (rv 1 0) false true (by decide)) (by kernel_rfl)
theorem IK:CO 27 [ω 9] (.ret (Ω false [9] [1])):=jI (bp 9 (by decide)) (by kernel_rfl)
theorem EZ:CO 27 [ω 4] (.ret (Ω false [4] [1])):=jI (bp 4 (by decide)) (by kernel_rfl)
theorem abm:CO 17 [sv 9 4 false,sv 9 4 true] (.ret (.bool true)):=jI (zB (rv 9 4) (rv 9 4) false true (by decide)) (by kernel_rfl)
theorem OQ:CO 27 [ω 5] (.ret (Ω false [5] [1])):=jI (bp 5 (by decide)) (by kernel_rfl)
theorem OT:CO 27 [ω 2] (.ret (Ω false [2] [1])):=jI (bp 2 (by decide)) (by kernel_rfl)
theorem Ud:CO 27 [ω 7] (.ret (Ω false [7] [1])):=jI (bp 7 (by decide)) (by kernel_rfl)
theorem Ue:CO 27 [ω 3] (.ret (Ω false [3] [1])):=jI (bp 3 (by decide)) (by kernel_rfl)
theorem abn:CO 31 [.sl [sv 0 0 false,sv 1 0 false] 2 false,.sl [sv 0 0 true,sv 1 0 true] 2 true] (.ret (.bool true)):=az.args (args:= [.sl [sv 0 0 false,sv 1 0 false] 2 false,.sl [sv 0 0 false,sv 1 0 false] 2 true]) (.cons (bC.slP (.sl (.sl .nil))) (.cons (bC.slP (.sl (.sl .nil))) .nil)) (jI (ET [(rv 0 0),(rv 1 0)] [(rv 0 0),(rv 1 0)] false true (by decide) (by decide)) (by kernel_rfl))
theorem abo:CO 31 [.sl [sv 0 0 false,sv 5 0 false,sv 5 2 false,sv 7 2 false,sv 7 3 false,sv 8 3 false,sv 8 4 false,sv 9 4 false] 8 false,.sl [sv 0 0 true,sv 5 0 true,sv 5 2 true,sv 7 2 true,sv 7 3 true,sv 8 3 true,sv 8 4 true,sv 9 4 true] 8 true] (.ret (.bool true)):=az.args (args:= [.sl [sv 0 0 false,sv 5 0 false,sv 5 2 false,sv 7 2 false,sv 7 3 false,sv 8 3 false,sv 8 4 false,sv 9 4 false] 8 false,.sl [sv 0 0 false,sv 5 0 false,sv 5 2 false,sv 7 2 false,sv 7 3 false,sv 8 3 false,sv 8 4 false,sv 9 4 false] 8 true]) (.cons (bC.slP (.sl (.sl (.sl (.sl (.sl (.sl (.sl (.sl .nil))))))))) (.cons (bC.slP (.sl (.sl (.sl (.sl (.sl (.sl (.sl (.sl .nil))))))))) .nil)) (jI (ET [(rv 0 0),(rv 5 0),(rv 5 2),(rv 7 2),(rv 7 3),(rv 8 3),(rv 8 4),(rv 9 4)] [(rv 0 0),(rv 5 0),(rv 5 2),(rv 7 2),(rv 7 3),(rv 8 3),(rv 8 4),(rv 9 4)] false true (by decide) (by decide)) (by kernel_rfl))
theorem abp:CO 27 [ω 41] (.ret (Ω false [41] [1])):=jI (bp 41 (by decide)) (by kernel_rfl)
theorem abq:CO 32 [Ω false [41] [1],Ω false [2] [1]] (.ret (.tup [Ω false [41] [2],.bool true])):=jI (C6 false false [41] [1] [2] [1] (by decide) (by decide) (by decide) (by decide) (by decide)) (by kernel_rfl)
theorem abr:CO 19 [(zS sj),sv 9 4 true,.sl [sv 0 0 true,sv 5 0 true,sv 5 2 true,sv 7 2 true,sv 7 3 true,sv 8 3 true,sv 8 4 true,sv 9 4 true] 8 true] (.ret (ω 0)):=az.args (args:= [(fR sj sy true true),sv 9 4 true,.sl [sv 0 0 false,sv 5 0 false,sv 5 2 false,sv 7 2 false,sv 7 3 false,sv 8 3 false,sv 8 4 false,sv 9 4 false] 8 true]) (.cons (ru _) (.cons (bC.refl _) (.cons (bC.slP (.sl (.sl (.sl (.sl (.sl (.sl (.sl (.sl .nil))))))))) .nil))) (jI (ul sj sy true true true true IM (rv 9 4) [(rv 0 0),(rv 5 0),(rv 5 2),(rv 7 2),(rv 7 3),(rv 8 3),(rv 8 4),(rv 9 4)] (by decide) (by decide) SN) (by kernel_rfl))
theorem abt:CO 19 [(zS sj),sv 9 4 true,.sl [sv 0 0 true,sv 5 0 true,sv 5 2 true,sv 7 2 true,sv 7 3 true,sv 8 3 true,sv 9 4 true] 7 true] (.ret (ω 26)):=az.args (args:= [(fR sj sy true true),sv 9 4 true,.sl [sv 0 0 false,sv 5 0 false,sv 5 2 false,sv 7 2 false,sv 7 3 false,sv 8 3 false,sv 9 4 false] 7 true]) (.cons (ru _) (.cons (bC.refl _) (.cons (bC.slP (.sl (.sl (.sl (.sl (.sl (.sl (.sl .nil)))))))) .nil))) (jI (ul sj sy true true true true IM (rv 9 4) [(rv 0 0),(rv 5 0),(rv 5 2),(rv 7 2),(rv 7 3),(rv 8 3),(rv 9 4)] (by decide) (by decide) SN) (by kernel_rfl))
theorem abu:CO 19 [(zS sj),sv 10 5 true,.sl [sv 0 0 true,sv 5 0 true,sv 5 2 true,sv 7 2 true,sv 7 3 true,sv 8 3 true,sv 8 4 true,sv 9 4 true] 8 true] (.ret (ω 26)):=az.args (args:= [(fR sj sy true true),sv 10 5 true,.sl [sv 0 0 false,sv 5 0 false,sv 5 2 false,sv 7 2 false,sv 7 3 false,sv 8 3 false,sv 8 4 false,sv 9 4 false] 8 true]) (.cons (ru _) (.cons (bC.refl _) (.cons (bC.slP (.sl (.sl (.sl (.sl (.sl (.sl (.sl (.sl .nil))))))))) .nil))) (jI (ul sj sy true true true true IM (rv 10 5) [(rv 0 0),(rv 5 0),(rv 5 2),(rv 7 2),(rv 7 3),(rv 8 3),(rv 8 4),(rv 9 4)] (by decide) (by decide) SN) (by kernel_rfl))
theorem abv:CO 33 [(zS uZ)] (.ret (ω 0)):=az.args (args:= [(fR uZ sy true true)]) (.cons (ru _) .nil) (jI (jZ uZ sy true true E1.len E1.sm) (by kernel_rfl))
theorem abw:az prog ap 144 [.ptr 0 0 0,.str zcc4_1] [⟨[.str zcc4_6,.nilS,ω 1,.bool false],0,false,0,0,true⟩] (.ret (.str [115,117,98])) [⟨[.str [40,102,97,99,116,46,120,44,32,111,119,110,46,117,41],.nilS,ω 1,.bool false],0,false,0,0,true⟩]:=jI (ct zcc4_6 zcc4_1 (1) false none (by decide) (by decide)) (by kernel_rfl)
theorem abx:az prog ap 144 [.ptr 0 0 0,.str zcc4_1] [⟨[.str zcc4_10,.nilS,ω 2,.bool false],0,false,0,0,true⟩] (.ret (.str [102,97,99,116])) [⟨[.str [46,120,44,32,111,119,110,46,117,41],.nilS,ω 2,.bool false],0,false,0,0,true⟩]:=jI (ct zcc4_10 zcc4_1 (2) false none (by decide) (by decide)) (by kernel_rfl)
theorem aby:az prog ap 144 [.ptr 0 0 0,.str zcc4_0] [⟨[.str [120,44,32,111,119,110,46,117,41],.nilS,ω 2,.bool false],0,false,0,0,true⟩] (.ret (.str [120])) [⟨[.str [44,32,111,119,110,46,117,41],.nilS,ω 2,.bool false],0,false,0,0,true⟩]:=jI (ct [120,44,32,111,119,110,46,117,41] zcc4_0 (2) false none (by decide) (by decide)) (by kernel_rfl)
theorem abz:az prog ap 104 [.ptr 0 0 0] [⟨[.str zcc4_10,.nilS,ω 1,.bool false],0,false,0,0,true⟩] (.ret (.tup [])) [⟨[.str [44,32,111,119,110,46,117,41],.ref 1 0 0 1,ω 2,.bool false],0,false,0,0,false⟩,⟨zcc4_18,0,false,0,5,true⟩]:=cD fZ (.c aby (.c abx .nil))
theorem abA:az prog ap 144 [.ptr 0 0 0,.str zcc4_1] [⟨[.str zcc4_15,.ref 1 0 0 1,ω 3,.bool false],0,false,0,0,false⟩,⟨zcc4_18,0,false,0,5,true⟩] (.ret (.str [111,119,110])) [⟨[.str [46,117,41],.ref 1 0 0 1,ω 3,.bool false],0,false,0,0,false⟩,⟨zcc4_18,0,false,0,5,true⟩]:=jI (ct zcc4_15 zcc4_1 (3) false (some (1,zcc4_18)) (by decide) (by decide)) (by kernel_rfl)
theorem abB:az prog ap 144 [.ptr 0 0 0,.str zcc4_0] [⟨[.str [117,41],.ref 1 0 0 1,ω 3,.bool false],0,false,0,0,false⟩,⟨zcc4_18,0,false,0,5,true⟩] (.ret (.str [117])) [⟨[.str [41],.ref 1 0 0 1,ω 3,.bool false],0,false,0,0,false⟩,⟨zcc4_18,0,false,0,5,true⟩]:=jI (ct [117,41] zcc4_0 (3) false (some (1,zcc4_18)) (by decide) (by decide)) (by kernel_rfl)
theorem abC:az prog ap 104 [.ptr 0 0 0] [⟨[.str zcc4_15,.ref 1 0 0 1,ω 2,.bool false],0,false,0,0,false⟩,⟨zcc4_18,0,false,0,5,true⟩] (.ret (.tup [])) [⟨[.str [41],.ref 1 1 0 2,ω 3,.bool false],0,false,0,0,false⟩,⟨zcc4_17,1,false,0,5,true⟩]:=cD fZ (.c abB (.c abA .nil))
theorem abD:az prog ap 104 [.ptr 0 0 0] [⟨[.str zcc4_6,.nilS,ω 0,.bool false],0,false,0,0,true⟩] (.ret (.tup [])) [⟨[.str [],.ref 1 0 0 3,ω 3,.bool false],0,false,0,0,false⟩,⟨[ω 5,.bool false,.str [],.str [],.str [120],ω 6,.bool false,.str [],.str [],.str [117],ω 10,.bool false,.str [],.str [],.str []],0,false,0,5,true⟩]:=cD fZ (.c abC (.c abz (.c abw .nil)))
theorem abE:CO 62 [.str zcc4_6] (.ret (.tup [.sl [ω 5,.bool false,.str [],.str [],.str [120],ω 6,.bool false,.str [],.str [],.str [117],ω 10,.bool false,.str [],.str [],.str []] 3 true,ω 0])):=cD fZ (.c abD .nil)
theorem abF:CO 33 [(zS OU)] (.ret (ω 17)):=az.args (args:= [(fR OU sy true true)]) (.cons (ru _) .nil) (jI (jZ OU sy true true Uf.len Uf.sm) (by kernel_rfl))
theorem abG:az prog ap 144 [.ptr 0 0 0,.str zcc4_1] [⟨[.str zcc4_16,.nilS,ω 1,.bool false],0,false,0,0,true⟩] (.ret (.str [111,119,110])) [⟨[.str [46,117],.nilS,ω 1,.bool false],0,false,0,0,true⟩]:=jI (ct zcc4_16 zcc4_1 (1) false none (by decide) (by decide)) (by kernel_rfl)
theorem abH:az prog ap 144 [.ptr 0 0 0,.str zcc4_0] [⟨[.str [117],.nilS,ω 1,.bool false],0,false,0,0,true⟩] (.ret (.str [117])) [⟨[.str [],.nilS,ω 1,.bool false],0,false,0,0,true⟩]:=jI (ct [117] zcc4_0 (1) false none (by decide) (by decide)) (by kernel_rfl)
theorem abI:az prog ap 104 [.ptr 0 0 0] [⟨[.str zcc4_16,.nilS,ω 0,.bool false],0,false,0,0,true⟩] (.ret (.tup [])) [⟨[.str [],.ref 1 0 0 1,ω 1,.bool false],0,false,0,0,false⟩,⟨[ω 6,.bool false,.str [],.str [],.str [117]],0,false,0,5,true⟩]:=cD fZ (.c abH (.c abG .nil))
theorem abJ:CO 62 [.str zcc4_16] (.ret (.tup [.sl [ω 6,.bool false,.str [],.str [],.str [117]] 1 true,ω 0])):=cD fZ (.c abI .nil)
theorem abK:CO 33 [(zS OV)] (.ret (ω 1)):=az.args (args:= [(fR OV sy true true)]) (.cons (ru _) .nil) (jI (jZ OV sy true true Ug.len Ug.sm) (by kernel_rfl))
theorem abL:CO 10 [] (.ret (.bool true)):=cD fZ (.c abK (.c EY (.c BD (.c tP (.c IJ (.c abJ (.c abF (.c EY (.c BD (.c tP (.c IJ (.c abE (.c abv (.c abu (.c OQ (.c EY (.c abt (.c EZ (.c IK (.c abr (.c EZ (.c IK (.c abq (.c OT (.c abp (.c abo (.c abn (.c oG (.c tP (.c oG (.c oG (.c EZ (.c IK (.c EZ (.c BD (.c Ue (.c BD (.c Ue (.c Ud (.c OT (.c Ud (.c OT (.c OQ (.c oG (.c OQ (.c oG (.c oG (.c abm (.c EZ (.c IK (.c OP (.c oG (.c tP (.c OP (.c oG (.c tP (.c OP (.c oG (.c tP (.c abl (.c abk (.c abj (.c oG (.c tP (.c abh (.c oG (.c oG (.c EY (.c BD (.c tP (.c IJ (.c abg (.c EY (.c BD (.c tP (.c IJ (.c aaT (.c sa0 .nil))))))))))))))))))))))))))))))))))))))))))))))))))))))))))))))))))))))))))))))
theorem X6:CO 10 [] (.ret (.bool true)):=abL
end Go.Proofs.Tryz
