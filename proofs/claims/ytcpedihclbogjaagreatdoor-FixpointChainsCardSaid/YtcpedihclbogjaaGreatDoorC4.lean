/- Contracts of functions; joined by a program of mine. -/
import Derived.Test.YtcpedihclbogjaaGreatDoorC3
import Derived.Test.YtcpedihclbogjaaGreatDoorC2
import Derived.Test.YtcpedihclbogjaaGreatDoorM5
import Derived.Test.YtcpedihclbogjaaGreatDoorC1
import Derived.OwnWalkIn
import Derived.Maps.OwnIn
import Derived.Stop.RegionWithIn
import Derived.Test.YtcpedihclbogjaaGreatDoorM4
import Derived.Test.YtcpedihclbogjaaGreatDoorCards
import Derived.Test.YtcpedihclbogjaaGreatDoorTie
import Derived.Deep.DeepHandedRow
set_option linter.unusedSimpArgs false
set_option linter.unusedVariables false
set_option maxRecDepth 100000
set_option linter.unusedVariables false
open Go AM
open List renaming getElem?_eq_getElem->μ,zip_cons_cons->Xzn,map_cons->Xqg,find?_append->Xwp,map->Xz1,range->Xqo,length_map->Xqp,getD_eq_getElem?_getD->ξ,length_cons->ο,getLast?_cons->Yqg,take->π,take_of_length_le->φ,flatMap_append->Xx9,drop->ε,length->θ,flatMap_cons->Xxx,map_drop->Xj0,all_cons->Xzr,eq_nil_of_length_eq_zero->Xq2,replicate->ζ,range'->Yqa,range'_succ->Xwy,length_replicate->Xxa,getElem?_map->Xqw,getElem?_eq_none->Xq9,size_toArray->Xxh,length_nil->Xqa,push_toArray->Xjd,append_toArray->Xx0,nil_append->Xqc,cons_append->Xqt,map_append->Xq5,prefix_refl->Xwx,append_assoc->Xqe,getElem?_cons_zero->Xxb,getElem?_cons_succ->Xja,getElem?_toArray->Xzl,length_append->ν,getLast?_map->Yqp,map_map->Xzh,mem_of_getElem?->Xqm,getLast?_eq_none_iff->Xv2,length_singleton->Θ,drop_zero->Xxz,mem_cons->Xjj,not_mem_nil->Xju,getElem_mem->Xxj,length_take->Xqz,length_drop->Xx4
open Bool renaming and_eq_true->τ,not_eq_true'->Xqs,false_eq_true->Xqy,false_ne_true->Xxu
open Int renaming natAbs_natCast->Xz4,lt_or_le->Yjh,toNat->δ,le_refl->Xk8,tdiv->Xq6,le_of_lt->Yqs,tmod->Xxk
open Nat renaming le_refl->κ,div_le_self->Xxg,le_trans->Xqr,mul_le_mul->Xwe,mul_one->Xqi,lt_of_le_of_lt->χ,ble->Xqn,ble_eq_true_of_le->Γ,lt_of_lt_of_le->υ,zero_mul->Xj7,zero_add->Δ,add_zero->Xq4,reduceAdd->Xzd,reduceSub->Xze,zero_le->Xq7,add_assoc->Xj2,mod_lt->Xq3
open IntKind renaming wrap->γ,wrap_i64->Xkk
open AV renaming sl->Xvk
open Option renaming some_get->Yxf
namespace Go.Proofs.Tryz
abbrev zcc4_0 : List UInt8 := [97,98,99,100,101,102,103,104,105,106,107,108,109,110,111,112,113,114,115,116,117,118,119,120,121,122,48,49,50,51,52,53,54,55,56,57,95]
abbrev zcc4_1 : List UInt8 := [97,98,99,100,101,102,103,104,105,106,107,108,109,110,111,112,113,114,115,116,117,118,119,120,121,122]
abbrev zcc4_2 : List UInt8 := [109,105,110,40,102,97,99,116,46,120,44,32,97,100,100,40,111,119,110,46,117,44,32,36,49,41,41]
abbrev zcc4_3 : List UInt8 := [109,105,110,40,102,97,99,116,46,120,44,32,97,100,100,40,111,119,110,46,117,44,32,36,53,41,41]
abbrev zcc4_4 : List UInt8 := [102,97,99,116,46,120,44,32,97,100,100,40,111,119,110,46,117,44,32,36,49,41,41]
abbrev zcc4_5 : List UInt8 := [102,97,99,116,46,120,44,32,97,100,100,40,111,119,110,46,117,44,32,36,53,41,41]
abbrev zcc4_6 : List UInt8 := [115,117,98,40,102,97,99,116,46,120,44,32,111,119,110,46,117,41]
abbrev zcc4_7 : List UInt8 := [109,117,108,40,111,119,110,46,116,44,32,49,47,50,41]
abbrev zcc4_8 : List UInt8 := [97,100,100,40,111,119,110,46,117,44,32,36,49,41,41]
abbrev zcc4_9 : List UInt8 := [97,100,100,40,111,119,110,46,117,44,32,36,53,41,41]
abbrev zcc4_10 : List UInt8 := [102,97,99,116,46,120,44,32,111,119,110,46,117,41]
abbrev zcc4_11 : List UInt8 := [111,119,110,46,117,44,32,36,49,41,41]
abbrev zcc4_12 : List UInt8 := [111,119,110,46,116,44,32,49,47,50,41]
abbrev zcc4_13 : List UInt8 := [111,119,110,46,117,44,32,36,53,41,41]
abbrev zcc4_14 : List UInt8 := [45,48,49,50,51,52,53,54,55,56,57,47]
abbrev zcc4_15 : List UInt8 := [111,119,110,46,117,41]
abbrev zcc4_16 : List UInt8 := [111,119,110,46,117]
abbrev zcc4_17 : List AV := [ω 5,.bool false,.str [],.str [],.str [120],ω 6,.bool false,.str [],.str [],.str [117]]
abbrev zcc4_18 : List AV := [ω 5,.bool false,.str [],.str [],.str [120]]
abbrev zcc4_19 : List AV := [ω 6,.bool false,.str [],.str [],.str [116]]
def wM (a b:List Rw):Prop:=a.length=b.length/\∀ (i:Nat) (x y:Rw),a[i]? =some x->b[i]? =some y->x.v.rt<=y.v.rt
theorem wM.tail {x y:Rw} {a b:List Rw} (h:wM (x::a) (y::b)):wM a b:=⟨by simpa using h.1,λi u w d c=>h.2 (i+1) u w (by simpa using d) (by simpa using c)⟩
theorem wM.head {x y:Rw} {a b:List Rw} (h:wM (x::a) (y::b)):x.v.rt<=y.v.rt:=h.2 0 x y rfl rfl
theorem wM.cons {x y:Rw} {a b:List Rw} (h:x.v.rt<=y.v.rt) (e:wM a b):wM (x::a) (y::b):=⟨by simp [e.1],λi u w d c=>by
 cases i with
 |zero=>simp at d c;subst d c;exact h
 |succ i=>exact e.2 i u w (by simpa using d) (by simpa using c)⟩
theorem wM.nil:wM [] []:=⟨rfl,λi u w a _=>by simp at a⟩
theorem wM.trans {a b c:List Rw} (h:wM a b) (e:wM b c):wM a c:=⟨h.1.trans e.1,λi u w d g=>by
 have f:i<b.length:=by rw [<- h.1];exact (List.getElem?_eq_some_iff.1 d).1
 have:=h.2 i u b[i] d (μ f);have:=e.2 i b[i] w (μ f) g;grind⟩
theorem NH (sd:Int) (c:Int) (d:List UInt8):∀ {es:List a_} {v v':List Rw},v.length=es.length->wM v v'->
  (((es.zip v).map (zG sd)).find? (λy=>(c==y.op) && (d==y.nm))=none/\((es.zip v').map (zG sd)).find? (λy=>(c==y.op) && (d==y.nm))=none)\/
  ∃ (x:a_) (y y':Rw),x ∈ es/\((es.zip v).map (zG sd)).find? (λy=>(c==y.op) && (d==y.nm))=some (zG sd (x,y))/\((es.zip v').map (zG sd)).find? (λy=>(c==y.op) && (d==y.nm))=some (zG sd (x,y'))/\y.v.rt<=y'.v.rt/\(c=6\/c=8)/\d=x.nm
 | [],v,v',_,_=> .inl ⟨rfl,rfl⟩
 |x::es,[],v',h,_=>by simp at h
 |x::es,y::v,[],_,h=>by have:=h.1;simp at this
 | x::es,y::v,y'::v',hl,h=>by
  simp only [Xzn,Xqg,List.find?_cons];have i:(zG sd (x,y)).op=(zG sd (x,y')).op:=rfl;have g:(zG sd (x,y)).nm=(zG sd (x,y')).nm:=rfl;rw [i,g];cases f:((c==(zG sd (x,y')).op) && (d==(zG sd (x,y')).nm)) with
  |true=>
   simp only [τ,beq_iff_eq] at f;refine .inr ⟨x,y,y',by simp,rfl,rfl,h.head, ?_,f.2⟩;have e:=f.1;simp only [zG] at e;split at e<;>omega
  |false=>
   rcases NH sd c d (by simpa using hl) h.tail with e|⟨z,a,b,h0,e⟩
   .exact .inl e
   .exact .inr ⟨z,a,b,by simp [h0],e⟩
theorem VK {y:Rw} {p:RQ} (h:CU y.n y.a y.d 0= .val p):p=y.v:=by
 unfold CU at h;rw [if_pos rfl] at h;split at h
 .rename_i a;cases h;show _=vQ y.n y.a y.d;unfold vQ;rw [if_pos (oL a).1]
 .cases h
abbrev NmI (es:List a_):={p:Int × List UInt8 // (p.1=6\/p.1=8)/\p.2 ∈ Tn es}
theorem ado {es:List a_} {v l:List Rw} (ss:List (List Lk)) (i:Nat) (j:v.length=es.length) (h:wM v l):Dif ⟨rD es v ss i,[]⟩ ⟨rD es l ss i,[]⟩ (λu:NmI es=>u.1.1) (λu:NmI es=>u.1.2) where
 qs:=rfl
 nil:=rfl
 lk o n hn:=by
  unfold Rf rD;rw [Xwp,Xwp];rcases NH (i:Int) o n j h with ⟨c,b⟩|⟨x,y,d,k,_,_,_,g,f⟩
  .rw [c,b]
  .exact absurd ⟨rfl,rfl⟩ (hn ⟨(o,n),g,by rw [f];exact List.mem_map.2 ⟨x,k,rfl⟩⟩)
 atN:=by
  rintro ⟨⟨o,n⟩,g,hm⟩ p q hp a
  simp only at hp a;unfold Rf rD at hp a;rw [Xwp] at hp a;rcases NH (i:Int) o n j h with ⟨c,b⟩|⟨x,y,d,k,c,b,e,_,_⟩
  .rw [c] at hp;rw [b] at a;rw [hp] at a;cases a;grind
  .rw [c] at hp;rw [b] at a;have hp:CU y.n y.a y.d 0= .val p:=hp;have a:CU d.n d.a d.d 0= .val q:=a;rw [VK hp,VK a];exact e
theorem XY {es:List a_} {x:a_} (h:Jf es x=true) (u:NmI es):kF (xf fB) (xh fB) x.body [] u.1.1 u.1.2<=1:=by
 obtain ⟨⟨o,n⟩,a,b⟩:=u;unfold Jf Gm at h;rw [τ] at h;have:=List.all_eq_true.1 h.2 n b;unfold abv at this;simp only [τ,Xqs,decide_eq_false_iff_not] at this;simp only at a ⊢;rcases a with rfl|rfl
 .have:=this.1;show kF (xf fB) (xh fB) x.body (Xz1 Sq.c []) 6 n<=1;omega
 .have:=this.2;show kF (xf fB) (xh fB) x.body (Xz1 Sq.c []) 8 n<=1;omega
theorem adU {es:List a_} {v a:List Rw} (ss:List (List Lk)) (i:Nat) (d:v.length=es.length) (h:wM v a) {x:a_} (b:Jf es x=true) {p q:RQ} (hp:m_ ⟨rD es v ss i,[]⟩ x.body= .val p) (c:m_ ⟨rD es a ss i,[]⟩ x.body= .val q):p.rt<=q.rt:=
 Yf (ado ss i d h) (λu=>by have:=u.2.1;omega) x.body (λu=>XY b u) p q hp c
theorem oW {a s:Rw} (h:0<=aV a s):0<s.v.n/\jG a.n a.a a.d=true/\aV a s<=200/\a.v.rt=((aV a s:Int):Rat)*s.v.rt:=by
 unfold aV at h ⊢;split at h
 .omega
 rename_i h0;rw [if_neg h0];split at h
 .rename_i b;rw [if_pos b];obtain ⟨i,d,f,j⟩:=b;have hs:s.v.ok:=fJ _ _ _;have g:a.v.ok:=fJ _ _ _;have c:=Ec g hs (by omega);have k:s.v.rt ≠ 0:=λe=>by
   have:=(wu hs).2.1.2 e;unfold jQ at this;rw [if_neg h0] at this;split at this<;>cases this
  refine ⟨by omega,i,by omega, ?_⟩;have:(bQ a.v s.v).rt=(((bQ a.v s.v).n:Nat):Rat):=by
   unfold RQ.rt;rw [d,f];simp only [Xqy,if_false];grind
  rw [this] at c;have e:(((bQ a.v s.v).n:Nat):Rat)*s.v.rt=a.v.rt:=by rw [c];grind
  rw [<- e];rfl
 .omega
theorem Jy {x:a_} (h:jD x=true):x.st.v.ok/\0<x.st.v.n/\0<x.st.v.rt:=by
 obtain ⟨a,_,b,_⟩:=nG h;have:=Jl (UQ a).1 b;exact ⟨(UQ a).1,this.2,this.1⟩
theorem Dn {a s:Rw} (l:jG a.n a.a a.d=true) (hs:s.v.ok) (h0:0<s.v.n) (hp:0<s.v.rt) (k:Nat) (f:k<=200) (h:a.v.rt=(k:Rat)*s.v.rt):aV a s=k:=by
 have d:a.v.ok:=fJ _ _ _;have b:=qc d h0;have i:(bQ a.v s.v).rt=(vK (k:Int)).rt:=by
  rw [Ec d hs h0,h];have e:(vK (k:Int)).rt=(k:Rat):=by
   unfold RQ.rt vK;have:decide ((k:Int)<0)=false:=Yq1 (by omega);rw [this];simp only [Xqy,if_false,Xz4];grind
  rw [e];grind
 have j:=v_ b (BQ _) i;unfold aV;rw [if_neg (by omega),j];have g:(vK (k:Int)).neg=false:=(Yq1 (by omega):decide ((k:Int)<0)=false)
 have c:(vK (k:Int)).n=k:=Xz4 k;rw [if_pos ⟨l,g,rfl,by rw [c];exact f⟩,c]
theorem OB {q:RQ} (h:q.ok):jG (wQ q).n (wQ q).a (wQ q).d=true:=xO q h
theorem Vt:q0.rt=0:=by unfold RQ.rt q0;grind
theorem Tq {q:RQ} (h:q.ok):q.neg=true↔q.rt<0:=by
 have hs:=wu h;constructor
 .intro b;refine hs.1.1 ?_;have:=h.2.2 b;unfold jQ;rw [if_neg (by omega),b];decide
 .intro a;have:=hs.1.2 a;unfold jQ at this;split at this
  .omega
  .split at this
   .assumption
   .omega
theorem X0 {o:Oq} {x:a_} {w:Rw} (p:jD x=true) (t:o.ok) (h:zn o x= .inr w):0<=aV w x.st/\aV w x.st<=aV x.cp x.st:=by
 obtain ⟨G,D,F,r⟩:=nG p;obtain ⟨s1,m,f⟩:=Jy p;cases o with
 |err e=>cases h
 | val q=>
  obtain ⟨E,C,v,l⟩:=oW (a:=x.cp) (s:=x.st) (by omega);simp only [zn] at h;split at h
  .cases h;have:=Dn (a:=wQ q0) (s:=x.st) (OB ET) s1 m f 0 (by omega) (by rw [FN ET,Vt];grind);rw [this];omega
  .rename_i B;split at h
   .cases h;omega
   .rename_i i;split at h
    .cases h;have b:(lu q x.st.v).ok:=iZ s1;obtain ⟨d,_,_⟩:=Jj t.1 s1 m;have g:¬ (lu q x.st.v).rt<0:=λh=>B ((Tq b).2 h)
     have j:x.cp.v.ok:=fJ _ _ _;have c:¬ x.cp.v.rt<(lu q x.st.v).rt:=λh=>i ((vC b j).2.2.2 h)
     obtain ⟨U,y⟩:∃ U:Nat,aV x.cp x.st=U:=⟨(aV x.cp x.st).toNat,by omega⟩
     rw [y] at l r v ⊢;have u:0<=tZ (bQ q x.st.v):=by
      rcases Yjh (tZ (bQ q x.st.v)) 0 with hlt|hge
      .exfalso;have:((tZ (bQ q x.st.v):Int):Rat)<0:=by exact_mod_cast hlt
       apply g;rw [d];have:=Rat.mul_lt_mul_of_pos_right this f;grind
      .exact hge
     obtain ⟨k,A⟩:∃ k:Nat,tZ (bQ q x.st.v)=k:=⟨(tZ (bQ q x.st.v)).toNat,by omega⟩
     rw [A] at d;have d:(lu q x.st.v).rt=(k:Rat)*x.st.v.rt:=d;have l:x.cp.v.rt=(U:Rat)*x.st.v.rt:=l;have z:k<=U:=by
      rcases Nat.lt_or_ge U k with hlt|hge
      .exfalso;apply c;have:(U:Rat)<(k:Rat):=by exact_mod_cast hlt
       have:=Rat.mul_lt_mul_of_pos_right this f;grind
      .exact hge
     have:=Dn (a:=wQ (lu q x.st.v)) (s:=x.st) (OB b) s1 m f k (by omega) (by rw [FN b];exact d);rw [this];omega
    .cases h
theorem ajs {p q:RQ} {x:a_} {a b:Rw} (i:jD x=true) (hp:p.ok) (v:q.ok) (h:p.rt<=q.rt) (t:zn (.val p) x= .inr a) (o:zn (.val q) x= .inr b):a.v.rt<=b.v.rt:=by
 obtain ⟨D,z,k,y⟩:=nG i;obtain ⟨s1,E,A⟩:=Jy i;have d:x.cp.v.ok:=fJ _ _ _;obtain ⟨B,w,C,l⟩:=oW (a:=x.cp) (s:=x.st) (by omega);have u:0<=x.cp.v.rt:=by
  rw [l];have:(0:Rat)<=((aV x.cp x.st:Int):Rat):=by exact_mod_cast (by omega:0<=aV x.cp x.st)
  exact Rat.mul_nonneg this (by grind)
 have m:(lu p x.st.v).ok:=iZ s1;have j:(lu q x.st.v).ok:=iZ s1;have hd:=FZ hp v s1 k h;have key:∀ {r:RQ} {c:Rw},(lu r x.st.v).ok->zn (.val r) x= .inr c->c.v.rt=if (lu r x.st.v).rt<0 then 0 else if x.cp.v.rt<(lu r x.st.v).rt then x.cp.v.rt else (lu r x.st.v).rt:=by
  intro r c e h;simp only [zn] at h;split at h
  .rename_i g;cases h;rw [if_pos ((Tq e).1 g),FN ET,Vt]
  .rename_i g;rw [if_neg (λh=>g ((Tq e).2 h))];split at h
   .rename_i f;cases h;rw [if_pos ((vC e d).2.2.1 f)]
   .rename_i f;rw [if_neg (λh=>f ((vC e d).2.2.2 h))];split at h
    .cases h;rw [FN e]
    .cases h
 rw [key m t,key j o];split<;>split<;>grind
def okU (x:a_) (y:Rw):Prop:=0<=aV y x.st/\aV y x.st<=aV x.cp x.st
def eY:List a_->List Rw->Prop
 | [],[]=>True
 |x::es,y::v=>okU x y/\eY es v
 |_,_=>False
theorem eY.len:∀ {es:List a_} {v:List Rw},eY es v->v.length=es.length
 | [],[],_=>rfl
 |x::es,y::v,h=>by simp [h.2.len]
 | [],_::_,h=>h.elim
 |_::_,[],h=>h.elim
theorem Lu:∀ {es:List a_} {v:List Rw},AA es v=true↔eY es v:=by
 have key:∀ (es:List a_) (v:List Rw),v.length=es.length->(goL Oc (λ_=>true) (es.zip v) ()=true↔eY es v):=by
  intro es
  induction es with
  |nil=>intro v a;cases v with
   |nil=>simp [goL,eY]
   |cons _ _=>simp at a
  | cons x es b=>intro v a;cases v with
   |nil=>simp at a
   |cons y v=>
    have b:=b v (by simpa using a);simp only [Xzn,goL,Oc,eY,okU];by_cases hc:0<=aV y x.st/\aV y x.st<=aV x.cp x.st
    .rw [if_pos hc];simp only [b,hc,true_and,and_self]
    .rw [if_neg hc];simp [hc]
 intro es v;unfold AA;rw [τ,decide_eq_true_eq];constructor
 .rintro ⟨h1,h2⟩;exact (key es v h1).1 h2
 .intro h;exact ⟨h.len,(key es v h.len).2 h⟩
structure wJ (n:Nat) (es:List a_):Prop where
 ok:∀ x ∈ es,GG n x
 ris:∀ x ∈ es,Jf es x=true
def rf (ss:List (List Lk)) (es:List a_) (v:List Rw):Int ⊕ List Rw:=qf ((Xqo ss.length).map (rD es v ss)) es
theorem ah6 {ss:List (List Lk)} {es:List a_} {v:List Rw} {x:a_} (h:GG ss.length x):((Xqo ss.length).map (rD es v ss)).getD (δ x.sd) []=rD es v ss (δ x.sd):=by
 have b:=h.lo;have c:=h.hi;have a:δ x.sd<((Xqo ss.length).map (rD es v ss)).length:=by rw [Xqp,List.length_range];omega
 rw [ξ,μ a,List.getElem_map,List.getElem_range];rfl
theorem fV {ss:List (List Lk)} {es:List a_} {v:List Rw}:∀ {r:List a_} {w:List Rw},(∀ x ∈ r,GG ss.length x)->qf ((Xqo ss.length).map (rD es v ss)) r= .inr w->eY r w
 | [],w,_,h=>by cases h;exact trivial
 |x::r,w,hk,h=>by
  simp only [qf] at h;split at h
  .cases h
  rename_i a b;split at h
  .cases h
  rename_i l c;cases h;exact ⟨X0 (hk x (by simp)).cap (xI _ _) b,fV (λy d=>hk y (by simp [d])) c⟩
theorem uO {ss:List (List Lk)} {es:List a_} {v d:List Rw} (o:v.length=es.length) (c:wM v d):∀ {r:List a_} {w w':List Rw},(∀ x ∈ r,GG ss.length x/\Jf es x=true)->qf ((Xqo ss.length).map (rD es v ss)) r= .inr w->qf ((Xqo ss.length).map (rD es d ss)) r= .inr w'->wM w w'
 | [],w,w',_,h,h'=>by cases h;cases h';exact wM.nil
 | x::r,w,w',hk,h,h'=>by
  simp only [qf] at h h';obtain ⟨k,t⟩:=hk x (by simp);rw [ah6 k] at h h';split at h
  .cases h
  rename_i a g;split at h
  .cases h
  rename_i l z;cases h;split at h'
  .cases h'
  rename_i b f;split at h'
  .cases h'
  rename_i m u;cases h';refine wM.cons ?_ (uO o c (λy A=>hk y (by simp [A])) z u);have s:=xI ⟨rD es v ss (δ x.sd),[]⟩ x.body;have j:=xI ⟨rD es d ss (δ x.sd),[]⟩ x.body;cases hp:m_ ⟨rD es v ss (δ x.sd),[]⟩ x.body with
  |err e=>rw [hp] at g;cases g
  | val p=>cases i:m_ ⟨rD es d ss (δ x.sd),[]⟩ x.body with
   |err e=>rw [i] at f;cases f
   |val q=>
    rw [hp] at g s;rw [i] at f j;exact ajs k.cap s.1 j.1 (adU ss _ o c t hp i) g f
def Df:List a_->List Rw->Nat
 |x::es,y::v=>(aV y x.st).toNat+Df es v
 |_,_=>0
def JR:List a_->Nat
 | []=>0
 |x::es=>(aV x.cp x.st).toNat+JR es
theorem Ou:∀ {es:List a_} {v:List Rw},eY es v->Df es v<=JR es
 | [],[],_=>κ _
 |x::es,y::v,h=>by
  have:=Ou h.2;have:=h.1.2;have:=h.1.1;simp only [Df,JR];omega
 | [],_::_,h=>h.elim
 |_::_,[],h=>h.elim
theorem RF:∀ {es:List a_},(∀ x ∈ es,jD x=true)->JR es<=200*es.length
 | [],_=>κ _
 |x::es,h=>by
  have d:=RF (es:=es) λy b=>h y (by simp [b])
  obtain ⟨_,_,_,c⟩:=nG (h x (by simp));have h5:=(oW (a:=x.cp) (s:=x.st) (by omega)).2.2.1;simp only [JR,ο];omega
theorem acH {x:a_} {a b:Rw} (q:jD x=true) (s:okU x a) (r:okU x b) (h:a.v.rt<=b.v.rt):aV a x.st<=aV b x.st/\(aV a x.st=aV b x.st->a=b):=by
 obtain ⟨s1,w,m⟩:=Jy q;obtain ⟨_,f,_,g⟩:=oW s.1;obtain ⟨_,d,_,o⟩:=oW r.1;constructor
 .rcases Yjh (aV b x.st) (aV a x.st) with hlt|hge
  .exfalso;have:((aV b x.st:Int):Rat)<((aV a x.st:Int):Rat):=by exact_mod_cast hlt
   have:=Rat.mul_lt_mul_of_pos_right this m;grind
  .exact hge
 .intro e;rw [e,<- o] at g;have c:a.v=b.v:=v_ (fJ _ _ _) (fJ _ _ _) g;obtain ⟨A,B,v⟩:=a;obtain ⟨y,C,z⟩:=b;simp only [Rw.v,vQ] at c;simp only at f d;rw [if_pos f,if_pos d] at c;obtain ⟨t,u⟩:=nK f;obtain ⟨p,l⟩:=nK d;have k:=congrArg RQ.neg c;have i:=congrArg RQ.n c;have j:=congrArg RQ.d c;simp only at k i j;rw [<- t,<- u,<- p,<- l,k,i,j]
theorem Ov:∀ {es:List a_} {v w:List Rw},(∀ x ∈ es,jD x=true)->eY es v->eY es w->wM v w->Df es v<=Df es w/\(Df es v=Df es w->v=w)
 | [],[],[],_,_,_,_=> ⟨κ _,λ_=>rfl⟩
 |x::es,y::v,z::w,hc,hv,hw,h=>by
  obtain ⟨f,b⟩:=Ov (λq c=>hc q (by simp [c])) hv.2 hw.2 h.tail;obtain ⟨d,a⟩:=acH (hc x (by simp)) hv.1 hw.1 h.head;have:=hv.1.1;have:=hw.1.1;simp only [Df];refine ⟨by omega,λe=> ?_⟩;rw [a (by omega),b (by omega)]
 | [],_::_,_,_,h,_,_=>h.elim
 | [],[],_::_,_,_,h,_=>h.elim
 |_::_,[],_,_,h,_,_=>h.elim
 |_::_,_::_,[],_,_,h,_=>h.elim
inductive Kr (F:List Rw->Int ⊕ List Rw):List Rw->Int ⊕ List (List Rw)->Prop
 |err {v:List Rw} {e:Int}:F v= .inl e->Kr F v (.inl e)
 |fix {v:List Rw}:F v= .inr v->Kr F v (.inr [v])
 |stepE {v w:List Rw} {e:Int}:F v= .inr w->v ≠ w->Kr F w (.inl e)->Kr F v (.inl e)
 |stepC {v w:List Rw} {c:List (List Rw)}:F v= .inr w->v ≠ w->Kr F w (.inr c)->Kr F v (.inr (v::c))
theorem Kr.det {F:List Rw->Int ⊕ List Rw} {v:List Rw} {r r':Int ⊕ List (List Rw)} (h:Kr F v r) (a:Kr F v r'):r=r':=by
 induction h generalizing r' with
 |err h1=>cases a with
  |err h2=>rw [h1] at h2;cases h2;rfl
  |fix h2=>rw [h1] at h2;cases h2
  |stepE h2=>rw [h1] at h2;cases h2
  |stepC h2=>rw [h1] at h2;cases h2
 |fix h1=>cases a with
  |err h2=>rw [h1] at h2;cases h2
  |fix h2=>rfl
  |stepE h2 hn=>rw [h1] at h2;cases h2;exact absurd rfl hn
  |stepC h2 hn=>rw [h1] at h2;cases h2;exact absurd rfl hn
 |stepE h1 hn _ ih=>cases a with
  |err h2=>rw [h1] at h2;cases h2
  |fix h2=>rw [h1] at h2;cases h2;exact absurd rfl hn
  |stepE h2 _ h3=>rw [h1] at h2;cases h2;exact ih h3
  |stepC h2 _ h3=>rw [h1] at h2;cases h2;have:=ih h3;cases this
 |stepC h1 hn _ ih=>cases a with
  |err h2=>rw [h1] at h2;cases h2
  |fix h2=>rw [h1] at h2;cases h2;exact absurd rfl hn
  |stepE h2 _ h3=>rw [h1] at h2;cases h2;have:=ih h3;cases this
  |stepC h2 _ h3=>rw [h1] at h2;cases h2;have:=ih h3;cases this;rfl
theorem abL {ss:List (List Lk)} {es:List a_} (hs:wJ ss.length es):∀ (d:Nat) (v:List Rw),eY es v->JR es - Df es v<=d->(∀ w,rf ss es v= .inr w->wM v w)->∃ r,Kr (rf ss es) v r/\∀ c,r= .inr c->c.length<=d+1:=by
 intro d
 induction d with
 | zero=>
  intro v i hd b;cases h:rf ss es v with
  |inl e=>exact ⟨_,.err h,λc a=>by cases a⟩
  |inr w=>
   have g:=fV hs.ok h;obtain ⟨m,j⟩:=Ov (λx f=>(hs.ok x f).cap) i g (b w h);have:=Ou g;have e:=j (by omega);subst e;exact ⟨_,.fix h,λc a=>by cases a;simp⟩
 | succ d ih=>
  intro v i hd b;cases h:rf ss es v with
  |inl e=>exact ⟨_,.err h,λc a=>by cases a⟩
  | inr w=>
   have g:=fV hs.ok h;by_cases hn:v=w
   .subst hn;exact ⟨_,.fix h,λc a=>by cases a;simp⟩
   .obtain ⟨m,j⟩:=Ov (λx f=>(hs.ok x f).cap) i g (b w h);have p:Df es v ≠ Df es w:=λe=>hn (j e)
    obtain ⟨r,k,l⟩:=ih w g (by omega) λu o=>uO i.len (b w h) (λx f=> ⟨hs.ok x f,hs.ris x f⟩) h o
    cases r with
    |inl e=>exact ⟨_,.stepE h hn k,λc a=>by cases a⟩
    |inr c=>exact ⟨_,.stepC h hn k,λq a=>by cases a;have:=l c rfl;simp;omega⟩
def tX (es:List a_):List Rw:=es.map λ_=>wQ q0
theorem akc {x:a_} (b:jD x=true):aV (wQ q0) x.st=0/\0<aV x.cp x.st:=by
 obtain ⟨s1,c,d⟩:=Jy b;exact ⟨Dn (a:=wQ q0) (s:=x.st) (OB ET) s1 c d 0 (by omega) (by rw [FN ET,Vt];grind),(nG b).2.2.2⟩
theorem nS:∀ {es:List a_},(∀ x ∈ es,jD x=true)->eY es (tX es)/\Df es (tX es)=0
 | [],_=> ⟨trivial,rfl⟩
 |x::es,h=>by
  obtain ⟨c,b⟩:=nS (es:=es) λy d=>h y (by simp [d])
  obtain ⟨a,e⟩:=akc (h x (by simp));refine ⟨⟨⟨by rw [a];exact Xk8 _,by rw [a];omega⟩,c⟩, ?_⟩;show (aV (wQ q0) x.st).toNat+Df es (tX es)=0;rw [a,b];rfl
theorem Eo:∀ {es:List a_} {v:List Rw},(∀ x ∈ es,jD x=true)->eY es v->wM (tX es) v
 | [],[],_,_=>wM.nil
 |x::es,y::v,hc,h=>by
  refine wM.cons ?_ (Eo (λq a=>hc q (by simp [a])) h.2);obtain ⟨s1,b,c⟩:=Jy (hc x (by simp));obtain ⟨_,_,_,e⟩:=oW h.1.1;rw [FN ET,Vt,e];have:(0:Rat)<=((aV y x.st:Int):Rat):=by exact_mod_cast h.1.1
  exact Rat.mul_nonneg this (by grind)
 | [],_::_,_,h=>h.elim
 |_::_,[],_,h=>h.elim
theorem abK {ss:List (List Lk)} {es:List a_} (hs:wJ ss.length es):∃ r,Kr (rf ss es) (tX es) r/\∀ c,r= .inr c->c.length<=JR es+1:=by
 have a:∀ x ∈ es,jD x=true:=λx e=>(hs.ok x e).cap
 obtain ⟨d,f⟩:=nS a;exact abL hs (JR es) _ d (by omega) λw b=>Eo a (fV hs.ok b)
theorem X8 {ss:List (List Lk)} {es:List a_} (hs:wJ ss.length es) {u r:List Rw} (m:eY es u) (g:rf ss es u= .inr r) (d:wM r u):∀ {v:List Rw} {c:List (List Rw)},Kr (rf ss es) v (.inr c)->eY es v->wM v u->∃ l,c.getLast? =some l/\wM l u:=by
 intro v c h;generalize b:(Sum.inr c:Int ⊕ List (List Rw))=q at h
 induction h generalizing c with
 |err _=>cases b
 |fix h1=>cases b;intro _ a;exact ⟨_,rfl,a⟩
 |stepE _ _ _ _=>cases b
 |stepC h1 hn h2 ih=>
  cases b;intro k a;rename_i v w c;have j:wM w u:=(uO k.len a (λx f=> ⟨hs.ok x f,hs.ris x f⟩) h1 g).trans d;obtain ⟨l,i,e⟩:=ih rfl (fV hs.ok h1) j;refine ⟨l, ?_,e⟩;rw [Yqg,i];rfl
def jC (l:List (List Int)):List AV:=l.flatMap λxs=> [.sl (iL xs) xs.length false]
theorem Um (n k:Nat) (h:n<2^62):ω (γ .i64 (Xq6 (n:Int) (k:Int)))= ω ((n / k:Nat):Int):=by
 have a:n / k<=n:=Xxg _ _;rw [<- Int.ofNat_tdiv];generalize n / k=q at a ⊢;rw [dM (by omega) (by omega)]
structure qJ (x:a_):Prop where
 cap:jD x=true
 st:∃ w:RQ,w.ok/\w.n<=3/\w.d<=3/\x.st=wQ w
theorem dQ {q:RQ} (a:q.n<=600) (b:q.d<=3):(wQ q).ti:=⟨Xqr (dw (k:=2) (by omega)) (by decide),Xqr (dw (k:=2) (by omega)) (by decide)⟩
theorem qJ.sti {x:a_} (h:qJ x):x.st.ti:=by
 obtain ⟨w,_,b,a,e⟩:=h.st;rw [e];exact dQ (by omega) (by omega)
theorem abb {x:a_} {y:Rw} (j:qJ x) (h:0<=aV y x.st):y.ti:=by
 obtain ⟨w,b,o,u,e⟩:=j.st;obtain ⟨_,i,l,g⟩:=oW h;obtain ⟨k,r⟩:∃ k:Nat,aV y x.st=k:=⟨(aV y x.st).toNat,by omega⟩
 rw [r] at g l;have a:(⟨false,k,1⟩:RQ).ok:=⟨by simp,by simp,by simp⟩
 have c:(⟨false,k,1⟩:RQ).rt=((k:Nat):Rat):=by unfold RQ.rt;grind
 have s:y.v=gJ w ⟨false,k,1⟩:=by
  refine v_ (fJ _ _ _) (Ce b a) ?_;rw [g,e,FN b,AC b a,c];have:((k:Int):Rat)=((k:Nat):Rat):=by norm_cast
  rw [this];grind
 have f:(gJ w ⟨false,k,1⟩).n<=600:=by
  unfold gJ kC;refine Xqr (Xxg _ _) ?_;show w.n*k<=600;exact Xqr (Xwe o (by omega:k<=200)) (by decide)
 have hd:(gJ w ⟨false,k,1⟩).d<=3:=by
  unfold gJ kC;refine Xqr (Xxg _ _) ?_;show w.d*1<=3;omega
 rw [<- s] at f hd;obtain ⟨p,t⟩:=nK i;have d:y.v=⟨y.n,ag y.a,ag y.d⟩:=LW i;rw [d] at f hd;have:=dQ (q:=⟨y.n,ag y.a,ag y.d⟩) f hd;have m:wQ ⟨y.n,ag y.a,ag y.d⟩=y:=by
  show (⟨y.n,ae (ag y.a),ae (ag y.d)⟩:Rw)=y;rw [p,t]
 rw [m] at this;exact this
theorem qJ.cti {x:a_} (h:qJ x):x.cp.ti:=abb h (Yqs (nG h.cap).2.2.2)
theorem Qn:∀ {es:List a_} {v:List Rw},(∀ x ∈ es,qJ x)->eY es v->∀ y ∈ v,y.ti
 | [],[],_,_,y,hy=>by cases hy
 |x::es,z::v,hc,h,y,hy=>by
  rcases List.mem_cons.1 hy with rfl|hy
  .exact abb (hc x (by simp)) h.1.1
  .exact Qn (λq a=>hc q (by simp [a])) h.2 y hy
 | [],_::_,_,h,_,_=>h.elim
 |_::_,[],_,h,_,_=>h.elim
theorem B_ (a b c:Nat) (D:0<a:=by omega) (z:a<=3:=by omega) (C:0<b:=by omega) (v:b<=3:=by omega) (L:0<c:=by omega) (s:c<=14:=by omega):∃ st cp:Rw,st.sm/\cp.sm/\(∀ x:a_,x.st=st->x.cp=cp->qJ x)/\CO 32 [Ω false (ae a) (ae 1),Ω false (ae b) (ae 1)] (.ret (.tup [.agg st.c,.bool true]))/\CO 38 [.agg st.c,Ω false (ae c) (ae 1)] (.ret (.agg cp.c)):=by
 have e:∀ x:Nat,x<2^16->(ae x).length<=2:=λx t=>dw (k:=2) t
 have h:=Gj false false (ae a) (ae 1) (ae b) (ae 1) (by have:=e a (by omega);omega) (by have:=e 1 (by omega);omega) (by have:=e b (by omega);omega) (by have:=e 1 (by omega);omega) (by rw [yA];exact C);rw [yA,yA] at h;have q:(⟨false,a,1⟩:RQ).ok:=⟨by simp,by simp,by simp⟩
 have i:(⟨false,c,1⟩:RQ).ok:=⟨by simp,by simp,by simp⟩
 have d:=qc (a:=⟨false,a,1⟩) (b:=⟨false,b,1⟩) q C;have l:(bQ ⟨false,a,1⟩ ⟨false,b,1⟩).neg=false:=by simp [bQ,kC]
 have g:(bQ ⟨false,a,1⟩ ⟨false,b,1⟩).n<=3:=by
  unfold bQ kC;exact Xqr (Xxg _ _) (by simpa using z)
 have p:(bQ ⟨false,a,1⟩ ⟨false,b,1⟩).d<=3:=by
  unfold bQ kC;exact Xqr (Xxg _ _) (by simpa using v)
 have m:0<(bQ ⟨false,a,1⟩ ⟨false,b,1⟩).n:=by
  unfold bQ kC;simp only [Xqi,Nat.one_mul];exact Nat.div_pos (Nat.gcd_le_left _ D) (Nat.gcd_pos_of_pos_left _ D)
 generalize bQ ⟨false,a,1⟩ ⟨false,b,1⟩=w at*
 have B:=Qg w.neg false (ae w.n) (ae w.d) (ae c) (ae 1) (by have:=e w.n (by omega);omega) (by have:=e w.d (by omega);omega) (by have:=e c (by omega);omega) (by have:=e 1 (by omega);omega);rw [yA,jS d] at B;have f:=Ce d i;have E:(gJ w ⟨false,c,1⟩).n<=42:=by
  unfold gJ kC;refine Xqr (Xxg _ _) ?_;show w.n*c<=42;exact Xqr (Xwe g s) (by decide)
 have K:(gJ w ⟨false,c,1⟩).d<=3:=by
  unfold gJ kC;refine Xqr (Xxg _ _) ?_;show w.d*1<=3;omega
 have o:∀ x:Nat,x<2^16->(ae x).length<2^28:=λx t=>χ (e x t) (by decide)
 refine ⟨wQ w,wQ (gJ w ⟨false,c,1⟩),⟨o _ (by omega),o _ (by omega)⟩,⟨o _ (by omega),o _ (by omega)⟩, ?_,h,B⟩;intro x j y;refine ⟨?_,w,d,g,p,j⟩;have u:=AC d i;have A:(⟨false,c,1⟩:RQ).rt=((c:Nat):Rat):=by unfold RQ.rt;grind
 have r:0<w.rt:=(wu d).2.2.1 (by
  have:jQ w=1:=by unfold jQ;rw [if_neg (by omega),l];rfl
  omega)
 have J:aV (wQ (gJ w ⟨false,c,1⟩)) (wQ w)=c:=Dn (OB f) (by rw [FN d];exact d) (by rw [FN d];exact m) (by rw [FN d];exact r) c (by omega) (by rw [FN d,FN f,u,A];grind);unfold jD;rw [j,y,J];have I:eP (wQ w).n (wQ w).a (wQ w).d=true:=UR d (by omega) (by omega);have F:eP (wQ (gJ w ⟨false,c,1⟩)).n (wQ (gJ w ⟨false,c,1⟩)).a (wQ (gJ w ⟨false,c,1⟩)).d=true:=UR f (by omega) (by omega);have G:rU (wQ w).n (wQ w).a (wQ w).d=1:=ajS d l m;rw [I,F,G];simp;omega
def mqA (es:List a_) (q:Nat):AV:=match es with| []=> .nilS|_::_=> .ref 2 0 0 q
def mqH (es:List a_):Hp:=match es with| []=> []|a::r=> [(2,⟨bV (a::r),0,false,0,14,true⟩)]
def IK (l:List (List Int)) (nl:Bool) (ss:List (List Lk)) (ns:Nat) (p:Nat × Nat × List a_):St:=⟨[(0,.sl (jC l) l.length nl),(4,.ptr 0 0 0),(5,.ptr 1 0 0),(10,ω (p.1:Int))],(0,⟨[.nilS,.nilS,.nilS],0,false,0,0,true⟩)::(1,⟨[mqA p.2.2 p.2.1,.sl (eF ss) ns true,.nilS],0,false,0,0,false⟩)::mqH p.2.2,.dead,[]⟩
def PW (ss:List (List Lk)) (ns:Nat) (p:Nat × List a_):St:=⟨[(4,.ptr 0 0 0),(5,.ptr 1 0 0)],(0,⟨[.nilS,.nilS,.nilS],0,false,0,0,true⟩)::(1,⟨[mqA p.2 p.1,.sl (eF ss) ns true,.nilS],0,false,0,0,false⟩)::mqH p.2,.dead,[]⟩
theorem Zd {f:Nat} {args b:List AV} {n:Nat} {a:Bool} (h:CO f args (.ret (.sl b n a))):CO f args (.ret (.sl b n false)):=by
 refine ⟨h.len,h.ent,λm S w cargs c i=>(h.calls m S w cargs c i).mono ?_⟩
 rintro e w' ⟨m',S',hF⟩
 obtain ⟨cv,g,d⟩:=hF.out;exact ⟨m',S',hF.srel,hF.fr,cv,g,bY.sl b n a (bz []) m' S' cv d⟩
theorem uo {es:List a_} {q:Nat} (h:es.length=q) (x:a_):π (q*14) (bV es)++ZL x=bV (es++ [x]):=by
 have e:(bV es).length=q*14:=by rw [<- h];exact qL DD es
 rw [φ (by omega)];unfold bV;rw [Xx9];simp
theorem aiT (l:List (List Int)) (m:Bool) (ss:List (List Lk)) (k q:Nat) (es:List a_) (f:List Int) (I:List AV) (i w:List UInt8) (e:List Nd) (c d:Rw) (h:es.length=q) (G:q=k) (z:k<4) (g:k<l.length) (o:(ε ((δ (k:Int))*1) (jC l))= [Xvk (iL f) f.length false]++I) (C:Int) (s:List Int) (B:ε 0 (iL f)= [ω C]++iL s) (J:0<f.length) (u:Xvk (ε 1 (π ((δ (f.length:Int))*1) (iL f))) ((δ (f.length:Int)) - 1) false=Xvk (iL s) s.length false) (n:Nat) (b:n<2^62) (p:CO 35 [ω C,ω ((1048576:Nat):Int)] (.ret (ω (n:Int))))
  (hst:c.sm) (hcp:d.sm) (hcap:∀ x:a_,x.st=c->x.cp=d->qJ x) (he1:e.length<=61) (he2:∀ x ∈ e,x.sm) (cq:CO 32 [Ω false (ae (1+n / 4 % 3)) (ae 1),Ω false (ae (1+n / 12 % 3)) (ae 1)] (.ret (.tup [.agg c.c,.bool true]))) (cm:CO 38 [.agg c.c,Ω false (ae (1+n / 36 % 14)) (ae 1)] (.ret (.agg d.c)))
  (cb:CO 37 [.sl (iL s) s.length false] (.ret (.sl (aX e) e.length false))) (cp1:CO 34 [ω (k:Int)] (.ret (.str i))) (cp2:CO 34 [ω ((k - n % 2:Nat):Int)] (.ret (.str w))):∃ x:a_,x.sm/\qJ x/\∀ nt,190<=nt->ak prog ap [] nt (af 4 (ax f11)) (IK l m ss 1 (k,q,es)) .normal (IK l m ss 1 (k+1,q+1,es++ [x])):=by
 have A:k<2^62:=by omega
 have t:∀ (x:a_),x.body=e->x.st=c->x.cp=d->x.sm:=λx D j E=> ⟨by rw [D];exact he2,by rw [D];omega,by rw [j];exact hst,by rw [E];exact hcp⟩
 cases es with
 |nil=>
  obtain rfl:q=0:=by simpa using h.symm
  refine ⟨⟨0,(k:Int),i,false,1,0,e,false,c,d⟩,t _ rfl rfl rfl,hcap _ rfl rfl,λnt v=> ?_⟩;have j:ak prog ap [] nt (af 4 (ax f11)) (VV (.sl (jC l) l.length m) k [.nilS,.sl (eF ss) 1 true,.nilS]) .normal (zu (.sl (jC l) l.length m) (k+1) [.ref 2 0 0 1,.sl (eF ss) 1 true,.nilS] [ω 0,ω (k:Int),.str i,.bool false,ω 1,ω 0,.sl (aX e) e.length false,.bool false,.bool c.n,.str c.a,.str c.d,.bool d.n,.str d.a,.str d.d]):=pN 11 [] 6 7 (.k 38 (fE 1 f.length) (.c (fE f.length f.length) (.k 1 (pU k) (.c (aY g) (.k 2 (rO 0 f.length) (.k 1 (pU k) (.c (aY g) (.c (aA (rO 0 f.length)) (.k 1 (pU k) (.c (aY g) (.c (aA (aY z)) (.c (aA (aY g)) .nil)))))))))))) (.v 113 (.eq (pO A)) (.c cm (.c (bK (1+n / 36 % 14)) (.v 158 (.eq (FM (k:=n / 36 % 14))) (.v 157 (.eq (nP (n / 36) 14)) (.v 156 (.eq (Um n 36 b)) (.c cb (.c cp1 (.c cq (.c (bK (1+n / 12 % 3)) (.v 142 (.eq (FM (k:=n / 12 % 3))) (.v 141 (.eq (nP (n / 12) 3)) (.v 140 (.eq (Um n 12 b)) (.c (bK (1+n / 4 % 3)) (.v 137 (.eq (FM (k:=n / 4 % 3))) (.v 136 (.eq (nP (n / 4) 3)) (.v 135 (.eq (Um n 4 b)) (.v 132 (.eq u) (.v 130 (.ppt o) (.c p (.v 125 (.ppt B) (.v 123 (.ppt o) (.v 117 (.ppt o) .nil))))))))))))))))))))))) v;exact j
 |cons a r=>
  have y:(Xqn (q*14) (θ (bV (a::r))))=true:=Γ (by have:=qL DD (a::r);unfold bV;rw [this,h];exact κ _);refine ⟨⟨0,(k:Int),i,false,1,0,e,false,c,d⟩,t _ rfl rfl rfl,hcap _ rfl rfl,λnt v=> ?_⟩;have j:ak prog ap [] nt (af 4 (ax f11)) (zu (.sl (jC l) l.length m) k [.ref 2 0 0 q,.sl (eF ss) 1 true,.nilS] (bV (a::r))) .normal (zu (.sl (jC l) l.length m) (k+1) [.ref 2 0 0 (q+1),.sl (eF ss) 1 true,.nilS] ((π (q*14) (bV (a::r)))++ [ω 0,ω (k:Int),.str i,.bool false,ω 1,ω 0,.sl (aX e) e.length false,.bool false,.bool c.n,.str c.a,.str c.d,.bool d.n,.str d.a,.str d.d])):=pN 11 [] 5 7 (.k 2 (Γ (by omega:q+1<=549755813888)) (.c y (.k 35 (fE 1 f.length) (.c (fE f.length f.length) (.k 1 (pU k) (.c (aY g) (.k 2 (rO 0 f.length) (.k 1 (pU k) (.c (aY g) (.c (aA (rO 0 f.length)) (.k 1 (pU k) (.c (aY g) (.c (aA (aY z)) (.c (aA (aY g)) .nil)))))))))))))) (.v 113 (.eq (pO A)) (.c cm (.c (bK (1+n / 36 % 14)) (.v 158 (.eq (FM (k:=n / 36 % 14))) (.v 157 (.eq (nP (n / 36) 14)) (.v 156 (.eq (Um n 36 b)) (.c cb (.c cp1 (.c cq (.c (bK (1+n / 12 % 3)) (.v 142 (.eq (FM (k:=n / 12 % 3))) (.v 141 (.eq (nP (n / 12) 3)) (.v 140 (.eq (Um n 12 b)) (.c (bK (1+n / 4 % 3)) (.v 137 (.eq (FM (k:=n / 4 % 3))) (.v 136 (.eq (nP (n / 4) 3)) (.v 135 (.eq (Um n 4 b)) (.v 132 (.eq u) (.v 130 (.ppt o) (.c p (.v 125 (.ppt B) (.v 123 (.ppt o) (.v 117 (.ppt o) .nil))))))))))))))))))))))) v;have F:π (q*14) (bV (a::r))++ [ω 0,ω (k:Int),.str i,.bool false,ω 1,ω 0,.sl (aX e) e.length false,.bool false,.bool c.n,.str c.a,.str c.d,.bool d.n,.str d.a,.str d.d]=bV ((a::r)++ [⟨0,(k:Int),i,false,1,0,e,false,c,d⟩]):=uo h ⟨0,(k:Int),i,false,1,0,e,false,c,d⟩;rw [F] at j;exact j
theorem aiS (l:List (List Int)) (i:Bool) (ss:List (List Lk)) (k q:Nat) (es:List a_) (m:List Int) (B:List AV) (g p:List UInt8) (e:List Nd) (b c:Rw) (d:es.length=q) (A:q=k) (t:k<4) (f:k<l.length) (v:(ε ((δ (k:Int))*1) (jC l))= [Xvk (iL m) m.length false]++B) (C:m.length=0)
  (hst:b.sm) (hcp:c.sm) (hcap:∀ x:a_,x.st=b->x.cp=c->qJ x) (he1:e.length<=61) (he2:∀ x ∈ e,x.sm) (cq:CO 32 [Ω false (ae 1) (ae 1),Ω false (ae 1) (ae 1)] (.ret (.tup [.agg b.c,.bool true]))) (cm:CO 38 [.agg b.c,Ω false (ae 1) (ae 1)] (.ret (.agg c.c)))
  (cb:CO 37 [.sl [] 0 true] (.ret (.sl (aX e) e.length false))) (cp1:CO 34 [ω (k:Int)] (.ret (.str g))) (cp2:CO 34 [ω ((k - 0:Nat):Int)] (.ret (.str p))):∃ x:a_,x.sm/\qJ x/\∀ nt,190<=nt->ak prog ap [] nt (af 4 (ax f11)) (IK l i ss 1 (k,q,es)) .normal (IK l i ss 1 (k+1,q+1,es++ [x])):=by
 have u:k<2^62:=by omega
 have j:∀ (x:a_),x.body=e->x.st=b->x.cp=c->x.sm:=λx w h y=> ⟨by rw [w];exact he2,by rw [w];omega,by rw [h];exact hst,by rw [y];exact hcp⟩
 cases es with
 |nil=>
  obtain rfl:q=0:=by simpa using d.symm
  refine ⟨⟨0,(k:Int),g,false,1,0,e,false,b,c⟩,j _ rfl rfl rfl,hcap _ rfl rfl,λnt o=> ?_⟩;have h:ak prog ap [] nt (af 4 (ax f11)) (VV (.sl (jC l) l.length i) k [.nilS,.sl (eF ss) 1 true,.nilS]) .normal (zu (.sl (jC l) l.length i) (k+1) [.ref 2 0 0 1,.sl (eF ss) 1 true,.nilS] [ω 0,ω (k:Int),.str g,.bool false,ω 1,ω 0,.sl (aX e) e.length false,.bool false,.bool b.n,.str b.a,.str b.d,.bool c.n,.str c.a,.str c.d]):=pN 11 [] 6 3 (.k 37 (az (mG 0 m.length)) (.k 1 (pU k) (.c (aY f) (.c (aA (aY t)) (.c (aA (aY f)) .nil))))) (.v 113 (.eq (pO u)) (.c cm (.c (bK 1) (.c cb (.c cp1 (.c cq (.c (bK 1) (.c (bK 1) (.v 117 (.ppt v) .nil))))))))) o;exact h
 |cons a r=>
  have s:(Xqn (q*14) (θ (bV (a::r))))=true:=Γ (by have:=qL DD (a::r);unfold bV;rw [this,d];exact κ _);refine ⟨⟨0,(k:Int),g,false,1,0,e,false,b,c⟩,j _ rfl rfl rfl,hcap _ rfl rfl,λnt o=> ?_⟩;have h:ak prog ap [] nt (af 4 (ax f11)) (zu (.sl (jC l) l.length i) k [.ref 2 0 0 q,.sl (eF ss) 1 true,.nilS] (bV (a::r))) .normal (zu (.sl (jC l) l.length i) (k+1) [.ref 2 0 0 (q+1),.sl (eF ss) 1 true,.nilS] ((π (q*14) (bV (a::r)))++ [ω 0,ω (k:Int),.str g,.bool false,ω 1,ω 0,.sl (aX e) e.length false,.bool false,.bool b.n,.str b.a,.str b.d,.bool c.n,.str c.a,.str c.d])):=pN 11 [] 5 3 (.k 2 (Γ (by omega:q+1<=549755813888)) (.c s (.k 34 (az (mG 0 m.length)) (.k 1 (pU k) (.c (aY f) (.c (aA (aY t)) (.c (aA (aY f)) .nil))))))) (.v 113 (.eq (pO u)) (.c cm (.c (bK 1) (.c cb (.c cp1 (.c cq (.c (bK 1) (.c (bK 1) (.v 117 (.ppt v) .nil))))))))) o;have z:π (q*14) (bV (a::r))++ [ω 0,ω (k:Int),.str g,.bool false,ω 1,ω 0,.sl (aX e) e.length false,.bool false,.bool b.n,.str b.a,.str b.d,.bool c.n,.str c.a,.str c.d]=bV ((a::r)++ [⟨0,(k:Int),g,false,1,0,e,false,b,c⟩]):=uo d ⟨0,(k:Int),g,false,1,0,e,false,b,c⟩;rw [z] at h;exact h
theorem aiV (l:List (List Int)) (p:Bool) (ss:List (List Lk)) (k q:Nat) (es:List a_) (h:List Int) (K:List AV) (s j:List UInt8) (e:List Nd) (d f:Rw) (i:es.length=q) (J:q=k) (B:k<4) (g:k<l.length) (o:(ε ((δ (k:Int))*1) (jC l))= [Xvk (iL h) h.length false]++K) (F:Int) (z:List Int) (E:ε 0 (iL h)= [ω F]++iL z) (L:0<h.length) (v:Xvk (ε 1 (π ((δ (h.length:Int))*1) (iL h))) ((δ (h.length:Int)) - 1) false=Xvk (iL z) z.length false) (n:Nat) (c:n<2^62) (t:CO 35 [ω F,ω ((1048576:Nat):Int)] (.ret (ω (n:Int))))
  (hst:d.sm) (hcp:f.sm) (hcap:∀ x:a_,x.st=d->x.cp=f->qJ x) (he1:e.length<=61) (he2:∀ x ∈ e,x.sm) (cq:CO 32 [Ω false (ae (1+n / 4 % 3)) (ae 1),Ω false (ae (1+n / 12 % 3)) (ae 1)] (.ret (.tup [.agg d.c,.bool true]))) (cm:CO 38 [.agg d.c,Ω false (ae (1+n / 36 % 14)) (ae 1)] (.ret (.agg f.c)))
  (cb:CO 37 [.sl (iL z) z.length false] (.ret (.sl (aX e) e.length false))) (cp1:CO 34 [ω (k:Int)] (.ret (.str s))) (cp2:CO 34 [ω ((k - n % 2:Nat):Int)] (.ret (.str j))):∃ x:a_,x.sm/\qJ x/\∀ nt,190<=nt->ak prog ap [] nt (af 4 (ax f11)) (IK l p ss 2 (k,q,es)) .normal (IK l p ss 2 (k+1,q+1,es++ [x])):=by
 have w:k<2^62:=by omega
 have u:∀ (x:a_),x.body=e->x.st=d->x.cp=f->x.sm:=λx G m I=> ⟨by rw [G];exact he2,by rw [G];omega,by rw [m];exact hst,by rw [I];exact hcp⟩
 cases es with
 |nil=>
  obtain rfl:q=0:=by simpa using i.symm
  have D:¬ 2<=k:=by omega
  refine ⟨⟨0,(k:Int),s,false,1,0,e,false,d,f⟩,u _ rfl rfl rfl,hcap _ rfl rfl,λnt y=> ?_⟩;have m:ak prog ap [] nt (af 4 (ax f11)) (VV (.sl (jC l) l.length p) k [.nilS,.sl (eF ss) 2 true,.nilS]) .normal (zu (.sl (jC l) l.length p) (k+1) [.ref 2 0 0 1,.sl (eF ss) 2 true,.nilS] [ω 0,ω (k:Int),.str s,.bool false,ω 1,ω 0,.sl (aX e) e.length false,.bool false,.bool d.n,.str d.a,.str d.d,.bool f.n,.str f.a,.str f.d]):=pN 11 [] 6 15 (.k 19 (az (iI 2 k)) (.k 18 (fE 1 h.length) (.c (fE h.length h.length) (.k 1 (pU k) (.c (aY g) (.k 2 (rO 0 h.length) (.k 1 (pU k) (.c (aY g) (.c (aA (rO 0 h.length)) (.k 1 (pU k) (.c (aY g) (.c (aA (aY B)) (.c (aA (aY g)) .nil))))))))))))) (.v 113 (.eq (pO w)) (.c cm (.c (bK (1+n / 36 % 14)) (.v 158 (.eq (FM (k:=n / 36 % 14))) (.v 157 (.eq (nP (n / 36) 14)) (.v 156 (.eq (Um n 36 c)) (.c cb (.c cp1 (.c cq (.c (bK (1+n / 12 % 3)) (.v 142 (.eq (FM (k:=n / 12 % 3))) (.v 141 (.eq (nP (n / 12) 3)) (.v 140 (.eq (Um n 12 c)) (.c (bK (1+n / 4 % 3)) (.v 137 (.eq (FM (k:=n / 4 % 3))) (.v 136 (.eq (nP (n / 4) 3)) (.v 135 (.eq (Um n 4 c)) (.v 132 (.eq v) (.v 130 (.ppt o) (.c t (.v 125 (.ppt E) (.v 123 (.ppt o) (.v 117 (.ppt o) .nil))))))))))))))))))))))) y;exact m
 | cons a r=>
  have A:(Xqn (q*14) (θ (bV (a::r))))=true:=Γ (by have:=qL DD (a::r);unfold bV;rw [this,i];exact κ _);by_cases D:2<=k
  .refine ⟨⟨1,(((k - 2):Nat):Int),j,false,1,0,e,false,d,f⟩,u _ rfl rfl rfl,hcap _ rfl rfl,λnt y=> ?_⟩;have m:ak prog ap [] nt (af 4 (ax f11)) (zu (.sl (jC l) l.length p) k [.ref 2 0 0 q,.sl (eF ss) 2 true,.nilS] (bV (a::r))) .normal (zu (.sl (jC l) l.length p) (k+1) [.ref 2 0 0 (q+1),.sl (eF ss) 2 true,.nilS] ((π (q*14) (bV (a::r)))++ [ω 1,ω (((k - 2):Nat):Int),.str j,.bool false,ω 1,ω 0,.sl (aX e) e.length false,.bool false,.bool d.n,.str d.a,.str d.d,.bool f.n,.str f.a,.str f.d])):=pN 11 [] 5 31 (.k 2 (Γ (by omega:q+1<=549755813888)) (.c A (.k 19 (aA (fE 2 k)) (.k 18 (fE 1 h.length) (.c (fE h.length h.length) (.k 1 (pU k) (.c (aY g) (.k 2 (rO 0 h.length) (.k 1 (pU k) (.c (aY g) (.c (aA (rO 0 h.length)) (.k 1 (pU k) (.c (aY g) (.c (aA (aY B)) (.c (aA (aY g)) .nil))))))))))))))) (.v 113 (.eq (pO w)) (.c cp2 (.v 178 (.eq (wms (a:=n % 2) (b:=k) (by omega) w)) (.v 177 (.eq (nP n 2)) (.v 173 (.eq (wms (a:=2) (b:=k) (by omega) w)) (.c cm (.c (bK (1+n / 36 % 14)) (.v 158 (.eq (FM (k:=n / 36 % 14))) (.v 157 (.eq (nP (n / 36) 14)) (.v 156 (.eq (Um n 36 c)) (.c cb (.c cp1 (.c cq (.c (bK (1+n / 12 % 3)) (.v 142 (.eq (FM (k:=n / 12 % 3))) (.v 141 (.eq (nP (n / 12) 3)) (.v 140 (.eq (Um n 12 c)) (.c (bK (1+n / 4 % 3)) (.v 137 (.eq (FM (k:=n / 4 % 3))) (.v 136 (.eq (nP (n / 4) 3)) (.v 135 (.eq (Um n 4 c)) (.v 132 (.eq v) (.v 130 (.ppt o) (.c t (.v 125 (.ppt E) (.v 123 (.ppt o) (.v 117 (.ppt o) .nil))))))))))))))))))))))))))) y;have C:π (q*14) (bV (a::r))++ [ω 1,ω (((k - 2):Nat):Int),.str j,.bool false,ω 1,ω 0,.sl (aX e) e.length false,.bool false,.bool d.n,.str d.a,.str d.d,.bool f.n,.str f.a,.str f.d]=bV ((a::r)++ [⟨1,(((k - 2):Nat):Int),j,false,1,0,e,false,d,f⟩]):=uo i ⟨1,(((k - 2):Nat):Int),j,false,1,0,e,false,d,f⟩;rw [C] at m;exact m
  .refine ⟨⟨0,(k:Int),s,false,1,0,e,false,d,f⟩,u _ rfl rfl rfl,hcap _ rfl rfl,λnt y=> ?_⟩;have m:ak prog ap [] nt (af 4 (ax f11)) (zu (.sl (jC l) l.length p) k [.ref 2 0 0 q,.sl (eF ss) 2 true,.nilS] (bV (a::r))) .normal (zu (.sl (jC l) l.length p) (k+1) [.ref 2 0 0 (q+1),.sl (eF ss) 2 true,.nilS] ((π (q*14) (bV (a::r)))++ [ω 0,ω (k:Int),.str s,.bool false,ω 1,ω 0,.sl (aX e) e.length false,.bool false,.bool d.n,.str d.a,.str d.d,.bool f.n,.str f.a,.str f.d])):=pN 11 [] 5 15 (.k 2 (Γ (by omega:q+1<=549755813888)) (.c A (.k 16 (az (iI 2 k)) (.k 18 (fE 1 h.length) (.c (fE h.length h.length) (.k 1 (pU k) (.c (aY g) (.k 2 (rO 0 h.length) (.k 1 (pU k) (.c (aY g) (.c (aA (rO 0 h.length)) (.k 1 (pU k) (.c (aY g) (.c (aA (aY B)) (.c (aA (aY g)) .nil))))))))))))))) (.v 113 (.eq (pO w)) (.c cm (.c (bK (1+n / 36 % 14)) (.v 158 (.eq (FM (k:=n / 36 % 14))) (.v 157 (.eq (nP (n / 36) 14)) (.v 156 (.eq (Um n 36 c)) (.c cb (.c cp1 (.c cq (.c (bK (1+n / 12 % 3)) (.v 142 (.eq (FM (k:=n / 12 % 3))) (.v 141 (.eq (nP (n / 12) 3)) (.v 140 (.eq (Um n 12 c)) (.c (bK (1+n / 4 % 3)) (.v 137 (.eq (FM (k:=n / 4 % 3))) (.v 136 (.eq (nP (n / 4) 3)) (.v 135 (.eq (Um n 4 c)) (.v 132 (.eq v) (.v 130 (.ppt o) (.c t (.v 125 (.ppt E) (.v 123 (.ppt o) (.v 117 (.ppt o) .nil))))))))))))))))))))))) y;have C:π (q*14) (bV (a::r))++ [ω 0,ω (k:Int),.str s,.bool false,ω 1,ω 0,.sl (aX e) e.length false,.bool false,.bool d.n,.str d.a,.str d.d,.bool f.n,.str f.a,.str f.d]=bV ((a::r)++ [⟨0,(k:Int),s,false,1,0,e,false,d,f⟩]):=uo i ⟨0,(k:Int),s,false,1,0,e,false,d,f⟩;rw [C] at m;exact m
theorem aiU (l:List (List Int)) (j:Bool) (ss:List (List Lk)) (k q:Nat) (es:List a_) (p:List Int) (D:List AV) (m g:List UInt8) (e:List Nd) (c d:Rw) (f:es.length=q) (C:q=k) (v:k<4) (h:k<l.length) (z:(ε ((δ (k:Int))*1) (jC l))= [Xvk (iL p) p.length false]++D) (E:p.length=0)
  (hst:c.sm) (hcp:d.sm) (hcap:∀ x:a_,x.st=c->x.cp=d->qJ x) (he1:e.length<=61) (he2:∀ x ∈ e,x.sm) (cq:CO 32 [Ω false (ae 1) (ae 1),Ω false (ae 1) (ae 1)] (.ret (.tup [.agg c.c,.bool true]))) (cm:CO 38 [.agg c.c,Ω false (ae 1) (ae 1)] (.ret (.agg d.c)))
  (cb:CO 37 [.sl [] 0 true] (.ret (.sl (aX e) e.length false))) (cp1:CO 34 [ω (k:Int)] (.ret (.str m))) (cp2:CO 34 [ω ((k - 0:Nat):Int)] (.ret (.str g))):∃ x:a_,x.sm/\qJ x/\∀ nt,190<=nt->ak prog ap [] nt (af 4 (ax f11)) (IK l j ss 2 (k,q,es)) .normal (IK l j ss 2 (k+1,q+1,es++ [x])):=by
 have s:k<2^62:=by omega
 have o:∀ (x:a_),x.body=e->x.st=c->x.cp=d->x.sm:=λx A i B=> ⟨by rw [A];exact he2,by rw [A];omega,by rw [i];exact hst,by rw [B];exact hcp⟩
 cases es with
 |nil=>
  obtain rfl:q=0:=by simpa using f.symm
  have y:¬ 2<=k:=by omega
  refine ⟨⟨0,(k:Int),m,false,1,0,e,false,c,d⟩,o _ rfl rfl rfl,hcap _ rfl rfl,λnt t=> ?_⟩;have i:ak prog ap [] nt (af 4 (ax f11)) (VV (.sl (jC l) l.length j) k [.nilS,.sl (eF ss) 2 true,.nilS]) .normal (zu (.sl (jC l) l.length j) (k+1) [.ref 2 0 0 1,.sl (eF ss) 2 true,.nilS] [ω 0,ω (k:Int),.str m,.bool false,ω 1,ω 0,.sl (aX e) e.length false,.bool false,.bool c.n,.str c.a,.str c.d,.bool d.n,.str d.a,.str d.d]):=pN 11 [] 6 11 (.k 19 (az (iI 2 k)) (.k 17 (az (mG 0 p.length)) (.k 1 (pU k) (.c (aY h) (.c (aA (aY v)) (.c (aA (aY h)) .nil)))))) (.v 113 (.eq (pO s)) (.c cm (.c (bK 1) (.c cb (.c cp1 (.c cq (.c (bK 1) (.c (bK 1) (.v 117 (.ppt z) .nil))))))))) t;exact i
 | cons a r=>
  have u:(Xqn (q*14) (θ (bV (a::r))))=true:=Γ (by have:=qL DD (a::r);unfold bV;rw [this,f];exact κ _);by_cases y:2<=k
  .refine ⟨⟨1,(((k - 2):Nat):Int),g,false,1,0,e,false,c,d⟩,o _ rfl rfl rfl,hcap _ rfl rfl,λnt t=> ?_⟩;have i:ak prog ap [] nt (af 4 (ax f11)) (zu (.sl (jC l) l.length j) k [.ref 2 0 0 q,.sl (eF ss) 2 true,.nilS] (bV (a::r))) .normal (zu (.sl (jC l) l.length j) (k+1) [.ref 2 0 0 (q+1),.sl (eF ss) 2 true,.nilS] ((π (q*14) (bV (a::r)))++ [ω 1,ω (((k - 2):Nat):Int),.str g,.bool false,ω 1,ω 0,.sl (aX e) e.length false,.bool false,.bool c.n,.str c.a,.str c.d,.bool d.n,.str d.a,.str d.d])):=pN 11 [] 5 27 (.k 2 (Γ (by omega:q+1<=549755813888)) (.c u (.k 19 (aA (fE 2 k)) (.k 17 (az (mG 0 p.length)) (.k 1 (pU k) (.c (aY h) (.c (aA (aY v)) (.c (aA (aY h)) .nil)))))))) (.v 113 (.eq (pO s)) (.c cp2 (.v 178 (.eq (wms (a:=0) (b:=k) (by omega) s)) (.v 173 (.eq (wms (a:=2) (b:=k) (by omega) s)) (.c cm (.c (bK 1) (.c cb (.c cp1 (.c cq (.c (bK 1) (.c (bK 1) (.v 117 (.ppt z) .nil)))))))))))) t;have w:π (q*14) (bV (a::r))++ [ω 1,ω (((k - 2):Nat):Int),.str g,.bool false,ω 1,ω 0,.sl (aX e) e.length false,.bool false,.bool c.n,.str c.a,.str c.d,.bool d.n,.str d.a,.str d.d]=bV ((a::r)++ [⟨1,(((k - 2):Nat):Int),g,false,1,0,e,false,c,d⟩]):=uo f ⟨1,(((k - 2):Nat):Int),g,false,1,0,e,false,c,d⟩;rw [w] at i;exact i
  .refine ⟨⟨0,(k:Int),m,false,1,0,e,false,c,d⟩,o _ rfl rfl rfl,hcap _ rfl rfl,λnt t=> ?_⟩;have i:ak prog ap [] nt (af 4 (ax f11)) (zu (.sl (jC l) l.length j) k [.ref 2 0 0 q,.sl (eF ss) 2 true,.nilS] (bV (a::r))) .normal (zu (.sl (jC l) l.length j) (k+1) [.ref 2 0 0 (q+1),.sl (eF ss) 2 true,.nilS] ((π (q*14) (bV (a::r)))++ [ω 0,ω (k:Int),.str m,.bool false,ω 1,ω 0,.sl (aX e) e.length false,.bool false,.bool c.n,.str c.a,.str c.d,.bool d.n,.str d.a,.str d.d])):=pN 11 [] 5 11 (.k 2 (Γ (by omega:q+1<=549755813888)) (.c u (.k 16 (az (iI 2 k)) (.k 17 (az (mG 0 p.length)) (.k 1 (pU k) (.c (aY h) (.c (aA (aY v)) (.c (aA (aY h)) .nil)))))))) (.v 113 (.eq (pO s)) (.c cm (.c (bK 1) (.c cb (.c cp1 (.c cq (.c (bK 1) (.c (bK 1) (.v 117 (.ppt z) .nil))))))))) t;have w:π (q*14) (bV (a::r))++ [ω 0,ω (k:Int),.str m,.bool false,ω 1,ω 0,.sl (aX e) e.length false,.bool false,.bool c.n,.str c.a,.str c.d,.bool d.n,.str d.a,.str d.d]=bV ((a::r)++ [⟨0,(k:Int),m,false,1,0,e,false,c,d⟩]):=uo f ⟨0,(k:Int),m,false,1,0,e,false,c,d⟩;rw [w] at i;exact i
theorem aei {l:List (List Int)} {i:Nat} (h:i<l.length):ε (δ (i:Int)*1) (jC l)= [Xvk (iL (l.getD i [])) (l.getD i []).length false]++jC (l.drop (i+1)):=by
 have e:∀ l:List (List Int),jC l=l.map λb=>Xvk (iL b) b.length false:=by
  intro l
  induction l with
  |nil=>rfl
  |cons a r ih=>simp only [jC,Xxx,Xqg] at ih ⊢;rw [ih];rfl
 rw [aJ,Xqi,e,e,<- Xj0,List.drop_eq_getElem_cons h,ξ,μ h];rfl
theorem FV (a:List Int) (b:Bool):∃ e:List Nd,e.length<=61/\(∀ x ∈ e,x.sm)/\CO 37 [.sl (iL a) a.length b] (.ret (.sl (aX e) e.length false)):=by
 obtain ⟨e,_,f,d,c⟩:=adb a b;have h5:=c.thaw (by simp);simp only [sU,thaw] at h5;rw [φ (by rw [yS];exact κ _)] at h5;exact ⟨e,f,d,Zd h5⟩
theorem alL (b:Int) (a:List Int):Xvk (ε 1 (π ((δ (((b::a).length:Nat):Int))*1) (iL (b::a)))) ((δ (((b::a).length:Nat):Int)) - 1) false=Xvk (iL a) a.length false:=by
 rw [aJ,Xqi,φ (by simp [iL])];rfl
theorem aaM (l:List (List Int)) (v:Bool) (ss:List (List Lk)) (y:Nat) (B:y=1\/y=2) (k q:Nat) (es:List a_) (h:es.length=q) (m:q=k) (A:k<4) (j:k<l.length):
  ∃ x:a_,x.sm/\qJ x/\∀ nt,190<=nt->ak prog ap [] nt (af 4 (ax f11)) (IK l v ss y (k,q,es)) .normal (IK l v ss y (k+1,q+1,es++ [x])):=by
 obtain ⟨w,u,z⟩:∃ (w:List Int) (u:List AV),ε (δ (k:Int)*1) (jC l)= [Xvk (iL w) w.length false]++u:=⟨_,_,aei j⟩
 rcases B with rfl|rfl
 ·
  cases w with
  |nil=>
   obtain ⟨e,g,f,s⟩:=FV [] true;obtain ⟨o,t,d,c,b,p,r⟩:=B_ 1 1 1;exact aiS l v ss k q es [] u _ _ e o t h m A j z rfl d c b g f p r s (jy _) (jy _)
  |cons y0 yr=>
   obtain ⟨e,g,f,s⟩:=FV yr false;have C:=fF (a:=y0) (n:=1048576);have i:=jw y0 1048576;generalize iK y0 1048576=n at C i;obtain ⟨o,t,d,c,b,p,r⟩:=B_ (1+n / 4 % 3) (1+n / 12 % 3) (1+n / 36 % 14);exact aiT l v ss k q es (y0::yr) u _ _ e o t h m A j z y0 yr rfl (by simp) (alL y0 yr) n (by omega) i d c b g f p r s (jy _) (jy _)
 ·
  cases w with
  |nil=>
   obtain ⟨e,g,f,s⟩:=FV [] true;obtain ⟨o,t,d,c,b,p,r⟩:=B_ 1 1 1;exact aiU l v ss k q es [] u _ _ e o t h m A j z rfl d c b g f p r s (jy _) (jy _)
  |cons y0 yr=>
   obtain ⟨e,g,f,s⟩:=FV yr false;have C:=fF (a:=y0) (n:=1048576);have i:=jw y0 1048576;generalize iK y0 1048576=n at C i;obtain ⟨o,t,d,c,b,p,r⟩:=B_ (1+n / 4 % 3) (1+n / 12 % 3) (1+n / 36 % 14);exact aiV l v ss k q es (y0::yr) u _ _ e o t h m A j z y0 yr rfl (by simp) (alL y0 yr) n (by omega) i d c b g f p r s (jy _) (jy _)
theorem Vb (l:List (List Int)) (o:Bool) (ss:List (List Lk)) (j:Nat) (f:j=1\/j=2):∀ (d k:Nat) (es:List a_),k+d=min l.length 4->es.length=k->(∀ x ∈ es,x.sm/\qJ x)->
  ∃ c:List a_,c.length=min l.length 4/\(∀ x ∈ c,x.sm/\qJ x)/\∀ nt,190<=nt->aF prog ap [] nt (af 4 (ax f11)) (λ_=> .exit 4) (IK l o ss j) (PW ss j) (k,k,es) (min l.length 4,c):=by
 intro d
 induction d with
 | zero=>
  intro k es hd i m;obtain rfl:k=min l.length 4:=by omega
  refine ⟨es,i,m,λnt e=> .done ?_⟩;generalize v:min l.length 4=k at i ⊢;by_cases b:l.length<=k
  .rcases f with rfl|rfl
   .cases es with
    |nil=>exact pN 11 [] 2 0 (.k 1 (az (xG b)) .nil) (.nil) e
    |cons a r=>exact pN 11 [] 2 0 (.k 1 (az (xG b)) .nil) (.nil) e
   .cases es with
    |nil=>exact pN 11 [] 2 0 (.k 1 (az (xG b)) .nil) (.nil) e
    |cons a r=>exact pN 11 [] 2 0 (.k 1 (az (xG b)) .nil) (.nil) e
  .have g:4<=k:=by omega
   have b:k<l.length:=by omega
   rcases f with rfl|rfl
   .cases es with
    |nil=>exact pN 11 [] 2 1 (.c (az (xG g)) (.c (aA (aY b)) .nil)) (.nil) e
    |cons a r=>exact pN 11 [] 2 1 (.c (az (xG g)) (.c (aA (aY b)) .nil)) (.nil) e
   .cases es with
    |nil=>exact pN 11 [] 2 1 (.c (az (xG g)) (.c (aA (aY b)) .nil)) (.nil) e
    |cons a r=>exact pN 11 [] 2 1 (.c (az (xG g)) (.c (aA (aY b)) .nil)) (.nil) e
 | succ d ih=>
  intro k es hd i m;obtain ⟨x,t,p,s⟩:=aaM l o ss j f k k es i rfl (by omega) (by omega);obtain ⟨c,g,h5,u⟩:=ih (k+1) (es++ [x]) (by omega) (by simp [i]) (by
   intro y q;rcases List.mem_append.1 q with h|h
   .exact m y h
   .rw [List.mem_singleton.1 h];exact ⟨t,p⟩)
  exact ⟨c,g,h5,λnt e=> .next (s nt e) (u nt e)⟩
end Go.Proofs.Tryz
open Go AM Go.RowKit Go.Shelf
namespace Go.Proofs.Tryz
section
variable {P:Program} {n:Nat} {α:Type}
def Uw {β:Type} (J:β->World->Prop):Prop:=∀ s W W',J s W->W.grownBy W' none->J s W'
def wU {β:Type} (B:Nat) (I:β->World->Prop):Prop:=
 ∀ s W W' row,I s W->W.grownBy W' row->(∀ r,row=some r->B<=r/\∃ o:Obj,W.heap[r]? =some o/\o.isCells=false/\o.isWalk=false)->I s W'
theorem wU.putObj {β:Type} {B:Nat} {I:β->World->Prop} (h:wU B I) {s:β} {W:World} {l:Nat} {o:Obj} (a:Obj) (hs:I s W) (c:B<=l) (f:W.heap[l]? =some o) (d:o.isCells=false) (b:o.isWalk=false):I s (W.putObj l a):=
 h s W _ (some l) hs (grownBy_putObj' W l a) (λr e=>by cases e;exact ⟨c,o,f,d,b⟩)
theorem wU.grows {β:Type} {B:Nat} {I:β->World->Prop} (h:wU B I):Uw I:=λs W W' hs a=>h s W W' none hs a (λr e=>by cases e)
theorem wU.alloc {β:Type} {B:Nat} {I:β->World->Prop} (h:wU B I) {s:β} {W:World} (o:Obj) (hs:I s W):I s (W.alloc o):=
 h.grows s W _ hs (World.grownBy_alloc W o none)
def YQ (n:Nat) (P:Program) (gf:Nat) (lb:Array Value) (encs:α->Array Value) (G:List α × α->World->Prop) (Kp:World->World->Prop) (S Sp:List α->World->Prop) (w:World):Prop:=
 ∀ (l:Nat) (J Jx:List α->World->Prop) (W:World),Below w.heap.size w W->Uw J->Uw Jx->
  (∀ pre x W1,J pre W1->G (pre,x) W1->YieldAt Fence.wide (n - 1) P l (encs x) W1 λe W'=>(e= .returned (.bool true)/\J (pre++ [x]) W'/\Kp W1 W')\/(e= .returned (.bool false)/\Jx (pre++ [x]) W'))->
  J [] W->CallsIn Fence.wide n P gf (#[.func (.yield l) #[] #[]]++lb) W λe W'=>(∃ v,e= .returned v)/\((∃ xs,S xs W'/\J xs W')\/∃ pre,Sp pre W'/\Jx pre W')
def mY (d l:Nat) (r:Loop) (W:World):Prop:=W.heap[l]? =some (.loop r)/\W.heap[d]? =some (.deferred (some []))
theorem mY.put {d l:Nat} {r r':Loop} {W:World} (h:mY d l r W) (a:d ≠ l):mY d l r' (W.putObj l (.loop r')):=
 ⟨World.putObj_heap_same (Array.getElem?_eq_some_iff.1 h.1).1,(World.putObj_heap_other a).trans h.2⟩
theorem mY.abides {d l:Nat} {r:Loop} {A B:World} (h:mY d l r A) (a:A.grownBy B none):mY d l r B:=
 ⟨(a.block l (Array.getElem?_eq_some_iff.1 h.1).1 (by simp)).trans h.1,(a.block d (Array.getElem?_eq_some_iff.1 h.2).1 (by simp)).trans h.2⟩
theorem mY.others {d l:Nat} {r:Loop} {A B:World} (h:mY d l r A) (a:KeepsOthers A B):mY d l r B:=⟨a.same _ _ h.1 rfl,a.same _ _ h.2 rfl⟩
theorem TT {B d l:Nat} {r:Loop} {I:List α->World->Prop} {Ix:Code->List α->World->Prop} {Kp:World->World->Prop} {q:List α} {W A W3:World} {k:Exit} {p:Act} (f:d ≠ l) (a:B<=l) (s:wU B I) (i:∀ c,wU B (Ix c))
  (hKt:∀ {A B C:World},Kp A B->Kp B C->Kp A C) (hKb:∀ (W:World) (l:Nat) (o o':Obj),B<=l->W.heap[l]? =some o->o.isCells=false->o.isWalk=false->Kp W (W.putObj l o'))
  (hr:r.state= .ready) (hp0:r.pending=none) (hW:mY d l r W) (hA:A=W.putObj l (.loop {r with state:= .busy})) (hpost:ownPostK Kp I Ix q A k p W3):
  roundPost P l (λe W'=>(e= .returned (.bool true)/\(I q W'/\mY d l r W')/\Kp W W')\/(e= .returned (.bool false)/\∃ c,Ix c q W'/\mY d l {r with state:= .done,pending:=some c} W')) k p W3:=by
 subst hA;have m:mY d l {r with state:= .busy} (W.putObj l (.loop {r with state:= .busy})):=hW.put f;have u:=hKb W l _ (.loop {r with state:= .busy}) a hW.1 rfl rfl;have out:∀ c,KeepsOthers (W.putObj l (.loop {r with state:= .busy})) W3->Ix c q W3->∃ v w',(Instr.endRound l (some c)).run P W3= .ok v w'/\((Ending.returned v= .returned (.bool true)/\(I q w'/\mY d l r w')/\Kp W w')\/(Ending.returned v= .returned (.bool false)/\∃ c,Ix c q w'/\mY d l {r with state:= .done,pending:=some c} w')):=by
  intro c j h;have b:=m.others j;exact ⟨_,_,run_endRound (some c) b.1,.inr ⟨rfl,c,(i c).putObj _ h a b.1 rfl rfl,b.put f⟩⟩
 cases k with
 |normal=>
  obtain ⟨j,g,h⟩:=hpost;have b:=m.others j;refine ⟨_,_,run_endRound none b.1,.inl ⟨rfl,⟨s.putObj _ h a b.1 rfl rfl, ?_⟩,hKt (hKt u g) (hKb _ _ _ _ a b.1 rfl rfl)⟩⟩;have:=b.put (r':={r with state:= .ready,pending:=none}) f;have e:({r with state:= .ready,pending:=none}:Loop)=r:=by cases r;simp only at hr hp0;subst hr hp0;rfl
  rw [e] at this;simpa [e] using this
 |ret=>exact out .ret hpost.1 hpost.2
 |exit id=>exact out (.exit id) hpost.1 hpost.2
 |goto t=>exact out (.goto t) hpost.1 hpost.2
 |panic ch=>exact hpost.elim
 |outgrown=>exact hpost.elim
theorem Lr {g:Operand} {ps:Array Tmp} {assign d:Code} {Q:Exit->Act->World->Prop} {a:Act} {w:World} (F:1<=n) {gf:Nat} {lb:Array Value} (J:a.eval g= .func (.func gf) #[] lb) (E:∀ args w,(callFunc gf args).run P w= .ok (.enter gf args) w)
  {encs:α->Array Value} {G:List α × α->World->Prop} {Kp:World->World->Prop} {S Sp:List α->World->Prop} (hseq:YQ (n - 1) P gf lb encs G Kp S Sp w) (hps:∀ x,(encs x).size=ps.size)
  (I:List α->World->Prop) (Ix:Code->List α->World->Prop) (hI:wU w.heap.size I) (hIx:∀ c,wU w.heap.size (Ix c)) (hG:wU w.heap.size G) (hS:wU w.heap.size S) (hSp:wU w.heap.size Sp)
  (hKt:∀ {A B C:World},Kp A B->Kp B C->Kp A C) (hKb:∀ (W:World) (l:Nat) (o o':Obj),w.heap.size<=l->W.heap[l]? =some o->o.isCells=false->o.isWalk=false->Kp W (W.putObj l o')) (h0:I [] w) (a₁:α->Act)
  (hassign:∀ (l:Nat) (x:α) (W:World) (K:Act->World->Prop),K (a₁ x) W->assign.wpIn (Fence.wide.inRound l) (n - 1 - 1) P (Exit.then K (λ_ _ _=>False)) {tmps:=(ps.zip (encs x)).foldl (λt (p,v)=>t.setIfInBounds p v) a.tmps,defers:= []} W)
  (hbody:∀ (l:Nat) (pre:List α) (x:α) (W:World),I pre W->G (pre,x) W->d.wpIn (Fence.wide.inRound l) (n - 1 - 1) P (ownPostK Kp I Ix (pre++ [x]) W) (a₁ x) W)
  (hdone:∀ (D:Nat) (xs:List α) (W:World),w.heap.size<=D->S xs W->I xs W->W.heap[D]? =some (.deferred (some []))->Q .normal {a with defers:={target:= .collected D,args:=#[]}::a.defers} W)
  (hstop:∀ (D:Nat) (c:Code) (pre:List α) (W:World),w.heap.size<=D->Sp pre W->Ix c pre W->W.heap[D]? =some (.deferred (some []))->c.wpIn Fence.wide n P Q {a with defers:={target:= .collected D,args:=#[]}::a.defers} W):
  (Code.rangeFunc g ps assign d).wpIn Fence.wide n P Q a w:=by
 refine wpIn_rangeFunc λi y=> ?_
 obtain ⟨r,f⟩:∃ r:Loop,r={state:= .ready,pending:=none,fn:=i,tmps:=a.tmps,params:=ps,assign,body:=d,defers:=w.heap.size}:=⟨_,rfl⟩
 obtain ⟨W1,b⟩:∃ W1,(w.alloc (.deferred (some []))).alloc (.loop r)=W1:=⟨_,rfl⟩
 have j:mY w.heap.size (w.heap.size+1) r W1:=by
  subst b;refine ⟨?_,(Below.heap_alloc _ _ _ (by simp)).trans (World.alloc_heap_new w _)⟩;have:=World.alloc_heap_new (w.alloc (.deferred (some []))) (.loop r);rwa [World.size_alloc] at this
 have m:Below w.heap.size w W1:=by
  subst b;exact ((Below.refl _ w).alloc (κ _) _).alloc (by simp) _
 have L:W1.heap.size=w.heap.size+2:=by subst b;simp
 have u:I [] W1:=by subst b;exact hI.alloc _ (hI.alloc _ h0)
 refine ⟨w.heap.size+1,[{target:= .collected w.heap.size,args:=#[]}],W1,{target:= .fn (.func gf) lb,args:=#[.func (.yield (w.heap.size+1)) #[] #[]]},W1,gf,#[.func (.yield (w.heap.size+1)) #[] #[]]++lb,W1, ?_, ?_,λ_ _=>trivial, ?_,λ_=>F, ?_⟩
 .rw [<- b,f];exact run_enterLoop_outer _ _ _ _ _
 .simp only [resolve,J];simp [go_sem]
 .simp [invoke,go_sem,E]
 refine (hseq (w.heap.size+1) (λpre W=>I pre W/\mY w.heap.size (w.heap.size+1) r W) (λpre W=> ∃ c,Ix c pre W/\mY w.heap.size (w.heap.size+1) {r with state:= .done,pending:=some c} W) W1 m ?_ ?_ ?_ ⟨u,j⟩).mono ?_
 .rintro s A B ⟨h2,h3⟩ hgr
  exact ⟨hI.grows s A B h2 hgr,h3.abides hgr⟩
 .rintro s A B ⟨c,h2,h3⟩ hgr
  exact ⟨c,(hIx c).grows s A B h2 hgr,h3.abides hgr⟩
 .rintro pre x W ⟨hi,hl⟩ hgd
  have z:=run_yield (P:=P) (args:=encs x) hl.1 (by rw [f];exact hps x);rw [f] at z;refine ⟨i,_,assign,d,z,roundIn_of_wpIn y (hassign _ x W _ ⟨_,run_beginRound hl.1 (by rw [f]), ?_⟩)⟩;refine wpIn_mono (hbody _ pre x _ (hI.putObj _ hi (by omega) hl.1 rfl rfl) (hG.putObj _ hgd (by omega) hl.1 rfl rfl)) ?_;intro M N W3 hp;exact TT (by omega) (by omega) hI hIx (λh k=>hKt h k) hKb (by rw [f]) (by rw [f]) hl rfl hp
 .rintro e W2 ⟨⟨v,rfl⟩,⟨xs,hs,hi,hl⟩|⟨pre,hs,c,hi,hl⟩⟩
  .have q:=run_endLoop (P:=P) hl.1 (by rw [f];simp);have hd:=hl.put (r':={r with state:= .exhausted,pending:=none}) (by omega);refine ⟨r.pending,_,q, ?_⟩;rw [show r.pending=none by rw [f]];exact hdone _ xs _ (κ _) (hS.putObj _ hs (by omega) hl.1 rfl rfl) (hI.putObj _ hi (by omega) hl.1 rfl rfl) hd.2
  .have q:=run_endLoop (P:=P) hl.1 (by simp);have hd:=hl.put (r':={r with state:= .exhausted,pending:=some c}) (by omega);exact ⟨some c,_,q,hstop _ c pre _ (κ _) (hSp.putObj _ hs (by omega) hl.1 rfl rfl) ((hIx c).putObj _ hi (by omega) hl.1 rfl rfl) hd.2⟩
end
end Go.Proofs.Tryz
open Go AM Go.RowKit Go.Shelf
namespace Go.Proofs.Tryz
def Ei:AV->Bool
 | .tup l=>l.all oq
 |x=>oq x
def jB (S:aO):AV->Value->Prop
 | .tup l,v=> ∃ vs,v= .tuple vs.toArray/\bT S l vs
 |x,v=>PR S x v
theorem Wx {S S':aO} (h:iV S S'):∀ (x:AV) {v:Value},jB S x v->jB S' x v:=by
 intro x v a;cases x with
 |tup l=>obtain ⟨vs,e,hp⟩:=a;exact ⟨vs,e,bD h _ hp⟩
 |_=>exact aZ h _ a
theorem EU (n:Nat):∀ {l:List AV},l.all oq=true->fK n l=(l,[])
 | [],_=>rfl
 |x::r,h=>by
  simp only [Xzr,τ] at h;have d:=EU n h.2;cases x with
  |own a b c=>exact absurd h.1 Xxu
  |_=>simp only [fK,d]
theorem TE {x:AV} (h:Ei x=true) (n:Nat):(kE n x).2= []:=by
 cases x with
 |tup l=>simp only [kE,EU n h]
 |own a b c=>cases h
 |_=>rfl
theorem zZ {gh gf:dK} {m:aW} {S:aO} (n:Nat):∀ {l:List AV} {vs:List Value},l.all oq=true->(jm gh gf m S n l vs↔bu gh m S l vs)
 | [],[],_=>by simp [jm,bu]
 |x::r,v::vs,h=>by
  simp only [Xzr,τ] at h;have d:=zZ (gh:=gh) (gf:=gf) (m:=m) (S:=S) n (vs:=vs) h.2;cases x with
  |own a b c=>exact absurd h.1 Xxu
  |_=>simp only [jm,bu,d]
 | [],_::_,_=>by simp [jm,bu]
 |x::_,[],_=>by cases x<;>simp [jm,bu]
theorem GK {gf:dK} {m:aW} {S:aO} {n:Nat} {x:AV} {v:Value} (h:Ei x=true):zi (bz []) gf m S n x v↔jB S x v:=by
 have pr:∀ y,VR (bz []) m S y v↔PR S y v:=λy=> ⟨nC y,iE y⟩
 cases x with
 |tup l=>
  simp only [zi,jB];constructor
  .rintro ⟨vs,e,hv⟩;exact ⟨vs,e,iQ _ ((zZ n h).1 hv)⟩
  .rintro ⟨vs,e,hv⟩;exact ⟨vs,e,(zZ n h).2 (bU _ hv)⟩
 |own a b c=>cases h
 |_=>exact pr _
structure qy (S:aO) (W:World) (S':aO) (W':World):Prop where
 sle:iV S S'
 cell:iV S' (bf W')
 new:∀ k o v,S' k o=some v->S k o=some v\/W.heap.size<=k
 bel:Below W.heap.size W W'
theorem qy.glob {S S':aO} {W W':World} (h:qy S W S' W') (f:dY ap S):dY ap S':=by
 intro k e c;obtain ⟨vs,d,b⟩:=f k e c;exact ⟨vs,bD h.sle _ d,λj u a=> ⟨h.sle _ _ _ (b j u a).1,(b j u a).2⟩⟩
theorem O1 {f:Nat} {args:List AV} {x:AV} (g:CO f args (.ret x)) (i:Ei x=true) {S:aO} {W:World} (j:iV S (bf W)) (p:dY ap S) {cargs:List Value} (m:bT S args cargs) {n:Nat}:
  CallsIn Fence.wide n prog f cargs.toArray W λe W'=> ∃ S' cv,e= .returned cv/\jB S' x cv/\qy S W S' W':=by
 refine callsIn_wide.2 ?_;refine (g.calls (λ_=>(0,0)) S W cargs ⟨λb q B B' h=>by simp [bz] at h,λb B h=>by simp [bz] at h,j,λb B h=>by simp [bz] at h,p⟩ (bU _ m)).mono ?_
 rintro e W' ⟨m',S',hF⟩
 obtain ⟨hs,a,c⟩:=hF;obtain ⟨cv,rfl,l⟩:=c;refine ⟨S',cv,rfl,(GK i).1 l,a.sle,hs.sealed,λk o v d=> ?_,a.os,a.tape,a.output,a.size,λk d=>a.rest k d λb B h=>by simp [bz] at h⟩;rcases a.sealN k o v d with h|h|⟨b,B,h,_⟩
 .exact .inl h
 .exact .inr h
 .simp [bz] at h
theorem age {f:Nat} {args:List AV} {x:AV} (a:zU prog f) (g:Ei x=true) (h:∀ (S:aO) (w:World) (cargs:List Value),iV S (bf w)->dY ap S->bT S args cargs->CallsIn Fence.wide 9 prog f cargs.toArray w λe w'=> ∃ S' cv,e= .returned cv/\jB S' x cv/\qy S w S' w'):CO f args (.ret x):=by
 refine ⟨κ _,a, ?_⟩;intro m S w cargs c j;refine (callsIn_wide.1 (h S w cargs c.sealed c.glob (iQ (m:=m) _ j))).mono ?_
 rintro e w' ⟨S',cv,rfl,hr,ha⟩
 have i:lS ([]:List aU).length (.ret x)= []:=TE g 0;refine ⟨m,S', ?_, ?_,⟨cv,rfl,(GK g).2 hr⟩⟩
 .rw [i];exact ⟨λb l B B' h=>by simp [bz] at h,λb B h=>by simp [bz] at h,ha.cell,λb B h=>by simp [bz] at h,ha.glob c.glob⟩
 .rw [i];refine ⟨Ge.refl _ _,ha.sle,ha.bel.os,ha.bel.tape,ha.bel.output,ha.bel.size,λk d _=>ha.bel.block k d,λ_ B h=>by simp [bz] at h,λk o v d=> ?_⟩;rcases ha.new k o v d with h|h
  .exact .inl h
  .exact .inr (.inl h)
structure Bx where
 S:aO
 n:Nat
 c:Nat
 le:n<=c
def gK (W:World) (c:Bx) (k:Nat):Prop:=∃ a l cap,W.cell? ⟨c.c,0,none⟩=some (.slice (some a) l cap)/\a.block=k
open Classical in
noncomputable def still (c:Bx) (W:World):aO:=λk o=>if k=c.c\/gK W c k\/(k<c.n/\c.S k o ≠ bf W k o) then none else bf W k o
theorem bW {c:Bx} {W:World} {k o:Nat} {v:Value}:still c W k o=some v↔k ≠ c.c/\¬ gK W c k/\bf W k o=some v/\(k<c.n->c.S k o=some v):=by
 unfold still;split
 .rename_i h;constructor
  .intro e;cases e
  .rintro ⟨h1,b,a,h4⟩;rcases h with h|h|⟨h5,f⟩
   .exact absurd h h1
   .exact absurd h b
   .exact absurd ((h4 h5).trans a.symm) f
 .rename_i h;constructor
  .intro e;exact ⟨λe=>h (.inl e),λe=>h (.inr (.inl e)),e,λd=>Classical.byContradiction λb=>h (.inr (.inr ⟨d,λa=>b (a.trans e)⟩))⟩
  .exact λe=>e.2.2.1
theorem C_ (c:Bx) (W:World):iV (still c W) (bf W):=λ_ _ _ h=>(bW.1 h).2.2.1
structure dI (c:Bx) (W W':World):Prop where
 os:W'.os=W.os
 tape:W'.tape=W.tape
 output:W'.output=W.output
 size:W.heap.size<=W'.heap.size
 stl:iV (still c W) (still c W')
 back:(∀ k,gK W c k->k<W.heap.size)->∀ k,gK W' c k->k<W'.heap.size
theorem dI.refl (c:Bx) (W:World):dI c W W:=⟨rfl,rfl,rfl,κ _,λ_ _ _ h=>h,λh=>h⟩
theorem dI.trans {c:Bx} {A B C:World} (h:dI c A B) (k:dI c B C):dI c A C:=
 ⟨k.os.trans h.os,k.tape.trans h.tape,k.output.trans h.output,Xqr h.size k.size,λa b v e=>k.stl a b v (h.stl a b v e),λe=>k.back (h.back e)⟩
theorem qH {c:Bx} {W W':World} (h:W'.cell? ⟨c.c,0,none⟩=W.cell? ⟨c.c,0,none⟩) {k:Nat}:gK W' c k↔gK W c k:=by
 unfold gK;rw [h]
theorem dI.below {c:Bx} {W W':World} (m:c.c<W.heap.size) (h:Below W.heap.size W W'):dI c W W':=by
 have hs:∀ {k},gK W' c k↔gK W c k:=fun {k}=>qH (World.cell?_of_block (a:=⟨c.c,0,none⟩) (h.block c.c m))
 refine ⟨h.os,h.tape,h.output,h.size,λk o v e=> ?_,λd k g=>υ (d k (hs.1 g)) h.size⟩;obtain ⟨j,l,b,f⟩:=bW.1 e;exact bW.2 ⟨j,λi=>l (hs.1 i),by rw [iY (h.block k (oG b))];exact b,f⟩
theorem dI.put {c:Bx} (W:World) (l:Nat) (o d:Obj) (q:W.heap[l]? =some o) (t:o.isCells=false) (u:o.isWalk=false) (g:c.c ≠ l):dI c W (W.putObj l d):=by
 have j:∀ k,k ≠ l->(W.putObj l d).heap[k]? =W.heap[k]? :=λk b=>World.putObj_heap_other b
 have hs:∀ {k},gK (W.putObj l d) c k↔gK W c k:=fun {k}=>qH (World.cell?_of_block (a:=⟨c.c,0,none⟩) (j c.c g))
 have m:(W.putObj l d).heap.size=W.heap.size:=by simp
 refine ⟨rfl,rfl,rfl,by omega,λk a v e=> ?_,λf k b=>by rw [m];exact f k (hs.1 b)⟩;obtain ⟨s,p,h,r⟩:=bW.1 e;have b:k ≠ l:=by
  rintro rfl
  unfold bf at h;rw [q] at h;cases o<;>simp_all [Obj.isCells,Obj.isWalk,World.cell?]
 exact bW.2 ⟨s,λi=>p (hs.1 i),by rw [iY (j k b)];exact h,r⟩
theorem QS {c:Bx} {S S':aO} {W W':World} (d:c.c<W.heap.size) (g:∀ k,gK W c k->k<W.heap.size) (f:iV S (still c W)) (h:qy S W S' W'):iV S' (still c W'):=by
 have hs:∀ {k},gK W' c k↔gK W c k:=fun {k}=>qH (World.cell?_of_block (a:=⟨c.c,0,none⟩) (h.bel.block c.c d))
 intro k o v e;rcases h.new k o v e with e1|e1
 .exact (dI.below d h.bel).stl k o v (f k o v e1)
 .exact bW.2 ⟨by omega,λb=>by have:=g k (hs.1 b);omega,h.cell k o v e,λb=>by have:=c.le;omega⟩
theorem dI.grown {c:Bx} {A B:World} {b:Option Nat} (p:c.c<A.heap.size) (d:A.grownBy B b) (l:∀ r,b=some r->c.c<r/\∃ o:Obj,A.heap[r]? =some o/\o.isCells=false/\o.isWalk=false):dI c A B:=by
 have t:∀ k,(∃ o v,bf A k o=some v)->some k ≠ b:=by
  rintro k ⟨o,v,h⟩ e
  obtain ⟨_,w,j,m,f⟩:=l k e.symm;unfold bf at h;rw [j] at h;cases w<;>simp_all [Obj.isCells,Obj.isWalk,World.cell?]
 have g:B.heap[c.c]? =A.heap[c.c]? :=d.block _ p λe=>by have:=(l c.c e.symm).1;omega
 have hs:∀ {k},gK B c k↔gK A c k:=fun {k}=>qH (World.cell?_of_block (a:=⟨c.c,0,none⟩) g)
 refine ⟨d.os,d.tape,d.output,d.size,λk o v e=> ?_,λq k i=>υ (q k (hs.1 i)) d.size⟩;obtain ⟨j,m,f,s⟩:=bW.1 e;exact bW.2 ⟨j,λu=>m (hs.1 u),by rw [iY (d.block k (oG f) (t k ⟨_,_,f⟩))];exact f,s⟩
theorem kM {f:Nat} {c:Bx} {args:List AV} {x:AV} (a:CO f args (.ret x)) (j:Ei x=true) {W:World} (g:c.c<W.heap.size) (b:∀ k,gK W c k->k<W.heap.size) (i:dY ap (still c W)) {cargs:List Value} (d:bT (still c W) args cargs) {n:Nat}:
  CallsIn Fence.wide n prog f cargs.toArray W λe W'=> ∃ cv,e= .returned cv/\jB (still c W') x cv/\Below W.heap.size W W':=by
 refine (O1 a j (C_ c W) i d).mono ?_
 rintro e W' ⟨S',cv,rfl,hr,ha⟩
 exact ⟨cv,rfl,Wx (QS g b (λ_ _ _ h=>h) ha) x hr,ha.bel⟩
theorem dI.glob {c:Bx} {A B:World} (h:dI c A B) (g:dY ap (still c A)):dY ap (still c B):=by
 intro k f d;obtain ⟨vs,e,b⟩:=g k f d;exact ⟨vs,bD h.stl _ e,λj u a=> ⟨h.stl _ _ _ (b j u a).1,(b j u a).2⟩⟩
attribute [local go_sem] Oper.semAt_some
inductive sZ (F:List Rw->Int ⊕ List Rw):List Rw->List (List Rw × Int)->Prop
 |err {v:List Rw} {e:Int}:F v= .inl e->sZ F v [(v,e)]
 |fix {v:List Rw}:F v= .inr v->sZ F v [(v,0)]
 |step {v w:List Rw} {l:List (List Rw × Int)}:F v= .inr w->v ≠ w->sZ F w l->sZ F v ((v,0)::l)
theorem sZ.det {F:List Rw->Int ⊕ List Rw} {v:List Rw} {r r':List (List Rw × Int)} (h:sZ F v r) (a:sZ F v r'):r=r':=by
 induction h generalizing r' with
 |err h1=>cases a with
  |err h2=>rw [h1] at h2;cases h2;rfl
  |fix h2=>rw [h1] at h2;cases h2
  |step h2=>rw [h1] at h2;cases h2
 |fix h1=>cases a with
  |err h2=>rw [h1] at h2;cases h2
  |fix h2=>rfl
  |step h2 hn=>rw [h1] at h2;cases h2;exact absurd rfl hn
 |step h1 hn _ ih=>cases a with
  |err h2=>rw [h1] at h2;cases h2
  |fix h2=>rw [h1] at h2;cases h2;exact absurd rfl hn
  |step h2 _ h3=>rw [h1] at h2;cases h2;rw [ih h3]
structure zY (sA:AV) (m:Nat) (F:List Rw->Int ⊕ List Rw) (inv:List Rw->Prop):Prop where
 co:∀ v,inv v->CO 41 [sA,.sl (dF v) v.length false] (.ret (J5 (F v)))
 len:∀ v,inv v->v.length=m
 nx:∀ v w,inv v->F v= .inr w->inv w
 er:∀ v e,inv v->F v= .inl e->e ≠ 0
theorem VC {S:aO}:∀ {a b:List Rw} {vs:List Value},bT S (dF a) vs->bT S (dF b) vs->a=b
 | [],[],_,_,_=>rfl
 | [],y::b,vs,h,c=>by
  cases vs with
  |nil=>exact absurd c (by simp [dF,bT])
  |cons v vs=>exact absurd h (by simp [dF,bT])
 |x::a,[],vs,h,c=>by
  cases vs with
  |nil=>exact absurd h (by simp [dF,bT])
  |cons v vs=>exact absurd c (by simp [dF,bT])
 | x::a,y::b,vs,h,c=>by
  match vs,h,c with
  |v1::v2::v3::vs,h,c=>
   have j:dF (x::a)= .bool x.n::.str x.a::.str x.d::dF a:=rfl;have i:dF (y::b)= .bool y.n::.str y.a::.str y.d::dF b:=rfl;rw [j] at h;rw [i] at c;simp only [bT,PR] at h c;obtain ⟨rfl,rfl,rfl,h⟩:=h;obtain ⟨g,f,e,c⟩:=c;have:=VC h c;subst this;obtain ⟨n,p,d⟩:=x;obtain ⟨k,l,m⟩:=y;simp only [Value.bool.injEq,Value.string.injEq] at g f e;cases g;have:=congrArg (·.data.toList) f;have:=congrArg (·.data.toList) e;simp at*
   simp [*]
theorem afY {S:aO} {a b:List Rw} {u:Value} (h:PR S (fZ a) u) (i:PR S (fZ b) u):a=b:=by
 simp only [fZ,PR] at h i;obtain ⟨x,cap,rfl,_,h⟩:=h;obtain ⟨s,l,e,_,i⟩:=i;simp only [Value.slice.injEq] at e;obtain ⟨rfl,c,_⟩:=e;rcases h with ⟨_,_,f,_⟩|⟨k,o,vs,rfl,f,t⟩
 .rw [f] at c;rw [Xq2 f,Xq2 c.symm]
 .rcases i with ⟨_,_,d,_⟩|⟨y,z,g,e,d,w⟩
  .rw [d] at c;rw [Xq2 d,Xq2 c]
  .simp only [Option.some.injEq,Addr.mk.injEq] at e;obtain ⟨rfl,rfl,_⟩:=e;have r:vs.length=g.length:=by rw [<- qC f,<- qC d,jc,jc,c]
   have:vs=g:=by
    apply List.ext_getElem r;intro j p q;have v:=(t j _ (μ p)).1;have m:=(w j _ (μ q)).1;rw [v] at m;exact Option.some.inj m
   subst this;exact VC f d
theorem agq:(prog.info? 27).isSome=true:=by kernel_rfl
theorem ap2:∃ i,prog.info? 27=some i/\i.zero=some (.agg #[.bool false,.string ⟨#[]⟩,.string ⟨#[]⟩])/\i.size=3/\i.bytes=40:=⟨(prog.info? 27).get agq,(Yxf agq).symm,by kernel_rfl,by kernel_rfl,by kernel_rfl⟩
theorem agr:(prog.info? 43).isSome=true:=by kernel_rfl
theorem ap3:∃ i,prog.info? 43=some i/\i.zero=some (.slice none 0 0)/\i.size=1/\i.bytes=24:=⟨(prog.info? 43).get agr,(Yxf agr).symm,by kernel_rfl,by kernel_rfl,by kernel_rfl⟩
attribute [local go_sem] Oper.semAt_some
def zc (j:Nat):Value:=if j % 3=0 then .bool false else if j % 3=1 then .string ⟨#[]⟩ else .string ⟨#[1]⟩
theorem acN (j:Nat):(zc j).oneCell'=true:=by unfold zc;split<;>(try split)<;>rfl
theorem YB {S:aO} (m:Nat):bT S (dF (ζ m (wQ q0))) ((Xqo (m*3)).map zc):=by
 have key:∀ (m i:Nat),bT S (dF (ζ m (wQ q0))) ((Yqa (i*3) (m*3)).map zc):=by
  intro m
  induction m with
  |zero=>intro i;simp [dF,bT]
  | succ m ih=>
   intro i;have h:=ih (i+1);have e:Yqa (i*3) ((m+1)*3)=i*3::(i*3+1)::(i*3+2)::Yqa ((i+1)*3) (m*3):=by
    rw [show (m+1)*3=m*3+1+1+1 by omega,Xwy,Xwy,Xwy];rw [show i*3+1+1+1=(i+1)*3 by omega]
   rw [e,List.replicate_succ];have a:dF (wQ q0::ζ m (wQ q0))= .bool false::.str []::.str [1]::dF (ζ m (wQ q0)):=rfl;rw [a];simp only [Xqg,bT,PR];refine ⟨?_, ?_, ?_,h⟩
   .simp [zc]
   .rw [zc,if_neg (by omega),if_pos (by omega)]
   .rw [zc,if_neg (by omega),if_neg (by omega)]
 have:=key m 0;rwa [Xj7,<- List.range_eq_range'] at this
theorem acO {S:aO} {m b:Nat} (h:∀ j,j<m*3->S b j=some (zc j)):PR S (fZ (ζ m (wQ q0))) (.slice (some ⟨b,0,none⟩) m m):=by
 simp only [fZ,PR,Xxa];refine ⟨_,_,rfl,κ _,.inr ⟨b,0,_,rfl,YB m, ?_⟩⟩;intro j u a;rw [Xqw] at a;by_cases hj:j<m*3
 .rw [List.getElem?_range hj] at a;cases a;exact ⟨by rw [Δ];exact h j hj,acN j⟩
 .rw [Xq9 (by simp;omega)] at a;cases a
theorem XT {S:aO} {cv:Value} (h:jB S (I_ false 0 1) cv):cv= .agg #[.bool false,.string ⟨#[]⟩,.string ⟨#[1]⟩]:=by
 have e:I_ false 0 1= .agg [.bool false,.str [],.str [1]]:=by
  have b:ae 0= []:=by kernel_rfl
  have a:ae 1= [1]:=by kernel_rfl
  rw [I_,b,a]
 rw [e] at h;simp only [jB,PR] at h;obtain ⟨vs,rfl,h⟩:=h
 match vs,h with
 | [v1,v2,v3],h=>
  simp only [bT,PR] at h;obtain ⟨rfl,rfl,rfl,_⟩:=h;rfl
 | [],h=>simp [bT] at h
 | [_],h=>simp [bT] at h
 | [_,_],h=>simp [bT] at h
 |_::_::_::_::_,h=>simp [bT] at h
theorem apW {W:World} {b k m:Nat} (l:k<m) (d:∀ o,o<m*3->(W.cell? ⟨b,o,none⟩).isSome=true/\W.frozen? ⟨b,o,none⟩=false) (hd:∀ j,j<k*3->W.cell? ⟨b,j,none⟩=some (zc j)):
  ∃ W',(Sem.run prog (storeCells ⟨b,k*3,none⟩ [.bool false,.string ⟨#[]⟩,.string ⟨#[1]⟩]) W)= .ok () W'/\(∀ o,o<m*3->(W'.cell? ⟨b,o,none⟩).isSome=true/\W'.frozen? ⟨b,o,none⟩=false)/\(∀ j,j<(k+1)*3->W'.cell? ⟨b,j,none⟩=some (zc j))/\(∀ f,f ≠ b->W'.heap[f]? =W.heap[f]?)/\W'.heap.size=W.heap.size/\W'.os=W.os/\W'.tape=W.tape/\W'.output=W.output:=by
 have h:=run_storeCells_cells (P:=prog) b (k*3) [.bool false,.string ⟨#[]⟩,.string ⟨#[1]⟩] 0 W (λj e=>(d _ (by simp at e;omega)).1) (λj e=>(d _ (by simp at e;omega)).2) (by simp [Value.oneCell']);refine ⟨_,h, ?_, ?_, ?_, ?_, ?_, ?_, ?_⟩
 .intro o g;have c:=d o g;simp only [World.setCells,Xq4];constructor
  .by_cases e1:o=k*3+1+1
   .subst e1;rw [World.cell?_setCell_same' _ _ _ (by rw [World.cell?_setCell_other _ _ _ _ (by simp),World.cell?_setCell_other _ _ _ _ (by simp)];exact c.1)];rfl
   .rw [World.cell?_setCell_other _ _ _ _ (by simp<;>omega)];by_cases e2:o=k*3+1
    .subst e2;rw [World.cell?_setCell_same' _ _ _ (by rw [World.cell?_setCell_other _ _ _ _ (by simp)];exact c.1)];rfl
    .rw [World.cell?_setCell_other _ _ _ _ (by simp<;>omega)];by_cases e3:o=k*3
     .subst e3;rw [World.cell?_setCell_same' _ _ _ c.1];rfl
     .rw [World.cell?_setCell_other _ _ _ _ (by simp<;>omega)];exact c.1
  .simp [World.frozen?_setCell,c.2]
 .intro j e;simp only [World.setCells,Xq4];have h0:=(d (k*3) (by omega)).1;have c:=(d (k*3+1) (by omega)).1;have i:=(d (k*3+1+1) (by omega)).1;by_cases e1:j=k*3+1+1
  .subst e1;rw [World.cell?_setCell_same' _ _ _ (by rw [World.cell?_setCell_other _ _ _ _ (by simp),World.cell?_setCell_other _ _ _ _ (by simp)];exact i),zc,if_neg (by omega),if_neg (by omega)]
  .rw [World.cell?_setCell_other _ _ _ _ (by simp<;>omega)];by_cases e2:j=k*3+1
   .subst e2;rw [World.cell?_setCell_same' _ _ _ (by rw [World.cell?_setCell_other _ _ _ _ (by simp)];exact c),zc,if_neg (by omega),if_pos (by omega)]
   .rw [World.cell?_setCell_other _ _ _ _ (by simp<;>omega)];by_cases e3:j=k*3
    .subst e3;rw [World.cell?_setCell_same' _ _ _ h0,zc,if_pos (by omega)]
    .rw [World.cell?_setCell_other _ _ _ _ (by simp<;>omega)];exact hd j (by omega)
 .intro f a;simp only [World.setCells];rw [Below.heap_setCell _ _ _ _ a,Below.heap_setCell _ _ _ _ a,Below.heap_setCell _ _ _ _ a]
 .simp [World.setCells,World.setCell]
 .rfl
 .rfl
 .rfl
attribute [local go_sem] Oper.semAt_some
structure El where
 v:List Rw
 e:Int
 u:Value
abbrev El.p (x:El):List Rw × Int:=(x.v,x.e)
abbrev elE (x:El):Array Value:=#[x.u,.int .i64 x.e]
abbrev elG (c:Bx) (L:List (List Rw × Int)) (p:List El × El) (W:World):Prop:=c.c<W.heap.size/\PR (still c W) (fZ p.2.v) p.2.u/\(p.1++ [p.2]).map El.p<+:L
open Classical in
noncomputable def aiM (F:List Rw->Int ⊕ List Rw) (c:Bx) (u:Value) (W:World):Nat:=if h:∃ k v l,PR (still c W) (fZ v) u/\sZ F v l/\l.length=k then h.choose else 0
theorem U6 {F:List Rw->Int ⊕ List Rw} {c:Bx} {u:Value} {W:World} {v:List Rw} {l:List (List Rw × Int)} (h:PR (still c W) (fZ v) u) (hs:sZ F v l):aiM F c u W=l.length:=by
 unfold aiM;have a:∃ k v l,PR (still c W) (fZ v) u/\sZ F v l/\l.length=k:=⟨_,v,l,h,hs,rfl⟩
 rw [dif_pos a];obtain ⟨f,g,d,e,b⟩:=a.choose_spec;rw [<- b];have:=afY h d;subst this;rw [hs.det e]
theorem afp {S:aO} {e:Int} {cv:Value} (h:jB S (J5 (.inl e)) cv):cv= .tuple #[.slice none 0 0,.int .i64 e]:=by
 simp only [J5,jB] at h;obtain ⟨vs,rfl,h⟩:=h
 match vs,h with
 | [v1,v2],h=>
  simp only [bT,PR] at h;obtain ⟨rfl,rfl,_⟩:=h;rfl
 | [],h=>simp [bT] at h
 | [_],h=>simp [bT] at h
 |_::_::_::_,h=>simp [bT] at h
theorem afq {S:aO} {w:List Rw} {cv:Value} (h:jB S (J5 (.inr w)) cv):∃ u,cv= .tuple #[u,.int .i64 0]/\PR S (fZ w) u:=by
 simp only [J5,jB] at h;obtain ⟨vs,rfl,h⟩:=h
 match vs,h with
 | [v1,v2],h=>
  simp only [bT] at h;obtain ⟨b,a,_⟩:=h;simp only [PR] at a;subst a;exact ⟨v1,rfl,b⟩
 | [],h=>simp [bT] at h
 | [_],h=>simp [bT] at h
 |_::_::_::_,h=>simp [bT] at h
theorem XR {S:aO} {cv:Value} (h:jB S (I_ false 0 1) cv):∃ cs,cv= .agg cs/\cs.size=3/\Hid (cs=#[.bool false,.string ⟨#[]⟩,.string ⟨#[1]⟩]):=⟨_,XT h,rfl,rfl⟩
set_option maxRecDepth 100000 in
set_option maxHeartbeats 1000000 in
theorem X5 (n:Nat) (hn:2<=n) (kn kx:Nat) (c:Bx) (m:Nat) (hm:m<=60) {sA:AV} {sv:Value} {F:List Rw->Int ⊕ List Rw} {inv:List Rw->Prop} (hN:zY sA m F inv) {L:List (List Rw × Int)} (hL:sZ F (ζ m (wQ q0)) L) (hi0:inv (ζ m (wQ q0)))
  (l:Nat) (J Jx:List El->World->Prop) (W:World) (hAJ:Uw J) (hc:c.c<W.heap.size)
  (cn:still c W kn 0=some (.int .i64 (m:Int))) (cx:still c W kx 0=some (.func (.func 41) #[sv] #[])) (hs:PR (still c W) sA sv) (hg:dY ap (still c W)) (hb:∀ k,gK W c k->k<W.heap.size)
  (hY:∀ pre x W1,J pre W1->elG c L (pre,x) W1->YieldAt Fence.wide (n - 1) prog l (elE x) W1 λe W'=>(e= .returned (.bool true)/\J (pre++ [x]) W'/\dI c W1 W')\/(e= .returned (.bool false)/\Jx (pre++ [x]) W')) (h0:J [] W):
  CallsIn Fence.wide n prog 81 #[.func (.yield l) #[] #[],.pointer (some ⟨kn,0,none⟩),.pointer (some ⟨kx,0,none⟩)] W λe W'=>(∃ v,e= .returned v)/\((∃ xs,xs.map El.p=L/\J xs W')\/∃ pre,pre.map El.p<+:L/\Jx pre W'):=by
 have h1n:1<=n:=by omega
 have hf75:Fence.wide.fn 75:=trivial;have cn':W.cell? ⟨kn,0,none⟩=some (.int .i64 (m:Int)):=nH (C_ _ _ _ _ _ cn) rfl;refine callsIn_of_wp Tryz.func81 rfl trivial ?_ rfl;simp only [Tryz.ntmps81,Xxh,ο,Xqa,Xzd,Xze,Array.replicate_succ,Array.replicate_zero,Xjd,Xx0,Xqc,Xqt]
 gi_wp2
 obtain ⟨i27,h27,z27,s27,b27⟩:=ap2;have hr:=run_make (P:=prog) W 43 27 _ _ (by kernel_rfl) h27 z27 .i64 .i64 m m (Int.natCast_nonneg _) (Xk8 _) (by rw [b27];omega) (by omega);rw [hr];obtain ⟨W0,hW0⟩:∃ W0,W.alloc (.cells (madeCells (Value.agg #[.bool false,.string ⟨#[]⟩,.string ⟨#[]⟩]).cells ((m:Int).toNat*i27.size)) 27)=W0:=⟨_,rfl⟩
 have hb9:Below W.heap.size W W0:=by rw [<- hW0];exact (Below.refl _ W).alloc (κ _) _
 have hsz0:W.heap.size<W0.heap.size:=by rw [<- hW0];simp
 have hd0:∀ o,o<m*3->(W0.cell? ⟨W.heap.size,o,none⟩).isSome=true/\W0.frozen? ⟨W.heap.size,o,none⟩=false:=by
  intro o ho;have hh:W0.heap[W.heap.size]? =some (.cells (madeCells (Value.agg #[.bool false,.string ⟨#[]⟩,.string ⟨#[]⟩]).cells ((m:Int).toNat*i27.size)) 27):=by rw [<- hW0];exact World.alloc_heap_new W _
  constructor
  .simp only [World.cell?,hh];rw [Array.getElem?_eq_getElem (by rw [size_madeCells,s27];omega)];rfl
  .simp [World.frozen?,hh]
 rw [hW0];clear hr
 gi_wp2
 gi_loopw [12] (λi wr=> ∃ k:Nat,k<=m/\i= .int .i64 k/\Below W.heap.size W wr/\W.heap.size<wr.heap.size/\(∀ o,o<m*3->(wr.cell? ⟨W.heap.size,o,none⟩).isSome=true/\wr.frozen? ⟨W.heap.size,o,none⟩=false)/\(∀ j,j<k*3->wr.cell? ⟨W.heap.size,j,none⟩=some (zc j)))
  (λi _=>m - (intOf i).toNat)
 case atStart=>exact ⟨0,Xq7 _,rfl,hb9,hsz0,hd0,λj hj=>by omega⟩
 case round=>
  obtain ⟨k,hk,rfl,hbw,hsz,hd1,hd2⟩:=hrel;by_cases hlt:k<m
  .have hkc:=(dI.below hc hbw)
   have hgw:dY ap (still c wr):=hkc.glob hg;have hbk:∀ k,gK wr c k->k<wr.heap.size:=hkc.back hb;have hcw:c.c<wr.heap.size:=by omega
   gi_wp2_with (gi_at_call 75;refine (kM lC rfl hcw hbk hgw (by simp only [bT,PR];exact ⟨trivial,trivial⟩)).mono ?_;rintro e W1 ⟨cv,rfl,hr1,hb1⟩;obtain ⟨cs,rfl,hcs,hH⟩:=XR hr1)
   have hcl:cs.toList= [.bool false,.string ⟨#[]⟩,.string ⟨#[1]⟩]:=by rw [hH.out]
   have hb1c:=hb1.block W.heap.size hsz;obtain ⟨W2,hr2,hd3,hd4,hne,hz2,ho2,ht2,hu2⟩:=apW (W:=W1) (b:=W.heap.size) hlt (λo ho=>by rw [World.cell?_of_block (a:=⟨W.heap.size,o,none⟩) hb1c,World.frozen?_of_block (a:=⟨W.heap.size,o,none⟩) hb1c];exact hd1 o ho) (λj hj=>by rw [World.cell?_of_block (a:=⟨W.heap.size,j,none⟩) hb1c];exact hd2 j hj);have hb2:Below W.heap.size W W2:=hbw.trans ((hb1.mono (by omega)).trans ⟨ho2,ht2,hu2,by omega,λk' hk'=>hne k' (by omega)⟩);rw [hcl,hr2]
   gi_wp2
   go_roundw
   case rel=>exact ⟨k+1,by omega,by simp,hb2,by have:=hb1.size;omega,hd3,hd4⟩
   case measure=>simp [intOf];omega
  .obtain rfl:k=m:=by omega
   have hkc:=(dI.below hc hbw)
   have hcw:c.c<wr.heap.size:=by omega
   have hbm:∀ k,gK wr c k->k<wr.heap.size:=hkc.back hb;have hzv:PR (still c wr) (fZ (ζ k (wQ q0))) (.slice (some ⟨W.heap.size,0,none⟩) k k):=by
    refine acO λj hj=> ?_
    refine bW.2 ⟨by omega,λhB=> ?_,iW (hd2 j hj) (acN j),λhk=>by have:=c.le;omega⟩;have:=hb _ ((qH (World.cell?_of_block (a:=⟨c.c,0,none⟩) (hbw.block c.c hc))).1 hB);omega
   have hJ0:J [] wr:=hAJ _ _ _ h0 (ja hbw none);clear hd0 hd1 hd2
   gi_wp2
   gi_loopw [4] (λu wr'=> ∃ pre v l2,PR (still c wr') (fZ v) u/\inv v/\sZ F v l2/\pre.map El.p++l2=L/\J pre wr'/\dI c W wr') (λu wr'=>aiM F c u wr')
   case atStart=>exact ⟨[],_,L,hzv,hi0,hL,rfl,hJ0,hkc⟩
   case round=>
    obtain ⟨pre,v,l2,hv,hiv,hsv,hpl,hJp,hkw⟩:=hrel;have hcw2:c.c<wr.heap.size:=υ hc hkw.size;have hbw2:∀ k,gK wr c k->k<wr.heap.size:=hkw.back hb;have hgw2:dY ap (still c wr):=hkw.glob hg;have cx2:wr.cell? ⟨kx,0,none⟩=some (.func (.func 41) #[sv] #[]):=nH (C_ _ _ _ _ _ (hkw.stl _ _ _ cx)) rfl;have hs2:PR (still c wr) sA sv:=aZ hkw.stl _ hs;have hf41:Fence.wide.fn 41:=trivial;have hf45:Fence.wide.fn 45:=trivial;have hlv:=hN.len v hiv;have hleft:=U6 (F:=F) (c:=c) (W:=wr) hv hsv;have hco:=hN.co v hiv;have hY2:∀ pre v e u W1,J pre W1->c.c<W1.heap.size->PR (still c W1) (fZ v) u->pre.map El.p++ [(v,e)]<+:L->YieldAt Fence.wide (n - 1) prog l #[u,.int .i64 e] W1 λe' W'=>(e'= .returned (.bool true)/\J (pre++ [⟨v,e,u⟩]) W'/\dI c W1 W')\/(e'= .returned (.bool false)/\Jx (pre++ [⟨v,e,u⟩]) W'):=λpre v e u W1 h1 h2 h3 h4=>hY pre ⟨v,e,u⟩ W1 h1 ⟨h2,h3,by rw [Xq5];exact h4⟩
    cases hF:F v with
    | inl e=>
     have he:=hN.er v e hiv hF;have hed:decide (e=0)=false:=Yq1 he;rw [hF] at hco;have hl2:l2= [(v,e)]:=hsv.det (.err hF);subst hl2
     gi_wp2_with (gi_at_call 41;refine (kM hco rfl hcw2 hbw2 hgw2 (by simp only [bT];exact ⟨hs2,hv,trivial⟩)).mono ?_;rintro ee W1 ⟨cv,rfl,hr1,hb1⟩;obtain rfl:=afp hr1;obtain ⟨fn,tmps,assign,body,hy,hR⟩:=hY2 pre v e u4 W1 (hAJ _ _ _ hJp (ja hb1 none)) (υ hcw2 hb1.size) (aZ (dI.below hcw2 hb1).stl _ hv) (by rw [hpl];exact Xwx _))
     refine hR.mono ?_
     rintro ee W3 (⟨rfl,hJ3,hk3⟩|⟨rfl,hJx3⟩)
     .gi_wp2
      refine bodyPost_ret (results_none rfl _ _ _) rfl ?_;exact ⟨⟨_,rfl⟩,.inl ⟨_,by rw [Xq5];exact hpl,hJ3⟩⟩
     .gi_wp2
      refine bodyPost_ret (results_none rfl _ _ _) rfl ?_;exact ⟨⟨_,rfl⟩,.inr ⟨_,by rw [Xq5,<- hpl];exact Xwx _,hJx3⟩⟩
    | inr w=>
     rw [hF] at hco;have hpre:pre.map El.p++ [(v,0)]<+:L:=by
      rw [<- hpl];cases hsv with
      |err h1=>rw [hF] at h1;cases h1
      |fix h1=>exact Xwx _
      |step h1 h2 h3=>exact ⟨_,Xqe ..⟩
     have hfe:CO 45 [fZ v,fZ w] (.ret (.bool (decide (v=w)))):=Np v w false false (by have:=hN.len v hiv;omega);have hstop:∀ (u:Value) (W3:World),Jx (pre++ [⟨v,0,u⟩]) W3->∃ pre',pre'.map El.p<+:L/\Jx pre' W3:=λu W3 hx=> ⟨_,by rw [Xq5];exact hpre,hx⟩
     gi_wp2_with (gi_at_call 41;refine (kM hco rfl hcw2 hbw2 hgw2 (by simp only [bT];exact ⟨hs2,hv,trivial⟩)).mono ?_;rintro ee W1 ⟨cv,rfl,hr1,hb1⟩;obtain ⟨uw,rfl,huw⟩:=afq hr1;obtain ⟨fn,tmps,assign,body,hy,hR⟩:=hY2 pre v 0 u4 W1 (hAJ _ _ _ hJp (ja hb1 none)) (υ hcw2 hb1.size) (aZ (dI.below hcw2 hb1).stl _ hv) hpre)
     have hk1:=dI.below hcw2 hb1;refine hR.mono ?_
     rintro ee W3 (⟨rfl,hJ3,hk3⟩|⟨rfl,hJx3⟩)
     .have hv3:PR (still c W3) (fZ v) u4:=aZ (hk1.trans hk3).stl _ hv;have hw3:PR (still c W3) (fZ w) uw:=aZ hk3.stl _ huw;have hcw3:c.c<W3.heap.size:=υ hcw2 (hk1.trans hk3).size;have hbw3:=(hk1.trans hk3).back hbw2;have hgw3:=(hk1.trans hk3).glob hgw2;by_cases hvw:v=w
      .rw [Yq0 hvw] at hfe;have hl2:l2= [(v,0)]:=hsv.det (.fix (by rw [hF,hvw]));subst hl2
       gi_wp2_with (gi_at_call 45;refine (kM hfe rfl hcw3 hbw3 hgw3 (by simp only [bT];exact ⟨hv3,hw3,trivial⟩)).mono ?_;rintro ee W4 ⟨cv,rfl,hr4,hb4⟩;simp only [jB,PR] at hr4;subst hr4)
       refine bodyPost_ret (results_none rfl _ _ _) rfl ?_;exact ⟨⟨_,rfl⟩,.inl ⟨_,by rw [Xq5];exact hpl,hAJ _ _ _ hJ3 (ja hb4 none)⟩⟩
      .rw [Yq1 hvw] at hfe;cases hsv with
       |err h1=>rw [hF] at h1;cases h1
       |fix h1=>rw [hF] at h1;cases h1;exact absurd rfl hvw
       | step h1 h2 h3=>
        rw [hF] at h1;cases h1
        gi_wp2_with (gi_at_call 45;refine (kM hfe rfl hcw3 hbw3 hgw3 (by simp only [bT];exact ⟨hv3,hw3,trivial⟩)).mono ?_;rintro ee W4 ⟨cv,rfl,hr4,hb4⟩;simp only [jB,PR] at hr4;subst hr4)
        have hk4:=dI.below hcw3 hb4;have hw4:PR (still c W4) (fZ w) uw:=aZ hk4.stl _ hw3
        go_roundw
        case rel=>exact ⟨_,_,_,hw4,hN.nx v w hiv hF,h3,by rw [Xq5,Xqe];exact hpl,hAJ _ _ _ hJ3 (ja hb4 none),hkw.trans (hk1.trans (hk3.trans hk4))⟩
        case measure=>
         rw [hleft,U6 hw4 h3];simp
     .gi_wp2
      refine bodyPost_ret (results_none rfl _ _ _) rfl ?_;exact ⟨⟨_,rfl⟩,.inr (hstop _ _ hJx3)⟩
attribute [local go_sem] Oper.semAt_some
theorem LG (m:Int) (n:Nat) (w:World) (sv:Value):
  CallsIn Fence.wide n prog 44 #[.int .i64 m,.func (.func 41) #[sv] #[]] w λe w'=>e= .returned (.func (.func 81) #[] #[.pointer (some ⟨w.heap.size,0,none⟩),.pointer (some ⟨w.heap.size+1,0,none⟩)])/\w'=(w.alloc (.cells #[.int .i64 m] 3)).alloc (.cells #[.func (.func 41) #[sv] #[]] 144):=by
 refine callsIn_of_wp Tryz.func44 rfl trivial ?_ rfl;simp only [Tryz.ntmps44,Xxh,ο,Xqa,Xzd,Xze,Array.replicate_succ,Array.replicate_zero,Xjd,Xx0,Xqc,Xqt]
 gi_wp2
 go_ret
 refine ⟨?_,rfl⟩;simp
theorem yj (n:Nat) (i:2<=n) (kn d:Nat) (c:Bx) (m:Nat) (g:m<=60) {e:AV} {sv:Value} {F:List Rw->Int ⊕ List Rw} {inv:List Rw->Prop} (o:zY e m F inv) {L:List (List Rw × Int)} (f:sZ F (ζ m (wQ q0)) L) (b:inv (ζ m (wQ q0)))
  (w:World) (hc:c.c<w.heap.size) (cn:still c w kn 0=some (.int .i64 (m:Int))) (cx:still c w d 0=some (.func (.func 41) #[sv] #[])) (hs:PR (still c w) e sv) (hg:dY ap (still c w)) (hb:∀ k,gK w c k->k<w.heap.size):
  YQ n prog 81 #[.pointer (some ⟨kn,0,none⟩),.pointer (some ⟨d,0,none⟩)] elE (elG c L) (dI c) (λp _=>p.map El.p=L) (λpre _=>pre.map El.p<+:L) w:=by
 intro l J Jx W j q _ h h0;have a:=dI.below hc j;exact X5 n i kn d c m g o f b l J Jx W q (υ hc a.size) (a.stl _ _ _ cn) (a.stl _ _ _ cx) (aZ a.stl _ hs) (a.glob hg) (a.back hb) h h0
theorem abu {w:World} {tmps:Array Value} {a b c:Nat} {u v x:Value} (j:tmps.getD 2 undef= .pointer (some ⟨a,0,none⟩)) (h:tmps.getD 3 undef= .pointer (some ⟨b,0,none⟩)) (g:tmps.getD 4 undef= .pointer (some ⟨c,0,none⟩)) (m:w.cell? ⟨a,0,none⟩=some u) (l:w.cell? ⟨b,0,none⟩=some v) (k:w.cell? ⟨c,0,none⟩=some x):(results f23 tmps).run prog w= .ok (.tuple #[u,v,x]) w:=by
 refine oV (vs:= [u,v,x]) rfl ?_;intro i r y e d
 match i with
 | 0=>
  simp only [Xxb,Option.some.injEq] at d;subst d;have:r= .cell 2 43:=by
   have h0:f23.results.toList[0]? =some (.cell 2 43):=rfl;rw [h0] at e;exact (Option.some.inj e).symm
  subst this;have f:prog.underlying 43=some (.slice 27):=by kernel_rfl
  simp only [zJ,j];simp [asAddr,loadVar,f,m,go_sem]
 | 1=>
  simp only [Xja,Xxb,Option.some.injEq] at d;subst d;have:r= .cell 3 47:=by
   have h0:f23.results.toList[1]? =some (.cell 3 47):=rfl;rw [h0] at e;exact (Option.some.inj e).symm
  subst this;have f:prog.underlying 47=some (.slice 43):=by kernel_rfl
  simp only [zJ,h];simp [asAddr,loadVar,f,l,go_sem]
 | 2=>
  simp only [Xja,Xxb,Option.some.injEq] at d;subst d;have:r= .cell 4 48:=by
   have h0:f23.results.toList[2]? =some (.cell 4 48):=rfl;rw [h0] at e;exact (Option.some.inj e).symm
  subst this;have f:prog.underlying 48=some (.int .i64):=by kernel_rfl
  simp only [zJ,g];simp [asAddr,loadVar,f,k,go_sem]
 |n+3=>simp at d
theorem Y1 {w W0:World} {a b c d:Array Value} {ta tb tc td:TypeId} (h:(((w.alloc (.cells a ta)).alloc (.cells b tb)).alloc (.cells c tc)).alloc (.cells d td)=W0):
  Below w.heap.size w W0/\W0.heap.size=w.heap.size+4/\W0.heap[w.heap.size]? =some (.cells a ta)/\W0.heap[w.heap.size+1]? =some (.cells b tb)/\W0.heap[w.heap.size+1+1]? =some (.cells c tc)/\W0.heap[w.heap.size+1+1+1]? =some (.cells d td):=by
 subst h;refine ⟨((((Below.refl _ w).alloc (κ _) _).alloc (by simp) _).alloc (by simp;omega) _).alloc (by simp;omega) _,by simp, ?_, ?_, ?_, ?_⟩
 .rw [Below.heap_alloc _ _ _ (by simp;omega),Below.heap_alloc _ _ _ (by simp;omega),Below.heap_alloc _ _ _ (by simp),World.alloc_heap_new]
 .rw [Below.heap_alloc _ _ _ (by simp),Below.heap_alloc _ _ _ (by simp)];have:=World.alloc_heap_new (w.alloc (.cells a ta)) (.cells b tb);rwa [World.size_alloc] at this
 .rw [Below.heap_alloc _ _ _ (by simp)];have:=World.alloc_heap_new ((w.alloc (.cells a ta)).alloc (.cells b tb)) (.cells c tc);rwa [World.size_alloc,World.size_alloc] at this
 .have:=World.alloc_heap_new (((w.alloc (.cells a ta)).alloc (.cells b tb)).alloc (.cells c tc)) (.cells d td);rwa [World.size_alloc,World.size_alloc,World.size_alloc] at this
theorem bi {W:World} {k:Nat} {a:Array Value} {t:TypeId} (h:W.heap[k]? =some (.cells a t)) (j:Nat):W.cell? ⟨k,j,none⟩=a[j]? /\W.frozen? ⟨k,j,none⟩=false:=by
 simp [World.cell?,World.frozen?,h]
theorem ab2 {W:World} {a b c:Nat} (d:a ≠ b) (e:a ≠ c) (f:b ≠ c) {u v x:Value} (i:(W.cell? ⟨a,0,none⟩).isSome=true) (g:(W.cell? ⟨b,0,none⟩).isSome=true) (j:(W.cell? ⟨c,0,none⟩).isSome=true):
  (((W.setCell ⟨a,0,none⟩ u).setCell ⟨b,0,none⟩ v).setCell ⟨c,0,none⟩ x).cell? ⟨a,0,none⟩=some u/\(((W.setCell ⟨a,0,none⟩ u).setCell ⟨b,0,none⟩ v).setCell ⟨c,0,none⟩ x).cell? ⟨b,0,none⟩=some v/\(((W.setCell ⟨a,0,none⟩ u).setCell ⟨b,0,none⟩ v).setCell ⟨c,0,none⟩ x).cell? ⟨c,0,none⟩=some x:=by
 have o:∀ {W:World} {k l:Nat} {y:Value},k ≠ l->(W.setCell ⟨l,0,none⟩ y).cell? ⟨k,0,none⟩=W.cell? ⟨k,0,none⟩:=fun {W k l y} h=>World.cell?_setCell_other _ _ _ _ (by simp [h])
 refine ⟨?_, ?_, ?_⟩
 .rw [o e,o d];exact World.cell?_setCell_same' _ _ _ i
 .rw [o f];exact World.cell?_setCell_same' _ _ _ (by rw [o d.symm];exact g)
 .exact World.cell?_setCell_same' _ _ _ (by rw [o f.symm,o e.symm];exact j)
theorem qF {S:aO} {w W:World} (a:iV S (bf w)) (h:Below w.heap.size w W):qy S w S W:=⟨λ_ _ _ h=>h,λk o v e=>gp h k o v (a k o v e),λ_ _ _ e=> .inl e,h⟩
abbrev kS (es:List a_) (ss:List (List Lk)) (ne ns:Bool):AV:= .agg [.sl (bV es) es.length ne,.sl (eF ss) ss.length ns,.sl [] 0 false]
set_option maxRecDepth 100000 in
set_option maxHeartbeats 1000000 in
theorem aat (es:List a_) (ss:List (List Lk)) (ne ns:Bool) (ck:Int) (h0:ck ≠ 0) (hck:CO 33 [kS es ss ne ns] (.ret (.int .i64 ck)))
  (S:aO) (w:World) (v0 v1 v2:Value) (hS:iV S (bf w)) (hg:dY ap S) (hv:PR S (kS es ss ne ns) (.agg #[v0,v1,v2])) (n:Nat) (hn:4<=n):
  CallsIn Fence.wide n prog 23 #[.agg #[v0,v1,v2]] w λe w'=>e= .returned (.tuple #[.slice none 0 0,.slice none 0 0,.int .i64 ck])/\qy S w S w':=by
 have hf33:Fence.wide.fn 33:=trivial;have hx:decide (ck=0)=false:=Yq1 h0;have h1n:1<=n:=by omega
 obtain ⟨W0,hW0⟩:∃ W0,(((w.alloc (.cells #[v0,v1,v2] 37)).alloc (.cells #[.slice none 0 0] 43)).alloc (.cells #[.slice none 0 0] 47)).alloc (.cells #[.int .i64 0] 48)=W0:=⟨_,rfl⟩
 obtain ⟨hb0,hz0,a1,a2,a3,a4⟩:=Y1 hW0;have hS0:iV S (bf W0):=λk o v h=>gp hb0 k o v (hS k o v h)
 have e0:W0.cell? ⟨w.heap.size,0,none⟩=some v0:=(bi a1 0).1;have e1:W0.cell? ⟨w.heap.size,1,none⟩=some v1:=(bi a1 1).1;have e2:W0.cell? ⟨w.heap.size,2,none⟩=some v2:=(bi a1 2).1;refine callsIn_of_wp_marks Tryz.func23 rfl trivial ?_ rfl;simp only [Tryz.ntmps23,Xxh,ο,Xqa,Xzd,Xze,Array.replicate_succ,Array.replicate_zero,Xjd,Xx0,Xqc,Xqt]
 gi_wp2_with (first|(gi_at_call 33;refine (O1 hck rfl (S:=S) (W:=W0) hS0 hg (by simp only [bT];exact ⟨hv,trivial⟩)).mono ?_;rintro e W1 ⟨S1,cv,rfl,hr1,ha1⟩;simp only [jB,PR] at hr1;subst hr1;have b2:=bi ((ha1.bel.block (w.heap.size+1) (by omega)).trans a2) 0;have b3:=bi ((ha1.bel.block (w.heap.size+1+1) (by omega)).trans a3) 0;have b4:=bi ((ha1.bel.block (w.heap.size+1+1+1) (by omega)).trans a4) 0;have c2:=b2.1;have c3:=b3.1;have c4:=b4.1;have d2:=b2.2;have d3:=b3.2;have d4:=b4.2;clear b2 b3 b4;simp only [Xzl,Xxb] at c2 c3 c4)|gi_in)
 obtain ⟨x1,x2,x3⟩:=ab2 (W:=W1) (a:=w.heap.size+1) (b:=w.heap.size+1+1) (c:=w.heap.size+1+1+1) (u:= .slice none 0 0) (v:= .slice none 0 0) (x:= .int .i64 ck) (by omega) (by omega) (by omega) (by rw [c2];rfl) (by rw [c3];rfl) (by rw [c4];rfl);exact ⟨_,abu rfl rfl rfl x1 x2 x3,rfl,qF hS ((((hb0.trans (ha1.bel.mono (by omega))).setCell (p:=⟨w.heap.size+1,0,none⟩) (by show w.heap.size<=w.heap.size+1;omega) _).setCell (p:=⟨w.heap.size+1+1,0,none⟩) (by show w.heap.size<=w.heap.size+1+1;omega) _).setCell (p:=⟨w.heap.size+1+1+1,0,none⟩) (by show w.heap.size<=w.heap.size+1+1+1;omega) _)⟩
theorem YA (v:List Rw) (h:v.length<2^39):CO 53 [.sl (dF v) v.length true] (.ret (.sl (dF v) v.length true)):=by
 have a:Nat.beq (θ (dF v)) (v.length*3)=true:=by rw [jc];exact Nat.beq_refl _
 have b:Xqn (0+v.length) 1099511627776=true:=by rw [Nat.ble_eq];omega
 have c:CO 53 [.sl (dF v) v.length true] (.ret (.own (π ((0+v.length)*3) ([]++(dF v))) (0+v.length) 3)):=pK [] 1 0 (.c a (.c b (.n 3 .nil))) (.nil);have h:=c.thaw (by simp);simp only [sU,thaw,Δ,Xqc,List.take_take,Nat.min_self] at h;rwa [φ (by rw [jc];exact κ _)] at h
end Go.Proofs.Tryz
open Go AM Go.RowKit Go.Shelf
namespace Go.Proofs.Tryz
attribute [local go_sem] Oper.semAt_some
structure LI (B:Bx) (W3:World) (pre:List El) (W:World):Prop where
 keep:dI B W3 W
 low:∀ k,k<B.c->W.heap[k]? =W3.heap[k]?
 box:∃ cv,W.cell? ⟨B.c,0,none⟩=some cv/\W.frozen? ⟨B.c,0,none⟩=false/\W.ownsRow W3.heap.size 43 1 cv pre.length (pre.map El.u)
 els:∀ x ∈ pre,x.e=0/\PR (still B W) (fZ x.v) x.u
theorem LI.own {B:Bx} {W3:World} (i:B.c<W3.heap.size):wU W3.heap.size (LI B W3):=by
 rintro pre A A' row ⟨h1,h2,⟨cv,h3,h4,h5⟩,h6⟩ hg hr
 have c:∀ r,row=some r->∃ o:Obj,A.heap[r]? =some o/\o.isCells=false:=λr e=>by obtain ⟨_,o,a,b,_⟩:=hr r e;exact ⟨o,a,b⟩
 have h:dI B A A':=dI.grown (υ i h1.size) hg (λr e=> ⟨by have:=(hr r e).1;omega,(hr r e).2⟩);refine ⟨h1.trans h,λk d=>(hg.block k (by have:=h1.size;omega) ?_).trans (h2 k d),⟨cv,cell_kept h3 hg c,(frozen_kept h3 hg c).trans h4,h5.kept hg ?_⟩,λx f=> ⟨(h6 x f).1,aZ h.stl _ (h6 x f).2⟩⟩
 .intro e;have:=(hr k e.symm).1;omega
 .by_cases e:cv.ownBlock=none
  .exact .inl e
  .refine .inr λj=> ?_
   obtain ⟨_,⟨rfl,_⟩|⟨g,cap,cur,rfl,_,h7,_⟩⟩:=h5
   .exact e rfl
   .obtain ⟨o,a,b⟩:=c g j.symm;rw [h7] at a;cases a;cases b
def LX (w W3:World) (c:Code) (pre:List El) (W:World):Prop:=c= .ret/\(∃ p x,pre=p++ [x]/\x.e ≠ 0/\W.cell? ⟨w.heap.size+1,0,none⟩=some (.slice none 0 0)/\W.cell? ⟨w.heap.size+1+1,0,none⟩=some (.slice none 0 0)/\W.cell? ⟨w.heap.size+1+1+1,0,none⟩=some (.int .i64 x.e))/\Below w.heap.size w W
theorem LX.own {w W3:World} (f:w.heap.size<=W3.heap.size) (c:Code):wU W3.heap.size (LX w W3 c):=by
 rintro pre A A' row ⟨h1,⟨p,x,h2,h3,h4,h5,h6⟩,h7⟩ hg hr
 have d:∀ r,row=some r->∃ o:Obj,A.heap[r]? =some o/\o.isCells=false:=λr e=>by obtain ⟨_,o,a,b,_⟩:=hr r e;exact ⟨o,a,b⟩
 exact ⟨h1,⟨p,x,h2,h3,cell_kept h4 hg d,cell_kept h5 hg d,cell_kept h6 hg d⟩,h7.grown hg h7.size λk e=>by have:=(hr k e).1;omega⟩
theorem elG.own {B:Bx} {L:List (List Rw × Int)} {n:Nat} (a:B.c<n):wU n (elG B L):=by
 rintro ⟨pre,x⟩ A A' row ⟨h1,h2,h3⟩ hg hr
 exact ⟨υ h1 hg.size,aZ (dI.grown h1 hg (λr e=> ⟨by have:=(hr r e).1;omega,(hr r e).2⟩)).stl _ h2,h3⟩
theorem qi {W:World} {c:Bx} {cv:Value} (h:W.cell? ⟨c.c,0,none⟩=some cv) {k:Nat}:gK W c k↔cv.ownBlock=some k:=by
 unfold gK;rw [h];constructor
 .rintro ⟨a,l,cap,e,rfl⟩;cases e;rfl
 .intro e;unfold Value.ownBlock at e;split at e
  .cases e;exact ⟨_,_,_,rfl,rfl⟩
  .cases e
theorem RI {B:Bx} {W3 W W4:World} {pre:List El} {x:El} {cv:Value} {o:Obj} {g cap:Nat} (z:LI B W3 pre W) (Z:B.c<W3.heap.size) (A:W.cell? ⟨B.c,0,none⟩=some cv) (I:W.frozen? ⟨B.c,0,none⟩=false) (D:W.ownsRow W3.heap.size 43 1 cv pre.length (pre.map El.u)) (L:x.e=0) (N:PR (still B W) (fZ x.v) x.u) (c:(W.alloc o).grownBy W4 cv.ownBlock) (p:W4.ownsRow W3.heap.size 43 1 (.slice (some ⟨g,0,none⟩) (pre.length+1) cap) (pre.length+1) (pre.map El.u++ [x.u])) (M:some g=cv.ownBlock\/some g=some (W.alloc o).heap.size):
  KeepsOthers W (W4.setCell ⟨B.c,0,none⟩ (.slice (some ⟨g,0,none⟩) (pre.length+1) cap))/\dI B W (W4.setCell ⟨B.c,0,none⟩ (.slice (some ⟨g,0,none⟩) (pre.length+1) cap))/\LI B W3 (pre++ [x]) (W4.setCell ⟨B.c,0,none⟩ (.slice (some ⟨g,0,none⟩) (pre.length+1) cap)):=by
 have Y:=z.keep.size;have Q:B.c<W.heap.size:=by omega
 have u:∀ k,cv.ownBlock=some k->W3.heap.size<=k/\k<W.heap.size:=λk e=>D.lt k e
 have T:W.heap.size+1<=W4.heap.size:=by have:=c.size;simpa using this
 have d:∀ k,k<W.heap.size->cv.ownBlock ≠ some k->W4.heap[k]? =W.heap[k]? :=λk l i=>(c.block k (by simp;omega) (λe=>i e.symm)).trans (Below.heap_alloc _ _ _ l)
 have t:W4.heap[B.c]? =W.heap[B.c]? :=d _ Q λe=>by have:=(u _ e).1;omega
 have C:=(World.cell?_of_block (a:=⟨B.c,0,none⟩) t).trans A;have w:=(World.frozen?_of_block (a:=⟨B.c,0,none⟩) t).trans I;obtain ⟨W',b⟩:∃ W',W4.setCell ⟨B.c,0,none⟩ (.slice (some ⟨g,0,none⟩) (pre.length+1) cap)=W':=⟨_,rfl⟩
 have hcell:W'.cell? ⟨B.c,0,none⟩=some (.slice (some ⟨g,0,none⟩) (pre.length+1) cap):=by rw [<- b];exact World.cell?_setCell_same' _ _ _ (by rw [C];rfl)
 have O:W'.frozen? ⟨B.c,0,none⟩=false:=by rw [<- b];simp [w]
 have r:∀ k,k ≠ B.c->W'.heap[k]? =W4.heap[k]? :=λk h=>by rw [<- b];exact Below.heap_setCell _ _ _ _ h
 have X:W'.heap.size=W4.heap.size:=by rw [<- b];simp [World.setCell]
 have V:W3.heap.size<=g/\g<W4.heap.size:=by
  obtain ⟨_,⟨h,_⟩|⟨g',q,cur,h,l,i,_⟩⟩:=p
  .cases h
  .cases h;exact ⟨l,(Array.getElem?_eq_some_iff.1 i).1⟩
 have m:dI B W W':=by
  refine ⟨by rw [<- b];exact c.os,by rw [<- b];exact c.tape,by rw [<- b];exact c.output,by omega,λk a v e=> ?_,λ_ k J=> ?_⟩
  .obtain ⟨l,i,G,U⟩:=bW.1 e;have R:=oG G;have F:cv.ownBlock ≠ some k:=λe=>i ((qi A).2 e)
   refine bW.2 ⟨l,λE=> ?_,by rw [iY ((r k l).trans (d k R F))];exact G,U⟩;have K:=(qi hcell).1 E;have f:some g=some k:=K;rcases M with h|h
   .exact F (h.symm.trans f)
   .rw [h] at f;simp at f;omega
  .have K:=(qi hcell).1 J;have f:some g=some k:=K;cases f;omega
 rw [b];refine ⟨?_,m,z.keep.trans m,λk J=> ?_,⟨_,hcell,O, ?_⟩,λy s=> ?_⟩
 .rw [<- b];refine ((KeepsOthers.alloc W o).trans (KeepsOthers.of_grownBy c λj ob e S=> ?_)).trans (KeepsOthers.setCell _ _ _);obtain ⟨_,⟨rfl,_⟩|⟨g',q,cur,rfl,l,i,_⟩⟩:=D
  .cases e
  .cases e;have:(W.alloc o).heap[g']? =W.heap[g']? :=Below.heap_alloc _ _ _ (Array.getElem?_eq_some_iff.1 i).1;rw [this,i] at S;cases S;rfl
 .rw [r k (by omega),d k (by omega) (λe=>by have:=(u _ e).1;omega)];exact z.low k J
 .rw [Xq5,ν];obtain ⟨h0,⟨h,_⟩|⟨g',q,cur,h,l,i,G⟩⟩:=p
  .cases h
  .cases h;exact ⟨h0,.inr ⟨g,cap,cur,rfl,l,(r g (by omega)).trans i,G⟩⟩
 .rcases List.mem_append.1 s with s|s
  .exact ⟨(z.els y s).1,aZ m.stl _ (z.els y s).2⟩
  .rw [List.mem_singleton.1 s];exact ⟨L,aZ m.stl _ N⟩
theorem Pg {S:aO}:∀ {xs:List El},(∀ x ∈ xs,PR S (fZ x.v) x.u)->bT S (xs.map λx=>fZ x.v) (xs.map El.u)
 | [],_=>trivial
 |x::r,h=> ⟨h x (by simp),Pg λy a=>h y (by simp [a])⟩
theorem Xt {B:Bx} (S:B.n=B.c) {w W3 W W5 W7:World} {L:List (List Rw × Int)} {b:List El} (E:iV B.S (bf w)) (T:w.heap.size<=B.c) (K:B.c<W3.heap.size) (q:LI B W3 b W) (d:b.map El.p=L) {x:El} (O:b.getLast? =some x) {G:Value} (h5:Below W.heap.size W W5) (D:PR (still B W5) (fZ x.v) G)
  (h7:∀ k o v,B.c<k->bf W5 k o=some v->bf W7 k o=some v) (hbw:Below w.heap.size w W7) {g cap:Nat} (how:W.ownsRow W3.heap.size 43 1 (.slice (some ⟨g,0,none⟩) b.length cap) b.length (b.map El.u)):
  ∃ S',(∀ p ∈ L,p.2=0)/\(∃ p,L.getLast? =some p/\PR S' (fZ p.1) G)/\PR S' (.sl (L.map λp=>fZ p.1) L.length false) (.slice (some ⟨g,0,none⟩) b.length cap)/\qy B.S w S' W7:=by
 have C:B.c<W.heap.size:=υ K q.keep.size;have i:iV (still B W5) λk o=>if k<B.c then B.S k o else bf W7 k o:=by
  intro k o v e;obtain ⟨R,r,s,F⟩:=bW.1 e;show (if k<B.c then B.S k o else bf W7 k o)=some v;split
  .rename_i h;exact F (by omega)
  .exact h7 k o v (by omega) s
 have A:iV (still B W) λk o=>if k<B.c then B.S k o else bf W7 k o:=λk o v e=>i k o v ((dI.below C h5).stl k o v e)
 have z:∀ k o v,B.S k o=some v->k<w.heap.size:=λk o v e=>oG (E k o v e)
 refine ⟨λk o=>if k<B.c then B.S k o else bf W7 k o, ?_,⟨x.p, ?_,aZ i _ D⟩, ?_,⟨?_, ?_, ?_,hbw⟩⟩
 .intro p hp;rw [<- d] at hp;obtain ⟨y,l,rfl⟩:=List.mem_map.1 hp;exact (q.els y l).1
 .rw [<- d,Yqp,O];rfl
 .have J:(L.map λp=>fZ p.1)=b.map λx=>fZ x.v:=by rw [<- d,Xzh];rfl
  have N:L.length=b.length:=by rw [<- d,Xqp]
  rw [J,N];simp only [PR];obtain ⟨_,⟨h,_⟩|⟨g',I,cur,e,R,r,s,F,Q,M⟩⟩:=how
  .cases h
  .cases e;refine ⟨_,_,rfl,s,.inr ⟨g,0,b.map El.u,rfl,Pg λy l=>aZ A _ (q.els y l).2, ?_⟩⟩;intro j u m;have f:u.oneCell'=true:=by
    obtain ⟨y,l,rfl⟩:=List.mem_map.1 (Xqm m);have:=(q.els y l).2;simp only [fZ,PR] at this;obtain ⟨a,c,e,_⟩:=this;rw [e];rfl
   refine ⟨?_,f⟩;show (if g<B.c then B.S g (0+j) else bf W7 g (0+j))=some u;rw [if_neg (by omega)];have t:=(Array.getElem?_eq_some_iff.1 r).1;refine h7 g _ u (by omega) ?_;rw [iY (h5.block g t)];refine iW ?_ f;rw [(bi r (0+j)).1];rw [<- M,List.getElem?_take] at m;split at m
   .rw [Δ];simpa using m
   .cases m
 .intro k o v e;show (if k<B.c then B.S k o else bf W7 k o)=some v;rw [if_pos (by have:=z k o v e;omega)];exact e
 .intro k o v e;have e:(if k<B.c then B.S k o else bf W7 k o)=some v:=e;split at e
  .exact gp hbw k o v (E k o v e)
  .exact e
 .intro k o v e;have e:(if k<B.c then B.S k o else bf W7 k o)=some v:=e;split at e
  .exact .inl e
  .exact .inr (by omega)
attribute [local go_sem] Oper.semAt_some
theorem WJ {w W0 W1:World} {x y z:Value} (c:Below W0.heap.size W0 W1) (d:W0.heap.size=w.heap.size+4) (h:W0.heap[w.heap.size]? =some (.cells #[x,y,z] 37)):
  ∃ W2,W1.alloc (.cells #[.slice none 0 0] 47)=W2/\Below W1.heap.size W1 W2/\W2.cell? ⟨w.heap.size,0,none⟩=some x/\W2.cell? ⟨w.heap.size,1,none⟩=some y/\W2.cell? ⟨w.heap.size,2,none⟩=some z:=by
 have a:Below W1.heap.size W1 (W1.alloc (.cells #[.slice none 0 0] 47)):=(Below.refl _ W1).alloc (κ _) _;have b:=(a.block w.heap.size (by have:=c.size;omega)).trans ((c.block w.heap.size (by omega)).trans h);exact ⟨_,rfl,a,(bi b 0).1,(bi b 1).1,(bi b 2).1⟩
theorem Lj {W:World} {base e k:Nat} {v:Value} {c:List Value} (h:W.ownsRow base e 1 v (k+1) c):∃ g cap,v= .slice (some ⟨g,0,none⟩) (k+1) cap/\base<=g/\g<W.heap.size:=by
 obtain ⟨_,⟨_,h⟩|⟨g,cap,cur,rfl,a,b,_⟩⟩:=h
 .omega
 .exact ⟨g,cap,rfl,a,(Array.getElem?_eq_some_iff.1 b).1⟩
theorem sZ.inv {F:List Rw->Int ⊕ List Rw} {v:List Rw} {L:List (List Rw × Int)} (h:sZ F v L) {b:AV} {m:Nat} {inv:List Rw->Prop} (c:zY b m F inv) (a:inv v):∀ p ∈ L,inv p.1:=by
 induction h with
 |err h1=>intro p hp;rw [List.mem_singleton.1 hp];exact a
 |fix h1=>intro p hp;rw [List.mem_singleton.1 hp];exact a
 |step h1 h2 h3 ih=>
  intro p hp;rcases List.mem_cons.1 hp with rfl|hp
  .exact a
  .exact ih (c.nx _ _ a h1) p hp
theorem Gx {S:aO} {v:List Rw} {b:Bool} {u:Value} (h:jB S (.sl (dF v) v.length b) u):∃ a c,u= .slice a v.length c:=by
 simp only [jB,PR] at h;obtain ⟨a,c,e,_⟩:=h;exact ⟨a,c,e⟩
theorem Ya {W:World} {k l:Nat} {y:Value} (h:k ≠ l):(W.setCell ⟨l,0,none⟩ y).cell? ⟨k,0,none⟩=W.cell? ⟨k,0,none⟩:=World.cell?_setCell_other _ _ _ _ (by simp [h])
def aml (P:Act->World->Prop):Exit->Act->World->Prop
 | .normal,a,w=>P a w
 |_,_,_=>False
def Wu (L:List (List Rw × Int)) (S:aO) (w:World) (e:Ending) (w':World):Prop:=
 (∃ u ch S',e= .returned (.tuple #[u,ch,.int .i64 0])/\(∀ p ∈ L,p.2=0)/\(∃ p,L.getLast? =some p/\PR S' (fZ p.1) u)/\PR S' (.sl (L.map λp=>fZ p.1) L.length false) ch/\qy S w S' w')\/
 ∃ q pv pe,q++ [(pv,pe)]<+:L/\pe ≠ 0/\e= .returned (.tuple #[.slice none 0 0,.slice none 0 0,.int .i64 pe])/\qy S w S w'
theorem abe {W:World} {k:Nat} {v:Value} (h:W.cell? ⟨k,0,none⟩=some v):∀ j u,[v][j]? =some u->W.cell? ((⟨k,0,none⟩:Addr).add j)=some u:=by
 intro j u a;cases j with
 |zero=>cases a;exact h
 |succ j=>simp at a
theorem OY {S:aO} {w W0 W1 W2 W3:World} {f:Value} {m:Int} (D:f.oneCell'=true) {a b c d:Array Value} {ta tb tc td:TypeId} (q:iV S (bf w)) (l:Below w.heap.size w W0) (A:W0.heap.size=w.heap.size+4) (B:Below W0.heap.size W0 W1) (j:W1.alloc (.cells #[.slice none 0 0] 47)=W2) (g:(W2.alloc (.cells #[.int .i64 m] 3)).alloc (.cells #[f] 144)=W3) (u:w.heap.size<=W1.heap.size):
  W3.heap.size=W1.heap.size+3/\Below W1.heap.size W1 W3/\W3.cell? ⟨W1.heap.size,0,none⟩=some (.slice none 0 0)/\W3.frozen? ⟨W1.heap.size,0,none⟩=false/\(∀ k,¬ gK W3 ⟨S,W1.heap.size,W1.heap.size,κ _⟩ k)/\iV S (still ⟨S,W1.heap.size,W1.heap.size,κ _⟩ W3)/\still ⟨S,W1.heap.size,W1.heap.size,κ _⟩ W3 W2.heap.size 0=some (.int .i64 m)/\still ⟨S,W1.heap.size,W1.heap.size,κ _⟩ W3 (W2.heap.size+1) 0=some f/\W2.heap.size=W1.heap.size+1:=by
 have C:W2.heap.size=W1.heap.size+1:=by rw [<- j];simp
 have z:W3.heap.size=W1.heap.size+3:=by rw [<- g];simp;omega
 have r:Below W1.heap.size W1 W3:=by
  rw [<- g];refine Below.alloc (Below.alloc ?_ (by omega) _) (by simp;omega) _;rw [<- j];exact (Below.refl _ W1).alloc (κ _) _
 have p:W3.heap[W1.heap.size]? =some (.cells #[.slice none 0 0] 47):=by
  rw [<- g,Below.heap_alloc _ _ _ (by simp;omega),Below.heap_alloc _ _ _ (by omega),<- j];exact World.alloc_heap_new W1 _
 have s:W3.heap[W2.heap.size]? =some (.cells #[.int .i64 m] 3):=by
  rw [<- g,Below.heap_alloc _ _ _ (by simp)];exact World.alloc_heap_new W2 _
 have t:W3.heap[W2.heap.size+1]? =some (.cells #[f] 144):=by
  have:=World.alloc_heap_new (W2.alloc (.cells #[.int .i64 m] 3)) (.cells #[f] 144);rw [World.size_alloc] at this;rw [<- g];exact this
 have i:∀ k,¬ gK W3 ⟨S,W1.heap.size,W1.heap.size,κ _⟩ k:=by
  rintro k ⟨ad,x,y,h,_⟩
  have:=(bi p 0).1;rw [show W3.cell? ⟨W1.heap.size,0,none⟩=_ from h] at this;simp at this
 refine ⟨z,r,(bi p 0).1,(bi p 0).2,i, ?_, ?_, ?_,C⟩
 .intro k o v e;have E:k<w.heap.size:=oG (q k o v e);refine bW.2 ⟨by show k ≠ W1.heap.size;omega,i k, ?_,λ_=>e⟩;exact gp (l.trans ((B.mono (by omega)).trans (r.mono u))) k o v (q k o v e)
 .exact bW.2 ⟨by show W2.heap.size ≠ W1.heap.size;omega,i _,iW ((bi s 0).1) rfl,λh=>by have:W2.heap.size<W1.heap.size:=h;omega⟩
 .exact bW.2 ⟨by show W2.heap.size+1 ≠ W1.heap.size;omega,i _,iW ((bi t 0).1) D,λh=>by have:W2.heap.size+1<W1.heap.size:=h;omega⟩
set_option maxRecDepth 100000 in
set_option maxHeartbeats 1000000 in
theorem Xu (es:List a_) (ss:List (List Lk)) (ne ns:Bool) (hck:CO 33 [kS es ss ne ns] (.ret (.int .i64 0))) (hm:es.length<=60) (hm0:es.length ≠ 0) {F:List Rw->Int ⊕ List Rw} {inv:List Rw->Prop} (hN:zY (kS es ss ne ns) es.length F inv) {L:List (List Rw × Int)} (hL:sZ F (ζ es.length (wQ q0)) L) (hi0:inv (ζ es.length (wQ q0))) (hLL:L.length<=1048576)
  (S:aO) (w:World) (a0:Option Addr) (p0:Nat) (v1 v2:Value) (hS:iV S (bf w)) (hg:dY ap S) (hv:PR S (kS es ss ne ns) (.agg #[.slice a0 es.length p0,v1,v2])) (n:Nat) (hn:4<=n):
  CallsIn Fence.wide n prog 23 #[.agg #[.slice a0 es.length p0,v1,v2]] w (Wu L S w):=by
 have hf33:Fence.wide.fn 33:=trivial;have hf44:Fence.wide.fn 44:=trivial;have h1n:1<=n:=by omega
 obtain ⟨W0,hW0⟩:∃ W0,(((w.alloc (.cells #[.slice a0 es.length p0,v1,v2] 37)).alloc (.cells #[.slice none 0 0] 43)).alloc (.cells #[.slice none 0 0] 47)).alloc (.cells #[.int .i64 0] 48)=W0:=⟨_,rfl⟩
 obtain ⟨hb0,hz0,a1,a2,a3,a4⟩:=Y1 hW0;have hS0:iV S (bf W0):=λk o v h=>gp hb0 k o v (hS k o v h)
 have e0:W0.cell? ⟨w.heap.size,0,none⟩=some (.slice a0 es.length p0):=(bi a1 0).1;have e1:W0.cell? ⟨w.heap.size,1,none⟩=some v1:=(bi a1 1).1;have e2:W0.cell? ⟨w.heap.size,2,none⟩=some v2:=(bi a1 2).1;refine callsIn_of_wp_marks Tryz.func23 rfl trivial ?_ rfl;simp only [Tryz.ntmps23,Xxh,ο,Xqa,Xzd,Xze,Array.replicate_succ,Array.replicate_zero,Xjd,Xx0,Xqc,Xqt]
 gi_wp2_with (first
  |(gi_at_call 33;refine (O1 hck rfl (S:=S) (W:=W0) hS0 hg (by simp only [bT];exact ⟨hv,trivial⟩)).mono ?_;rintro e W1 ⟨S1,cv,rfl,hr1,ha1⟩;simp only [jB,PR] at hr1;subst hr1;obtain ⟨W2,hW2,hb2,c10,c11,c12⟩:=WJ ha1.bel hz0 a1)
  |(gi_at_call 44;refine (LG _ _ _ _).mono ?_;rintro e W3 ⟨rfl,rfl⟩)
  |gi_in)
 have hl:w.heap.size<=W1.heap.size:=by have:=ha1.bel.size;omega
 obtain ⟨W3,hW3⟩:∃ W3,(W2.alloc (.cells #[.int .i64 (es.length:Int)] 3)).alloc (.cells #[.func (.func 41) #[.agg #[.slice a0 es.length p0,v1,v2]] #[]] 144)=W3:=⟨_,rfl⟩
 obtain ⟨z3,hb13,kc,kf,nb,hSs,s1,s2,z2⟩:=OY (a:=#[]) (b:=#[]) (c:=#[]) (d:=#[]) (ta:=0) (tb:=0) (tc:=0) (td:=0) rfl hS hb0 hz0 ha1.bel hW2 hW3 hl;rw [hW3];have hcW:(⟨S,W1.heap.size,W1.heap.size,κ _⟩:Bx).c<W3.heap.size:=by show W1.heap.size<_;omega
 have hg3:dY ap (still ⟨S,W1.heap.size,W1.heap.size,κ _⟩ W3):=by
  intro k xs hk;obtain ⟨vs,h1,h2⟩:=hg k xs hk;exact ⟨vs,bD hSs _ h1,λj u hu=> ⟨hSs _ _ _ (h2 j u hu).1,(h2 j u hu).2⟩⟩
 refine Lr h1n (gf:=81) (lb:=#[.pointer (some ⟨W2.heap.size,0,none⟩),.pointer (some ⟨W2.heap.size+1,0,none⟩)]) rfl (enters_of Tryz.func81 (by kernel_rfl) rfl)
  (yj (n - 1) (by omega) W2.heap.size (W2.heap.size+1) ⟨S,W1.heap.size,W1.heap.size,κ _⟩ es.length hm hN hL hi0 W3 hcW s1 s2 (aZ hSs _ hv) hg3 (λk h=>absurd h (nb k))) (λ_=>rfl)
  (LI ⟨S,W1.heap.size,W1.heap.size,κ _⟩ W3) (LX w W3) (LI.own hcW) (LX.own (by omega)) (elG.own hcW) (λ_ _ _ _ h _ _=>h) (λ_ _ _ _ h _ _=>h) (λh k=>h.trans k)
  (λW l o o' hlW h1 h2 h3=>dI.put W l o o' h1 h2 h3 (by have:W1.heap.size<_:=hcW;show W1.heap.size ≠ l;omega))
  ⟨dI.refl _ _,λ_ _=>rfl,⟨_,kc,kf,World.ownsRow_nil _ _ _ _⟩,λx hx=>by cases hx⟩
  (λx=> {tmps:=#[.agg #[.slice a0 es.length p0,v1,v2],.pointer (some ⟨w.heap.size,0,none⟩),.pointer (some ⟨w.heap.size+1,0,none⟩),.pointer (some ⟨w.heap.size+1+1,0,none⟩),.pointer (some ⟨w.heap.size+1+1+1,0,none⟩),.int .i64 0,.pointer (some ⟨W1.heap.size,0,none⟩),x.u,.int .i64 x.e,.agg #[.slice a0 es.length p0,v1,v2],.int .i64 0,.int .i64 0,.bool false,undef,.pointer (some ⟨w.heap.size,0,none⟩),.slice a0 es.length p0,.int .i64 es.length,.agg #[.slice a0 es.length p0,v1,v2],.agg #[.slice a0 es.length p0,v1,v2],.func (.func 41) #[.agg #[.slice a0 es.length p0,v1,v2]] #[],.func (.func 81) #[] #[.pointer (some ⟨W2.heap.size,0,none⟩),.pointer (some ⟨W2.heap.size+1,0,none⟩)],x.u,.int .i64 x.e,undef,undef,undef,undef,undef,undef,undef,undef,undef,undef,undef,undef,undef,undef,undef],defers:= []}) ?assign ?body ?done ?stop
 case assign=>
  intro l x W K hK;clear z2 z3
  gi_wp2
  exact hK
 case body=>
  rintro l pre ⟨xv,xe,xu⟩ W ⟨hk,hlow,⟨cv,hcv,hcf,how⟩,hels⟩ ⟨hcw,hpx,hpre⟩
  have hcw2:W1.heap.size<W.heap.size:=hcw;have hlen:pre.length<=1048576:=by
   have:=hpre.length_le;simp at this;omega
  have hpx0:PR (still ⟨S,W1.heap.size,W1.heap.size,κ _⟩ W) (fZ xv) xu:=hpx;simp only [fZ,PR] at hpx;obtain ⟨ad,cp,rfl,_⟩:=hpx;by_cases hx:xe=0
  .subst hx;obtain ⟨i43,h43,z43,s43,b43⟩:=ap3;have hI:LI ⟨S,W1.heap.size,W1.heap.size,κ _⟩ W3 pre W:=⟨hk,hlow,⟨cv,hcv,hcf,how⟩,hels⟩
   have hal:=(bi (World.alloc_heap_new W (.cells #[.slice ad xv.length cp] 43)) 0).1;have hca:(W.alloc (.cells #[.slice ad xv.length cp] 43)).heap[W1.heap.size]? =W.heap[W1.heap.size]? :=Below.heap_alloc _ _ _ hcw;have hob:cv.ownBlock ≠ some W1.heap.size:=λe=>by have:=(how.lt _ e).1;omega
   gi_wp2_with (gi_at_builtin;refine wpListIn_append_own_at _ rfl _ _ _ rfl W3.heap.size 43 i43 (.slice none 0 0) 1 24 (by kernel_rfl) h43 z43 s43 b43 rfl (by omega) cv pre.length (pre.map El.u) rfl (how.alloc _) ⟨W.heap.size,0,none⟩ 1 1 [.slice ad xv.length cp] rfl rfl (abe hal) (by rintro u hu;rw [List.mem_singleton.1 hu];rfl) (by simp [maxLen];omega) (by omega) (by have:=hk.size;simp;omega) ?_;rintro v' W4 hown4 hgr4 _ hat;obtain ⟨g,cap,rfl,hg4,hgl⟩:=Lj hown4;have hc4:W4.heap[W1.heap.size]? =W.heap[W1.heap.size]? :=(hgr4.block _ (by simp;omega) (λe=>hob e.symm)).trans hca;have hcc4:=(World.cell?_of_block (a:=⟨W1.heap.size,0,none⟩) hc4).trans hcv;have hcf4:=(World.frozen?_of_block (a:=⟨W1.heap.size,0,none⟩) hc4).trans hcf)
   exact RI (B:=⟨S,W1.heap.size,W1.heap.size,κ _⟩) hI hcW hcv hcf how rfl hpx0 hgr4 hown4 hat
  .have hxd:decide (xe=0)=false:=Yq1 hx;have hh:∀ k,k<W0.heap.size->W.heap[k]? =W0.heap[k]? :=λk h=>(hlow k (by show k<W1.heap.size;have:=ha1.bel.size;omega)).trans ((hb13.block k (by have:=ha1.bel.size;omega)).trans (ha1.bel.block k h))
   have b2:=bi ((hh (w.heap.size+1) (by omega)).trans a2) 0;have b3:=bi ((hh (w.heap.size+1+1) (by omega)).trans a3) 0;have b4:=bi ((hh (w.heap.size+1+1+1) (by omega)).trans a4) 0;obtain ⟨c2,d2⟩:=b2;obtain ⟨c3,d3⟩:=b3;obtain ⟨c4,d4⟩:=b4;simp only [Xzl,Xxb] at c2 c3 c4;have hbW:Below w.heap.size w W:=hb0.trans ⟨hk.os.trans (hb13.os.trans ha1.bel.os),hk.tape.trans (hb13.tape.trans ha1.bel.tape),hk.output.trans (hb13.output.trans ha1.bel.output),by have:=ha1.bel.size;omega,λk h=>hh k (by omega)⟩
   gi_wp2
   obtain ⟨x1,x2,x3⟩:=ab2 (W:=W) (a:=w.heap.size+1) (b:=w.heap.size+1+1) (c:=w.heap.size+1+1+1) (u:= .slice none 0 0) (v:= .slice none 0 0) (x:= .int .i64 xe) (by omega) (by omega) (by omega) (by rw [c2];rfl) (by rw [c3];rfl) (by rw [c4];rfl);refine ⟨((KeepsOthers.setCell _ _ _).trans (KeepsOthers.setCell _ _ _)).trans (KeepsOthers.setCell _ _ _),rfl,⟨pre,_,rfl,hx,x1,x2,x3⟩, ?_⟩;exact (((hbW.setCell (p:=⟨w.heap.size+1,0,none⟩) (by show w.heap.size<=w.heap.size+1;omega) _).setCell (p:=⟨w.heap.size+1+1,0,none⟩) (by show w.heap.size<=w.heap.size+1+1;omega) _).setCell (p:=⟨w.heap.size+1+1+1,0,none⟩) (by show w.heap.size<=w.heap.size+1+1+1;omega) _)
 case done=>
  rintro D xs W hD hxs ⟨hk,hlow,⟨cv,hcv,hcf,how⟩,hels⟩ hK
  obtain ⟨x,hx⟩:∃ x,xs.getLast? =some x:=by
   cases h:xs.getLast? with
   |some x=>exact ⟨x,rfl⟩
   |none=>
    rw [Xv2] at h;subst h;rw [<- hxs] at hL;cases hL
  obtain ⟨ys,rfl⟩:=List.getLast?_eq_some_iff.1 hx;obtain ⟨xv,xe,xu⟩:=x;rw [ν,Θ] at how;obtain ⟨g,cap,rfl,hg1,hg2⟩:=Lj how;have hxe:=(hels ⟨xv,xe,xu⟩ (by simp)).2;have hxm:(xv,xe) ∈ L:=by rw [<- hxs];simp
  have hxl:xv.length=es.length:=hN.len _ (hL.inv hN hi0 _ hxm);have hx1:PR (still ⟨S,W1.heap.size,W1.heap.size,κ _⟩ W) (.sl (dF xv) xv.length true) xu:=by
   simp only [fZ,PR] at hxe ⊢;obtain ⟨a,cp,e,h1,h2⟩:=hxe;refine ⟨a,cp,e,h1, ?_⟩;rcases h2 with ⟨_,_,h,_⟩|h
   .omega
   .exact .inr h
  have hce:W.cell? ⟨g,ys.length,none⟩=some xu:=by
   have:=how.cells rfl ys.length xu (by simp);unfold Addr.add at this;split at this
   .rename_i h0;have:ys.length=0:=by simpa using h0
    rw [this];assumption
   .simpa using this
  have hcl:=YA xv (by omega);have hf53:Fence.wide.fn 53:=trivial;have hcW2:W1.heap.size<W.heap.size:=by have:=hk.size;omega
  have hyl:ys.length<=1048576:=by
   have:(ys++ [(⟨xv,xe,xu⟩:El)]).length=L.length:=by rw [<- hxs,Xqp]
   simp at this;omega
  have hwr0:IntKind.i64.wrap (ys.length:Int)=(ys.length:Int):=by rw [Xkk];omega
  have hwr1:IntKind.i64.wrap ((ys.length:Int)+1 - 1)=(ys.length:Int):=by rw [Xkk];omega
  have hwr2:IntKind.i64.wrap (((ys.length+1:Nat):Int) - 1)=(ys.length:Int):=by rw [Xkk];omega
  have hix1:(ys.length:Int)<((ys.length+1:Nat):Int):=by omega
  have hix2:(ys.length:Int)<(ys.length:Int)+1:=by omega
  gi_wp2
  have hst:still ⟨S,W1.heap.size,W1.heap.size,κ _⟩ W.drew=still ⟨S,W1.heap.size,W1.heap.size,κ _⟩ W:=rfl;have hx2:PR (still ⟨S,W1.heap.size,W1.heap.size,κ _⟩ W.drew) (.sl (dF xv) xv.length true) xu:=by rw [hst];exact hx1
  have hgd:dY ap (still ⟨S,W1.heap.size,W1.heap.size,κ _⟩ W.drew):=by rw [hst];exact hk.glob hg3
  have hbd:∀ k,gK W.drew ⟨S,W1.heap.size,W1.heap.size,κ _⟩ k->k<W.drew.heap.size:=hk.back (λk h=>absurd h (nb k));have hcd:(⟨S,W1.heap.size,W1.heap.size,κ _⟩:Bx).c<W.drew.heap.size:=hcW2;have hh:∀ k,k<W0.heap.size->W.heap[k]? =W0.heap[k]? :=λk h=>(hlow k (by show k<W1.heap.size;have:=ha1.bel.size;omega)).trans ((hb13.block k (by have:=ha1.bel.size;omega)).trans (ha1.bel.block k h))
  have hl1:w.heap.size+4<=W1.heap.size:=by have:=ha1.bel.size;omega
  have hl0:W0.heap.size<=W.heap.size:=by have:=ha1.bel.size;omega
  refine wpIn_mono (Q:=aml λa W6=>(a.tmps.getD 2 undef= .pointer (some ⟨w.heap.size+1,0,none⟩)/\a.tmps.getD 3 undef= .pointer (some ⟨w.heap.size+1+1,0,none⟩)/\a.tmps.getD 4 undef= .pointer (some ⟨w.heap.size+1+1+1,0,none⟩)/\a.defers= [{target:= .collected D,args:=#[]}])/\∃ uc W5,jB (still ⟨S,W1.heap.size,W1.heap.size,κ _⟩ W5) (.sl (dF xv) xv.length true) uc/\Below W.drew.heap.size W.drew W5/\W6=(((W5.setCell ⟨w.heap.size+1,0,none⟩ uc).setCell ⟨w.heap.size+1+1,0,none⟩ (.slice (some ⟨g,0,none⟩) (ys.length+1) cap)).setCell ⟨w.heap.size+1+1+1,0,none⟩ (.int .i64 0))) ?_ ?_
  rotate_left
  .intro e a W6 h;cases e with
   | normal=>
    obtain ⟨⟨t2,t3,t4,td⟩,uc,W5,hr5,hb5,rfl⟩:=h;obtain ⟨tm,df⟩:=a;simp only at t2 t3 t4 td;subst td;have hb5':Below W.heap.size W W5:=⟨hb5.os,hb5.tape,hb5.output,hb5.size,hb5.block⟩
    have hD1:D<W.heap.size:=(Array.getElem?_eq_some_iff.1 hK).1;obtain ⟨W6,hW6⟩:∃ W6,((W5.setCell ⟨w.heap.size+1,0,none⟩ uc).setCell ⟨w.heap.size+1+1,0,none⟩ (.slice (some ⟨g,0,none⟩) (ys.length+1) cap)).setCell ⟨w.heap.size+1+1+1,0,none⟩ (.int .i64 0)=W6:=⟨_,rfl⟩
    have h6:∀ k,w.heap.size+4<=k->W6.heap[k]? =W5.heap[k]? :=λk hk=>by rw [<- hW6,Below.heap_setCell _ _ _ _ (by show k ≠ w.heap.size+1+1+1;omega),Below.heap_setCell _ _ _ _ (by show k ≠ w.heap.size+1+1;omega),Below.heap_setCell _ _ _ _ (by show k ≠ w.heap.size+1;omega)]
    have hK6:W6.heap[D]? =some (.deferred (some [])):=(h6 D (by omega)).trans ((hb5'.block D hD1).trans hK);have b2:=bi ((hb5'.block (w.heap.size+1) (by omega)).trans ((hh (w.heap.size+1) (by omega)).trans a2)) 0;have b3:=bi ((hb5'.block (w.heap.size+1+1) (by omega)).trans ((hh (w.heap.size+1+1) (by omega)).trans a3)) 0;have b4:=bi ((hb5'.block (w.heap.size+1+1+1) (by omega)).trans ((hh (w.heap.size+1+1+1) (by omega)).trans a4)) 0;obtain ⟨x1,x2,x3⟩:=ab2 (W:=W5) (a:=w.heap.size+1) (b:=w.heap.size+1+1) (c:=w.heap.size+1+1+1) (u:=uc) (v:= .slice (some ⟨g,0,none⟩) (ys.length+1) cap) (x:= .int .i64 0) (by omega) (by omega) (by omega) (by rw [b2.1];rfl) (by rw [b3.1];rfl) (by rw [b4.1];rfl);rw [hW6] at x1 x2 x3 ⊢;clear hx1 hx2 hwr0 hwr1 hwr2 hix1 hix2
    gi_wp2
    have hbWW:Below w.heap.size w W:=hb0.trans ⟨hk.os.trans (hb13.os.trans ha1.bel.os),hk.tape.trans (hb13.tape.trans ha1.bel.tape),hk.output.trans (hb13.output.trans ha1.bel.output),by have:=ha1.bel.size;omega,λk h=>hh k (by omega)⟩;have hb56:Below w.heap.size W5 W6:=by
     rw [<- hW6];exact (((Below.refl _ W5).setCell (p:=⟨w.heap.size+1,0,none⟩) (by show w.heap.size<=w.heap.size+1;omega) _).setCell (p:=⟨w.heap.size+1+1,0,none⟩) (by show w.heap.size<=w.heap.size+1+1;omega) _).setCell (p:=⟨w.heap.size+1+1+1,0,none⟩) (by show w.heap.size<=w.heap.size+1+1+1;omega) _
    have hbw6:Below w.heap.size w W6:=(hbWW.trans (hb5'.mono (by omega))).trans hb56;refine ⟨by simp,.inl ⟨_,_,rfl,run_takeDeferred hK6, ?_⟩⟩;have oC:∀ k v,k<W3.heap.size->W6.cell? ⟨k,0,none⟩=some v->(W6.putObj D (.deferred none)).cell? ⟨k,0,none⟩=some v:=λk v h hv=>(World.cell?_of_block (World.putObj_heap_other (show k ≠ D by omega))).trans hv
    have h7:∀ k o v,W1.heap.size<k->bf W5 k o=some v->bf (W6.putObj D (.deferred none)) k o=some v:=by
     intro k o v h e;have hkD:k ≠ D:=by
      rintro rfl
      unfold bf at e;rw [(hb5'.block k hD1).trans hK] at e;simp [World.cell?,(hb5'.block k hD1).trans hK] at e
     rw [iY (World.putObj_heap_other hkD),iY (h6 k (by omega))];exact e
    have hbw7:Below w.heap.size w (W6.putObj D (.deferred none)):=hbw6.trans ((Below.refl _ W6).grown (grownBy_putObj' W6 D _) hbw6.size (λk e=>by cases e;omega));have hr5':PR (still ⟨S,W1.heap.size,W1.heap.size,κ _⟩ W5) (fZ xv) uc:=by
     simp only [jB,PR] at hr5;simp only [fZ,PR];obtain ⟨a,cp,e,h1,h2⟩:=hr5;refine ⟨a,cp,e,h1, ?_⟩;rcases h2 with ⟨_,h⟩|h
     .exact .inl ⟨by simp,h⟩
     .exact .inr h
    have hzl:(ys++ [(⟨xv,xe,xu⟩:El)]).length=ys.length+1:=by simp
    obtain ⟨S',q1,q2,q3,q4⟩:=Xt (B:=⟨S,W1.heap.size,W1.heap.size,κ _⟩) (x:=⟨xv,xe,xu⟩) (g:=g) (cap:=cap) rfl hS hl hcW ⟨hk,hlow,⟨_,hcv,hcf,by rw [hzl];exact how⟩,hels⟩ hxs hx hb5' hr5' h7 hbw7 (by rw [hzl];exact how);rw [hzl] at q3;exact ⟨_,abu t2 t3 t4 (oC _ _ (by omega) x1) (oC _ _ (by omega) x2) (oC _ _ (by omega) x3),.inl ⟨_,_,S',rfl,q1,q2,q3,q4⟩⟩
   |_=>exact h.elim
  gi_region_with (gi_at_call 53;refine (kM hcl rfl hcd hbd hgd (by simp only [bT];exact ⟨hx2,trivial⟩)).mono ?_;rintro ee W5 ⟨uc,rfl,hr5,hb5⟩;obtain ⟨au,cu,rfl⟩:=Gx hr5;have b2:=bi ((hb5.block (w.heap.size+1) (by show w.heap.size+1<W.heap.size;omega)).trans ((hh (w.heap.size+1) (by omega)).trans a2)) 0;have b3:=bi ((hb5.block (w.heap.size+1+1) (by show w.heap.size+1+1<W.heap.size;omega)).trans ((hh (w.heap.size+1+1) (by omega)).trans a3)) 0;have b4:=bi ((hb5.block (w.heap.size+1+1+1) (by show w.heap.size+1+1+1<W.heap.size;omega)).trans ((hh (w.heap.size+1+1+1) (by omega)).trans a4)) 0;have c2:=b2.1;have c3:=b3.1;have c4:=b4.1;have d2:=b2.2;have d3:=b3.2;have d4:=b4.2;clear b2 b3 b4;simp only [Xzl,Xxb] at c2 c3 c4;have c5:=(World.cell?_of_block (a:=⟨W1.heap.size,0,none⟩) (hb5.block W1.heap.size hcd)).trans hcv;have c6:=(Ya (W:=W5) (k:=W1.heap.size) (l:=w.heap.size+1) (y:= .slice au xv.length cu) (by omega)).trans c5)
  all_goals exact ⟨⟨rfl,rfl,rfl,rfl⟩,_,_,by rw [hxl];rw [hxl] at hr5;exact hr5,by exact hb5,rfl⟩
 case stop=>
  rintro D c pre W hD hSp ⟨rfl,⟨p,x,rfl,hx,x1,x2,x3⟩,hbW⟩ hK
  gi_wp2
  refine ⟨by simp,.inl ⟨_,_,rfl,run_takeDeferred hK, ?_⟩⟩;have hl3:w.heap.size+4<=W3.heap.size:=by have:=ha1.bel.size;omega
  have oC:∀ k v,k<W3.heap.size->W.cell? ⟨k,0,none⟩=some v->(W.putObj D (.deferred none)).cell? ⟨k,0,none⟩=some v:=λk v h hv=>(World.cell?_of_block (World.putObj_heap_other (show k ≠ D by omega))).trans hv
  refine ⟨_,abu rfl rfl rfl (oC _ _ (by omega) x1) (oC _ _ (by omega) x2) (oC _ _ (by omega) x3),.inr ⟨p.map El.p,x.v,x.e,by simpa using hSp,hx,rfl,qF hS (hbW.trans ((Below.refl _ W).grown (grownBy_putObj' W D _) hbW.size (λk e=>by cases e;omega)))⟩⟩
theorem afo {o:Oq} {x:a_} {w:Rw} (b:x.sm) (h:zn o x= .inr w):w.sm:=by
 unfold zn at h;split at h
 .cases h
 .split at h
  .cases h;have:=fC (q:=q0) (by kernel_rfl);exact ⟨χ this.1 (by omega),χ this.2 (by omega)⟩
  .split at h
   .cases h;exact b.cp
   .split at h
    .rename_i q _ _ a;cases h;have:=fC a;exact ⟨χ this.1 (by omega),χ this.2 (by omega)⟩
    .cases h
theorem afn {o:Oq} {x:a_} {e:Int} (a:o.ok) (h:zn o x= .inl e):e ≠ 0:=by
 unfold zn at h;split at h
 .cases h;exact a
 .split at h
  .cases h
  .split at h
   .cases h
   .split at h
    .cases h
    .cases h;decide
theorem CJ {EL:List (List Lk)}:∀ {es:List a_} {w:List Rw},(∀ x ∈ es,x.sm)->qf EL es= .inr w->∀ y ∈ w,y.sm
 | [],w,_,h=>by cases h;intro y b;cases b
 | x::r,w,hx,h=>by
  unfold qf at h;split at h
  .cases h
  .rename_i a c;split at h
   .cases h
   .rename_i l e;cases h;intro y b;rcases List.mem_cons.1 b with rfl|b
    .exact afo (hx x (by simp)) c
    .exact CJ (λz d=>hx z (by simp [d])) e y b
theorem vZ {EL:List (List Lk)}:∀ {es:List a_} {e:Int},qf EL es= .inl e->e ≠ 0
 | [],e,h=>by cases h
 | x::r,e,h=>by
  unfold qf at h;split at h
  .rename_i a b;cases h;exact afn (xI _ _) b
  .rename_i a b;split at h
   .rename_i l c;cases h;exact vZ c
   .cases h
structure lZ (es:List a_) (ss:List (List Lk)):Prop where
 len:es.length<2^39
 sm:∀ x ∈ es,x.sm
 ls:∀ l ∈ ss,l.length<2^39
 lk:∀ l ∈ ss,∀ x ∈ l,x.a.length<2^36/\x.d.length<2^36
theorem lZ.env {es:List a_} {ss:List (List Lk)} (h:lZ es ss) {v:List Rw} (d:∀ y ∈ v,y.sm) (i:Nat):jA.sm ⟨rD es v ss i,[]⟩:=by
 have e:(ss.getD i []).length<2^39/\∀ x ∈ ss.getD i [],x.a.length<2^36/\x.d.length<2^36:=by
  rw [ξ];cases b:ss[i]? with
  |none=>exact ⟨by decide,λx a=>by cases a⟩
  |some l=>exact ⟨h.ls l (Xqm b),h.lk l (Xqm b)⟩
 have c:=h.len;refine ⟨?_,(by show 0<2^40;decide), ?_,rfl⟩
 .show (rD es v ss i).length<_;unfold rD;rw [ν,Xqp,List.length_zip];omega
 .intro x a;have a:x ∈ rD es v ss i:=a;unfold rD at a;rcases List.mem_append.1 a with a|a
  .obtain ⟨⟨q,y⟩,hp,rfl⟩:=List.mem_map.1 a;have:=d y (List.of_mem_zip hp).2;unfold Rw.sm at this;refine ⟨?_, ?_⟩
   .show y.a.length<_;omega
   .show y.d.length<_;omega
  .exact e.2 x a
def Ir:Int ⊕ List (List Rw)->AV
 | .inl e=> .tup [.nilS,.nilS,.int .i64 e]
 | .inr c=> .tup [fZ (c.getLast?.getD []),.sl (vw c) c.length false,.int .i64 0]
def Dt (ss:List (List Lk)) (es:List a_) (r:Int ⊕ List (List Rw)):Prop:=(wV ss.length es ≠ 0/\r= .inl (wV ss.length es))\/(wV ss.length es=0/\Kr (rf ss es) (tX es) r)
theorem Qx {F:List Rw->Int ⊕ List Rw} (g:∀ v e,F v= .inl e->e ≠ 0) {v:List Rw} {r:Int ⊕ List (List Rw)} (h:Kr F v r):∃ L,sZ F v L/\match r with
  | .inl e=> ∃ q b,L=q++ [(b,e)]/\(∀ p ∈ q,p.2=0)/\e ≠ 0
  | .inr c=>L=c.map (λv=>(v,0))/\c ≠ []:=by
 induction h with
 |err h1=>exact ⟨_,.err h1,[],_,rfl,(λp hp=>by cases hp),g _ _ h1⟩
 |fix h1=>exact ⟨_,.fix h1,rfl,by simp⟩
 |stepE h1 hn _ ih=>
  obtain ⟨L,a,q,b,rfl,d,f⟩:=ih;exact ⟨_,.step h1 hn a,_::q,b,rfl,(λp hp=>(List.mem_cons.1 hp).elim (λe=>by rw [e]) (d p)),f⟩
 |stepC h1 hn _ ih=>
  obtain ⟨L,a,rfl,d⟩:=ih;exact ⟨_,.step h1 hn a,rfl,by simp⟩
theorem sZ.tail {F:List Rw->Int ⊕ List Rw} {v:List Rw} {L q:List (List Rw × Int)} {d:List Rw} {c:Int} (h:sZ F v L) (hp:q++ [(d,c)]<+:L) (e:c ≠ 0):L=q++ [(d,c)]:=by
 induction h generalizing q with
 |err h1=>
  cases q with
  |nil=>obtain ⟨r,b⟩:=hp;simp at b;obtain ⟨b,_⟩:=b;rw [b.1,b.2];rfl
  |cons a q=>have:=hp.length_le;simp at this
 |fix h1=>
  cases q with
  |nil=>obtain ⟨r,b⟩:=hp;simp at b;exact absurd b.1.2 e
  |cons a q=>have:=hp.length_le;simp at this
 | step h1 hn h2 ih=>
  cases q with
  |nil=>obtain ⟨r,b⟩:=hp;simp at b;exact absurd b.1.2 e
  |cons a q=>
   obtain ⟨r,b⟩:=hp;simp only [Xqt,List.cons.injEq] at b;rw [ih ⟨r,b.2⟩,<- b.1];rfl
theorem QE {ss:List (List Lk)} {es:List a_} (hs:wJ ss.length es) {v:List Rw} {L:List (List Rw × Int)} (h:sZ (rf ss es) v L):eY es v->(∀ w,rf ss es v= .inr w->wM v w)->L.length+Df es v<=JR es+1:=by
 induction h with
 |err h1=>intro a _;have:=Ou a;simp;omega
 |fix h1=>intro a _;have:=Ou a;simp;omega
 |step h1 hn h2 ih=>
  intro a b;have d:=fV hs.ok h1;obtain ⟨g,e⟩:=Ov (λx c=>(hs.ok x c).cap) a d (b _ h1);have h5:=mt e hn;have:=ih d (λu f=>uO a.len (b _ h1) (λx c=> ⟨hs.ok x c,hs.ris x c⟩) h1 f);simp;omega
theorem yD (es:List a_):tX es=ζ es.length (wQ q0):=by
 unfold tX;exact List.map_const' ..
theorem LU {S:aO} {es:List a_} {ss:List (List Lk)} {b d:Bool} {u:Value} (h:PR S (kS es ss b d) u):∃ a0 p0 v1 v2,u= .agg #[.slice a0 es.length p0,v1,v2]:=by
 simp only [kS,PR] at h;obtain ⟨vs,rfl,h⟩:=h
 match vs,h with
 | [x,y,z],h=>
  simp only [bT,PR] at h;obtain ⟨⟨a,c,rfl,_⟩,_⟩:=h;exact ⟨_,_,_,_,rfl⟩
 | [],h=>simp [bT] at h
 | [_],h=>simp [bT] at h
 | [_,_],h=>simp [bT] at h
 |_::_::_::_::_,h=>simp [bT] at h
theorem NG (r:Int ⊕ List (List Rw)):Ei (Ir r)=true:=by
 cases r<;>rfl
theorem OJ (es:List a_) (ss:List (List Lk)) (m k:Bool) (h:lZ es ss) {r:Int ⊕ List (List Rw)} (R:Dt ss es r):CO 23 [kS es ss m k] (.ret (Ir r)):=by
 have g:=ql es ss m k h.len h.sm;refine age (enters_of Tryz.func23 (by kernel_rfl) rfl) (NG r) λS w cargs I J a=> ?_
 match cargs,a with
 | [u],a=>
  simp only [bT] at a;obtain ⟨a,_⟩:=a;obtain ⟨Y,O,v1,N,rfl⟩:=LU a;rcases R with ⟨d,rfl⟩|⟨h0,f⟩
  .refine (aat es ss m k _ d g S w _ _ _ I J a 9 (by omega)).mono ?_
   rintro e w' ⟨rfl,ha⟩
   refine ⟨S,_,rfl, ?_,ha⟩;simp only [Ir,jB];exact ⟨[_,_,_],rfl,by simp only [bT,PR];exact ⟨trivial,trivial,trivial,trivial⟩⟩
  .rw [h0] at g;obtain ⟨E,s,F,b,t,_⟩:=Dx h0 h.sm;have V:zY (kS es ss m k) es.length (rf ss es) (λv=>v.length=es.length/\∀ y ∈ v,y.sm):=by
    refine ⟨λv a=> ?_,λv a=>a.1,λv w a j=> ⟨uN j,CJ h.sm j⟩,λv e a j=>vZ j⟩;exact Jh es ss v m k false E h.len s a.1.symm h.ls b λi hi=>h.env a.2 i
   obtain ⟨L,o,z⟩:=Qx (λv e j=>vZ j) f;rw [yD] at o f;have Q:∀ y ∈ ζ es.length (wQ q0),y.sm:=λy T=>by
    rw [(List.mem_replicate.1 T).2];have:=fC (q:=q0) (by kernel_rfl);exact ⟨χ this.1 (by omega),χ this.2 (by omega)⟩
   refine (Xu es ss m k g F (by intro e;exact s (Xq2 e)) V o ⟨Xxa,Q⟩ ?_ S w Y O v1 N I J a 9 (by omega)).mono ?_
   .have B:wJ ss.length es:=⟨b,λx D=>(t x D).2⟩
    have A:∀ x ∈ es,jD x=true:=λx D=>(b x D).cap
    obtain ⟨X,z2⟩:=nS A;rw [<- yD] at o;have:=QE B o X λw U=>Eo A (fV b U)
    have:=RF A;omega
   .rintro e w' (⟨u,ch,S',rfl,q1,⟨p,q2,q3⟩,q4,ha⟩|⟨q,C,pe,h1,h2,rfl,ha⟩)
    .cases r with
     |inl e=>
      obtain ⟨q,C,rfl,_,d⟩:=z;exact absurd (q1 (C,e) (by simp)) d
     | inr c=>
      obtain ⟨rfl,A⟩:=z;refine ⟨S',_,rfl, ?_,ha⟩;simp only [Ir,jB];refine ⟨[_,_,_],rfl, ?_⟩;simp only [bT];refine ⟨?_, ?_,by simp only [PR],trivial⟩
      .rw [Yqp] at q2;cases K:c.getLast? with
       |none=>rw [K] at q2;cases q2
       |some l=>rw [K] at q2;cases q2;exact q3
      .rw [Xzh,Xqp] at q4;rw [FW];exact q4
    .have G:=o.tail h1 h2;cases r with
     |inl e=>
      obtain ⟨Z,M,rfl,_,d⟩:=z;have:=List.append_inj_right' G (by simp);simp at this;obtain ⟨_,rfl⟩:=this;refine ⟨S,_,rfl, ?_,ha⟩;simp only [Ir,jB];exact ⟨[_,_,_],rfl,by simp only [bT,PR];exact ⟨trivial,trivial,trivial,trivial⟩⟩
     |inr c=>
      obtain ⟨rfl,_⟩:=z;have:(C,pe) ∈ c.map (λv=>(v,(0:Int))):=by rw [G];simp
      obtain ⟨_,_,e⟩:=List.mem_map.1 this;cases e;exact absurd rfl h2
theorem aiX (l:List (List Int)) (b:Bool) (d c a:Int) (ss:List (List Lk)) (es:List a_) (q:Nat) (e:((Xxk (γ .i64 (Xq6 a ((2:Nat):Int))) ((2:Nat):Int))==((0:Nat):Int))=true) (g:LB 190 0 f11 (E9 (.sl (jC l) l.length b) (.agg [ω d,ω c,ω a]) (!((Xxk (γ .i64 (Xq6 a ((2:Nat):Int))) ((2:Nat):Int))==((0:Nat):Int))) (!((Xxk (γ .i64 (Xq6 a ((2:Nat):Int))) ((2:Nat):Int))==((0:Nat):Int))) [ω d,ω c,ω a] [.nilS,.ref 3 0 0 1,.nilS] [.nilS]) (.normal) (E_ (.sl (jC l) l.length b) [.nilS,.sl (eF ss) 1 true,.nilS])) (f:LB 190 4 f11 (J7 (.sl (jC l) l.length b) [.nilS,.sl (eF ss) 1 true,.nilS]) (.normal) (LP [.nilS,.sl (eF ss) 1 true,.nilS])):CO 11 [.sl (jC l) l.length b,.agg [ω d,ω c,ω a]] (.ret (.agg [.nilS,.sl (eF ss) 1 true,.nilS])):=pK [0,4] 1 0 (.k 7 (aP e) (.n 6 .nil)) (.l f (.l g .nil))
theorem aiW (l:List (List Int)) (b:Bool) (d c a:Int) (ss:List (List Lk)) (es:List a_) (q:Nat) (e:((Xxk (γ .i64 (Xq6 a ((2:Nat):Int))) ((2:Nat):Int))==((0:Nat):Int))=true) (g:LB 190 0 f11 (E9 (.sl (jC l) l.length b) (.agg [ω d,ω c,ω a]) (!((Xxk (γ .i64 (Xq6 a ((2:Nat):Int))) ((2:Nat):Int))==((0:Nat):Int))) (!((Xxk (γ .i64 (Xq6 a ((2:Nat):Int))) ((2:Nat):Int))==((0:Nat):Int))) [ω d,ω c,ω a] [.nilS,.ref 3 0 0 1,.nilS] [.nilS]) (.normal) (E_ (.sl (jC l) l.length b) [.nilS,.sl (eF ss) 1 true,.nilS])) (f:LB 190 4 f11 (J7 (.sl (jC l) l.length b) [.nilS,.sl (eF ss) 1 true,.nilS]) (.normal) (LP [.sl (bV es) q true,.sl (eF ss) 1 true,.nilS])):CO 11 [.sl (jC l) l.length b,.agg [ω d,ω c,ω a]] (.ret (.agg [.sl (bV es) q true,.sl (eF ss) 1 true,.nilS])):=pK [0,4] 1 0 (.k 7 (aP e) (.n 6 .nil)) (.l f (.l g .nil))
theorem aiZ (l:List (List Int)) (b:Bool) (d c a:Int) (ss:List (List Lk)) (es:List a_) (q:Nat) (e:((Xxk (γ .i64 (Xq6 a ((2:Nat):Int))) ((2:Nat):Int))==((0:Nat):Int))=false) (g:LB 190 0 f11 (E9 (.sl (jC l) l.length b) (.agg [ω d,ω c,ω a]) (!((Xxk (γ .i64 (Xq6 a ((2:Nat):Int))) ((2:Nat):Int))==((0:Nat):Int))) (!((Xxk (γ .i64 (Xq6 a ((2:Nat):Int))) ((2:Nat):Int))==((0:Nat):Int))) [ω d,ω c,ω a] [.nilS,.ref 3 0 0 2,.nilS] [.nilS,.nilS]) (.normal) (E_ (.sl (jC l) l.length b) [.nilS,.sl (eF ss) 2 true,.nilS])) (f:LB 190 4 f11 (J7 (.sl (jC l) l.length b) [.nilS,.sl (eF ss) 2 true,.nilS]) (.normal) (LP [.nilS,.sl (eF ss) 2 true,.nilS])):CO 11 [.sl (jC l) l.length b,.agg [ω d,ω c,ω a]] (.ret (.agg [.nilS,.sl (eF ss) 2 true,.nilS])):=pK [0,4] 1 1 (.k 13 (dC e) (.n 6 .nil)) (.l f (.l g .nil))
theorem aiY (l:List (List Int)) (b:Bool) (d c a:Int) (ss:List (List Lk)) (es:List a_) (q:Nat) (e:((Xxk (γ .i64 (Xq6 a ((2:Nat):Int))) ((2:Nat):Int))==((0:Nat):Int))=false) (g:LB 190 0 f11 (E9 (.sl (jC l) l.length b) (.agg [ω d,ω c,ω a]) (!((Xxk (γ .i64 (Xq6 a ((2:Nat):Int))) ((2:Nat):Int))==((0:Nat):Int))) (!((Xxk (γ .i64 (Xq6 a ((2:Nat):Int))) ((2:Nat):Int))==((0:Nat):Int))) [ω d,ω c,ω a] [.nilS,.ref 3 0 0 2,.nilS] [.nilS,.nilS]) (.normal) (E_ (.sl (jC l) l.length b) [.nilS,.sl (eF ss) 2 true,.nilS])) (f:LB 190 4 f11 (J7 (.sl (jC l) l.length b) [.nilS,.sl (eF ss) 2 true,.nilS]) (.normal) (LP [.sl (bV es) q true,.sl (eF ss) 2 true,.nilS])):CO 11 [.sl (jC l) l.length b,.agg [ω d,ω c,ω a]] (.ret (.agg [.sl (bV es) q true,.sl (eF ss) 2 true,.nilS])):=pK [0,4] 1 1 (.k 13 (dC e) (.n 6 .nil)) (.l f (.l g .nil))
def oN (m0 m2:Nat) (y:Rw):List Lk:= [⟨6,(bC 0),false,(ae 0),(ae 1),0⟩,⟨8,(bC 0),false,(ae 0),(ae 1),0⟩,⟨6,(bC 1),false,(ae 1),(ae 1),0⟩,⟨8,(bC 1),false,(ae 2),(ae 1),0⟩,⟨6,(bC 2),false,(ae 2),(ae 1),0⟩,⟨8,(bC 2),false,(ae 4),(ae 1),0⟩,⟨6,(bC 3),false,(ae 3),(ae 1),0⟩,⟨8,(bC 3),false,(ae 6),(ae 1),0⟩,⟨5,[120],false,(ae m0),(ae 1),0⟩,⟨5,[121],y.n,y.a,y.d,0⟩,⟨5,[99],false,(ae m2),(ae 1),0⟩]
def Cb (m1 m2:Nat) (y:Rw):List Lk:= [⟨6,(bC 0),false,(ae 0),(ae 1),0⟩,⟨8,(bC 0),false,(ae 0),(ae 1),0⟩,⟨6,(bC 1),false,(ae 1),(ae 1),0⟩,⟨8,(bC 1),false,(ae 2),(ae 1),0⟩,⟨6,(bC 2),false,(ae 2),(ae 1),0⟩,⟨8,(bC 2),false,(ae 4),(ae 1),0⟩,⟨6,(bC 3),false,(ae 3),(ae 1),0⟩,⟨8,(bC 3),false,(ae 6),(ae 1),0⟩,⟨5,[120],false,(ae m1),(ae 1),0⟩,⟨5,[121],y.n,y.a,y.d,0⟩,⟨5,[99],false,(ae m2),(ae 1),0⟩]
theorem aeh:∀ L:List Lk,(eQ L).length=L.length*6:=qL (f:=lkC) (λ_=>rfl)
theorem aaO {b n:Nat} {L:List Lk} (a:L.length=n):Fz b ⟨eQ L,0,false,0,6,true⟩ (.ref b 0 0 n) (.sl (eQ L) L.length false):=by
 subst a;exact .fit .ref (by rw [Xj7,Xxz,φ (by rw [aeh];exact κ _)];exact bY.sl _ _ _)
theorem alZ {nt:Nat} {a:Code} {s:St} {l:List (List Int)} {b:Bool} {K:List AV} (L:List Lk) (e:K=eQ L) (c:L.length=11) (h:ak prog ap [] nt a s .normal (ace (.sl (jC l) l.length b) K)):
  ak prog ap [] nt a s .normal (E_ (.sl (jC l) l.length b) [.nilS,.sl (eF [L]) 1 true,.nilS]):=by
 subst e;have d:=ak.forget (en':= [(0,.sl (jC l) l.length b),(4,.ptr 0 0 0),(5,.ptr 1 0 0)]) (hp':= [(0,⟨[.nilS,.nilS,.nilS],0,false,0,0,true⟩),(1,⟨[.nilS,.ref 2 0 0 1,.nilS],0,false,0,0,false⟩),(2,⟨[.sl (eQ L) L.length false],0,false,0,1,true⟩)]) 3 ⟨eQ L,0,false,0,6,true⟩ h (by simp) (Xq7 _) rfl ⟨Fz.same rfl,Fz.same rfl,Fz.same rfl,trivial⟩
  ⟨rfl,zX.same rfl,by decide,rfl,⟨rfl,rfl,rfl,rfl,.inr ⟨.cons (.same rfl) (.cons (.same rfl) (.cons (.same rfl) .nil)),λh=>by cases h⟩⟩,by decide,rfl,⟨rfl,rfl,rfl,rfl,.inr ⟨.cons (aaO c) .nil,λ_=>rfl⟩⟩,by decide,rfl⟩
 exact ak.forget 2 ⟨[.sl (eQ L) L.length false],0,false,0,1,true⟩ d (by simp) (Xq7 _) rfl ⟨Fz.same rfl,Fz.same rfl,Fz.same rfl,trivial⟩
  ⟨rfl,zX.same rfl,by decide,rfl,⟨rfl,rfl,rfl,rfl,.inr ⟨.cons (.same rfl) (.cons .ref (.cons (.same rfl) .nil)),λh=>by cases h⟩⟩,by decide,rfl⟩
theorem al0 {nt:Nat} {a:Code} {s:St} {l:List (List Int)} {b:Bool} {K K':List AV} (L L':List Lk) (g:K=eQ L) (e:L.length=11) (c:K'=eQ L') (d:L'.length=11) (h:ak prog ap [] nt a s .normal (acf (.sl (jC l) l.length b) K K')):
  ak prog ap [] nt a s .normal (E_ (.sl (jC l) l.length b) [.nilS,.sl (eF [L,L']) 2 true,.nilS]):=by
 subst g c;have h0:=ak.forget (en':= [(0,.sl (jC l) l.length b),(4,.ptr 0 0 0),(5,.ptr 1 0 0)]) (hp':= [(0,⟨[.nilS,.nilS,.nilS],0,false,0,0,true⟩),(1,⟨[.nilS,.ref 2 0 0 2,.nilS],0,false,0,0,false⟩),(2,⟨[.ref 3 0 0 11,.sl (eQ L') L'.length false],0,false,0,1,false⟩),(3,⟨eQ L,0,false,0,6,true⟩)]) 4 ⟨eQ L',0,false,0,6,true⟩ h (by simp) (Xq7 _) rfl ⟨Fz.same rfl,Fz.same rfl,Fz.same rfl,trivial⟩
  ⟨rfl,zX.same rfl,by decide,rfl,⟨rfl,rfl,rfl,rfl,.inr ⟨.cons (.same rfl) (.cons (.same rfl) (.cons (.same rfl) .nil)),λh=>by cases h⟩⟩,by decide,rfl,⟨rfl,rfl,rfl,rfl,.inr ⟨.cons (.same rfl) (.cons (aaO d) .nil),λh=>by cases h⟩⟩,by decide,rfl,zX.same rfl,by decide,rfl⟩
 have f:=ak.forget (en':= [(0,.sl (jC l) l.length b),(4,.ptr 0 0 0),(5,.ptr 1 0 0)]) (hp':= [(0,⟨[.nilS,.nilS,.nilS],0,false,0,0,true⟩),(1,⟨[.nilS,.ref 2 0 0 2,.nilS],0,false,0,0,false⟩),(2,⟨[.sl (eQ L) L.length false,.sl (eQ L') L'.length false],0,false,0,1,true⟩)]) 3 ⟨eQ L,0,false,0,6,true⟩ h0 (by simp) (Xq7 _) rfl ⟨Fz.same rfl,Fz.same rfl,Fz.same rfl,trivial⟩
  ⟨rfl,zX.same rfl,by decide,rfl,⟨rfl,rfl,rfl,rfl,.inr ⟨.cons (.same rfl) (.cons (.same rfl) (.cons (.same rfl) .nil)),λh=>by cases h⟩⟩,by decide,rfl,⟨rfl,rfl,rfl,rfl,.inr ⟨.cons (aaO e) (.cons (.same rfl) .nil),λ_=>rfl⟩⟩,by decide,rfl⟩
 exact ak.forget 2 ⟨[.sl (eQ L) L.length false,.sl (eQ L') L'.length false],0,false,0,1,true⟩ f (by simp) (Xq7 _) rfl ⟨Fz.same rfl,Fz.same rfl,Fz.same rfl,trivial⟩
  ⟨rfl,zX.same rfl,by decide,rfl,⟨rfl,rfl,rfl,rfl,.inr ⟨.cons (.same rfl) (.cons .ref (.cons (.same rfl) .nil)),λh=>by cases h⟩⟩,by decide,rfl⟩
theorem agy (l:List (List Int)) (f:Bool) (b d a:Int) (m0 k e:Nat) (y:Rw) (t:m0<40) (p:k<40) (v:e<2) (q:CO 35 [ω b,ω ((40:Nat):Int)] (.ret (ω (m0:Int)))) (w:CO 35 [ω d,ω ((40:Nat):Int)] (.ret (ω (k:Int)))) (o:CO 35 [ω a,ω ((2:Nat):Int)] (.ret (ω (e:Int)))) (cy:CO 36 [.agg [ω d,ω b,ω ((3:Nat):Int)]] (.ret (.agg y.c))) (i:CO 34 [ω ((0:Nat):Int)] (.ret (.str (bC 0)))) (g:CO 34 [ω ((1:Nat):Int)] (.ret (.str (bC 1)))) (m:CO 34 [ω ((2:Nat):Int)] (.ret (.str (bC 2)))) (j:CO 34 [ω ((3:Nat):Int)] (.ret (.str (bC 3)))):LB 190 0 f11 (E9 (.sl (jC l) l.length f) (.agg [ω b,ω d,ω a]) (!((Xxk (γ .i64 (Xq6 a ((2:Nat):Int))) ((2:Nat):Int))==((0:Nat):Int))) (!((Xxk (γ .i64 (Xq6 a ((2:Nat):Int))) ((2:Nat):Int))==((0:Nat):Int))) [ω b,ω d,ω a] [.nilS,.ref 3 0 0 1,.nilS] [.nilS]) (.normal) (E_ (.sl (jC l) l.length f) [.nilS,.sl (eF [oN m0 e y]) 1 true,.nilS]):=by
 intro nt s;have h:ak prog ap [] nt (.block 0 (.loop (af 0 (ax f11)))) (ag6 (.sl (jC l) l.length f) (.agg [ω b,ω d,ω a]) (!((Xxk (γ .i64 (Xq6 a ((2:Nat):Int))) ((2:Nat):Int))==((0:Nat):Int))) (!((Xxk (γ .i64 (Xq6 a ((2:Nat):Int))) ((2:Nat):Int))==((0:Nat):Int))) [ω b,ω d,ω a] [.nilS,.ref 3 0 0 1,.nilS] [.nilS]) .normal (ace (.sl (jC l) l.length f) [ω 6,.str (bC 0),.bool false,.str (ae 0),.str (ae 1),ω 0,ω 8,.str (bC 0),.bool false,.str (ae 0),.str (ae 1),ω 0,ω 6,.str (bC 1),.bool false,.str (ae 1),.str (ae 1),ω 0,ω 8,.str (bC 1),.bool false,.str (ae 2),.str (ae 1),ω 0,ω 6,.str (bC 2),.bool false,.str (ae 2),.str (ae 1),ω 0,ω 8,.str (bC 2),.bool false,.str (ae 4),.str (ae 1),ω 0,ω 6,.str (bC 3),.bool false,.str (ae 3),.str (ae 1),ω 0,ω 8,.str (bC 3),.bool false,.str (ae 6),.str (ae 1),ω 0,ω 5,.str [120],.bool false,.str (ae m0),.str (ae 1),ω 0,ω 5,.str [121],.bool y.n,.str y.a,.str y.d,ω 0,ω 5,.str [99],.bool false,.str (ae e),.str (ae 1),ω 0]):=pN 11 [] 8 59 (.n 84 .nil) (.c (bK e) (.c o (.c cy (.c (bK m0) (.c q (.c (bK 6) (.c j (.c (bK 3) (.c j (.c (bK 4) (.c m (.c (bK 2) (.c m (.c (bK 2) (.c g (.c (bK 1) (.c g (.c (bK 0) (.c i (.c (bK 0) (.c i .nil))))))))))))))))))))) s;have u:ak prog ap [] nt (.block 0 (.loop (af 0 (ax f11)))) (E9 (.sl (jC l) l.length f) (.agg [ω b,ω d,ω a]) (!((Xxk (γ .i64 (Xq6 a ((2:Nat):Int))) ((2:Nat):Int))==((0:Nat):Int))) (!((Xxk (γ .i64 (Xq6 a ((2:Nat):Int))) ((2:Nat):Int))==((0:Nat):Int))) [ω b,ω d,ω a] [.nilS,.ref 3 0 0 1,.nilS] [.nilS]) .normal (ace (.sl (jC l) l.length f) [ω 6,.str (bC 0),.bool false,.str (ae 0),.str (ae 1),ω 0,ω 8,.str (bC 0),.bool false,.str (ae 0),.str (ae 1),ω 0,ω 6,.str (bC 1),.bool false,.str (ae 1),.str (ae 1),ω 0,ω 8,.str (bC 1),.bool false,.str (ae 2),.str (ae 1),ω 0,ω 6,.str (bC 2),.bool false,.str (ae 2),.str (ae 1),ω 0,ω 8,.str (bC 2),.bool false,.str (ae 4),.str (ae 1),ω 0,ω 6,.str (bC 3),.bool false,.str (ae 3),.str (ae 1),ω 0,ω 8,.str (bC 3),.bool false,.str (ae 6),.str (ae 1),ω 0,ω 5,.str [120],.bool false,.str (ae m0),.str (ae 1),ω 0,ω 5,.str [121],.bool y.n,.str y.a,.str y.d,ω 0,ω 5,.str [99],.bool false,.str (ae e),.str (ae 1),ω 0]):=by
  refine ak.unplain h (Fh 3 _ rfl rfl λc r=> ?_) rfl rfl rfl
  match c with
  |0=>rfl
  |1=>rfl
  |2=>rfl
  |3=>exact absurd rfl r
  |n+4=>rfl
 exact alZ (oN m0 e y) (by kernel_rfl) rfl u
theorem agz (l:List (List Int)) (g:Bool) (d e a:Int) (m0 f b:Nat) (y:Rw) (u:m0<40) (p:f<40) (w:b<2) (r:CO 35 [ω d,ω ((40:Nat):Int)] (.ret (ω (m0:Int)))) (q:CO 35 [ω e,ω ((40:Nat):Int)] (.ret (ω (f:Int)))) (o:CO 35 [ω a,ω ((2:Nat):Int)] (.ret (ω (b:Int)))) (cy:CO 36 [.agg [ω e,ω d,ω ((3:Nat):Int)]] (.ret (.agg y.c))) (j:CO 34 [ω ((0:Nat):Int)] (.ret (.str (bC 0)))) (i:CO 34 [ω ((1:Nat):Int)] (.ret (.str (bC 1)))) (m:CO 34 [ω ((2:Nat):Int)] (.ret (.str (bC 2)))) (k:CO 34 [ω ((3:Nat):Int)] (.ret (.str (bC 3)))):LB 190 0 f11 (E9 (.sl (jC l) l.length g) (.agg [ω d,ω e,ω a]) (!((Xxk (γ .i64 (Xq6 a ((2:Nat):Int))) ((2:Nat):Int))==((0:Nat):Int))) (!((Xxk (γ .i64 (Xq6 a ((2:Nat):Int))) ((2:Nat):Int))==((0:Nat):Int))) [ω d,ω e,ω a] [.nilS,.ref 3 0 0 2,.nilS] [.nilS,.nilS]) (.normal) (E_ (.sl (jC l) l.length g) [.nilS,.sl (eF [oN m0 b y,Cb f b y]) 2 true,.nilS]):=by
 intro nt t;have h:ak prog ap [] nt (.block 0 (.loop (af 0 (ax f11)))) (ag6 (.sl (jC l) l.length g) (.agg [ω d,ω e,ω a]) (!((Xxk (γ .i64 (Xq6 a ((2:Nat):Int))) ((2:Nat):Int))==((0:Nat):Int))) (!((Xxk (γ .i64 (Xq6 a ((2:Nat):Int))) ((2:Nat):Int))==((0:Nat):Int))) [ω d,ω e,ω a] [.nilS,.ref 3 0 0 2,.nilS] [.nilS,.nilS]) .normal (acf (.sl (jC l) l.length g) [ω 6,.str (bC 0),.bool false,.str (ae 0),.str (ae 1),ω 0,ω 8,.str (bC 0),.bool false,.str (ae 0),.str (ae 1),ω 0,ω 6,.str (bC 1),.bool false,.str (ae 1),.str (ae 1),ω 0,ω 8,.str (bC 1),.bool false,.str (ae 2),.str (ae 1),ω 0,ω 6,.str (bC 2),.bool false,.str (ae 2),.str (ae 1),ω 0,ω 8,.str (bC 2),.bool false,.str (ae 4),.str (ae 1),ω 0,ω 6,.str (bC 3),.bool false,.str (ae 3),.str (ae 1),ω 0,ω 8,.str (bC 3),.bool false,.str (ae 6),.str (ae 1),ω 0,ω 5,.str [120],.bool false,.str (ae m0),.str (ae 1),ω 0,ω 5,.str [121],.bool y.n,.str y.a,.str y.d,ω 0,ω 5,.str [99],.bool false,.str (ae b),.str (ae 1),ω 0] [ω 6,.str (bC 0),.bool false,.str (ae 0),.str (ae 1),ω 0,ω 8,.str (bC 0),.bool false,.str (ae 0),.str (ae 1),ω 0,ω 6,.str (bC 1),.bool false,.str (ae 1),.str (ae 1),ω 0,ω 8,.str (bC 1),.bool false,.str (ae 2),.str (ae 1),ω 0,ω 6,.str (bC 2),.bool false,.str (ae 2),.str (ae 1),ω 0,ω 8,.str (bC 2),.bool false,.str (ae 4),.str (ae 1),ω 0,ω 6,.str (bC 3),.bool false,.str (ae 3),.str (ae 1),ω 0,ω 8,.str (bC 3),.bool false,.str (ae 6),.str (ae 1),ω 0,ω 5,.str [120],.bool false,.str (ae f),.str (ae 1),ω 0,ω 5,.str [121],.bool y.n,.str y.a,.str y.d,ω 0,ω 5,.str [99],.bool false,.str (ae b),.str (ae 1),ω 0]):=pN 11 [] 15 7611 (.n 166 .nil) (.c (bK b) (.c o (.c cy (.c (bK f) (.c q (.c (bK 6) (.c k (.c (bK 3) (.c k (.c (bK 4) (.c m (.c (bK 2) (.c m (.c (bK 2) (.c i (.c (bK 1) (.c i (.c (bK 0) (.c j (.c (bK 0) (.c j (.c (bK b) (.c o (.c cy (.c (bK m0) (.c r (.c (bK 6) (.c k (.c (bK 3) (.c k (.c (bK 4) (.c m (.c (bK 2) (.c m (.c (bK 2) (.c i (.c (bK 1) (.c i (.c (bK 0) (.c j (.c (bK 0) (.c j .nil)))))))))))))))))))))))))))))))))))))))))) t;have v:ak prog ap [] nt (.block 0 (.loop (af 0 (ax f11)))) (E9 (.sl (jC l) l.length g) (.agg [ω d,ω e,ω a]) (!((Xxk (γ .i64 (Xq6 a ((2:Nat):Int))) ((2:Nat):Int))==((0:Nat):Int))) (!((Xxk (γ .i64 (Xq6 a ((2:Nat):Int))) ((2:Nat):Int))==((0:Nat):Int))) [ω d,ω e,ω a] [.nilS,.ref 3 0 0 2,.nilS] [.nilS,.nilS]) .normal (acf (.sl (jC l) l.length g) [ω 6,.str (bC 0),.bool false,.str (ae 0),.str (ae 1),ω 0,ω 8,.str (bC 0),.bool false,.str (ae 0),.str (ae 1),ω 0,ω 6,.str (bC 1),.bool false,.str (ae 1),.str (ae 1),ω 0,ω 8,.str (bC 1),.bool false,.str (ae 2),.str (ae 1),ω 0,ω 6,.str (bC 2),.bool false,.str (ae 2),.str (ae 1),ω 0,ω 8,.str (bC 2),.bool false,.str (ae 4),.str (ae 1),ω 0,ω 6,.str (bC 3),.bool false,.str (ae 3),.str (ae 1),ω 0,ω 8,.str (bC 3),.bool false,.str (ae 6),.str (ae 1),ω 0,ω 5,.str [120],.bool false,.str (ae m0),.str (ae 1),ω 0,ω 5,.str [121],.bool y.n,.str y.a,.str y.d,ω 0,ω 5,.str [99],.bool false,.str (ae b),.str (ae 1),ω 0] [ω 6,.str (bC 0),.bool false,.str (ae 0),.str (ae 1),ω 0,ω 8,.str (bC 0),.bool false,.str (ae 0),.str (ae 1),ω 0,ω 6,.str (bC 1),.bool false,.str (ae 1),.str (ae 1),ω 0,ω 8,.str (bC 1),.bool false,.str (ae 2),.str (ae 1),ω 0,ω 6,.str (bC 2),.bool false,.str (ae 2),.str (ae 1),ω 0,ω 8,.str (bC 2),.bool false,.str (ae 4),.str (ae 1),ω 0,ω 6,.str (bC 3),.bool false,.str (ae 3),.str (ae 1),ω 0,ω 8,.str (bC 3),.bool false,.str (ae 6),.str (ae 1),ω 0,ω 5,.str [120],.bool false,.str (ae f),.str (ae 1),ω 0,ω 5,.str [121],.bool y.n,.str y.a,.str y.d,ω 0,ω 5,.str [99],.bool false,.str (ae b),.str (ae 1),ω 0]):=by
  refine ak.unplain h (Fh 3 _ rfl rfl λc s=> ?_) rfl rfl rfl
  match c with
  |0=>rfl
  |1=>rfl
  |2=>rfl
  |3=>exact absurd rfl s
  |n+4=>rfl
 exact al0 (oN m0 b y) (Cb f b y) (by kernel_rfl) rfl (by kernel_rfl) rfl v
theorem agA {b n:Nat} {es:List a_} (a:es.length=n):Fz b ⟨bV es,0,false,0,14,true⟩ (.ref b 0 0 n) (.sl (bV es) n true):=by
 subst a;exact .fit .ref (.eq (by rw [Xj7,Xxz,φ (by rw [show (bV es).length=es.length*14 from qL DD es];exact κ _)]))
theorem FX {f:Nat} {args l r:List AV} (h:CO f args (.ret (.agg l))) (g:jd l r):CO f args (.ret (.agg r)):=by
 refine ⟨h.len,h.ent,λm S w cargs a d=>(h.calls m S w cargs a d).mono ?_⟩
 rintro e w' ⟨m',S',hF⟩
 obtain ⟨cv,c,b⟩:=hF.out;exact ⟨m',S',hF.srel,hF.fr,cv,c,bY.agg g (bz []) m' S' cv b⟩
theorem Gh {n:Nat} (h:n<2^20:=by omega):(ae n).length<2^36:=χ (dw (k:=5) (υ h (by decide))) (by decide)
theorem aaJ (q0 b:Int):∃ y:Rw,y.a.length<2^36/\y.d.length<2^36/\CO 36 [.agg [ω q0,ω b,ω ((3:Nat):Int)]] (.ret (.agg y.c)):=by
 have h:=aaI q0 b ((3:Nat):Int) (by decide);have c:iK q0 7<2^128/\1+iK b 7<2^128:=by
  have h7:=fF (a:=q0) (n:=7);have d:=fF (a:=b) (n:=7);omega
 refine ⟨⟨_,ae _,ae _⟩, ?_, ?_,h⟩
 .exact υ (Eg (χ (Xxg _ _) c.1)) (by decide)
 .exact υ (Eg (χ (Xxg _ _) c.2)) (by decide)
theorem Va {m0 c:Nat} {y:Rw} (h0:m0<40) (e:c<2) (b:y.a.length<2^36) (a:y.d.length<2^36):∀ x ∈ oN m0 c y,x.a.length<2^36/\x.d.length<2^36:=by
 intro x d;simp only [oN,Xjj,Xju,or_false] at d;rcases d with rfl|rfl|rfl|rfl|rfl|rfl|rfl|rfl|rfl|rfl|rfl<;>first|exact ⟨b,a⟩|exact ⟨Gh,Gh⟩
theorem aeo {c d:Nat} {y:Rw} (h0:c<40) (f:d<2) (b:y.a.length<2^36) (a:y.d.length<2^36):∀ x ∈ Cb c d y,x.a.length<2^36/\x.d.length<2^36:=by
 intro x e;simp only [Cb,Xjj,Xju,or_false] at e;rcases e with rfl|rfl|rfl|rfl|rfl|rfl|rfl|rfl|rfl|rfl|rfl<;>first|exact ⟨b,a⟩|exact ⟨Gh,Gh⟩
theorem akl (l:List (List Int)) (c:Bool) (g j i:Int):∃ (es:List a_) (ss:List (List Lk)),lZ es ss/\(∀ x ∈ es,qJ x)/\es.length<=4/\(ss.length=1\/ss.length=2)/\CO 11 [.sl (jC l) l.length c,.agg [ω g,ω j,ω i]] (.ret (kS es ss false false)):=by
 have e:=fF (a:=g) (n:=40);have f:=fF (a:=j) (n:=40);have d:=fF (a:=i) (n:=2);have v:=jw g 40;have u:=jw j 40;have t:=jw i 2;generalize iK g 40=m0 at e v;generalize iK j 40=m1 at f u;generalize iK i 2=m2 at d t;obtain ⟨y,s,o,cy⟩:=aaJ j g;have A:CO 34 [ω ((0:Nat):Int)] (.ret (.str (bC 0))):=jy 0;have z:CO 34 [ω ((1:Nat):Int)] (.ret (.str (bC 1))):=jy 1;have C:CO 34 [ω ((2:Nat):Int)] (.ret (.str (bC 2))):=jy 2;have B:CO 34 [ω ((3:Nat):Int)] (.ret (.str (bC 3))):=jy 3;cases w:((Xxk (γ .i64 (Xq6 i ((2:Nat):Int))) ((2:Nat):Int))==((0:Nat):Int)) with
 | true=>
  obtain ⟨es,k,m,b⟩:=Vb l c [oN m0 m2 y] 1 (.inl rfl) (min l.length 4) 0 [] (by omega) rfl (by simp);refine ⟨es,[oN m0 m2 y],⟨by omega,λx q=>(m x q).1, ?_, ?_⟩,λx q=>(m x q).2,by omega,.inl rfl, ?_⟩
  .intro L b;simp only [Xjj,Xju,or_false] at b;subst b;exact (by decide:11<2^39)
  .intro L b;simp only [Xjj,Xju,or_false] at b;subst b;exact Va e d s o
  cases es with
  |nil=>
   have p:LB 190 4 f11 (J7 (.sl (jC l) l.length c) [.nilS,.sl (eF [oN m0 m2 y]) 1 true,.nilS]) (.normal) (PW [oN m0 m2 y] 1 (min l.length 4,[])):=aF.blk (id:=4) (e':= .normal) b (by simp) rfl (aK.of ⟨rfl,rfl,rfl,rfl,trivial⟩) (aK.refl _);have h:=aiX l c g j i [oN m0 m2 y] [] 0 w (agy l c g j i m0 m1 m2 y e f d v u t cy A z C B) p;exact FX h (.cons (.nilS _ rfl) (.cons (.sl _ _ _) (.cons (.nilS _ rfl) .nil)))
  | cons a r=>
   have p:LB 190 4 f11 (J7 (.sl (jC l) l.length c) [.nilS,.sl (eF [oN m0 m2 y]) 1 true,.nilS]) (.normal) (PW [oN m0 m2 y] 1 (min l.length 4,(a::r))):=aF.blk (id:=4) (e':= .normal) b (by simp) rfl (aK.of ⟨rfl,rfl,rfl,rfl,trivial⟩) (aK.refl _);have D:LB 190 4 f11 (J7 (.sl (jC l) l.length c) [.nilS,.sl (eF [oN m0 m2 y]) 1 true,.nilS]) (.normal) (LP [.sl (bV (a::r)) (min l.length 4) true,.sl (eF [oN m0 m2 y]) 1 true,.nilS]):=λnt E=>
    ak.forget 2 ⟨bV (a::r),0,false,0,14,true⟩ (p nt E) (by simp) (Xq7 _) rfl ⟨Fz.same rfl,Fz.same rfl,trivial⟩ ⟨rfl,zX.same rfl,by decide,rfl,⟨rfl,rfl,rfl,rfl,.inr ⟨.cons (agA k) (.cons (.same rfl) (.cons (.same rfl) .nil)),λh=>by cases h⟩⟩,by decide,rfl⟩
   have h:=aiW l c g j i [oN m0 m2 y] (a::r) (min l.length 4) w (agy l c g j i m0 m1 m2 y e f d v u t cy A z C B) D;rw [<- k] at h;exact FX h (.cons (.sl _ _ _) (.cons (.sl _ _ _) (.cons (.nilS _ rfl) .nil)))
 | false=>
  obtain ⟨es,k,m,b⟩:=Vb l c [oN m0 m2 y,Cb m1 m2 y] 2 (.inr rfl) (min l.length 4) 0 [] (by omega) rfl (by simp);refine ⟨es,[oN m0 m2 y,Cb m1 m2 y],⟨by omega,λx q=>(m x q).1, ?_, ?_⟩,λx q=>(m x q).2,by omega,.inr rfl, ?_⟩
  .intro L b;simp only [Xjj,Xju,or_false] at b;rcases b with rfl|rfl<;>exact (by decide:11<2^39)
  .intro L b;simp only [Xjj,Xju,or_false] at b;rcases b with rfl|rfl
   .exact Va e d s o
   .exact aeo f d s o
  cases es with
  |nil=>
   have p:LB 190 4 f11 (J7 (.sl (jC l) l.length c) [.nilS,.sl (eF [oN m0 m2 y,Cb m1 m2 y]) 2 true,.nilS]) (.normal) (PW [oN m0 m2 y,Cb m1 m2 y] 2 (min l.length 4,[])):=aF.blk (id:=4) (e':= .normal) b (by simp) rfl (aK.of ⟨rfl,rfl,rfl,rfl,trivial⟩) (aK.refl _);have h:=aiZ l c g j i [oN m0 m2 y,Cb m1 m2 y] [] 0 w (agz l c g j i m0 m1 m2 y e f d v u t cy A z C B) p;exact FX h (.cons (.nilS _ rfl) (.cons (.sl _ _ _) (.cons (.nilS _ rfl) .nil)))
  | cons a r=>
   have p:LB 190 4 f11 (J7 (.sl (jC l) l.length c) [.nilS,.sl (eF [oN m0 m2 y,Cb m1 m2 y]) 2 true,.nilS]) (.normal) (PW [oN m0 m2 y,Cb m1 m2 y] 2 (min l.length 4,(a::r))):=aF.blk (id:=4) (e':= .normal) b (by simp) rfl (aK.of ⟨rfl,rfl,rfl,rfl,trivial⟩) (aK.refl _);have D:LB 190 4 f11 (J7 (.sl (jC l) l.length c) [.nilS,.sl (eF [oN m0 m2 y,Cb m1 m2 y]) 2 true,.nilS]) (.normal) (LP [.sl (bV (a::r)) (min l.length 4) true,.sl (eF [oN m0 m2 y,Cb m1 m2 y]) 2 true,.nilS]):=λnt E=>
    ak.forget 2 ⟨bV (a::r),0,false,0,14,true⟩ (p nt E) (by simp) (Xq7 _) rfl ⟨Fz.same rfl,Fz.same rfl,trivial⟩ ⟨rfl,zX.same rfl,by decide,rfl,⟨rfl,rfl,rfl,rfl,.inr ⟨.cons (agA k) (.cons (.same rfl) (.cons (.same rfl) .nil)),λh=>by cases h⟩⟩,by decide,rfl⟩
   have h:=aiY l c g j i [oN m0 m2 y,Cb m1 m2 y] (a::r) (min l.length 4) w (agz l c g j i m0 m1 m2 y e f d v u t cy A z C B) D;rw [<- k] at h;exact FX h (.cons (.sl _ _ _) (.cons (.sl _ _ _) (.cons (.nilS _ rfl) .nil)))
def rvA (vs:List Rw) (k b:Nat):AV:=match vs with| []=> .nilS|_::_=> .ref b 0 0 k
def rvH (vs:List Rw) (b:Nat):Hp:=match vs with| []=> []|a::r=> [(b,⟨dF (a::r),0,false,0,3,true⟩)]
def YC (es:List a_) (ss:List (List Lk)) (ne ns:Bool) (p:Nat × List Rw):St:=⟨[(1,.ptr 0 0 0),(3,rvA p.2 p.1 1),(4,ω (p.1:Int))],(0,⟨[.sl (bV es) es.length ne,.sl (eF ss) ss.length ns,.sl [] 0 false],0,false,0,0,true⟩)::rvH p.2 1,.dead,[]⟩
def aoL (es:List a_) (ss:List (List Lk)) (ne ns:Bool) (p:Nat × List Rw):St:=⟨[(1,.ptr 0 0 0),(3,rvA p.2 p.1 1)],(0,⟨[.sl (bV es) es.length ne,.sl (eF ss) ss.length ns,.sl [] 0 false],0,false,0,0,true⟩)::rvH p.2 1,.dead,[]⟩
theorem afy {vs:List Rw} {k:Nat} (h:vs.length=k) (x:Rw):π (k*3) (dF vs)++x.c=dF (vs++ [x]):=by
 rw [φ (by rw [jc];omega)];unfold dF;rw [Xx9];simp
theorem acR (es:List a_) (ss:List (List Lk)) (b c:Bool) (i:es.length<2^39) (k:Nat) (vs:List Rw) (e:vs.length=k) (d:k<es.length) {nt:Nat} (g:17<=nt):ψ nt f20 (YC es ss b c (k,vs)) .normal (YC es ss b c (k+1,vs++ [wQ q0])):=by
 have f:k<2^62:=by omega
 cases vs with
 |nil=>
  obtain rfl:k=0:=by simpa using e.symm
  have h:ψ nt f20 (YC es ss b c (0,[])) .normal (YC es ss b c (0+1,[wQ q0])):=pN 20 [] 2 1 (.k 3 (aA (aY d)) (.n 1 .nil)) (.v 11 (.eq (pO f)) (.c agG .nil)) g;exact h
 |cons a vs'=>
  have h:ψ nt f20 (YC es ss b c (k,a::vs')) .normal ⟨[(1,.ptr 0 0 0),(3,.ref 1 0 0 (k+1)),(4,ω ((k+1:Nat):Int))],[(0,⟨[.sl (bV es) es.length b,.sl (eF ss) ss.length c,.sl [] 0 false],0,false,0,0,true⟩),(1,⟨π (k*3) (dF (a::vs'))++(wQ q0).c,0,false,0,3,true⟩)],.dead,[]⟩:=pN 20 [] 1 1 (.k 1 (Aa (k+1)) (.c (Γ (by rw [jc];omega:k*3<=(dF (a::vs')).length)) (.k 1 (aA (aY d)) (.n 1 .nil)))) (.v 11 (.eq (pO f)) (.c agG .nil)) g;rw [afy e] at h;exact h
theorem Wq (es:List a_) (ss:List (List Lk)) (g i:Bool) (c:es.length<2^39) {nt:Nat} (e:17<=nt):∀ (d k:Nat) (vs:List Rw),k+d=es.length->vs.length=k->aF prog ap [] nt (af 0 (ax f20)) (λ_=> .exit 0) (YC es ss g i) (aoL es ss g i) (k,vs) (es.length,vs++ζ d (wQ q0)):=by
 intro d
 induction d with
 |zero=>
  intro k vs hd b;obtain rfl:k=es.length:=by omega
  rw [List.replicate_zero,List.append_nil];have f:es.length<=es.length:=κ _;refine .done ?_;generalize j:es.length=k at b f;cases vs with
  |nil=>exact pN 20 [] 1 0 (.c (az (xG (by omega))) (.n 1 .nil)) (.nil) e
  |cons a r=>exact pN 20 [] 1 0 (.c (az (xG (by omega))) (.n 1 .nil)) (.nil) e
 |succ d ih=>
  intro k vs hd b;have h:=ih (k+1) (vs++ [wQ q0]) (by omega) (by simp [b]);rw [Xqe,show [wQ q0]++ζ d (wQ q0)=ζ (d+1) (wQ q0) from rfl] at h;exact .next (acR es ss g i c k vs b (by omega) e) h
abbrev Vay (a:List a_) (b:Bool) (c:List (List Lk)) (d:Bool):List AV:=[.sl (bV a) a.length b,.sl (eF c) c.length d,.sl [] 0 false]
theorem aoN (es:List a_) (ss:List (List Lk)) (a b:Bool) (vs:List Rw) (n:Nat) (c:LB 17 0 f20 (ahf (.agg [.sl (bV es) es.length a,.sl (eF ss) ss.length b,.sl [] 0 false]) [.sl (bV es) es.length a,.sl (eF ss) ss.length b,.sl [] 0 false]) (.normal) ⟨[(1,.ptr 0 0 0),(3,.nilS)],[(0,⟨[.sl (bV es) es.length a,.sl (eF ss) ss.length b,.sl [] 0 false],0,false,0,0,true⟩)],.dead,[]⟩):CO 20 [.agg (Vay es a ss b)] (.ret (.nilS)):=pK [0] 0 0 .nil (.l c .nil)
theorem aoM (es:List a_) (ss:List (List Lk)) (a b:Bool) (vs:List Rw) (n:Nat) (c:LB 17 0 f20 (ahf (.agg [.sl (bV es) es.length a,.sl (eF ss) ss.length b,.sl [] 0 false]) [.sl (bV es) es.length a,.sl (eF ss) ss.length b,.sl [] 0 false]) (.normal) ⟨[(1,.ptr 0 0 0),(3,.ref 1 0 0 n)],[(0,⟨[.sl (bV es) es.length a,.sl (eF ss) ss.length b,.sl [] 0 false],0,false,0,0,true⟩),(1,⟨(dF vs),0,false,0,3,true⟩)],.dead,[]⟩):CO 20 [.agg (Vay es a ss b)] (.ret (.own (π (n*3) (dF vs)) n 3)):=pK [0] 0 0 .nil (.l c .nil)
theorem acP (ss:List (List Lk)) (a b:Bool):CO 20 [kS [] ss a b] (.ret .nilS):=
 aoN [] ss a b [] 0 (aF.blk (λnt c=>Wq [] ss a b (by decide) c 0 0 [] rfl rfl) (by simp) rfl (aK.of ⟨rfl,rfl,rfl,trivial⟩) (aK.refl _))
theorem acQ (es:List a_) (ss:List (List Lk)) (e f:Bool) (c:es.length<2^39) (i:es ≠ []):CO 20 [kS es ss e f] (.ret (.own (dF (tX es)) es.length 3)):=by
 have b:=λnt (hn:17<=nt)=>Wq es ss e f c hn es.length 0 [] (Δ _) rfl
 rw [Xqc,<- yD] at b;cases d:tX es with
 |nil=>cases es with
  |nil=>exact absurd rfl i
  |cons a r=>simp [tX] at d
 | cons a r=>
  have g:(a::r).length=es.length:=by rw [<- d,tX];simp
  rw [d] at b;have h:=aoM es ss e f (a::r) es.length (aF.blk b (by simp) rfl (aK.of ⟨rfl,rfl,rfl,trivial⟩) (aK.refl _))
  first
   |exact h
   |(rw [φ (by rw [jc];omega)] at h;exact h)
def acJ (es:List a_) (ss:List (List Lk)) (ne ns:Bool) (xs:List Int) (nx:Bool) (n0:Nat) (p:Nat × List Rw):St:=(ack (.sl (iL xs) xs.length nx) n0 p.1 [.sl (bV es) es.length ne,.sl (eF ss) ss.length ns,.sl [] 0 false] (dF p.2))
def aoG (n0:Nat) (v:List Rw):St:=⟨[(5,.ref 0 0 0 n0)],[(0,⟨dF v,0,false,0,3,true⟩)],.dead,[]⟩
theorem ajD {v:List Rw} {k:Nat} (h:k<v.length) (r:Rw):π ((0+δ (k:Int))*3) (dF v)++r.c++ε (((0+δ (k:Int))*3)+3) (dF v)=dF (v.set k r):=by
 rw [aJ,Δ]
 induction v generalizing k with
 |nil=>simp at h
 | cons a l ih=>
  cases k with
  |zero=>simp [dF,Rw.c]
  |succ k=>
   have b:=ih (k:=k) (by simpa using h);show π ((k+1)*3) (a.c++dF l)++r.c++ε ((k+1)*3+3) (a.c++dF l)=a.c++dF (l.set k r);rw [<- b,show (k+1)*3=a.c.length+k*3 by simp [Rw.c];omega,List.take_length_add_append,Xj2,List.drop_length_add_append];simp [Xqe]
theorem aqc (es:List a_) (ss:List (List Lk)) (l j:Bool) (a:List Int) (i:Bool) (b:Nat) (v:List Rw) (k:Nat) (x:a_) (q p:List AV) (y:Int) (u n:Nat) (r:Rw) (o:k<2^62) (s:u<2^62) (f:k<b) (m:k<es.length) (t:v.length=b) (g:0<a.length)
  (hx:ε ((δ (k:Int))*14) (bV es)=ZL x++q) (hy:ε ((δ (((k % a.length):Nat):Int))*1) (iL a)= [ω y]++p)
  (c26:CO 26 [.agg (prC x)] (.ret (.tup [ω (u:Int),.bool true]))) (c35:CO 35 [ω y,ω ((u+1:Nat):Int)] (.ret (ω (n:Int)))) (c27:CO 27 [ω (n:Int)] (.ret (I_ false n 1))) (c38:CO 38 [.agg x.st.c,Ω false (ae n) (ae 1)] (.ret (.agg r.c))) {nt:Nat} (hn:52<=nt):
  ψ nt f14 (acJ es ss l j a i b (k,v)) .normal (acJ es ss l j a i b (k+1,v.set k r)):=by
 have c:(Xqn (((0+(δ (k:Int)))*3)+3) (θ (dF v)))=true:=Γ (by rw [jc,aJ];omega);have d:(!((a.length:Int)==((0:Nat):Int)))=true:=by rw [beq_eq_false_iff_ne.2 (by omega)];rfl
 have h:ψ nt f14 (ack (.sl (iL a) a.length i) b k [.sl (bV es) es.length l,.sl (eF ss) ss.length j,.sl [] 0 false] (dF v)) .normal (ack (.sl (iL a) a.length i) b (k+1) [.sl (bV es) es.length l,.sl (eF ss) ss.length j,.sl [] 0 false] (π ((0+(δ (k:Int)))*3) (dF v)++ [.bool r.n,.str r.a,.str r.d]++ε (((0+(δ (k:Int)))*3)+3) (dF v))):=pN 14 [] 2 3 (.c c (.c (pU k) (.c (aY f) (.k 1 (pU (k % a.length)) (.c (aY (Xq3 k g)) (.c d (.k 28 (pU k) (.c (aY m) (.k 1 (aA (aY g)) (.c (aA (aY f)) .nil)))))))))) (.v 22 (.eq (pO o)) (.c c38 (.c c27 (.c c35 (.v 46 (.eq (pO s)) (.v 43 (.ppt hy) (.v 42 (.eq (nP k a.length)) (.c c26 (.v 26 (.ppt hx) .nil))))))))) hn;have e:π ((0+δ (k:Int))*3) (dF v)++ [.bool r.n,.str r.a,.str r.d]++ε (((0+δ (k:Int))*3)+3) (dF v)=dF (v.set k r):=ajD (by omega) r;rw [e] at h;exact h
theorem aal {a:List Int} {i:Nat} (h:i<a.length):ε ((δ (i:Int))*1) (iL a)= [ω (a.getD i 0)]++iL (a.drop (i+1)):=UX h
theorem acK (es:List a_) (ss:List (List Lk)) (F C:Bool) (b:List Int) (y:Bool) (O:es.length<2^39) (N:∀ x ∈ es,x.sm) (f:∀ x ∈ es,qJ x) (k:Nat) (v:List Rw) (M:v.length=es.length) (c:k<es.length) (m:0<b.length):
  ∃ r:Rw,r.ti/\∀ nt,52<=nt->ψ nt f14 (acJ es ss F C b y es.length (k,v)) .normal (acJ es ss F C b y es.length (k+1,v.set k r)):=by
 obtain ⟨x,E,g,D⟩:∃ (x:a_) (E:List a_),x ∈ es/\ε ((δ (k:Int))*14) (bV es)=ZL x++bV E:=by
  refine ⟨es[k],es.drop (k+1),Xxj c, ?_⟩;have h:=fD DD (p:=es.take k) (x:=es[k]) (r:=es.drop (k+1)) (l:=es) (by simp);rw [Xqz,Nat.min_eq_left (Nat.le_of_lt c)] at h;exact h
 obtain ⟨I,w,Q,B,R,t⟩:=id (f x g);have e:=I;unfold jD at e;simp only [τ,decide_eq_true_eq] at e;have d:=e.2.2.2;have o:=(oW (a:=x.cp) (s:=x.st) (Yqs d)).2.2.1;have q:=Y5 x (f x g).sti (f x g).cti I;obtain ⟨u,S⟩:∃ u:Nat,aV x.cp x.st=(u:Int):=⟨(aV x.cp x.st).toNat,by omega⟩
 rw [S] at q d o;have A:=Xq3 k m;have j:=jw (b.getD (k % b.length) 0) (u+1);have z:=fF (a:=b.getD (k % b.length) 0) (n:=u+1);generalize iK (b.getD (k % b.length) 0) (u+1)=n at j z;have K:(⟨false,n,1⟩:RQ).ok:=⟨by simp,by simp,by simp⟩
 have i:∀ x:Nat,x<2^16->(ae x).length<=2:=λx D=>dw (k:=2) D
 have G:=Qg w.neg false (ae w.n) (ae w.d) (ae n) (ae 1) (by have:=i w.n (by omega);omega) (by have:=i w.d (by omega);omega) (by have:=i n (by omega);omega) (by have:=i 1 (by omega);omega);rw [yA,jS Q] at G;have J:(gJ w ⟨false,n,1⟩).n<=600:=by
  unfold gJ kC;refine Xqr (Xxg _ _) ?_;show w.n*n<=600;exact Xqr (Xwe B (by omega:n<=200)) (by decide)
 have T:(gJ w ⟨false,n,1⟩).d<=3:=by
  unfold gJ kC;refine Xqr (Xxg _ _) ?_;show w.d*1<=3;omega
 refine ⟨wQ (gJ w ⟨false,n,1⟩),⟨Xqr (i _ (by omega)) (by decide),i _ (by omega)⟩,λnt L=> ?_⟩;refine aqc es ss F C b y es.length v k x (bV E) _ _ u n (wQ (gJ w ⟨false,n,1⟩)) (by omega) (by omega) c c M m D (aal A) q j (bK n) ?_ L;rw [t];exact G
theorem af0 (es:List a_) (ss:List (List Lk)) (m p:Bool) (g:List Int) (o:Bool) (j:es.length<2^39) (i:∀ x ∈ es,x.sm) (l:∀ x ∈ es,qJ x):∀ (d k:Nat) (v:List Rw),k+d=es.length->v.length=es.length->(∀ y ∈ v,y.ti)->
  ∃ f:List Rw,f.length=es.length/\(∀ y ∈ f,y.ti)/\∀ nt,52<=nt->aF prog ap [] nt (af 0 (ax f14)) (λ_=> .exit 0) (acJ es ss m p g o es.length) (aoG es.length) (k,v) f:=by
 intro d
 induction d with
 |zero=>
  intro k v hd c hs;obtain rfl:k=es.length:=by omega
  have a:es.length<=es.length:=κ _;refine ⟨v,c,hs,λnt e=> .done ?_⟩;generalize es.length=k at a ⊢;exact pN 14 [] 2 0 (.k 1 (az (xG a)) .nil) (.nil) e
 | succ d ih=>
  intro k v hd c hs;by_cases b:0<g.length
  .obtain ⟨r,w,q⟩:=acK es ss m p g o j i l k v c (by omega) b;obtain ⟨f,u,t,h5⟩:=ih (k+1) (v.set k r) (by omega) (by simp [c]) (by
    intro y s;rcases List.mem_or_eq_of_mem_set s with h|h
    .exact hs y h
    .rw [h];exact w)
   exact ⟨f,u,t,λnt e=> .next (q nt e) (h5 nt e)⟩
  .have b:g.length<=0:=by omega
   have a:k<es.length:=by omega
   refine ⟨v,c,hs,λnt e=> .done ?_⟩;generalize es.length=n0 at a c ⊢;exact pN 14 [] 2 1 (.c (az (xG b)) (.c (aA (aY a)) .nil)) (.nil) e
theorem adm {f:Nat} {args:List AV} (h:CO f args (.ret .nilS)):CO f args (.ret (.sl [] 0 false)):=by
 refine ⟨h.len,h.ent,λm S w cargs a d=>(h.calls m S w cargs a d).mono ?_⟩
 rintro e w' ⟨m',S',hF⟩
 obtain ⟨cv,c,b⟩:=hF.out;exact ⟨m',S',hF.srel,hF.fr,cv,c,bY.nilS false rfl (bz []) m' S' cv b⟩
theorem Wn {es:List a_}:∀ y ∈ tX es,y.ti:=by
 intro y a;rw [yD] at a;rw [(List.mem_replicate.1 a).2];exact ⟨by decide,by decide⟩
theorem Wl {es:List a_}:∀ y ∈ tX es,y.sm:=λy a=>(Wn y a).sm
theorem aoI (es:List a_) (ss:List (List Lk)) (b c:Bool) (a:List Int) (d:Bool) (v w:List Rw) (g:Nat) (e:CO 20 [.agg (Vay es b ss c)] (.ret .nilS)) (f:LB 52 0 f14 (ahe (.agg [.sl (bV es) es.length b,.sl (eF ss) ss.length c,.sl [] 0 false]) (.sl (iL a) a.length d) [.sl (bV es) es.length b,.sl (eF ss) ss.length c,.sl [] 0 false]) (.normal) (E5 (.nilS))):CO 14 [.agg (Vay es b ss c),.sl (iL a) a.length d] (.ret (.nilS)):=pK [0] 0 0 (.n 3 .nil) (.l f (.c e .nil))
theorem aoH (es:List a_) (ss:List (List Lk)) (c d:Bool) (b:List Int) (e:Bool) (v w:List Rw) (a:Nat) (f:CO 20 [.agg (Vay es c ss d)] (.ret (.own (dF v) a 3))) (g:LB 52 0 f14 ⟨[(0,.agg [.sl (bV es) es.length c,.sl (eF ss) ss.length d,.sl [] 0 false]),(1,.sl (iL b) b.length e),(2,.ptr 0 0 0),(4,.nilS),(5,.ref 1 0 0 a),(6,ω 0),(7,.dead),(8,.dead),(20,.dead)],[(0,⟨[.sl (bV es) es.length c,.sl (eF ss) ss.length d,.sl [] 0 false],0,false,0,0,true⟩),(1,⟨(dF v),0,false,0,3,true⟩)],.dead,[]⟩ (.normal) ⟨[(5,.ref 0 0 0 a)],[(0,⟨(dF w),0,false,0,3,true⟩)],.dead,[]⟩):CO 14 [.agg (Vay es c ss d),.sl (iL b) b.length e] (.ret (.own (π (a*3) (dF w)) a 3)):=pK [0] 0 0 (.n 3 .nil) (.l g (.c f .nil))
def aoF (ss:List (List Lk)) (ne ns:Bool) (xs:List Int) (nx:Bool) (_:Nat):St:=⟨[(1,.sl (iL xs) xs.length nx),(5,.nilS),(6,ω 0)],[(0,⟨[.sl (bV []) ([]:List a_).length ne,.sl (eF ss) ss.length ns,.sl [] 0 false],0,false,0,0,true⟩)],.dead,[]⟩
def ahq (_:Nat):St:=(E5 (.nilS))
theorem aj9 (ss:List (List Lk)) (c e:Bool) (b:List Int) (d:Bool) {nt:Nat} (a:52<=nt):ψ nt f14 (aoF ss c e b d 0) (.exit 0) (ahq 0):=pN 14 [] 2 0 (.n 2 .nil) (.nil) a
theorem aks (es:List a_) (ss:List (List Lk)) (b d:Bool) (e:List Int) (f:Bool) (h:lZ es ss) (k:∀ x ∈ es,qJ x):∃ v:List Rw,v.length=es.length/\(∀ y ∈ v,y.ti)/\CO 14 [kS es ss b d,.sl (iL e) e.length f] (.ret (.sl (dF v) v.length false)):=by
 cases m:es with
 |nil=>
  have o:∀ nt,52<=nt->aF prog ap [] nt (af 0 (ax f14)) (λ_=> .exit 0) (aoF ss b d e f) ahq 0 0:=λnt r=> .done (aj9 ss b d e f r)
  have s:LB 52 0 f14 (ahe (.agg [.sl (bV []) ([]:List a_).length b,.sl (eF ss) ss.length d,.sl [] 0 false]) (.sl (iL e) e.length f) [.sl (bV []) ([]:List a_).length b,.sl (eF ss) ss.length d,.sl [] 0 false]) (.normal) (E5 (.nilS)):=aF.blk o (by simp) rfl (aK.of ⟨rfl,rfl,rfl,trivial⟩) (aK.refl _);have c:=aoI [] ss b d e f [] [] 0 (acP ss b d) s;exact ⟨[],rfl,by simp,adm c⟩
 |cons a l=>
  rw [<- m];have i:es ≠ []:=by rw [m];simp
  obtain ⟨v,j,p,q⟩:=af0 es ss b d e f h.len h.sm k es.length 0 (tX es) (Δ _) (by simp [tX]) Wn;have c:=aoH es ss b d e f (tX es) v es.length (acQ es ss b d h.len i) (aF.blk q (by simp) rfl (aK.of ⟨rfl,rfl,rfl,rfl,trivial⟩) (aK.refl _));have g:=c.thaw (by simp);simp only [sU,thaw] at g;rw [φ (by rw [Xqz];exact Nat.min_le_left _ _),φ (by rw [jc,j];exact κ _)] at g;refine ⟨v,j,p, ?_⟩;rw [j];exact Zd g
end Go.Proofs.Tryz
open Go AM Go.RowKit Go.Shelf
namespace Go.Proofs.Tryz
attribute [local go_sem] Oper.semAt_some
theorem Vx {w:World} {tmps:Array Value} {k:Nat} {b:Int} (d:tmps.getD 6 undef= .pointer (some ⟨k,0,none⟩)) (f:w.cell? ⟨k,0,none⟩=some (.int .i64 b)):(results f19 tmps).run prog w= .ok (.int .i64 b) w:=by
 refine oV (vs:= [.int .i64 b]) rfl ?_;intro i r v c a
 match i with
 | 0=>
  simp only [Xxb,Option.some.injEq] at a;subst a;have:r= .cell 6 48:=by
   have h0:f19.results.toList[0]? =some (.cell 6 48):=rfl;rw [h0] at c;exact (Option.some.inj c).symm
  subst this;have e:prog.underlying 48=some (.int .i64):=by kernel_rfl
  simp only [zJ,d];simp [asAddr,loadVar,e,f,go_sem]
 |n+1=>simp at a
theorem Y0 {w W0:World} {a b c:Array Value} {ta tb tc:TypeId} (h:((w.alloc (.cells a ta)).alloc (.cells b tb)).alloc (.cells c tc)=W0):
  Below w.heap.size w W0/\W0.heap.size=w.heap.size+3/\W0.heap[w.heap.size]? =some (.cells a ta)/\W0.heap[w.heap.size+1]? =some (.cells b tb)/\W0.heap[w.heap.size+1+1]? =some (.cells c tc):=by
 subst h;refine ⟨(((Below.refl _ w).alloc (κ _) _).alloc (by simp) _).alloc (by simp;omega) _,by simp, ?_, ?_, ?_⟩
 .rw [Below.heap_alloc _ _ _ (by simp;omega),Below.heap_alloc _ _ _ (by simp),World.alloc_heap_new]
 .rw [Below.heap_alloc _ _ _ (by simp)];have:=World.alloc_heap_new (w.alloc (.cells a ta)) (.cells b tb);rwa [World.size_alloc] at this
 .have:=World.alloc_heap_new ((w.alloc (.cells a ta)).alloc (.cells b tb)) (.cells c tc);rwa [World.size_alloc,World.size_alloc] at this
theorem Y6 {S:aO} {c:List (List Rw)} {g:Bool} {u:Value} (h:PR S (.sl (vw c) c.length g) u):∃ ao cap b o,u= .slice ao c.length cap/\c.length<=cap/\(0<c.length->ao=some ⟨b,o,none⟩)/\∀ i (d:i<c.length),∃ x,S b (o+i)=some x/\PR S (fZ c[i]) x:=by
 simp only [PR] at h;obtain ⟨a,cap,rfl,e,h⟩:=h;rcases h with ⟨_,_,h,_⟩|⟨b,o,vs,rfl,f,j⟩
 .exact ⟨a,cap,0,0,rfl,e,λl=>absurd h (by omega),λi d=>absurd h (by omega)⟩
 .refine ⟨_,cap,b,o,rfl,e,λ_=>rfl,λi d=> ?_⟩;rw [FW] at f;obtain ⟨x,k,hp⟩:=Md f i (x:=fZ c[i]) (by rw [Xqw,μ d];rfl);exact ⟨x,(j i x k).1,hp⟩
theorem RG {S:aO} {c:List (List Rw)} {cap b o k:Nat} (p:k<=c.length) (i:0<c.length) (m:c.length<=cap) (h:PR S (.sl (vw c) c.length false) (.slice (some ⟨b,o,none⟩) c.length cap)):PR S (.sl (vw (c.drop k)) (c.drop k).length false) (.slice (some ⟨b,o+k,none⟩) (c.length - k) (cap - k)):=by
 simp only [PR] at h ⊢;obtain ⟨a,d,e,_,h⟩:=h;cases e;rcases h with ⟨_,_,h,_⟩|⟨q,r,vs,e,f,l⟩
 .omega
 .cases e;refine ⟨_,_,by rw [Xx4],by rw [Xx4];omega,.inr ⟨b,o+k,vs.drop k,rfl, ?_, ?_⟩⟩
  .rw [FW,Xj0];rw [FW] at f;exact qB k f
  .intro j u g;rw [List.getElem?_drop] at g;rw [Xj2];exact l _ u g
structure AcI (B:Bx) (W3:World) (ch:List (List Rw)) (pre:List El) (W:World):Prop where
 keep:dI B W3 W
 low:∀ k,k<B.c->W.heap[k]? =W3.heap[k]?
 box:W.cell? ⟨B.c,0,none⟩=some (.int .i64 (pre.length:Int))/\W.frozen? ⟨B.c,0,none⟩=false
 els:(∀ x ∈ pre,x.e=0)/\pre.map El.v<+:ch
theorem AcI.own {B:Bx} {W3:World} {g:List (List Rw)} (h:B.c<W3.heap.size):wU W3.heap.size (AcI B W3 g):=by
 rintro pre A A' row ⟨h1,h2,⟨h3,h4⟩,h6⟩ hg hr
 have c:∀ r,row=some r->∃ o:Obj,A.heap[r]? =some o/\o.isCells=false:=λr e=>by obtain ⟨_,o,a,b,_⟩:=hr r e;exact ⟨o,a,b⟩
 have f:dI B A A':=dI.grown (υ h h1.size) hg (λr e=> ⟨by have:=(hr r e).1;omega,(hr r e).2⟩);refine ⟨h1.trans f,λk d=>(hg.block k (by have:=h1.size;omega) ?_).trans (h2 k d),⟨cell_kept h3 hg c,(frozen_kept h3 hg c).trans h4⟩,h6⟩;intro e;have:=(hr k e.symm).1;omega
def AcX (w W3:World) (ch:List (List Rw)) (c:Code) (pre:List El) (W:World):Prop:=c= .ret/\(∃ p x,pre=p++ [x]/\(x.e ≠ 0\/¬ pre.map El.v<+:ch)/\W.cell? ⟨w.heap.size+1+1,0,none⟩=some (.int .i64 26))/\Below w.heap.size w W
theorem AcX.own {w W3:World} {f:List (List Rw)} (g:w.heap.size<=W3.heap.size) (c:Code):wU W3.heap.size (AcX w W3 f c):=by
 rintro pre A A' row ⟨h1,⟨p,x,h2,h3,h4⟩,h7⟩ hg hr
 have d:∀ r,row=some r->∃ o:Obj,A.heap[r]? =some o/\o.isCells=false:=λr e=>by obtain ⟨_,o,a,b,_⟩:=hr r e;exact ⟨o,a,b⟩
 exact ⟨h1,⟨p,x,h2,h3,cell_kept h4 hg d⟩,h7.grown hg h7.size λk e=>by have:=(hr k e).1;omega⟩
def YH (L:List (List Rw × Int)) (ch:List (List Rw)) (v:List Rw) (S:aO) (w:World) (e:Ending) (w':World):Prop:=
 ∃ x:Int,e= .returned (.int .i64 x)/\qy S w S w'/\(x=0\/x=26)/\(x=0↔(∀ p ∈ L,p.2=0)/\ch=L.map (·.1)/\ch.getLast? =some v)
theorem RH {c a:List (List Rw)} {v:List Rw} (h:c<+:a) (b:c ≠ []):a.drop (c.length - 1)= [v]↔a=c/\a.getLast? =some v:=by
 obtain ⟨r,rfl⟩:=h;obtain ⟨q,y,rfl⟩:∃ q y,c=q++ [y]:=⟨c.dropLast,c.getLast b,(List.dropLast_concat_getLast b).symm⟩
 have e:(q++ [y]++r).drop ((q++ [y]).length - 1)=y::r:=by simp
 rw [e];constructor
 .intro h;simp only [List.cons.injEq] at h;obtain ⟨rfl,rfl⟩:=h;simp
 .rintro ⟨h1,h2⟩
  have:r= []:=by simpa using h1
  subst this;simp at h2;rw [h2]
attribute [local go_sem] Oper.semAt_some
set_option maxRecDepth 100000 in
set_option maxHeartbeats 1000000 in
theorem Wy (es:List a_) (ss:List (List Lk)) (ne ns:Bool) (ck:Int) (h0:ck ≠ 0) (hck:CO 33 [kS es ss ne ns] (.ret (.int .i64 ck)))
  (S:aO) (w:World) (v0 v1 v2 uv:Value) (ac:Option Addr) (lc cc:Nat) (hS:iV S (bf w)) (hg:dY ap S) (hv:PR S (kS es ss ne ns) (.agg #[v0,v1,v2])) (n:Nat) (hn:4<=n):
  CallsIn Fence.wide n prog 19 #[.agg #[v0,v1,v2],uv,.slice ac lc cc] w λe w'=>e= .returned (.int .i64 ck)/\qy S w S w':=by
 have hf33:Fence.wide.fn 33:=trivial;have hx:decide (ck=0)=false:=Yq1 h0;have h1n:1<=n:=by omega
 obtain ⟨W0,hW0⟩:∃ W0,((w.alloc (.cells #[v0,v1,v2] 37)).alloc (.cells #[.slice ac lc cc] 47)).alloc (.cells #[.int .i64 0] 48)=W0:=⟨_,rfl⟩
 obtain ⟨hb0,hz0,a1,a2,a3⟩:=Y0 hW0;have hS0:iV S (bf W0):=λk o v h=>gp hb0 k o v (hS k o v h)
 have e0:W0.cell? ⟨w.heap.size,0,none⟩=some v0:=(bi a1 0).1;have e1:W0.cell? ⟨w.heap.size,1,none⟩=some v1:=(bi a1 1).1;have e2:W0.cell? ⟨w.heap.size,2,none⟩=some v2:=(bi a1 2).1;refine callsIn_of_wp_marks Tryz.func19 rfl trivial ?_ rfl;simp only [Tryz.ntmps19,Xxh,ο,Xqa,Xzd,Xze,Array.replicate_succ,Array.replicate_zero,Xjd,Xx0,Xqc,Xqt]
 gi_wp2_with (first|(gi_at_call 33;refine (O1 hck rfl (S:=S) (W:=W0) hS0 hg (by simp only [bT];exact ⟨hv,trivial⟩)).mono ?_;rintro e W1 ⟨S1,cv,rfl,hr1,ha1⟩;simp only [jB,PR] at hr1;subst hr1;have b3:=bi ((ha1.bel.block (w.heap.size+1+1) (by omega)).trans a3) 0;have c3:=b3.1;have d3:=b3.2;clear b3;simp only [Xzl,Xxb] at c3)|gi_in)
 exact ⟨_,Vx rfl (World.cell?_setCell_same' _ _ _ (by rw [c3];rfl)),rfl,qF hS ((hb0.trans (ha1.bel.mono (by omega))).setCell (p:=⟨w.heap.size+1+1,0,none⟩) (by show w.heap.size<=w.heap.size+1+1;omega) _)⟩
theorem dI.setc {B:Bx} {W:World} {i j:Int} (h:W.cell? ⟨B.c,0,none⟩=some (.int .i64 i)):dI B W (W.setCell ⟨B.c,0,none⟩ (.int .i64 j)):=by
 have b:(W.setCell ⟨B.c,0,none⟩ (.int .i64 j)).cell? ⟨B.c,0,none⟩=some (.int .i64 j):=World.cell?_setCell_same' _ _ _ (by rw [h];rfl);have l:(W.setCell ⟨B.c,0,none⟩ (.int .i64 j)).heap.size=W.heap.size:=by simp [World.setCell]
 refine ⟨rfl,rfl,rfl,by omega,λk o v e=> ?_,λ_ k f=> ?_⟩
 .obtain ⟨a,m,d,c⟩:=bW.1 e;refine bW.2 ⟨a,λg=> ?_,by rw [iY (Below.heap_setCell _ _ _ _ a)];exact d,c⟩;have:=(qi b).1 g;cases this
 .have:=(qi b).1 f;cases this
theorem ahI {w W0 W1:World} {x y z:Value} (c:Below W0.heap.size W0 W1) (e:W0.heap.size=w.heap.size+3) (h:W0.heap[w.heap.size]? =some (.cells #[x,y,z] 37)):
  ∃ W2,(W1.alloc (.cells #[.int .i64 0] 3)).setCell ⟨W1.heap.size,0,none⟩ (.int .i64 0)=W2/\Below W1.heap.size W1 W2/\W2.cell? ⟨w.heap.size,0,none⟩=some x/\W2.cell? ⟨w.heap.size,1,none⟩=some y/\W2.cell? ⟨w.heap.size,2,none⟩=some z/\W2.cell? ⟨W1.heap.size,0,none⟩=some (.int .i64 0)/\W2.frozen? ⟨W1.heap.size,0,none⟩=false/\W2.heap.size=W1.heap.size+1:=by
 have a:Below W1.heap.size W1 ((W1.alloc (.cells #[.int .i64 0] 3)).setCell ⟨W1.heap.size,0,none⟩ (.int .i64 0)):=((Below.refl _ W1).alloc (κ _) _).setCell (p:=⟨W1.heap.size,0,none⟩) (κ _) _;have b:=(a.block w.heap.size (by have:=c.size;omega)).trans ((c.block w.heap.size (by omega)).trans h);have d:=bi (World.alloc_heap_new W1 (.cells #[.int .i64 0] 3)) 0;exact ⟨_,rfl,a,(bi b 0).1,(bi b 1).1,(bi b 2).1,World.cell?_setCell_same' _ _ _ (by rw [d.1];rfl),by simp [d.2],by simp [World.setCell]⟩
theorem YW {S:aO} {w W0 W1 W2 W3:World} {f:Value} {m:Int} (D:f.oneCell'=true) (l:iV S (bf w)) (i:Below w.heap.size w W0) (B:Below W0.heap.size W0 W1) (A:W0.heap.size=w.heap.size+3) (s:Below W1.heap.size W1 W2) (F:W2.heap.size=W1.heap.size+1) (t:W2.cell? ⟨W1.heap.size,0,none⟩=some (.int .i64 0)) (C:W2.frozen? ⟨W1.heap.size,0,none⟩=false) (g:(W2.alloc (.cells #[.int .i64 m] 3)).alloc (.cells #[f] 144)=W3) (u:w.heap.size<=W1.heap.size):
  W3.heap.size=W1.heap.size+3/\Below W1.heap.size W1 W3/\W3.cell? ⟨W1.heap.size,0,none⟩=some (.int .i64 0)/\W3.frozen? ⟨W1.heap.size,0,none⟩=false/\(∀ k,¬ gK W3 ⟨S,W1.heap.size,W1.heap.size,κ _⟩ k)/\iV S (still ⟨S,W1.heap.size,W1.heap.size,κ _⟩ W3)/\still ⟨S,W1.heap.size,W1.heap.size,κ _⟩ W3 W2.heap.size 0=some (.int .i64 m)/\still ⟨S,W1.heap.size,W1.heap.size,κ _⟩ W3 (W2.heap.size+1) 0=some f:=by
 have z:W3.heap.size=W1.heap.size+3:=by rw [<- g];simp;omega
 have b:Below W2.heap.size W2 W3:=by
  rw [<- g];exact ((Below.refl _ W2).alloc (κ _) _).alloc (by simp) _
 have p:Below W1.heap.size W1 W3:=s.trans (b.mono (by omega));have c:W3.cell? ⟨W1.heap.size,0,none⟩=some (.int .i64 0):=(World.cell?_of_block (a:=⟨W1.heap.size,0,none⟩) (b.block W1.heap.size (by omega))).trans t;have j:W3.frozen? ⟨W1.heap.size,0,none⟩=false:=(World.frozen?_of_block (a:=⟨W1.heap.size,0,none⟩) (b.block W1.heap.size (by omega))).trans C;have q:W3.heap[W2.heap.size]? =some (.cells #[.int .i64 m] 3):=by
  rw [<- g,Below.heap_alloc _ _ _ (by simp)];exact World.alloc_heap_new W2 _
 have r:W3.heap[W2.heap.size+1]? =some (.cells #[f] 144):=by
  have:=World.alloc_heap_new (W2.alloc (.cells #[.int .i64 m] 3)) (.cells #[f] 144);rw [World.size_alloc] at this;rw [<- g];exact this
 have d:∀ k,¬ gK W3 ⟨S,W1.heap.size,W1.heap.size,κ _⟩ k:=by
  rintro k ⟨ad,x,y,h,_⟩
  rw [show W3.cell? ⟨W1.heap.size,0,none⟩=_ from h] at c;cases c
 refine ⟨z,p,c,j,d, ?_, ?_, ?_⟩
 .intro k o v e;have E:k<w.heap.size:=oG (l k o v e);refine bW.2 ⟨by show k ≠ W1.heap.size;omega,d k, ?_,λ_=>e⟩;exact gp (i.trans ((B.mono (by omega)).trans (p.mono u))) k o v (l k o v e)
 .exact bW.2 ⟨by show W2.heap.size ≠ W1.heap.size;omega,d _,iW ((bi q 0).1) rfl,λh=>by have:W2.heap.size<W1.heap.size:=h;omega⟩
 .exact bW.2 ⟨by show W2.heap.size+1 ≠ W1.heap.size;omega,d _,iW ((bi r 0).1) D,λh=>by have:W2.heap.size+1<W1.heap.size:=h;omega⟩
attribute [local go_sem] Oper.semAt_some
set_option maxRecDepth 100000 in
set_option maxHeartbeats 1000000 in
theorem Rn (es:List a_) (ss:List (List Lk)) (ne ns:Bool) (hck:CO 33 [kS es ss ne ns] (.ret (.int .i64 0))) (hm:es.length<=60) {F:List Rw->Int ⊕ List Rw} {inv:List Rw->Prop} (hN:zY (kS es ss ne ns) es.length F inv) {L:List (List Rw × Int)} (hL:sZ F (ζ es.length (wQ q0)) L) (hi0:inv (ζ es.length (wQ q0))) (hLL:L.length<=1048576)
  (S:aO) (w:World) (a0:Option Addr) (p0:Nat) (v1 v2 uv:Value) (v:List Rw) (ch:List (List Rw)) (ac:Option Addr) (cc b o:Nat) (hch:ch.length<2^40) (hcl:∀ x ∈ ch,x.length<2^40) (hS:iV S (bf w)) (hg:dY ap S) (hv:PR S (kS es ss ne ns) (.agg #[.slice a0 es.length p0,v1,v2]))
  (huv:PR S (fZ v) uv) (huc:PR S (.sl (vw ch) ch.length false) (.slice ac ch.length cc)) (hcc:ch.length<=cc) (hac:0<ch.length->ac=some ⟨b,o,none⟩) (hat:∀ i (hi:i<ch.length),∃ x,S b (o+i)=some x/\PR S (fZ ch[i]) x) (n:Nat) (hn:4<=n):
  CallsIn Fence.wide n prog 19 #[.agg #[.slice a0 es.length p0,v1,v2],uv,.slice ac ch.length cc] w (YH L ch v S w):=by
 have hf33:Fence.wide.fn 33:=trivial;have hf44:Fence.wide.fn 44:=trivial;have hf45:Fence.wide.fn 45:=trivial;have hf46:Fence.wide.fn 46:=trivial;have h1n:1<=n:=by omega
 obtain ⟨W0,hW0⟩:∃ W0,((w.alloc (.cells #[.slice a0 es.length p0,v1,v2] 37)).alloc (.cells #[.slice ac ch.length cc] 47)).alloc (.cells #[.int .i64 0] 48)=W0:=⟨_,rfl⟩
 obtain ⟨hb0,hz0,a1,a2,a3⟩:=Y0 hW0;have hS0:iV S (bf W0):=λk o v h=>gp hb0 k o v (hS k o v h)
 have e0:W0.cell? ⟨w.heap.size,0,none⟩=some (.slice a0 es.length p0):=(bi a1 0).1;have e1:W0.cell? ⟨w.heap.size,1,none⟩=some v1:=(bi a1 1).1;have e2:W0.cell? ⟨w.heap.size,2,none⟩=some v2:=(bi a1 2).1;refine callsIn_of_wp_marks Tryz.func19 rfl trivial ?_ rfl;simp only [Tryz.ntmps19,Xxh,ο,Xqa,Xzd,Xze,Array.replicate_succ,Array.replicate_zero,Xjd,Xx0,Xqc,Xqt]
 gi_wp2_with (first
  |(gi_at_call 33;refine (O1 hck rfl (S:=S) (W:=W0) hS0 hg (by simp only [bT];exact ⟨hv,trivial⟩)).mono ?_;rintro e W1 ⟨S1,cv,rfl,hr1,ha1⟩;simp only [jB,PR] at hr1;subst hr1;obtain ⟨W2,hW2,hb2,c10,c11,c12,kc,kf,z2⟩:=ahI ha1.bel hz0 a1)
  |(gi_at_call 44;refine (LG _ _ _ _).mono ?_;rintro e W3 ⟨rfl,rfl⟩)
  |gi_in)
 have hl:w.heap.size<=W1.heap.size:=by have:=ha1.bel.size;omega
 obtain ⟨W3,hW3⟩:∃ W3,(W2.alloc (.cells #[.int .i64 (es.length:Int)] 3)).alloc (.cells #[.func (.func 41) #[.agg #[.slice a0 es.length p0,v1,v2]] #[]] 144)=W3:=⟨_,rfl⟩
 obtain ⟨z3,hb13,kc3,kf3,nb,hSs,s1,s2⟩:=YW (f:= .func (.func 41) #[.agg #[.slice a0 es.length p0,v1,v2]] #[]) rfl hS hb0 ha1.bel hz0 hb2 z2 kc kf hW3 hl;rw [hW3];have hcW:(⟨S,W1.heap.size,W1.heap.size,κ _⟩:Bx).c<W3.heap.size:=by show W1.heap.size<_;omega
 have hg3:dY ap (still ⟨S,W1.heap.size,W1.heap.size,κ _⟩ W3):=by
  intro k xs hk;obtain ⟨vs,h1,h2⟩:=hg k xs hk;exact ⟨vs,bD hSs _ h1,λj u hu=> ⟨hSs _ _ _ (h2 j u hu).1,(h2 j u hu).2⟩⟩
 refine Lr h1n (gf:=81) (lb:=#[.pointer (some ⟨W1.heap.size+1,0,none⟩),.pointer (some ⟨W1.heap.size+1+1,0,none⟩)]) rfl (enters_of Tryz.func81 (by kernel_rfl) rfl)
  (yj (n - 1) (by omega) (W1.heap.size+1) (W1.heap.size+1+1) ⟨S,W1.heap.size,W1.heap.size,κ _⟩ es.length hm hN hL hi0 W3 hcW (by rw [<- z2];exact s1) (by rw [<- z2];exact s2) (aZ hSs _ hv) hg3 (λk h=>absurd h (nb k))) (λ_=>rfl)
  (AcI ⟨S,W1.heap.size,W1.heap.size,κ _⟩ W3 ch) (AcX w W3 ch) (AcI.own hcW) (AcX.own (by omega)) (elG.own hcW) (λ_ _ _ _ h _ _=>h) (λ_ _ _ _ h _ _=>h) (λh k=>h.trans k)
  (λW l o o' hlW h1 h2 h3=>dI.put W l o o' h1 h2 h3 (by have:W1.heap.size<_:=hcW;show W1.heap.size ≠ l;omega))
  ⟨dI.refl _ _,λ_ _=>rfl,⟨kc3,kf3⟩,(λx hx=>by cases hx),List.nil_prefix⟩
  (λx=> {tmps:=#[.agg #[.slice a0 es.length p0,v1,v2],uv,.slice ac ch.length cc,.pointer (some ⟨w.heap.size,0,none⟩),undef,.pointer (some ⟨w.heap.size+1,0,none⟩),.pointer (some ⟨w.heap.size+1+1,0,none⟩),.int .i64 0,.pointer (some ⟨W1.heap.size,0,none⟩),x.u,.int .i64 x.e,.agg #[.slice a0 es.length p0,v1,v2],.int .i64 0,.int .i64 0,.bool false,undef,.pointer (some ⟨w.heap.size,0,none⟩),.slice a0 es.length p0,.int .i64 es.length,.agg #[.slice a0 es.length p0,v1,v2],.agg #[.slice a0 es.length p0,v1,v2],.func (.func 41) #[.agg #[.slice a0 es.length p0,v1,v2]] #[],.func (.func 81) #[] #[.pointer (some ⟨W1.heap.size+1,0,none⟩),.pointer (some ⟨W1.heap.size+1+1,0,none⟩)],x.u,.int .i64 x.e,undef,undef,undef,undef,undef,undef,undef,undef,undef,undef,undef,undef,undef,undef,undef,undef,undef,undef,undef,undef,undef,undef,undef,undef,undef,undef,undef],defers:= []}) ?assign ?body ?done ?stop
 case assign=>
  intro l x W K hK
  gi_wp2
  exact hK
 case body=>
  rintro l pre ⟨xv,xe,xu⟩ W ⟨hk,hlow,⟨hcv,hcf⟩,hels,hpx⟩ ⟨hcw,hxu,hpre⟩
  have hcw2:W1.heap.size<W.heap.size:=hcw;have hlen:pre.length<=1048576:=by
   have:=hpre.length_le;simp at this;omega
  have hh:∀ k,k<W0.heap.size->W.heap[k]? =W0.heap[k]? :=λk h=>(hlow k (by show k<W1.heap.size;have:=ha1.bel.size;omega)).trans ((hb13.block k (by have:=ha1.bel.size;omega)).trans (ha1.bel.block k h))
  have hbW:Below w.heap.size w W:=hb0.trans ⟨hk.os.trans (hb13.os.trans ha1.bel.os),hk.tape.trans (hb13.tape.trans ha1.bel.tape),hk.output.trans (hb13.output.trans ha1.bel.output),by have:=ha1.bel.size;omega,λk h=>hh k (by omega)⟩;have hl3:w.heap.size+3<=W1.heap.size:=by have:=ha1.bel.size;omega
  have b2:=bi ((hh (w.heap.size+1) (by omega)).trans a2) 0;have b3:=bi ((hh (w.heap.size+1+1) (by omega)).trans a3) 0;obtain ⟨c2,d2⟩:=b2;obtain ⟨c3,d3⟩:=b3;simp only [Xzl,Xxb] at c2 c3;have hend:∀ W5,Below W.heap.size W W5->(xe ≠ 0\/¬ (pre++ [(⟨xv,xe,xu⟩:El)]).map El.v<+:ch)->KeepsOthers W (W5.setCell ⟨w.heap.size+1+1,0,none⟩ (.int .i64 26))/\AcX w W3 ch .ret (pre++ [⟨xv,xe,xu⟩]) (W5.setCell ⟨w.heap.size+1+1,0,none⟩ (.int .i64 26)):=by
   intro W5 hb5 hq;have c5:=(World.cell?_of_block (a:=⟨w.heap.size+1+1,0,none⟩) (hb5.block (w.heap.size+1+1) (by omega))).trans c3;refine ⟨(KeepsOthers.of_grownBy (ja hb5 none) (λj o e=>by cases e)).trans (KeepsOthers.setCell _ _ _),rfl,⟨pre,_,rfl,hq,World.cell?_setCell_same' _ _ _ (by rw [c5];rfl)⟩, ?_⟩;exact (hbW.trans (hb5.mono (by omega))).setCell (p:=⟨w.heap.size+1+1,0,none⟩) (by show w.heap.size<=w.heap.size+1+1;omega) _
  by_cases hx:xe=0
  .subst hx;by_cases hal:pre.length<ch.length
   .have hn1:decide ((ch.length:Int)<=(pre.length:Int))=false:=Yq1 (by omega);have hn2:(pre.length:Int)<(ch.length:Int):=by omega
    have hn3:¬ ((ch.length:Int)<=(pre.length:Int)):=by omega
    obtain ⟨xi,hx1,hx2⟩:=hat pre.length hal;have hac2:=hac (by omega);subst hac2;have hSW:iV S (still ⟨S,W1.heap.size,W1.heap.size,κ _⟩ W):=λk o v e=>hk.stl _ _ _ (hSs _ _ _ e)
    have hxo:xi.oneCell'=true:=by
     have:=hx2;simp only [fZ,PR] at this;obtain ⟨ad,cap,e,_⟩:=this;rw [e];rfl
    have hci:W.cell? ⟨b,o+pre.length,none⟩=some xi:=nH (C_ _ _ _ _ _ (hSW _ _ _ hx1)) hxo;obtain ⟨ai,ci,rfl⟩:=Gx (b:=false) (v:=ch[pre.length]) (S:=S) (by simpa only [jB] using hx2);obtain ⟨au,cu,rfl⟩:=Gx (b:=false) (v:=xv) (S:=still ⟨S,W1.heap.size,W1.heap.size,κ _⟩ W) (by simpa only [jB] using hxu);have hfe:=Np ch[pre.length] xv false false (hcl _ (Xxj hal));by_cases heq:ch[pre.length]=xv
    .rw [Yq0 heq] at hfe;have heqH:Hid (ch[pre.length]=xv):=heq;clear heq
     gi_wp2_with (refine ⟨λ_=>by omega, ?_⟩;gi_at_call 45;refine (CallsIn.inRound l (kM hfe rfl hcw (hk.back (λk h=>absurd h (nb k))) (hk.glob hg3) (by simp only [bT];exact ⟨aZ hSW _ hx2,hxu,trivial⟩))).mono ?_;rintro ee W5 ⟨cv,rfl,hr5,hb5⟩;simp only [jB,PR] at hr5;subst hr5;have c5:=(World.cell?_of_block (a:=⟨W1.heap.size,0,none⟩) (hb5.block W1.heap.size hcw2)).trans hcv;have d5:=(World.frozen?_of_block (a:=⟨W1.heap.size,0,none⟩) (hb5.block W1.heap.size hcw2)).trans hcf)
     have hkc:dI ⟨S,W1.heap.size,W1.heap.size,κ _⟩ W W5:=dI.below hcw hb5;have hks:=dI.setc (B:=⟨S,W1.heap.size,W1.heap.size,κ _⟩) (j:=(pre.length:Int)+1) c5;refine ⟨(KeepsOthers.of_grownBy (ja hb5 none) (λj o e=>by cases e)).trans (KeepsOthers.setCell _ _ _),hkc.trans hks,hk.trans (hkc.trans hks),λk hk'=> ?_,⟨?_,by simp [d5]⟩, ?_, ?_⟩
     .have hk':k<W1.heap.size:=hk';rw [Below.heap_setCell _ _ _ _ (by show k ≠ W1.heap.size;omega),hb5.block k (by omega)];exact hlow k hk'
     .rw [ν,Θ];exact World.cell?_setCell_same' _ _ _ (by rw [c5];rfl)
     .intro y hy;rcases List.mem_append.1 hy with hy|hy
      .exact hels y hy
      .rw [List.mem_singleton.1 hy]
     .rw [Xq5];obtain ⟨r,rfl⟩:=hpx;cases r with
      |nil=>simp at hal
      |cons y r=>
       have:=heqH.out;simp at this;exact ⟨r,by simp [this]⟩
    .rw [Yq1 heq] at hfe
     gi_wp2_with (refine ⟨λ_=>by omega, ?_⟩;gi_at_call 45;refine (CallsIn.inRound l (kM hfe rfl hcw (hk.back (λk h=>absurd h (nb k))) (hk.glob hg3) (by simp only [bT];exact ⟨aZ hSW _ hx2,hxu,trivial⟩))).mono ?_;rintro ee W5 ⟨cv,rfl,hr5,hb5⟩;simp only [jB,PR] at hr5;subst hr5;have c5:=(World.cell?_of_block (a:=⟨w.heap.size+1+1,0,none⟩) (hb5.block (w.heap.size+1+1) (by omega))).trans c3;have d5:=(World.frozen?_of_block (a:=⟨w.heap.size+1+1,0,none⟩) (hb5.block (w.heap.size+1+1) (by omega))).trans d3)
     refine hend W5 hb5 (.inr λh=>heq ?_);obtain ⟨r,hr⟩:=h;rw [Xq5] at hr;have:(ch)[pre.length]? =some xv:=by rw [<- hr];simp
     rw [μ hal] at this;exact Option.some.inj this
   .have hn1:decide ((ch.length:Int)<=(pre.length:Int))=true:=Yq0 (by omega);have hn2:(ch.length:Int)<=(pre.length:Int):=by omega
    gi_wp2
    exact hend W (Below.refl _ _) (.inr λh=>by have:=h.length_le;simp at this;omega)
  .have hxd:decide (xe=0)=false:=Yq1 hx
   gi_wp2
   exact hend W (Below.refl _ _) (.inl hx)
 case done=>
  rintro D xs W hD hxs ⟨hk,hlow,⟨hcv,hcf⟩,hels,hpx⟩ hK
  obtain ⟨x,hx⟩:∃ x,xs.getLast? =some x:=by
   cases h:xs.getLast? with
   |some x=>exact ⟨x,rfl⟩
   |none=>
    rw [Xv2] at h;subst h;rw [<- hxs] at hL;cases hL
  obtain ⟨ys,rfl⟩:=List.getLast?_eq_some_iff.1 hx;have hzl:(ys++ [x]).length=ys.length+1:=by simp
  rw [hzl] at hcv;have hyl:ys.length<=1048576:=by
   have:(ys++ [x]).length=L.length:=by rw [<- hxs,Xqp]
   omega
  have hpl:ys.length+1<=ch.length:=by have:=hpx.length_le;rwa [Xqp,hzl] at this
  have hac2:=hac (by omega);subst hac2;obtain ⟨av,cv,rfl⟩:=Gx (b:=false) (v:=v) (S:=S) (by simpa only [jB] using huv);have hl3:w.heap.size+3<=W1.heap.size:=by have:=ha1.bel.size;omega
  have hh:∀ k,k<W0.heap.size->W.heap[k]? =W0.heap[k]? :=λk h=>(hlow k (by show k<W1.heap.size;omega)).trans ((hb13.block k (by omega)).trans (ha1.bel.block k h))
  have hcw2:W1.heap.size<W.heap.size:=by have:=hk.size;omega
  have hbW:Below w.heap.size w W:=hb0.trans ⟨hk.os.trans (hb13.os.trans ha1.bel.os),hk.tape.trans (hb13.tape.trans ha1.bel.tape),hk.output.trans (hb13.output.trans ha1.bel.output),by omega,λk h=>hh k (by omega)⟩;have b2:=bi ((hh (w.heap.size+1) (by omega)).trans a2) 0;have b3:=bi ((hh (w.heap.size+1+1) (by omega)).trans a3) 0;obtain ⟨c2,d2⟩:=b2;obtain ⟨c3,d3⟩:=b3;simp only [Xzl,Xxb] at c2 c3;have hn1:(ys.length:Int)<=(ch.length:Int):=by omega
  have hn2:(ch.length:Int)<=(cc:Int):=by omega
  have hn3:(0:Int)<=(ys.length:Int):=by omega
  have hbA:Below W.heap.size W (W.alloc (.cells #[.slice av v.length cv] 43)):=(Below.refl _ W).alloc (κ _) _;have hkA:dI ⟨S,W1.heap.size,W1.heap.size,κ _⟩ W (W.alloc (.cells #[.slice av v.length cv] 43)):=dI.below hcw2 hbA;have hSA:iV S (still ⟨S,W1.heap.size,W1.heap.size,κ _⟩ (W.alloc (.cells #[.slice av v.length cv] 43))):=λk o v e=>hkA.stl _ _ _ (hk.stl _ _ _ (hSs _ _ _ e))
  have hcA:(W.alloc (.cells #[.slice av v.length cv] 43)).cell? ⟨W1.heap.size,0,none⟩=some (.int .i64 ((ys.length+1:Nat):Int)):=(World.cell?_of_block (a:=⟨W1.heap.size,0,none⟩) (hbA.block _ hcw2)).trans hcv;have hnA:∀ k,¬ gK (W.alloc (.cells #[.slice av v.length cv] 43)) ⟨S,W1.heap.size,W1.heap.size,κ _⟩ k:=λk h=>by
   have:=(qi (c:=⟨S,W1.heap.size,W1.heap.size,κ _⟩) hcA).1 h;cases this
  have hvA:PR (still ⟨S,W1.heap.size,W1.heap.size,κ _⟩ (W.alloc (.cells #[.slice av v.length cv] 43))) (.sl (vw [v]) [v].length false) (.slice (some ⟨W.heap.size,0,none⟩) 1 1):=by
   simp only [PR];refine ⟨_,_,rfl,κ _,.inr ⟨W.heap.size,0,[.slice av v.length cv],rfl,⟨aZ hSA _ huv,trivial⟩, ?_⟩⟩;intro j u hu;cases j with
   |zero=>
    cases hu;exact ⟨bW.2 ⟨by show W.heap.size ≠ W1.heap.size;omega,hnA _,iW (bi (World.alloc_heap_new W (.cells #[.slice av v.length cv] 43)) 0).1 rfl,λh=>by have:W.heap.size<W1.heap.size:=h;omega⟩,rfl⟩
   |succ j=>simp at hu
  have hdA:=RG (k:=ys.length) (by omega) (by omega) hcc (aZ hSA _ huc);have hfA:PR (still ⟨S,W1.heap.size,W1.heap.size,κ _⟩ (W.alloc (.cells #[.slice av v.length cv] 43))) (.fn 45 [] []) (.func (.func 45) #[] #[]):=by
   simp only [PR];exact ⟨[],[],rfl,trivial,trivial⟩
  have hfs:=Z8 (ch.drop ys.length) [v] false false (by rw [Xx4];omega) (λy hy=>hcl y (List.mem_of_mem_drop hy));have hlast:=RH (v:=v) hpx (by simp);rw [Xqp,hzl,Nat.add_sub_cancel] at hlast;have hLm:(ys++ [x]).map El.v=L.map (·.1):=by rw [<- hxs,Xzh];rfl
  have hL0:∀ p ∈ L,p.2=0:=λp hp=>by
   rw [<- hxs] at hp;obtain ⟨y,hy,rfl⟩:=List.mem_map.1 hp;exact hels y hy
  have hD1:D<W.heap.size:=(Array.getElem?_eq_some_iff.1 hK).1;have fin:∀ (W5:World) (z:Int),Below (W.alloc (.cells #[.slice av v.length cv] 43)).heap.size (W.alloc (.cells #[.slice av v.length cv] 43)) W5->(z=0\/z=26)->(z=0↔ch.drop ys.length= [v])->∃ W6,W6=W5.setCell ⟨w.heap.size+1+1,0,none⟩ (.int .i64 z)/\W6.heap[D]? =some (.deferred (some []))/\(W6.putObj D (.deferred none)).cell? ⟨w.heap.size+1+1,0,none⟩=some (.int .i64 z)/\YH L ch v S w (.returned (.int .i64 z)) (W6.putObj D (.deferred none)):=by
   intro W5 z hb5 hz hzz;have hb5':Below W.heap.size W W5:=hbA.trans (hb5.mono (by simp));have c5:=(World.cell?_of_block (a:=⟨w.heap.size+1+1,0,none⟩) (hb5'.block (w.heap.size+1+1) (by omega))).trans c3;have k6:(W5.setCell ⟨w.heap.size+1+1,0,none⟩ (.int .i64 z)).heap[D]? =some (.deferred (some [])):=(Below.heap_setCell _ _ _ _ (by show D ≠ w.heap.size+1+1;omega)).trans ((hb5'.block D hD1).trans hK);have hb6:Below w.heap.size w (W5.setCell ⟨w.heap.size+1+1,0,none⟩ (.int .i64 z)):=(hbW.trans (hb5'.mono (by omega))).setCell (p:=⟨w.heap.size+1+1,0,none⟩) (by show w.heap.size<=w.heap.size+1+1;omega) _;refine ⟨_,rfl,k6, ?_,z,rfl,qF hS (hb6.trans ((Below.refl _ _).grown (grownBy_putObj' _ D _) hb6.size (λk e=>by cases e;omega))),hz, ?_⟩
   .rw [World.cell?_of_block (World.putObj_heap_other (show w.heap.size+1+1 ≠ D by omega))];exact World.cell?_setCell_same' _ _ _ (by rw [c5];rfl)
   .rw [hzz,hlast,hLm];exact ⟨λh=> ⟨hL0,h⟩,λh=>h.2⟩
  clear hx hpx;by_cases heq:ch.drop ys.length= [v]
  .rw [Yq0 heq] at hfs;have heqH:Hid (ch.drop ys.length= [v]):=heq;clear heq
   gi_wp2_with (gi_at_call 46;refine (kM hfs rfl (υ hcw2 hbA.size) (λk h=>absurd h (hnA k)) (hkA.glob (hk.glob hg3)) (by simp only [bT];exact ⟨hdA,hvA,hfA,trivial⟩)).mono ?_;rintro ee W5 ⟨cv,rfl,hr5,hb5⟩;simp only [jB,PR] at hr5;subst hr5;have hb5w:Below W.heap.size W W5:=hbA.trans (hb5.mono (by simp));have c5:=(World.cell?_of_block (a:=⟨w.heap.size+1+1,0,none⟩) (hb5w.block (w.heap.size+1+1) (by omega))).trans c3;have d5:=(World.frozen?_of_block (a:=⟨w.heap.size+1+1,0,none⟩) (hb5w.block (w.heap.size+1+1) (by omega))).trans d3)
   obtain ⟨W6,rfl,k6,x6,hp6⟩:=fin W5 0 hb5 (.inl rfl) ⟨λ_=>heqH.out,λ_=>rfl⟩;exact ⟨by simp,.inl ⟨_,_,rfl,run_takeDeferred k6,_,Vx rfl x6,hp6⟩⟩
  .rw [Yq1 heq] at hfs;have heqH:Hid (¬ ch.drop ys.length= [v]):=heq;clear heq
   gi_wp2_with (gi_at_call 46;refine (kM hfs rfl (υ hcw2 hbA.size) (λk h=>absurd h (hnA k)) (hkA.glob (hk.glob hg3)) (by simp only [bT];exact ⟨hdA,hvA,hfA,trivial⟩)).mono ?_;rintro ee W5 ⟨cv,rfl,hr5,hb5⟩;simp only [jB,PR] at hr5;subst hr5;have hb5w:Below W.heap.size W W5:=hbA.trans (hb5.mono (by simp));have c5:=(World.cell?_of_block (a:=⟨w.heap.size+1+1,0,none⟩) (hb5w.block (w.heap.size+1+1) (by omega))).trans c3;have d5:=(World.frozen?_of_block (a:=⟨w.heap.size+1+1,0,none⟩) (hb5w.block (w.heap.size+1+1) (by omega))).trans d3)
   obtain ⟨W6,rfl,k6,x6,hp6⟩:=fin W5 26 hb5 (.inr rfl) ⟨(λh=>by cases h),λh=>absurd h heqH.out⟩;exact ⟨by simp,.inl ⟨_,_,rfl,run_takeDeferred k6,_,Vx rfl x6,hp6⟩⟩
 case stop=>
  rintro D c pre W hD hSp ⟨rfl,⟨p,x,rfl,hx,x1⟩,hbW⟩ hK
  gi_wp2
  refine ⟨by simp,.inl ⟨_,_,rfl,run_takeDeferred hK, ?_⟩⟩;have oC:∀ k v,k<W3.heap.size->W.cell? ⟨k,0,none⟩=some v->(W.putObj D (.deferred none)).cell? ⟨k,0,none⟩=some v:=λk v h hv=>(World.cell?_of_block (World.putObj_heap_other (show k ≠ D by omega))).trans hv
  refine ⟨_,Vx rfl (oC _ _ (by have:=ha1.bel.size;omega) x1),26,rfl,qF hS (hbW.trans ((Below.refl _ W).grown (grownBy_putObj' W D _) hbW.size (λk e=>by cases e;omega))),.inr rfl,⟨(λh=>by cases h), ?_⟩⟩
  rintro ⟨h1,h2,_⟩
  exfalso;rcases hx with hx|hx
  .exact hx (h1 x.p (hSp.subset (by simp)))
  .apply hx;rw [h2];have:=hSp.map (·.1);rwa [Xzh] at this
def aht (n:Nat) (es:List a_) (r:Int ⊕ List (List Rw)) (v:List Rw) (ch:List (List Rw)):Int:=
 if wV n es ≠ 0 then wV n es else match r with
  | .inl _=>26
  | .inr c=>if ch=c/\ch.getLast? =some v then 0 else 26
theorem VN {S:aO} {d:List AV} {n:Nat} {b:Bool} {u:Value} (h:PR S (.sl d n b) u):PR S (.sl d n false) u:=by
 simp only [PR] at h ⊢;obtain ⟨a,c,e,g,f⟩:=h;refine ⟨a,c,e,g, ?_⟩;rcases f with ⟨_,h⟩|h
 .exact .inl ⟨by simp,h⟩
 .exact .inr h
theorem Dq (es:List a_) (ss:List (List Lk)) (A t nv V:Bool) (h:lZ es ss) (v:List Rw) (j:List (List Rw)) (O:j.length<2^40) (J:∀ x ∈ j,x.length<2^40) {r:Int ⊕ List (List Rw)} (hr:Dt ss es r):
  CO 19 [kS es ss A t,.sl (dF v) v.length nv,.sl (vw j) j.length V] (.ret (ω (aht ss.length es r v j))):=by
 have m:=ql es ss A t h.len h.sm;refine age (enters_of Tryz.func19 (by kernel_rfl) rfl) rfl λS w cargs R T a=> ?_
 match cargs,a with
 | [u,uv,uc],a=>
  simp only [bT] at a;obtain ⟨a,l,f,_⟩:=a;have l:=VN l;have f:=VN f;obtain ⟨X,p0,v1,Y,rfl⟩:=LU a;obtain ⟨ac,Z,b,o,rfl,C,I,K⟩:=Y6 f;rcases hr with ⟨g,rfl⟩|⟨h0,k⟩
  .refine (Wy es ss A t _ g m S w _ _ _ _ _ _ _ R T a 9 (by omega)).mono ?_
   rintro e w' ⟨rfl,ha⟩
   refine ⟨S,_,rfl, ?_,ha⟩;simp only [jB,PR];unfold aht;rw [if_pos g]
  .rw [h0] at m;obtain ⟨M,F,N,d,B,_⟩:=Dx h0 h.sm;have hN:zY (kS es ss A t) es.length (rf ss es) (λv=>v.length=es.length/\∀ y ∈ v,y.sm):=by
    refine ⟨λv a=> ?_,λv a=>a.1,λv w a s=> ⟨uN s,CJ h.sm s⟩,λv e a s=>vZ s⟩;exact Jh es ss v A t false M h.len F a.1.symm h.ls d λi hi=>h.env a.2 i
   obtain ⟨L,E,Q⟩:=Qx (λv e s=>vZ s) k;have D:wJ ss.length es:=⟨d,λx z=>(B x z).2⟩
   have G:∀ x ∈ es,jD x=true:=λx z=>(d x z).cap
   obtain ⟨z1,z2⟩:=nS G;have hLl:=QE D E z1 λw hw=>Eo G (fV d hw)
   have U:=RF G;rw [yD] at E k;have hz:∀ y ∈ ζ es.length (wQ q0),y.sm:=λy hy=>by
    rw [(List.mem_replicate.1 hy).2];have:=fC (q:=q0) (by kernel_rfl);exact ⟨χ this.1 (by omega),χ this.2 (by omega)⟩
   refine (Rn es ss A t m N hN E ⟨Xxa,hz⟩ (by omega) S w X p0 v1 Y uv v j ac Z b o O J R T a l f C I K 9 (by omega)).mono ?_
   rintro e w' ⟨x,rfl,ha,z,hxx⟩
   refine ⟨S,_,rfl, ?_,ha⟩;simp only [jB,PR];congr 1;unfold aht;rw [if_neg (by rw [h0];simp)];cases r with
   |inl e=>
    obtain ⟨q,pv,rfl,_,g⟩:=Q;rcases z with rfl|rfl
    .exact absurd ((hxx.1 rfl).1 (pv,e) (by simp)) g
    .rfl
   | inr c=>
    obtain ⟨rfl,_⟩:=Q;have e1:(c.map λv=>(v,(0:Int))).map (·.1)=c:=by rw [Xzh];exact List.map_id'' (λ_=>rfl) c
    rw [e1] at hxx;have e2:∀ p ∈ c.map λv=>(v,(0:Int)),p.2=0:=λp hp=>by obtain ⟨_,_,rfl⟩:=List.mem_map.1 hp;rfl
    show x=if j=c/\j.getLast? =some v then 0 else 26
    split
    .rename_i h;exact hxx.2 ⟨e2,h⟩
    .rename_i h;rcases z with rfl|rfl
     .exact absurd (hxx.1 rfl).2 h
     .rfl
def leB (a b:List Rw):Bool:=decide (a.length=b.length) && (a.zip b).all λp=>leW p.1 p.2
theorem U5 {x y:Rw}:leW x y=true↔x.v.rt<=y.v.rt:=by
 have h:=(vC (fJ x.n x.a x.d) (fJ y.n y.a y.d)).2.2;unfold leW;rw [Xqs,decide_eq_false_iff_not];constructor
 .intro q;exact Rat.not_lt.1 λa=>q (h.2 a)
 .intro q a;exact absurd (h.1 a) (Rat.not_lt.2 q)
theorem BU:∀ {a b:List Rw},leB a b=true↔wM a b
 | [],[]=> ⟨λ_=>wM.nil,λ_=>rfl⟩
 | [],y::b=> ⟨λh=>by simp [leB] at h,λh=>by have:=h.1;simp at this⟩
 |x::a,[]=> ⟨λh=>by simp [leB] at h,λh=>by have:=h.1;simp at this⟩
 | x::a,y::b=>by
  have c:=BU (a:=a) (b:=b);unfold leB at c ⊢;simp only [ο,Nat.add_right_cancel_iff,Xzn,Xzr,τ,decide_eq_true_eq] at c ⊢;constructor
  .rintro ⟨h1,h2,h3⟩
   exact wM.cons (U5.1 h2) (c.1 ⟨h1,h3⟩)
  .intro h;have:=c.2 h.tail;exact ⟨this.1,U5.2 h.head,this.2⟩
theorem aoT (a b:List Rw) (g f:Bool) (c:a.length<2^40) (d:∀ x ∈ a,x.ti) (e:∀ x ∈ b,x.ti):CO 24 [.sl (dF a) a.length g,.sl (dF b) b.length f] (.ret (.bool (leB a b))):=ael a b g f c d e
section
variable {es:List a_} {ss:List (List Lk)}
theorem yh {w r:List Rw} (h:kz ss es w= .inr r):wV ss.length es=0/\eY es w/\rf ss es w= .inr r:=by
 unfold kz at h;split at h
 .rename_i h0;split at h
  .rename_i a;exact ⟨by have:=beq_iff_eq.1 h0;omega,Lu.1 a,h⟩
  .cases h
 .cases h
theorem Qq {w:List Rw} (h0:wV ss.length es=0) (a:eY es w):kz ss es w=rf ss es w:=by
 unfold kz;rw [if_pos (by rw [h0];rfl),if_pos (Lu.2 a)];rfl
theorem am9 {w r:List Rw} (a:∀ x ∈ es,qJ x) (b:lZ es ss) (h:kz ss es w= .inr r):∀ y ∈ r,y.ti:=by
 obtain ⟨h0,_,c⟩:=yh h;exact Qn a (fV (Dx h0 b.sm).2.2.2.1 c)
theorem akm {w r:List Rw} (a:lZ es ss) (h:kz ss es w= .inr r):r.length<2^40:=by
 have:=uN (yh h).2.2;have:=a.len;omega
theorem am8 {w:List Rw} {e:Int} (a:lZ es ss) (h:kz ss es w= .inl e):e ≠ 0:=by
 unfold kz at h;split at h
 .split at h
  .exact vZ h
  .cases h;decide
 .rename_i h0;cases h;intro e;exact h0 (by rw [e];rfl)
theorem VB {v:List Rw} {r:Int ⊕ List (List Rw)} (j:lZ es ss) (d:wJ ss.length es) (h:Kr (rf ss es) v r):(∀ y ∈ v,y.sm)->eY es v->(∀ e,r= .inl e->e ≠ 0)/\∀ c,r= .inr c->(∃ l,c.getLast? =some l/\eY es l/\rf ss es l= .inr l/\∀ y ∈ l,y.sm)/\(∀ x ∈ c,eY es x/\∀ y ∈ x,y.sm)/\c.head? =some v:=by
 induction h with
 |err h1=>intro _ _;exact ⟨λe b=>(by cases b;exact vZ h1),λc a=>(by cases a)⟩
 |fix h1=>intro i f;exact ⟨λe b=>(by cases b),λc a=>by cases a;exact ⟨⟨_,rfl,f,h1,i⟩,λx g=>by rcases List.mem_singleton.1 g with rfl;exact ⟨f,i⟩,rfl⟩⟩
 |stepE h1 hn _ ih=>
  intro i f;obtain ⟨q,_⟩:=ih (CJ j.sm h1) (fV d.ok h1);exact ⟨λe b=>q e (by cases b;rfl),λc a=>(by cases a)⟩
 |stepC h1 hn _ ih=>
  intro i f;obtain ⟨_,k⟩:=ih (CJ j.sm h1) (fV d.ok h1);refine ⟨λe b=>(by cases b),λc a=> ?_⟩;cases a;obtain ⟨⟨l,m,o⟩,p,_⟩:=k _ rfl;refine ⟨⟨l,by rw [Yqg,m];rfl,o⟩,λx g=> ?_,rfl⟩;rcases List.mem_cons.1 g with rfl|g
  .exact ⟨f,i⟩
  .exact p x g
theorem alQ (j:lZ es ss):(∃ e,e ≠ 0/\Dt ss es (.inl e))\/∃ (c:List (List Rw)) (v:List Rw),wV ss.length es=0/\wJ ss.length es/\Kr (rf ss es) (tX es) (.inr c)/\c.getLast? =some v/\eY es v/\kz ss es v= .inr v/\(∀ y ∈ v,y.sm)/\Dt ss es (.inr c):=by
 by_cases h0:wV ss.length es=0
 .obtain ⟨_,_,_,f,d,_⟩:=Dx h0 j.sm;have a:wJ ss.length es:=⟨f,λx i=>(d x i).2⟩
  obtain ⟨r,g,_⟩:=abK a;obtain ⟨k,l⟩:=VB j a g Wl (nS λx i=>(f x i).cap).1;cases r with
  |inl e=>exact .inl ⟨e,k e rfl,.inr ⟨h0,g⟩⟩
  |inr c=>
   obtain ⟨⟨v,m,b,o,h⟩,_⟩:=l c rfl;exact .inr ⟨c,v,h0,a,g,m,b,by rw [Qq h0 b,o],h,.inr ⟨h0,g⟩⟩
 .exact .inl ⟨_,h0,.inl ⟨h0,rfl⟩⟩
theorem ao1 {c:List (List Rw)} {v w r:List Rw} (o:lZ es ss) (h0:wV ss.length es=0) (a:wJ ss.length es) (b:Kr (rf ss es) (tX es) (.inr c)) (i:c.getLast? =some v) (h:kz ss es w= .inr r) (k:leB r w=true):leB v w=true:=by
 obtain ⟨_,e,m⟩:=yh h;have d:∀ x ∈ es,jD x=true:=λx j=>(a.ok x j).cap
 obtain ⟨l,f,g⟩:=X8 a e m (BU.1 k) b (nS d).1 (Eo d e);rw [i] at f;cases f;exact BU.2 g
theorem akn {v w p q:List Rw} (e:lZ es ss) (c:wM v w) (h:kz ss es v= .inr p) (f:kz ss es w= .inr q):leB p q=true:=by
 obtain ⟨h0,g,i⟩:=yh h;obtain ⟨_,_,_,b,a,_⟩:=Dx h0 e.sm;exact BU.2 (uO g.len c (λx d=> ⟨b x d,(a x d).2⟩) i (yh f).2.2)
theorem ajC (a:wJ ss.length es) {v:List Rw} {r:Int ⊕ List (List Rw)} (h:Kr (rf ss es) v r):eY es v->(∀ w,rf ss es v= .inr w->wM v w)->∀ c,r= .inr c->∀ k x y,c[k]? =some x->c[k+1]? =some y->rf ss es x= .inr y/\x ≠ y/\wM x y/\eY es x:=by
 induction h with
 |err h1=>intro _ _ c b;cases b
 |fix h1=>intro _ _ c b k x y d f;cases b;simp at f
 |stepE h1 hn _ ih=>intro _ _ c b;cases b
 | stepC h1 hn h2 ih=>
  intro i e o b k x y d f;cases b;rename_i v w c;have j:=fV a.ok h1;have g:∀ u,rf ss es w= .inr u->wM w u:=λu m=>uO i.len (e w h1) (λx d=> ⟨a.ok x d,a.ris x d⟩) h1 m
  cases k with
  |zero=>
   have l:c.head? =some w:=by cases h2<;>rfl
   simp only [Xxb,Option.some.injEq] at d;subst d;rw [Xja,<- List.head?_eq_getElem?,l] at f;cases f;exact ⟨h1,hn,e w h1,i⟩
  |succ k=>exact ih j g c rfl k x y d f
theorem ako {c:List (List Rw)} (p:lZ es ss) (h0:wV ss.length es=0) (a:wJ ss.length es) (b:Kr (rf ss es) (tX es) (.inr c)):c.length<=JR es+1/\(∀ x ∈ c,eY es x/\∀ y ∈ x,y.sm)/\c.head? =some (tX es)/\∀ k x y,c[k]? =some x->c[k+1]? =some y->kz ss es x= .inr y/\x ≠ y/\leB x y=true:=by
 have g:∀ x ∈ es,jD x=true:=λx e=>(a.ok x e).cap
 have f:=(nS g).1;obtain ⟨r,i,d⟩:=abK a;have:=Kr.det b i;subst this;obtain ⟨_,j⟩:=VB p a b Wl f;obtain ⟨_,s,q⟩:=j c rfl;refine ⟨d c rfl,s,q,λk x y e m=> ?_⟩;obtain ⟨t,h,u,l⟩:=ajC a b f (λw o=>Eo g (fV a.ok o)) c rfl k x y e m;exact ⟨by rw [Qq h0 l,t],h,BU.2 u⟩
end
end Go.Proofs.Tryz
set_option maxRecDepth 100000
open Go AM Go.ChangeShapes Go.WideShapes Go.ChangeAt Go.RowKit
namespace Go.Proofs.Tryz
noncomputable def Iz (t:TypeId) (d:DataW Unit):List Lit:=((oM prog 6 t d 0).getD []).map (·.2)
open Go.Proofs.YtcpedihclbogjaaGreatDoor
def aar:List (String × DataW Unit):= [("unicode/utf8.acceptRanges",Rows.laid_unicode_utf8_acceptRanges),("tithing/expr.table",Rows.laid_tithing_expr_table),("unicode/utf8.first",Rows.laid_unicode_utf8_first)]
theorem XE:aar.filter (λx=>x.2.handleName?.isSome)= []:=by kernel_rfl
theorem alI {W:World} (h:laidMetH prog aar W):YM ap W:=by
 have c (i:Nat) (n:String) (d:DataW Unit) (hm:aar[i]? =some (n,d)) (g:Nat) (t:TypeId) (hg:prog.globalNamed n=some g) (ht:(prog.globals[g]?).map (·.type)=some t)
   (hl:oM prog 6 t d 0=some ((Iz t d).zipIdx.map λ(l,i)=>(i,l))):=SX h XE (Xqm hm) hg ht hl
 have f:=c 1 _ _ rfl 0 160 (by kernel_rfl) (by kernel_rfl) (by kernel_rfl);have e:=c 0 _ _ rfl 2 272 (by kernel_rfl) (by kernel_rfl) (by kernel_rfl);have key (k:Nat) (t:TypeId) (d:DataW Unit) (hx:(ap.gl[k]?).join=some ((Iz t d).map PK)) (ho:(Iz t d).all Iy=true) (hc:∀ (j:Nat) (l:Lit),(Iz t d)[j]? =some l->W.cell? ⟨k,j,none⟩=some (tH l)):
   ∀ b,(ap.gl[k]?).join=some b->∃ ls:List Lit,b=ls.map PK/\ls.all Iy=true/\∀ (j:Nat) (l:Lit),ls[j]? =some l->W.cell? ⟨k,j,none⟩=some (tH l):=by
  intro b a;rw [hx] at a;cases a;exact ⟨_,rfl,ho,hc⟩
 intro k
 match k with
 |0=>exact key 0 _ _ (by kernel_rfl) (by kernel_rfl) f
 |1=>intro b a;exact absurd (show (none:Option (List AV))=some b from a) (by simp)
 |2=>exact key 2 _ _ (by kernel_rfl) (by kernel_rfl) e
 |3=>intro b a;exact absurd (show (none:Option (List AV))=some b from a) (by simp)
 |k+4=>
  intro b a;have:ap.gl.length=4:=by kernel_rfl
  rw [Xq9 (by omega)] at a;cases a
theorem own:ownKnob prog.godebug=none:=by kernel_rfl
theorem aoS:laidOutB prog=true:=by kernel_rfl
noncomputable def ajQ (t:TypeId) (d:DataW Unit):Obj->Obj
 | .cells _ t' fr=> .cells ((Iz t d).map tH).toArray t' fr
 |o=>o
noncomputable def akj (os:Os):World:=
 let w:=World.holding prog os ⟨#[],#[],[]⟩
 {w with heap:=((w.heap.modify 0 (ajQ 160 Rows.laid_tithing_expr_table)).modify 1 (ajQ 269 Rows.laid_unicode_utf8_first)).modify 2 (ajQ 272 Rows.laid_unicode_utf8_acceptRanges)}
end Go.Proofs.Tryz
set_option maxRecDepth 100000
set_option linter.unusedVariables false
open Go AM Go.ChangeShapes Go.WideShapes Go.ChangeAt Go.RowKit
namespace Go.Proofs.Tryz
open Go.Proofs.YtcpedihclbogjaaGreatDoor
section
variable {H:Type}
theorem akR (d:DataW H):1<=Rows.uptoBulk d:=by
 cases d with
 |lit x=>cases x<;>simp [Rows.uptoBulk]
 |_=>simp [Rows.uptoBulk]
theorem G7:∀ {l:List (DataW H)} {d:DataW H},d ∈ l->Rows.uptoBulk d<=Rows.uptoBulkAll l
 |x::r,d,h=>by
  simp only [Rows.uptoBulkAll];rcases List.mem_cons.1 h with rfl|h
  .omega
  .have:=G7 h;omega
theorem OX:∀ l:List (DataW H),l.length<=Rows.uptoBulkAll l
 | []=>Xq7 _
 |x::r=>by
  simp only [Rows.uptoBulkAll,ο];have:=OX r;have:=akR x;omega
theorem agc:aku (Rows.uptoBulk (H:=H)) where
 str s:=by simp only [Rows.uptoBulk];omega
 agg l d h:=by
  simp only [Rows.uptoBulk];have:=G7 h;omega
 slc l r:=by
  simp only [Rows.uptoBulk];exact ⟨λd h=>by have:=G7 h;omega,by have:=OX l;omega⟩
theorem F_ {α:Type} {b:Nat} {ks:List DK} (f:α->List AV) (Q:α->Prop) (d:∀ x,f_ b ks x->∃ a,x=f a/\Q a):∀ L:List (List AV),(∀ x ∈ L,f_ b ks x)->∃ l:List α,L.flatten=l.flatMap f/\L.length=l.length/\∀ a ∈ l,Q a
 | [],_=> ⟨[],rfl,rfl,λa h=>by cases h⟩
 |x::L,h=>by
  obtain ⟨a,e,q⟩:=d x (h x (by simp));obtain ⟨l,j,g,i⟩:=F_ f Q d L λy c=>h y (by simp [c])
  refine ⟨a::l,by rw [List.flatten_cons,Xxx,e,j],by simp [g],λy c=> ?_⟩;rcases List.mem_cons.1 c with rfl|c
  .exact q
  .exact i y c
abbrev kI:List DK:= [.slc [.int .i64]]
abbrev kQ:List DK:= [.bool,.str,.str]
abbrev kV:List DK:= [.slc [.int .i64],.slc [.int .i64],.slc kQ]
theorem apl {b:Nat} {a:List AV} (h:f_ b [.int .i64] a):∃ y:Int,a= [ω y]/\True:=by
 cases h with|int h=>cases h with|nil=>exact ⟨_,rfl,trivial⟩
theorem ad5 (l:List Int):(l.flatMap λa=> [ω a])=iL l:=by
 induction l with
 |nil=>rfl
 |cons a r ih=>rw [Xxx,ih];rfl
theorem aam {b:Nat} {L:List (List AV)} (h:∀ x ∈ L,f_ b [.int .i64] x):∃ l:List Int,Xvk L.flatten L.length false= .sl (iL l) l.length false:=by
 obtain ⟨l,c,a,_⟩:=F_ (λy:Int=> [ω y]) (λ_=>True) (λx d=>apl d) L h;exact ⟨l,by rw [c,a,ad5]⟩
theorem alR {b:Nat} {a:List AV} (h:f_ b kI a):∃ l:List Int,a= [.sl (iL l) l.length false]/\True:=by
 cases h with|slc hx hl h=>cases h with|nil=>
  obtain ⟨l,e⟩:=aam hx;exact ⟨l,by rw [e],trivial⟩
theorem anl {b:Nat} {a:List AV} (h:f_ b kQ a):∃ y:Rw,a=y.c/\y.a.length<=b/\y.d.length<=b:=by
 cases h with|bool h=>cases h with|str h1 h=>cases h with|str h2 h=>cases h with|nil=>exact ⟨⟨_,_,_⟩,rfl,h1,h2⟩
theorem am4 {b:Nat} {L:List (List AV)} (h:∀ x ∈ L,f_ b kQ x):∃ l:List Rw,Xvk L.flatten L.length false= .sl (dF l) l.length false:=by
 obtain ⟨l,c,a,_⟩:=F_ (λy:Rw=>y.c) (λy:Rw=>y.a.length<=b/\y.d.length<=b) (λx d=>anl d) L h;exact ⟨l,by rw [c,a];rfl⟩
variable {enc:TypeId × Value->H} {W:World} {base:Nat}
def alM:Option TypeDesc->Bool|some (.struct _)=>true|_=>false
theorem aeV {t:TypeId} {n:Nat} {ks:List DK} (b:alM (prog.underlying t)=true) (i:Hm prog n t=some ks) {v:Value} {d:DataW H} {p:List MemPlace} (f:Value.okWide prog W .any base t v) (h:DataW.Trod enc prog W 0 (λ_=>true) true t v d p):
  ∃ e,f_ (Rows.uptoBulk d) ks e/\PR (jT W) (.agg e) v:=by
 obtain ⟨c,b⟩:∃ c,prog.underlying t=some (.struct c):=by
  unfold alM at b;split at b
  .rename_i c h;exact ⟨c,h⟩
  .cases b
 obtain ⟨a,h⟩:=h;obtain ⟨e,j,g,_⟩:=KE agc (λ_=>rfl) n t ks i a _ _ h;refine ⟨e,j, ?_⟩;simp only [Value.okWide,b] at f;obtain ⟨cs,rfl,_⟩:=f;rw [PR];exact ⟨cs.toList,by simp,g⟩
theorem aeU {t e:TypeId} {n:Nat} {ks:List DK} (g:prog.underlying t=some (.slice e)) (f:Hm prog n t=some [.slc ks]) {v:Value} {d:DataW H} {p:List MemPlace} (i:Value.okWide prog W .any base t v) (h:DataW.Trod enc prog W 0 (λ_=>true) true t v d p):
  ∃ L:List (List AV),(∀ x ∈ L,f_ (Rows.uptoBulk d) ks x)/\PR (jT W) (.sl L.flatten L.length false) v:=by
 obtain ⟨a,h⟩:=h;obtain ⟨j,b,c,_⟩:=KE agc (λ_=>rfl) n t _ f a _ _ h;rw [QG g i] at c;cases b with|slc hx hl b=>cases b with|nil=>
  simp only [bT,and_true] at c;exact ⟨_,hx,c⟩
theorem aoX {v:Value} {d:DataW H} {p:List MemPlace} (g:Value.okWide prog W .any base 22 v) (h:DataW.Trod enc prog W 0 (λ_=>true) true 22 v d p):
  ∃ l:List (List Int),PR (jT W) (.sl (jC l) l.length false) v:=by
 obtain ⟨L,c,a⟩:=aeU (n:=5) (ks:=kI) (e:=42) (by kernel_rfl) (by kernel_rfl) g h;obtain ⟨l,f,b,_⟩:=F_ (λxs:List Int=> [Xvk (iL xs) xs.length false]) (λ_=>True) (λx i=>alR i) _ c;rw [f,b] at a;exact ⟨l,a⟩
theorem aoW {v:Value} {d:DataW H} {p:List MemPlace} (f:Value.okWide prog W .any base 23 v) (h:DataW.Trod enc prog W 0 (λ_=>true) true 23 v d p):
  ∃ f0 f1 f2:Int,v= .agg #[.int .i64 f0,.int .i64 f1,.int .i64 f2]:=by
 have a:=XM (n:=4) (ks:= [.int .i64,.int .i64,.int .i64]) (by kernel_rfl) h;generalize b:v.cells.toList=c2 at a;rcases a with _|@⟨_,q0,_,_,a⟩|_|_;rcases a with _|@⟨_,e,_,_,a⟩|_|_;rcases a with _|@⟨_,c,_,_,a⟩|_|_;cases a;rw [MF b (by simp)] at f ⊢;exact ⟨q0,e,c,rfl⟩
theorem aoY {v:Value} {d:DataW H} {p:List MemPlace} (k:Value.okWide prog W .any base 45 v) (h:DataW.Trod enc prog W 0 (λ_=>true) true 45 v d p):
  ∃ (b c:List Int) (e:List Rw),PR (jT W) (.agg [.sl (iL b) b.length false,.sl (iL c) c.length false,.sl (dF e) e.length false]) v:=by
 obtain ⟨l,a,f⟩:=aeV (n:=8) (ks:=kV) (by kernel_rfl) (by kernel_rfl) k h;cases a with|slc a1 l1 a=>cases a with|slc a2 l2 a=>cases a with|slc a3 l3 a=>cases a with|nil=>
  obtain ⟨b,i⟩:=aam a1;obtain ⟨c,g⟩:=aam a2;obtain ⟨e,j⟩:=am4 a3;rw [i,g,j] at f;exact ⟨b,c,e,f⟩
end
end Go.Proofs.Tryz
namespace Go.Proofs.Tryz
open Go AM
theorem cD (c:List Nat) {ans:List (lG × List aU)} {ps:List Prop} {f:Nat} {args:List AV} {h a:List aU} {out:lG} (hp:PS prog ap ps ans [] [])
  (he:sD ap (TY prog ap 3000 c 9) 3000 .dead f args h ⟨true,[],[],[],ans,[]⟩= .ok (out,a,.dead) ⟨true,[],[],ps,[],[]⟩:=by kernel_rfl):aG prog ap f args h out a:=ajB JV.apok JV.mixed JV.fnok he ⟨λ_ b=>(by cases b),hp.all.mem⟩
instance (x:Rw):Decidable x.sm:=inferInstanceAs (Decidable (_/\_))
def AZ:List (List Lk):= [[⟨5,[120],false,[10],[1],0⟩]]
def jY:List Nat:= [10,15,17,19,23,27,31,32,33,62,89,104,144,148,204]
def alu (l:List a_):List AV:=l.flatMap λx=> [ω x.sd,ω x.ix,.str x.nm,.bool x.tr,ω x.tm,ω x.td,.sl (aX x.body) x.body.length true,.bool x.ch,.bool x.st.n,.str x.st.a,.str x.st.d,.bool x.cp.n,.str x.cp.a,.str x.cp.d]
def Jz (es:List a_):AV:= .agg [.sl (alu es) es.length true,.sl [.sl (eQ (AZ.getD 0 [])) 1 true] 1 true,.nilS]
theorem Pj:∀ es:List a_,YL (alu es) (bV es)
 | []=> .nil
 |_::es=> .same (.same (.same (.same (.same (.same (.sl (.same (.same (.same (.same (.same (.same (.same (Pj es))))))))))))))
theorem zL (es:List a_):bY (Jz es) (kS es AZ true true):=bY.agg (.cons (bY.slP (Pj es)) (.cons (bY.slP (.sl .nil)) (.cons (bY.nilS false rfl) .nil)))
def w1 (n:UInt8):Rw:=⟨false,if n=0 then [] else [n],[1]⟩
def rv (a b:UInt8):List Rw:= [w1 a,w1 b]
abbrev sv (a b:UInt8) (f:Bool):AV:= .sl (dF (rv a b)) 2 f
def Ed:List a_:= [⟨0,0,[116],false,0,0,[⟨5,false,[],[],[120]⟩,⟨6,false,[],[],[117]⟩,⟨1,false,[1],[1],[]⟩,⟨9,false,[],[],[]⟩,⟨13,false,[],[],[]⟩],false,⟨false,[1],[1]⟩,⟨false,[20],[1]⟩⟩,⟨0,1,[117],false,0,0,[⟨6,false,[],[],[116]⟩,⟨3,false,[1],[2],[]⟩,⟨11,false,[],[],[]⟩],false,⟨false,[1],[1]⟩,⟨false,[8],[1]⟩⟩]
theorem QA:lZ Ed AZ:=by
 refine ⟨by decide,λx a=> ?_,by decide,by decide⟩;simp only [Ed,Xjj,Xju,or_false] at a;rcases a with rfl|rfl<;>exact ⟨Om (by kernel_rfl),by decide,⟨by decide,by decide⟩,⟨by decide,by decide⟩⟩
def AO:List a_:= [⟨0,0,[116],false,0,0,[⟨5,false,[],[],[120]⟩,⟨6,false,[],[],[117]⟩,⟨1,false,[5],[1],[]⟩,⟨9,false,[],[],[]⟩,⟨13,false,[],[],[]⟩],false,⟨false,[1],[1]⟩,⟨false,[20],[1]⟩⟩,⟨0,1,[117],false,0,0,[⟨6,false,[],[],[116]⟩,⟨3,false,[1],[2],[]⟩,⟨11,false,[],[],[]⟩],false,⟨false,[1],[1]⟩,⟨false,[8],[1]⟩⟩]
theorem VG:lZ AO AZ:=by
 refine ⟨by decide,λx a=> ?_,by decide,by decide⟩;simp only [AO,Xjj,Xju,or_false] at a;rcases a with rfl|rfl<;>exact ⟨Om (by kernel_rfl),by decide,⟨by decide,by decide⟩,⟨by decide,by decide⟩⟩
def abR:List a_:= [⟨0,0,[116],false,0,0,[⟨5,false,[],[],[120]⟩,⟨6,false,[],[],[117]⟩,⟨10,false,[],[],[]⟩],false,⟨false,[1],[1]⟩,⟨false,[20],[1]⟩⟩,⟨0,1,[117],false,0,0,[⟨6,false,[],[],[116]⟩,⟨3,false,[1],[2],[]⟩,⟨11,false,[],[],[]⟩],false,⟨false,[1],[1]⟩,⟨false,[8],[1]⟩⟩]
theorem agP:lZ abR AZ:=by
 refine ⟨by decide,λx a=> ?_,by decide,by decide⟩;simp only [abR,Xjj,Xju,or_false] at a;rcases a with rfl|rfl<;>exact ⟨Om (by kernel_rfl),by decide,⟨by decide,by decide⟩,⟨by decide,by decide⟩⟩
def abS:List a_:= [⟨0,0,[116],false,0,0,[⟨6,false,[],[],[117]⟩],false,⟨false,[1],[1]⟩,⟨false,[41],[2]⟩⟩,⟨0,1,[117],false,0,0,[⟨6,false,[],[],[116]⟩,⟨3,false,[1],[2],[]⟩,⟨11,false,[],[],[]⟩],false,⟨false,[1],[1]⟩,⟨false,[8],[1]⟩⟩]
theorem agQ:lZ abS AZ:=by
 refine ⟨by decide,λx a=> ?_,by decide,by decide⟩;simp only [abS,Xjj,Xju,or_false] at a;rcases a with rfl|rfl<;>exact ⟨Om (by kernel_rfl),by decide,⟨by decide,by decide⟩,⟨by decide,by decide⟩⟩
theorem apU:Dt AZ Ed (.inr [(rv 0 0),(rv 1 0)]):= .inr ⟨by kernel_rfl,(.stepC (by kernel_rfl) (by decide) (.fix (by kernel_rfl)))⟩
theorem afA:Dt AZ AO (.inr [(rv 0 0),(rv 5 0),(rv 5 2),(rv 7 2),(rv 7 3),(rv 8 3),(rv 8 4),(rv 9 4)]):= .inr ⟨by kernel_rfl,(.stepC (by kernel_rfl) (by decide) (.stepC (by kernel_rfl) (by decide) (.stepC (by kernel_rfl) (by decide) (.stepC (by kernel_rfl) (by decide) (.stepC (by kernel_rfl) (by decide) (.stepC (by kernel_rfl) (by decide) (.stepC (by kernel_rfl) (by decide) (.fix (by kernel_rfl)))))))))⟩
theorem VF {es:List a_} (h:lZ es AZ) (v:List Rw) (a:Bool) (b:∀ y ∈ v,y.sm):CO 15 [kS es AZ true true,.sl (dF v) v.length a] (.ret (J5 (kz AZ es v))):=
 YO es AZ v true true a h.len h.sm b h.ls λi _=>h.env b i
theorem sa0:CO 27 [ω 20] (.ret (Ω false [20] [1])):=pq (bK 20 (by decide)) (by kernel_rfl)
theorem sa2:aG prog ap 144 [.ptr 0 0 0,.str zcc4_1] [⟨[.str zcc4_2,.nilS,ω 1,.bool false],0,false,0,0,true⟩] (.ret (.str [109,105,110])) [⟨[.str [40,102,97,99,116,46,120,44,32,97,100,100,40,111,119,110,46,117,44,32,36,49,41,41],.nilS,ω 1,.bool false],0,false,0,0,true⟩]:=pq (dU zcc4_2 zcc4_1 (1) false none (by decide) (by decide)) (by kernel_rfl)
theorem apF:aG prog ap 144 [.ptr 0 0 0,.str zcc4_1] [⟨[.str zcc4_4,.nilS,ω 2,.bool false],0,false,0,0,true⟩] (.ret (.str [102,97,99,116])) [⟨[.str [46,120,44,32,97,100,100,40,111,119,110,46,117,44,32,36,49,41,41],.nilS,ω 2,.bool false],0,false,0,0,true⟩]:=pq (dU zcc4_4 zcc4_1 (2) false none (by decide) (by decide)) (by kernel_rfl)
theorem apG:aG prog ap 144 [.ptr 0 0 0,.str zcc4_0] [⟨[.str [120,44,32,97,100,100,40,111,119,110,46,117,44,32,36,49,41,41],.nilS,ω 2,.bool false],0,false,0,0,true⟩] (.ret (.str [120])) [⟨[.str [44,32,97,100,100,40,111,119,110,46,117,44,32,36,49,41,41],.nilS,ω 2,.bool false],0,false,0,0,true⟩]:=pq (dU [120,44,32,97,100,100,40,111,119,110,46,117,44,32,36,49,41,41] zcc4_0 (2) false none (by decide) (by decide)) (by kernel_rfl)
theorem apI:aG prog ap 104 [.ptr 0 0 0] [⟨[.str zcc4_4,.nilS,ω 1,.bool false],0,false,0,0,true⟩] (.ret (.tup [])) [⟨[.str [44,32,97,100,100,40,111,119,110,46,117,44,32,36,49,41,41],.ref 1 0 0 1,ω 2,.bool false],0,false,0,0,false⟩,⟨zcc4_18,0,false,0,5,true⟩]:=cD jY (.c apG (.c apF .nil))
theorem apJ:aG prog ap 144 [.ptr 0 0 0,.str zcc4_1] [⟨[.str zcc4_8,.ref 1 0 0 1,ω 3,.bool false],0,false,0,0,false⟩,⟨zcc4_18,0,false,0,5,true⟩] (.ret (.str [97,100,100])) [⟨[.str [40,111,119,110,46,117,44,32,36,49,41,41],.ref 1 0 0 1,ω 3,.bool false],0,false,0,0,false⟩,⟨zcc4_18,0,false,0,5,true⟩]:=pq (dU zcc4_8 zcc4_1 (3) false (some (1,zcc4_18)) (by decide) (by decide)) (by kernel_rfl)
theorem apK:aG prog ap 144 [.ptr 0 0 0,.str zcc4_1] [⟨[.str zcc4_11,.ref 1 0 0 1,ω 4,.bool false],0,false,0,0,false⟩,⟨zcc4_18,0,false,0,5,true⟩] (.ret (.str [111,119,110])) [⟨[.str [46,117,44,32,36,49,41,41],.ref 1 0 0 1,ω 4,.bool false],0,false,0,0,false⟩,⟨zcc4_18,0,false,0,5,true⟩]:=pq (dU zcc4_11 zcc4_1 (4) false (some (1,zcc4_18)) (by decide) (by decide)) (by kernel_rfl)
theorem apL:aG prog ap 144 [.ptr 0 0 0,.str zcc4_0] [⟨[.str [117,44,32,36,49,41,41],.ref 1 0 0 1,ω 4,.bool false],0,false,0,0,false⟩,⟨zcc4_18,0,false,0,5,true⟩] (.ret (.str [117])) [⟨[.str [44,32,36,49,41,41],.ref 1 0 0 1,ω 4,.bool false],0,false,0,0,false⟩,⟨zcc4_18,0,false,0,5,true⟩]:=pq (dU [117,44,32,36,49,41,41] zcc4_0 (4) false (some (1,zcc4_18)) (by decide) (by decide)) (by kernel_rfl)
theorem apM:aG prog ap 104 [.ptr 0 0 0] [⟨[.str zcc4_11,.ref 1 0 0 1,ω 3,.bool false],0,false,0,0,false⟩,⟨zcc4_18,0,false,0,5,true⟩] (.ret (.tup [])) [⟨[.str [44,32,36,49,41,41],.ref 1 1 0 2,ω 4,.bool false],0,false,0,0,false⟩,⟨zcc4_17,1,false,0,5,true⟩]:=cD jY (.c apL (.c apK .nil))
theorem apO:aG prog ap 142 [.ptr 0 0 0,.str [36]] [⟨[.str [36,49,41,41],.ref 1 0 0 2,ω 5,.bool false],0,false,0,0,false⟩,⟨zcc4_17,0,false,0,5,true⟩] (.ret (.bool true)) [⟨[.str [49,41,41],.ref 1 0 0 2,ω 5,.bool false],0,false,0,0,false⟩,⟨zcc4_17,0,false,0,5,true⟩]:=cD jY (.nil)
theorem apP:aG prog ap 144 [.ptr 0 0 0,.str zcc4_14] [⟨[.str [49,41,41],.ref 1 0 0 2,ω 5,.bool false],0,false,0,0,false⟩,⟨zcc4_17,0,false,0,5,true⟩] (.ret (.str [49])) [⟨[.str [41,41],.ref 1 0 0 2,ω 5,.bool false],0,false,0,0,false⟩,⟨zcc4_17,0,false,0,5,true⟩]:=pq (dU [49,41,41] zcc4_14 (5) false (some (2,zcc4_17)) (by decide) (by decide)) (by kernel_rfl)
theorem afz:CO 204 [.str [49]] (.ret (.tup [.str [1],.bool true])):=cD jY (.nil)
theorem ajG:CO 89 [.str [1],.str [1]] (.ret (.str [1])):=cD jY (.nil)
theorem aog:CO 148 [Ω false [1] [1]] (.ret (.str [49])):=cD jY (.c ajG .nil)
theorem apQ:aG prog ap 143 [.ptr 0 0 0] [⟨[.str [49,41,41],.ref 1 0 0 2,ω 5,.bool false],0,false,0,0,false⟩,⟨zcc4_17,0,false,0,5,true⟩] (.ret (Ω false [1] [1])) [⟨[.str [41,41],.ref 1 0 0 2,ω 5,.bool false],0,false,0,0,false⟩,⟨zcc4_17,0,false,0,5,true⟩]:=cD jY (.c aog (.c ajG (.c afz (.c afz (.c apP .nil)))))
theorem aoh:kw prog ap [⟨[.str [36,49,41,41],.ref 1 0 0 2,ω 4,.bool false],0,false,0,0,false⟩,⟨zcc4_17,0,false,0,5,true⟩] 206 (N_ 5 (ax f104)) (ahd [.str [49,41,41],.ref 1 0 0 2,ω 5,.bool false]) (.normal) ⟨[(0,.ptr 0 0 0),(2,.bool true),(3,.dead),(4,.dead),(5,.dead),(6,.dead),(7,.dead),(8,.dead),(9,.dead),(10,.dead),(11,.dead),(12,.dead),(13,.dead),(14,.dead),(15,.dead),(41,.bool false),(47,.bool true),(65,.dead),(70,.dead),(100,.dead),(102,.dead),(117,.dead),(122,.dead),(128,.dead),(133,.dead),(139,.dead),(145,.dead),(158,.dead),(166,.dead),(170,.dead),(175,.dead),(184,.dead),(188,.dead),(192,.dead)],[(0,⟨[.str [41,41],.ref 1 1 0 3,ω 5,.bool false],0,false,0,0,false⟩),(1,⟨[ω 5,.bool false,.str [],.str [],.str [120],ω 6,.bool false,.str [],.str [],.str [117],ω 1,.bool false,.str [1],.str [1],.str []],1,false,0,5,true⟩)],.dead,[]⟩:=λnt a=>V7 JV (keep:=DL ap 104) (i:=4) (b:=0) (d:=52) (nt0:=206) (ans:= [(.ret (Ω false [1] [1]),[⟨[.str [41,41],.ref 1 0 0 2,ω 5,.bool false],0,false,0,0,false⟩,⟨zcc4_17,0,false,0,5,true⟩])]) (.cons (rfl:(.ref 1 0 0 2:AV)=(.ref 1 0 0 2:AV)) (.cons (rfl:(.ref 1 0 0 2:AV)=(.ref 1 0 0 2:AV)) (.cons apQ .nil))) a (by kernel_rfl)
theorem apR:aG prog ap 104 [.ptr 0 0 0] [⟨[.str [36,49,41,41],.ref 1 0 0 2,ω 4,.bool false],0,false,0,0,false⟩,⟨zcc4_17,0,false,0,5,true⟩] (.ret (.tup [])) [⟨[.str [41,41],.ref 1 1 0 3,ω 5,.bool false],0,false,0,0,false⟩,⟨[ω 5,.bool false,.str [],.str [],.str [120],ω 6,.bool false,.str [],.str [],.str [117],ω 1,.bool false,.str [1],.str [1],.str []],1,false,0,5,true⟩]:=pK [1005] 4 8 (.n 9 .nil) (.l aoh (.c apO .nil))
theorem apS:aG prog ap 104 [.ptr 0 0 0] [⟨[.str zcc4_8,.ref 1 0 0 1,ω 2,.bool false],0,false,0,0,false⟩,⟨zcc4_18,0,false,0,5,true⟩] (.ret (.tup [])) [⟨[.str [41],.ref 1 3 0 4,ω 5,.bool false],0,false,0,0,false⟩,⟨[ω 5,.bool false,.str [],.str [],.str [120],ω 6,.bool false,.str [],.str [],.str [117],ω 1,.bool false,.str [1],.str [1],.str [],ω 9,.bool false,.str [],.str [],.str []],3,false,0,5,true⟩]:=cD jY (.c apR (.c apM (.c apJ .nil)))
theorem apT:aG prog ap 104 [.ptr 0 0 0] [⟨[.str zcc4_2,.nilS,ω 0,.bool false],0,false,0,0,true⟩] (.ret (.tup [])) [⟨[.str [],.ref 1 0 0 5,ω 5,.bool false],0,false,0,0,false⟩,⟨[ω 5,.bool false,.str [],.str [],.str [120],ω 6,.bool false,.str [],.str [],.str [117],ω 1,.bool false,.str [1],.str [1],.str [],ω 9,.bool false,.str [],.str [],.str [],ω 13,.bool false,.str [],.str [],.str []],0,false,0,5,true⟩]:=cD jY (.c apS (.c apI (.c sa2 .nil)))
theorem ann:CO 62 [.str zcc4_2] (.ret (.tup [.sl [ω 5,.bool false,.str [],.str [],.str [120],ω 6,.bool false,.str [],.str [],.str [117],ω 1,.bool false,.str [1],.str [1],.str [],ω 9,.bool false,.str [],.str [],.str [],ω 13,.bool false,.str [],.str [],.str []] 5 true,ω 0])):=cD jY (.c aog (.c ajG (.c apT .nil)))
theorem ano:aG prog ap 144 [.ptr 0 0 0,.str zcc4_1] [⟨[.str zcc4_7,.nilS,ω 1,.bool false],0,false,0,0,true⟩] (.ret (.str [109,117,108])) [⟨[.str [40,111,119,110,46,116,44,32,49,47,50,41],.nilS,ω 1,.bool false],0,false,0,0,true⟩]:=pq (dU zcc4_7 zcc4_1 (1) false none (by decide) (by decide)) (by kernel_rfl)
theorem anp:aG prog ap 144 [.ptr 0 0 0,.str zcc4_1] [⟨[.str zcc4_12,.nilS,ω 2,.bool false],0,false,0,0,true⟩] (.ret (.str [111,119,110])) [⟨[.str [46,116,44,32,49,47,50,41],.nilS,ω 2,.bool false],0,false,0,0,true⟩]:=pq (dU zcc4_12 zcc4_1 (2) false none (by decide) (by decide)) (by kernel_rfl)
theorem anq:aG prog ap 144 [.ptr 0 0 0,.str zcc4_0] [⟨[.str [116,44,32,49,47,50,41],.nilS,ω 2,.bool false],0,false,0,0,true⟩] (.ret (.str [116])) [⟨[.str [44,32,49,47,50,41],.nilS,ω 2,.bool false],0,false,0,0,true⟩]:=pq (dU [116,44,32,49,47,50,41] zcc4_0 (2) false none (by decide) (by decide)) (by kernel_rfl)
theorem anr:aG prog ap 104 [.ptr 0 0 0] [⟨[.str zcc4_12,.nilS,ω 1,.bool false],0,false,0,0,true⟩] (.ret (.tup [])) [⟨[.str [44,32,49,47,50,41],.ref 1 0 0 1,ω 2,.bool false],0,false,0,0,false⟩,⟨zcc4_19,0,false,0,5,true⟩]:=cD jY (.c anq (.c anp .nil))
theorem ant:aG prog ap 144 [.ptr 0 0 0,.str zcc4_14] [⟨[.str [49,47,50,41],.ref 1 0 0 1,ω 3,.bool false],0,false,0,0,false⟩,⟨zcc4_19,0,false,0,5,true⟩] (.ret (.str [49,47,50])) [⟨[.str [41],.ref 1 0 0 1,ω 3,.bool false],0,false,0,0,false⟩,⟨zcc4_19,0,false,0,5,true⟩]:=pq (dU [49,47,50,41] zcc4_14 (3) false (some (1,zcc4_19)) (by decide) (by decide)) (by kernel_rfl)
theorem anu:CO 204 [.str [50]] (.ret (.tup [.str [2],.bool true])):=cD jY (.nil)
theorem abM:CO 89 [.str [1],.str [2]] (.ret (.str [1])):=cD jY (.nil)
theorem agL:CO 148 [Ω false [1] [2]] (.ret (.str [49,47,50])):=cD jY (.c abM .nil)
theorem anv:aG prog ap 104 [.ptr 0 0 0] [⟨[.str [49,47,50,41],.ref 1 0 0 1,ω 2,.bool false],0,false,0,0,false⟩,⟨zcc4_19,0,false,0,5,true⟩] (.ret (.tup [])) [⟨[.str [41],.ref 1 1 0 2,ω 3,.bool false],0,false,0,0,false⟩,⟨[ω 6,.bool false,.str [],.str [],.str [116],ω 3,.bool false,.str [1],.str [2],.str []],1,false,0,5,true⟩]:=cD jY (.c agL (.c abM (.c anu (.c afz (.c ant .nil)))))
theorem anw:aG prog ap 104 [.ptr 0 0 0] [⟨[.str zcc4_7,.nilS,ω 0,.bool false],0,false,0,0,true⟩] (.ret (.tup [])) [⟨[.str [],.ref 1 0 0 3,ω 3,.bool false],0,false,0,0,false⟩,⟨[ω 6,.bool false,.str [],.str [],.str [116],ω 3,.bool false,.str [1],.str [2],.str [],ω 11,.bool false,.str [],.str [],.str []],0,false,0,5,true⟩]:=cD jY (.c anv (.c anr (.c ano .nil)))
theorem VD:CO 62 [.str zcc4_7] (.ret (.tup [.sl [ω 6,.bool false,.str [],.str [],.str [116],ω 3,.bool false,.str [1],.str [2],.str [],ω 11,.bool false,.str [],.str [],.str []] 3 true,ω 0])):=cD jY (.c agL (.c abM (.c anw .nil)))
theorem CQ:CO 27 [ω 1] (.ret (Ω false [1] [1])):=pq (bK 1 (by decide)) (by kernel_rfl)
theorem LH:CO 27 [ω 8] (.ret (Ω false [8] [1])):=pq (bK 8 (by decide)) (by kernel_rfl)
theorem Qy:CO 27 [ω 10] (.ret (Ω false [10] [1])):=pq (bK 10 (by decide)) (by kernel_rfl)
theorem anx:aG prog ap 144 [.ptr 0 0 0,.str zcc4_1] [⟨[.str zcc4_3,.nilS,ω 1,.bool false],0,false,0,0,true⟩] (.ret (.str [109,105,110])) [⟨[.str [40,102,97,99,116,46,120,44,32,97,100,100,40,111,119,110,46,117,44,32,36,53,41,41],.nilS,ω 1,.bool false],0,false,0,0,true⟩]:=pq (dU zcc4_3 zcc4_1 (1) false none (by decide) (by decide)) (by kernel_rfl)
theorem anz:aG prog ap 144 [.ptr 0 0 0,.str zcc4_1] [⟨[.str zcc4_5,.nilS,ω 2,.bool false],0,false,0,0,true⟩] (.ret (.str [102,97,99,116])) [⟨[.str [46,120,44,32,97,100,100,40,111,119,110,46,117,44,32,36,53,41,41],.nilS,ω 2,.bool false],0,false,0,0,true⟩]:=pq (dU zcc4_5 zcc4_1 (2) false none (by decide) (by decide)) (by kernel_rfl)
theorem anA:aG prog ap 144 [.ptr 0 0 0,.str zcc4_0] [⟨[.str [120,44,32,97,100,100,40,111,119,110,46,117,44,32,36,53,41,41],.nilS,ω 2,.bool false],0,false,0,0,true⟩] (.ret (.str [120])) [⟨[.str [44,32,97,100,100,40,111,119,110,46,117,44,32,36,53,41,41],.nilS,ω 2,.bool false],0,false,0,0,true⟩]:=pq (dU [120,44,32,97,100,100,40,111,119,110,46,117,44,32,36,53,41,41] zcc4_0 (2) false none (by decide) (by decide)) (by kernel_rfl)
theorem anB:aG prog ap 104 [.ptr 0 0 0] [⟨[.str zcc4_5,.nilS,ω 1,.bool false],0,false,0,0,true⟩] (.ret (.tup [])) [⟨[.str [44,32,97,100,100,40,111,119,110,46,117,44,32,36,53,41,41],.ref 1 0 0 1,ω 2,.bool false],0,false,0,0,false⟩,⟨zcc4_18,0,false,0,5,true⟩]:=cD jY (.c anA (.c anz .nil))
theorem anC:aG prog ap 144 [.ptr 0 0 0,.str zcc4_1] [⟨[.str zcc4_9,.ref 1 0 0 1,ω 3,.bool false],0,false,0,0,false⟩,⟨zcc4_18,0,false,0,5,true⟩] (.ret (.str [97,100,100])) [⟨[.str [40,111,119,110,46,117,44,32,36,53,41,41],.ref 1 0 0 1,ω 3,.bool false],0,false,0,0,false⟩,⟨zcc4_18,0,false,0,5,true⟩]:=pq (dU zcc4_9 zcc4_1 (3) false (some (1,zcc4_18)) (by decide) (by decide)) (by kernel_rfl)
theorem anD:aG prog ap 144 [.ptr 0 0 0,.str zcc4_1] [⟨[.str zcc4_13,.ref 1 0 0 1,ω 4,.bool false],0,false,0,0,false⟩,⟨zcc4_18,0,false,0,5,true⟩] (.ret (.str [111,119,110])) [⟨[.str [46,117,44,32,36,53,41,41],.ref 1 0 0 1,ω 4,.bool false],0,false,0,0,false⟩,⟨zcc4_18,0,false,0,5,true⟩]:=pq (dU zcc4_13 zcc4_1 (4) false (some (1,zcc4_18)) (by decide) (by decide)) (by kernel_rfl)
theorem anE:aG prog ap 144 [.ptr 0 0 0,.str zcc4_0] [⟨[.str [117,44,32,36,53,41,41],.ref 1 0 0 1,ω 4,.bool false],0,false,0,0,false⟩,⟨zcc4_18,0,false,0,5,true⟩] (.ret (.str [117])) [⟨[.str [44,32,36,53,41,41],.ref 1 0 0 1,ω 4,.bool false],0,false,0,0,false⟩,⟨zcc4_18,0,false,0,5,true⟩]:=pq (dU [117,44,32,36,53,41,41] zcc4_0 (4) false (some (1,zcc4_18)) (by decide) (by decide)) (by kernel_rfl)
theorem anF:aG prog ap 104 [.ptr 0 0 0] [⟨[.str zcc4_13,.ref 1 0 0 1,ω 3,.bool false],0,false,0,0,false⟩,⟨zcc4_18,0,false,0,5,true⟩] (.ret (.tup [])) [⟨[.str [44,32,36,53,41,41],.ref 1 1 0 2,ω 4,.bool false],0,false,0,0,false⟩,⟨zcc4_17,1,false,0,5,true⟩]:=cD jY (.c anE (.c anD .nil))
theorem anG:aG prog ap 142 [.ptr 0 0 0,.str [36]] [⟨[.str [36,53,41,41],.ref 1 0 0 2,ω 5,.bool false],0,false,0,0,false⟩,⟨zcc4_17,0,false,0,5,true⟩] (.ret (.bool true)) [⟨[.str [53,41,41],.ref 1 0 0 2,ω 5,.bool false],0,false,0,0,false⟩,⟨zcc4_17,0,false,0,5,true⟩]:=cD jY (.nil)
theorem anH:aG prog ap 144 [.ptr 0 0 0,.str zcc4_14] [⟨[.str [53,41,41],.ref 1 0 0 2,ω 5,.bool false],0,false,0,0,false⟩,⟨zcc4_17,0,false,0,5,true⟩] (.ret (.str [53])) [⟨[.str [41,41],.ref 1 0 0 2,ω 5,.bool false],0,false,0,0,false⟩,⟨zcc4_17,0,false,0,5,true⟩]:=pq (dU [53,41,41] zcc4_14 (5) false (some (2,zcc4_17)) (by decide) (by decide)) (by kernel_rfl)
theorem anI:CO 204 [.str [53]] (.ret (.tup [.str [5],.bool true])):=cD jY (.nil)
theorem abN:CO 89 [.str [5],.str [1]] (.ret (.str [1])):=cD jY (.nil)
theorem agM:CO 148 [Ω false [5] [1]] (.ret (.str [53])):=cD jY (.c abN .nil)
theorem anJ:aG prog ap 143 [.ptr 0 0 0] [⟨[.str [53,41,41],.ref 1 0 0 2,ω 5,.bool false],0,false,0,0,false⟩,⟨zcc4_17,0,false,0,5,true⟩] (.ret (Ω false [5] [1])) [⟨[.str [41,41],.ref 1 0 0 2,ω 5,.bool false],0,false,0,0,false⟩,⟨zcc4_17,0,false,0,5,true⟩]:=cD jY (.c agM (.c abN (.c afz (.c anI (.c anH .nil)))))
theorem ajF:kw prog ap [⟨[.str [36,53,41,41],.ref 1 0 0 2,ω 4,.bool false],0,false,0,0,false⟩,⟨zcc4_17,0,false,0,5,true⟩] 206 (N_ 5 (ax f104)) (ahd [.str [53,41,41],.ref 1 0 0 2,ω 5,.bool false]) (.normal) ⟨[(0,.ptr 0 0 0),(2,.bool true),(3,.dead),(4,.dead),(5,.dead),(6,.dead),(7,.dead),(8,.dead),(9,.dead),(10,.dead),(11,.dead),(12,.dead),(13,.dead),(14,.dead),(15,.dead),(41,.bool false),(47,.bool true),(65,.dead),(70,.dead),(100,.dead),(102,.dead),(117,.dead),(122,.dead),(128,.dead),(133,.dead),(139,.dead),(145,.dead),(158,.dead),(166,.dead),(170,.dead),(175,.dead),(184,.dead),(188,.dead),(192,.dead)],[(0,⟨[.str [41,41],.ref 1 1 0 3,ω 5,.bool false],0,false,0,0,false⟩),(1,⟨[ω 5,.bool false,.str [],.str [],.str [120],ω 6,.bool false,.str [],.str [],.str [117],ω 1,.bool false,.str [5],.str [1],.str []],1,false,0,5,true⟩)],.dead,[]⟩:=λnt a=>V7 JV (keep:=DL ap 104) (i:=4) (b:=0) (d:=52) (nt0:=206) (ans:= [(.ret (Ω false [5] [1]),[⟨[.str [41,41],.ref 1 0 0 2,ω 5,.bool false],0,false,0,0,false⟩,⟨zcc4_17,0,false,0,5,true⟩])]) (.cons (rfl:(.ref 1 0 0 2:AV)=(.ref 1 0 0 2:AV)) (.cons (rfl:(.ref 1 0 0 2:AV)=(.ref 1 0 0 2:AV)) (.cons anJ .nil))) a (by kernel_rfl)
theorem anK:aG prog ap 104 [.ptr 0 0 0] [⟨[.str [36,53,41,41],.ref 1 0 0 2,ω 4,.bool false],0,false,0,0,false⟩,⟨zcc4_17,0,false,0,5,true⟩] (.ret (.tup [])) [⟨[.str [41,41],.ref 1 1 0 3,ω 5,.bool false],0,false,0,0,false⟩,⟨[ω 5,.bool false,.str [],.str [],.str [120],ω 6,.bool false,.str [],.str [],.str [117],ω 1,.bool false,.str [5],.str [1],.str []],1,false,0,5,true⟩]:=pK [1005] 4 8 (.n 9 .nil) (.l ajF (.c anG .nil))
theorem anL:aG prog ap 104 [.ptr 0 0 0] [⟨[.str zcc4_9,.ref 1 0 0 1,ω 2,.bool false],0,false,0,0,false⟩,⟨zcc4_18,0,false,0,5,true⟩] (.ret (.tup [])) [⟨[.str [41],.ref 1 3 0 4,ω 5,.bool false],0,false,0,0,false⟩,⟨[ω 5,.bool false,.str [],.str [],.str [120],ω 6,.bool false,.str [],.str [],.str [117],ω 1,.bool false,.str [5],.str [1],.str [],ω 9,.bool false,.str [],.str [],.str []],3,false,0,5,true⟩]:=cD jY (.c anK (.c anF (.c anC .nil)))
theorem anM:aG prog ap 104 [.ptr 0 0 0] [⟨[.str zcc4_3,.nilS,ω 0,.bool false],0,false,0,0,true⟩] (.ret (.tup [])) [⟨[.str [],.ref 1 0 0 5,ω 5,.bool false],0,false,0,0,false⟩,⟨[ω 5,.bool false,.str [],.str [],.str [120],ω 6,.bool false,.str [],.str [],.str [117],ω 1,.bool false,.str [5],.str [1],.str [],ω 9,.bool false,.str [],.str [],.str [],ω 13,.bool false,.str [],.str [],.str []],0,false,0,5,true⟩]:=cD jY (.c anL (.c anB (.c anx .nil)))
theorem anN:CO 62 [.str zcc4_3] (.ret (.tup [.sl [ω 5,.bool false,.str [],.str [],.str [120],ω 6,.bool false,.str [],.str [],.str [117],ω 1,.bool false,.str [5],.str [1],.str [],ω 9,.bool false,.str [],.str [],.str [],ω 13,.bool false,.str [],.str [],.str []] 5 true,ω 0])):=cD jY (.c agM (.c abN (.c anM .nil)))
theorem wR:CO 27 [ω 0] (.ret (Ω false [] [1])):=pq (bK 0 (by decide)) (by kernel_rfl)
theorem anO:CO 15 [(Jz Ed),sv 0 0 true] (.ret (.tup [sv 1 0 false,ω 0])):=aG.args (args:= [(kS Ed AZ true true),sv 0 0 true]) (.cons (zL _) (.cons (bY.refl _) .nil)) (pq (VF QA (rv 0 0) true (by decide)) (by kernel_rfl))
theorem anP:CO 15 [(Jz Ed),sv 1 0 true] (.ret (.tup [sv 1 0 false,ω 0])):=aG.args (args:= [(kS Ed AZ true true),sv 1 0 true]) (.cons (zL _) (.cons (bY.refl _) .nil)) (pq (VF QA (rv 1 0) true (by decide)) (by kernel_rfl))
theorem anQ:CO 23 [(Jz Ed)] (.ret (.tup [sv 1 0 false,.sl [sv 0 0 false,sv 1 0 false] 2 false,ω 0])):=aG.args (args:= [(kS Ed AZ true true)]) (.cons (zL _) .nil) (pq (OJ Ed AZ true true QA apU) (by kernel_rfl))
theorem anR:CO 23 [(Jz AO)] (.ret (.tup [sv 9 4 false,.sl [sv 0 0 false,sv 5 0 false,sv 5 2 false,sv 7 2 false,sv 7 3 false,sv 8 3 false,sv 8 4 false,sv 9 4 false] 8 false,ω 0])):=aG.args (args:= [(kS AO AZ true true)]) (.cons (zL _) .nil) (pq (OJ AO AZ true true VG afA) (by kernel_rfl))
theorem abO:CO 17 [sv 1 0 false,sv 1 0 true] (.ret (.bool true)):=pq (Ji (rv 1 0) (rv 1 0) false true (by decide)) (by kernel_rfl)
theorem VE:CO 27 [ω 9] (.ret (Ω false [9] [1])):=pq (bK 9 (by decide)) (by kernel_rfl)
theorem Qz:CO 27 [ω 4] (.ret (Ω false [4] [1])):=pq (bK 4 (by decide)) (by kernel_rfl)
theorem anS:CO 17 [sv 9 4 false,sv 9 4 true] (.ret (.bool true)):=pq (Ji (rv 9 4) (rv 9 4) false true (by decide)) (by kernel_rfl)
theorem abP:CO 27 [ω 5] (.ret (Ω false [5] [1])):=pq (bK 5 (by decide)) (by kernel_rfl)
theorem abQ:CO 27 [ω 2] (.ret (Ω false [2] [1])):=pq (bK 2 (by decide)) (by kernel_rfl)
theorem agN:CO 27 [ω 7] (.ret (Ω false [7] [1])):=pq (bK 7 (by decide)) (by kernel_rfl)
theorem agO:CO 27 [ω 3] (.ret (Ω false [3] [1])):=pq (bK 3 (by decide)) (by kernel_rfl)
theorem anT:CO 31 [.sl [sv 0 0 false,sv 1 0 false] 2 false,.sl [sv 0 0 true,sv 1 0 true] 2 true] (.ret (.bool true)):=aG.args (args:= [.sl [sv 0 0 false,sv 1 0 false] 2 false,.sl [sv 0 0 false,sv 1 0 false] 2 true]) (.cons (bY.slP (.sl (.sl .nil))) (.cons (bY.slP (.sl (.sl .nil))) .nil)) (pq (Qs [(rv 0 0),(rv 1 0)] [(rv 0 0),(rv 1 0)] false true (by decide) (by decide)) (by kernel_rfl))
theorem anU:CO 31 [.sl [sv 0 0 false,sv 5 0 false,sv 5 2 false,sv 7 2 false,sv 7 3 false,sv 8 3 false,sv 8 4 false,sv 9 4 false] 8 false,.sl [sv 0 0 true,sv 5 0 true,sv 5 2 true,sv 7 2 true,sv 7 3 true,sv 8 3 true,sv 8 4 true,sv 9 4 true] 8 true] (.ret (.bool true)):=aG.args (args:= [.sl [sv 0 0 false,sv 5 0 false,sv 5 2 false,sv 7 2 false,sv 7 3 false,sv 8 3 false,sv 8 4 false,sv 9 4 false] 8 false,.sl [sv 0 0 false,sv 5 0 false,sv 5 2 false,sv 7 2 false,sv 7 3 false,sv 8 3 false,sv 8 4 false,sv 9 4 false] 8 true]) (.cons (bY.slP (.sl (.sl (.sl (.sl (.sl (.sl (.sl (.sl .nil))))))))) (.cons (bY.slP (.sl (.sl (.sl (.sl (.sl (.sl (.sl (.sl .nil))))))))) .nil)) (pq (Qs [(rv 0 0),(rv 5 0),(rv 5 2),(rv 7 2),(rv 7 3),(rv 8 3),(rv 8 4),(rv 9 4)] [(rv 0 0),(rv 5 0),(rv 5 2),(rv 7 2),(rv 7 3),(rv 8 3),(rv 8 4),(rv 9 4)] false true (by decide) (by decide)) (by kernel_rfl))
theorem anV:CO 27 [ω 41] (.ret (Ω false [41] [1])):=pq (bK 41 (by decide)) (by kernel_rfl)
theorem anW:CO 32 [Ω false [41] [1],Ω false [2] [1]] (.ret (.tup [Ω false [41] [2],.bool true])):=pq (Gj false false [41] [1] [2] [1] (by decide) (by decide) (by decide) (by decide) (by decide)) (by kernel_rfl)
theorem anX:CO 19 [(Jz AO),sv 9 4 true,.sl [sv 0 0 true,sv 5 0 true,sv 5 2 true,sv 7 2 true,sv 7 3 true,sv 8 3 true,sv 8 4 true,sv 9 4 true] 8 true] (.ret (ω 0)):=aG.args (args:= [(kS AO AZ true true),sv 9 4 true,.sl [sv 0 0 false,sv 5 0 false,sv 5 2 false,sv 7 2 false,sv 7 3 false,sv 8 3 false,sv 8 4 false,sv 9 4 false] 8 true]) (.cons (zL _) (.cons (bY.refl _) (.cons (bY.slP (.sl (.sl (.sl (.sl (.sl (.sl (.sl (.sl .nil))))))))) .nil))) (pq (Dq AO AZ true true true true VG (rv 9 4) [(rv 0 0),(rv 5 0),(rv 5 2),(rv 7 2),(rv 7 3),(rv 8 3),(rv 8 4),(rv 9 4)] (by decide) (by decide) afA) (by kernel_rfl))
theorem anY:CO 19 [(Jz AO),sv 9 4 true,.sl [sv 0 0 true,sv 5 0 true,sv 5 2 true,sv 7 2 true,sv 7 3 true,sv 8 3 true,sv 9 4 true] 7 true] (.ret (ω 26)):=aG.args (args:= [(kS AO AZ true true),sv 9 4 true,.sl [sv 0 0 false,sv 5 0 false,sv 5 2 false,sv 7 2 false,sv 7 3 false,sv 8 3 false,sv 9 4 false] 7 true]) (.cons (zL _) (.cons (bY.refl _) (.cons (bY.slP (.sl (.sl (.sl (.sl (.sl (.sl (.sl .nil)))))))) .nil))) (pq (Dq AO AZ true true true true VG (rv 9 4) [(rv 0 0),(rv 5 0),(rv 5 2),(rv 7 2),(rv 7 3),(rv 8 3),(rv 9 4)] (by decide) (by decide) afA) (by kernel_rfl))
theorem anZ:CO 19 [(Jz AO),sv 10 5 true,.sl [sv 0 0 true,sv 5 0 true,sv 5 2 true,sv 7 2 true,sv 7 3 true,sv 8 3 true,sv 8 4 true,sv 9 4 true] 8 true] (.ret (ω 26)):=aG.args (args:= [(kS AO AZ true true),sv 10 5 true,.sl [sv 0 0 false,sv 5 0 false,sv 5 2 false,sv 7 2 false,sv 7 3 false,sv 8 3 false,sv 8 4 false,sv 9 4 false] 8 true]) (.cons (zL _) (.cons (bY.refl _) (.cons (bY.slP (.sl (.sl (.sl (.sl (.sl (.sl (.sl (.sl .nil))))))))) .nil))) (pq (Dq AO AZ true true true true VG (rv 10 5) [(rv 0 0),(rv 5 0),(rv 5 2),(rv 7 2),(rv 7 3),(rv 8 3),(rv 8 4),(rv 9 4)] (by decide) (by decide) afA) (by kernel_rfl))
theorem an0:CO 33 [(Jz Ed)] (.ret (ω 0)):=aG.args (args:= [(kS Ed AZ true true)]) (.cons (zL _) .nil) (pq (ql Ed AZ true true QA.len QA.sm) (by kernel_rfl))
theorem an1:aG prog ap 144 [.ptr 0 0 0,.str zcc4_1] [⟨[.str zcc4_6,.nilS,ω 1,.bool false],0,false,0,0,true⟩] (.ret (.str [115,117,98])) [⟨[.str [40,102,97,99,116,46,120,44,32,111,119,110,46,117,41],.nilS,ω 1,.bool false],0,false,0,0,true⟩]:=pq (dU zcc4_6 zcc4_1 (1) false none (by decide) (by decide)) (by kernel_rfl)
theorem an2:aG prog ap 144 [.ptr 0 0 0,.str zcc4_1] [⟨[.str zcc4_10,.nilS,ω 2,.bool false],0,false,0,0,true⟩] (.ret (.str [102,97,99,116])) [⟨[.str [46,120,44,32,111,119,110,46,117,41],.nilS,ω 2,.bool false],0,false,0,0,true⟩]:=pq (dU zcc4_10 zcc4_1 (2) false none (by decide) (by decide)) (by kernel_rfl)
theorem an3:aG prog ap 144 [.ptr 0 0 0,.str zcc4_0] [⟨[.str [120,44,32,111,119,110,46,117,41],.nilS,ω 2,.bool false],0,false,0,0,true⟩] (.ret (.str [120])) [⟨[.str [44,32,111,119,110,46,117,41],.nilS,ω 2,.bool false],0,false,0,0,true⟩]:=pq (dU [120,44,32,111,119,110,46,117,41] zcc4_0 (2) false none (by decide) (by decide)) (by kernel_rfl)
theorem an4:aG prog ap 104 [.ptr 0 0 0] [⟨[.str zcc4_10,.nilS,ω 1,.bool false],0,false,0,0,true⟩] (.ret (.tup [])) [⟨[.str [44,32,111,119,110,46,117,41],.ref 1 0 0 1,ω 2,.bool false],0,false,0,0,false⟩,⟨zcc4_18,0,false,0,5,true⟩]:=cD jY (.c an3 (.c an2 .nil))
theorem an5:aG prog ap 144 [.ptr 0 0 0,.str zcc4_1] [⟨[.str zcc4_15,.ref 1 0 0 1,ω 3,.bool false],0,false,0,0,false⟩,⟨zcc4_18,0,false,0,5,true⟩] (.ret (.str [111,119,110])) [⟨[.str [46,117,41],.ref 1 0 0 1,ω 3,.bool false],0,false,0,0,false⟩,⟨zcc4_18,0,false,0,5,true⟩]:=pq (dU zcc4_15 zcc4_1 (3) false (some (1,zcc4_18)) (by decide) (by decide)) (by kernel_rfl)
theorem an6:aG prog ap 144 [.ptr 0 0 0,.str zcc4_0] [⟨[.str [117,41],.ref 1 0 0 1,ω 3,.bool false],0,false,0,0,false⟩,⟨zcc4_18,0,false,0,5,true⟩] (.ret (.str [117])) [⟨[.str [41],.ref 1 0 0 1,ω 3,.bool false],0,false,0,0,false⟩,⟨zcc4_18,0,false,0,5,true⟩]:=pq (dU [117,41] zcc4_0 (3) false (some (1,zcc4_18)) (by decide) (by decide)) (by kernel_rfl)
theorem an7:aG prog ap 104 [.ptr 0 0 0] [⟨[.str zcc4_15,.ref 1 0 0 1,ω 2,.bool false],0,false,0,0,false⟩,⟨zcc4_18,0,false,0,5,true⟩] (.ret (.tup [])) [⟨[.str [41],.ref 1 1 0 2,ω 3,.bool false],0,false,0,0,false⟩,⟨zcc4_17,1,false,0,5,true⟩]:=cD jY (.c an6 (.c an5 .nil))
theorem an8:aG prog ap 104 [.ptr 0 0 0] [⟨[.str zcc4_6,.nilS,ω 0,.bool false],0,false,0,0,true⟩] (.ret (.tup [])) [⟨[.str [],.ref 1 0 0 3,ω 3,.bool false],0,false,0,0,false⟩,⟨[ω 5,.bool false,.str [],.str [],.str [120],ω 6,.bool false,.str [],.str [],.str [117],ω 10,.bool false,.str [],.str [],.str []],0,false,0,5,true⟩]:=cD jY (.c an7 (.c an4 (.c an1 .nil)))
theorem an9:CO 62 [.str zcc4_6] (.ret (.tup [.sl [ω 5,.bool false,.str [],.str [],.str [120],ω 6,.bool false,.str [],.str [],.str [117],ω 10,.bool false,.str [],.str [],.str []] 3 true,ω 0])):=cD jY (.c an8 .nil)
theorem an_:CO 33 [(Jz abR)] (.ret (ω 17)):=aG.args (args:= [(kS abR AZ true true)]) (.cons (zL _) .nil) (pq (ql abR AZ true true agP.len agP.sm) (by kernel_rfl))
theorem aoa:aG prog ap 144 [.ptr 0 0 0,.str zcc4_1] [⟨[.str zcc4_16,.nilS,ω 1,.bool false],0,false,0,0,true⟩] (.ret (.str [111,119,110])) [⟨[.str [46,117],.nilS,ω 1,.bool false],0,false,0,0,true⟩]:=pq (dU zcc4_16 zcc4_1 (1) false none (by decide) (by decide)) (by kernel_rfl)
theorem aob:aG prog ap 144 [.ptr 0 0 0,.str zcc4_0] [⟨[.str [117],.nilS,ω 1,.bool false],0,false,0,0,true⟩] (.ret (.str [117])) [⟨[.str [],.nilS,ω 1,.bool false],0,false,0,0,true⟩]:=pq (dU [117] zcc4_0 (1) false none (by decide) (by decide)) (by kernel_rfl)
theorem aoc:aG prog ap 104 [.ptr 0 0 0] [⟨[.str zcc4_16,.nilS,ω 0,.bool false],0,false,0,0,true⟩] (.ret (.tup [])) [⟨[.str [],.ref 1 0 0 1,ω 1,.bool false],0,false,0,0,false⟩,⟨[ω 6,.bool false,.str [],.str [],.str [117]],0,false,0,5,true⟩]:=cD jY (.c aob (.c aoa .nil))
theorem aod:CO 62 [.str zcc4_16] (.ret (.tup [.sl [ω 6,.bool false,.str [],.str [],.str [117]] 1 true,ω 0])):=cD jY (.c aoc .nil)
theorem aoe:CO 33 [(Jz abS)] (.ret (ω 1)):=aG.args (args:= [(kS abS AZ true true)]) (.cons (zL _) .nil) (pq (ql abS AZ true true agQ.len agQ.sm) (by kernel_rfl))
theorem aof:CO 10 [] (.ret (.bool true)):=cD jY (.c aoe (.c Qy (.c LH (.c CQ (.c VD (.c aod (.c an_ (.c Qy (.c LH (.c CQ (.c VD (.c an9 (.c an0 (.c anZ (.c abP (.c Qy (.c anY (.c Qz (.c VE (.c anX (.c Qz (.c VE (.c anW (.c abQ (.c anV (.c anU (.c anT (.c wR (.c CQ (.c wR (.c wR (.c Qz (.c VE (.c Qz (.c LH (.c agO (.c LH (.c agO (.c agN (.c abQ (.c agN (.c abQ (.c abP (.c wR (.c abP (.c wR (.c wR (.c anS (.c Qz (.c VE (.c abO (.c wR (.c CQ (.c abO (.c wR (.c CQ (.c abO (.c wR (.c CQ (.c anR (.c anQ (.c anP (.c wR (.c CQ (.c anO (.c wR (.c wR (.c Qy (.c LH (.c CQ (.c VD (.c anN (.c Qy (.c LH (.c CQ (.c VD (.c ann (.c sa0 .nil))))))))))))))))))))))))))))))))))))))))))))))))))))))))))))))))))))))))))))))
theorem akp:CO 10 [] (.ret (.bool true)):=aof
end Go.Proofs.Tryz
