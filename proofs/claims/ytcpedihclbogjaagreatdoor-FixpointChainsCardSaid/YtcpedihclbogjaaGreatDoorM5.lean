/- The machine and its soundness. -/
import Derived.Test.YtcpedihclbogjaaGreatDoorM4
import Derived.ChangeArms
import Derived.WideShapes
import Derived.Deep.Strs
set_option linter.unusedSimpArgs false
set_option linter.unusedVariables false
open Nat renaming beq->Xqk,le_refl->κ,add_zero->Xq4,lt_of_lt_of_le->υ,sub_self->Xz8,beq_refl->Xzt,eq_of_beq_eq_true->Xxq,succ_mul->Xvx,zero_mul->Xj7,le_trans->Xqr,eq_zero_or_pos->Xqf,zero_add->Δ
open List renaming map_cons->Xqg,append_nil->Xqd,mem_of_getElem?->Xqm,isEmpty_iff->Xkm,replicate->ζ,length_append->ν,take_add->Xkf,drop_drop->Xjs,getElem?_eq_getElem->μ,drop_zero->Xxz,take_length->Xxd,flatten_cons->Xjy,map->Xz1,drop->ε,getElem?_drop->Xj5,getElem?_take->Xjq,length_singleton->Θ,getElem_mem->Xxj,getElem?_append->Xk2,flatten_append->Xz9,flatten_nil->Yq4,set_cons_succ->Xvz,take_set->Yx3,reverse_cons->Xzv,reverse_reverse->Xwr
open Bool renaming and_eq_true->τ
namespace AM
open Go
structure aK (s s':St):Prop where
 env:∀ t,s.env.get t=s'.env.get t\/s.env.get t= .dead
 hp:s.hp=s'.hp
 md:s.md=s'.md
 dfs:s.dfs=s'.dfs
theorem aK.refl (s:St):aK s s:=⟨λ_=> .inl rfl,rfl,rfl,rfl⟩
def UL:ji->(Nat->AV)->Prop
 | [],_=>True
 |(t,v)::r,f=>(f t=v)/\UL r f
theorem BM {f:Nat->AV}:∀ {e:ji},UL e f->∀ t,e.get t=f t\/e.get t= .dead
 | [],_,t=> .inr rfl
 | (u,v)::r,h,t=>by
  simp only [UL] at h;simp only [ji.get,look];cases a:Xqk u t with
  |true=>
   have:=aN a;subst this;exact .inl h.1.symm
  |false=>exact BM h.2 t
theorem aK.of {e e':ji} {hp:Hp} {md:AV} {dfs:List (Nat × List AV)} (h:UL e e'.get):aK {env:=e,hp,md,dfs} {env:=e',hp,md,dfs}:=⟨BM h,rfl,rfl,rfl⟩
section
variable {P:Program} {ap:AP} {H:dD}
theorem FR.less {s s':St} (h:aK s s') {nt:Nat} {m:aW} {S:aO} {w:World} {a:Act} (b:FR ap s'.env s'.hp s'.dfs nt m S w a):FR ap s.env s.hp s.dfs nt m S w a:=by
 refine ⟨h.hp ▸ b.srel,λt=> ?_, ?_,b.size⟩
 .rcases h.env t with e|e
  .rw [e,h.hp];exact b.env t
  .rw [e];simp [VR]
 .rw [h.hp,h.dfs];exact b.dfs
theorem ak.weak {h0:List aU} {nt:Nat} {b:Code} {s s' r r':St} {e:bI} (h:ak P ap h0 nt b s e r) (hs:aK s s') (c:aK r' r):ak P ap h0 nt b s' e r':=by
 intro i;obtain ⟨n,l⟩:=h (hs.md ▸ i);refine ⟨c.md ▸ n,λm0 S0 w0 m S w a f q Q j=>l m0 S0 w0 m S w a (by rw [hs.hp];exact f) (q.less hs) Q ?_⟩;intro p S' w' k h5 o;have:=j p S' w' k (by rw [c.hp];exact h5) (o.less c);cases e with
 |normal=>exact this
 |exit id=>exact this
 |ret=>exact this
 |panic v=>intro cv d;exact this cv (by rw [c.hp];exact d)
inductive aF (P:Program) (ap:AP) (h0:List aU) (nt:Nat) (b:Code) {α β:Type} (e:β->bI) (st:α->St) (out:β->St):α->β->Prop where
 |done {a:α} {r:β}:ak P ap h0 nt b (st a) (e r) (out r)->aF P ap h0 nt b e st out a r
 |next {a a':α} {r:β}:ak P ap h0 nt b (st a) .normal (st a')->aF P ap h0 nt b e st out a' r->aF P ap h0 nt b e st out a r
theorem aF.rounds {h0:List aU} {nt:Nat} {b:Code} {α β:Type} {e:β->bI} {j:α->St} {out:β->St} {a:α} {r:β} (d:e r ≠ .normal) (h:aF P ap h0 nt b e j out a r):(j a).md= .dead->(out r).md= .dead/\∃ n,∀ m0 S0 w0 m S w c,Fr (bz h0) m0 S0 w0 (look (j a).hp) m S w->FR ap (j a).env (j a).hp (j a).dfs nt m S w c->∀ Q,XA ap h0 m0 S0 w0 nt (out r) (e r) Q->Code.rounds P b Q n c w:=by
 induction h with
 |@done a r hx=>
  intro i;obtain ⟨o,l⟩:=hx i;refine ⟨o,1,λm0 S0 w0 m S w c f q Q s=>l m0 S0 w0 m S w c f q _ ?_⟩;intro t S' w' k h5 p;have:=s t S' w' k h5 p
  revert d this
  cases e r with
  |normal=>intro d _;exact absurd rfl d
  |exit id=>intro _ h;exact h
  |ret=>intro _ h;exact h
  |panic v=>intro _ h;exact h
 |next hx _ ih=>
  intro i;obtain ⟨o,l⟩:=hx i;obtain ⟨h5,n,p⟩:=ih d o;refine ⟨h5,n+1,λm0 S0 w0 m S w c f q Q s=>l m0 S0 w0 m S w c f q _ ?_⟩;intro t S' w' k h7 u;exact p m0 S0 w0 t S' w' k h7 u Q s
theorem aF.ok {h0:List aU} {nt:Nat} {b:Code} {α β:Type} {e:β->bI} {j:α->St} {out:β->St} {a:α} {r:β} (f:e r ≠ .normal) (h:aF P ap h0 nt b e j out a r):ak P ap h0 nt (.loop b) (j a) (e r) (out r):=by
 intro i;obtain ⟨o,n,l⟩:=h.rounds f i;exact ⟨o,λm0 S0 w0 m S w c d p Q k=>wp_loop_rounds n (l m0 S0 w0 m S w c d p Q k)⟩
theorem aF.blk {h0:List aU} {n id:Nat} {b:Code} {α β:Type} {e:β->bI} {d:α->St} {out:β->St} {a:α} {r:β} {s s':St} {e':bI} (h:∀ nt,n<=nt->aF P ap h0 nt b e d out a r) (c:e r ≠ .normal) (k:vg id (e r)=e') (hs:aK (d a) s) (j:aK s' (out r)):kw P ap h0 n (.block id (.loop b)) s e' s':=by
 intro nt i;have f:=((h nt i).ok c).block (id:=id);rw [k] at f;exact f.weak hs j
def su (id:Nat):Code->Option Code
 | .seq a b=>match su id a with|some c=>some c|none=>su id b
 | .cond _ a b=>match su id a with|some c=>some c|none=>su id b
 | .block i b=>match Xqk i id with|true=>some b|false=>su id b
 | .loop b=>su id b
 | .scope b=>su id b
 |_=>none
def af (id:Nat) (c:Code):Code:=match su id c with|some (.loop b)=>b|_=> .skip
def N_ (id:Nat):Code->Code
 | .seq a b=>match N_ id a with| .region i o d=> .region i o d|_=>N_ id b
 | .cond _ a b=>match N_ id a with| .region i o d=> .region i o d|_=>N_ id b
 | .block _ b=>N_ id b
 | .loop b=>N_ id b
 | .scope b=>N_ id b
 | .region i o d=>match Xqk i id with|true=> .region i o d|false=> .skip
 |_=> .skip
end
end AM
namespace AM
open Go
def jd (x y:List AV):Prop:=∀ g m S v,bu g m S x v->bu g m S y v
def oq:AV->Bool
 | .own _ _ _=>false
 | .tup _=>false
 |_=>true
theorem bY.refl (x:AV):bY x x:=λ_ _ _ _ h=>h
theorem jd.refl (x:List AV):jd x x:=λ_ _ _ _ h=>h
theorem jd.nil:jd [] []:=jd.refl []
theorem jd.cons {x y:AV} {l r:List AV} (h:bY x y) (b:jd l r):jd (x::l) (y::r):=by
 intro g m S v a;cases v with
 |nil=>simp [bu] at a
 |cons u vs=>simp only [bu] at a ⊢;exact ⟨h g m S u a.1,b g m S vs a.2⟩
theorem bY.nilS (a:Bool) (h:a=false):bY .nilS (.sl [] 0 a):=by
 subst h;intro g m S v b;simp only [VR,PR] at b ⊢;exact ⟨none,0,b,κ _,.inl (by simp)⟩
theorem bY.sl (d:List AV) (n:Nat) (a:Bool):bY (.sl d n a) (.sl d n false):=by
 intro g m S v c;simp only [VR,PR] at c ⊢;obtain ⟨a,cap,e,b,q⟩:=c;refine ⟨a,cap,e,b, ?_⟩;rcases q with ⟨_,f,h⟩|q
 .exact .inl ⟨λ_=>trivial,f,h⟩
 .exact .inr q
theorem bY.dead (x:AV):bY x .dead:=λ_ _ _ _ _=>by simp only [VR]
theorem bY.agg {l r:List AV} (h:jd l r):bY (.agg l) (.agg r):=by
 intro g m S v a;simp only [VR] at a ⊢;obtain ⟨vs,e,q⟩:=a;exact ⟨vs,e,h _ _ _ _ q⟩
section
variable {P:Program} {ap:AP}
theorem aG.args {f:Nat} {args args':List AV} {h b:List aU} {out:lG} (e:jd args' args) (a:aG P ap f args h out b):aG P ap f args' h out b:=
 ⟨a.len,a.ent,λm S w cargs c d=>a.calls m S w cargs c (e _ _ _ _ d)⟩
def kJ (out out':lG):Prop:=(∀ n,lS n out=lS n out')/\∀ h' m' S' e,ahx h' m' S' out e->ahx h' m' S' out' e
theorem aG.out {f:Nat} {args:List AV} {h d:List aU} {out a:lG} (b:kJ out a) (c:aG P ap f args h out d):aG P ap f args h a d:=
 ⟨c.len,c.ent,λm S w cargs i j=>(c.calls m S w cargs i j).mono λe w' ⟨m',S',hF⟩=> ⟨m',S',b.1 _ ▸ hF.srel,b.1 _ ▸ hF.fr,b.2 _ _ _ _ hF.out⟩⟩
theorem lL {x:AV} (h:oq x=true):∀ a k e,x ≠ .own a k e:=by intro a k e b;subst b;cases h
theorem yU {x:AV} (h:oq x=true):∀ l,x ≠ .tup l:=by intro l a;subst a;cases h
theorem kJ.ret {x y:AV} (b:oq x=true) (a:oq y=true) (h:bY x y):kJ (.ret x) (.ret y):=by
 refine ⟨λn=> ?_,λi j S' e f=> ?_⟩
 .simp only [lS,jP n (lL b) (yU b),jP n (lL a) (yU a)]
 .obtain ⟨cv,d,c⟩:=f;refine ⟨cv,d, ?_⟩;rw [ni (lL b) (yU b)] at c;rw [ni (lL a) (yU a)];exact h _ _ _ _ c
inductive JO:List AV->List AV->Prop where
 |nil:JO [] []
 |same {x:AV} {l r:List AV}:JO l r->JO (x::l) (x::r)
 |fit {x y:AV} {l r:List AV}:oq x=true->oq y=true->bY x y->JO l r->JO (x::l) (y::r)
theorem JO.blocks {l r:List AV} (h:JO l r):∀ n,(fK n l).2=(fK n r).2:=by
 induction h with
 |nil=>intro n;rfl
 |@same x l r _ ih=>
  intro n;rcases kD x with ⟨a,k,e,rfl⟩|hx
  .simp only [fK];rw [ih]
  .rw [bJ n hx,bJ n hx];exact ih n
 |fit hx hy _ _ ih=>
  intro n;rw [bJ n (lL hx),bJ n (lL hy)];exact ih n
theorem JO.outR {gh gf:dK} {m:aW} {S:aO} {l r:List AV} (h:JO l r):∀ (n:Nat) (vs:List Value),jm gh gf m S n l vs->jm gh gf m S n r vs:=by
 induction h with
 |nil=>intro n vs a;exact a
 | @same x l r _ ih=>
  intro n vs a;cases vs with
  |nil=>simp [jm] at a
  |cons v vs=>
   rcases kD x with ⟨b,k,e,rfl⟩|hx
   .simp only [jm] at a ⊢;exact ⟨a.1,ih _ _ a.2⟩
   .rw [dh hx] at a ⊢;exact ⟨a.1,ih _ _ a.2⟩
 | fit hx hy hf _ ih=>
  intro n vs a;cases vs with
  |nil=>simp [jm] at a
  |cons v vs=>
   rw [dh (lL hx)] at a;rw [dh (lL hy)];exact ⟨hf _ _ _ _ a.1,ih _ _ a.2⟩
theorem kJ.tup {l r:List AV} (h:JO l r):kJ (.ret (.tup l)) (.ret (.tup r)):=by
 refine ⟨λn=> ?_,λb j S' e i=> ?_⟩
 .simp only [lS,kE];exact h.blocks n
 .obtain ⟨cv,f,a⟩:=i;refine ⟨cv,f, ?_⟩;simp only [zi] at a ⊢;obtain ⟨vs,d,q⟩:=a;have c:(kE b.length (.tup l)).2=(kE b.length (.tup r)).2:=by simp only [kE];exact h.blocks _
  refine ⟨vs,d, ?_⟩;rw [c] at q;exact h.outR _ _ q
end
end AM
namespace AM
open Go
def thaw:AV->AV
 | .own xs n e=> .sl (xs.take (n*e)) n true
 |x=>x
def sU:lG->lG
 | .ret (.tup l)=> .ret (.tup (l.map thaw))
 | .ret x=> .ret (thaw x)
 | .pan v=> .pan v
theorem JD {x:AV} (h:∀ xs k e,x ≠ .own xs k e):thaw x=x:=by
 cases x<;>first|rfl|exact absurd rfl (h _ _ _)
theorem uT (x:AV):∀ a k e,thaw x ≠ .own a k e:=by
 intro a k e h;cases x<;>simp [thaw] at h
theorem Az:∀ (l:List AV) (n:Nat),(fK n (l.map thaw)).2= []
 | [],_=>rfl
 |x::r,n=>by rw [Xqg,bJ n (uT x)];exact Az r n
section
variable {P:Program} {ap:AP}
theorem D8 {gh gf g':dK} {m:aW} {S S':aO} {w:World} (o:b_ ap gf m S w) {rd:dK} (d:∀ b B,rd b=some B->gf b=some B) (c:S'=dL S m rd w) (hother:∀ x v,VR gh m S x v->VR g' m S' x v):
  ∀ (l:List AV) (n:Nat) (vs:List Value),(∀ i B,(fK n l).2[i]? =some B->rd (n+i)=some B)->jm gh gf m S n l vs->jm g' g' m S' n (l.map thaw) vs
 | [],n,vs,_,h=>by cases vs with|nil=>trivial|cons _ _=>simp [jm] at h
 |x::r,n,[],_,h=>by
  exfalso;rcases kD x with ⟨j,k,e,rfl⟩|f
  .simp [jm] at h
  .cases x<;>simp [jm] at h
 | x ::r,n,v::vs,hb,h=>by
  rcases kD x with ⟨j,k,e,rfl⟩|f
  .simp only [jm] at h;simp only [fK] at hb;have h0:=hb 0 _ rfl;rw [Xq4] at h0;have D:frz rd 6 (.ref n 0 0 k)=some (.sl (j.take (k*e)) k true):=by
    simp [frz,h0,NY]
   have C:=nJ o d 6 _ _ _ D h.1;rw [Xqg,dh (uT _)];refine ⟨iE _ (c ▸ C), ?_⟩;have t:=D8 o d c hother r (n+1) vs (λi B A=>by rw [show n+1+i=n+(i+1) by omega];exact hb (i+1) B (by simpa using A)) h.2;have key:∀ (l:List AV) (a b:Nat) (vs:List Value),(∀ x ∈ l,∀ j k e,x ≠ .own j k e)->jm g' g' m S' a l vs->jm g' g' m S' b l vs:=by
    intro l
    induction l with
    |nil=>intro a b vs _ h;cases vs with|nil=>trivial|cons _ _=>simp [jm] at h
    | cons y q ih=>
     intro a b vs s h;cases vs with
     |nil=>cases y<;>simp [jm] at h
     |cons u us=>
      have p:=s y (by simp);rw [dh p] at h ⊢;exact ⟨h.1,ih a b us (λx f=>s x (by simp [f])) h.2⟩
   refine key _ (n+1) n vs ?_ t;intro y p;obtain ⟨z,_,rfl⟩:=List.mem_map.1 p;exact uT z
  .rw [dh f] at h;rw [bJ n f] at hb;rw [Xqg,dh (uT x),JD f];exact ⟨hother _ _ h.1,D8 o d c hother r n vs hb h.2⟩
theorem aG.thaw {f:Nat} {args:List AV} {h a:List aU} {out:lG} (hp:∀ B ∈ a,B.pr=true) (J:aG P ap f args h out a):aG P ap f args h (sU out) a:=by
 refine ⟨J.len,J.ent,λm S w cargs T C=>(J.calls m S w cargs T C).mono ?_⟩
 rintro e w' ⟨m',S',hF⟩
 obtain ⟨s,d,z⟩:=hF;have u:∀ n,lS n (sU out)= []:=by
  intro n;cases out with
  |pan v=>rfl
  | ret x=>
   rcases Em x with ⟨l,rfl⟩|ht
   .simp only [sU,lS,kE];exact Az l n
   .have:sU (.ret x)= .ret (AM.thaw x):=by cases x<;>first|rfl|exact absurd rfl (ht _)
    rw [this];simp only [lS];have D:∀ l,AM.thaw x ≠ .tup l:=by intro l K;cases x<;>simp [AM.thaw] at K;exact ht _ rfl
    rw [jP n (uT x) D]
 let rd:dK:=λb=>if a.length<=b then bz (a++lS a.length out) b else none
 have y:∀ b B,rd b=some B->bz (a++lS a.length out) b=some B:=by
  intro b B c;simp only [rd] at c;split at c
  .exact c
  .cases c
 have r:=qo S' m' rd w';have p:∀ b B,bz a b=some B->bz (a++lS a.length out) b=some B:=by
  intro b B c;have:b<a.length:=(List.getElem?_eq_some_iff.1 c).1;rw [fH this];exact c
 have hother:∀ x v,VR (bz a) m' S' x v->VR (bz (a++lS a.length (sU out))) m' (dL S' m' rd w') x v:=by
  intro x v G;rw [u,Xqd];exact rX r (Ge.refl _ _) x G
 refine ⟨m',dL S' m' rd w', ?_, ?_, ?_⟩
 .rw [u,Xqd];refine ⟨λb E B B' c Q=>s.inj b E B B' (p b B c) (p E B' Q), ?_,λk o v C=>sS s C, ?_, ?_⟩
  .intro b B c;obtain ⟨⟨cur,e,vs,rest,j,t,F,R,h5,V⟩,Y,O⟩:=s.blk b B (p b B c);have L:=hp B (Xqm c);refine ⟨⟨cur,e,vs,rest,j,t,λ_=>bD r _ (F L),bU _ (bD r _ (F L)),h5,V⟩,Y,O⟩
  .intro b B c o v C;rcases fU C with j|⟨j,E,B',t,F,R⟩
   .exact s.own b B (p b B c) o v j
   .have:=s.inj b E B B' (p b B c) (y _ _ t) F.symm;subst this;have A:b<a.length:=(List.getElem?_eq_some_iff.1 c).1;simp only [rd] at t;rw [if_neg (by omega)] at t;cases t
  .intro k M U;obtain ⟨vs,j,t⟩:=s.glob k M U;exact ⟨vs,bD r _ j,t.mono r⟩
 .rw [u,Xqd];refine ⟨?_,iV.trans d.sle r,d.os,d.tape,d.output,d.size,d.rest,λb B c=>d.img b B (p b B c), ?_⟩
  .intro b B c;obtain ⟨B',j,t⟩:=d.ge b B c;have A:b<a.length:=υ (List.getElem?_eq_some_iff.1 c).1 J.len;rw [fH A] at j;exact ⟨B',j,t⟩
  .intro k o v C;rcases fU C with j|⟨j,E,B',t,F,R⟩
   .exact d.sealN k o v j
   .rcases d.img E B' (y _ _ t) with h5|⟨B0,h5,_⟩
    .exact .inr (.inl (F ▸ h5))
    .exfalso;have A:E<h.length:=(List.getElem?_eq_some_iff.1 h5).1;simp only [rd] at t;rw [if_neg (by have:=J.len;omega)] at t;cases t
 .have I:∀ l,out= .ret (.tup l)->∀ i B,(fK a.length l).2[i]? =some B->rd (a.length+i)=some B:=by
   intro l K i B Z;subst K;simp only [rd];rw [if_pos (by omega),jE (by omega),show a.length+i - a.length=i by omega];exact Z
  cases out with
  |pan v=>
   obtain ⟨cv,N,j⟩:=z;refine ⟨cv,N, ?_⟩;have:=hother v cv j;rwa [u,Xqd] at this
  | ret x=>
   obtain ⟨cv,N,j⟩:=z;rcases Em x with ⟨l,rfl⟩|ht
   .simp only [zi] at j;obtain ⟨vs,W,q⟩:=j;refine ⟨cv,N, ?_⟩;simp only [zi];refine ⟨vs,W, ?_⟩;have c:(kE a.length (.tup (l.map AM.thaw))).2= []:=by simp only [kE];exact Az l _
    rw [c,Xqd];have:=D8 (gh:=bz a) (g':=bz a) s y rfl (λx v G=>rX r (Ge.refl _ _) x G) l a.length vs (I l rfl) q;exact this
   .have e3:sU (.ret x)= .ret (AM.thaw x):=by cases x<;>first|rfl|exact absurd rfl (ht _)
    have D:∀ l,AM.thaw x ≠ .tup l:=by intro l K;cases x<;>simp [AM.thaw] at K;exact ht _ rfl
    rw [e3];refine ⟨cv,N, ?_⟩;rw [ni (uT x) D];rcases kD x with ⟨M,k,e,rfl⟩|G
    .simp only [zi] at j;have h0:rd a.length=some (NY M e):=by
      simp only [rd];rw [if_pos (κ _),jE (κ _),Xz8];rfl
     have X:frz rd 6 (.ref a.length 0 0 k)=some (.sl (M.take (k*e)) k true):=by
      simp [frz,h0,NY]
     have:=nJ s y 6 _ _ _ X j;exact iE _ this
    .rw [ni G ht] at j;rw [JD G];exact rX r (Ge.refl _ _) x j
end
end AM
namespace AM
open Go
def BD (b:Nat) (c v:Nat):Option (Nat × Nat):=match Xqk c b with|true=>none|false=>some (c,v)
inductive Fz (b:Nat) (B:aU):AV->AV->Prop
 |ren {x:AV}:Fz b B x (ren (BD b) x)
 |ref {i n:Nat}:Fz b B (.ref b B.ver i n) (.sl ((B.cells.drop (i*B.esz)).take (n*B.esz)) n true)
 |fit {x y z:AV}:Fz b B x y->bY y z->Fz b B x z
inductive FzL (b:Nat) (B:aU):List AV->List AV->Prop
 |nil:FzL b B [] []
 |cons {x y:AV} {l r:List AV}:Fz b B x y->FzL b B l r->FzL b B (x::l) (y::r)
theorem Fz.same {b:Nat} {B:aU} {x:AV} (h:AM.ren (BD b) x=x):Fz b B x x:=by
 have:=Fz.ren (b:=b) (B:=B) (x:=x);rwa [h] at this
theorem Fz.dead {b:Nat} {B:aU} (x:AV):Fz b B x .dead:= .fit .ren (bY.dead _)
theorem FzL.length {b:Nat} {B:aU} {l r:List AV} (h:FzL b B l r):l.length=r.length:=by
 induction h with
 |nil=>rfl
 |cons _ _ ih=>simp [ih]
structure zX (b:Nat) (B:aU) (C C':aU):Prop where
 ver:C'.ver=C.ver
 fro:C'.fro=C.fro
 fz:C'.fz=C.fz
 esz:C'.esz=C.esz
 body:(C.pr=true/\C'.cells=C.cells/\C'.pr=true)\/(FzL b B C.cells C'.cells/\(C'.pr=true->(cZ C'.cells).isEmpty=true))
theorem zX.same {b:Nat} {B C:aU} (hp:C.pr=true):zX b B C C:=⟨rfl,rfl,rfl,rfl,.inl ⟨hp,rfl,hp⟩⟩
theorem zX.length {b:Nat} {B C C':aU} (h:zX b B C C'):C.cells.length=C'.cells.length:=by
 rcases h.body with ⟨_,e,_⟩|⟨e,_⟩
 .rw [e]
 .exact e.length
section
variable {P:Program} {ap:AP} {g:dK} {m:aW} {S:aO} {w:World}
def pV (b:Nat) (B:aU):dK:=λc=>match Xqk c b with|true=>some B|false=>none
theorem vU {b c:Nat} {B C:aU} (h:pV b B c=some C):c=b/\C=B:=by
 unfold pV at h;split at h
 .rename_i a;cases h;exact ⟨aN a,rfl⟩
 .cases h
theorem TP (b:Nat) (B:aU):pV b B b=some B:=by unfold pV;rw [Xzt]
theorem Fz.sound {b:Nat} {B:aU} (k:b_ ap g m S w) (l:g b=some B) (e:B.pr=true) {g':dK} (o:wI g m g' m (BD b)) {x y:AV} (h:Fz b B x y):∀ {v:Value},VR g m S x v->VR g' m (dL S m (pV b B) w) y v:=by
 have d:∀ c C,pV b B c=some C->g c=some C:=by
  intro c C j;obtain ⟨rfl,rfl⟩:=vU j;exact l
 induction h with
 |ren=>intro v a;exact Du (qo S m (pV b B) w) o _ a
 | @ref i n=>
  intro v a;have f:frz (pV b B) 6 (.ref b B.ver i n)=some (.sl ((B.cells.drop (i*B.esz)).take (n*B.esz)) n true):=by
   simp [frz,TP,e]
  exact iE _ (nJ k d 6 _ _ _ f a)
 |fit _ f ih=>intro v a;exact f _ _ _ _ (ih a)
theorem FzL.sound {b:Nat} {B:aU} (d:b_ ap g m S w) (e:g b=some B) (c:B.pr=true) {g':dK} (f:wI g m g' m (BD b)) {l r:List AV} (h:FzL b B l r):∀ {vs:List Value},bu g m S l vs->bu g' m (dL S m (pV b B) w) r vs:=by
 induction h with
 |nil=>intro vs a;cases vs with|nil=>simp [bu]|cons _ _=>simp [bu] at a
 | cons hx _ ih=>
  intro vs a;cases vs with
  |nil=>simp [bu] at a
  |cons v vs=>
   simp only [bu] at a ⊢;exact ⟨hx.sound d e c f a.1,ih a.2⟩
theorem zA:∀ {l:List AV} {vs:List Value},(cZ l).isEmpty=true->bu g m S l vs->bT S l vs
 | [],[],_,_=>by simp [bT]
 |x::l,v::vs,h,hv=>by
  simp only [cZ,Xkm,List.append_eq_nil_iff] at h;rw [<- Xkm,<- Xkm] at h;simp only [bu] at hv;simp only [bT];exact ⟨pX h.1 hv.1,zA h.2 hv.2⟩
 | [],_::_,_,hv=>by simp [bu] at hv
 |_::_,[],_,hv=>by simp [bu] at hv
theorem J8 {g g':dK} {m b:aW} {S S':aO} {ρ:Nat->Nat->Option (Nat × Nat)} (a:iV S S') (c:wI g m g' b ρ):∀ {l:List (Nat × List AV)} {ds:List Deferred},iO g m S l ds->iO g' b S' (l.map λd=>(d.1,pI ρ d.2)) ds
 | [],[],_=>by simp only [List.map_nil,iO]
 |d::r,cd::cr,h=>by
  simp only [iO] at h;simp only [Xqg,iO];obtain ⟨⟨cap,f,i⟩,e⟩:=h;exact ⟨⟨cap,f,mf a c _ i⟩,J8 a c e⟩
 | [],_::_,h=>by simp [iO] at h
 |_::_,[],h=>by simp [iO] at h
theorem Ia {h0:List aU} {nt:Nat} {r r':St} {m0 h:aW} {S0 S':aO} {w0 w':World} {I:Act} (b:Nat) (B:aU) (hb0:h0.length<=b) (E:look r.hp b=some B) (F:B.pr=true)
  (hd:r'.dfs=r.dfs.map λd=>(d.1,pI (BD b) d.2))
  (henv:∀ t,Fz b B (r.env.get t) (r'.env.get t))
  (hdom:∀ c C',look r'.hp c=some C'->c ≠ b/\∃ C,look r.hp c=some C/\zX b B C C')
  (hall:∀ c C,c ≠ b->look r.hp c=some C->∃ C',look r'.hp c=some C')
  (h5:Fr (bz h0) m0 S0 w0 (look r.hp) h S' w') (h6:FR ap r.env r.hp r.dfs nt h S' w' I):
  ∃ S2,Fr (bz h0) m0 S0 w0 (look r'.hp) h S2 w'/\FR ap r'.env r'.hp r'.dfs nt h S2 w' I:=by
 have f:=h6.srel;have p:=qo S' h (pV b B) w';have hrd:∀ c C,pV b B c=some C->look r.hp c=some C:=by
  intro c C i;obtain ⟨rfl,rfl⟩:=vU i;exact E
 have j:wI (look r.hp) h (look r'.hp) h (BD b):=by
  intro c ver T Y hρ C s q;unfold BD at hρ;split at hρ
  .cases hρ
  .rename_i X;cases hρ;have u:c ≠ b:=by intro e;subst e;simp at X
   obtain ⟨C',n⟩:=hall c C u s;obtain ⟨_,C2,l,a⟩:=hdom c C' n;rw [s] at l;cases l;exact ⟨C',n,by rw [a.ver];exact q,λe=> ⟨by rw [<- a.ver];exact e,rfl,a.esz⟩⟩
 have N:b_ ap (look r'.hp) h (dL S' h (pV b B) w') w':=by
  refine ⟨?_, ?_,λk o v q=>sS f q, ?_, ?_⟩
  .intro c T C C' i L hm;obtain ⟨_,D,hD,_⟩:=hdom c C i;obtain ⟨_,D',M,_⟩:=hdom T C' L;exact f.inj c T D D' hD M hm
  .intro c C' i;obtain ⟨_,C,s,a⟩:=hdom c C' i;obtain ⟨⟨cur,ee,vs,rest,W,J,Z,k4,k5,k6⟩,hz,U⟩:=f.blk c C s;have A:(C'.pr=true->bT (dL S' h (pV b B) w') C'.cells vs)/\bu (look r'.hp) h (dL S' h (pV b B) w') C'.cells vs:=by
    rcases a.body with ⟨O,V,q3⟩|⟨O,V⟩
    .have:=bD p _ (Z O);rw [V];exact ⟨λ_=>this,bU _ this⟩
    .have q:=O.sound f E F j k4;exact ⟨λhp=>zA (V hp) q,q⟩
   exact ⟨⟨cur,ee,vs,rest,by rw [a.esz];exact W,J,A.1,A.2,by rw [a.esz];exact k5,λhp=>by rw [a.esz] at hp ⊢;exact k6 hp⟩,λhp=>by rw [a.fz];exact hz (by rw [<- a.fro];exact hp),by rw [a.fz,<- a.length];exact U⟩
  .intro c C' i o v q;obtain ⟨u,C,s,a⟩:=hdom c C' i;rw [a.fro,a.fz];rcases fU q with z|⟨z,G,B',R,K,h4⟩
   .exact f.own c C s o v z
   .obtain ⟨rfl,rfl⟩:=vU R;exact absurd (f.inj c G C B' s E K.symm) u
  .intro k xs hk;obtain ⟨vs,W,J⟩:=f.glob k xs hk;exact ⟨vs,bD p _ W,J.mono p⟩
 have x:Fr (bz h0) m0 S0 w0 (look r'.hp) h (dL S' h (pV b B) w') w':=by
  refine ⟨?_,iV.trans h5.sle p,h5.os,h5.tape,h5.output,h5.size,h5.rest, ?_, ?_⟩
  .intro c C i;have hlt:c<h0.length:=(List.getElem?_eq_some_iff.1 i).1;obtain ⟨C1,y,e1,e2⟩:=h5.ge c C i;obtain ⟨C',n⟩:=hall c C1 (by omega) y;obtain ⟨_,C2,l,a⟩:=hdom c C' n;rw [y] at l;cases l;exact ⟨C',n,by rw [a.esz];exact e1,by rw [a.ver];exact e2⟩
  .intro c C' i;obtain ⟨_,C,s,_⟩:=hdom c C' i;exact h5.img c C s
  .intro k o v q;rcases fU q with z|⟨z,G,B',R,K,h4⟩
   .exact h5.sealN k o v z
   .obtain ⟨rfl,rfl⟩:=vU R;rcases h5.img G B' E with h7|⟨B0,h7,_⟩
    .exact .inr (.inl (K ▸ h7))
    .have:G<h0.length:=(List.getElem?_eq_some_iff.1 h7).1;omega
 have Q:FR ap r'.env r'.hp r'.dfs nt h (dL S' h (pV b B) w') w' I:=by
  refine ⟨N,λt=>(henv t).sound f E F j (h6.env t), ?_,h6.size⟩;rw [hd];exact J8 p j h6.dfs
 exact ⟨_,x,Q⟩
theorem ak.freeze {h0:List aU} {nt:Nat} {f:Code} {s r r':St} {e:bI} (b:Nat) (B:aU) (h:ak P ap h0 nt f s e r) (z:∀ v,e ≠ .panic v) (k:h0.length<=b) (A:look r.hp b=some B) (n:B.pr=true)
  (hmd:r'.md=r.md) (hd:r'.dfs=r.dfs.map λd=>(d.1,pI (BD b) d.2))
  (henv:∀ t,Fz b B (r.env.get t) (r'.env.get t))
  (hdom:∀ c C',look r'.hp c=some C'->c ≠ b/\∃ C,look r.hp c=some C/\zX b B C C')
  (hall:∀ c C,c ≠ b->look r.hp c=some C->∃ C',look r'.hp c=some C'):ak P ap h0 nt f s e r':=by
 intro hs;obtain ⟨q,p⟩:=h hs;refine ⟨hmd ▸ q,λm0 S0 w0 m S w a l x Q y=>p m0 S0 w0 m S w a l x Q ?_⟩;intro D S' w' o h5 u;obtain ⟨S2,i,j⟩:=Ia b B k A n hd henv hdom hall h5 u;have:=y D S2 w' o i j;cases e with
 |normal=>exact this
 |exit id=>exact this
 |ret=>exact this
 |panic v=>exact absurd rfl (z v)
def Sl (b:Nat) (B:aU):ji->(Nat->AV)->Prop
 | [],_=>True
 |(t,v)::r,f=>Fz b B (f t) v/\Sl b B r f
theorem oK {b:Nat} {B:aU} {f:Nat->AV}:∀ {e:ji},Sl b B e f->∀ t,Fz b B (f t) (e.get t)
 | [],_,t=>Fz.dead _
 | (u,v)::r,h,t=>by
  simp only [Sl] at h;simp only [ji.get,look];cases a:Xqk u t with
  |true=>
   have:=aN a;subst this;exact h.1
  |false=>exact oK h.2 t
def SN (b:Nat) (B:aU):Hp->Hp->Prop
 | [],l=>l= [(b,B)]
 |(c,C)::r,(d,D)::l=>c=d/\zX b B D C/\c ≠ b/\SN b B r l
 |_::_,[]=>False
theorem F8 {b:Nat} {B:aU}:∀ {r l:Hp},SN b B r l->∀ c C',look r c=some C'->c ≠ b/\∃ C,look l c=some C/\zX b B C C'
 | [],l,_,c,C',hc=>by simp [look] at hc
 | (d,D)::r,(d',D')::l,h,c,C',hc=>by
  simp only [SN] at h;obtain ⟨rfl,i,f,e⟩:=h;simp only [look] at hc ⊢;cases a:Xqk d c with
  |true=>
   rw [a] at hc;have:=aN a;subst this;cases hc;exact ⟨f,D',rfl,i⟩
  |false=>
   rw [a] at hc;exact F8 e c C' hc
 |_::_,[],h,_,_,_=>by simp [SN] at h
theorem F7 {b:Nat} {B:aU}:∀ {r l:Hp},SN b B r l->∀ c C,c ≠ b->look l c=some C->∃ C',look r c=some C'
 | [],l,h,c,C,hcb,hc=>by
  simp only [SN] at h;subst h;simp only [look] at hc;split at hc
  .rename_i a;exact absurd (aN a).symm hcb
  .cases hc
 |(d,D)::r,(d',D')::l,h,c,C,hcb,hc=>by
  simp only [SN] at h;obtain ⟨rfl,i,f,e⟩:=h;simp only [look] at hc ⊢;cases a:Xqk d c with
  |true=>exact ⟨D,rfl⟩
  |false=>rw [a] at hc;exact F7 e c C hcb hc
 |_::_,[],h,_,_,_,_=>by simp [SN] at h
theorem BP {b:Nat} {B:aU}:∀ {r l:Hp},SN b B r l->look l b=some B
 | [],l,h=>by
  simp only [SN] at h;subst h;simp [look]
 |(d,D)::r,(d',D')::l,h=>by
  simp only [SN] at h;obtain ⟨rfl,f,c,a⟩:=h;simp only [look];cases e:Xqk d b with
  |true=>exact absurd (aN e) c
  |false=>exact BP a
 |_::_,[],h=>by simp [SN] at h
theorem ak.forget {h0:List aU} {nt:Nat} {a:Code} {s:St} {e:bI} (b:Nat) (B:aU) {f en':ji} {hp hp':Hp} {md:AV} (h:ak P ap h0 nt a s e {env:=f,hp,md,dfs:= []}) (i:∀ v,e ≠ .panic v) (d:h0.length<=b) (c:B.pr=true)
  (henv:Sl b B en' (ji.get f)) (hhp:SN b B hp' hp):ak P ap h0 nt a s e {env:=en',hp:=hp',md,dfs:= []}:=
 h.freeze b B i d (BP hhp) c rfl rfl (oK henv) (F8 hhp) (F7 hhp)
theorem ak.forgetD {h0:List aU} {nt:Nat} {a:Code} {s:St} {e:bI} (b:Nat) (B:aU) {i en':ji} {hp hp':Hp} {md:AV} {dfs:List (Nat × List AV)} (h:ak P ap h0 nt a s e {env:=i,hp,md,dfs}) (j:∀ v,e ≠ .panic v) (f:h0.length<=b) (c:B.pr=true)
  (henv:Sl b B en' (ji.get i)) (hhp:SN b B hp' hp) (hd:dfs.map (λd=>(d.1,pI (BD b) d.2))=dfs):ak P ap h0 nt a s e {env:=en',hp:=hp',md,dfs}:=
 h.freeze b B j f (BP hhp) c rfl hd.symm (oK henv) (F8 hhp) (F7 hhp)
end
end AM
namespace AM
open Go
def H7 (P:Program) (f:TypeId->Option (List LK)):List Field->Nat->Option (List LK)
 | [],_=>some []
 | x::r,off=>match f x.type with
  |some l=>match Xqk x.offset off && Xqk (P.cellsOf x.type) l.length with
   |true=>match H7 P f r (off+l.length) with|some q=>some (l++q)|none=>none
   |false=>none
  |none=>none
def KN (P:Program):Nat->TypeId->Option (List LK)
 |0,_=>none
 | n+1,t=>match P.underlying t with
  |some (.int k)=>some [.int k]
  |some .bool=>some [.bool]
  |some .string=>some [.str]
  |some (.struct fs)=>match H7 P (KN P n) fs.toList 0 with
   |some l=>match Xqk (P.cellsOf t) l.length with|true=>some l|false=>none
   |none=>none
  |some (.array m e)=>match KN P n e with
   |some l=>match Xqk (P.cellsOf e) l.length && Xqk (P.cellsOf t) (m*l.length) with|true=>some (ζ m l).flatten|false=>none
   |none=>none
  |_=>none
inductive mX:List LK->List Value->Prop
 |nil:mX [] []
 |int {k:IntKind} {n:Int} {r:List LK} {l:List Value}:mX r l->mX (.int k::r) (.int k n::l)
 |bool {b:Bool} {r:List LK} {l:List Value}:mX r l->mX (.bool::r) (.bool b::l)
 |str {s:ByteArray} {r:List LK} {l:List Value}:mX r l->mX (.str::r) (.string s::l)
theorem mX.app {a b:List LK} {x y:List Value} (h:mX a x) (c:mX b y):mX (a++b) (x++y):=by
 induction h with
 |nil=>exact c
 |int _ ih=>exact .int ih
 |bool _ ih=>exact .bool ih
 |str _ ih=>exact .str ih
section
variable {H:Type} {enc:TypeId × Value->H} {P:Program} {w:World} {base:Nat} {spare:Nat->Bool} {held:Bool}
theorem EE {n:Nat} {f:TypeId->Option (List LK)} (c:∀ t ks,f t=some ks->∀ (fuel:Nat) (cs:List Value) (x:DataW H × List MemPlace),DataW.trod enc P w base spare held fuel t cs=some x->mX ks cs) {cs:List Value}:∀ (r:List Field) (off:Nat) (ks:List LK),H7 P f r off=some ks->
  (∀ (i:Nat) (x:Field),r[i]? =some x->∃ y,DataW.trod enc P w base spare held n x.type ((cs.drop x.offset).take (P.cellsOf x.type))=some y)->mX ks ((cs.drop off).take ks.length)
 | [],off,ks,h,_=>by
  simp only [H7] at h;cases h;simpa using mX.nil
 | x ::r,off,ks,h,hx=>by
  simp only [H7] at h;split at h
  .rename_i l o;split at h
   .rename_i a;simp only [τ] at a;have j:=Xxq a.1;have e:=Xxq a.2;split at h
    .rename_i q p;cases h;obtain ⟨y,s⟩:=hx 0 x rfl;have b:=c _ _ o _ _ _ s;rw [j,e] at b;have k:=EE c r (off+l.length) q p (λi f d=>hx (i+1) f (by simpa using d));rw [ν,Xkf,Xjs];exact b.app k
    .cases h
   .cases h
  .cases h
theorem Xl:∀ (n:Nat) (t:TypeId) (ks:List LK),KN P n t=some ks->∀ (d:Nat) (cs:List Value) (x:DataW H × List MemPlace),DataW.trod enc P w base spare held d t cs=some x->mX ks cs:=by
 intro n
 induction n with
 |zero=>intro t ks h;simp [KN] at h
 | succ n ih=>
  intro t ks h d cs x u;simp only [KN] at h;split at h
  .rename_i k c;cases h;obtain ⟨m,rfl,_⟩:=DataW.trod_int c u;exact .int .nil
  .rename_i c;cases h;obtain ⟨b,rfl,_⟩:=DataW.trod_bool c u;exact .bool .nil
  .rename_i c;cases h;obtain ⟨s,rfl,_⟩:=DataW.trod_string c u;exact .str .nil
  .rename_i B c;split at h
   .rename_i l A;split at h
    .rename_i r;cases h;obtain ⟨E,m,rfl,_,a,o,z⟩:=DataW.trod_struct c u;have e:=Xxq r;have F:=EE (n:=m) ih B.toList 0 ks A (λi f K=>by
      have v:B[i]? =some f:=by simpa using K
      have p:=z i f v;have y:i<E.length:=by rw [o];exact (Array.getElem?_eq_some_iff.1 v).1
      rw [μ y] at p;exact ⟨_,p⟩)
     rw [Xxz,<- e,<- a,Xxd] at F;exact F
    .cases h
   .cases h
  .rename_i m e c;split at h
   .rename_i l A;split at h
    .rename_i r;cases h;simp only [τ] at r;have J:=Xxq r.1;have I:=Xxq r.2;obtain ⟨E,q,rfl,_,a,o,z⟩:=DataW.trod_array c u;have key:∀ j,j<=m->mX (ζ j l).flatten ((cs.drop ((m - j)*l.length)).take (j*l.length)):=by
      intro j
      induction j with
      |zero=>intro _;simpa using mX.nil
      | succ j ihj=>
       intro L;have p:=z (m - (j+1)) (by omega);rw [μ (by omega)] at p;have C:=ih _ _ A _ _ _ p;rw [J] at C;have G:=ihj (by omega);rw [List.replicate_succ,Xjy,Nat.add_mul,Nat.one_mul,Nat.add_comm (j*l.length),Xkf,Xjs];have h5:(m - (j+1))*l.length+l.length=(m - j)*l.length:=by
        rw [<- Xvx];congr 1;omega
       rw [h5];exact C.app G
     have D:=key m (κ _);rw [Xz8,Xj7,Xxz,<- I,<- a,Xxd] at D;exact D
    .cases h
   .cases h
  .cases h
theorem XM {n:Nat} {t:TypeId} {ks:List LK} (b:KN P n t=some ks) {v:Value} {d:DataW H} {p:List MemPlace} (h:DataW.Trod enc P w base spare held t v d p):mX ks v.cells.toList:=by
 obtain ⟨a,h⟩:=h;exact Xl n t ks b a _ _ h
theorem MF {v:Value} {l:List Value} (h:v.cells.toList=l) (a:l.length ≠ 1):v= .agg l.toArray:=by
 cases v with
 |agg cs=>
  have:cs.toList=l:=h;rw [<- this]
 |_=>subst h;simp [Value.cells] at a
end
end AM
namespace AM
open Go
def Bf:Nat->Nat->List Bool
 |0,_=> []
 |n+1,k=>Xqk (k % 2) 1::Bf n (k / 2)
def acE:Nat->List Bool->List Bool
 |0,l=>l
 |n+1,l=>true::acE n l
theorem oD.n (k:Nat) {l:List Bool} (h:oD l):oD (acE k l):=by
 induction k with
 |zero=>exact h
 |succ k ih=>exact .t ih
theorem oD.k (k:Nat) {b:Bool} {l:List Bool} (a:b=true) (h:oD l):oD (acE k (b::l)):= .n k (.c a h)
theorem tf (b:Bool):b=true\/b=false:=by cases b<;>simp
theorem aA {b:Bool} (h:b=true):lit true b=true:=h
theorem az {b:Bool} (h:b=false):lit false b=true:=by subst h;rfl
theorem dC {b:Bool} (h:b=false):lit true (!b)=true:=by subst h;rfl
theorem aP {b:Bool} (h:b=true):lit false (!b)=true:=by subst h;rfl
inductive PS (P:Program) (ap:AP):List Prop->List (lG × List aU)->A8->List zh->Prop where
 |nil:PS P ap [] [] [] []
 |c {f:Nat} {args:List AV} {h h':List aU} {out:lG} {ps:List Prop} {ans:List (lG × List aU)} {lps:A8} {hs:List zh}:aG P ap f args h out h'->PS P ap ps ans lps hs->PS P ap (aG P ap f args h out h'::ps) (ans++ [(out,h')]) lps hs
 |l {h0:List aU} {n:Nat} {code:Code} {s s':St} {e:bI} {ps:List Prop} {ans:List (lG × List aU)} {lps:A8} {hs:List zh}:kw P ap h0 n code s e s'->PS P ap ps ans lps hs->PS P ap (kw P ap h0 n code s e s'::ps) ans (lps++ [(e,s')]) hs
 |v (d:Nat) {x y:AV} {ps:List Prop} {ans:List (lG × List aU)} {lps:A8} {hs:List zh}:bY x y->PS P ap ps ans lps hs->PS P ap (bY x y::ps) ans lps (hs++ [.v d y])
 |b (d:Nat) {x y:List AV} {ps:List Prop} {ans:List (lG × List aU)} {lps:A8} {hs:List zh}:x=y->PS P ap ps ans lps hs->PS P ap ((x=y)::ps) ans lps (hs++ [.b d y])
 |u (d:Nat) {x y:List (Option aU)} {ps:List Prop} {ans:List (lG × List aU)} {lps:A8} {hs:List zh}:x=y->PS P ap ps ans lps hs->PS P ap ((x=y)::ps) ans lps (hs++ [.u d])
theorem PS.all {P:Program} {ap:AP} {ps:List Prop} {ans:List (lG × List aU)} {a:A8} {hs:List zh} (h:PS P ap ps ans a hs):OH ps:=by
 induction h with
 |nil=>exact .nil
 |c h _ ih=>exact .cons h ih
 |l h _ ih=>exact .cons h ih
 |v _ h _ ih=>exact .cons h ih
 |b _ h _ ih=>exact .cons h ih
 |u _ h _ ih=>exact .cons h ih
theorem ck {P:Program} {ap:AP} (g:GH P ap) {ans:List (lG × List aU)} {ps:List Prop} {f:Nat} {args:List AV} {h a:List aU} {out:lG} (hp:PS P ap ps ans [] [])
  (he:sD ap (AL P ap 3000 4) 3000 .dead f args h ⟨true,[],[],[],ans,[]⟩= .ok (out,a,.dead) ⟨true,[],[],ps,[],[]⟩):aG P ap f args h out a:=KD g hp.all he
theorem pk {P:Program} {ap:AP} (g:GH P ap) (d:List Nat) (n k:Nat) {ans:List (lG × List aU)} {a:A8} {hs:List zh} {bs:List Bool} {ps:List Prop} {f:Nat} {args:List AV} {h b:List aU} {out:lG}
  (hb:oD bs) (hp:PS P ap ps ans a hs) (he:UE P ap (AL P ap 3000 4) 3000 d f args h a ⟨false,Bf n k,[],[],ans,hs⟩= .ok (out,b,.dead) ⟨false,[],bs,ps,[],[]⟩):aG P ap f args h out b:=by
 obtain ⟨c,e⟩:=nO g.apok g.mixed g.fnok 3000 4;exact Y3 g.apok g.mixed g.fnok c e he ⟨hb.mem,hp.all.mem⟩
def DL (ap:AP) (f:Nat):List Nat:=match ap.fnAt f with|some F=>F.keep|none=> []
def Vp (env:ji):R ((bI × St) × A8)->R ((bI × St) × A8)
 | .ok ((e,s),l) c=> .ok ((e,⟨env.map λq=>(q.1,s.env.get q.1),s.hp,s.md,s.dfs⟩),l) c
 |r=>r
def TJ (P:Program) (ap:AP) (h0:List aU) (f nt0:Nat) (ls:List Nat) (code:Code) (s:St) (lps:A8) (orc:List Bool) (ans:List (lG × List aU)) (hs:List zh) (env:ji):R ((bI × St) × A8):=
 match dV nt0 code with
 |true=>Vp env (oI P ap (AL P ap 3000 4) h0 (DL ap f) 3000 nt0 ls code s lps ⟨false,orc,[],[],ans,hs⟩)
 |false=> .bad 0
theorem aac (env a:ji):∀ t,ji.get (env.map λq=>(q.1,a.get q.1)) t=a.get t\/ji.get (env.map λq=>(q.1,a.get q.1)) t= .dead:=by
 intro t
 induction env with
 |nil=>exact .inr rfl
 | cons q r ih=>
  cases b:Xqk q.1 t with
  |true=>
   left;have:=Xxq b;subst this;simp only [ji.get,Xqg,look,b,Option.getD_some]
  | false=>
   have e:ji.get (Xz1 (λq=>(q.1,a.get q.1)) (q::r)) t=ji.get (Xz1 (λq=>(q.1,a.get q.1)) r) t:=by
    simp only [ji.get,Xqg,look,b]
   rw [e];exact ih
theorem pj {P:Program} {ap:AP} (g:GH P ap) (f:Nat) (h:List Nat) (n k:Nat) {nt nt0:Nat} {ans:List (lG × List aU)} {b:A8} {hs:List zh} {bs:List Bool} {ps:List Prop} {a:Code} {s s':St} {h0:List aU} {e:bI}
  (hb:oD bs) (hp:PS P ap ps ans b hs) (hn:nt0<=nt) (he:TJ P ap h0 f nt0 h a s b (Bf n k) ans hs s'.env= .ok ((e,s'),[]) ⟨false,[],bs,ps,[],[]⟩):ak P ap h0 nt a s e s':=by
 unfold TJ at he;split at he
 .rename_i hd;generalize i:oI P ap (AL P ap 3000 4) h0 (DL ap f) 3000 nt0 h a s b ⟨false,Bf n k,[],[],ans,hs⟩=r at he;cases r with
  |ok q c=>
   obtain ⟨⟨o,s1⟩,t⟩:=q;simp only [Vp,R.ok.injEq,Prod.mk.injEq] at he;obtain ⟨⟨⟨rfl,d⟩,rfl⟩,rfl⟩:=he;obtain ⟨l,p⟩:=nO g.apok g.mixed g.fnok 3000 4;have j:ak P ap h0 nt a s o s1:=(xJ g.apok g.mixed l hn a (fG hn a hd) _ _ _ _ _ i ⟨hb.mem,hp.all.mem⟩).2;refine j.weak (aK.refl _) ?_;rw [<- d];exact ⟨aac _ _,rfl,rfl,rfl⟩
  |need=>simp [Vp] at he
  |bad n=>simp [Vp] at he
 .cases he
theorem bY.pp {f d:List AV} {a:Nat} (h:ε a f=d):bY (.pp f a) (.pp d 0):=by
 subst h;intro g m S v e;simp only [VR,PR] at e ⊢;obtain ⟨b,o,vs,rfl,hp,hs⟩:=e;refine ⟨b,o+a,vs.drop a,rfl,qB a hp,λj u c=> ?_⟩;rw [Xj5] at c;have:=hs (a+j) u c;rwa [<- Nat.add_assoc] at this
theorem bY.ppt {e d f:List AV} {a:Nat} (h:ε a e=d++f):bY (.pp e a) (.pp d 0):=by
 intro g m S v i;have:=bY.pp h g m S v i;simp only [VR,PR] at this ⊢;obtain ⟨b,o,vs,rfl,hp,hs⟩:=this;refine ⟨b,o,vs.take d.length,rfl, ?_,λj u c=> ?_⟩
 .have:=lW d.length hp;rwa [List.take_left'] at this;rfl
 .rw [Xjq] at c;split at c
  .exact hs j u c
  .cases c
theorem bY.eq {x y:AV} (h:x=y):bY x y:=h ▸ λ_ _ _ _ a=>a
theorem bY.rd (ks:List LK) {d b c:List AV} {a:Nat} (h:ε a d=b++c) (e:Qj true ks (b++c)=b):bY (.agg (yf true ks d a)) (.agg b):= .eq (by unfold yf;rw [h,e])
theorem bY.rd1 (k:LK) {b c:List AV} {y:AV} {a:Nat} (h:ε a b= [y]++c) (d:eta k y=y):bY (eta k ((ε a b).headD .dead)) y:= .eq (by rw [h];exact d)
theorem oD.a {l r:List Bool} (h:oD l) (a:oD r):oD (l++r):=by
 induction h with
 |nil=>exact a
 |t _ ih=>exact .t ih
 |c hb _ ih=>exact .c hb ih
theorem oD.of {l:List Bool} (h:l.all id=true):oD l:=by
 induction l with
 |nil=>exact .nil
 |cons b r ih=>
  simp only [List.all_cons,id,τ] at h;exact .c h.1 (ih h.2)
theorem vz (ks:List LK) {d c b:List AV} {a:Nat} (h:ε a d=c++b) (e:(Y7 true ks (c++b)).all id=true):oD (MO true ks d a):=by
 unfold MO;rw [h];exact .of e
inductive YL:List AV->List AV->Prop where
 |nil:YL [] []
 |same {x:AV} {l r:List AV}:YL l r->YL (x::l) (x::r)
 |nilS {l r:List AV}:YL l r->YL (.nilS::l) (.sl [] 0 false::r)
 |sl {xs:List AV} {n:Nat} {a:Bool} {l r:List AV}:YL l r->YL (.sl xs n a::l) (.sl xs n false::r)
theorem YL.prl {S:aO} {l r:List AV} (h:YL l r):∀ {vs:List Value},bT S l vs->bT S r vs:=by
 induction h with
 |nil=>exact λh=>h
 |same _ ih=>intro vs b;cases vs with|nil=>simp [bT] at b|cons v vs=>simp only [bT] at b ⊢;exact ⟨b.1,ih b.2⟩
 | nilS _ ih=>
  intro vs b;cases vs with
  |nil=>simp [bT] at b
  |cons v vs=>
   simp only [bT,PR] at b ⊢;exact ⟨⟨none,0,b.1,κ _,.inl (by simp)⟩,ih b.2⟩
 | @sl xs n a _ _ _ ih=>
  intro vs b;cases vs with
  |nil=>simp [bT] at b
  |cons v vs=>
   have c:=b;simp only [bT] at c ⊢;refine ⟨?_,ih c.2⟩;have d:=bY.sl xs n a (λ_=>none) (λ_=>(0,0)) S v (by simp only [VR];exact c.1);simpa only [VR] using d
theorem bY.slP {k f:List AV} {n:Nat} {e:Bool} (i:YL k f):bY (.sl k n e) (.sl f n e):=by
 intro g m S v j;simp only [VR,PR] at j ⊢;obtain ⟨a,cap,rfl,l,h⟩:=j;refine ⟨a,cap,rfl,l, ?_⟩;rcases h with ⟨c,d,p,h5⟩|⟨b,o,vs,q,c,d⟩
 .subst d;cases i;exact .inl ⟨c,rfl,p,h5⟩
 .exact .inr ⟨b,o,vs,q,i.prl c,d⟩
end AM
namespace AM
open Go
variable {P:Program} {ap:AP}
theorem ak.norm {h0:List aU} {nt:Nat} {b:Code} {s s1:St} {e:bI} (keep:List Nat) (l:∀ v,e= .panic v->(eG v).isEmpty=true) (h:ak P ap h0 nt b s e s1):ak P ap h0 nt b s e (AM.norm h0.length keep s1):=by
 intro hs;obtain ⟨n,j⟩:=h hs;refine ⟨n,λm0 S0 w0 m S w a d q Q f=>j m0 S0 w0 m S w a d q Q ?_⟩;intro r S' w' k h5 o;obtain ⟨p,h7,i⟩:=qX (keep:=keep) h5 o;have:=f p S' w' k h7 i;clear f h7 i j;generalize AM.norm h0.length keep s1=s2 at*
 cases e with
 |normal=>exact this
 |exit id=>exact this
 |ret=>exact this
 |panic v=>intro cv c;exact this cv (iE _ (pX (l v rfl) c))
def amk:bI->Bool
 | .panic v=>(eG v).isEmpty
 |_=>true
def Vk (base:Nat) (env:ji):R ((bI × St) × A8)->R ((bI × St) × A8)
 | .ok ((e,s),l) c=>match amk e with
  |true=> .ok ((e,norm base (env.map λq=>q.1) s),l) c
  |false=> .bad 1
 |r=>r
def TG (P:Program) (ap:AP) (h0:List aU) (f nt0:Nat) (ls:List Nat) (code:Code) (s:St) (lps:A8) (orc:List Bool) (ans:List (lG × List aU)) (hs:List zh) (env:ji):R ((bI × St) × A8):=
 match dV nt0 code with
 |true=>Vk h0.length env (oI P ap (AL P ap 3000 4) h0 (DL ap f) 3000 nt0 ls code s lps ⟨false,orc,[],[],ans,hs⟩)
 |false=> .bad 0
theorem pn (g:GH P ap) (f:Nat) (i:List Nat) (n k:Nat) {nt nt0:Nat} {ans:List (lG × List aU)} {b:A8} {hs:List zh} {bs:List Bool} {ps:List Prop} {a:Code} {s s':St} {h0:List aU} {e:bI}
  (hb:oD bs) (hp:PS P ap ps ans b hs) (hn:nt0<=nt) (he:TG P ap h0 f nt0 i a s b (Bf n k) ans hs s'.env= .ok ((e,s'),[]) ⟨false,[],bs,ps,[],[]⟩):ak P ap h0 nt a s e s':=by
 unfold TG at he;split at he
 .rename_i hd;generalize j:oI P ap (AL P ap 3000 4) h0 (DL ap f) 3000 nt0 i a s b ⟨false,Bf n k,[],[],ans,hs⟩=r at he;cases r with
  | ok q c=>
   obtain ⟨⟨p,s1⟩,u⟩:=q;simp only [Vk] at he;split at he
   .rename_i d;simp only [R.ok.injEq,Prod.mk.injEq] at he;obtain ⟨⟨⟨rfl,h⟩,rfl⟩,rfl⟩:=he;obtain ⟨o,x⟩:=nO g.apok g.mixed g.fnok 3000 4;have l:ak P ap h0 nt a s p s1:=(xJ g.apok g.mixed o hn a (fG hn a hd) _ _ _ _ _ j ⟨hb.mem,hp.all.mem⟩).2;have:=l.norm (s'.env.map λq=>q.1) (λv t=>by subst t;exact d);rwa [h] at this
   .cases he
  |need=>simp [Vk] at he
  |bad n=>simp [Vk] at he
 .cases he
end AM
namespace AM
open Go
variable {P:Program} {ap:AP}
def goL {α σ β:Type} (F:σ->α->σ ⊕ β) (fin:σ->β):List α->σ->β
 | [],s=>fin s
 |x::r,s=>match F s x with
  | .inl s'=>goL F fin r s'
  | .inr b=>b
theorem aF.goL {α σ β:Type} {h0:List aU} {nt:Nat} {b:Code} {e:β->bI} {c:Nat × σ->St} {out:β->St} (F:σ->α->σ ⊕ β) (a:σ->β) (L:List α) (Inv:List α->σ->Prop)
  (hstep:∀ p x r s,L=p++x::r->Inv p s->match F s x with
   | .inl s'=>ak P ap h0 nt b (c (p.length,s)) .normal (c (p.length+1,s'))/\Inv (p++ [x]) s'
   | .inr q=>ak P ap h0 nt b (c (p.length,s)) (e q) (out q))
  (hend:∀ s,Inv L s->ak P ap h0 nt b (c (L.length,s)) (e (a s)) (out (a s))):
  ∀ (r p:List α) (s:σ),L=p++r->Inv p s->aF P ap h0 nt b e c out (p.length,s) (AM.goL F a r s):=by
 intro r
 induction r with
 |nil=>
  intro p s h f;rw [Xqd] at h;subst h;exact .done (hend s f)
 | cons x r ih=>
  intro p s h f;have d:=hstep p x r s h f;simp only [AM.goL];cases j:F s x with
  |inl s'=>
   rw [j] at d;have i:=ih (p++ [x]) s' (by rw [h];simp) d.2;rw [ν,Θ] at i;exact .next d.1 i
  |inr q=>
   rw [j] at d;exact .done d
theorem aF.mapL {α β:Type} {h0:List aU} {nt:Nat} {b:Code} {e:bI} {a:Nat × List β->St} {out:List β->St} (g:α->β) (L:List α)
  (hstep:∀ p x r,L=p++x::r->ak P ap h0 nt b (a (p.length,p.map g)) .normal (a (p.length+1,p.map g++ [g x])))
  (hend:ak P ap h0 nt b (a (L.length,L.map g)) e (out (L.map g))):aF P ap h0 nt b (λ_=>e) a out (0,[]) (L.map g):=by
 have key:∀ (r p:List α),L=p++r->aF P ap h0 nt b (λ_=>e) a out (p.length,p.map g) (L.map g):=by
  intro r
  induction r with
  |nil=>intro p h;rw [Xqd] at h;subst h;exact .done hend
  |cons x r ih=>
   intro p h;have c:=ih (p++ [x]) (by rw [h];simp);rw [ν,Θ,List.map_append] at c;exact .next (hstep p x r h) c
 exact key L [] rfl
end AM
namespace AM
open Go Go.WideShapes Go.ChangeShapes
theorem Kt {a:Addr} (h:a.spot=none) (n:Nat):a.add n=⟨a.block,a.off+n,none⟩:=by
 unfold Addr.add;obtain ⟨b,o,s⟩:=a;simp only at h;subst h;split
 .rename_i c;subst c;rfl
 .rfl
section
variable {H:Type} {enc:TypeId × Value->H} {P:Program} {w:World} {base:Nat} {spare:Nat->Bool} {held:Bool}
end
end AM
namespace AM
open Go
section
variable {P:Program} {ap:AP}
theorem ak.ahead {h0:List aU} {nt:Nat} {c:Code} {e:bI} {j:St} (b:Nat) (B:aU) {d en':ji} {hp hp':Hp} (n:ak P ap h0 nt c ⟨en',hp',.dead,[]⟩ e j) (h:h0.length<=b) (i:B.pr=true)
  (henv:Sl b B en' (ji.get d)) (hhp:SN b B hp' hp):ak P ap h0 nt c {env:=d,hp,md:= .dead,dfs:= []} e j:=by
 intro _;obtain ⟨h5,o⟩:=n rfl;refine ⟨h5,λm0 S0 w0 m S w a f p Q k=> ?_⟩;obtain ⟨S2,h7,l⟩:=Ia (r:={env:=d,hp,md:= .dead,dfs:= []}) (r':=⟨en',hp',.dead,[]⟩) b B h (BP hhp) i rfl (oK henv) (F8 hhp) (F7 hhp) f p;exact o m0 S0 w0 m S2 w a h7 l Q k
end
end AM
namespace AM
open Go
inductive HpS (b:Nat) (B:aU):Hp->Hp->Prop
 |nil:HpS b B [] []
 |cons {c:Nat} {C D:aU} {r l:Hp}:zX b B D C->c ≠ b->HpS b B r l->HpS b B ((c,C)::r) ((c,D)::l)
inductive HpY (b:Nat) (B:aU):Hp->Hp->Prop
 |here {r l:Hp}:HpS b B r l->HpY b B r ((b,B)::l)
 |step {c:Nat} {C D:aU} {r l:Hp}:zX b B D C->c ≠ b->HpY b B r l->HpY b B ((c,C)::r) ((c,D)::l)
theorem HpS.dom {b:Nat} {B:aU} {r l:Hp} (h:HpS b B r l):∀ c C',look r c=some C'->c ≠ b/\∃ C,look l c=some C/\zX b B C C':=by
 induction h with
 |nil=>intro c C' a;simp [look] at a
 | @cons d C D r l h1 h2 _ ih=>
  intro c C' a;simp only [look] at a ⊢;cases e:Xqk d c with
  |true=>
   rw [e] at a;have:=aN e;subst this;cases a;exact ⟨h2,D,rfl,h1⟩
  |false=>rw [e] at a;exact ih c C' a
theorem HpS.all {b:Nat} {B:aU} {r l:Hp} (h:HpS b B r l):∀ c C,look l c=some C->∃ C',look r c=some C':=by
 induction h with
 |nil=>intro c C a;simp [look] at a
 |@cons d C D r l h1 h2 _ ih=>
  intro c C' a;simp only [look] at a ⊢;cases e:Xqk d c with
  |true=>exact ⟨C,rfl⟩
  |false=>rw [e] at a;exact ih c C' a
theorem HpY.dom {b:Nat} {B:aU} {r l:Hp} (h:HpY b B r l):∀ c C',look r c=some C'->c ≠ b/\∃ C,look l c=some C/\zX b B C C':=by
 induction h with
 |here h=>
  intro c C' a;obtain ⟨f,C,i,j⟩:=h.dom c C' a;refine ⟨f,C, ?_,j⟩;simp only [look];cases e:Xqk b c with
  |true=>exact absurd (aN e).symm f
  |false=>exact i
 | @step d C D r l f i _ ih=>
  intro c C' a;simp only [look] at a ⊢;cases e:Xqk d c with
  |true=>
   rw [e] at a;have:=aN e;subst this;cases a;exact ⟨i,D,rfl,f⟩
  |false=>rw [e] at a;exact ih c C' a
theorem HpY.all {b:Nat} {B:aU} {r l:Hp} (h:HpY b B r l):∀ c C,c ≠ b->look l c=some C->∃ C',look r c=some C':=by
 induction h with
 |here h=>
  intro c C e a;simp only [look] at a;cases f:Xqk b c with
  |true=>exact absurd (aN f).symm e
  |false=>rw [f] at a;exact h.all c C a
 |@step d C D r l h1 h2 _ ih=>
  intro c C' e a;simp only [look] at a ⊢;cases f:Xqk d c with
  |true=>exact ⟨C,rfl⟩
  |false=>rw [f] at a;exact ih c C' e a
theorem HpY.look {b:Nat} {B:aU} {r l:Hp} (h:HpY b B r l):AM.look l b=some B:=by
 induction h with
 |here h=>simp [AM.look]
 |@step d C D r l h1 h2 _ ih=>
  simp only [AM.look];cases a:Xqk d b with
  |true=>exact absurd (aN a) h2
  |false=>exact ih
section
variable {P:Program} {ap:AP}
theorem ak.before {h0:List aU} {nt:Nat} {c:Code} {e:bI} {j:St} (b:Nat) (B:aU) {d en':ji} {hp hp':Hp} (n:ak P ap h0 nt c ⟨en',hp',.dead,[]⟩ e j) (h:h0.length<=b) (i:B.pr=true)
  (henv:Sl b B en' (ji.get d)) (hhp:HpY b B hp' hp):ak P ap h0 nt c {env:=d,hp,md:= .dead,dfs:= []} e j:=by
 intro _;obtain ⟨h5,o⟩:=n rfl;refine ⟨h5,λm0 S0 w0 m S w a f p Q k=> ?_⟩;obtain ⟨S2,h7,l⟩:=Ia (r:={env:=d,hp,md:= .dead,dfs:= []}) (r':=⟨en',hp',.dead,[]⟩) b B h hhp.look i rfl (oK henv) hhp.dom hhp.all f p;exact o m0 S0 w0 m S2 w a h7 l Q k
theorem ak.tidy {h0:List aU} {nt:Nat} {b:Code} {e:bI} {s s1 f:St} (keep:List Nat) (h:ak P ap h0 nt b s1 e f) (l:AM.norm h0.length keep s=s1) (hd:s1.md= .dead):ak P ap h0 nt b s e f:=by
 intro hs;obtain ⟨k,j⟩:=h hd;refine ⟨k,λm0 S0 w0 m S w a c o Q i=> ?_⟩;obtain ⟨n,h7,d⟩:=qX (keep:=keep) c o;rw [l] at h7 d;exact j m0 S0 w0 n S w a h7 d Q i
end
end AM
namespace AM
open Go Go.WideShapes Go.ChangeShapes
section
variable {H:Type} {enc:TypeId × Value->H} {P:Program} {w:World} {base:Nat} {spare:Nat->Bool} {held:Bool}
theorem QG {u e:TypeId} (b:P.underlying u=some (.slice e)) {base':Nat} {v:Value} (h:Value.okWide P w .any base' u v):v.cells.toList= [v]:=by
 obtain ⟨a,l,c,rfl⟩:=okWide_slice b h;rfl
end
end AM
namespace AM
open Go Go.WideShapes Go.ChangeShapes
inductive DK where
 |int (k:IntKind)
 |bool
 |str
 |slc (l:List DK)
def Hl (P:Program) (f:TypeId->Option (List DK)):List Field->Nat->Option (List DK)
 | [],_=>some []
 | x::r,off=>match f x.type with
  | some l=>match Xqk x.offset off && Xqk (P.cellsOf x.type) l.length with
   |true=>match Hl P f r (off+l.length) with
    |some q=>some (l++q)
    |none=>none
   |false=>none
  |none=>none
def Hm (P:Program):Nat->TypeId->Option (List DK)
 |0,_=>none
 | n+1,t=>match P.underlying t with
  |some (.int k)=>some [.int k]
  |some .bool=>some [.bool]
  |some .string=>some [.str]
  |some (.struct fs)=>match Hl P (Hm P n) fs.toList 0 with
   |some l=>match Xqk (P.cellsOf t) l.length with|true=>some l|false=>none
   |none=>none
  |some (.slice e)=>match Hm P n e with
   |some l=>match Xqk (P.cellsOf e) l.length && Nat.ble 1 l.length with|true=>some [.slc l]|false=>none
   |none=>none
  |_=>none
inductive f_ (b:Nat):List DK->List AV->Prop
 |nil:f_ b [] []
 |int {k:IntKind} {n:Int} {r:List DK} {l:List AV}:f_ b r l->f_ b (.int k::r) (.int k n::l)
 |bool {x:Bool} {r:List DK} {l:List AV}:f_ b r l->f_ b (.bool::r) (.bool x::l)
 |str {s:List UInt8} {r:List DK} {l:List AV}:s.length<=b->f_ b r l->f_ b (.str::r) (.str s::l)
 |slc {ks:List DK} {L:List (List AV)} {r:List DK} {l:List AV}:(∀ x ∈ L,f_ b ks x)->L.length<=b->f_ b r l->f_ b (.slc ks::r) (.sl L.flatten L.length false::l)
theorem f_.mono {b c:Nat} (h:b<=c) {ks:List DK} {a:List AV} (hd:f_ b ks a):f_ c ks a:=by
 induction hd with
 |nil=>exact .nil
 |int _ ih=>exact .int ih
 |bool _ ih=>exact .bool ih
 |str hs _ ih=>exact .str (Xqr hs h) ih
 |slc _ hl _ ihx ih=>exact .slc ihx (Xqr hl h) ih
theorem f_.app {b:Nat} {d a:List DK} {e c:List AV} (h:f_ b d e) (f:f_ b a c):f_ b (d++a) (e++c):=by
 induction h with
 |nil=>exact f
 |int _ ih=>exact .int ih
 |bool _ ih=>exact .bool ih
 |str hs _ ih=>exact .str hs ih
 |slc hx hl _ _ ih=>exact .slc hx hl ih
structure aku {H:Type} (bk:DataW H->Nat):Prop where
 str:∀ s:List UInt8,s.length<=bk (.lit (.string s))
 agg:∀ l:List (DataW H),∀ d ∈ l,bk d<=bk (.agg l)
 slc:∀ l r:List (DataW H),(∀ d ∈ l,bk d<=bk (.slice l r))/\l.length<=bk (.slice l r)
section
variable {H:Type} {enc:TypeId × Value->H} {P:Program} {w:World} {base:Nat} {spare:Nat->Bool} {held:Bool} {bk:DataW H->Nat}
theorem ED {n B:Nat} {f:TypeId->Option (List DK)} (e:∀ t ks,f t=some ks->∀ (fuel:Nat) (cs:List Value) (x:DataW H × List MemPlace),DataW.trod enc P w base spare held fuel t cs=some x->∃ xs,f_ (bk x.1) ks xs/\bT (jT w) xs cs/\∀ u ∈ cs,u.oneCell'=true) {cs:List Value}:∀ (r:List Field) (off:Nat) (ks:List DK),Hl P f r off=some ks->
  (∀ (i:Nat) (x:Field),r[i]? =some x->∃ y,DataW.trod enc P w base spare held n x.type ((cs.drop x.offset).take (P.cellsOf x.type))=some y/\bk y.1<=B)->∃ xs,f_ B ks xs/\bT (jT w) xs ((cs.drop off).take ks.length)/\∀ u ∈ (cs.drop off).take ks.length,u.oneCell'=true
 | [],off,ks,h,_=>by
  simp only [Hl] at h;cases h;exact ⟨[],.nil,by simp [bT],by simp⟩
 | x ::r,off,ks,h,hx=>by
  simp only [Hl] at h;split at h
  .rename_i l v;split at h
   .rename_i b;simp only [τ] at b;have E:=Xxq b.1;have D:=Xxq b.2;split at h
    .rename_i q G;cases h;obtain ⟨y,z,C⟩:=hx 0 x rfl;obtain ⟨A,k,c,d⟩:=e _ _ v _ _ _ z;rw [E,D] at c d;obtain ⟨F,p,o,j⟩:=ED e r (off+l.length) q G (λi f s=>hx (i+1) f (by simpa using s));refine ⟨A++F,(k.mono C).app p, ?_, ?_⟩
     .rw [ν,Xkf,Xjs];exact ny c o
     .rw [ν,Xkf,Xjs];intro u a;rcases List.mem_append.1 a with a|a
      .exact d u a
      .exact j u a
    .cases h
   .cases h
  .cases h
theorem Es {S:aO}:∀ {L:List (List AV)} {M:List (List Value)},L.length=M.length->(∀ (i:Nat) (x:List AV) (m:List Value),L[i]? =some x->M[i]? =some m->bT S x m)->bT S L.flatten M.flatten
 | [],[],_,_=>by simp [bT]
 |x::L,m::M,h,hp=>by
  rw [Xjy,Xjy];exact ny (hp 0 x m rfl rfl) (Es (by simpa using h) λi d a c b=>hp (i+1) d a (by simpa using c) (by simpa using b))
 | [],_::_,h,_=>by simp at h
 |_::_,[],h,_=>by simp at h
theorem KE (hk:aku bk) (hsp:∀ b,spare b=true):∀ (n:Nat) (t:TypeId) (ks:List DK),Hm P n t=some ks->∀ (C:Nat) (cs:List Value) (x:DataW H × List MemPlace),DataW.trod enc P w base spare held C t cs=some x->
  ∃ O,f_ (bk x.1) ks O/\bT (jT w) O cs/\∀ u ∈ cs,u.oneCell'=true:=by
 intro n
 induction n with
 |zero=>intro t ks h;simp [Hm] at h
 | succ n ih=>
  intro t ks h C cs x v;simp only [Hm] at h;split at h
  .rename_i k z;cases h;obtain ⟨m,rfl,_⟩:=DataW.trod_int z v;exact ⟨[.int k m],.int .nil,by simp [bT,PR],by simp [Value.oneCell']⟩
  .rename_i z;cases h;obtain ⟨b,rfl,_⟩:=DataW.trod_bool z v;exact ⟨[.bool b],.bool .nil,by simp [bT,PR],by simp [Value.oneCell']⟩
  .rename_i z;cases h;obtain ⟨s,rfl,rfl,_⟩:=DataW.trod_string z v;exact ⟨[.str s.data.toList],.str (hk.str _) .nil,by simp [bT,PR],by simp [Value.oneCell']⟩
  .rename_i fs z;split at h
   .rename_i l hl;split at h
    .rename_i N;cases h;obtain ⟨O,m,rfl,rfl,D,hxl,A⟩:=DataW.trod_struct z v;have e:=Xxq N;obtain ⟨X,d1,Y,U⟩:=ED (n:=m) (B:=bk (.agg (O.map (·.1)))) ih (cs:=cs) fs.toList 0 ks hl (λi f hf=>by
      have R:fs[i]? =some f:=by simpa using hf
      have I:=A i f R;have p:i<O.length:=by rw [hxl];exact (Array.getElem?_eq_some_iff.1 R).1
      rw [μ p] at I;exact ⟨_,I,hk.agg _ _ (List.mem_map.2 ⟨_,Xxj p,rfl⟩)⟩)
     rw [Xxz,List.take_of_length_le (by omega)] at Y U;exact ⟨X,d1,Y,U⟩
    .cases h
   .cases h
  .rename_i e z;split at h
   .rename_i l hl;split at h
    .rename_i N;cases h;simp only [τ] at N;have hce:=Xxq N.1;have hpos:=Nat.le_of_ble_eq_true N.2;rcases DataW.trod_slice z v with ⟨rfl,rfl⟩|⟨a,len,cap,elems,rest,m,_,rfl,rfl,_,hlc,hm,D,T,hre,_⟩
     .refine ⟨[.sl [] 0 false],.slc (L:= []) (by simp) (by simp) .nil, ?_,by simp [Value.oneCell']⟩;simp only [bT,PR,and_true];exact ⟨none,0,rfl,κ _,.inl ⟨λ_=>trivial,trivial,trivial,rfl⟩⟩
     .obtain ⟨b1,b2⟩:=hk.slc (elems.map (·.1)) (rest.map (·.1));generalize hB:bk (.slice (elems.map (·.1)) (rest.map (·.1)))=B at b1 b2;have hspot:0<cap->a.spot=none:=by
       intro V;have key:∃ c,w.cells? base (a.add 0) (P.cellsOf e)=some c:=by
        rcases Xqf len with h0|h0
        .obtain ⟨r1,r2⟩:=hre (hsp _);have h5:=r2 0 (by omega);rw [μ (by omega)] at h5;obtain ⟨c,y,_⟩:=Option.bind_eq_some_iff.1 h5;rw [h0,Xq4,Xj7] at y;exact ⟨c,y⟩
        .have h5:=T 0 h0;rw [μ (by omega)] at h5;obtain ⟨c,y,_⟩:=Option.bind_eq_some_iff.1 h5;rw [Xj7] at y;exact ⟨c,y⟩
       obtain ⟨c,y⟩:=key;obtain ⟨_,h9,F⟩:=World.cells?_some y;have r:=F 0 (by omega);have ez:(a.add 0).add 0=a:=by simp [Addr.add]
       rw [ez] at r;have p:0<c.length:=by omega
       rw [μ p] at r;exact World.cell?_spot r
      have key:∀ q,q<=len->∃ (L:List (List AV)) (M:List (List Value)),L.length=q/\M.length=q/\(∀ x ∈ L,f_ B l x)/\(∀ (i:Nat) (x:List AV) (m:List Value),L[i]? =some x->M[i]? =some m->bT (jT w) x m)/\M.flatten.length=q*l.length/\(∀ u ∈ M.flatten,u.oneCell'=true)/\∀ j u,M.flatten[j]? =some u->jT w a.block (a.off+j)=some u:=by
       intro q
       induction q with
       |zero=>intro _;exact ⟨[],[],rfl,rfl,by simp,by simp,by simp,by simp,by simp⟩
       | succ q ihq=>
        intro hq;obtain ⟨L,M,Q,K,I,E,W,G,Z⟩:=ihq (by omega);have h5:=T q (by omega);rw [μ (by omega)] at h5;obtain ⟨c,y,h7⟩:=Option.bind_eq_some_iff.1 h5;obtain ⟨X,d1,Y,U⟩:=ih e l hl _ _ _ h7;obtain ⟨_,h9,F⟩:=World.cells?_some y;have hs:=hspot (by omega);have d2:f_ B l X:=d1.mono (b1 _ (List.mem_map.2 ⟨_,Xxj _,rfl⟩));refine ⟨L++ [X],M++ [c],by simp [Q],by simp [K], ?_, ?_, ?_, ?_, ?_⟩
        .intro x v;rcases List.mem_append.1 v with v|v
         .exact I x v
         .simp at v;subst v;exact d2
        .intro i x m A d;rw [Xk2] at A d;split at A
         .rename_i p;rw [if_pos (by omega)] at d;exact E i x m A d
         .rename_i p;rw [if_neg (by omega)] at d;have e0:i - L.length=0:=by
           have:=(List.getElem?_eq_some_iff.1 A).1;simp at this;omega
          have e1:i - M.length=0:=by omega
          rw [e0] at A;rw [e1] at d;cases A;cases d;exact Y
        .rw [Xz9,ν,W];simp only [Xjy,Yq4,Xqd];rw [Xvx];omega
        .intro u J;rw [Xz9] at J;rcases List.mem_append.1 J with J|J
         .exact G u J
         .exact U u (by simpa using J)
        .intro j u d;rw [Xz9,Xk2] at d;split at d
         .exact Z j u d
         .rename_i hjl;simp only [Xjy,Yq4,Xqd] at d;have h11:=(List.getElem?_eq_some_iff.1 d).1;have r:=F (j - M.flatten.length) (by omega);rw [d,Kt hs,Kt rfl] at r;refine L8 ?_ (U u (Xqm d));rw [<- r,W,hce];congr 2;have:q*l.length<=j:=by rw [<- W];omega
          simp only;omega
      obtain ⟨L,M,Q,K,I,E,W,G,Z⟩:=key len (κ _);have hlB:L.length<=B:=by rw [Q,<- D];simpa using b2
      refine ⟨[.sl L.flatten L.length false],.slc I hlB .nil, ?_,by simp [Value.oneCell']⟩;simp only [bT,PR,and_true];refine ⟨some a,cap,by rw [Q],by rw [Q];exact hlc, ?_⟩;rcases Xqf cap with V|V
      .have h0:len=0:=by omega
       have:L= []:=List.eq_nil_of_length_eq_zero (by omega);subst this;exact .inl ⟨λ_=>trivial,rfl,rfl,V⟩
      .refine .inr ⟨a.block,a.off,M.flatten, ?_,Es (by omega) E,λj u d=> ⟨Z j u d,G u (Xqm d)⟩⟩;have hs:=hspot V;obtain ⟨b,o,s⟩:=a;simp only at hs;subst hs;rfl
    .cases h
   .cases h
  .cases h
end
end AM
namespace AM
open Go
def nV (g g':dK):Prop:=(∀ b B,g b=some B->∃ q:Bool,g' b=some {B with pr:=q}/\(q=true->B.pr=true))/\∀ b B',g' b=some B'->∃ B,g b=some B
section
variable {P:Program} {ap:AP} {g g':dK} {m:aW} {S:aO} {w:World}
theorem nV.ge (h:nV g g') (m:aW):Ge g m g' m:=λb B a=>by
 obtain ⟨q,c,_⟩:=h.1 b B a;exact ⟨_,c,rfl,.inl ⟨rfl,rfl⟩⟩
theorem nV.back (h:nV g g') {b:Nat} {B':aU} (a:g' b=some B'):∃ (B:aU) (q:Bool),g b=some B/\B'={B with pr:=q}/\(q=true->B.pr=true):=by
 obtain ⟨B,c⟩:=h.2 b B' a;obtain ⟨q,d,e⟩:=h.1 b B c;rw [a] at d;exact ⟨B,q,c,Option.some.inj d,e⟩
theorem nV.srel (h:nV g g') (a:b_ ap g m S w):b_ ap g' m S w:=by
 refine ⟨λb r B B' c d e=> ?_,λb B' i=> ?_,a.sealed,λb B' i o v x=> ?_,a.glob⟩
 .obtain ⟨C,_,u,_⟩:=h.back c;obtain ⟨C',_,f,_⟩:=h.back d;exact a.inj b r C C' u f e
 .obtain ⟨B,q,c,rfl,d⟩:=h.back i;obtain ⟨⟨cur,e,vs,rest,s,l,t,n,z,p⟩,j,k⟩:=a.blk b B c;exact ⟨⟨cur,e,vs,rest,s,l,λy=>t (d y),l_ (iV.refl S) (h.ge m) _ n,z,p⟩,j,k⟩
 .obtain ⟨B,q,c,rfl,_⟩:=h.back i;exact a.own b B c o v x
theorem nV.fr {m0 m:aW} {S0 S:aO} {w0 w:World} {c:dK} (h:nV g g') (a:Fr c m0 S0 w0 g m S w):Fr c m0 S0 w0 g' m S w:=by
 refine ⟨a.ge.trans (h.ge m),a.sle,a.os,a.tape,a.output,a.size,a.rest,λb B' d=> ?_,a.sealN⟩;obtain ⟨B,q,e,rfl,_⟩:=h.back d;exact a.img b B e
theorem ak.unplain {h0:List aU} {nt:Nat} {b:Code} {s s' r:St} {e:bI} (h:ak P ap h0 nt b s' e r) (c:nV (look s.hp) (look s'.hp)) (l:s.env=s'.env) (j:s.md=s'.md) (hd:s.dfs=s'.dfs):ak P ap h0 nt b s e r:=by
 intro f;obtain ⟨n,k⟩:=h (j ▸ f);refine ⟨n,λm0 S0 w0 m S w a o d Q i=>k m0 S0 w0 m S w a (c.fr o) ?_ Q i⟩;exact ⟨c.srel d.srel,λt=>by rw [<- l];exact rX (iV.refl S) (c.ge m) _ (d.env t),by rw [<- hd];exact yE (iV.refl S) (c.ge m) d.dfs,d.size⟩
theorem Fh {hp hp':Hp} (b:Nat) (B:aU) (h:look hp b=some B) (f:look hp' b=some {B with pr:=false}) (d:∀ c,c ≠ b->look hp' c=look hp c):nV (look hp) (look hp'):=by
 refine ⟨λc C a=> ?_,λc C a=> ?_⟩
 .by_cases e:c=b
  .subst e;rw [h] at a;cases a;exact ⟨false,f,λe=>by cases e⟩
  .exact ⟨C.pr,by rw [d c e,a],λh=>h⟩
 .by_cases e:c=b
  .subst e;exact ⟨B,h⟩
  .rw [d c e] at a;exact ⟨C,a⟩
end
end AM
namespace AM
open Go
section
variable {P:Program} {ap:AP} {H:dD}
def tJ (r:lH):lH:={r with rb:= []}
theorem Hw {D:Nat->Bool}:∀ (rs:List lH) (i j:Nat) (e:ji) (r:lH),rs[i]? =some r->pz D j e (rs.set i (tJ r))=pz D j e rs
 | [],i,j,e,r,h=>by simp at h
 |x::rs,0,j,e,r,h=>by
  have h:x=r:=by simpa using h
  subst h;rfl
 |x::rs,i+1,j,e,r,h=>by
  simp only [Xvz,pz];exact Hw rs i (j+1) _ r (by simpa using h)
theorem NC {D:Nat->Bool}:∀ (rs:List lH) (i j:Nat) (e:Hp) (r:lH),rs[i]? =some r->rM D j e (rs.set i (tJ r))=rM D j e rs
 | [],i,j,e,r,h=>by simp at h
 |x::rs,0,j,e,r,h=>by
  have h:x=r:=by simpa using h
  subst h;rfl
 |x::rs,i+1,j,e,r,h=>by
  simp only [Xvz,rM];exact NC rs i (j+1) _ r (by simpa using h)
theorem LV (a:List lH) (i k:Nat) (r:lH) (h:a[i]? =some r):(a.set i (tJ r)).take k=a.take k\/((a.take k)[i]? =some r/\(a.set i (tJ r)).take k=(a.take k).set i (tJ r)):=by
 by_cases hk:i<k
 .right;refine ⟨by rw [Xjq,if_pos hk];exact h, ?_⟩;rw [Yx3]
 .left;rw [Yx3,List.set_eq_of_length_le];rw [List.length_take];omega
theorem KG (a:List lH) (i k:Nat) (e:ji) (r:lH) (h:a[i]? =some r):rJ e ((a.set i (tJ r)).take k)=rJ e (a.take k):=by
 rcases LV a i k r h with b|⟨b,c⟩
 .rw [b]
 .rw [c];exact Hw _ _ _ _ _ b
theorem aaj (a:List lH) (i k:Nat) (e:Hp) (r:lH) (h:a[i]? =some r):Ij e ((a.set i (tJ r)).take k)=Ij e (a.take k):=by
 rcases LV a i k r h with b|⟨b,c⟩
 .rw [b]
 .rw [c];exact NC _ _ _ _ _ b
def LZ:Hp->Nat->List aU
 | [],_=> []
 |(b,B)::r,t=>match Xqk b t with|true=>B::LZ r t|false=>LZ r t
theorem L6 {b:Nat} {B:aU}:∀ {hp:Hp},(b,B) ∈ hp->B ∈ LZ hp b
 | (c,C)::r,h=>by
  simp only [LZ];rcases List.mem_cons.1 h with h|h
  .cases h;rw [Xzt];exact List.mem_cons_self
  .have a:=L6 h;split
   .exact List.mem_cons_of_mem _ a
   .exact a
theorem UW {D D':Nat->Bool} (b:∀ j,D j=true->D' j=true):∀ (rs:List lH) (j:Nat) (h h':Hp),(∀ x ∈ h,x ∈ h')->∀ x ∈ rM D j h rs,x ∈ rM D' j h' rs
 | [],_,_,_,hs=>hs
 | r::rs,j,h,h',hs=>by
  simp only [rM];refine UW b rs (j+1) _ _ ?_;intro x a;cases hd:D j with
  |true=>
   rw [hd] at a;rw [b j hd];rcases List.mem_append.1 a with a|a
   .exact List.mem_append.2 (.inl a)
   .exact List.mem_append.2 (.inr (hs x a))
  |false=>
   rw [hd] at a;cases D' j with
   |true=>exact List.mem_append.2 (.inr (hs x a))
   |false=>exact hs x a
def yX (D:Nat->Bool):List zV->Hp->Hp
 | [],hp=>hp
 |F::r,hp=>match D r.length with
  |true=>hp.take F.wb.length++yX D r (hp.drop F.wb.length)
  |false=>yX D r (hp.drop F.wb.length)
theorem Ii {D:Nat->Bool}:∀ (rs:List lH) (j:Nat) (h:Hp) (r:lH),rM D j h (rs++ [r])=match D (j+rs.length) with|true=>r.ups++rM D j h rs|false=>rM D j h rs
 | [],j,h,r=>by
  simp only [List.nil_append,rM,List.length_nil,Xq4];cases D j<;>rfl
 |x::rs,j,h,r=>by
  simp only [List.cons_append,rM];rw [Ii rs (j+1) _ r];rw [show j+1+rs.length=j+(x::rs).length by simp;omega]
theorem Ju {D:Nat->Bool} (h:Hp):∀ (l:List lH),yX D (l.map lH.foot) (Ij h l.reverse)=rM D 0 h l.reverse
 | []=>rfl
 | r::l=>by
  have e:Ij h (r::l).reverse=r.ups++Ij h l.reverse:=by
   unfold Ij;rw [Xzv,Ii]
  have a:(lH.foot r).wb.length=r.ups.length:=by simp [lH.foot]
  rw [e,Xzv,Ii];simp only [Xqg,yX,a,List.length_map,List.take_left,List.drop_left,List.length_reverse,Δ];rw [Ju h l]
theorem Py {D:Nat->Bool} {b:Nat}:∀ (rs:List lH) (j:Nat) (h:Hp),(∃ B,look h b=some B)->∃ B,look (rM D j h rs) b=some B
 | [],_,_,hs=>hs
 | r ::rs,j,h,hs=>by
  simp only [rM];refine Py rs (j+1) _ ?_;cases D j with
  |false=>exact hs
  | true=>
   by_cases hm:b ∈ r.ups.map (·.1)
   .obtain ⟨B,a⟩:=xU hm;exact ⟨B,by
     rw [gX,a]⟩
   .rw [vM hm];exact hs
inductive GM (P:Program) (ap:AP) (H:dD) (n:Nat) (ops:List Oper) (o:Oper) (b d:Nat) (rt:List Nat) (env:ji) (v:AV):List aU->Prop where
 |nil:GM P ap H n ops o b d rt env v []
 | cons {B:aU} {r:List aU} {c2 c3:Cx} {t:RS}:QR ap H n ops o {env,hp:= [(b,B)],md:= .dead,dfs:= [],dec:= [],feet:= []} c2= .ok (t,none) c3->c3.Ok->t.feet= [{rt:=rt,wt:= [d],rb:= [b],wb:= []}]->t.dfs= []->t.env.get d=v->
   GM P ap H n ops o b d rt env v r->GM P ap H n ops o b d rt env v (B::r)
theorem GM.sem (e:iy P ap) (q:ku P ap H) {n:Nat} {ops:List Oper} {o:Oper} {b d:Nat} {rt:List Nat} {env:ji} {v:AV} {l:List aU} (hd:o.dst=some d) (h:GM P ap H n ops o b d rt env v l):∀ B ∈ l,Me P ap ops.toArray o n env [(b,B)] rt [b] v [] [] none:=by
 induction h with
 |nil=>intro B x;simp at x
 | @cons B r c2 c3 t he hc hft hdf0 hvd _ ih=>
  intro B' a;rcases List.mem_cons.1 a with rfl|a
  .obtain ⟨_,hs⟩:=wz e q he hc;obtain ⟨s,rb,ups,y,hs⟩:=hs rfl (λt b u=>by cases u);have k:=hs.feet rfl;rw [hft] at k;simp only [List.cons.injEq,zV.mk.injEq,and_true] at k;obtain ⟨f,_,j,i⟩:=k;have c:ups= []:=by
    cases ups with
    |nil=>rfl
    |cons _ _=>simp at i
   have p:y= []:=by
    have:=hs.dfs;rw [hdf0] at this;simpa using this.symm
   have z:s=v:=by
    have:=hs.env rfl;rw [this,hd,lK] at hvd;exact hvd
   have:=hs.sem;rw [<- f,<- j,c,p,z] at this;exact this
  .exact ih B' a
theorem WY (hap:iy P ap) (hmix:P.follows .mixedOrders=true) (hH:ku P ap H) {ops:List Oper} {nt:Nat} {h0:List aU} (keep:List Nat) {id:Nat} (hnt:∀ o ∈ ops,∀ d,o.dst=some d->d<nt) {s:St} {s1:RS} {c c':Cx} (i b d:Nat) (o:Oper) (rt:List Nat) (v:AV) (L:List aU)
  (e1:yw ap H ops ops (jJ s.hp) {env:=s.env,hp:=s.hp,md:=s.md,dfs:=s.dfs,dec:= [],feet:= []} c= .ok (s1,none) c') (hc:c'.Ok)
  (hoi:ops[i]? =some o) (hod:o.dst=some d) (hft:s1.feet.reverse[i]? =some {rt:=rt,wt:= [d],rb:= [b],wb:= []})
  (hord:xY (jJ s.hp) (Region.before ops.toArray).toList (s1.feet.reverse.set i {rt:=rt,wt:= [d],rb:= [],wb:= []}).reverse=true) (hback:vG ops=true) (hdl:s1.dfs.length=s.dfs.length)
  (hlate:∀ k A,i<k->ops[k]? =some A->∀ x,A.dst=some x->x ≠ d/\x ∉ rt) (hdr:d ∉ rt)
  (hv:s1.env.get d=v) (U:∃ B,look s.hp b=some B) (hL:LZ (yX (λk=> !(((Region.before ops.toArray).toList.getD k 0).testBit i)) s1.feet s1.hp) b=L) (hst:GM P ap H (jJ s.hp+4*i) ops o b d rt s1.env v L):
  ak P ap h0 nt (.region id ops.toArray true) s .normal (norm h0.length keep ⟨s1.env,s1.hp,s1.md,s1.dfs⟩):=by
 intro hmd;have hn0:∀ b B,look s.hp b=some B->b<jJ s.hp:=λb B U=>D6 U
 obtain ⟨_,hs⟩:=acz hap hH ops 0 _ _ _ _ _ e1 hc;obtain ⟨h1,recs,M,e⟩:=hs hmd (λt b U=>by cases U) rfl;refine ⟨h1,λm0 S0 w0 m S w a hfr I Q hQ=>wp_region_any hmix ?_⟩;have C:s1.dfs.length=s.dfs.length:=hdl;have hdf:=(e.sem C).1;have Z:i<recs.length:=by rw [M];exact (List.getElem?_eq_some_iff.1 hoi).1
 have n:recs[i]? =some recs[i]:=μ Z;have hfeet:s1.feet.reverse=recs.map lH.foot:=by rw [e.feet,Xqd,Xwr]
 rw [hfeet] at hft hord;rw [List.getElem?_map,n,Option.map_some,Option.some.injEq] at hft;generalize recs[i]=r at n hft;have J:=hft;simp only [lH.foot,zV.mk.injEq] at J;obtain ⟨hrt,hwt,hrb,p⟩:=J;have p:r.ups= []:=by
  cases hu:r.ups with
  |nil=>rfl
  |cons _ _=>rw [hu] at p;simp at p
 have X:(recs.map lH.foot).set i {rt:=rt,wt:= [d],rb:= [],wb:= []}=(recs.set i (tJ r)).map lH.foot:=by
  rw [List.map_set];congr 1;simp only [lH.foot,tJ,zV.mk.injEq];exact ⟨hrt.symm,hwt.symm,trivial,by rw [p];rfl⟩
 rw [X] at hord;have V:sF (Array.replicate ops.length false)=λ_=>false:=by
  funext k;simp only [sF,Array.getD_eq_getD_getElem?];by_cases l:k<ops.length<;>simp [l]
 have hsz:ops.toArray.size=ops.length:=by simp
 rw [hsz];have T:∀ D,rM D 0 s.hp (recs.set i (tJ r))=rM D 0 s.hp recs:=λD=>NC recs i 0 s.hp r n
 have enE:∀ D,pz D 0 s.env (recs.set i (tJ r))=pz D 0 s.env recs:=λD=>Hw recs i 0 s.env r n
 have R:∀ k,k ≠ i->(recs.set i (tJ r))[k]? =recs[k]? :=λk l=>List.getElem?_set_ne (Ne.symm l)
 have hgeti:(recs.set i (tJ r))[i]? =some (tJ r):=List.getElem?_set_self Z;have hdsto:∀ (k:Nat) (q:lH),recs[k]? =some q->∃ A:Oper,ops[k]? =some A/\q.dst=A.dst:=by
  intro k q l;obtain ⟨A,y,z,_⟩:=(e.sem C).2 k q l;exact ⟨A,by rw [<- y,Δ],z⟩
 have G:r.dst=some d:=by
  obtain ⟨A,y,z⟩:=hdsto i r n;rw [hoi] at y;cases y;rw [z,hod]
 have hrv:r.v=v:=by
  have e2:(rJ s.env recs).get d=(rJ s.env (recs.take (i+1))).get d:=by
   rw [<- BJ];refine qK recs 0 _ _ rfl λk q l hd=> ?_
   rw [Δ];by_cases hki:i<k
   .obtain ⟨A,y,z⟩:=hdsto k q l;exact absurd rfl (hlate k A hki y d (z ▸ hd)).1
   .simp;omega
  have e3:s1.env.get d=v:=hv;rw [e.env] at e3;rw [show (rJ s.env recs).get d=(rJ s.env recs).get d from rfl,e2,KH _ _ _ _ n,G,lK] at e3;exact e3
 have hrte:∀ t ∈ rt,(rJ s.env (recs.take i)).get t=s1.env.get t:=by
  intro t ht;rw [e.env,<- BJ];refine qK recs 0 _ _ rfl λk q l hd=> ?_
  rw [Δ];rcases Nat.lt_trichotomy k i with h|h|h
  .simp [h]
  .subst h;rw [n] at l;cases l;rw [G] at hd;cases hd;exact absurd ht hdr
  .obtain ⟨A,y,z⟩:=hdsto k q l;exact absurd ht (hlate k A h y t (z ▸ hd)).2
 refine O6 (P:=P) (ap:=ap) (s:={env:=s.env,hp:=s.hp,md:=s.md,dfs:=s.dfs,dec:= [],feet:= []}) (recs:=recs.set i (tJ r)) hnt (by rw [List.length_set];exact M) ?_ ?_ (I4 hord) hback hn0 (m0:=m) (S0:=S) (w0:=w) (Q:=Q) ?_ ops.length _ m S _ a ⟨by simp, ?_, ?_, ?_⟩ ?_
 .intro k q l x O;by_cases hki:k=i
  .subst hki;rw [hgeti] at l;cases l;rw [show (tJ r).ups=r.ups from rfl,p] at O;simp at O
  .rw [R k hki] at l;have:=e.bound k q l x O;omega
 .intro k q l;by_cases hki:k=i
  .subst hki;rw [hgeti] at l;cases l;refine ⟨o,hoi,by rw [<- hod] at G;exact G, ?_⟩;intro D m2 S2 w2 a2 W u _ f hnb Q2 K N;dsimp only at W u f N;rw [T] at W u f N;obtain ⟨B,hB⟩:=Py (D:=D) recs 0 s.hp U;have hBm:B ∈ L:=by
    have e4:=Ju (D:=λj=> !(((Region.before ops.toArray).toList.getD j 0).testBit k)) s.hp recs.reverse;rw [Xwr,List.map_reverse] at e4;rw [<- hL,e.hp,e.feet,Xqd];rw [e4];refine L6 (UW (D:=D) (λj hj=> ?_) recs 0 s.hp s.hp (λ_ h=>h) _ (DU hB));cases hb2:((Region.before ops.toArray).toList.getD j 0).testBit k with
    |false=>rfl
    |true=>rw [hnb j hb2] at hj;cases hj
   have E:=hst.sem hap hH hod B hBm;rw [show (tJ r).v=r.v from rfl,hrv,show (tJ r).ups=r.ups from rfl,p] at N;refine E _ m2 S2 w2 a2 W (λt ht=> ?_) (λx O B2 Y=> ?_) f Q2 K N
   .have y:=u t (by rw [show (tJ r).rt=r.rt from rfl,hrt];exact ht);rw [KG recs k k s.env r n,hrte t ht] at y;exact y
   .rw [List.mem_singleton] at O;subst O;simp only [look,Xzt,Option.some.injEq] at Y;subst Y;exact hB
  .rw [R k hki] at l;obtain ⟨A,y,z,E⟩:=(e.sem C).2 k q l;rw [Δ] at y;refine ⟨A,y,z, ?_⟩;intro D m2 S2 w2 a2 W u F f _ Q2 K N;dsimp only at W u F f N;rw [T] at W u F f N;rw [KG recs i k s.env r n] at u;rw [aaj recs i k s.hp r n] at F;exact E _ m2 S2 w2 a2 W u (λx O B hB=>by rw [<- F x O];exact hB) f Q2 K N
 .intro m' S' w' a' z h4;dsimp only at z h4;have e5:Ij s.hp (recs.set i (tJ r))=Ij s.hp recs:=T _;have e6:rJ s.env (recs.set i (tJ r))=rJ s.env recs:=enE _;rw [e5] at z h4;rw [e6] at h4;have h5:Fr (bz h0) m0 S0 w0 (look s1.hp) m' S' w':=by
   rw [e.hp];exact hfr.trans z
  have h6:FR ap s1.env s1.hp s1.dfs nt m' S' w' a':=by
   rw [e.hp,e.env,hdf];exact h4
  obtain ⟨m2,h7,h8⟩:=qX (keep:=keep) (s:=⟨s1.env,s1.hp,s1.md,s1.dfs⟩) h5 h6;exact hQ m2 S' w' a' h7 h8
 .intro k o l hd;rw [V] at hd;cases hd
 .dsimp only;rw [V,qO _ 0 _ (λ_ _=>rfl)];exact ⟨Ge.refl _ _,iV.refl _,rfl,rfl,rfl,κ _,λ_ _ _=>rfl,λ_ B h=> .inr ⟨B,h,rfl⟩,λ_ _ _ h=> .inl h⟩
 .dsimp only;rw [V,qO _ 0 _ (λ_ _=>rfl),yK _ 0 _ (λ_ _=>rfl)];exact ⟨⟨I.srel.inj,λb B U=>I.srel.blk b B U|>λ⟨h1,y,z⟩=> ⟨h1,y,z⟩,I.srel.sealed,I.srel.own,I.srel.glob⟩,I.env,I.dfs,I.size⟩
 .simp only [Gg];exact Xqr (List.length_filter_le _ _) (by simp)
def FC:List Nat->List Nat->Bool
 | [],[]=>true
 |a::r,b::q=>Xqk a b && FC r q
 |_,_=>false
theorem sG:∀ {l r:List Nat},FC l r=true->l=r
 | [],[],_=>rfl
 |a::r,b::q,h=>by
  simp only [FC,τ] at h;rw [aN h.1,sG h.2]
 | [],_::_,h=>by simp [FC] at h
 |_::_,[],h=>by simp [FC] at h
def V6 (ap:AP) (H:dD) (n:Nat) (ops:List Oper) (o:Oper) (b d:Nat) (rt:List Nat) (env:ji) (v:AV):List aU->Option (List Prop)
 | []=>some []
 | B ::r=>match QR ap H n ops o {env,hp:= [(b,B)],md:= .dead,dfs:= [],dec:= [],feet:= []} ⟨true,[],[],[],[],[]⟩ with
  | .ok (t,none) c3=>match t.feet,t.dfs,c3.bs,c3.ps with
   | [F],[],[],[]=>match FC F.rt rt && FC F.wt [d] && FC F.rb [b] && FC F.wb [] with
    |true=>match V6 ap H n ops o b d rt env v r with
     |some l=>some ((t.env.get d=v)::l)
     |none=>none
    |false=>none
   |_,_,_,_=>none
  |_=>none
theorem QQ {n:Nat} {ops:List Oper} {o:Oper} {b d:Nat} {rt:List Nat} {env:ji} {v:AV}:∀ {L:List aU} {l:List Prop},V6 ap H n ops o b d rt env v L=some l->(∀ p ∈ l,p)->GM P ap H n ops o b d rt env v L
 | [],_,_,_=> .nil
 | B ::r,l,h,hl=>by
  simp only [V6] at h;split at h
  .rename_i t s f;split at h
   .rename_i F k e j i;split at h
    .rename_i a;simp only [τ] at a;split at h
     .rename_i q c;cases h;refine .cons f ⟨by rw [j];simp,by rw [i];simp⟩ ?_ e (hl _ (by simp)) (QQ c λp hp=>hl p (by simp [hp]));rw [k,<- sG a.1.1.1,<- sG a.1.1.2,<- sG a.1.2,<- sG a.2]
     .cases h
    .cases h
   .cases h
  .cases h
def Oo (ap:AP) (H:dD) (base:Nat) (keep:List Nat) (nt0 i b d:Nat) (code:Code) (s:St) (c:Cx):R St:=
 match code with
 | .region _ opsA true=>
  (yw ap H opsA.toList opsA.toList (jJ s.hp) {env:=s.env,hp:=s.hp,md:=s.md,dfs:=s.dfs,dec:= [],feet:= []} c).bind λ(s1,p) c=>
  match p with
  |some _=> .bad 1
  |none=>
  match opsA.toList[i]?,s1.feet.reverse[i]? with
  | some o,some F=>
   match (match o.dst with|some d'=>Xqk d' d|none=>false) && FC F.wt [d] && FC F.rb [b] && FC F.wb [] && xY (jJ s.hp) (Region.before opsA).toList (s1.feet.reverse.set i {rt:=F.rt,wt:= [d],rb:= [],wb:= []}).reverse && vG opsA.toList && Xqk s1.dfs.length s.dfs.length
    && (opsA.toList.drop (i+1)).all (λo'=>match o'.dst with|some x=> !(Xqk x d) && !(rP F.rt x)|none=>true) && !(rP F.rt d) && (look s.hp b).isSome && opsA.toList.all (O7 nt0) with
   |true=>match V6 ap H (jJ s.hp+4*i) opsA.toList o b d F.rt s1.env (s1.env.get d) (LZ (yX (λk=> !(((Region.before opsA).toList.getD k 0).testBit i)) s1.feet s1.hp) b) with
    |some l=> .ok (norm base keep ⟨s1.env,s1.hp,s1.md,s1.dfs⟩) {c with ps:=l++c.ps}
    |none=> .bad 3
   |false=> .bad 2
  |_,_=> .bad 4
 |_=> .bad 5
theorem Uf (u:iy P ap) (q:P.follows .mixedOrders=true) (I:ku P ap H) {h0:List aU} {keep:List Nat} {nt nt0 i b d:Nat} {j:Code} {s s':St} {c E:Cx} (L:nt0<=nt) (h:Oo ap H h0.length keep nt0 i b d j s c= .ok s' E) (z:E.Ok):ak P ap h0 nt j s .normal s':=by
 unfold Oo at h;split at h
 .rename_i id a;obtain ⟨⟨s1,p⟩,Z,Y,h⟩:=R.bind_ok h;dsimp only at h;split at h
  .cases h
  .split at h
   .rename_i o F Q M;split at h
    .rename_i hcond;split at h
     .rename_i l W;cases h;simp only [τ] at hcond;obtain ⟨⟨⟨⟨⟨⟨⟨⟨⟨⟨v,O⟩,X⟩,T⟩,K⟩,N⟩,V⟩,U⟩,G⟩,y⟩,A⟩:=hcond;have B:o.dst=some d:=by
       split at v
       .rename_i d' t;rw [t,aN v]
       .cases v
      have D:F={rt:=F.rt,wt:= [d],rb:= [b],wb:= []}:=by
       rw [<- sG O,<- sG X,<- sG T]
      have f:a.toList.toArray=a:=by simp
      have key:=WY (nt:=nt) (h0:=h0) u q I keep (id:=id) (ops:=a.toList) (λr n x C=>by
        have:=List.all_eq_true.1 A r n;simp only [O7,C] at this;exact υ (gI this) L) i b d o F.rt (s1.env.get d) _ Y ⟨z.bs,λp hp=>z.ps p (by simp [hp])⟩ Q B (by rw [M,<- D]) (by rw [f];exact K) N (aN V) ?_ ?_ rfl (by simpa [Option.isSome_iff_exists] using y) (by rw [f]) (QQ W λp hp=>z.ps p (by simp [hp]))
      .rw [f] at key;exact key
      .intro k r hk n x C;have J:r ∈ a.toList.drop (i+1):=by
        refine Xqm (i:=k - (i+1)) ?_;rw [Xj5,show i+1+(k - (i+1))=k by omega];exact n
       have:=List.all_eq_true.1 U r J;simp only [C,τ,Bool.not_eq_true'] at this;refine ⟨λe=> ?_,λe=> ?_⟩
       .subst e;rw [Xzt] at this;cases this.1
       .rw [jf.2 e] at this;cases this.2
      .intro e;rw [jf.2 e] at G;cases G
     .cases h
    .cases h
   .cases h
 .cases h
end
theorem V7 {P:Program} {ap:AP} (g:GH P ap) {h0:List aU} {keep:List Nat} {nt nt0 i b d:Nat} {a:Code} {s s':St} {ans:List (lG × List aU)} {ps:List Prop} (hp:OH ps) (e:nt0<=nt)
  (h:Oo ap (AL P ap 3000 4) h0.length keep nt0 i b d a s ⟨true,[],[],[],ans,[]⟩= .ok s' ⟨true,[],[],ps,[],[]⟩):ak P ap h0 nt a s .normal s':=by
 obtain ⟨c,_⟩:=nO g.apok g.mixed g.fnok 3000 4;exact Uf g.apok g.mixed c e h ⟨by simp,hp.mem⟩
abbrev ω (x:Int):AV:= .int .i64 x
abbrev Ω (b:Bool) (n d:List UInt8):AV:= .agg [.bool b,.str n,.str d]
theorem Yq0 {p:Prop} [Decidable p]:p->decide p=true:=decide_eq_true
theorem Yq1 {p:Prop} [Decidable p]:¬p->decide p=false:=decide_eq_false
theorem Yq2 {α:Type} [BEq α] [LawfulBEq α] {a b:α}:(a==b)=false↔a≠b:=beq_eq_false_iff_ne
end AM
