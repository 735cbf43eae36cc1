/- The machine and its soundness. -/
import Derived.Test.YtcpedihclbogjaaGreatDoorM4
import Derived.ChangeArms
import Derived.WideShapes
import Derived.Deep.Strs
set_option linter.unusedSimpArgs false
set_option linter.unusedVariables false
open Nat renaming beq->Xqk,le_refl->κ,add_zero->Xq3,lt_of_lt_of_le->υ,sub_self->Xz7,beq_refl->Xz1,eq_of_beq_eq_true->Xxn,succ_mul->Xvx,zero_mul->Xzp,le_trans->Xqs,eq_zero_or_pos->Xqh,zero_add->Ψ
open List renaming map_cons->Xqf,append_nil->Xqd,mem_of_getElem?->Xqn,isEmpty_iff->Xkl,replicate->ζ,length_append->ξ,take_add->Xkf,drop_drop->Xjq,getElem?_eq_getElem->ν,drop_zero->Xx8,take_length->Xxc,flatten_cons->Xjw,map->Xz0,drop->ε,getElem?_drop->Xj2,getElem?_take->Xjn,length_singleton->Δ,getElem_mem->Xxv,getElem?_append->Xk0,flatten_append->Xz8,flatten_nil->Yqx,flatMap_map->Xvg,set_cons_succ->Xvz,take_set->Yxz,reverse_cons->Xzr,reverse_reverse->Xwq
open Bool renaming and_eq_true->π
namespace AM
open Go
structure aD (s s':St):Prop where
 env:∀ t,s.env.get t=s'.env.get t\/s.env.get t= .dead
 hp:s.hp=s'.hp
 md:s.md=s'.md
 dfs:s.dfs=s'.dfs
theorem aD.refl (s:St):aD s s:=⟨λ_=> .inl rfl,rfl,rfl,rfl⟩
def HR:eW->(Nat->AV)->Prop
 | [],_=>True
 |(t,v)::r,f=>(f t=v)/\HR r f
theorem tg {f:Nat->AV}:∀ {e:eW},HR e f->∀ t,e.get t=f t\/e.get t= .dead
 | [],_,t=> .inr rfl
 | (u,v)::r,h,t=>by
  simp only [HR] at h;simp only [eW.get,look];cases a:Xqk u t with
  |true=>
   have:=aG a;subst this;exact .inl h.1.symm
  |false=>exact tg h.2 t
theorem aD.of {e e':eW} {hp:Hp} {md:AV} {dfs:List (Nat × List AV)} (h:HR e e'.get):aD {env:=e,hp,md,dfs} {env:=e',hp,md,dfs}:=⟨tg h,rfl,rfl,rfl⟩
section
variable {P:Program} {ap:AP} {H:bK}
theorem FR.less {s s':St} (h:aD s s') {nt:Nat} {m:aN} {S:aH} {w:World} {a:Act} (b:FR ap s'.env s'.hp s'.dfs nt m S w a):FR ap s.env s.hp s.dfs nt m S w a:=by
 refine ⟨h.hp ▸ b.srel,λt=> ?_, ?_,b.size⟩
 .rcases h.env t with e|e
  .rw [e,h.hp];exact b.env t
  .rw [e];simp [VR]
 .rw [h.hp,h.dfs];exact b.dfs
theorem ag.weak {h0:List aM} {nt:Nat} {b:Code} {s s' r r':St} {e:a_} (h:ag P ap h0 nt b s e r) (hs:aD s s') (c:aD r' r):ag P ap h0 nt b s' e r':=by
 intro d;obtain ⟨n,k⟩:=h (hs.md ▸ d);refine ⟨c.md ▸ n,λm0 S0 w0 m S w a i j Q o=>k m0 S0 w0 m S w a (by rw [hs.hp];exact i) (j.less hs) Q ?_⟩;intro p S' w' l h5 q;have:=o p S' w' l (by rw [c.hp];exact h5) (q.less c);cases e with
 |normal=>exact this
 |exit id=>exact this
 |ret=>exact this
 |panic v=>intro cv f;exact this cv (by rw [c.hp];exact f)
inductive aB (P:Program) (ap:AP) (h0:List aM) (nt:Nat) (b:Code) {α β:Type} (e:β->a_) (st:α->St) (out:β->St):α->β->Prop where
 |done {a:α} {r:β}:ag P ap h0 nt b (st a) (e r) (out r)->aB P ap h0 nt b e st out a r
 |next {a a':α} {r:β}:ag P ap h0 nt b (st a) .normal (st a')->aB P ap h0 nt b e st out a' r->aB P ap h0 nt b e st out a r
theorem aB.rounds {h0:List aM} {nt:Nat} {b:Code} {α β:Type} {e:β->a_} {j:α->St} {out:β->St} {a:α} {r:β} (d:e r ≠ .normal) (h:aB P ap h0 nt b e j out a r):(j a).md= .dead->(out r).md= .dead/\∃ n,∀ m0 S0 w0 m S w c,Fr (aW h0) m0 S0 w0 (look (j a).hp) m S w->FR ap (j a).env (j a).hp (j a).dfs nt m S w c->∀ Q,XA ap h0 m0 S0 w0 nt (out r) (e r) Q->Code.rounds P b Q n c w:=by
 induction h with
 |@done a r hx=>
  intro f;obtain ⟨o,p⟩:=hx f;refine ⟨o,1,λm0 S0 w0 m S w c i k Q l=>p m0 S0 w0 m S w c i k _ ?_⟩;intro s S' w' q h5 t;have:=l s S' w' q h5 t
  revert d this
  cases e r with
  |normal=>intro d _;exact absurd rfl d
  |exit id=>intro _ h;exact h
  |ret=>intro _ h;exact h
  |panic v=>intro _ h;exact h
 |next hx _ ih=>
  intro f;obtain ⟨o,p⟩:=hx f;obtain ⟨h5,n,t⟩:=ih d o;refine ⟨h5,n+1,λm0 S0 w0 m S w c i k Q l=>p m0 S0 w0 m S w c i k _ ?_⟩;intro s S' w' q h7 u;exact t m0 S0 w0 s S' w' q h7 u Q l
theorem aB.ok {h0:List aM} {nt:Nat} {b:Code} {α β:Type} {e:β->a_} {j:α->St} {out:β->St} {a:α} {r:β} (i:e r ≠ .normal) (h:aB P ap h0 nt b e j out a r):ag P ap h0 nt (.loop b) (j a) (e r) (out r):=by
 intro d;obtain ⟨o,n,l⟩:=h.rounds i d;exact ⟨o,λm0 S0 w0 m S w c f k Q p=>wp_loop_rounds n (l m0 S0 w0 m S w c f k Q p)⟩
theorem aB.blk {h0:List aM} {n id:Nat} {b:Code} {α β:Type} {e:β->a_} {f:α->St} {out:β->St} {a:α} {r:β} {s s':St} {e':a_} (h:∀ nt,n<=nt->aB P ap h0 nt b e f out a r) (c:e r ≠ .normal) (j:nJ id (e r)=e') (hs:aD (f a) s) (i:aD s' (out r)):gk P ap h0 n (.block id (.loop b)) s e' s':=by
 intro nt k;have d:=((h nt k).ok c).block (id:=id);rw [j] at d;exact d.weak hs i
def lE (id:Nat):Code->Option Code
 | .seq a b=>match lE id a with|some c=>some c|none=>lE id b
 | .cond _ a b=>match lE id a with|some c=>some c|none=>lE id b
 | .block i b=>match Xqk i id with|true=>some b|false=>lE id b
 | .loop b=>lE id b
 | .scope b=>lE id b
 |_=>none
def af (id:Nat) (c:Code):Code:=match lE id c with|some (.loop b)=>b|_=> .skip
def C_ (id:Nat):Code->Code
 | .seq a b=>match C_ id a with| .region i o d=> .region i o d|_=>C_ id b
 | .cond _ a b=>match C_ id a with| .region i o d=> .region i o d|_=>C_ id b
 | .block _ b=>C_ id b
 | .loop b=>C_ id b
 | .scope b=>C_ id b
 | .region i o d=>match Xqk i id with|true=> .region i o d|false=> .skip
 |_=> .skip
end
end AM
namespace AM
open Go
def fA (x y:List AV):Prop:=∀ g m S v,aU g m S x v->aU g m S y v
def jo:AV->Bool
 | .own _ _ _=>false
 | .tup _=>false
 |_=>true
theorem bC.refl (x:AV):bC x x:=λ_ _ _ _ h=>h
theorem fA.refl (x:List AV):fA x x:=λ_ _ _ _ h=>h
theorem fA.nil:fA [] []:=fA.refl []
theorem fA.cons {x y:AV} {l r:List AV} (h:bC x y) (b:fA l r):fA (x::l) (y::r):=by
 intro g m S v a;cases v with
 |nil=>simp [aU] at a
 |cons u vs=>simp only [aU] at a ⊢;exact ⟨h g m S u a.1,b g m S vs a.2⟩
theorem bC.nilS (b:Bool) (h:b=false):bC .nilS (.sl [] 0 b):=by
 subst h;intro g m S v a;simp only [VR,PR] at a ⊢;exact ⟨none,0,a,κ _,.inl (by simp)⟩
theorem bC.sl (c:List AV) (n:Nat) (a:Bool):bC (.sl c n a) (.sl c n false):=by
 intro g m S v d;simp only [VR,PR] at d ⊢;obtain ⟨a,cap,e,b,q⟩:=d;refine ⟨a,cap,e,b, ?_⟩;rcases q with ⟨_,f,h⟩|q
 .exact .inl ⟨λ_=>trivial,f,h⟩
 .exact .inr q
theorem bC.dead (x:AV):bC x .dead:=λ_ _ _ _ _=>by simp only [VR]
theorem bC.agg {l r:List AV} (h:fA l r):bC (.agg l) (.agg r):=by
 intro g m S v a;simp only [VR] at a ⊢;obtain ⟨vs,e,q⟩:=a;exact ⟨vs,e,h _ _ _ _ q⟩
section
variable {P:Program} {ap:AP}
theorem az.args {f:Nat} {args args':List AV} {h b:List aM} {out:gy} (c:fA args' args) (a:az P ap f args h out b):az P ap f args' h out b:=
 ⟨a.len,a.ent,λm S w cargs e d=>a.calls m S w cargs e (c _ _ _ _ d)⟩
def gz (out out':gy):Prop:=(∀ n,il n out=il n out')/\∀ h' m' S' e,U3 h' m' S' out e->U3 h' m' S' out' e
theorem az.out {f:Nat} {args:List AV} {h d:List aM} {out a:gy} (c:gz out a) (b:az P ap f args h out d):az P ap f args h a d:=
 ⟨b.len,b.ent,λm S w cargs j i=>(b.calls m S w cargs j i).mono λe w' ⟨m',S',hF⟩=> ⟨m',S',c.1 _ ▸ hF.srel,c.1 _ ▸ hF.fr,c.2 _ _ _ _ hF.out⟩⟩
theorem ic {x:AV} (h:jo x=true):∀ a k e,x ≠ .own a k e:=by intro a k e b;subst b;cases h
theorem qy {x:AV} (h:jo x=true):∀ l,x ≠ .tup l:=by intro l a;subst a;cases h
theorem gz.ret {x y:AV} (b:jo x=true) (a:jo y=true) (h:bC x y):gz (.ret x) (.ret y):=by
 refine ⟨λn=> ?_,λi j S' e f=> ?_⟩
 .simp only [il,fO n (ic b) (qy b),fO n (ic a) (qy a)]
 .obtain ⟨cv,d,c⟩:=f;refine ⟨cv,d, ?_⟩;rw [iU (ic b) (qy b)] at c;rw [iU (ic a) (qy a)];exact h _ _ _ _ c
inductive Ak:List AV->List AV->Prop where
 |nil:Ak [] []
 |same {x:AV} {l r:List AV}:Ak l r->Ak (x::l) (x::r)
 |fit {x y:AV} {l r:List AV}:jo x=true->jo y=true->bC x y->Ak l r->Ak (x::l) (y::r)
theorem Ak.blocks {l r:List AV} (h:Ak l r):∀ n,(cX n l).2=(cX n r).2:=by
 induction h with
 |nil=>intro n;rfl
 |@same x l r _ ih=>
  intro n;rcases gp x with ⟨a,k,e,rfl⟩|hx
  .simp only [cX];rw [ih]
  .rw [bh n hx,bh n hx];exact ih n
 |fit hx hy _ _ ih=>
  intro n;rw [bh n (ic hx),bh n (ic hy)];exact ih n
theorem Ak.outR {gh gf:bW} {m:aN} {S:aH} {l r:List AV} (h:Ak l r):∀ (n:Nat) (vs:List Value),fq gh gf m S n l vs->fq gh gf m S n r vs:=by
 induction h with
 |nil=>intro n vs a;exact a
 | @same x l r _ ih=>
  intro n vs a;cases vs with
  |nil=>simp [fq] at a
  |cons v vs=>
   rcases gp x with ⟨b,k,e,rfl⟩|hx
   .simp only [fq] at a ⊢;exact ⟨a.1,ih _ _ a.2⟩
   .rw [bI hx] at a ⊢;exact ⟨a.1,ih _ _ a.2⟩
 | fit hx hy hf _ ih=>
  intro n vs a;cases vs with
  |nil=>simp [fq] at a
  |cons v vs=>
   rw [bI (ic hx)] at a;rw [bI (ic hy)];exact ⟨hf _ _ _ _ a.1,ih _ _ a.2⟩
theorem gz.tup {l r:List AV} (h:Ak l r):gz (.ret (.tup l)) (.ret (.tup r)):=by
 refine ⟨λn=> ?_,λa j S' e f=> ?_⟩
 .simp only [il,gq];exact h.blocks n
 .obtain ⟨cv,c,b⟩:=f;refine ⟨cv,c, ?_⟩;simp only [qL] at b ⊢;obtain ⟨vs,i,q⟩:=b;have d:(gq a.length (.tup l)).2=(gq a.length (.tup r)).2:=by simp only [gq];exact h.blocks _
  refine ⟨vs,i, ?_⟩;rw [d] at q;exact h.outR _ _ q
end
end AM
namespace AM
open Go
def thaw:AV->AV
 | .own xs n e=> .sl (xs.take (n*e)) n true
 |x=>x
def ny:gy->gy
 | .ret (.tup l)=> .ret (.tup (l.map thaw))
 | .ret x=> .ret (thaw x)
 | .pan v=> .pan v
theorem zY {x:AV} (h:∀ xs k e,x ≠ .own xs k e):thaw x=x:=by
 cases x<;>first|rfl|exact absurd rfl (h _ _ _)
theorem nA (x:AV):∀ a k e,thaw x ≠ .own a k e:=by
 intro a k e h;cases x<;>simp [thaw] at h
theorem rY:∀ (l:List AV) (n:Nat),(cX n (l.map thaw)).2= []
 | [],_=>rfl
 |x::r,n=>by rw [Xqf,bh n (nA x)];exact rY r n
section
variable {P:Program} {ap:AP}
theorem uS {gh gf g':bW} {m:aN} {S S':aH} {w:World} (p:bE ap gf m S w) {rd:bW} (d:∀ b B,rd b=some B->gf b=some B) (c:S'=bZ S m rd w) (hother:∀ x v,VR gh m S x v->VR g' m S' x v):
  ∀ (l:List AV) (n:Nat) (vs:List Value),(∀ i B,(cX n l).2[i]? =some B->rd (n+i)=some B)->fq gh gf m S n l vs->fq g' g' m S' n (l.map thaw) vs
 | [],n,vs,_,h=>by cases vs with|nil=>trivial|cons _ _=>simp [fq] at h
 |x::r,n,[],_,h=>by
  exfalso;rcases gp x with ⟨j,k,e,rfl⟩|f
  .simp [fq] at h
  .cases x<;>simp [fq] at h
 | x ::r,n,v::vs,hb,h=>by
  rcases gp x with ⟨j,k,e,rfl⟩|f
  .simp only [fq] at h;simp only [cX] at hb;have h0:=hb 0 _ rfl;rw [Xq3] at h0;have D:frz rd 6 (.ref n 0 0 k)=some (.sl (j.take (k*e)) k true):=by
    simp [frz,h0,C0]
   have t:=i_ p d 6 _ _ _ D h.1;rw [Xqf,bI (nA _)];refine ⟨dZ _ (c ▸ t), ?_⟩;have A:=uS p d c hother r (n+1) vs (λi B C=>by rw [show n+1+i=n+(i+1) by omega];exact hb (i+1) B (by simpa using C)) h.2;have key:∀ (l:List AV) (a b:Nat) (vs:List Value),(∀ x ∈ l,∀ j k e,x ≠ .own j k e)->fq g' g' m S' a l vs->fq g' g' m S' b l vs:=by
    intro l
    induction l with
    |nil=>intro a b vs _ h;cases vs with|nil=>trivial|cons _ _=>simp [fq] at h
    | cons y q ih=>
     intro a b vs s h;cases vs with
     |nil=>cases y<;>simp [fq] at h
     |cons u us=>
      have o:=s y (by simp);rw [bI o] at h ⊢;exact ⟨h.1,ih a b us (λx f=>s x (by simp [f])) h.2⟩
   refine key _ (n+1) n vs ?_ A;intro y o;obtain ⟨z,_,rfl⟩:=List.mem_map.1 o;exact nA z
  .rw [bI f] at h;rw [bh n f] at hb;rw [Xqf,bI (nA x),zY f];exact ⟨hother _ _ h.1,uS p d c hother r n vs hb h.2⟩
theorem az.thaw {f:Nat} {args:List AV} {h a:List aM} {out:gy} (hp:∀ B ∈ a,B.pr=true) (J:az P ap f args h out a):az P ap f args h (ny out) a:=by
 refine ⟨J.len,J.ent,λm S w cargs hS E=>(J.calls m S w cargs hS E).mono ?_⟩
 rintro e w' ⟨m',S',hF⟩
 obtain ⟨s,j,z⟩:=hF;have u:∀ n,il n (ny out)= []:=by
  intro n;cases out with
  |pan v=>rfl
  | ret x=>
   rcases vm x with ⟨l,rfl⟩|ht
   .simp only [ny,il,gq];exact rY l n
   .have:ny (.ret x)= .ret (AM.thaw x):=by cases x<;>first|rfl|exact absurd rfl (ht _)
    rw [this];simp only [il];have C:∀ l,AM.thaw x ≠ .tup l:=by intro l L;cases x<;>simp [AM.thaw] at L;exact ht _ rfl
    rw [fO n (nA x) C]
 let rd:bW:=λb=>if a.length<=b then aW (a++il a.length out) b else none
 have y:∀ b B,rd b=some B->aW (a++il a.length out) b=some B:=by
  intro b B c;simp only [rd] at c;split at c
  .exact c
  .cases c
 have r:=kg S' m' rd w';have p:∀ b B,aW a b=some B->aW (a++il a.length out) b=some B:=by
  intro b B c;have:b<a.length:=(List.getElem?_eq_some_iff.1 c).1;rw [cU this];exact c
 have hother:∀ x v,VR (aW a) m' S' x v->VR (aW (a++il a.length (ny out))) m' (bZ S' m' rd w') x v:=by
  intro x v G;rw [u,Xqd];exact lz r (Ge.refl _ _) x G
 refine ⟨m',bZ S' m' rd w', ?_, ?_, ?_⟩
 .rw [u,Xqd];refine ⟨λb D B B' c Q=>s.inj b D B B' (p b B c) (p D B' Q), ?_,λk o v E=>lQ s E, ?_, ?_⟩
  .intro b B c;obtain ⟨⟨cur,e,vs,rest,d,t,F,R,h5,Y⟩,T,O⟩:=s.blk b B (p b B c);have K:=hp B (Xqn c);refine ⟨⟨cur,e,vs,rest,d,t,λ_=>aY r _ (F K),bz _ (aY r _ (F K)),h5,Y⟩,T,O⟩
  .intro b B c o v E;rcases dc E with d|⟨d,D,B',t,F,R⟩
   .exact s.own b B (p b B c) o v d
   .have:=s.inj b D B B' (p b B c) (y _ _ t) F.symm;subst this;have A:b<a.length:=(List.getElem?_eq_some_iff.1 c).1;simp only [rd] at t;rw [if_neg (by omega)] at t;cases t
  .intro k M X;obtain ⟨vs,d,t⟩:=s.glob k M X;exact ⟨vs,aY r _ d,t.mono r⟩
 .rw [u,Xqd];refine ⟨?_,eO.trans j.sle r,j.os,j.tape,j.output,j.size,j.rest,λb B c=>j.img b B (p b B c), ?_⟩
  .intro b B c;obtain ⟨B',d,t⟩:=j.ge b B c;have A:b<a.length:=υ (List.getElem?_eq_some_iff.1 c).1 J.len;rw [cU A] at d;exact ⟨B',d,t⟩
  .intro k o v E;rcases dc E with d|⟨d,D,B',t,F,R⟩
   .exact j.sealN k o v d
   .rcases j.img D B' (y _ _ t) with h5|⟨B0,h5,_⟩
    .exact .inr (.inl (F ▸ h5))
    .exfalso;have A:D<h.length:=(List.getElem?_eq_some_iff.1 h5).1;simp only [rd] at t;rw [if_neg (by have:=J.len;omega)] at t;cases t
 .have I:∀ l,out= .ret (.tup l)->∀ i B,(cX a.length l).2[i]? =some B->rd (a.length+i)=some B:=by
   intro l L i B U;subst L;simp only [rd];rw [if_pos (by omega),fG (by omega),show a.length+i - a.length=i by omega];exact U
  cases out with
  |pan v=>
   obtain ⟨cv,N,d⟩:=z;refine ⟨cv,N, ?_⟩;have:=hother v cv d;rwa [u,Xqd] at this
  | ret x=>
   obtain ⟨cv,N,d⟩:=z;rcases vm x with ⟨l,rfl⟩|ht
   .simp only [qL] at d;obtain ⟨vs,Z,q⟩:=d;refine ⟨cv,N, ?_⟩;simp only [qL];refine ⟨vs,Z, ?_⟩;have c:(gq a.length (.tup (l.map AM.thaw))).2= []:=by simp only [gq];exact rY l _
    rw [c,Xqd];have:=uS (gh:=aW a) (g':=aW a) s y rfl (λx v G=>lz r (Ge.refl _ _) x G) l a.length vs (I l rfl) q;exact this
   .have V:ny (.ret x)= .ret (AM.thaw x):=by cases x<;>first|rfl|exact absurd rfl (ht _)
    have C:∀ l,AM.thaw x ≠ .tup l:=by intro l L;cases x<;>simp [AM.thaw] at L;exact ht _ rfl
    rw [V];refine ⟨cv,N, ?_⟩;rw [iU (nA x) C];rcases gp x with ⟨M,k,e,rfl⟩|G
    .simp only [qL] at d;have h0:rd a.length=some (C0 M e):=by
      simp only [rd];rw [if_pos (κ _),fG (κ _),Xz7];rfl
     have W:frz rd 6 (.ref a.length 0 0 k)=some (.sl (M.take (k*e)) k true):=by
      simp [frz,h0,C0]
     have:=i_ s y 6 _ _ _ W d;exact dZ _ this
    .rw [iU G ht] at d;rw [zY G];exact lz r (Ge.refl _ _) x d
end
end AM
namespace AM
open Go
def pd (b:Nat) (c v:Nat):Option (Nat × Nat):=match Xqk c b with|true=>none|false=>some (c,v)
inductive Fz (b:Nat) (B:aM):AV->AV->Prop
 |ren {x:AV}:Fz b B x (ren (pd b) x)
 |ref {i n:Nat}:Fz b B (.ref b B.ver i n) (.sl ((B.cells.drop (i*B.esz)).take (n*B.esz)) n true)
 |fit {x y z:AV}:Fz b B x y->bC y z->Fz b B x z
inductive Ls (b:Nat) (B:aM):List AV->List AV->Prop
 |nil:Ls b B [] []
 |cons {x y:AV} {l r:List AV}:Fz b B x y->Ls b B l r->Ls b B (x::l) (y::r)
theorem Fz.same {b:Nat} {B:aM} {x:AV} (h:AM.ren (pd b) x=x):Fz b B x x:=by
 have:=Fz.ren (b:=b) (B:=B) (x:=x);rwa [h] at this
theorem Fz.dead {b:Nat} {B:aM} (x:AV):Fz b B x .dead:= .fit .ren (bC.dead _)
theorem Ls.length {b:Nat} {B:aM} {l r:List AV} (h:Ls b B l r):l.length=r.length:=by
 induction h with
 |nil=>rfl
 |cons _ _ ih=>simp [ih]
structure wJ (b:Nat) (B:aM) (C C':aM):Prop where
 ver:C'.ver=C.ver
 fro:C'.fro=C.fro
 fz:C'.fz=C.fz
 esz:C'.esz=C.esz
 body:(C.pr=true/\C'.cells=C.cells/\C'.pr=true)\/(Ls b B C.cells C'.cells/\(C'.pr=true->(bD C'.cells).isEmpty=true))
theorem wJ.same {b:Nat} {B C:aM} (hp:C.pr=true):wJ b B C C:=⟨rfl,rfl,rfl,rfl,.inl ⟨hp,rfl,hp⟩⟩
theorem wJ.length {b:Nat} {B C C':aM} (h:wJ b B C C'):C.cells.length=C'.cells.length:=by
 rcases h.body with ⟨_,e,_⟩|⟨e,_⟩
 .rw [e]
 .exact e.length
section
variable {P:Program} {ap:AP} {g:bW} {m:aN} {S:aH} {w:World}
def jN (b:Nat) (B:aM):bW:=λc=>match Xqk c b with|true=>some B|false=>none
theorem nZ {b c:Nat} {B C:aM} (h:jN b B c=some C):c=b/\C=B:=by
 unfold jN at h;split at h
 .rename_i a;cases h;exact ⟨aG a,rfl⟩
 .cases h
theorem G4 (b:Nat) (B:aM):jN b B b=some B:=by unfold jN;rw [Xz1]
theorem Fz.sound {b:Nat} {B:aM} (o:bE ap g m S w) (l:g b=some B) (d:B.pr=true) {g':bW} (j:oy g m g' m (pd b)) {x y:AV} (h:Fz b B x y):∀ {v:Value},VR g m S x v->VR g' m (bZ S m (jN b B) w) y v:=by
 have f:∀ c C,jN b B c=some C->g c=some C:=by
  intro c C k;obtain ⟨rfl,rfl⟩:=nZ k;exact l
 induction h with
 |ren=>intro v a;exact um (kg S m (jN b B) w) j _ a
 | @ref i n=>
  intro v a;have e:frz (jN b B) 6 (.ref b B.ver i n)=some (.sl ((B.cells.drop (i*B.esz)).take (n*B.esz)) n true):=by
   simp [frz,G4,d]
  exact dZ _ (i_ o f 6 _ _ _ e a)
 |fit _ e ih=>intro v a;exact e _ _ _ _ (ih a)
theorem Ls.sound {b:Nat} {B:aM} (f:bE ap g m S w) (e:g b=some B) (c:B.pr=true) {g':bW} (d:oy g m g' m (pd b)) {l r:List AV} (h:Ls b B l r):∀ {vs:List Value},aU g m S l vs->aU g' m (bZ S m (jN b B) w) r vs:=by
 induction h with
 |nil=>intro vs a;cases vs with|nil=>simp [aU]|cons _ _=>simp [aU] at a
 | cons hx _ ih=>
  intro vs a;cases vs with
  |nil=>simp [aU] at a
  |cons v vs=>
   simp only [aU] at a ⊢;exact ⟨hx.sound f e c d a.1,ih a.2⟩
theorem qW:∀ {l:List AV} {vs:List Value},(bD l).isEmpty=true->aU g m S l vs->bw S l vs
 | [],[],_,_=>by simp [bw]
 |x::l,v::vs,h,hv=>by
  simp only [bD,Xkl,List.append_eq_nil_iff] at h;rw [<- Xkl,<- Xkl] at h;simp only [aU] at hv;simp only [bw];exact ⟨jP h.1 hv.1,qW h.2 hv.2⟩
 | [],_::_,_,hv=>by simp [aU] at hv
 |_::_,[],_,hv=>by simp [aU] at hv
theorem AB {g g':bW} {m a:aN} {S S':aH} {ρ:Nat->Nat->Option (Nat × Nat)} (c:eO S S') (b:oy g m g' a ρ):∀ {l:List (Nat × List AV)} {ds:List Deferred},eE g m S l ds->eE g' a S' (l.map λd=>(d.1,iP ρ d.2)) ds
 | [],[],_=>by simp only [List.map_nil,eE]
 |d::r,cd::cr,h=>by
  simp only [eE] at h;simp only [Xqf,eE];obtain ⟨⟨cap,e,f⟩,i⟩:=h;exact ⟨⟨cap,e,iB c b _ f⟩,AB c b i⟩
 | [],_::_,h=>by simp [eE] at h
 |_::_,[],h=>by simp [eE] at h
theorem yn {h0:List aM} {nt:Nat} {r r':St} {m0 h:aN} {S0 S':aH} {w0 w':World} {U:Act} (b:Nat) (B:aM) (hb0:h0.length<=b) (z:look r.hp b=some B) (y:B.pr=true)
  (hd:r'.dfs=r.dfs.map λd=>(d.1,iP (pd b) d.2))
  (henv:∀ t,Fz b B (r.env.get t) (r'.env.get t))
  (hdom:∀ c C',look r'.hp c=some C'->c ≠ b/\∃ C,look r.hp c=some C/\wJ b B C C')
  (hall:∀ c C,c ≠ b->look r.hp c=some C->∃ C',look r'.hp c=some C')
  (h5:Fr (aW h0) m0 S0 w0 (look r.hp) h S' w') (h6:FR ap r.env r.hp r.dfs nt h S' w' U):
  ∃ S2,Fr (aW h0) m0 S0 w0 (look r'.hp) h S2 w'/\FR ap r'.env r'.hp r'.dfs nt h S2 w' U:=by
 have f:=h6.srel;have n:=kg S' h (jN b B) w';have hrd:∀ c C,jN b B c=some C->look r.hp c=some C:=by
  intro c C i;obtain ⟨rfl,rfl⟩:=nZ i;exact z
 have l:oy (look r.hp) h (look r'.hp) h (pd b):=by
  intro c ver L Y hρ C s q;unfold pd at hρ;split at hρ
  .cases hρ
  .rename_i M;cases hρ;have u:c ≠ b:=by intro e;subst e;simp at M
   obtain ⟨C',p⟩:=hall c C u s;obtain ⟨_,C2,j,a⟩:=hdom c C' p;rw [s] at j;cases j;exact ⟨C',p,by rw [a.ver];exact q,λe=> ⟨by rw [<- a.ver];exact e,rfl,a.esz⟩⟩
 have W:bE ap (look r'.hp) h (bZ S' h (jN b B) w') w':=by
  refine ⟨?_, ?_,λk o v q=>lQ f q, ?_, ?_⟩
  .intro c L C C' i V hm;obtain ⟨_,D,Z,_⟩:=hdom c C i;obtain ⟨_,D',X,_⟩:=hdom L C' V;exact f.inj c L D D' Z X hm
  .intro c C' i;obtain ⟨_,C,s,a⟩:=hdom c C' i;obtain ⟨⟨cur,ee,vs,rest,R,N,k3,k4,k5,k6⟩,hz,J⟩:=f.blk c C s;have F:(C'.pr=true->bw (bZ S' h (jN b B) w') C'.cells vs)/\aU (look r'.hp) h (bZ S' h (jN b B) w') C'.cells vs:=by
    rcases a.body with ⟨O,Q,q3⟩|⟨O,Q⟩
    .have:=aY n _ (k3 O);rw [Q];exact ⟨λ_=>this,bz _ this⟩
    .have q:=O.sound f z y l k4;exact ⟨λhp=>qW (Q hp) q,q⟩
   exact ⟨⟨cur,ee,vs,rest,by rw [a.esz];exact R,N,F.1,F.2,by rw [a.esz];exact k5,λhp=>by rw [a.esz] at hp ⊢;exact k6 hp⟩,λhp=>by rw [a.fz];exact hz (by rw [<- a.fro];exact hp),by rw [a.fz,<- a.length];exact J⟩
  .intro c C' i o v q;obtain ⟨u,C,s,a⟩:=hdom c C' i;rw [a.fro,a.fz];rcases dc q with A|⟨A,G,B',I,K,h4⟩
   .exact f.own c C s o v A
   .obtain ⟨rfl,rfl⟩:=nZ I;exact absurd (f.inj c G C B' s z K.symm) u
  .intro k xs hk;obtain ⟨vs,R,N⟩:=f.glob k xs hk;exact ⟨vs,aY n _ R,N.mono n⟩
 have x:Fr (aW h0) m0 S0 w0 (look r'.hp) h (bZ S' h (jN b B) w') w':=by
  refine ⟨?_,eO.trans h5.sle n,h5.os,h5.tape,h5.output,h5.size,h5.rest, ?_, ?_⟩
  .intro c C i;have hlt:c<h0.length:=(List.getElem?_eq_some_iff.1 i).1;obtain ⟨C1,E,e1,e2⟩:=h5.ge c C i;obtain ⟨C',p⟩:=hall c C1 (by omega) E;obtain ⟨_,C2,j,a⟩:=hdom c C' p;rw [E] at j;cases j;exact ⟨C',p,by rw [a.esz];exact e1,by rw [a.ver];exact e2⟩
  .intro c C' i;obtain ⟨_,C,s,_⟩:=hdom c C' i;exact h5.img c C s
  .intro k o v q;rcases dc q with A|⟨A,G,B',I,K,h4⟩
   .exact h5.sealN k o v A
   .obtain ⟨rfl,rfl⟩:=nZ I;rcases h5.img G B' z with h7|⟨B0,h7,_⟩
    .exact .inr (.inl (K ▸ h7))
    .have:G<h0.length:=(List.getElem?_eq_some_iff.1 h7).1;omega
 have T:FR ap r'.env r'.hp r'.dfs nt h (bZ S' h (jN b B) w') w' U:=by
  refine ⟨W,λt=>(henv t).sound f z y l (h6.env t), ?_,h6.size⟩;rw [hd];exact AB n l h6.dfs
 exact ⟨_,x,T⟩
theorem ag.freeze {h0:List aM} {nt:Nat} {f:Code} {s r r':St} {e:a_} (b:Nat) (B:aM) (h:ag P ap h0 nt f s e r) (y:∀ v,e ≠ .panic v) (n:h0.length<=b) (D:look r.hp b=some B) (l:B.pr=true)
  (hmd:r'.md=r.md) (hd:r'.dfs=r.dfs.map λd=>(d.1,iP (pd b) d.2))
  (henv:∀ t,Fz b B (r.env.get t) (r'.env.get t))
  (hdom:∀ c C',look r'.hp c=some C'->c ≠ b/\∃ C,look r.hp c=some C/\wJ b B C C')
  (hall:∀ c C,c ≠ b->look r.hp c=some C->∃ C',look r'.hp c=some C'):ag P ap h0 nt f s e r':=by
 intro hs;obtain ⟨q,u⟩:=h hs;refine ⟨hmd ▸ q,λm0 S0 w0 m S w a k o Q p=>u m0 S0 w0 m S w a k o Q ?_⟩;intro z S' w' x h5 A;obtain ⟨S2,i,j⟩:=yn b B n D l hd henv hdom hall h5 A;have:=p z S2 w' x i j;cases e with
 |normal=>exact this
 |exit id=>exact this
 |ret=>exact this
 |panic v=>exact absurd rfl (y v)
def Gd (b:Nat) (B:aM):eW->(Nat->AV)->Prop
 | [],_=>True
 |(t,v)::r,f=>Fz b B (f t) v/\Gd b B r f
theorem jy {b:Nat} {B:aM} {f:Nat->AV}:∀ {e:eW},Gd b B e f->∀ t,Fz b B (f t) (e.get t)
 | [],_,t=>Fz.dead _
 | (u,v)::r,h,t=>by
  simp only [Gd] at h;simp only [eW.get,look];cases a:Xqk u t with
  |true=>
   have:=aG a;subst this;exact h.1
  |false=>exact jy h.2 t
def yA (b:Nat) (B:aM):Hp->Hp->Prop
 | [],l=>l= [(b,B)]
 |(c,C)::r,(d,D)::l=>c=d/\wJ b B D C/\c ≠ b/\yA b B r l
 |_::_,[]=>False
theorem wY {b:Nat} {B:aM}:∀ {r l:Hp},yA b B r l->∀ c C',look r c=some C'->c ≠ b/\∃ C,look l c=some C/\wJ b B C C'
 | [],l,_,c,C',hc=>by simp [look] at hc
 | (d,D)::r,(d',D')::l,h,c,C',hc=>by
  simp only [yA] at h;obtain ⟨rfl,e,f,i⟩:=h;simp only [look] at hc ⊢;cases a:Xqk d c with
  |true=>
   rw [a] at hc;have:=aG a;subst this;cases hc;exact ⟨f,D',rfl,e⟩
  |false=>
   rw [a] at hc;exact wY i c C' hc
 |_::_,[],h,_,_,_=>by simp [yA] at h
theorem wX {b:Nat} {B:aM}:∀ {r l:Hp},yA b B r l->∀ c C,c ≠ b->look l c=some C->∃ C',look r c=some C'
 | [],l,h,c,C,hcb,hc=>by
  simp only [yA] at h;subst h;simp only [look] at hc;split at hc
  .rename_i a;exact absurd (aG a).symm hcb
  .cases hc
 |(d,D)::r,(d',D')::l,h,c,C,hcb,hc=>by
  simp only [yA] at h;obtain ⟨rfl,f,i,e⟩:=h;simp only [look] at hc ⊢;cases a:Xqk d c with
  |true=>exact ⟨D,rfl⟩
  |false=>rw [a] at hc;exact wX e c C hcb hc
 |_::_,[],h,_,_,_,_=>by simp [yA] at h
theorem tu {b:Nat} {B:aM}:∀ {r l:Hp},yA b B r l->look l b=some B
 | [],l,h=>by
  simp only [yA] at h;subst h;simp [look]
 |(d,D)::r,(d',D')::l,h=>by
  simp only [yA] at h;obtain ⟨rfl,f,c,e⟩:=h;simp only [look];cases a:Xqk d b with
  |true=>exact absurd (aG a) c
  |false=>exact tu e
 |_::_,[],h=>by simp [yA] at h
theorem ag.forget {h0:List aM} {nt:Nat} {a:Code} {s:St} {e:a_} (b:Nat) (B:aM) {f en':eW} {hp hp':Hp} {md:AV} (h:ag P ap h0 nt a s e {env:=f,hp,md,dfs:= []}) (i:∀ v,e ≠ .panic v) (d:h0.length<=b) (c:B.pr=true)
  (henv:Gd b B en' (eW.get f)) (hhp:yA b B hp' hp):ag P ap h0 nt a s e {env:=en',hp:=hp',md,dfs:= []}:=
 h.freeze b B i d (tu hhp) c rfl rfl (jy henv) (wY hhp) (wX hhp)
theorem ag.forgetD {h0:List aM} {nt:Nat} {a:Code} {s:St} {e:a_} (b:Nat) (B:aM) {i en':eW} {hp hp':Hp} {md:AV} {dfs:List (Nat × List AV)} (h:ag P ap h0 nt a s e {env:=i,hp,md,dfs}) (j:∀ v,e ≠ .panic v) (f:h0.length<=b) (c:B.pr=true)
  (henv:Gd b B en' (eW.get i)) (hhp:yA b B hp' hp) (hd:dfs.map (λd=>(d.1,iP (pd b) d.2))=dfs):ag P ap h0 nt a s e {env:=en',hp:=hp',md,dfs}:=
 h.freeze b B j f (tu hhp) c rfl hd.symm (jy henv) (wY hhp) (wX hhp)
end
end AM
namespace AM
open Go
def yh (P:Program) (f:TypeId->Option (List LK)):List Field->Nat->Option (List LK)
 | [],_=>some []
 | x::r,off=>match f x.type with
  |some l=>match Xqk x.offset off && Xqk (P.cellsOf x.type) l.length with
   |true=>match yh P f r (off+l.length) with|some q=>some (l++q)|none=>none
   |false=>none
  |none=>none
def A3 (P:Program):Nat->TypeId->Option (List LK)
 |0,_=>none
 | n+1,t=>match P.underlying t with
  |some (.int k)=>some [.int k]
  |some .bool=>some [.bool]
  |some .string=>some [.str]
  |some (.struct fs)=>match yh P (A3 P n) fs.toList 0 with
   |some l=>match Xqk (P.cellsOf t) l.length with|true=>some l|false=>none
   |none=>none
  |some (.array m e)=>match A3 P n e with
   |some l=>match Xqk (P.cellsOf e) l.length && Xqk (P.cellsOf t) (m*l.length) with|true=>some (ζ m l).flatten|false=>none
   |none=>none
  |_=>none
inductive iR:List LK->List Value->Prop
 |nil:iR [] []
 |int {k:IntKind} {n:Int} {r:List LK} {l:List Value}:iR r l->iR (.int k::r) (.int k n::l)
 |bool {b:Bool} {r:List LK} {l:List Value}:iR r l->iR (.bool::r) (.bool b::l)
 |str {s:ByteArray} {r:List LK} {l:List Value}:iR r l->iR (.str::r) (.string s::l)
theorem iR.app {a b:List LK} {x y:List Value} (h:iR a x) (c:iR b y):iR (a++b) (x++y):=by
 induction h with
 |nil=>exact c
 |int _ ih=>exact .int ih
 |bool _ ih=>exact .bool ih
 |str _ ih=>exact .str ih
section
variable {H:Type} {enc:TypeId × Value->H} {P:Program} {w:World} {base:Nat} {spare:Nat->Bool} {held:Bool}
theorem vE {n:Nat} {f:TypeId->Option (List LK)} (c:∀ t ks,f t=some ks->∀ (fuel:Nat) (cs:List Value) (x:DataW H × List MemPlace),DataW.trod enc P w base spare held fuel t cs=some x->iR ks cs) {cs:List Value}:∀ (r:List Field) (off:Nat) (ks:List LK),yh P f r off=some ks->
  (∀ (i:Nat) (x:Field),r[i]? =some x->∃ y,DataW.trod enc P w base spare held n x.type ((cs.drop x.offset).take (P.cellsOf x.type))=some y)->iR ks ((cs.drop off).take ks.length)
 | [],off,ks,h,_=>by
  simp only [yh] at h;cases h;simpa using iR.nil
 | x ::r,off,ks,h,hx=>by
  simp only [yh] at h;split at h
  .rename_i l s;split at h
   .rename_i a;simp only [π] at a;have d:=Xxn a.1;have p:=Xxn a.2;split at h
    .rename_i q e;cases h;obtain ⟨y,o⟩:=hx 0 x rfl;have b:=c _ _ s _ _ _ o;rw [d,p] at b;have j:=vE c r (off+l.length) q e (λi f k=>hx (i+1) f (by simpa using k));rw [ξ,Xkf,Xjq];exact b.app j
    .cases h
   .cases h
  .cases h
theorem J4:∀ (n:Nat) (t:TypeId) (ks:List LK),A3 P n t=some ks->∀ (d:Nat) (cs:List Value) (x:DataW H × List MemPlace),DataW.trod enc P w base spare held d t cs=some x->iR ks cs:=by
 intro n
 induction n with
 |zero=>intro t ks h;simp [A3] at h
 | succ n ih=>
  intro t ks h d cs x v;simp only [A3] at h;split at h
  .rename_i k c;cases h;obtain ⟨m,rfl,_⟩:=DataW.trod_int c v;exact .int .nil
  .rename_i c;cases h;obtain ⟨b,rfl,_⟩:=DataW.trod_bool c v;exact .bool .nil
  .rename_i c;cases h;obtain ⟨s,rfl,_⟩:=DataW.trod_string c v;exact .str .nil
  .rename_i B c;split at h
   .rename_i l A;split at h
    .rename_i u;cases h;obtain ⟨D,m,rfl,_,a,r,y⟩:=DataW.trod_struct c v;have e:=Xxn u;have C:=vE (n:=m) ih B.toList 0 ks A (λi f J=>by
      have o:B[i]? =some f:=by simpa using J
      have p:=y i f o;have z:i<D.length:=by rw [r];exact (Array.getElem?_eq_some_iff.1 o).1
      rw [ν z] at p;exact ⟨_,p⟩)
     rw [Xx8,<- e,<- a,Xxc] at C;exact C
    .cases h
   .cases h
  .rename_i m e c;split at h
   .rename_i l A;split at h
    .rename_i u;cases h;simp only [π] at u;have G:=Xxn u.1;have K:=Xxn u.2;obtain ⟨D,q,rfl,_,a,r,y⟩:=DataW.trod_array c v;have key:∀ j,j<=m->iR (ζ j l).flatten ((cs.drop ((m - j)*l.length)).take (j*l.length)):=by
      intro j
      induction j with
      |zero=>intro _;simpa using iR.nil
      | succ j ihj=>
       intro L;have p:=y (m - (j+1)) (by omega);rw [ν (by omega)] at p;have E:=ih _ _ A _ _ _ p;rw [G] at E;have I:=ihj (by omega);rw [List.replicate_succ,Xjw,Nat.add_mul,Nat.one_mul,Nat.add_comm (j*l.length),Xkf,Xjq];have h5:(m - (j+1))*l.length+l.length=(m - j)*l.length:=by
        rw [<- Xvx];congr 1;omega
       rw [h5];exact E.app I
     have F:=key m (κ _);rw [Xz7,Xzp,Xx8,<- K,<- a,Xxc] at F;exact F
    .cases h
   .cases h
  .cases h
theorem Kv {n:Nat} {t:TypeId} {ks:List LK} (b:A3 P n t=some ks) {v:Value} {d:DataW H} {p:List MemPlace} (h:DataW.Trod enc P w base spare held t v d p):iR ks v.cells.toList:=by
 obtain ⟨a,h⟩:=h;exact J4 n t ks b a _ _ h
theorem BZ {v:Value} {l:List Value} (h:v.cells.toList=l) (a:l.length ≠ 1):v= .agg l.toArray:=by
 cases v with
 |agg cs=>
  have:cs.toList=l:=h;rw [<- this]
 |_=>subst h;simp [Value.cells] at a
end
end AM
namespace AM
open Go
def sI:Nat->Nat->List Bool
 |0,_=> []
 |n+1,k=>Xqk (k % 2) 1::sI n (k / 2)
def PF:Nat->List Bool->List Bool
 |0,l=>l
 |n+1,l=>true::PF n l
theorem jt.n (k:Nat) {l:List Bool} (h:jt l):jt (PF k l):=by
 induction k with
 |zero=>exact h
 |succ k ih=>exact .t ih
theorem jt.k (k:Nat) {b:Bool} {l:List Bool} (a:b=true) (h:jt l):jt (PF k (b::l)):= .n k (.c a h)
theorem tf (b:Bool):b=true\/b=false:=by cases b<;>simp
theorem ax {b:Bool} (h:b=true):lit true b=true:=h
theorem aw {b:Bool} (h:b=false):lit false b=true:=by subst h;rfl
theorem bu {b:Bool} (h:b=false):lit true (!b)=true:=by subst h;rfl
theorem aI {b:Bool} (h:b=true):lit false (!b)=true:=by subst h;rfl
inductive PS (P:Program) (ap:AP):List Prop->List (gy × List aM)->sD->List qK->Prop where
 |nil:PS P ap [] [] [] []
 |c {f:Nat} {args:List AV} {h h':List aM} {out:gy} {ps:List Prop} {ans:List (gy × List aM)} {lps:sD} {hs:List qK}:az P ap f args h out h'->PS P ap ps ans lps hs->PS P ap (az P ap f args h out h'::ps) (ans++ [(out,h')]) lps hs
 |l {h0:List aM} {n:Nat} {code:Code} {s s':St} {e:a_} {ps:List Prop} {ans:List (gy × List aM)} {lps:sD} {hs:List qK}:gk P ap h0 n code s e s'->PS P ap ps ans lps hs->PS P ap (gk P ap h0 n code s e s'::ps) ans (lps++ [(e,s')]) hs
 |v (d:Nat) {x y:AV} {ps:List Prop} {ans:List (gy × List aM)} {lps:sD} {hs:List qK}:bC x y->PS P ap ps ans lps hs->PS P ap (bC x y::ps) ans lps (hs++ [.v d y])
 |b (d:Nat) {x y:List AV} {ps:List Prop} {ans:List (gy × List aM)} {lps:sD} {hs:List qK}:x=y->PS P ap ps ans lps hs->PS P ap ((x=y)::ps) ans lps (hs++ [.b d y])
 |u (d:Nat) {x y:List (Option aM)} {ps:List Prop} {ans:List (gy × List aM)} {lps:sD} {hs:List qK}:x=y->PS P ap ps ans lps hs->PS P ap ((x=y)::ps) ans lps (hs++ [.u d])
theorem PS.all {P:Program} {ap:AP} {ps:List Prop} {ans:List (gy × List aM)} {a:sD} {hs:List qK} (h:PS P ap ps ans a hs):DB ps:=by
 induction h with
 |nil=>exact .nil
 |c h _ ih=>exact .cons h ih
 |l h _ ih=>exact .cons h ih
 |v _ h _ ih=>exact .cons h ih
 |b _ h _ ih=>exact .cons h ih
 |u _ h _ ih=>exact .cons h ih
theorem ck {P:Program} {ap:AP} (g:vp P ap) {ans:List (gy × List aM)} {ps:List Prop} {f:Nat} {args:List AV} {h a:List aM} {out:gy} (hp:PS P ap ps ans [] [])
  (he:lF ap (si P ap 3000 4) 3000 .dead f args h ⟨true,[],[],[],ans,[]⟩= .ok (out,a,.dead) ⟨true,[],[],ps,[],[]⟩):az P ap f args h out a:=AU g hp.all he
theorem pk {P:Program} {ap:AP} (g:vp P ap) (d:List Nat) (n k:Nat) {ans:List (gy × List aM)} {a:sD} {hs:List qK} {bs:List Bool} {ps:List Prop} {f:Nat} {args:List AV} {h b:List aM} {out:gy}
  (hb:jt bs) (hp:PS P ap ps ans a hs) (he:HK P ap (si P ap 3000 4) 3000 d f args h a ⟨false,sI n k,[],[],ans,hs⟩= .ok (out,b,.dead) ⟨false,[],bs,ps,[],[]⟩):az P ap f args h out b:=by
 obtain ⟨c,e⟩:=gW g.apok g.mixed g.fnok 3000 4;exact LO g.apok g.mixed g.fnok c e he ⟨hb.mem,hp.all.mem⟩
def uD (ap:AP) (f:Nat):List Nat:=match ap.fnAt f with|some F=>F.keep|none=> []
def Ir (env:eW):R ((a_ × St) × sD)->R ((a_ × St) × sD)
 | .ok ((e,s),l) c=> .ok ((e,⟨env.map λq=>(q.1,s.env.get q.1),s.hp,s.md,s.dfs⟩),l) c
 |r=>r
def GY (P:Program) (ap:AP) (h0:List aM) (f nt0:Nat) (ls:List Nat) (code:Code) (s:St) (lps:sD) (orc:List Bool) (ans:List (gy × List aM)) (hs:List qK) (env:eW):R ((a_ × St) × sD):=
 match cC nt0 code with
 |true=>Ir env (jw P ap (si P ap 3000 4) h0 (uD ap f) 3000 nt0 ls code s lps ⟨false,orc,[],[],ans,hs⟩)
 |false=> .bad 0
theorem MV (env a:eW):∀ t,eW.get (env.map λq=>(q.1,a.get q.1)) t=a.get t\/eW.get (env.map λq=>(q.1,a.get q.1)) t= .dead:=by
 intro t
 induction env with
 |nil=>exact .inr rfl
 | cons q r ih=>
  cases b:Xqk q.1 t with
  |true=>
   left;have:=Xxn b;subst this;simp only [eW.get,Xqf,look,b,Option.getD_some]
  | false=>
   have e:eW.get (Xz0 (λq=>(q.1,a.get q.1)) (q::r)) t=eW.get (Xz0 (λq=>(q.1,a.get q.1)) r) t:=by
    simp only [eW.get,Xqf,look,b]
   rw [e];exact ih
theorem pj {P:Program} {ap:AP} (g:vp P ap) (f:Nat) (h:List Nat) (n k:Nat) {nt nt0:Nat} {ans:List (gy × List aM)} {b:sD} {hs:List qK} {bs:List Bool} {ps:List Prop} {a:Code} {s s':St} {h0:List aM} {e:a_}
  (hb:jt bs) (hp:PS P ap ps ans b hs) (hn:nt0<=nt) (he:GY P ap h0 f nt0 h a s b (sI n k) ans hs s'.env= .ok ((e,s'),[]) ⟨false,[],bs,ps,[],[]⟩):ag P ap h0 nt a s e s':=by
 unfold GY at he;split at he
 .rename_i hd;generalize i:jw P ap (si P ap 3000 4) h0 (uD ap f) 3000 nt0 h a s b ⟨false,sI n k,[],[],ans,hs⟩=r at he;cases r with
  |ok q c=>
   obtain ⟨⟨o,s1⟩,t⟩:=q;simp only [Ir,R.ok.injEq,Prod.mk.injEq] at he;obtain ⟨⟨⟨rfl,d⟩,rfl⟩,rfl⟩:=he;obtain ⟨l,p⟩:=gW g.apok g.mixed g.fnok 3000 4;have j:ag P ap h0 nt a s o s1:=(pm g.apok g.mixed l hn a (cS hn a hd) _ _ _ _ _ i ⟨hb.mem,hp.all.mem⟩).2;refine j.weak (aD.refl _) ?_;rw [<- d];exact ⟨MV _ _,rfl,rfl,rfl⟩
  |need=>simp [Ir] at he
  |bad n=>simp [Ir] at he
 .cases he
theorem bC.pp {d c:List AV} {a:Nat} (h:ε a d=c):bC (.pp d a) (.pp c 0):=by
 subst h;intro g m S v f;simp only [VR,PR] at f ⊢;obtain ⟨b,o,vs,rfl,hp,hs⟩:=f;refine ⟨b,o+a,vs.drop a,rfl,ky a hp,λj u e=> ?_⟩;rw [Xj2] at e;have:=hs (a+j) u e;rwa [<- Nat.add_assoc] at this
theorem bC.ppt {e d f:List AV} {a:Nat} (h:ε a e=d++f):bC (.pp e a) (.pp d 0):=by
 intro g m S v i;have:=bC.pp h g m S v i;simp only [VR,PR] at this ⊢;obtain ⟨b,o,vs,rfl,hp,hs⟩:=this;refine ⟨b,o,vs.take d.length,rfl, ?_,λj u c=> ?_⟩
 .have:=iy d.length hp;rwa [List.take_left'] at this;rfl
 .rw [Xjn] at c;split at c
  .exact hs j u c
  .cases c
theorem bC.eq {x y:AV} (h:x=y):bC x y:=h ▸ λ_ _ _ _ a=>a
theorem bC.rd (ks:List LK) {c b d:List AV} {a:Nat} (h:ε a c=b++d) (e:EM true ks (b++d)=b):bC (.agg (pR true ks c a)) (.agg b):= .eq (by unfold pR;rw [h,e])
theorem bC.rd1 (k:LK) {b c:List AV} {y:AV} {a:Nat} (h:ε a b= [y]++c) (d:eta k y=y):bC (eta k ((ε a b).headD .dead)) y:= .eq (by rw [h];exact d)
theorem jt.a {l r:List Bool} (h:jt l) (a:jt r):jt (l++r):=by
 induction h with
 |nil=>exact a
 |t _ ih=>exact .t ih
 |c hb _ ih=>exact .c hb ih
theorem jt.of {l:List Bool} (h:l.all id=true):jt l:=by
 induction l with
 |nil=>exact .nil
 |cons b r ih=>
  simp only [List.all_cons,id,π] at h;exact .c h.1 (ih h.2)
theorem nL (ks:List LK) {c b d:List AV} {a:Nat} (h:ε a c=b++d) (e:(LR true ks (b++d)).all id=true):jt (Cg true ks c a):=by
 unfold Cg;rw [h];exact .of e
inductive Lt:List AV->List AV->Prop where
 |nil:Lt [] []
 |same {x:AV} {l r:List AV}:Lt l r->Lt (x::l) (x::r)
 |nilS {l r:List AV}:Lt l r->Lt (.nilS::l) (.sl [] 0 false::r)
 |sl {xs:List AV} {n:Nat} {a:Bool} {l r:List AV}:Lt l r->Lt (.sl xs n a::l) (.sl xs n false::r)
theorem Lt.prl {S:aH} {l r:List AV} (h:Lt l r):∀ {vs:List Value},bw S l vs->bw S r vs:=by
 induction h with
 |nil=>exact λh=>h
 |same _ ih=>intro vs b;cases vs with|nil=>simp [bw] at b|cons v vs=>simp only [bw] at b ⊢;exact ⟨b.1,ih b.2⟩
 | nilS _ ih=>
  intro vs b;cases vs with
  |nil=>simp [bw] at b
  |cons v vs=>
   simp only [bw,PR] at b ⊢;exact ⟨⟨none,0,b.1,κ _,.inl (by simp)⟩,ih b.2⟩
 | @sl xs n a _ _ _ ih=>
  intro vs b;cases vs with
  |nil=>simp [bw] at b
  |cons v vs=>
   have c:=b;simp only [bw] at c ⊢;refine ⟨?_,ih c.2⟩;have d:=bC.sl xs n a (λ_=>none) (λ_=>(0,0)) S v (by simp only [VR];exact c.1);simpa only [VR] using d
theorem bC.slP {i f:List AV} {n:Nat} {j:Bool} (e:Lt i f):bC (.sl i n j) (.sl f n j):=by
 intro g m S v k;simp only [VR,PR] at k ⊢;obtain ⟨a,cap,rfl,p,h⟩:=k;refine ⟨a,cap,rfl,p, ?_⟩;rcases h with ⟨c,d,l,h5⟩|⟨b,o,vs,q,c,d⟩
 .subst d;cases e;exact .inl ⟨c,rfl,l,h5⟩
 .exact .inr ⟨b,o,vs,q,e.prl c,d⟩
end AM
namespace AM
open Go
variable {P:Program} {ap:AP}
theorem ag.norm {h0:List aM} {nt:Nat} {b:Code} {s s1:St} {e:a_} (keep:List Nat) (o:∀ v,e= .panic v->(cH v).isEmpty=true) (h:ag P ap h0 nt b s e s1):ag P ap h0 nt b s e (AM.norm h0.length keep s1):=by
 intro hs;obtain ⟨q,i⟩:=h hs;refine ⟨q,λm0 S0 w0 m S w a d l Q j=>i m0 S0 w0 m S w a d l Q ?_⟩;intro r S' w' n h5 p;obtain ⟨k,h7,f⟩:=kU (keep:=keep) h5 p;have:=j k S' w' n h7 f;clear j h7 f i;generalize AM.norm h0.length keep s1=s2 at*
 cases e with
 |normal=>exact this
 |exit id=>exact this
 |ret=>exact this
 |panic v=>intro cv c;exact this cv (dZ _ (jP (o v rfl) c))
def Z2:a_->Bool
 | .panic v=>(cH v).isEmpty
 |_=>true
def Il (base:Nat) (env:eW):R ((a_ × St) × sD)->R ((a_ × St) × sD)
 | .ok ((e,s),l) c=>match Z2 e with
  |true=> .ok ((e,norm base (env.map λq=>q.1) s),l) c
  |false=> .bad 1
 |r=>r
def GX (P:Program) (ap:AP) (h0:List aM) (f nt0:Nat) (ls:List Nat) (code:Code) (s:St) (lps:sD) (orc:List Bool) (ans:List (gy × List aM)) (hs:List qK) (env:eW):R ((a_ × St) × sD):=
 match cC nt0 code with
 |true=>Il h0.length env (jw P ap (si P ap 3000 4) h0 (uD ap f) 3000 nt0 ls code s lps ⟨false,orc,[],[],ans,hs⟩)
 |false=> .bad 0
theorem pn (g:vp P ap) (f:Nat) (i:List Nat) (n k:Nat) {nt nt0:Nat} {ans:List (gy × List aM)} {b:sD} {hs:List qK} {bs:List Bool} {ps:List Prop} {a:Code} {s s':St} {h0:List aM} {e:a_}
  (hb:jt bs) (hp:PS P ap ps ans b hs) (hn:nt0<=nt) (he:GX P ap h0 f nt0 i a s b (sI n k) ans hs s'.env= .ok ((e,s'),[]) ⟨false,[],bs,ps,[],[]⟩):ag P ap h0 nt a s e s':=by
 unfold GX at he;split at he
 .rename_i hd;generalize j:jw P ap (si P ap 3000 4) h0 (uD ap f) 3000 nt0 i a s b ⟨false,sI n k,[],[],ans,hs⟩=r at he;cases r with
  | ok q c=>
   obtain ⟨⟨p,s1⟩,x⟩:=q;simp only [Il] at he;split at he
   .rename_i d;simp only [R.ok.injEq,Prod.mk.injEq] at he;obtain ⟨⟨⟨rfl,h⟩,rfl⟩,rfl⟩:=he;obtain ⟨o,u⟩:=gW g.apok g.mixed g.fnok 3000 4;have l:ag P ap h0 nt a s p s1:=(pm g.apok g.mixed o hn a (cS hn a hd) _ _ _ _ _ j ⟨hb.mem,hp.all.mem⟩).2;have:=l.norm (s'.env.map λq=>q.1) (λv t=>by subst t;exact d);rwa [h] at this
   .cases he
  |need=>simp [Il] at he
  |bad n=>simp [Il] at he
 .cases he
end AM
namespace AM
open Go
variable {P:Program} {ap:AP}
def goL {α σ β:Type} (F:σ->α->σ ⊕ β) (fin:σ->β):List α->σ->β
 | [],s=>fin s
 |x::r,s=>match F s x with
  | .inl s'=>goL F fin r s'
  | .inr b=>b
theorem aB.goL {α σ β:Type} {h0:List aM} {nt:Nat} {b:Code} {e:β->a_} {d:Nat × σ->St} {out:β->St} (F:σ->α->σ ⊕ β) (a:σ->β) (L:List α) (Inv:List α->σ->Prop)
  (hstep:∀ p x r s,L=p++x::r->Inv p s->match F s x with
   | .inl s'=>ag P ap h0 nt b (d (p.length,s)) .normal (d (p.length+1,s'))/\Inv (p++ [x]) s'
   | .inr q=>ag P ap h0 nt b (d (p.length,s)) (e q) (out q))
  (hend:∀ s,Inv L s->ag P ap h0 nt b (d (L.length,s)) (e (a s)) (out (a s))):
  ∀ (r p:List α) (s:σ),L=p++r->Inv p s->aB P ap h0 nt b e d out (p.length,s) (AM.goL F a r s):=by
 intro r
 induction r with
 |nil=>
  intro p s h f;rw [Xqd] at h;subst h;exact .done (hend s f)
 | cons x r ih=>
  intro p s h f;have c:=hstep p x r s h f;simp only [AM.goL];cases i:F s x with
  |inl s'=>
   rw [i] at c;have j:=ih (p++ [x]) s' (by rw [h];simp) c.2;rw [ξ,Δ] at j;exact .next c.1 j
  |inr q=>
   rw [i] at c;exact .done c
theorem aB.mapL {α β:Type} {h0:List aM} {nt:Nat} {b:Code} {e:a_} {a:Nat × List β->St} {out:List β->St} (g:α->β) (L:List α)
  (hstep:∀ p x r,L=p++x::r->ag P ap h0 nt b (a (p.length,p.map g)) .normal (a (p.length+1,p.map g++ [g x])))
  (hend:ag P ap h0 nt b (a (L.length,L.map g)) e (out (L.map g))):aB P ap h0 nt b (λ_=>e) a out (0,[]) (L.map g):=by
 have key:∀ (r p:List α),L=p++r->aB P ap h0 nt b (λ_=>e) a out (p.length,p.map g) (L.map g):=by
  intro r
  induction r with
  |nil=>intro p h;rw [Xqd] at h;subst h;exact .done hend
  |cons x r ih=>
   intro p h;have c:=ih (p++ [x]) (by rw [h];simp);rw [ξ,Δ,List.map_append] at c;exact .next (hstep p x r h) c
 exact key L [] rfl
end AM
namespace AM
open Go Go.WideShapes Go.ChangeShapes
theorem AH {a:Addr} (h:a.spot=none) (n:Nat):a.add n=⟨a.block,a.off+n,none⟩:=by
 unfold Addr.add;obtain ⟨b,o,s⟩:=a;simp only at h;subst h;split
 .rename_i c;subst c;rfl
 .rfl
section
variable {H:Type} {enc:TypeId × Value->H} {P:Program} {w:World} {base:Nat} {spare:Nat->Bool} {held:Bool}
end
end AM
namespace AM
open Go
section
variable {P:Program} {ap:AP}
theorem ag.ahead {h0:List aM} {nt:Nat} {c:Code} {e:a_} {j:St} (b:Nat) (B:aM) {d en':eW} {hp hp':Hp} (k:ag P ap h0 nt c ⟨en',hp',.dead,[]⟩ e j) (h:h0.length<=b) (f:B.pr=true)
  (henv:Gd b B en' (eW.get d)) (hhp:yA b B hp' hp):ag P ap h0 nt c {env:=d,hp,md:= .dead,dfs:= []} e j:=by
 intro _;obtain ⟨h5,n⟩:=k rfl;refine ⟨h5,λm0 S0 w0 m S w a i l Q o=> ?_⟩;obtain ⟨S2,h7,p⟩:=yn (r:={env:=d,hp,md:= .dead,dfs:= []}) (r':=⟨en',hp',.dead,[]⟩) b B h (tu hhp) f rfl (jy henv) (wY hhp) (wX hhp) i l;exact n m0 S0 w0 m S2 w a h7 p Q o
end
end AM
namespace AM
open Go
inductive Tq (b:Nat) (B:aM):Hp->Hp->Prop
 |nil:Tq b B [] []
 |cons {c:Nat} {C D:aM} {r l:Hp}:wJ b B D C->c ≠ b->Tq b B r l->Tq b B ((c,C)::r) ((c,D)::l)
inductive PO (b:Nat) (B:aM):Hp->Hp->Prop
 |here {r l:Hp}:Tq b B r l->PO b B r ((b,B)::l)
 |step {c:Nat} {C D:aM} {r l:Hp}:wJ b B D C->c ≠ b->PO b B r l->PO b B ((c,C)::r) ((c,D)::l)
theorem Tq.dom {b:Nat} {B:aM} {r l:Hp} (h:Tq b B r l):∀ c C',look r c=some C'->c ≠ b/\∃ C,look l c=some C/\wJ b B C C':=by
 induction h with
 |nil=>intro c C' a;simp [look] at a
 | @cons d C D r l h1 h2 _ ih=>
  intro c C' a;simp only [look] at a ⊢;cases e:Xqk d c with
  |true=>
   rw [e] at a;have:=aG e;subst this;cases a;exact ⟨h2,D,rfl,h1⟩
  |false=>rw [e] at a;exact ih c C' a
theorem Tq.all {b:Nat} {B:aM} {r l:Hp} (h:Tq b B r l):∀ c C,look l c=some C->∃ C',look r c=some C':=by
 induction h with
 |nil=>intro c C a;simp [look] at a
 |@cons d C D r l h1 h2 _ ih=>
  intro c C' a;simp only [look] at a ⊢;cases e:Xqk d c with
  |true=>exact ⟨C,rfl⟩
  |false=>rw [e] at a;exact ih c C' a
theorem PO.dom {b:Nat} {B:aM} {r l:Hp} (h:PO b B r l):∀ c C',look r c=some C'->c ≠ b/\∃ C,look l c=some C/\wJ b B C C':=by
 induction h with
 |here h=>
  intro c C' a;obtain ⟨f,C,i,j⟩:=h.dom c C' a;refine ⟨f,C, ?_,j⟩;simp only [look];cases e:Xqk b c with
  |true=>exact absurd (aG e).symm f
  |false=>exact i
 | @step d C D r l f i _ ih=>
  intro c C' a;simp only [look] at a ⊢;cases e:Xqk d c with
  |true=>
   rw [e] at a;have:=aG e;subst this;cases a;exact ⟨i,D,rfl,f⟩
  |false=>rw [e] at a;exact ih c C' a
theorem PO.all {b:Nat} {B:aM} {r l:Hp} (h:PO b B r l):∀ c C,c ≠ b->look l c=some C->∃ C',look r c=some C':=by
 induction h with
 |here h=>
  intro c C a e;simp only [look] at e;cases f:Xqk b c with
  |true=>exact absurd (aG f).symm a
  |false=>rw [f] at e;exact h.all c C e
 |@step d C D r l h1 h2 _ ih=>
  intro c C' a e;simp only [look] at e ⊢;cases f:Xqk d c with
  |true=>exact ⟨C,rfl⟩
  |false=>rw [f] at e;exact ih c C' a e
theorem PO.look {b:Nat} {B:aM} {r l:Hp} (h:PO b B r l):AM.look l b=some B:=by
 induction h with
 |here h=>simp [AM.look]
 |@step d C D r l h1 h2 _ ih=>
  simp only [AM.look];cases a:Xqk d b with
  |true=>exact absurd (aG a) h2
  |false=>exact ih
section
variable {P:Program} {ap:AP}
theorem ag.before {h0:List aM} {nt:Nat} {c:Code} {e:a_} {j:St} (b:Nat) (B:aM) {d en':eW} {hp hp':Hp} (k:ag P ap h0 nt c ⟨en',hp',.dead,[]⟩ e j) (h:h0.length<=b) (f:B.pr=true)
  (henv:Gd b B en' (eW.get d)) (hhp:PO b B hp' hp):ag P ap h0 nt c {env:=d,hp,md:= .dead,dfs:= []} e j:=by
 intro _;obtain ⟨h5,n⟩:=k rfl;refine ⟨h5,λm0 S0 w0 m S w a i l Q o=> ?_⟩;obtain ⟨S2,h7,p⟩:=yn (r:={env:=d,hp,md:= .dead,dfs:= []}) (r':=⟨en',hp',.dead,[]⟩) b B h hhp.look f rfl (jy henv) hhp.dom hhp.all i l;exact n m0 S0 w0 m S2 w a h7 p Q o
theorem ag.tidy {h0:List aM} {nt:Nat} {b:Code} {e:a_} {s s1 d:St} (keep:List Nat) (h:ag P ap h0 nt b s1 e d) (n:AM.norm h0.length keep s=s1) (hd:s1.md= .dead):ag P ap h0 nt b s e d:=by
 intro hs;obtain ⟨o,k⟩:=h hd;refine ⟨o,λm0 S0 w0 m S w a c j Q l=> ?_⟩;obtain ⟨i,h7,f⟩:=kU (keep:=keep) c j;rw [n] at h7 f;exact k m0 S0 w0 i S w a h7 f Q l
end
end AM
namespace AM
open Go Go.WideShapes Go.ChangeShapes
section
variable {H:Type} {enc:TypeId × Value->H} {P:Program} {w:World} {base:Nat} {spare:Nat->Bool} {held:Bool}
theorem E7 {u e:TypeId} (b:P.underlying u=some (.slice e)) {base':Nat} {v:Value} (h:Value.okWide P w .any base' u v):v.cells.toList= [v]:=by
 obtain ⟨a,l,c,rfl⟩:=okWide_slice b h;rfl
end
end AM
namespace AM
open Go Go.WideShapes Go.ChangeShapes
inductive DK where
 |int (k:IntKind)
 |bool
 |str
 |slc (l:List DK)
def xU (P:Program) (f:TypeId->Option (List DK)):List Field->Nat->Option (List DK)
 | [],_=>some []
 | x::r,off=>match f x.type with
  | some l=>match Xqk x.offset off && Xqk (P.cellsOf x.type) l.length with
   |true=>match xU P f r (off+l.length) with
    |some q=>some (l++q)
    |none=>none
   |false=>none
  |none=>none
def AW (P:Program):Nat->TypeId->Option (List DK)
 |0,_=>none
 | n+1,t=>match P.underlying t with
  |some (.int k)=>some [.int k]
  |some .bool=>some [.bool]
  |some .string=>some [.str]
  |some (.struct fs)=>match xU P (AW P n) fs.toList 0 with
   |some l=>match Xqk (P.cellsOf t) l.length with|true=>some l|false=>none
   |none=>none
  |some (.slice e)=>match AW P n e with
   |some l=>match Xqk (P.cellsOf e) l.length && Nat.ble 1 l.length with|true=>some [.slc l]|false=>none
   |none=>none
  |_=>none
inductive dU (b:Nat):List DK->List AV->Prop
 |nil:dU b [] []
 |int {k:IntKind} {n:Int} {r:List DK} {l:List AV}:dU b r l->dU b (.int k::r) (.int k n::l)
 |bool {x:Bool} {r:List DK} {l:List AV}:dU b r l->dU b (.bool::r) (.bool x::l)
 |str {s:List UInt8} {r:List DK} {l:List AV}:s.length<=b->dU b r l->dU b (.str::r) (.str s::l)
 |slc {ks:List DK} {L:List (List AV)} {r:List DK} {l:List AV}:(∀ x ∈ L,dU b ks x)->L.length<=b->dU b r l->dU b (.slc ks::r) (.sl L.flatten L.length false::l)
theorem dU.mono {b c:Nat} (h:b<=c) {ks:List DK} {a:List AV} (hd:dU b ks a):dU c ks a:=by
 induction hd with
 |nil=>exact .nil
 |int _ ih=>exact .int ih
 |bool _ ih=>exact .bool ih
 |str hs _ ih=>exact .str (Xqs hs h) ih
 |slc _ hl _ ihx ih=>exact .slc ihx (Xqs hl h) ih
theorem dU.app {b:Nat} {c e:List DK} {a d:List AV} (h:dU b c a) (f:dU b e d):dU b (c++e) (a++d):=by
 induction h with
 |nil=>exact f
 |int _ ih=>exact .int ih
 |bool _ ih=>exact .bool ih
 |str hs _ ih=>exact .str hs ih
 |slc hx hl _ _ ih=>exact .slc hx hl ih
structure X_ {H:Type} (bk:DataW H->Nat):Prop where
 str:∀ s:List UInt8,s.length<=bk (.lit (.string s))
 agg:∀ l:List (DataW H),∀ d ∈ l,bk d<=bk (.agg l)
 slc:∀ l r:List (DataW H),(∀ d ∈ l,bk d<=bk (.slice l r))/\l.length<=bk (.slice l r)
section
variable {H:Type} {enc:TypeId × Value->H} {P:Program} {w:World} {base:Nat} {spare:Nat->Bool} {held:Bool} {bk:DataW H->Nat}
theorem vD {n B:Nat} {f:TypeId->Option (List DK)} (c:∀ t ks,f t=some ks->∀ (fuel:Nat) (cs:List Value) (x:DataW H × List MemPlace),DataW.trod enc P w base spare held fuel t cs=some x->∃ xs,dU (bk x.1) ks xs/\bw (gY w) xs cs/\∀ u ∈ cs,u.oneCell'=true) {cs:List Value}:∀ (r:List Field) (off:Nat) (ks:List DK),xU P f r off=some ks->
  (∀ (i:Nat) (x:Field),r[i]? =some x->∃ y,DataW.trod enc P w base spare held n x.type ((cs.drop x.offset).take (P.cellsOf x.type))=some y/\bk y.1<=B)->∃ xs,dU B ks xs/\bw (gY w) xs ((cs.drop off).take ks.length)/\∀ u ∈ (cs.drop off).take ks.length,u.oneCell'=true
 | [],off,ks,h,_=>by
  simp only [xU] at h;cases h;exact ⟨[],.nil,by simp [bw],by simp⟩
 | x ::r,off,ks,h,hx=>by
  simp only [xU] at h;split at h
  .rename_i l p;split at h
   .rename_i b;simp only [π] at b;have A:=Xxn b.1;have F:=Xxn b.2;split at h
    .rename_i q C;cases h;obtain ⟨y,o,G⟩:=hx 0 x rfl;obtain ⟨j,E,d,e⟩:=c _ _ p _ _ _ o;rw [A,F] at d e;obtain ⟨k,s,z,v⟩:=vD c r (off+l.length) q C (λi f D=>hx (i+1) f (by simpa using D));refine ⟨j++k,(E.mono G).app s, ?_, ?_⟩
     .rw [ξ,Xkf,Xjq];exact iV d z
     .rw [ξ,Xkf,Xjq];intro u a;rcases List.mem_append.1 a with a|a
      .exact e u a
      .exact v u a
    .cases h
   .cases h
  .cases h
theorem vq {S:aH}:∀ {L:List (List AV)} {M:List (List Value)},L.length=M.length->(∀ (i:Nat) (x:List AV) (m:List Value),L[i]? =some x->M[i]? =some m->bw S x m)->bw S L.flatten M.flatten
 | [],[],_,_=>by simp [bw]
 |x::L,m::M,h,hp=>by
  rw [Xjw,Xjw];exact iV (hp 0 x m rfl rfl) (vq (by simpa using h) λi a d b c=>hp (i+1) a d (by simpa using b) (by simpa using c))
 | [],_::_,h,_=>by simp at h
 |_::_,[],h,_=>by simp at h
theorem JG (hk:X_ bk) (hsp:∀ b,spare b=true):∀ (n:Nat) (t:TypeId) (ks:List DK),AW P n t=some ks->∀ (D:Nat) (cs:List Value) (x:DataW H × List MemPlace),DataW.trod enc P w base spare held D t cs=some x->
  ∃ N,dU (bk x.1) ks N/\bw (gY w) N cs/\∀ u ∈ cs,u.oneCell'=true:=by
 intro n
 induction n with
 |zero=>intro t ks h;simp [AW] at h
 | succ n ih=>
  intro t ks h D cs x v;simp only [AW] at h;split at h
  .rename_i k z;cases h;obtain ⟨m,rfl,_⟩:=DataW.trod_int z v;exact ⟨[.int k m],.int .nil,by simp [bw,PR],by simp [Value.oneCell']⟩
  .rename_i z;cases h;obtain ⟨b,rfl,_⟩:=DataW.trod_bool z v;exact ⟨[.bool b],.bool .nil,by simp [bw,PR],by simp [Value.oneCell']⟩
  .rename_i z;cases h;obtain ⟨s,rfl,rfl,_⟩:=DataW.trod_string z v;exact ⟨[.str s.data.toList],.str (hk.str _) .nil,by simp [bw,PR],by simp [Value.oneCell']⟩
  .rename_i fs z;split at h
   .rename_i l hl;split at h
    .rename_i U;cases h;obtain ⟨N,m,rfl,rfl,C,hxl,A⟩:=DataW.trod_struct z v;have e:=Xxn U;obtain ⟨Y,d1,V,O⟩:=vD (n:=m) (B:=bk (.agg (N.map (·.1)))) ih (cs:=cs) fs.toList 0 ks hl (λi f hf=>by
      have Q:fs[i]? =some f:=by simpa using hf
      have I:=A i f Q;have r:i<N.length:=by rw [hxl];exact (Array.getElem?_eq_some_iff.1 Q).1
      rw [ν r] at I;exact ⟨_,I,hk.agg _ _ (List.mem_map.2 ⟨_,Xxv r,rfl⟩)⟩)
     rw [Xx8,List.take_of_length_le (by omega)] at V O;exact ⟨Y,d1,V,O⟩
    .cases h
   .cases h
  .rename_i e z;split at h
   .rename_i l hl;split at h
    .rename_i U;cases h;simp only [π] at U;have Z:=Xxn U.1;have hpos:=Nat.le_of_ble_eq_true U.2;rcases DataW.trod_slice z v with ⟨rfl,rfl⟩|⟨a,len,cap,elems,rest,m,_,rfl,rfl,_,hlc,hm,C,R,hre,_⟩
     .refine ⟨[.sl [] 0 false],.slc (L:= []) (by simp) (by simp) .nil, ?_,by simp [Value.oneCell']⟩;simp only [bw,PR,and_true];exact ⟨none,0,rfl,κ _,.inl ⟨λ_=>trivial,trivial,trivial,rfl⟩⟩
     .obtain ⟨b1,b2⟩:=hk.slc (elems.map (·.1)) (rest.map (·.1));generalize hB:bk (.slice (elems.map (·.1)) (rest.map (·.1)))=B at b1 b2;have hspot:0<cap->a.spot=none:=by
       intro W;have key:∃ c,w.cells? base (a.add 0) (P.cellsOf e)=some c:=by
        rcases Xqh len with h0|h0
        .obtain ⟨r1,r2⟩:=hre (hsp _);have h5:=r2 0 (by omega);rw [ν (by omega)] at h5;obtain ⟨c,y,_⟩:=Option.bind_eq_some_iff.1 h5;rw [h0,Xq3,Xzp] at y;exact ⟨c,y⟩
        .have h5:=R 0 h0;rw [ν (by omega)] at h5;obtain ⟨c,y,_⟩:=Option.bind_eq_some_iff.1 h5;rw [Xzp] at y;exact ⟨c,y⟩
       obtain ⟨c,y⟩:=key;obtain ⟨_,h9,F⟩:=World.cells?_some y;have p:=F 0 (by omega);have ez:(a.add 0).add 0=a:=by simp [Addr.add]
       rw [ez] at p;have r:0<c.length:=by omega
       rw [ν r] at p;exact World.cell?_spot p
      have key:∀ q,q<=len->∃ (L:List (List AV)) (M:List (List Value)),L.length=q/\M.length=q/\(∀ x ∈ L,dU B l x)/\(∀ (i:Nat) (x:List AV) (m:List Value),L[i]? =some x->M[i]? =some m->bw (gY w) x m)/\M.flatten.length=q*l.length/\(∀ u ∈ M.flatten,u.oneCell'=true)/\∀ j u,M.flatten[j]? =some u->gY w a.block (a.off+j)=some u:=by
       intro q
       induction q with
       |zero=>intro _;exact ⟨[],[],rfl,rfl,by simp,by simp,by simp,by simp,by simp⟩
       | succ q ihq=>
        intro hq;obtain ⟨L,M,T,K,I,E,X,G,h4⟩:=ihq (by omega);have h5:=R q (by omega);rw [ν (by omega)] at h5;obtain ⟨c,y,h7⟩:=Option.bind_eq_some_iff.1 h5;obtain ⟨Y,d1,V,O⟩:=ih e l hl _ _ _ h7;obtain ⟨_,h9,F⟩:=World.cells?_some y;have hs:=hspot (by omega);have d2:dU B l Y:=d1.mono (b1 _ (List.mem_map.2 ⟨_,Xxv _,rfl⟩));refine ⟨L++ [Y],M++ [c],by simp [T],by simp [K], ?_, ?_, ?_, ?_, ?_⟩
        .intro x v;rcases List.mem_append.1 v with v|v
         .exact I x v
         .simp at v;subst v;exact d2
        .intro i x m A d;rw [Xk0] at A d;split at A
         .rename_i r;rw [if_pos (by omega)] at d;exact E i x m A d
         .rename_i r;rw [if_neg (by omega)] at d;have e0:i - L.length=0:=by
           have:=(List.getElem?_eq_some_iff.1 A).1;simp at this;omega
          have e1:i - M.length=0:=by omega
          rw [e0] at A;rw [e1] at d;cases A;cases d;exact V
        .rw [Xz8,ξ,X];simp only [Xjw,Yqx,Xqd];rw [Xvx];omega
        .intro u J;rw [Xz8] at J;rcases List.mem_append.1 J with J|J
         .exact G u J
         .exact O u (by simpa using J)
        .intro j u d;rw [Xz8,Xk0] at d;split at d
         .exact h4 j u d
         .rename_i hjl;simp only [Xjw,Yqx,Xqd] at d;have h11:=(List.getElem?_eq_some_iff.1 d).1;have p:=F (j - M.flatten.length) (by omega);rw [d,AH hs,AH rfl] at p;refine BR ?_ (O u (Xqn d));rw [<- p,X,Z];congr 2;have:q*l.length<=j:=by rw [<- X];omega
          simp only;omega
      obtain ⟨L,M,T,K,I,E,X,G,h4⟩:=key len (κ _);have hlB:L.length<=B:=by rw [T,<- C];simpa using b2
      refine ⟨[.sl L.flatten L.length false],.slc I hlB .nil, ?_,by simp [Value.oneCell']⟩;simp only [bw,PR,and_true];refine ⟨some a,cap,by rw [T],by rw [T];exact hlc, ?_⟩;rcases Xqh cap with W|W
      .have h0:len=0:=by omega
       have:L= []:=List.eq_nil_of_length_eq_zero (by omega);subst this;exact .inl ⟨λ_=>trivial,rfl,rfl,W⟩
      .refine .inr ⟨a.block,a.off,M.flatten, ?_,vq (by omega) E,λj u d=> ⟨h4 j u d,G u (Xqn d)⟩⟩;have hs:=hspot W;obtain ⟨b,o,s⟩:=a;simp only at hs;subst hs;rfl
    .cases h
   .cases h
  .cases h
end
end AM
namespace AM
open Go
def jh (g g':bW):Prop:=(∀ b B,g b=some B->∃ q:Bool,g' b=some {B with pr:=q}/\(q=true->B.pr=true))/\∀ b B',g' b=some B'->∃ B,g b=some B
section
variable {P:Program} {ap:AP} {g g':bW} {m:aN} {S:aH} {w:World}
theorem jh.ge (h:jh g g') (m:aN):Ge g m g' m:=λb B c=>by
 obtain ⟨q,a,_⟩:=h.1 b B c;exact ⟨_,a,rfl,.inl ⟨rfl,rfl⟩⟩
theorem jh.back (h:jh g g') {b:Nat} {B':aM} (d:g' b=some B'):∃ (B:aM) (q:Bool),g b=some B/\B'={B with pr:=q}/\(q=true->B.pr=true):=by
 obtain ⟨B,a⟩:=h.2 b B' d;obtain ⟨q,c,e⟩:=h.1 b B a;rw [d] at c;exact ⟨B,q,a,Option.some.inj c,e⟩
theorem jh.srel (h:jh g g') (c:bE ap g m S w):bE ap g' m S w:=by
 refine ⟨λb s B B' a d e=> ?_,λb B' i=> ?_,c.sealed,λb B' i o v z=> ?_,c.glob⟩
 .obtain ⟨C,_,t,_⟩:=h.back a;obtain ⟨C',_,f,_⟩:=h.back d;exact c.inj b s C C' t f e
 .obtain ⟨B,q,a,rfl,d⟩:=h.back i;obtain ⟨⟨cur,e,vs,rest,u,l,y,n,j,p⟩,x,k⟩:=c.blk b B a;exact ⟨⟨cur,e,vs,rest,u,l,λr=>y (d r),iA (eO.refl S) (h.ge m) _ n,j,p⟩,x,k⟩
 .obtain ⟨B,q,a,rfl,_⟩:=h.back i;exact c.own b B a o v z
theorem jh.fr {m0 m:aN} {S0 S:aH} {w0 w:World} {c:bW} (h:jh g g') (a:Fr c m0 S0 w0 g m S w):Fr c m0 S0 w0 g' m S w:=by
 refine ⟨a.ge.trans (h.ge m),a.sle,a.os,a.tape,a.output,a.size,a.rest,λb B' e=> ?_,a.sealN⟩;obtain ⟨B,q,d,rfl,_⟩:=h.back e;exact a.img b B d
theorem ag.unplain {h0:List aM} {nt:Nat} {b:Code} {s s' r:St} {e:a_} (h:ag P ap h0 nt b s' e r) (d:jh (look s.hp) (look s'.hp)) (j:s.env=s'.env) (k:s.md=s'.md) (hd:s.dfs=s'.dfs):ag P ap h0 nt b s e r:=by
 intro f;obtain ⟨l,o⟩:=h (k ▸ f);refine ⟨l,λm0 S0 w0 m S w a i c Q n=>o m0 S0 w0 m S w a (d.fr i) ?_ Q n⟩;exact ⟨d.srel c.srel,λt=>by rw [<- j];exact lz (eO.refl S) (d.ge m) _ (c.env t),by rw [<- hd];exact qd (eO.refl S) (d.ge m) c.dfs,c.size⟩
theorem wo {hp hp':Hp} (b:Nat) (B:aM) (h:look hp b=some B) (f:look hp' b=some {B with pr:=false}) (d:∀ c,c ≠ b->look hp' c=look hp c):jh (look hp) (look hp'):=by
 refine ⟨λc C a=> ?_,λc C a=> ?_⟩
 .by_cases e:c=b
  .subst e;rw [h] at a;cases a;exact ⟨false,f,λe=>by cases e⟩
  .exact ⟨C.pr,by rw [d c e,a],λh=>h⟩
 .by_cases e:c=b
  .subst e;exact ⟨B,h⟩
  .rw [d c e] at a;exact ⟨C,a⟩
end
end AM
namespace AM
open Go
variable {P:Program} {ap:AP} {H:bK}
def Og (ap:AP) (n:Nat) (F:Func) (env:eW) (hp:Hp):Option (gy × List aM):=
 let rd:=look hp
 match gm (qz ap env hp) F.results.toList,gm rd (List.range n) with
 | some vs,some h'=>
  match h'.all (λB=>B.pr||(bD B.cells).all λb=>Nat.blt b n) && (vs.flatMap λ(q:AV × List Bool)=>q.2).all id with
  |false=>none
  |true=>
   let all:=vs.flatMap λ(q:AV × List Bool)=>lW rd 6 (eB (cH q.1))
   match gm (lJ n rd all) (vs.map λ(q:AV × List Bool)=>q.1) with
   |some [v]=>some (.ret v,h')
   |some l=>some (.ret (.tup l),h')
   |none=>none
 |_,_=>none
theorem vT (o:dP P ap) {n:Nat} {h0 j:List aM} (y:h0.length<=n) {fn:Func} {env:eW} {hp:Hp} {out:gy} (h:Og ap n fn env hp=some (out,j)) {m m0:aN} {S S0:aH} {w w0:World} {tmps:Array Value}:
  h0.length<=j.length/\(bE ap (look hp) m S w->Fr (aW h0) m0 S0 w0 (look hp) m S w->(∀ t,VR (look hp) m S (env.get t) (tmps.getD t undef))->
   ∃ cv,(results fn tmps).run P w= .ok cv w/\∃ s S',Ai ap h0 m0 S0 w0 out j s S' w (.returned cv)):=by
 unfold Og at h;dsimp only at h;split at h
 .rename_i vs G p c;split at h
  .cases h
  .rename_i F;rw [π] at F;obtain ⟨hbase,d⟩:=F;have d:∀ b ∈ vs.flatMap (·.2),b=true:=λb I=>List.all_eq_true.1 d b I
   split at h
   .rename_i v i;cases h;have hlen':h0.length<=j.length:=by rw [(dx c).1];simpa using y
    refine ⟨hlen',λu f C=> ?_⟩;obtain ⟨cvs,A,k,B⟩:=gE o u C p d;have a:(vs.flatMap λq=>lW (look hp) 6 (eB (cH q.1)))=(vs.map (·.1)).flatMap (cl (look hp)):=by rw [Xvg];rfl
    rw [a] at i;obtain ⟨s,S',x,h5,D⟩:=kK u f k y i c hbase;have z:cvs.length=1:=by
     have:=bA k;have h7:=(dx i).1;simp at h7 this;omega
    match cvs,z with
    | [cv],_=>
     obtain ⟨h7,E⟩:=DD D;refine ⟨cv,fP A B,s,S', ?_⟩;rw [<- E] at x h5;refine ⟨x,h5,cv,rfl, ?_⟩;rw [E];exact h7
   .rename_i l e i;cases h;have hlen':h0.length<=j.length:=by rw [(dx c).1];simpa using y
    refine ⟨hlen',λu f C=> ?_⟩;obtain ⟨cvs,A,k,B⟩:=gE o u C p d;have a:(vs.flatMap λq=>lW (look hp) 6 (eB (cH q.1)))=(vs.map (·.1)).flatMap (cl (look hp)):=by rw [Xvg];rfl
    rw [a] at i;obtain ⟨s,S',x,h5,D⟩:=kK u f k y i c hbase;have r:Im cvs= .tuple cvs.toArray:=by
     match cvs with
     | []=>rfl
     | [cv]=>
      exfalso;have:=bA k;have h7:=(dx i).1;simp at h7 this
      match l,e with
      | [],_=>simp at h7;omega
      | [v],e=>exact e v rfl
      |_::_::_,_=>simp at h7;omega
     |_::_::_=>rfl
    refine ⟨_,fP A B,s,S',x,h5, ?_⟩;rw [r];exact ⟨_,rfl,cvs,rfl,D⟩
   .cases h
 .cases h
theorem qh (g:vp P ap) (n:Nat) {f:Nat} {F:AF} (j:ap.fnAt f=some F) {args:List AV} {h0 u:List aM} {out:gy} {s:St} {nt0:Nat} (k:F.fn.ntmps=nt0) (i:∀ nt,nt0<=nt->ag P ap h0 nt (am F.fn) (fI .dead args h0) .ret s) (hd:s.dfs= []) (x:h0.length<=n) (t:Og ap n F.fn s.env s.hp=some (out,u)):az P ap f args h0 out u:=by
 obtain ⟨d,_⟩:=vT (P:=P) (m:=λ_=>(0,0)) (m0:=λ_=>(0,0)) (S:=λ_ _=>none) (S0:=λ_ _=>none) (w:=default) (w0:=default) (tmps:=#[]) g.apok x t;subst k;refine ⟨d,uo g.fnok j,λm S w cargs L K=> ?_⟩;obtain ⟨body,v,r⟩:=g.fnok.body f F j;have hbody:am F.fn=body:=by simp [am,v]
 rw [hbody] at i;obtain ⟨D,c⟩:=CI (md:= .dead) L K F.fn.ntmps;have c:FR ap (fI .dead args h0).env (fI .dead args h0).hp (fI .dead args h0).dfs _ m S w _:=c;have q:F.fn.ntmps<=(cargs.toArray++Array.replicate (F.fn.ntmps - cargs.toArray.size) undef).size:=by simp;omega
 obtain ⟨_,i⟩:=i _ q rfl;refine calls_of_wp_defers (g.fnok.fn f F j) v ?_;refine i m S w m S w _ (by rw [D];exact Fr.refl _ _ _ _) c _ ?_;intro I S' w' l z a;obtain ⟨_,G⟩:=pz g.apok (gW g.apok g.mixed g.fnok 3000 4).2 [] .nilI .nilI s.hp s.hp ⟨false,[],[],[],[],[]⟩ _ rfl ⟨λb h=>(by cases h),λp h=>(by cases h)⟩;have e:=a.dfs;rw [hd] at e;refine G h0 F.fn l.tmps s.env _ m S w I S' w' l.defers .returning a.srel z a.env e rfl ?_;intro y S2 C u2 A B E h5;simp only [xy] at h5;subst h5;obtain ⟨_,o⟩:=vT (P:=P) (m:=y) (m0:=m) (S:=S2) (S0:=S) (w:=C) (w0:=w) (tmps:=l.tmps) g.apok x t;obtain ⟨cv,J,h7⟩:=o A B E;exact ⟨cv,J,h7⟩
end AM
namespace AM
open Go
section
variable {P:Program} {ap:AP} {H:bK}
def mf (r:g_):g_:={r with rb:= []}
theorem x_ {D:Nat->Bool}:∀ (rs:List g_) (i j:Nat) (e:eW) (r:g_),rs[i]? =some r->jJ D j e (rs.set i (mf r))=jJ D j e rs
 | [],i,j,e,r,h=>by simp at h
 |x::rs,0,j,e,r,h=>by
  have h:x=r:=by simpa using h
  subst h;rfl
 |x::rs,i+1,j,e,r,h=>by
  simp only [Xvz,jJ];exact x_ rs i (j+1) _ r (by simpa using h)
theorem CG {D:Nat->Bool}:∀ (rs:List g_) (i j:Nat) (e:Hp) (r:g_),rs[i]? =some r->li D j e (rs.set i (mf r))=li D j e rs
 | [],i,j,e,r,h=>by simp at h
 |x::rs,0,j,e,r,h=>by
  have h:x=r:=by simpa using h
  subst h;rfl
 |x::rs,i+1,j,e,r,h=>by
  simp only [Xvz,li];exact CG rs i (j+1) _ r (by simpa using h)
theorem BM (a:List g_) (i k:Nat) (r:g_) (h:a[i]? =some r):(a.set i (mf r)).take k=a.take k\/((a.take k)[i]? =some r/\(a.set i (mf r)).take k=(a.take k).set i (mf r)):=by
 by_cases hk:i<k
 .right;refine ⟨by rw [Xjn,if_pos hk];exact h, ?_⟩;rw [Yxz]
 .left;rw [Yxz,List.set_eq_of_length_le];rw [List.length_take];omega
theorem AY (a:List g_) (i k:Nat) (e:eW) (r:g_) (h:a[i]? =some r):lh e ((a.set i (mf r)).take k)=lh e (a.take k):=by
 rcases BM a i k r h with b|⟨b,c⟩
 .rw [b]
 .rw [c];exact x_ _ _ _ _ _ b
theorem M6 (a:List g_) (i k:Nat) (e:Hp) (r:g_) (h:a[i]? =some r):yz e ((a.set i (mf r)).take k)=yz e (a.take k):=by
 rcases BM a i k r h with b|⟨b,c⟩
 .rw [b]
 .rw [c];exact CG _ _ _ _ _ b
def BP:Hp->Nat->List aM
 | [],_=> []
 |(b,B)::r,t=>match Xqk b t with|true=>B::BP r t|false=>BP r t
theorem BQ {b:Nat} {B:aM}:∀ {hp:Hp},(b,B) ∈ hp->B ∈ BP hp b
 | (c,C)::r,h=>by
  simp only [BP];rcases List.mem_cons.1 h with h|h
  .cases h;rw [Xz1];exact List.mem_cons_self
  .have a:=BQ h;split
   .exact List.mem_cons_of_mem _ a
   .exact a
theorem H1 {D D':Nat->Bool} (b:∀ j,D j=true->D' j=true):∀ (rs:List g_) (j:Nat) (h h':Hp),(∀ x ∈ h,x ∈ h')->∀ x ∈ li D j h rs,x ∈ li D' j h' rs
 | [],_,_,_,hs=>hs
 | r::rs,j,h,h',hs=>by
  simp only [li];refine H1 b rs (j+1) _ _ ?_;intro x a;cases hd:D j with
  |true=>
   rw [hd] at a;rw [b j hd];rcases List.mem_append.1 a with a|a
   .exact List.mem_append.2 (.inl a)
   .exact List.mem_append.2 (.inr (hs x a))
  |false=>
   rw [hd] at a;cases D' j with
   |true=>exact List.mem_append.2 (.inr (hs x a))
   |false=>exact hs x a
def qE (D:Nat->Bool):List rF->Hp->Hp
 | [],hp=>hp
 |F::r,hp=>match D r.length with
  |true=>hp.take F.wb.length++qE D r (hp.drop F.wb.length)
  |false=>qE D r (hp.drop F.wb.length)
theorem yx {D:Nat->Bool}:∀ (rs:List g_) (j:Nat) (h:Hp) (r:g_),li D j h (rs++ [r])=match D (j+rs.length) with|true=>r.ups++li D j h rs|false=>li D j h rs
 | [],j,h,r=>by
  simp only [List.nil_append,li,List.length_nil,Xq3];cases D j<;>rfl
 |x::rs,j,h,r=>by
  simp only [List.cons_append,li];rw [yx rs (j+1) _ r];rw [show j+1+rs.length=j+(x::rs).length by simp;omega]
theorem zP {D:Nat->Bool} (h:Hp):∀ (l:List g_),qE D (l.map g_.foot) (yz h l.reverse)=li D 0 h l.reverse
 | []=>rfl
 | r::l=>by
  have e:yz h (r::l).reverse=r.ups++yz h l.reverse:=by
   unfold yz;rw [Xzr,yx]
  have a:(g_.foot r).wb.length=r.ups.length:=by simp [g_.foot]
  rw [e,Xzr,yx];simp only [Xqf,qE,a,List.length_map,List.take_left,List.drop_left,List.length_reverse,Ψ];rw [zP h l]
theorem Ec {D:Nat->Bool} {b:Nat}:∀ (rs:List g_) (j:Nat) (h:Hp),(∃ B,look h b=some B)->∃ B,look (li D j h rs) b=some B
 | [],_,_,hs=>hs
 | r ::rs,j,h,hs=>by
  simp only [li];refine Ec rs (j+1) _ ?_;cases D j with
  |false=>exact hs
  | true=>
   by_cases hm:b ∈ r.ups.map (·.1)
   .obtain ⟨B,a⟩:=pH hm;exact ⟨B,by
     rw [dJ,a]⟩
   .rw [nS hm];exact hs
inductive xC (P:Program) (ap:AP) (H:bK) (n:Nat) (ops:List Oper) (o:Oper) (b d:Nat) (rt:List Nat) (env:eW) (v:AV):List aM->Prop where
 |nil:xC P ap H n ops o b d rt env v []
 | cons {B:aM} {r:List aM} {c2 c3:Cx} {t:RS}:Fj ap H n ops o {env,hp:= [(b,B)],md:= .dead,dfs:= [],dec:= [],feet:= []} c2= .ok (t,none) c3->c3.Ok->t.feet= [{rt:=rt,wt:= [d],rb:= [b],wb:= []}]->t.dfs= []->t.env.get d=v->
   xC P ap H n ops o b d rt env v r->xC P ap H n ops o b d rt env v (B::r)
theorem xC.sem (k:dP P ap) (s:gj P ap H) {n:Nat} {ops:List Oper} {o:Oper} {b d:Nat} {rt:List Nat} {env:eW} {v:AV} {l:List aM} (hd:o.dst=some d) (h:xC P ap H n ops o b d rt env v l):∀ B ∈ l,BV P ap ops.toArray o n env [(b,B)] rt [b] v [] [] none:=by
 induction h with
 |nil=>intro B z;simp at z
 | @cons B r c2 c3 t he hc hft hdf0 hvd _ ih=>
  intro B' a;rcases List.mem_cons.1 a with rfl|a
  .obtain ⟨_,hs⟩:=oq k s he hc;obtain ⟨x,rb,ups,q,hs⟩:=hs rfl (λt b u=>by cases u);have i:=hs.feet rfl;rw [hft] at i;simp only [List.cons.injEq,rF.mk.injEq,and_true] at i;obtain ⟨f,_,j,e⟩:=i;have c:ups= []:=by
    cases ups with
    |nil=>rfl
    |cons _ _=>simp at e
   have p:q= []:=by
    have:=hs.dfs;rw [hdf0] at this;simpa using this.symm
   have y:x=v:=by
    have:=hs.env rfl;rw [this,hd,ib] at hvd;exact hvd
   have:=hs.sem;rw [<- f,<- j,c,p,y] at this;exact this
  .exact ih B' a
theorem JP (Z:dP P ap) (hmix:P.follows .mixedOrders=true) (hH:gj P ap H) {ops:List Oper} {nt:Nat} {h0:List aM} (keep:List Nat) {id:Nat} (hnt:∀ o ∈ ops,∀ d,o.dst=some d->d<nt) {s:St} {s1:RS} {c c':Cx} (i b d:Nat) (o:Oper) (rt:List Nat) (v:AV) (L:List aM)
  (e1:pZ ap H ops ops (fK s.hp) {env:=s.env,hp:=s.hp,md:=s.md,dfs:=s.dfs,dec:= [],feet:= []} c= .ok (s1,none) c') (hc:c'.Ok)
  (hoi:ops[i]? =some o) (hod:o.dst=some d) (hft:s1.feet.reverse[i]? =some {rt:=rt,wt:= [d],rb:= [b],wb:= []})
  (hord:pM (fK s.hp) (Region.before ops.toArray).toList (s1.feet.reverse.set i {rt:=rt,wt:= [d],rb:= [],wb:= []}).reverse=true) (hback:nO ops=true) (hdl:s1.dfs.length=s.dfs.length)
  (hlate:∀ k A,i<k->ops[k]? =some A->∀ x,A.dst=some x->x ≠ d/\x ∉ rt) (hdr:d ∉ rt)
  (hv:s1.env.get d=v) (W:∃ B,look s.hp b=some B) (hL:BP (qE (λk=> !(((Region.before ops.toArray).toList.getD k 0).testBit i)) s1.feet s1.hp) b=L) (hst:xC P ap H (fK s.hp+8*i) ops o b d rt s1.env v L):
  ag P ap h0 nt (.region id ops.toArray true) s .normal (norm h0.length keep ⟨s1.env,s1.hp,s1.md,s1.dfs⟩):=by
 intro hmd;have hn0:∀ b B,look s.hp b=some B->b<fK s.hp:=λb B W=>uQ W
 obtain ⟨_,hs⟩:=Pz Z hH ops 0 _ _ _ _ _ e1 hc;obtain ⟨h1,recs,R,e⟩:=hs hmd (λt b W=>by cases W) rfl;refine ⟨h1,λm0 S0 w0 m S w a hfr I Q hQ=>wp_region_any hmix ?_⟩;have C:s1.dfs.length=s.dfs.length:=hdl;have hdf:=(e.sem C).1;have hil:i<recs.length:=by rw [R];exact (List.getElem?_eq_some_iff.1 hoi).1
 have n:recs[i]? =some recs[i]:=ν hil;have hfeet:s1.feet.reverse=recs.map g_.foot:=by rw [e.feet,Xqd,Xwq]
 rw [hfeet] at hft hord;rw [List.getElem?_map,n,Option.map_some,Option.some.injEq] at hft;generalize recs[i]=r at n hft;have J:=hft;simp only [g_.foot,rF.mk.injEq] at J;obtain ⟨hrt,hwt,hrb,p⟩:=J;have p:r.ups= []:=by
  cases hu:r.ups with
  |nil=>rfl
  |cons _ _=>rw [hu] at p;simp at p
 have hset:(recs.map g_.foot).set i {rt:=rt,wt:= [d],rb:= [],wb:= []}=(recs.set i (mf r)).map g_.foot:=by
  rw [List.map_set];congr 1;simp only [g_.foot,mf,rF.mk.injEq];exact ⟨hrt.symm,hwt.symm,trivial,by rw [p];rfl⟩
 rw [hset] at hord;have U:lG (Array.replicate ops.length false)=λ_=>false:=by
  funext k;simp only [lG,Array.getD_eq_getD_getElem?];by_cases l:k<ops.length<;>simp [l]
 have hsz:ops.toArray.size=ops.length:=by simp
 rw [hsz];have V:∀ D,li D 0 s.hp (recs.set i (mf r))=li D 0 s.hp recs:=λD=>CG recs i 0 s.hp r n
 have enE:∀ D,jJ D 0 s.env (recs.set i (mf r))=jJ D 0 s.env recs:=λD=>x_ recs i 0 s.env r n
 have M:∀ k,k ≠ i->(recs.set i (mf r))[k]? =recs[k]? :=λk l=>List.getElem?_set_ne (Ne.symm l)
 have hgeti:(recs.set i (mf r))[i]? =some (mf r):=List.getElem?_set_self hil;have hdsto:∀ (k:Nat) (q:g_),recs[k]? =some q->∃ A:Oper,ops[k]? =some A/\q.dst=A.dst:=by
  intro k q l;obtain ⟨A,y,z,_⟩:=(e.sem C).2 k q l;exact ⟨A,by rw [<- y,Ψ],z⟩
 have G:r.dst=some d:=by
  obtain ⟨A,y,z⟩:=hdsto i r n;rw [hoi] at y;cases y;rw [z,hod]
 have hrv:r.v=v:=by
  have e2:(lh s.env recs).get d=(lh s.env (recs.take (i+1))).get d:=by
   rw [<- sX];refine kF recs 0 _ _ rfl λk q l hd=> ?_
   rw [Ψ];by_cases hki:i<k
   .obtain ⟨A,y,z⟩:=hdsto k q l;exact absurd rfl (hlate k A hki y d (z ▸ hd)).1
   .simp;omega
  have e3:s1.env.get d=v:=hv;rw [e.env] at e3;rw [show (lh s.env recs).get d=(lh s.env recs).get d from rfl,e2,AZ _ _ _ _ n,G,ib] at e3;exact e3
 have Y:∀ t ∈ rt,(lh s.env (recs.take i)).get t=s1.env.get t:=by
  intro t ht;rw [e.env,<- sX];refine kF recs 0 _ _ rfl λk q l hd=> ?_
  rw [Ψ];rcases Nat.lt_trichotomy k i with h|h|h
  .simp [h]
  .subst h;rw [n] at l;cases l;rw [G] at hd;cases hd;exact absurd ht hdr
  .obtain ⟨A,y,z⟩:=hdsto k q l;exact absurd ht (hlate k A h y t (z ▸ hd)).2
 refine DW (P:=P) (ap:=ap) (s:={env:=s.env,hp:=s.hp,md:=s.md,dfs:=s.dfs,dec:= [],feet:= []}) (recs:=recs.set i (mf r)) hnt (by rw [List.length_set];exact R) ?_ ?_ (zi hord) hback hn0 (m0:=m) (S0:=S) (w0:=w) (Q:=Q) ?_ ops.length _ m S _ a ⟨by simp, ?_, ?_, ?_⟩ ?_
 .intro k q l x N;by_cases hki:k=i
  .subst hki;rw [hgeti] at l;cases l;rw [show (mf r).ups=r.ups from rfl,p] at N;simp at N
  .rw [M k hki] at l;have:=e.bound k q l x N;omega
 .intro k q l;by_cases hki:k=i
  .subst hki;rw [hgeti] at l;cases l;refine ⟨o,hoi,by rw [<- hod] at G;exact G, ?_⟩;intro D X S2 w2 a2 T u _ f hnb Q2 K O;dsimp only at T u f O;rw [V] at T u f O;obtain ⟨B,hB⟩:=Ec (D:=D) recs 0 s.hp W;have hBm:B ∈ L:=by
    have e4:=zP (D:=λj=> !(((Region.before ops.toArray).toList.getD j 0).testBit k)) s.hp recs.reverse;rw [Xwq,List.map_reverse] at e4;rw [<- hL,e.hp,e.feet,Xqd];rw [e4];refine BQ (H1 (D:=D) (λj hj=> ?_) recs 0 s.hp s.hp (λ_ h=>h) _ (uJ hB));cases hb2:((Region.before ops.toArray).toList.getD j 0).testBit k with
    |false=>rfl
    |true=>rw [hnb j hb2] at hj;cases hj
   have E:=hst.sem Z hH hod B hBm;rw [show (mf r).v=r.v from rfl,hrv,show (mf r).ups=r.ups from rfl,p] at O;refine E _ X S2 w2 a2 T (λt ht=> ?_) (λx N B2 hB2=> ?_) f Q2 K O
   .have y:=u t (by rw [show (mf r).rt=r.rt from rfl,hrt];exact ht);rw [AY recs k k s.env r n,Y t ht] at y;exact y
   .rw [List.mem_singleton] at N;subst N;simp only [look,Xz1,Option.some.injEq] at hB2;subst hB2;exact hB
  .rw [M k hki] at l;obtain ⟨A,y,z,E⟩:=(e.sem C).2 k q l;rw [Ψ] at y;refine ⟨A,y,z, ?_⟩;intro D X S2 w2 a2 T u F f _ Q2 K O;dsimp only at T u F f O;rw [V] at T u F f O;rw [AY recs i k s.env r n] at u;rw [M6 recs i k s.hp r n] at F;exact E _ X S2 w2 a2 T u (λx N B hB=>by rw [<- F x N];exact hB) f Q2 K O
 .intro m' S' w' a' z h4;dsimp only at z h4;have e5:yz s.hp (recs.set i (mf r))=yz s.hp recs:=V _;have e6:lh s.env (recs.set i (mf r))=lh s.env recs:=enE _;rw [e5] at z h4;rw [e6] at h4;have h5:Fr (aW h0) m0 S0 w0 (look s1.hp) m' S' w':=by
   rw [e.hp];exact hfr.trans z
  have h6:FR ap s1.env s1.hp s1.dfs nt m' S' w' a':=by
   rw [e.hp,e.env,hdf];exact h4
  obtain ⟨X,h7,h8⟩:=kU (keep:=keep) (s:=⟨s1.env,s1.hp,s1.md,s1.dfs⟩) h5 h6;exact hQ X S' w' a' h7 h8
 .intro k o l hd;rw [U] at hd;cases hd
 .dsimp only;rw [U,kM _ 0 _ (λ_ _=>rfl)];exact ⟨Ge.refl _ _,eO.refl _,rfl,rfl,rfl,κ _,λ_ _ _=>rfl,λ_ B h=> .inr ⟨B,h,rfl⟩,λ_ _ _ h=> .inl h⟩
 .dsimp only;rw [U,kM _ 0 _ (λ_ _=>rfl),qm _ 0 _ (λ_ _=>rfl)];exact ⟨⟨I.srel.inj,λb B W=>I.srel.blk b B W|>λ⟨h1,y,z⟩=> ⟨h1,y,z⟩,I.srel.sealed,I.srel.own,I.srel.glob⟩,I.env,I.dfs,I.size⟩
 .simp only [xc];exact Xqs (List.length_filter_le _ _) (by simp)
def wz:List Nat->List Nat->Bool
 | [],[]=>true
 |a::r,b::q=>Xqk a b && wz r q
 |_,_=>false
theorem lH:∀ {l r:List Nat},wz l r=true->l=r
 | [],[],_=>rfl
 |a::r,b::q,h=>by
  simp only [wz,π] at h;rw [aG h.1,lH h.2]
 | [],_::_,h=>by simp [wz] at h
 |_::_,[],h=>by simp [wz] at h
def Jc (ap:AP) (H:bK) (n:Nat) (ops:List Oper) (o:Oper) (b d:Nat) (rt:List Nat) (env:eW) (v:AV):List aM->Option (List Prop)
 | []=>some []
 | B ::r=>match Fj ap H n ops o {env,hp:= [(b,B)],md:= .dead,dfs:= [],dec:= [],feet:= []} ⟨true,[],[],[],[],[]⟩ with
  | .ok (t,none) c3=>match t.feet,t.dfs,c3.bs,c3.ps with
   | [F],[],[],[]=>match wz F.rt rt && wz F.wt [d] && wz F.rb [b] && wz F.wb [] with
    |true=>match Jc ap H n ops o b d rt env v r with
     |some l=>some ((t.env.get d=v)::l)
     |none=>none
    |false=>none
   |_,_,_,_=>none
  |_=>none
theorem Fh {n:Nat} {ops:List Oper} {o:Oper} {b d:Nat} {rt:List Nat} {env:eW} {v:AV}:∀ {L:List aM} {l:List Prop},Jc ap H n ops o b d rt env v L=some l->(∀ p ∈ l,p)->xC P ap H n ops o b d rt env v L
 | [],_,_,_=> .nil
 | B ::r,l,h,hl=>by
  simp only [Jc] at h;split at h
  .rename_i t s f;split at h
   .rename_i F i j k c;split at h
    .rename_i a;simp only [π] at a;split at h
     .rename_i q e;cases h;refine .cons f ⟨by rw [k];simp,by rw [c];simp⟩ ?_ j (hl _ (by simp)) (Fh e λp hp=>hl p (by simp [hp]));rw [i,<- lH a.1.1.1,<- lH a.1.1.2,<- lH a.1.2,<- lH a.2]
     .cases h
    .cases h
   .cases h
  .cases h
def Dm (ap:AP) (H:bK) (base:Nat) (keep:List Nat) (nt0 i b d:Nat) (code:Code) (s:St) (c:Cx):R St:=
 match code with
 | .region _ opsA true=>
  (pZ ap H opsA.toList opsA.toList (fK s.hp) {env:=s.env,hp:=s.hp,md:=s.md,dfs:=s.dfs,dec:= [],feet:= []} c).bind λ(s1,p) c=>
  match p with
  |some _=> .bad 1
  |none=>
  match opsA.toList[i]?,s1.feet.reverse[i]? with
  | some o,some F=>
   match (match o.dst with|some d'=>Xqk d' d|none=>false) && wz F.wt [d] && wz F.rb [b] && wz F.wb [] && pM (fK s.hp) (Region.before opsA).toList (s1.feet.reverse.set i {rt:=F.rt,wt:= [d],rb:= [],wb:= []}).reverse && nO opsA.toList && Xqk s1.dfs.length s.dfs.length
    && (opsA.toList.drop (i+1)).all (λo'=>match o'.dst with|some x=> !(Xqk x d) && !(lp F.rt x)|none=>true) && !(lp F.rt d) && (look s.hp b).isSome && opsA.toList.all (DX nt0) with
   |true=>match Jc ap H (fK s.hp+8*i) opsA.toList o b d F.rt s1.env (s1.env.get d) (BP (qE (λk=> !(((Region.before opsA).toList.getD k 0).testBit i)) s1.feet s1.hp) b) with
    |some l=> .ok (norm base keep ⟨s1.env,s1.hp,s1.md,s1.dfs⟩) {c with ps:=l++c.ps}
    |none=> .bad 3
   |false=> .bad 2
  |_,_=> .bad 4
 |_=> .bad 5
theorem Hj (z:dP P ap) (q:P.follows .mixedOrders=true) (T:gj P ap H) {h0:List aM} {keep:List Nat} {nt nt0 i b d:Nat} {j:Code} {s s':St} {c E:Cx} (Y:nt0<=nt) (h:Dm ap H h0.length keep nt0 i b d j s c= .ok s' E) (v:E.Ok):ag P ap h0 nt j s .normal s':=by
 unfold Dm at h;split at h
 .rename_i id a;obtain ⟨⟨s1,p⟩,c1,L,h⟩:=R.bind_ok h;dsimp only at h;split at h
  .cases h
  .split at h
   .rename_i o F N J;split at h
    .rename_i hcond;split at h
     .rename_i l U;cases h;simp only [π] at hcond;obtain ⟨⟨⟨⟨⟨⟨⟨⟨⟨⟨t,I⟩,X⟩,O⟩,W⟩,Q⟩,K⟩,M⟩,G⟩,u⟩,A⟩:=hcond;have B:o.dst=some d:=by
       split at t
       .rename_i Z C;rw [C,aG t]
       .cases t
      have y:F={rt:=F.rt,wt:= [d],rb:= [b],wb:= []}:=by
       rw [<- lH I,<- lH X,<- lH O]
      have f:a.toList.toArray=a:=by simp
      have key:=JP (nt:=nt) (h0:=h0) z q T keep (id:=id) (ops:=a.toList) (λr n x D=>by
        have:=List.all_eq_true.1 A r n;simp only [DX,D] at this;exact υ (dC this) Y) i b d o F.rt (s1.env.get d) _ L ⟨v.bs,λp hp=>v.ps p (by simp [hp])⟩ N B (by rw [J,<- y]) (by rw [f];exact W) Q (aG K) ?_ ?_ rfl (by simpa [Option.isSome_iff_exists] using u) (by rw [f]) (Fh U λp hp=>v.ps p (by simp [hp]))
      .rw [f] at key;exact key
      .intro k r hk n x D;have V:r ∈ a.toList.drop (i+1):=by
        refine Xqn (i:=k - (i+1)) ?_;rw [Xj2,show i+1+(k - (i+1))=k by omega];exact n
       have:=List.all_eq_true.1 M r V;simp only [D,π,Bool.not_eq_true'] at this;refine ⟨λe=> ?_,λe=> ?_⟩
       .subst e;rw [Xz1] at this;cases this.1
       .rw [fe.2 e] at this;cases this.2
      .intro e;rw [fe.2 e] at G;cases G
     .cases h
    .cases h
   .cases h
 .cases h
end
theorem Jd {P:Program} {ap:AP} (g:vp P ap) {h0:List aM} {keep:List Nat} {nt nt0 i b d:Nat} {a:Code} {s s':St} {ans:List (gy × List aM)} {ps:List Prop} (hp:DB ps) (e:nt0<=nt)
  (h:Dm ap (si P ap 3000 4) h0.length keep nt0 i b d a s ⟨true,[],[],[],ans,[]⟩= .ok s' ⟨true,[],[],ps,[],[]⟩):ag P ap h0 nt a s .normal s':=by
 obtain ⟨c,_⟩:=gW g.apok g.mixed g.fnok 3000 4;exact Hj g.apok g.mixed c e h ⟨by simp,hp.mem⟩
abbrev ω (x:Int):AV:= .int .i64 x
abbrev Ω (b:Bool) (n d:List UInt8):AV:= .agg [.bool b,.str n,.str d]
theorem Yq0 {p:Prop} [Decidable p]:p->decide p=true:=decide_eq_true
theorem Yq1 {p:Prop} [Decidable p]:¬p->decide p=false:=decide_eq_false
theorem Yq2 {α:Type} [BEq α] [LawfulBEq α] {a b:α}:(a==b)=false↔a≠b:=beq_eq_false_iff_ne
end AM
