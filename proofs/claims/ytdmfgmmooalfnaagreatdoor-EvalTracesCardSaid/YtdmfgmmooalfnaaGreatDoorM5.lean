/- The machine and its soundness. -/
import Derived.Test.YtdmfgmmooalfnaaGreatDoorM4
import Derived.ChangeArms
import Derived.WideShapes
import Derived.Deep.Strs
set_option linter.unusedSimpArgs false
set_option linter.unusedVariables false
open Nat renaming beq->Xqn,le_refl->χ,sub_self->Xzr,eq_of_beq_eq_true->Xjk,succ_mul->Xkk
open List renaming map_cons->Xqg,append_nil->Δ,mem_of_getElem?->Xql,isEmpty_iff->Xkd,replicate->μ,length_append->η,take_add->Yxi,drop_drop->Xjw,getElem?_eq_getElem->π,drop_zero->Xjt,take_length->Xqz,flatten_cons->Xzd,map->Xvc,drop->ε,flatMap_cons->Xxk,flatten_append->Xwe,flatten_nil->Yqg
open Bool renaming and_eq_true->φ
namespace AM
open Go
structure aN (s s':St):Prop where
 env:∀ t,s.env.get t=s'.env.get t\/s.env.get t= .dead
 hp:s.hp=s'.hp
 md:s.md=s'.md
 dfs:s.dfs=s'.dfs
theorem aN.refl (s:St):aN s s:=⟨λ_=> .inl rfl,rfl,rfl,rfl⟩
def RH:jq->(Nat->AV)->Prop
 | [],_=>True
 |(t,v)::r,f=>(f t=v)/\RH r f
theorem zZ {f:Nat->AV}:∀ {e:jq},RH e f->∀ t,e.get t=f t\/e.get t= .dead
 | [],_,t=> .inr rfl
 | (u,v)::r,h,t=>by
  simp only [RH] at h;simp only [jq.get,aF];cases a:Xqn u t with
  |true=>
   have:=aP a;subst this;exact .inl h.1.symm
  |false=>exact zZ h.2 t
theorem aN.of {e e':jq} {hp:Hp} {md:AV} {dfs:List (Nat × List AV)} (h:RH e e'.get):aN {env:=e,hp,md,dfs} {env:=e',hp,md,dfs}:=⟨zZ h,rfl,rfl,rfl⟩
section
variable {P:Program} {ap:AP} {H:dD}
theorem FR.less {s s':St} (h:aN s s') {nt:Nat} {m:bg} {S:aY} {w:World} {a:Act} (b:FR ap s'.env s'.hp s'.dfs nt m S w a):FR ap s.env s.hp s.dfs nt m S w a:=by
 refine ⟨h.hp ▸ b.srel,λt=> ?_, ?_,b.size⟩
 .rcases h.env t with e|e
  .rw [e,h.hp];exact b.env t
  .rw [e];simp [VR]
 .rw [h.hp,h.dfs];exact b.dfs
theorem aj.weak {j:List bu} {nt:Nat} {b:Code} {s s' r k:St} {e:bI} (h:aj P ap j nt b s e r) (hs:aN s s') (c:aN k r):aj P ap j nt b s' e k:=by
 intro i;obtain ⟨o,p⟩:=h (hs.md ▸ i);refine ⟨c.md ▸ o,λm0 S0 w0 m S w a d l Q x=>p m0 S0 w0 m S w a (by rw [hs.hp];exact d) (l.less hs) Q ?_⟩;intro q S' w' n u t;have:=x q S' w' n (by rw [c.hp];exact u) (t.less c);cases e with
 |normal=>exact this
 |exit id=>exact this
 |ret=>exact this
 |panic v=>intro cv f;exact this cv (by rw [c.hp];exact f)
inductive az (P:Program) (ap:AP) (h0:List bu) (nt:Nat) (b:Code) {α β:Type} (e:β->bI) (st:α->St) (out:β->St):α->β->Prop where
 |done {a:α} {r:β}:aj P ap h0 nt b (st a) (e r) (out r)->az P ap h0 nt b e st out a r
 |next {a a':α} {r:β}:aj P ap h0 nt b (st a) .normal (st a')->az P ap h0 nt b e st out a' r->az P ap h0 nt b e st out a r
theorem az.rounds {k:List bu} {nt:Nat} {b:Code} {α β:Type} {e:β->bI} {st:α->St} {out:β->St} {a:α} {r:β} (d:e r ≠ .normal) (h:az P ap k nt b e st out a r):(st a).md= .dead->(out r).md= .dead/\∃ n,∀ m0 S0 w0 m S w c,Fr (bK k) m0 S0 w0 (aF (st a).hp) m S w->FR ap (st a).env (st a).hp (st a).dfs nt m S w c->∀ Q,XA ap k m0 S0 w0 nt (out r) (e r) Q->Code.rounds P b Q n c w:=by
 induction h with
 |@done a r hx=>
  intro i;obtain ⟨l,o⟩:=hx i;refine ⟨l,1,λm0 S0 w0 m S w c f j Q s=>o m0 S0 w0 m S w c f j _ ?_⟩;intro u S' w' t q p;have:=s u S' w' t q p
  revert d this
  cases e r with
  |normal=>intro d _;exact absurd rfl d
  |exit id=>intro _ h;exact h
  |ret=>intro _ h;exact h
  |panic v=>intro _ h;exact h
 |next hx _ ih=>
  intro i;obtain ⟨l,o⟩:=hx i;obtain ⟨q,n,p⟩:=ih d l;refine ⟨q,n+1,λm0 S0 w0 m S w c f j Q s=>o m0 S0 w0 m S w c f j _ ?_⟩;intro u S' w' t y x;exact p m0 S0 w0 u S' w' t y x Q s
theorem az.ok {j:List bu} {nt:Nat} {b:Code} {α β:Type} {e:β->bI} {st:α->St} {out:β->St} {a:α} {r:β} (d:e r ≠ .normal) (h:az P ap j nt b e st out a r):aj P ap j nt (.loop b) (st a) (e r) (out r):=by
 intro i;obtain ⟨l,n,o⟩:=h.rounds d i;exact ⟨l,λm0 S0 w0 m S w c f k Q p=>wp_loop_rounds n (o m0 S0 w0 m S w c f k Q p)⟩
theorem az.blk {d:List bu} {n id:Nat} {b:Code} {α β:Type} {e:β->bI} {st:α->St} {out:β->St} {a:α} {r:β} {s s':St} {e':bI} (h:∀ nt,n<=nt->az P ap d nt b e st out a r) (c:e r ≠ .normal) (i:qG id (e r)=e') (hs:aN (st a) s) (j:aN s' (out r)):aK P ap d n (.block id (.loop b)) s e' s':=by
 intro nt k;have f:=((h nt k).ok c).block (id:=id);rw [i] at f;exact f.weak hs j
def qF (id:Nat):Code->Option Code
 | .seq a b=>match qF id a with|some c=>some c|none=>qF id b
 | .cond _ a b=>match qF id a with|some c=>some c|none=>qF id b
 | .block i b=>match Xqn i id with|true=>some b|false=>qF id b
 | .loop b=>qF id b
 | .scope b=>qF id b
 |_=>none
def af (id:Nat) (c:Code):Code:=match qF id c with|some (.loop b)=>b|_=> .skip
end
end AM
namespace AM
open Go
def eG (x y:List AV):Prop:=∀ g m S v,bC g m S x v->bC g m S y v
def xg:AV->Bool
 | .own _ _ _=>false
 | .tup _=>false
 |_=>true
theorem aU.refl (x:AV):aU x x:=λ_ _ _ _ h=>h
theorem eG.refl (x:List AV):eG x x:=λ_ _ _ _ h=>h
theorem eG.nil:eG [] []:=eG.refl []
theorem eG.cons {x y:AV} {l r:List AV} (h:aU x y) (b:eG l r):eG (x::l) (y::r):=by
 intro g m S v a;cases v with
 |nil=>simp [bC] at a
 |cons u vs=>simp only [bC] at a ⊢;exact ⟨h g m S u a.1,b g m S vs a.2⟩
theorem aU.nilS (nn:Bool) (h:nn=false):aU .nilS (.sl [] 0 nn):=by
 subst h;intro g m S v a;simp only [VR,PR] at a ⊢;exact ⟨none,0,a,χ _,.inl (by simp)⟩
theorem aU.sl (xs:List AV) (n:Nat) (a:Bool):aU (.sl xs n a) (.sl xs n false):=by
 intro g m S v d;simp only [VR,PR] at d ⊢;obtain ⟨a,c,e,b,q⟩:=d;refine ⟨a,c,e,b, ?_⟩;rcases q with ⟨_,f,h⟩|q
 .exact .inl ⟨λ_=>trivial,f,h⟩
 .exact .inr q
theorem aU.dead (x:AV):aU x .dead:=λ_ _ _ _ _=>by simp only [VR]
theorem aU.agg {l r:List AV} (h:eG l r):aU (.agg l) (.agg r):=by
 intro g m S v a;simp only [VR] at a ⊢;obtain ⟨vs,e,q⟩:=a;exact ⟨vs,e,h _ _ _ _ q⟩
section
variable {P:Program} {ap:AP}
theorem aH.args {f:Nat} {args args':List AV} {h b:List bu} {out:kW} (c:eG args' args) (a:aH P ap f args h out b):aH P ap f args' h out b:=
 ⟨a.len,a.ent,λm S w cargs e d=>a.calls m S w cargs e (c _ _ _ _ d)⟩
def jB (out out':kW):Prop:=(∀ n,nY n out=nY n out')/\∀ h' m' S' e,afl h' m' S' out e->afl h' m' S' out' e
theorem aH.out {f:Nat} {args:List AV} {h d:List bu} {out a:kW} (c:jB out a) (b:aH P ap f args h out d):aH P ap f args h a d:=
 ⟨b.len,b.ent,λm S w cargs j i=>(b.calls m S w cargs j i).mono λe w' ⟨m',S',hF⟩=> ⟨m',S',c.1 _ ▸ hF.srel,c.1 _ ▸ hF.fr,c.2 _ _ _ _ hF.out⟩⟩
theorem kR {x:AV} (h:xg x=true):∀ xs k e,x ≠ .own xs k e:=by intro xs k e a;subst a;cases h
theorem xh {x:AV} (h:xg x=true):∀ l,x ≠ .tup l:=by intro l a;subst a;cases h
theorem jB.ret {x y:AV} (a:xg x=true) (b:xg y=true) (h:aU x y):jB (.ret x) (.ret y):=by
 refine ⟨λn=> ?_,λi j S' e f=> ?_⟩
 .simp only [nY,jI n (kR a) (xh a),jI n (kR b) (xh b)]
 .obtain ⟨cv,d,c⟩:=f;refine ⟨cv,d, ?_⟩;rw [mf (kR a) (xh a)] at c;rw [mf (kR b) (xh b)];exact h _ _ _ _ c
inductive Ij:List AV->List AV->Prop where
 |nil:Ij [] []
 |same {x:AV} {l r:List AV}:Ij l r->Ij (x::l) (x::r)
 |fit {x y:AV} {l r:List AV}:xg x=true->xg y=true->aU x y->Ij l r->Ij (x::l) (y::r)
theorem Ij.blocks {l r:List AV} (h:Ij l r):∀ n,(gy n l).2=(gy n r).2:=by
 induction h with
 |nil=>intro n;rfl
 |@same x l r _ ih=>
  intro n;rcases jU x with ⟨xs,k,e,rfl⟩|hx
  .simp only [gy];rw [ih]
  .rw [bH n hx,bH n hx];exact ih n
 |fit hx hy _ _ ih=>
  intro n;rw [bH n (kR hx),bH n (kR hy)];exact ih n
theorem Ij.outR {gh b:dO} {m:bg} {S:aY} {l r:List AV} (h:Ij l r):∀ (n:Nat) (vs:List Value),jW gh b m S n l vs->jW gh b m S n r vs:=by
 induction h with
 |nil=>intro n vs a;exact a
 | @same x l r _ ih=>
  intro n vs a;cases vs with
  |nil=>simp [jW] at a
  |cons v vs=>
   rcases jU x with ⟨xs,k,e,rfl⟩|hx
   .simp only [jW] at a ⊢;exact ⟨a.1,ih _ _ a.2⟩
   .rw [bY hx] at a ⊢;exact ⟨a.1,ih _ _ a.2⟩
 | fit hx hy hf _ ih=>
  intro n vs a;cases vs with
  |nil=>simp [jW] at a
  |cons v vs=>
   rw [bY (kR hx)] at a;rw [bY (kR hy)];exact ⟨hf _ _ _ _ a.1,ih _ _ a.2⟩
theorem jB.tup {l r:List AV} (h:Ij l r):jB (.ret (.tup l)) (.ret (.tup r)):=by
 refine ⟨λn=> ?_,λa j S' e i=> ?_⟩
 .simp only [nY,mO];exact h.blocks n
 .obtain ⟨cv,f,b⟩:=i;refine ⟨cv,f, ?_⟩;simp only [DJ] at b ⊢;obtain ⟨vs,c,q⟩:=b;have d:(mO a.length (.tup l)).2=(mO a.length (.tup r)).2:=by simp only [mO];exact h.blocks _
  refine ⟨vs,c, ?_⟩;rw [d] at q;exact h.outR _ _ q
end
end AM
namespace AM
open Go
def thaw:AV->AV
 | .own xs n e=> .sl (xs.take (n*e)) n true
 |x=>x
def xZ:kW->kW
 | .ret (.tup l)=> .ret (.tup (l.map thaw))
 | .ret x=> .ret (thaw x)
 | .pan v=> .pan v
theorem Hm {x:AV} (h:∀ xs k e,x ≠ .own xs k e):thaw x=x:=by
 cases x<;>first|rfl|exact absurd rfl (h _ _ _)
theorem sV (x:AV):∀ xs k e,thaw x ≠ .own xs k e:=by
 intro xs k e h;cases x<;>simp [thaw] at h
theorem yM:∀ (l:List AV) (n:Nat),(gy n (l.map thaw)).2= []
 | [],_=>rfl
 |x::r,n=>by rw [Xqg,bH n (sV x)];exact yM r n
section
variable {P:Program} {ap:AP}
theorem BM {gh p g':dO} {m:bg} {S S':aY} {w:World} (j:bZ ap p m S w) {rd:dO} (d:∀ b B,rd b=some B->p b=some B) (c:S'=dR S m rd w) (hother:∀ x v,VR gh m S x v->VR g' m S' x v):
  ∀ (l:List AV) (n:Nat) (vs:List Value),(∀ i B,(gy n l).2[i]? =some B->rd (n+i)=some B)->jW gh p m S n l vs->jW g' g' m S' n (l.map thaw) vs
 | [],n,vs,_,h=>by cases vs with|nil=>trivial|cons _ _=>simp [jW] at h
 |x::r,n,[],_,h=>by
  exfalso;rcases jU x with ⟨xs,k,e,rfl⟩|f
  .simp [jW] at h
  .cases x<;>simp [jW] at h
 | x ::r,n,v::vs,hb,h=>by
  rcases jU x with ⟨xs,k,e,rfl⟩|f
  .simp only [jW] at h;simp only [gy] at hb;have s:=hb 0 _ rfl;rw [Nat.add_zero] at s;have D:frz rd 6 (.ref n 0 0 k)=some (.sl (xs.take (k*e)) k true):=by
    simp [frz,s,KX]
   have C:=mJ j d 6 _ _ _ D h.1;rw [Xqg,bY (sV _)];refine ⟨iU _ (c ▸ C), ?_⟩;have A:=BM j d c hother r (n+1) vs (λi B E=>by rw [show n+1+i=n+(i+1) by omega];exact hb (i+1) B (by simpa using E)) h.2;have key:∀ (l:List AV) (a b:Nat) (vs:List Value),(∀ x ∈ l,∀ xs k e,x ≠ .own xs k e)->jW g' g' m S' a l vs->jW g' g' m S' b l vs:=by
    intro l
    induction l with
    |nil=>intro a b vs _ h;cases vs with|nil=>trivial|cons _ _=>simp [jW] at h
    | cons y q ih=>
     intro a b vs t h;cases vs with
     |nil=>cases y<;>simp [jW] at h
     |cons u us=>
      have o:=t y (by simp);rw [bY o] at h ⊢;exact ⟨h.1,ih a b us (λx f=>t x (by simp [f])) h.2⟩
   refine key _ (n+1) n vs ?_ A;intro y o;obtain ⟨z,_,rfl⟩:=List.mem_map.1 o;exact sV z
  .rw [bY f] at h;rw [bH n f] at hb;rw [Xqg,bY (sV x),Hm f];exact ⟨hother _ _ h.1,BM j d c hother r n vs hb h.2⟩
theorem aH.thaw {f:Nat} {args:List AV} {h a:List bu} {out:kW} (hp:∀ B ∈ a,B.pr=true) (J:aH P ap f args h out a):aH P ap f args h (xZ out) a:=by
 refine ⟨J.len,J.ent,λm S w cargs Y E=>(J.calls m S w cargs Y E).mono ?_⟩
 rintro e w' ⟨m',S',hF⟩
 obtain ⟨s,j,z⟩:=hF;have u:∀ n,nY n (xZ out)= []:=by
  intro n;cases out with
  |pan v=>rfl
  | ret x=>
   rcases CE x with ⟨l,rfl⟩|ht
   .simp only [xZ,nY,mO];exact yM l n
   .have:xZ (.ret x)= .ret (AM.thaw x):=by cases x<;>first|rfl|exact absurd rfl (ht _)
    rw [this];simp only [nY];have D:∀ l,AM.thaw x ≠ .tup l:=by intro l L;cases x<;>simp [AM.thaw] at L;exact ht _ rfl
    rw [jI n (sV x) D]
 let rd:dO:=λb=>if a.length<=b then bK (a++nY a.length out) b else none
 have y:∀ b B,rd b=some B->bK (a++nY a.length out) b=some B:=by
  intro b B c;simp only [rd] at c;split at c
  .exact c
  .cases c
 have r:=oO S' m' rd w';have p:∀ b B,bK a b=some B->bK (a++nY a.length out) b=some B:=by
  intro b B c;have:b<a.length:=(List.getElem?_eq_some_iff.1 c).1;rw [fJ this];exact c
 have hother:∀ x v,VR (bK a) m' S' x v->VR (bK (a++nY a.length (xZ out))) m' (dR S' m' rd w') x v:=by
  intro x v G;rw [u,Δ];exact qy r (Ge.refl _ _) x G
 refine ⟨m',dR S' m' rd w', ?_, ?_, ?_⟩
 .rw [u,Δ];refine ⟨λb C B B' c Q=>s.inj b C B B' (p b B c) (p C B' Q), ?_,λk o v E=>qP s E, ?_, ?_⟩
  .intro b B c;obtain ⟨⟨cur,e,vs,rest,d,t,F,R,K,U⟩,hz,O⟩:=s.blk b B (p b B c);have I:=hp B (Xql c);refine ⟨⟨cur,e,vs,rest,d,t,λ_=>dE r _ (F I),cO _ (dE r _ (F I)),K,U⟩,hz,O⟩
  .intro b B c o v E;rcases gz E with d|⟨d,C,B',t,F,R⟩
   .exact s.own b B (p b B c) o v d
   .have:=s.inj b C B B' (p b B c) (y _ _ t) F.symm;subst this;have A:b<a.length:=(List.getElem?_eq_some_iff.1 c).1;simp only [rd] at t;rw [if_neg (by omega)] at t;cases t
  .intro k xs Z;obtain ⟨vs,d,t⟩:=s.glob k xs Z;exact ⟨vs,dE r _ d,t.mono r⟩
 .rw [u,Δ];refine ⟨?_,qj.trans j.sle r,j.os,j.tape,j.output,j.size,j.rest,λb B c=>j.img b B (p b B c), ?_⟩
  .intro b B c;obtain ⟨B',d,t⟩:=j.ge b B c;have A:b<a.length:=Nat.lt_of_lt_of_le (List.getElem?_eq_some_iff.1 c).1 J.len;rw [fJ A] at d;exact ⟨B',d,t⟩
  .intro k o v E;rcases gz E with d|⟨d,C,B',t,F,R⟩
   .exact j.sealN k o v d
   .rcases j.img C B' (y _ _ t) with K|⟨B0,K,_⟩
    .exact .inr (.inl (F ▸ K))
    .exfalso;have A:C<h.length:=(List.getElem?_eq_some_iff.1 K).1;simp only [rd] at t;rw [if_neg (by have:=J.len;omega)] at t;cases t
 .have M:∀ l,out= .ret (.tup l)->∀ i B,(gy a.length l).2[i]? =some B->rd (a.length+i)=some B:=by
   intro l L i B hi;subst L;simp only [rd];rw [if_pos (by omega),jD (by omega),show a.length+i - a.length=i by omega];exact hi
  cases out with
  |pan v=>
   obtain ⟨cv,N,d⟩:=z;refine ⟨cv,N, ?_⟩;have:=hother v cv d;rwa [u,Δ] at this
  | ret x=>
   obtain ⟨cv,N,d⟩:=z;rcases CE x with ⟨l,rfl⟩|ht
   .simp only [DJ] at d;obtain ⟨vs,W,q⟩:=d;refine ⟨cv,N, ?_⟩;simp only [DJ];refine ⟨vs,W, ?_⟩;have c:(mO a.length (.tup (l.map AM.thaw))).2= []:=by simp only [mO];exact yM l _
    rw [c,Δ];have:=BM (gh:=bK a) (g':=bK a) s y rfl (λx v G=>qy r (Ge.refl _ _) x G) l a.length vs (M l rfl) q;exact this
   .have X:xZ (.ret x)= .ret (AM.thaw x):=by cases x<;>first|rfl|exact absurd rfl (ht _)
    have D:∀ l,AM.thaw x ≠ .tup l:=by intro l L;cases x<;>simp [AM.thaw] at L;exact ht _ rfl
    rw [X];refine ⟨cv,N, ?_⟩;rw [mf (sV x) D];rcases jU x with ⟨xs,k,e,rfl⟩|G
    .simp only [DJ] at d;have T:rd a.length=some (KX xs e):=by
      simp only [rd];rw [if_pos (χ _),jD (χ _),Xzr];rfl
     have V:frz rd 6 (.ref a.length 0 0 k)=some (.sl (xs.take (k*e)) k true):=by
      simp [frz,T,KX]
     have:=mJ s y 6 _ _ _ V d;exact iU _ this
    .rw [mf G ht] at d;rw [Hm G];exact qy r (Ge.refl _ _) x d
end
end AM
namespace AM
open Go
structure rG (s s':St):Prop where
 env:∀ t,aU (s'.env.get t) (s.env.get t)
 hp:s.hp=s'.hp
 md:s.md=s'.md
 dfs:s.dfs=s'.dfs
theorem rG.refl (s:St):rG s s:=⟨λ_=>aU.refl _,rfl,rfl,rfl⟩
def J7:jq->(Nat->AV)->Prop
 | [],_=>True
 |(t,v)::r,f=>aU (f t) v/\J7 r f
theorem xW {f:Nat->AV}:∀ {e:jq},J7 e f->∀ t,aU (f t) (e.get t)
 | [],_,t=>aU.dead _
 | (u,v)::r,h,t=>by
  simp only [J7] at h;simp only [jq.get,aF];cases a:Xqn u t with
  |true=>
   have:=aP a;subst this;exact h.1
  |false=>exact xW h.2 t
theorem rG.of {e e':jq} {hp:Hp} {md:AV} {dfs:List (Nat × List AV)} (h:J7 e e'.get):rG {env:=e,hp,md,dfs} {env:=e',hp,md,dfs}:=⟨xW h,rfl,rfl,rfl⟩
section
variable {P:Program} {ap:AP}
theorem FR.lessF {s s':St} (h:rG s s') {nt:Nat} {m:bg} {S:aY} {w:World} {a:Act} (b:FR ap s'.env s'.hp s'.dfs nt m S w a):FR ap s.env s.hp s.dfs nt m S w a:=by
 refine ⟨h.hp ▸ b.srel,λt=> ?_, ?_,b.size⟩
 .have:=h.env t _ _ _ _ (b.env t);rw [h.hp];exact this
 .rw [h.hp,h.dfs];exact b.dfs
theorem aj.weakF {j:List bu} {nt:Nat} {b:Code} {s s' r k:St} {e:bI} (h:aj P ap j nt b s e r) (hs:rG s s') (c:rG k r):aj P ap j nt b s' e k:=by
 intro i;obtain ⟨o,p⟩:=h (hs.md ▸ i);refine ⟨c.md ▸ o,λm0 S0 w0 m S w a d l Q x=>p m0 S0 w0 m S w a (by rw [hs.hp];exact d) (l.lessF hs) Q ?_⟩;intro q S' w' n u t;have:=x q S' w' n (by rw [c.hp];exact u) (t.lessF c);cases e with
 |normal=>exact this
 |exit id=>exact this
 |ret=>exact this
 |panic v=>intro cv f;exact this cv (by rw [c.hp];exact f)
theorem az.blkF {d:List bu} {n id:Nat} {b:Code} {α β:Type} {e:β->bI} {st:α->St} {out:β->St} {a:α} {r:β} {s s':St} {e':bI} (h:∀ nt,n<=nt->az P ap d nt b e st out a r) (c:e r ≠ .normal) (i:qG id (e r)=e') (hs:rG (st a) s) (j:rG s' (out r)):aK P ap d n (.block id (.loop b)) s e' s':=by
 intro nt k;have f:=((h nt k).ok c).block (id:=id);rw [i] at f;exact f.weakF hs j
end
end AM
namespace AM
open Go
def zQ (b:Nat) (c v:Nat):Option (Nat × Nat):=match Xqn c b with|true=>none|false=>some (c,v)
inductive Fz (b:Nat) (B:bu):AV->AV->Prop
 |ren {x:AV}:Fz b B x (ren (zQ b) x)
 |ref {i n:Nat}:Fz b B (.ref b B.ver i n) (.sl ((B.cells.drop (i*B.esz)).take (n*B.esz)) n true)
 |fit {x y z:AV}:Fz b B x y->aU y z->Fz b B x z
inductive FzL (b:Nat) (B:bu):List AV->List AV->Prop
 |nil:FzL b B [] []
 |cons {x y:AV} {l r:List AV}:Fz b B x y->FzL b B l r->FzL b B (x::l) (y::r)
theorem Fz.same {b:Nat} {B:bu} {x:AV} (h:AM.ren (zQ b) x=x):Fz b B x x:=by
 have:=Fz.ren (b:=b) (B:=B) (x:=x);rwa [h] at this
theorem Fz.dead {b:Nat} {B:bu} (x:AV):Fz b B x .dead:= .fit .ren (aU.dead _)
theorem FzL.length {b:Nat} {B:bu} {l r:List AV} (h:FzL b B l r):l.length=r.length:=by
 induction h with
 |nil=>rfl
 |cons _ _ ih=>simp [ih]
structure LW (b:Nat) (B:bu) (C C':bu):Prop where
 ver:C'.ver=C.ver
 fro:C'.fro=C.fro
 fz:C'.fz=C.fz
 esz:C'.esz=C.esz
 body:(C.pr=true/\C'.cells=C.cells/\C'.pr=true)\/(FzL b B C.cells C'.cells/\(C'.pr=true->(bW C'.cells).isEmpty=true))
theorem LW.same {b:Nat} {B C:bu} (hp:C.pr=true):LW b B C C:=⟨rfl,rfl,rfl,rfl,.inl ⟨hp,rfl,hp⟩⟩
theorem LW.length {b:Nat} {B C C':bu} (h:LW b B C C'):C.cells.length=C'.cells.length:=by
 rcases h.body with ⟨_,e,_⟩|⟨e,_⟩
 .rw [e]
 .exact e.length
section
variable {P:Program} {ap:AP} {g:dO} {m:bg} {S:aY} {w:World}
def oh (b:Nat) (B:bu):dO:=λc=>match Xqn c b with|true=>some B|false=>none
theorem ut {b c:Nat} {B C:bu} (h:oh b B c=some C):c=b/\C=B:=by
 unfold oh at h;split at h
 .rename_i a;cases h;exact ⟨aP a,rfl⟩
 .cases h
theorem QA (b:Nat) (B:bu):oh b B b=some B:=by unfold oh;rw [Nat.beq_refl]
theorem Fz.sound {b:Nat} {B:bu} (o:bZ ap g m S w) (j:g b=some B) (d:B.pr=true) {g':dO} (l:uG g m g' m (zQ b)) {x y:AV} (h:Fz b B x y):∀ {v:Value},VR g m S x v->VR g' m (dR S m (oh b B) w) y v:=by
 have f:∀ c C,oh b B c=some C->g c=some C:=by
  intro c C k;obtain ⟨rfl,rfl⟩:=ut k;exact j
 induction h with
 |ren=>intro v a;exact AZ (oO S m (oh b B) w) l _ a
 | @ref i n=>
  intro v a;have e:frz (oh b B) 6 (.ref b B.ver i n)=some (.sl ((B.cells.drop (i*B.esz)).take (n*B.esz)) n true):=by
   simp [frz,QA,d]
  exact iU _ (mJ o f 6 _ _ _ e a)
 |fit _ e ih=>intro v a;exact e _ _ _ _ (ih a)
theorem FzL.sound {b:Nat} {B:bu} (e:bZ ap g m S w) (d:g b=some B) (c:B.pr=true) {g':dO} (f:uG g m g' m (zQ b)) {l r:List AV} (h:FzL b B l r):∀ {vs:List Value},bC g m S l vs->bC g' m (dR S m (oh b B) w) r vs:=by
 induction h with
 |nil=>intro vs a;cases vs with|nil=>simp [bC]|cons _ _=>simp [bC] at a
 | cons hx _ ih=>
  intro vs a;cases vs with
  |nil=>simp [bC] at a
  |cons v vs=>
   simp only [bC] at a ⊢;exact ⟨hx.sound e d c f a.1,ih a.2⟩
theorem xO:∀ {l:List AV} {vs:List Value},(bW l).isEmpty=true->bC g m S l vs->eY S l vs
 | [],[],_,_=>by simp [eY]
 |x::l,v::vs,h,hv=>by
  simp only [bW,Xkd,List.append_eq_nil_iff] at h;rw [<- Xkd,<- Xkd] at h;simp only [bC] at hv;simp only [eY];exact ⟨ou h.1 hv.1,xO h.2 hv.2⟩
 | [],_::_,_,hv=>by simp [bC] at hv
 |_::_,[],_,hv=>by simp [bC] at hv
theorem IK {g g':dO} {m e:bg} {S S':aY} {ρ:Nat->Nat->Option (Nat × Nat)} (b:qj S S') (c:uG g m g' e ρ):∀ {l:List (Nat × List AV)} {ds:List Deferred},iH g m S l ds->iH g' e S' (l.map λd=>(d.1,nZ ρ d.2)) ds
 | [],[],_=>by simp only [List.map_nil,iH]
 |d::r,cd::cr,h=>by
  simp only [iH] at h;simp only [Xqg,iH];obtain ⟨⟨a,j,f⟩,i⟩:=h;exact ⟨⟨a,j,lm b c _ f⟩,IK b c i⟩
 | [],_::_,h=>by simp [iH] at h
 |_::_,[],h=>by simp [iH] at h
theorem XU {y:List bu} {nt:Nat} {r i:St} {m0 h:bg} {S0 S':aY} {w0 w':World} {X:Act} (b:Nat) (B:bu) (hb0:y.length<=b) (I:aF r.hp b=some B) (z:B.pr=true)
  (hd:i.dfs=r.dfs.map λd=>(d.1,nZ (zQ b) d.2))
  (henv:∀ t,Fz b B (r.env.get t) (i.env.get t))
  (hdom:∀ c C',aF i.hp c=some C'->c ≠ b/\∃ C,aF r.hp c=some C/\LW b B C C')
  (hall:∀ c C,c ≠ b->aF r.hp c=some C->∃ C',aF i.hp c=some C')
  (h5:Fr (bK y) m0 S0 w0 (aF r.hp) h S' w') (h6:FR ap r.env r.hp r.dfs nt h S' w' X):
  ∃ S2,Fr (bK y) m0 S0 w0 (aF i.hp) h S2 w'/\FR ap i.env i.hp i.dfs nt h S2 w' X:=by
 have f:=h6.srel;have n:=oO S' h (oh b B) w';have hrd:∀ c C,oh b B c=some C->aF r.hp c=some C:=by
  intro c C j;obtain ⟨rfl,rfl⟩:=ut j;exact I
 have l:uG (aF r.hp) h (aF i.hp) h (zQ b):=by
  intro c ver O Z hρ C u s;unfold zQ at hρ;split at hρ
  .cases hρ
  .rename_i K;cases hρ;have x:c ≠ b:=by intro e;subst e;simp at K
   obtain ⟨C',p⟩:=hall c C x u;obtain ⟨_,C2,q,a⟩:=hdom c C' p;rw [u] at q;cases q;exact ⟨C',p,by rw [a.ver];exact s,λe=> ⟨by rw [<- a.ver];exact e,rfl,a.esz⟩⟩
 have U:bZ ap (aF i.hp) h (dR S' h (oh b B) w') w':=by
  refine ⟨?_, ?_,λk o v s=>qP f s, ?_, ?_⟩
  .intro c O C C' j N hm;obtain ⟨_,D,hD,_⟩:=hdom c C j;obtain ⟨_,D',Y,_⟩:=hdom O C' N;exact f.inj c O D D' hD Y hm
  .intro c C' j;obtain ⟨_,C,u,a⟩:=hdom c C' j;obtain ⟨⟨cur,ee,vs,rest,k1,k2,k3,k4,k5,k6⟩,hz,W⟩:=f.blk c C u;have A:(C'.pr=true->eY (dR S' h (oh b B) w') C'.cells vs)/\bC (aF i.hp) h (dR S' h (oh b B) w') C'.cells vs:=by
    rcases a.body with ⟨T,M,q3⟩|⟨T,M⟩
    .have:=dE n _ (k3 T);rw [M];exact ⟨λ_=>this,cO _ this⟩
    .have s:=T.sound f I z l k4;exact ⟨λhp=>xO (M hp) s,s⟩
   exact ⟨⟨cur,ee,vs,rest,by rw [a.esz];exact k1,k2,A.1,A.2,by rw [a.esz];exact k5,λhp=>by rw [a.esz] at hp ⊢;exact k6 hp⟩,λhp=>by rw [a.fz];exact hz (by rw [<- a.fro];exact hp),by rw [a.fz,<- a.length];exact W⟩
  .intro c C' j o v s;obtain ⟨x,C,u,a⟩:=hdom c C' j;rw [a.fro,a.fz];rcases gz s with F|⟨F,J,B',R,L,h4⟩
   .exact f.own c C u o v F
   .obtain ⟨rfl,rfl⟩:=ut R;exact absurd (f.inj c J C B' u I L.symm) x
  .intro k xs hk;obtain ⟨vs,k1,k2⟩:=f.glob k xs hk;exact ⟨vs,dE n _ k1,k2.mono n⟩
 have G:Fr (bK y) m0 S0 w0 (aF i.hp) h (dR S' h (oh b B) w') w':=by
  refine ⟨?_,qj.trans h5.sle n,h5.os,h5.tape,h5.output,h5.size,h5.rest, ?_, ?_⟩
  .intro c C j;have hlt:c<y.length:=(List.getElem?_eq_some_iff.1 j).1;obtain ⟨C1,E,e1,e2⟩:=h5.ge c C j;obtain ⟨C',p⟩:=hall c C1 (by omega) E;obtain ⟨_,C2,q,a⟩:=hdom c C' p;rw [E] at q;cases q;exact ⟨C',p,by rw [a.esz];exact e1,by rw [a.ver];exact e2⟩
  .intro c C' j;obtain ⟨_,C,u,_⟩:=hdom c C' j;exact h5.img c C u
  .intro k o v s;rcases gz s with F|⟨F,J,B',R,L,h4⟩
   .exact h5.sealN k o v F
   .obtain ⟨rfl,rfl⟩:=ut R;rcases h5.img J B' I with Q|⟨B0,Q,_⟩
    .exact .inr (.inl (L ▸ Q))
    .have:J<y.length:=(List.getElem?_eq_some_iff.1 Q).1;omega
 have V:FR ap i.env i.hp i.dfs nt h (dR S' h (oh b B) w') w' X:=by
  refine ⟨U,λt=>(henv t).sound f I z l (h6.env t), ?_,h6.size⟩;rw [hd];exact IK n l h6.dfs
 exact ⟨_,G,V⟩
theorem aj.freeze {k:List bu} {nt:Nat} {f:Code} {s r i:St} {e:bI} (b:Nat) (B:bu) (h:aj P ap k nt f s e r) (y:∀ v,e ≠ .panic v) (n:k.length<=b) (G:aF r.hp b=some B) (l:B.pr=true)
  (hmd:i.md=r.md) (hd:i.dfs=r.dfs.map λd=>(d.1,nZ (zQ b) d.2))
  (henv:∀ t,Fz b B (r.env.get t) (i.env.get t))
  (hdom:∀ c C',aF i.hp c=some C'->c ≠ b/\∃ C,aF r.hp c=some C/\LW b B C C')
  (hall:∀ c C,c ≠ b->aF r.hp c=some C->∃ C',aF i.hp c=some C'):aj P ap k nt f s e i:=by
 intro hs;obtain ⟨u,x⟩:=h hs;refine ⟨hmd ▸ u,λm0 S0 w0 m S w a p q Q D=>x m0 S0 w0 m S w a p q Q ?_⟩;intro F S' w' E A z;obtain ⟨S2,j,o⟩:=XU b B n G l hd henv hdom hall A z;have:=D F S2 w' E j o;cases e with
 |normal=>exact this
 |exit id=>exact this
 |ret=>exact this
 |panic v=>exact absurd rfl (y v)
def Xt (b:Nat) (B:bu):jq->(Nat->AV)->Prop
 | [],_=>True
 |(t,v)::r,f=>Fz b B (f t) v/\Xt b B r f
theorem vI {b:Nat} {B:bu} {f:Nat->AV}:∀ {e:jq},Xt b B e f->∀ t,Fz b B (f t) (e.get t)
 | [],_,t=>Fz.dead _
 | (u,v)::r,h,t=>by
  simp only [Xt] at h;simp only [jq.get,aF];cases a:Xqn u t with
  |true=>
   have:=aP a;subst this;exact h.1
  |false=>exact vI h.2 t
def RX (b:Nat) (B:bu):Hp->Hp->Prop
 | [],l=>l= [(b,B)]
 |(c,C)::r,(d,D)::l=>c=d/\LW b B D C/\c ≠ b/\RX b B r l
 |_::_,[]=>False
theorem Kv {b:Nat} {B:bu}:∀ {r l:Hp},RX b B r l->∀ c C',aF r c=some C'->c ≠ b/\∃ C,aF l c=some C/\LW b B C C'
 | [],l,_,c,C',hc=>by simp [aF] at hc
 | (d,D)::r,(d',D')::l,h,c,C',hc=>by
  simp only [RX] at h;obtain ⟨rfl,e,f,i⟩:=h;simp only [aF] at hc ⊢;cases a:Xqn d c with
  |true=>
   rw [a] at hc;have:=aP a;subst this;cases hc;exact ⟨f,D',rfl,e⟩
  |false=>
   rw [a] at hc;exact Kv i c C' hc
 |_::_,[],h,_,_,_=>by simp [RX] at h
theorem Ku {b:Nat} {B:bu}:∀ {r l:Hp},RX b B r l->∀ c C,c ≠ b->aF l c=some C->∃ C',aF r c=some C'
 | [],l,h,c,C,hcb,hc=>by
  simp only [RX] at h;subst h;simp only [aF] at hc;split at hc
  .rename_i a;exact absurd (aP a).symm hcb
  .cases hc
 |(d,D)::r,(d',D')::l,h,c,C,hcb,hc=>by
  simp only [RX] at h;obtain ⟨rfl,f,i,e⟩:=h;simp only [aF] at hc ⊢;cases a:Xqn d c with
  |true=>exact ⟨D,rfl⟩
  |false=>rw [a] at hc;exact Ku e c C hcb hc
 |_::_,[],h,_,_,_,_=>by simp [RX] at h
theorem FD {b:Nat} {B:bu}:∀ {r l:Hp},RX b B r l->aF l b=some B
 | [],l,h=>by
  simp only [RX] at h;subst h;simp [aF]
 |(d,D)::r,(d',D')::l,h=>by
  simp only [RX] at h;obtain ⟨rfl,f,a,c⟩:=h;simp only [aF];cases e:Xqn d b with
  |true=>exact absurd (aP e) a
  |false=>exact FD c
 |_::_,[],h=>by simp [RX] at h
theorem aj.forget {c:List bu} {nt:Nat} {a:Code} {s:St} {e:bI} (b:Nat) (B:bu) {i en':jq} {hp hp':Hp} {md:AV} (h:aj P ap c nt a s e {env:=i,hp,md,dfs:= []}) (j:∀ v,e ≠ .panic v) (f:c.length<=b) (d:B.pr=true)
  (henv:Xt b B en' (jq.get i)) (hhp:RX b B hp' hp):aj P ap c nt a s e {env:=en',hp:=hp',md,dfs:= []}:=
 h.freeze b B j f (FD hhp) d rfl rfl (vI henv) (Kv hhp) (Ku hhp)
theorem aj.forgetD {c:List bu} {nt:Nat} {a:Code} {s:St} {e:bI} (b:Nat) (B:bu) {j en':jq} {hp hp':Hp} {md:AV} {dfs:List (Nat × List AV)} (h:aj P ap c nt a s e {env:=j,hp,md,dfs}) (k:∀ v,e ≠ .panic v) (i:c.length<=b) (f:B.pr=true)
  (henv:Xt b B en' (jq.get j)) (hhp:RX b B hp' hp) (hd:dfs.map (λd=>(d.1,nZ (zQ b) d.2))=dfs):aj P ap c nt a s e {env:=en',hp:=hp',md,dfs}:=
 h.freeze b B k i (FD hhp) f rfl hd.symm (vI henv) (Kv hhp) (Ku hhp)
end
end AM
namespace AM
open Go
def Fg (P:Program) (f:TypeId->Option (List LK)):List Field->Nat->Option (List LK)
 | [],_=>some []
 | x::r,off=>match f x.type with
  |some l=>match Xqn x.offset off && Xqn (P.cellsOf x.type) l.length with
   |true=>match Fg P f r (off+l.length) with|some q=>some (l++q)|none=>none
   |false=>none
  |none=>none
def Fh (P:Program):Nat->TypeId->Option (List LK)
 |0,_=>none
 | n+1,t=>match P.underlying t with
  |some (.int k)=>some [.int k]
  |some .bool=>some [.bool]
  |some .string=>some [.str]
  |some (.struct fs)=>match Fg P (Fh P n) fs.toList 0 with
   |some l=>match Xqn (P.cellsOf t) l.length with|true=>some l|false=>none
   |none=>none
  |some (.array m e)=>match Fh P n e with
   |some l=>match Xqn (P.cellsOf e) l.length && Xqn (P.cellsOf t) (m*l.length) with|true=>some (μ m l).flatten|false=>none
   |none=>none
  |_=>none
inductive gu:List LK->List Value->Prop
 |nil:gu [] []
 |int {k:IntKind} {n:Int} {r:List LK} {l:List Value}:gu r l->gu (.int k::r) (.int k n::l)
 |bool {b:Bool} {r:List LK} {l:List Value}:gu r l->gu (.bool::r) (.bool b::l)
 |str {s:ByteArray} {r:List LK} {l:List Value}:gu r l->gu (.str::r) (.string s::l)
theorem gu.app {a b:List LK} {x y:List Value} (h:gu a x) (c:gu b y):gu (a++b) (x++y):=by
 induction h with
 |nil=>exact c
 |int _ ih=>exact .int ih
 |bool _ ih=>exact .bool ih
 |str _ ih=>exact .str ih
theorem gu.length {a:List LK} {x:List Value} (h:gu a x):a.length=x.length:=by
 induction h with
 |nil=>rfl
 |int _ ih=>simp [ih]
 |bool _ ih=>simp [ih]
 |str _ ih=>simp [ih]
def tJ:Value->AV
 | .int k n=> .int k n
 | .bool b=> .bool b
 | .string s=> .str s.data.toList
 |_=> .dead
theorem gu.pr {S:aY} {a:List LK} {x:List Value} (h:gu a x):eY S (x.map tJ) x:=by
 induction h with
 |nil=>simp [eY]
 |int _ ih=>simp only [Xqg,eY];exact ⟨by simp [tJ,PR],ih⟩
 |bool _ ih=>simp only [Xqg,eY];exact ⟨by simp [tJ,PR],ih⟩
 |@str s _ _ _ ih=>simp only [Xqg,eY];exact ⟨by simp [tJ,PR],ih⟩
theorem gu.one {a:List LK} {x:List Value} (h:gu a x):∀ u ∈ x,u.oneCell'=true:=by
 induction h with
 |nil=>intro u b;cases b
 |int _ ih=>
  intro u b;rcases List.mem_cons.1 b with rfl|b
  .rfl
  .exact ih u b
 |bool _ ih=>
  intro u b;rcases List.mem_cons.1 b with rfl|b
  .rfl
  .exact ih u b
 |str _ ih=>
  intro u b;rcases List.mem_cons.1 b with rfl|b
  .rfl
  .exact ih u b
section
variable {H:Type} {enc:TypeId × Value->H} {P:Program} {w:World} {base:Nat} {spare:Nat->Bool} {held:Bool}
theorem CY {n:Nat} {f:TypeId->Option (List LK)} (c:∀ t ks,f t=some ks->∀ (fuel:Nat) (a:List Value) (x:DataW H × List MemPlace),DataW.trod enc P w base spare held fuel t a=some x->gu ks a) {a:List Value}:∀ (r:List Field) (off:Nat) (ks:List LK),Fg P f r off=some ks->
  (∀ (i:Nat) (x:Field),r[i]? =some x->∃ y,DataW.trod enc P w base spare held n x.type ((a.drop x.offset).take (P.cellsOf x.type))=some y)->gu ks ((a.drop off).take ks.length)
 | [],off,ks,h,_=>by
  simp only [Fg] at h;cases h;simpa using gu.nil
 | x ::r,off,ks,h,hx=>by
  simp only [Fg] at h;split at h
  .rename_i l k;split at h
   .rename_i b;simp only [φ] at b;have u:=Xjk b.1;have j:=Xjk b.2;split at h
    .rename_i q p;cases h;obtain ⟨y,s⟩:=hx 0 x rfl;have d:=c _ _ k _ _ _ s;rw [u,j] at d;have e:=CY c r (off+l.length) q p (λi f o=>hx (i+1) f (by simpa using o));rw [η,Yxi,Xjw];exact d.app e
    .cases h
   .cases h
  .cases h
theorem Jb:∀ (n:Nat) (t:TypeId) (ks:List LK),Fh P n t=some ks->∀ (d:Nat) (y:List Value) (x:DataW H × List MemPlace),DataW.trod enc P w base spare held d t y=some x->gu ks y:=by
 intro n
 induction n with
 |zero=>intro t ks h;simp [Fh] at h
 | succ n ih=>
  intro t ks h d y x u;simp only [Fh] at h;split at h
  .rename_i k c;cases h;obtain ⟨m,rfl,_⟩:=DataW.trod_int c u;exact .int .nil
  .rename_i c;cases h;obtain ⟨b,rfl,_⟩:=DataW.trod_bool c u;exact .bool .nil
  .rename_i c;cases h;obtain ⟨s,rfl,_⟩:=DataW.trod_string c u;exact .str .nil
  .rename_i F c;split at h
   .rename_i l A;split at h
    .rename_i p;cases h;obtain ⟨xs,m,rfl,_,a,v,B⟩:=DataW.trod_struct c u;have e:=Xjk p;have D:=CY (n:=m) ih F.toList 0 ks A (λi f J=>by
      have r:F[i]? =some f:=by simpa using J
      have o:=B i f r;have z:i<xs.length:=by rw [v];exact (Array.getElem?_eq_some_iff.1 r).1
      rw [π z] at o;exact ⟨_,o⟩)
     rw [Xjt,<- e,<- a,Xqz] at D;exact D
    .cases h
   .cases h
  .rename_i m e c;split at h
   .rename_i l A;split at h
    .rename_i p;cases h;simp only [φ] at p;have L:=Xjk p.1;have I:=Xjk p.2;obtain ⟨xs,q,rfl,_,a,v,B⟩:=DataW.trod_array c u;have key:∀ j,j<=m->gu (μ j l).flatten ((y.drop ((m - j)*l.length)).take (j*l.length)):=by
      intro j
      induction j with
      |zero=>intro _;simpa using gu.nil
      | succ j ihj=>
       intro M;have o:=B (m - (j+1)) (by omega);rw [π (by omega)] at o;have C:=ih _ _ A _ _ _ o;rw [L] at C;have G:=ihj (by omega);rw [List.replicate_succ,Xzd,Nat.add_mul,Nat.one_mul,Nat.add_comm (j*l.length),Yxi,Xjw];have K:(m - (j+1))*l.length+l.length=(m - j)*l.length:=by
        rw [<- Xkk];congr 1;omega
       rw [K];exact C.app G
     have E:=key m (χ _);rw [Xzr,Nat.zero_mul,Xjt,<- I,<- a,Xqz] at E;exact E
    .cases h
   .cases h
  .cases h
theorem Vk {n:Nat} {t:TypeId} {ks:List LK} (b:Fh P n t=some ks) {v:Value} {d:DataW H} {p:List MemPlace} (h:DataW.Trod enc P w base spare held t v d p):gu ks v.cells.toList:=by
 obtain ⟨a,h⟩:=h;exact Jb n t ks b a _ _ h
theorem JO {v:Value} {l:List Value} (h:v.cells.toList=l) (a:l.length ≠ 1):v= .agg l.toArray:=by
 cases v with
 |agg cs=>
  have:cs.toList=l:=h;rw [<- this]
 |_=>subst h;simp [Value.cells] at a
end
end AM
namespace AM
open Go
def zx:Nat->Nat->List Bool
 |0,_=> []
 |n+1,k=>Xqn (k % 2) 1::zx n (k / 2)
def Z7:Nat->List Bool->List Bool
 |0,l=>l
 |n+1,l=>true::Z7 n l
theorem jK.n (k:Nat) {l:List Bool} (h:jK l):jK (Z7 k l):=by
 induction k with
 |zero=>exact h
 |succ k ih=>exact .t ih
theorem jK.k (k:Nat) {b:Bool} {l:List Bool} (a:b=true) (h:jK l):jK (Z7 k (b::l)):= .n k (.c a h)
theorem tf (b:Bool):b=true\/b=false:=by cases b<;>simp
theorem aA {b:Bool} (h:b=true):lit true b=true:=h
theorem aB {b:Bool} (h:b=false):lit false b=true:=by subst h;rfl
theorem dV {b:Bool} (h:b=false):lit true (!b)=true:=by subst h;rfl
theorem aX {b:Bool} (h:b=true):lit false (!b)=true:=by subst h;rfl
inductive PS (P:Program) (ap:AP):List Prop->List (kW × List bu)->y_->List xF->Prop where
 |nil:PS P ap [] [] [] []
 |c {f:Nat} {args:List AV} {h h':List bu} {out:kW} {ps:List Prop} {ans:List (kW × List bu)} {lps:y_} {hs:List xF}:aH P ap f args h out h'->PS P ap ps ans lps hs->PS P ap (aH P ap f args h out h'::ps) (ans++ [(out,h')]) lps hs
 |l {h0:List bu} {n:Nat} {code:Code} {s s':St} {e:bI} {ps:List Prop} {ans:List (kW × List bu)} {lps:y_} {hs:List xF}:aK P ap h0 n code s e s'->PS P ap ps ans lps hs->PS P ap (aK P ap h0 n code s e s'::ps) ans (lps++ [(e,s')]) hs
 |v (d:Nat) {x y:AV} {ps:List Prop} {ans:List (kW × List bu)} {lps:y_} {hs:List xF}:aU x y->PS P ap ps ans lps hs->PS P ap (aU x y::ps) ans lps (hs++ [.v d y])
 |b (d:Nat) {x y:List AV} {ps:List Prop} {ans:List (kW × List bu)} {lps:y_} {hs:List xF}:x=y->PS P ap ps ans lps hs->PS P ap ((x=y)::ps) ans lps (hs++ [.b d y])
 |u (d:Nat) {x y:List (Option bu)} {ps:List Prop} {ans:List (kW × List bu)} {lps:y_} {hs:List xF}:x=y->PS P ap ps ans lps hs->PS P ap ((x=y)::ps) ans lps (hs++ [.u d])
theorem PS.all {P:Program} {ap:AP} {ps:List Prop} {ans:List (kW × List bu)} {lps:y_} {hs:List xF} (h:PS P ap ps ans lps hs):rF ps:=by
 induction h with
 |nil=>exact .nil
 |c h _ ih=>exact .cons h ih
 |l h _ ih=>exact .cons h ih
 |v _ h _ ih=>exact .cons h ih
 |b _ h _ ih=>exact .cons h ih
 |u _ h _ ih=>exact .cons h ih
theorem ck {P:Program} {ap:AP} (g:EC P ap) {ans:List (kW × List bu)} {ps:List Prop} {f:Nat} {args:List AV} {h a:List bu} {out:kW} (hp:PS P ap ps ans [] [])
  (he:uX ap (yR P ap 3000 4) 3000 .dead f args h ⟨true,[],[],[],ans,[]⟩= .ok (out,a,.dead) ⟨true,[],[],ps,[],[]⟩):aH P ap f args h out a:=mD g hp.all he
theorem pk {P:Program} {ap:AP} (g:EC P ap) (ls:List Nat) (n k:Nat) {ans:List (kW × List bu)} {lps:y_} {hs:List xF} {bs:List Bool} {ps:List Prop} {f:Nat} {args:List AV} {h a:List bu} {out:kW}
  (hb:jK bs) (hp:PS P ap ps ans lps hs) (he:MK P ap (yR P ap 3000 4) 3000 ls f args h lps ⟨false,zx n k,[],[],ans,hs⟩= .ok (out,a,.dead) ⟨false,[],bs,ps,[],[]⟩):aH P ap f args h out a:=by
 obtain ⟨c,b⟩:=mQ g.apok g.mixed g.fnok 3000 4;exact ML g.apok g.mixed g.fnok c b he ⟨hb.mem,hp.all.mem⟩
def KC (ap:AP) (f:Nat):List Nat:=match ap.fnAt f with|some F=>F.keep|none=> []
def S_ (env:jq):R ((bI × St) × y_)->R ((bI × St) × y_)
 | .ok ((e,s),l) c=> .ok ((e,⟨env.map λq=>(q.1,s.env.get q.1),s.hp,s.md,s.dfs⟩),l) c
 |r=>r
def Qw (P:Program) (ap:AP) (h0:List bu) (f nt0:Nat) (ls:List Nat) (code:Code) (s:St) (lps:y_) (orc:List Bool) (ans:List (kW × List bu)) (hs:List xF) (env:jq):R ((bI × St) × y_):=
 match dU nt0 code with
 |true=>S_ env (nI P ap (yR P ap 3000 4) h0 (KC ap f) 3000 nt0 ls code s lps ⟨false,orc,[],[],ans,hs⟩)
 |false=> .bad 0
theorem XZ (env a:jq):∀ t,jq.get (env.map λq=>(q.1,a.get q.1)) t=a.get t\/jq.get (env.map λq=>(q.1,a.get q.1)) t= .dead:=by
 intro t
 induction env with
 |nil=>exact .inr rfl
 | cons q r ih=>
  cases b:Xqn q.1 t with
  |true=>
   left;have:=Xjk b;subst this;simp only [jq.get,Xqg,aF,b,Option.getD_some]
  | false=>
   have e:jq.get (Xvc (λq=>(q.1,a.get q.1)) (q::r)) t=jq.get (Xvc (λq=>(q.1,a.get q.1)) r) t:=by
    simp only [jq.get,Xqg,aF,b]
   rw [e];exact ih
theorem pj {P:Program} {ap:AP} (g:EC P ap) (f:Nat) (ls:List Nat) (n k:Nat) {nt b:Nat} {ans:List (kW × List bu)} {lps:y_} {hs:List xF} {bs:List Bool} {ps:List Prop} {a:Code} {s s':St} {d:List bu} {e:bI}
  (hb:jK bs) (hp:PS P ap ps ans lps hs) (hn:b<=nt) (he:Qw P ap d f b ls a s lps (zx n k) ans hs s'.env= .ok ((e,s'),[]) ⟨false,[],bs,ps,[],[]⟩):aj P ap d nt a s e s':=by
 unfold Qw at he;split at he
 .rename_i hd;generalize l:nI P ap (yR P ap 3000 4) d (KC ap f) 3000 b ls a s lps ⟨false,zx n k,[],[],ans,hs⟩=r at he;cases r with
  |ok q c=>
   obtain ⟨⟨o,i⟩,u⟩:=q;simp only [S_,R.ok.injEq,Prod.mk.injEq] at he;obtain ⟨⟨⟨rfl,h⟩,rfl⟩,rfl⟩:=he;obtain ⟨j,t⟩:=mQ g.apok g.mixed g.fnok 3000 4;have p:aj P ap d nt a s o i:=(vC g.apok g.mixed j hn a (fB hn a hd) _ _ _ _ _ l ⟨hb.mem,hp.all.mem⟩).2;refine p.weak (aN.refl _) ?_;rw [<- h];exact ⟨XZ _ _,rfl,rfl,rfl⟩
  |need=>simp [S_] at he
  |bad n=>simp [S_] at he
 .cases he
theorem aU.pp {xs c:List AV} {a:Nat} (h:ε a xs=c):aU (.pp xs a) (.pp c 0):=by
 subst h;intro g m S v e;simp only [VR,PR] at e ⊢;obtain ⟨b,o,vs,rfl,hp,hs⟩:=e;refine ⟨b,o+a,vs.drop a,rfl,rH a hp,λj u d=> ?_⟩;rw [List.getElem?_drop] at d;have:=hs (a+j) u d;rwa [<- Nat.add_assoc] at this
theorem aU.ppt {xs c e:List AV} {a:Nat} (h:ε a xs=c++e):aU (.pp xs a) (.pp c 0):=by
 intro g m S v f;have:=aU.pp h g m S v f;simp only [VR,PR] at this ⊢;obtain ⟨b,o,vs,rfl,hp,hs⟩:=this;refine ⟨b,o,vs.take c.length,rfl, ?_,λj u d=> ?_⟩
 .have:=lg c.length hp;rwa [List.take_left'] at this;rfl
 .rw [List.getElem?_take] at d;split at d
  .exact hs j u d
  .cases d
theorem aU.eq {x y:AV} (h:x=y):aU x y:=h ▸ λ_ _ _ _ a=>a
theorem aU.rd (ks:List LK) {xs b c:List AV} {a:Nat} (h:ε a xs=b++c) (d:Ol true ks (b++c)=b):aU (.agg (ww true ks xs a)) (.agg b):= .eq (by unfold ww;rw [h,d])
theorem jK.a {l r:List Bool} (h:jK l) (a:jK r):jK (l++r):=by
 induction h with
 |nil=>exact a
 |t _ ih=>exact .t ih
 |c hb _ ih=>exact .c hb ih
theorem jK.of {l:List Bool} (h:l.all id=true):jK l:=by
 induction l with
 |nil=>exact .nil
 |cons b r ih=>
  simp only [List.all_cons,id,φ] at h;exact .c h.1 (ih h.2)
theorem jR (ks:List LK) {xs b c:List AV} {a:Nat} (h:ε a xs=b++c) (d:(WO true ks (b++c)).all id=true):jK (JV true ks xs a):=by
 unfold JV;rw [h];exact .of d
inductive FzP:List AV->List AV->Prop where
 |nil:FzP [] []
 |same {x:AV} {l r:List AV}:FzP l r->FzP (x::l) (x::r)
 |nilS {l r:List AV}:FzP l r->FzP (.nilS::l) (.sl [] 0 false::r)
 |sl {xs:List AV} {n:Nat} {a:Bool} {l r:List AV}:FzP l r->FzP (.sl xs n a::l) (.sl xs n false::r)
theorem FzP.prl {S:aY} {l r:List AV} (h:FzP l r):∀ {vs:List Value},eY S l vs->eY S r vs:=by
 induction h with
 |nil=>exact λh=>h
 |same _ ih=>intro vs b;cases vs with|nil=>simp [eY] at b|cons v vs=>simp only [eY] at b ⊢;exact ⟨b.1,ih b.2⟩
 | nilS _ ih=>
  intro vs b;cases vs with
  |nil=>simp [eY] at b
  |cons v vs=>
   simp only [eY,PR] at b ⊢;exact ⟨⟨none,0,b.1,χ _,.inl (by simp)⟩,ih b.2⟩
 | @sl xs n a _ _ _ ih=>
  intro vs b;cases vs with
  |nil=>simp [eY] at b
  |cons v vs=>
   have c:=b;simp only [eY] at c ⊢;refine ⟨?_,ih c.2⟩;have d:=aU.sl xs n a (λ_=>none) (λ_=>(0,0)) S v (by simp only [VR];exact c.1);simpa only [VR] using d
theorem aU.slP {xs i:List AV} {n:Nat} {nn:Bool} (f:FzP xs i):aU (.sl xs n nn) (.sl i n nn):=by
 intro g m S v j;simp only [VR,PR] at j ⊢;obtain ⟨a,d,rfl,p,h⟩:=j;refine ⟨a,d,rfl,p, ?_⟩;rcases h with ⟨c,e,k,q⟩|⟨b,o,vs,l,c,e⟩
 .subst e;cases f;exact .inl ⟨c,rfl,k,q⟩
 .exact .inr ⟨b,o,vs,l,f.prl c,e⟩
end AM
namespace AM
open Go
variable {P:Program} {ap:AP}
theorem aj.norm {c:List bu} {nt:Nat} {b:Code} {s f:St} {e:bI} (keep:List Nat) (r:∀ v,e= .panic v->(eQ v).isEmpty=true) (h:aj P ap c nt b s e f):aj P ap c nt b s e (AM.norm c.length keep f):=by
 intro hs;obtain ⟨q,k⟩:=h hs;refine ⟨q,λm0 S0 w0 m S w a d o Q n=>k m0 S0 w0 m S w a d o Q ?_⟩;intro y S' w' p u t;obtain ⟨x,j,l⟩:=ul (keep:=keep) u t;have:=n x S' w' p j l;clear n j l k;generalize AM.norm c.length keep f=s2 at*
 cases e with
 |normal=>exact this
 |exit id=>exact this
 |ret=>exact this
 |panic v=>intro cv i;exact this cv (iU _ (ou (r v rfl) i))
def al7:bI->Bool
 | .panic v=>(eQ v).isEmpty
 |_=>true
def SS (base:Nat) (env:jq):R ((bI × St) × y_)->R ((bI × St) × y_)
 | .ok ((e,s),l) c=>match al7 e with
  |true=> .ok ((e,norm base (env.map λq=>q.1) s),l) c
  |false=> .bad 1
 |r=>r
def Qv (P:Program) (ap:AP) (h0:List bu) (f nt0:Nat) (ls:List Nat) (code:Code) (s:St) (lps:y_) (orc:List Bool) (ans:List (kW × List bu)) (hs:List xF) (env:jq):R ((bI × St) × y_):=
 match dU nt0 code with
 |true=>SS h0.length env (nI P ap (yR P ap 3000 4) h0 (KC ap f) 3000 nt0 ls code s lps ⟨false,orc,[],[],ans,hs⟩)
 |false=> .bad 0
theorem pn (g:EC P ap) (f:Nat) (ls:List Nat) (n k:Nat) {nt b:Nat} {ans:List (kW × List bu)} {lps:y_} {hs:List xF} {bs:List Bool} {ps:List Prop} {a:Code} {s s':St} {h:List bu} {e:bI}
  (hb:jK bs) (hp:PS P ap ps ans lps hs) (hn:b<=nt) (he:Qv P ap h f b ls a s lps (zx n k) ans hs s'.env= .ok ((e,s'),[]) ⟨false,[],bs,ps,[],[]⟩):aj P ap h nt a s e s':=by
 unfold Qv at he;split at he
 .rename_i hd;generalize t:nI P ap (yR P ap 3000 4) h (KC ap f) 3000 b ls a s lps ⟨false,zx n k,[],[],ans,hs⟩=r at he;cases r with
  | ok q c=>
   obtain ⟨⟨u,j⟩,y⟩:=q;simp only [SS] at he;split at he
   .rename_i d;simp only [R.ok.injEq,Prod.mk.injEq] at he;obtain ⟨⟨⟨rfl,i⟩,rfl⟩,rfl⟩:=he;obtain ⟨l,x⟩:=mQ g.apok g.mixed g.fnok 3000 4;have o:aj P ap h nt a s u j:=(vC g.apok g.mixed l hn a (fB hn a hd) _ _ _ _ _ t ⟨hb.mem,hp.all.mem⟩).2;have:=o.norm (s'.env.map λq=>q.1) (λv p=>by subst p;exact d);rwa [i] at this
   .cases he
  |need=>simp [SS] at he
  |bad n=>simp [SS] at he
 .cases he
end AM
namespace AM
open Go
variable {P:Program} {ap:AP}
def goL {α σ β:Type} (F:σ->α->σ ⊕ β) (fin:σ->β):List α->σ->β
 | [],s=>fin s
 |x::r,s=>match F s x with
  | .inl s'=>goL F fin r s'
  | .inr b=>b
theorem az.goL {α σ β:Type} {d:List bu} {nt:Nat} {b:Code} {e:β->bI} {st:Nat × σ->St} {out:β->St} (F:σ->α->σ ⊕ β) (a:σ->β) (L:List α) (Inv:List α->σ->Prop)
  (hstep:∀ p x r s,L=p++x::r->Inv p s->match F s x with
   | .inl s'=>aj P ap d nt b (st (p.length,s)) .normal (st (p.length+1,s'))/\Inv (p++ [x]) s'
   | .inr q=>aj P ap d nt b (st (p.length,s)) (e q) (out q))
  (hend:∀ s,Inv L s->aj P ap d nt b (st (L.length,s)) (e (a s)) (out (a s))):
  ∀ (r p:List α) (s:σ),L=p++r->Inv p s->az P ap d nt b e st out (p.length,s) (AM.goL F a r s):=by
 intro r
 induction r with
 |nil=>
  intro p s h f;rw [Δ] at h;subst h;exact .done (hend s f)
 | cons x r ih=>
  intro p s h f;have c:=hstep p x r s h f;simp only [AM.goL];cases j:F s x with
  |inl s'=>
   rw [j] at c;have i:=ih (p++ [x]) s' (by rw [h];simp) c.2;rw [η,List.length_singleton] at i;exact .next c.1 i
  |inr q=>
   rw [j] at c;exact .done c
end AM
namespace AM
open Go Go.WideShapes Go.ChangeShapes
theorem IQ {a:Addr} (h:a.spot=none) (n:Nat):a.add n=⟨a.block,a.off+n,none⟩:=by
 unfold Addr.add;obtain ⟨b,o,s⟩:=a;simp only at h;subst h;split
 .rename_i c;subst c;rfl
 .rfl
section
variable {H:Type} {enc:TypeId × Value->H} {P:Program} {w:World} {base:Nat} {spare:Nat->Bool} {held:Bool}
theorem L_ {S:aY} {ks:List LK}:∀ (L:List (List Value)),(∀ x ∈ L,gu ks x)->eY S (L.flatMap λx=>x.map tJ) L.flatten
 | [],_=>by simp [eY]
 |x::r,h=>by
  rw [Xxk,Xzd];exact oV (gu.pr (h x (by simp))) (L_ r λy a=>h y (by simp [a]))
theorem YN {ks:List LK}:∀ (L:List (List Value)),(∀ x ∈ L,gu ks x)->∀ u ∈ L.flatten,u.oneCell'=true:=by
 intro L h u a;obtain ⟨x,b,a⟩:=List.mem_flatten.1 a;exact gu.one (h x b) u a
theorem YP {t e:TypeId} {n base':Nat} {ks:List LK} (D:P.underlying t=some (.slice e)) (U:Fh P n e=some ks) (O:P.cellsOf e=ks.length) {v:Value} {d:DataW H} {p:List MemPlace}
  (hv:Value.okWide P w .any base' t v) (h:DataW.Trod enc P w base spare held t v d p):∃ L:List (List Value),(∀ x ∈ L,gu ks x)/\PR (mW w) (.sl (L.flatMap λx=>x.map tJ) L.length false) v:=by
 obtain ⟨J,len,i,rfl⟩:=okWide_slice D hv;obtain ⟨N,h⟩:=h;rcases DataW.trod_slice D h with ⟨f,_⟩|⟨a,y,r,elems,rest,m,_,f,_,_,W,Z,M,I,_,_⟩
 .have:J=none/\len=0/\i=0:=by simpa [Value.cells] using f
  obtain ⟨rfl,rfl,rfl⟩:=this;refine ⟨[],by simp, ?_⟩;simp only [PR];exact ⟨none,0,rfl,χ _,.inl (by simp)⟩
 .have:J=some a/\len=y/\i=r:=by simpa [Value.cells] using f
  obtain ⟨rfl,rfl,rfl⟩:=this;have hspot:a.spot=none:=by
   simp only [Value.okWide,D,Cell.okWide,Cell.ok] at hv;exact hv.2.2.2.1
  have key:∀ q,q<=len->∃ L:List (List Value),L.length=q/\(∀ x ∈ L,gu ks x)/\L.flatten.length=q*ks.length/\∀ j u,L.flatten[j]? =some u->mW w a.block (a.off+j)=some u:=by
   intro q
   induction q with
   |zero=>intro _;exact ⟨[],rfl,by simp,by simp,by simp⟩
   | succ q ih=>
    intro X;obtain ⟨L,B,l,A,C⟩:=ih (by omega);have K:=I q (by omega);rw [π (by omega)] at K;obtain ⟨G,Q,V⟩:=Option.bind_eq_some_iff.1 K;have F:=Jb n e ks U _ _ _ V;obtain ⟨_,Y,E⟩:=World.cells?_some Q;refine ⟨L++ [G],by simp [B], ?_, ?_, ?_⟩
    .intro x k;rcases List.mem_append.1 k with k|k
     .exact l x k
     .simp at k;subst k;exact F
    .rw [Xwe,η,A];have:=F.length;simp only [Xzd,Yqg,Δ];rw [<- this,Xkk]
    .intro j u c;rw [Xwe,List.getElem?_append] at c;split at c
     .exact C j u c
     .rename_i T;simp only [Xzd,Yqg,Δ] at c;have R:=(List.getElem?_eq_some_iff.1 c).1;have z:=E (j - L.flatten.length) (by omega);rw [c,IQ hspot,IQ rfl] at z;refine JI ?_ (gu.one F u (Xql c));rw [<- z,A,O];congr 2;have:q*ks.length<=j:=by rw [<- A];omega
      simp only;omega
  obtain ⟨L,B,l,A,C⟩:=key len (χ _);refine ⟨L,l, ?_⟩;simp only [PR];refine ⟨some a,i,by rw [B],by rw [B];exact W,.inr ⟨a.block,a.off,L.flatten, ?_,L_ L l,λj u c=> ⟨C j u c,YN L l u (Xql c)⟩⟩⟩;obtain ⟨b,o,s⟩:=a;simp only at hspot;subst hspot;rfl
theorem UQ {α:Type} (f:α->List AV) {L:List (List Value)} (h:∀ x ∈ L,∃ a,x.map tJ=f a):∃ l:List α,(L.flatMap λx=>x.map tJ)=l.flatMap f/\L.length=l.length:=by
 induction L with
 |nil=>exact ⟨[],rfl,rfl⟩
 |cons x r ih=>
  obtain ⟨a,e⟩:=h x (by simp);obtain ⟨l,d,b⟩:=ih λy c=>h y (by simp [c])
  exact ⟨a::l,by rw [Xxk,Xxk,e,d],by simp [b]⟩
end
end AM
namespace AM
open Go
inductive HpS (b:Nat) (B:bu):Hp->Hp->Prop
 |nil:HpS b B [] []
 |cons {c:Nat} {C D:bu} {r l:Hp}:LW b B D C->c ≠ b->HpS b B r l->HpS b B ((c,C)::r) ((c,D)::l)
inductive HpY (b:Nat) (B:bu):Hp->Hp->Prop
 |here {r l:Hp}:HpS b B r l->HpY b B r ((b,B)::l)
 |step {c:Nat} {C D:bu} {r l:Hp}:LW b B D C->c ≠ b->HpY b B r l->HpY b B ((c,C)::r) ((c,D)::l)
section
variable {P:Program} {ap:AP}
end
end AM
namespace AM
open Go
section
variable {P:Program} {ap:AP} {H:dD}
inductive Ws (P:Program) (ap:AP) (H:dD) (n:Nat) (ops:List Oper) (o:Oper) (b d:Nat) (rt:List Nat) (env:jq) (v:AV):List bu->Prop where
 |nil:Ws P ap H n ops o b d rt env v []
 | cons {B:bu} {r:List bu} {c2 c3:Cx} {t:RS}:TS ap H n ops o {env,hp:= [(b,B)],md:= .dead,dfs:= [],dec:= [],feet:= []} c2= .ok (t,none) c3->c3.Ok->t.feet= [{rt:=rt,wt:= [d],rb:= [b],wb:= []}]->t.dfs= []->t.env.get d=v->
   Ws P ap H n ops o b d rt env v r->Ws P ap H n ops o b d rt env v (B::r)
end
end AM
namespace AM
open Go Go.WideShapes Go.ChangeShapes
section
variable {H:Type} {enc:TypeId × Value->H} {P:Program} {w:World} {base:Nat} {spare:Nat->Bool} {held:Bool}
theorem Dq {t u:TypeId} {ts:List TypeId} (c:(∃ l,P.underlying t=some (.struct l))\/∃ n e,P.underlying t=some (.array n e)) (f:P.cellTypes P.depth t=some ts) {j:Array Value} {base':Nat} (h:Value.okWide P w .any base' t (.agg j)) {i:Nat} {v:Value} (r:j[i]? =some v) (p:ts[i % ts.length]? =some u):Cell.okWide P w .any base' u v:=by
 have key:Row.okWide P w .any base' t j:=by
  rcases c with ⟨l,c⟩|⟨n,e,c⟩
  .simp only [Value.okWide,c] at h;obtain ⟨k,b,d,a⟩:=h;cases b;exact a
  .simp only [Value.okWide,c] at h;obtain ⟨k,b,d,a⟩:=h;cases b;exact a
 obtain ⟨o,b,_,d⟩:=key;rw [f] at b;cases b;obtain ⟨s,a,q⟩:=d i v r;rw [p] at a;cases a;exact q
theorem Vh {u e:TypeId} (a:P.underlying u=some (.slice e)) {base':Nat} {v:Value} (h:Cell.okWide P w .any base' u v):Value.okWide P w .any base' u v:=by
 simp only [Value.okWide,a];exact h
theorem OJ {u e:TypeId} (b:P.underlying u=some (.slice e)) {base':Nat} {v:Value} (h:Value.okWide P w .any base' u v):v.cells.toList= [v]:=by
 obtain ⟨a,l,c,rfl⟩:=okWide_slice b h;rfl
end
abbrev ω (x:Int):AV:= .int .i64 x
abbrev Ω (b:Bool) (n d:List UInt8):AV:= .agg [.bool b,.str n,.str d]
theorem Yq0 {p:Prop} [Decidable p]:p->decide p=true:=decide_eq_true
theorem Yq1 {p:Prop} [Decidable p]:¬p->decide p=false:=decide_eq_false
theorem Yq2 {α:Type} [BEq α] [LawfulBEq α] {a b:α}:(a==b)=false↔a≠b:=beq_eq_false_iff_ne
end AM
