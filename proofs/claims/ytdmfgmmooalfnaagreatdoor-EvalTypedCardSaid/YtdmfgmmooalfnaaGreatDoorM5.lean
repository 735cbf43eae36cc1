/- The abstract machine over the code of the model, and the proof that it is sound. No conditions. -/
import Derived.Test.YtdmfgmmooalfnaaGreatDoorM4
import Derived.ChangeArms
import Derived.WideShapes
import Derived.Deep.Strs
set_option linter.unusedSimpArgs false
set_option linter.unusedVariables false
open Nat renaming beq→Xqn,le_refl→Δ,sub_self→Xj4,eq_of_beq_eq_true→Xjj,succ_mul→Xke
open List renaming map_cons→Xqb,append_nil→Γ,mem_of_getElem?→Xqt,isEmpty_iff→Xv8,replicate→μ,length_append→η,take_add→Xkx,drop_drop→Xjs,getElem?_eq_getElem→π,drop_zero→Xjr,take_length→Xq1,flatten_cons→Xze,map→Xw6,drop→ε,flatMap_cons→Xxu,flatten_append→Xwf,flatten_nil→Yqh
open Bool renaming and_eq_true→ο
namespace AM
open Go
structure aP (s s':St):Prop where
 env:∀ t,s.env.get t=s'.env.get t∨s.env.get t= .dead
 hp:s.hp=s'.hp
 md:s.md=s'.md
 dfs:s.dfs=s'.dfs
theorem aP.refl (s:St):aP s s:=⟨fun _=> .inl rfl,rfl,rfl,rfl⟩
def QV:iT→(Nat→AV)→Prop
 | [],_=>True
 |(t,v)::r,f=>(f t=v)∧QV r f
theorem zu {f:Nat→AV}:∀ {e:iT},QV e f→∀ t,e.get t=f t∨e.get t= .dead
 | [],_,t=> .inr rfl
 | (u,v)::r,h,t=>by
  simp only [QV] at h;simp only [iT.get,aB];cases a:Xqn u t with
  |true=>
   have:=aU a;subst this;exact .inl h.1.symm
  |false=>exact zu h.2 t
theorem aP.of {e e':iT} {hp:Hp} {md:AV} {dfs:List (Nat × List AV)} (h:QV e e'.get):aP {env:=e,hp,md,dfs} {env:=e',hp,md,dfs}:=⟨zu h,rfl,rfl,rfl⟩
section
variable {P:Program} {ap:AP} {H:dD}
theorem FR.less {s s':St} (h:aP s s') {nt:Nat} {m:bf} {S:aZ} {w:World} {a:Act} (b:FR ap s'.env s'.hp s'.dfs nt m S w a):FR ap s.env s.hp s.dfs nt m S w a:=by
 refine ⟨h.hp ▸ b.srel,fun t=> ?_, ?_,b.size⟩
 ·rcases h.env t with e|e
  ·rw [e,h.hp];exact b.env t
  ·rw [e];simp [VR]
 ·rw [h.hp,h.dfs];exact b.dfs
theorem au.weak {j:List bg} {nt:Nat} {b:Code} {s s' r k:St} {e:bM} (h:au P ap j nt b s e r) (hs:aP s s') (c:aP k r):au P ap j nt b s' e k:=by
 intro d;obtain ⟨p,x⟩:=h (hs.md ▸ d);refine ⟨c.md ▸ p,fun m0 S0 w0 m S w a i n Q t=>x m0 S0 w0 m S w a (by rw [hs.hp];exact i) (n.less hs) Q ?_⟩;intro u S' w' q l o;have:=t u S' w' q (by rw [c.hp];exact l) (o.less c);cases e with
 |normal=>exact this
 |exit id=>exact this
 |ret=>exact this
 |panic v=>intro cv f;exact this cv (by rw [c.hp];exact f)
inductive aC (P:Program) (ap:AP) (h0:List bg) (nt:Nat) (b:Code) {α β:Type} (e:β→bM) (st:α→St) (out:β→St):α→β→Prop where
 |done {a:α} {r:β}:au P ap h0 nt b (st a) (e r) (out r)→aC P ap h0 nt b e st out a r
 |next {a a':α} {r:β}:au P ap h0 nt b (st a) .normal (st a')→aC P ap h0 nt b e st out a' r→aC P ap h0 nt b e st out a r
theorem aC.rounds {o:List bg} {nt:Nat} {b:Code} {α β:Type} {e:β→bM} {st:α→St} {out:β→St} {a:α} {r:β} (d:e r ≠ .normal) (h:aC P ap o nt b e st out a r):(st a).md= .dead→(out r).md= .dead∧∃ n,∀ m0 S0 w0 m S w c,Fr (bP o) m0 S0 w0 (aB (st a).hp) m S w→FR ap (st a).env (st a).hp (st a).dfs nt m S w c→∀ Q,XA ap o m0 S0 w0 nt (out r) (e r) Q→Code.rounds P b Q n c w:=by
 induction h with
 |@done a r hx=>
  intro f;obtain ⟨l,u⟩:=hx f;refine ⟨l,1,fun m0 S0 w0 m S w c i p Q s=>u m0 S0 w0 m S w c i p _ ?_⟩;intro t S' w' q j k;have:=s t S' w' q j k
  revert d this
  cases e r with
  |normal=>intro d _;exact absurd rfl d
  |exit id=>intro _ h;exact h
  |ret=>intro _ h;exact h
  |panic v=>intro _ h;exact h
 |next hx _ ih=>
  intro f;obtain ⟨l,u⟩:=hx f;obtain ⟨j,n,k⟩:=ih d l;refine ⟨j,n+1,fun m0 S0 w0 m S w c i p Q s=>u m0 S0 w0 m S w c i p _ ?_⟩;intro t S' w' q x y;exact k m0 S0 w0 t S' w' q x y Q s
theorem aC.ok {j:List bg} {nt:Nat} {b:Code} {α β:Type} {e:β→bM} {st:α→St} {out:β→St} {a:α} {r:β} (i:e r ≠ .normal) (h:aC P ap j nt b e st out a r):au P ap j nt (.loop b) (st a) (e r) (out r):=by
 intro d;obtain ⟨l,n,p⟩:=h.rounds i d;exact ⟨l,fun m0 S0 w0 m S w c f k Q o=>wp_loop_rounds n (p m0 S0 w0 m S w c f k Q o)⟩
theorem aC.blk {d:List bg} {n id:Nat} {b:Code} {α β:Type} {e:β→bM} {st:α→St} {out:β→St} {a:α} {r:β} {s s':St} {e':bM} (h:∀ nt,n≤nt→aC P ap d nt b e st out a r) (c:e r ≠ .normal) (i:qw id (e r)=e') (hs:aP (st a) s) (k:aP s' (out r)):aN P ap d n (.block id (.loop b)) s e' s':=by
 intro nt j;have f:=((h nt j).ok c).block (id:=id);rw [i] at f;exact f.weak hs k
def qp (id:Nat):Code→Option Code
 | .seq a b=>match qp id a with|some c=>some c|none=>qp id b
 | .cond _ a b=>match qp id a with|some c=>some c|none=>qp id b
 | .block i b=>match Xqn i id with|true=>some b|false=>qp id b
 | .loop b=>qp id b
 | .scope b=>qp id b
 |_=>none
def af (id:Nat) (c:Code):Code:=match qp id c with|some (.loop b)=>b|_=> .skip
def qV (id:Nat):Code→Code
 | .seq a b=>match qV id a with| .region i o d=> .region i o d|_=>qV id b
 | .cond _ a b=>match qV id a with| .region i o d=> .region i o d|_=>qV id b
 | .block _ b=>qV id b
 | .loop b=>qV id b
 | .scope b=>qV id b
 | .region i o d=>match Xqn i id with|true=> .region i o d|false=> .skip
 |_=> .skip
end
end AM
namespace AM
open Go
def bD (x y:List AV):Prop:=∀ g m S v,bF g m S x v→bF g m S y v
def wO:AV→Bool
 | .own _ _ _=>false
 | .tup _=>false
 |_=>true
theorem aQ.refl (x:AV):aQ x x:=fun _ _ _ _ h=>h
theorem bD.refl (x:List AV):bD x x:=fun _ _ _ _ h=>h
theorem bD.nil:bD [] []:=bD.refl []
theorem bD.cons {x y:AV} {l r:List AV} (h:aQ x y) (b:bD l r):bD (x::l) (y::r):=by
 intro g m S v a;cases v with
 |nil=>simp [bF] at a
 |cons u vs=>simp only [bF] at a ⊢;exact ⟨h g m S u a.1,b g m S vs a.2⟩
theorem aQ.nilS (nn:Bool) (h:nn=false):aQ .nilS (.sl [] 0 nn):=by
 subst h;intro g m S v a;simp only [VR,PR] at a ⊢;exact ⟨none,0,a,Δ _,.inl (by simp)⟩
theorem aQ.sl (xs:List AV) (n:Nat) (a:Bool):aQ (.sl xs n a) (.sl xs n false):=by
 intro g m S v d;simp only [VR,PR] at d ⊢;obtain ⟨a,c,e,b,q⟩:=d;refine ⟨a,c,e,b, ?_⟩;rcases q with ⟨h,_,f⟩|q
 ·exact .inl (by simp [h,f])
 ·exact .inr q
theorem aQ.dead (x:AV):aQ x .dead:=fun _ _ _ _ _=>by simp only [VR]
theorem aQ.agg {l r:List AV} (h:bD l r):aQ (.agg l) (.agg r):=by
 intro g m S v a;simp only [VR] at a ⊢;obtain ⟨vs,e,q⟩:=a;exact ⟨vs,e,h _ _ _ _ q⟩
section
variable {P:Program} {ap:AP}
theorem aG.args {f:Nat} {args args':List AV} {h b:List bg} {out:kG} (c:bD args' args) (a:aG P ap f args h out b):aG P ap f args' h out b:=
 ⟨a.len,a.ent,fun m S w cargs d e=>a.calls m S w cargs d (c _ _ _ _ e)⟩
def jG (out out':kG):Prop:=(∀ n,nH n out=nH n out')∧∀ h' m' S' e,aeq h' m' S' out e→aeq h' m' S' out' e
theorem aG.out {f:Nat} {args:List AV} {h d:List bg} {out a:kG} (c:jG out a) (b:aG P ap f args h out d):aG P ap f args h a d:=
 ⟨b.len,b.ent,fun m S w cargs i j=>(b.calls m S w cargs i j).mono fun e w' ⟨m',S',hF⟩=> ⟨m',S',c.1 _ ▸ hF.srel,c.1 _ ▸ hF.fr,c.2 _ _ _ _ hF.out⟩⟩
theorem kD {x:AV} (h:wO x=true):∀ xs k e,x ≠ .own xs k e:=by intro xs k e a;subst a;cases h
theorem wP {x:AV} (h:wO x=true):∀ l,x ≠ .tup l:=by intro l a;subst a;cases h
theorem jG.ret {x y:AV} (a:wO x=true) (b:wO y=true) (h:aQ x y):jG (.ret x) (.ret y):=by
 refine ⟨fun n=> ?_,fun i j S' e d=> ?_⟩
 ·simp only [nH,jq n (kD a) (wP a),jq n (kD b) (wP b)]
 ·obtain ⟨cv,f,c⟩:=d;refine ⟨cv,f, ?_⟩;rw [lM (kD a) (wP a)] at c;rw [lM (kD b) (wP b)];exact h _ _ _ _ c
inductive Ha:List AV→List AV→Prop where
 |nil:Ha [] []
 |same {x:AV} {l r:List AV}:Ha l r→Ha (x::l) (x::r)
 |fit {x y:AV} {l r:List AV}:wO x=true→wO y=true→aQ x y→Ha l r→Ha (x::l) (y::r)
theorem Ha.blocks {l r:List AV} (h:Ha l r):∀ n,(fU n l).2=(fU n r).2:=by
 induction h with
 |nil=>intro n;rfl
 |@same x l r _ ih=>
  intro n;rcases jF x with ⟨xs,k,e,rfl⟩|hx
  ·simp only [fU];rw [ih]
  ·rw [bI n hx,bI n hx];exact ih n
 |fit hx hy _ _ ih=>
  intro n;rw [bI n (kD hx),bI n (kD hy)];exact ih n
theorem Ha.outR {gh b:dJ} {m:bf} {S:aZ} {l r:List AV} (h:Ha l r):∀ (n:Nat) (vs:List Value),jH gh b m S n l vs→jH gh b m S n r vs:=by
 induction h with
 |nil=>intro n vs a;exact a
 | @same x l r _ ih=>
  intro n vs a;cases vs with
  |nil=>simp [jH] at a
  |cons v vs=>
   rcases jF x with ⟨xs,k,e,rfl⟩|hx
   ·simp only [jH] at a ⊢;exact ⟨a.1,ih _ _ a.2⟩
   ·rw [bW hx] at a ⊢;exact ⟨a.1,ih _ _ a.2⟩
 | fit hx hy hf _ ih=>
  intro n vs a;cases vs with
  |nil=>simp [jH] at a
  |cons v vs=>
   rw [bW (kD hx)] at a;rw [bW (kD hy)];exact ⟨hf _ _ _ _ a.1,ih _ _ a.2⟩
theorem jG.tup {l r:List AV} (h:Ha l r):jG (.ret (.tup l)) (.ret (.tup r)):=by
 refine ⟨fun n=> ?_,fun a j S' e d=> ?_⟩
 ·simp only [nH,lW];exact h.blocks n
 ·obtain ⟨cv,i,b⟩:=d;refine ⟨cv,i, ?_⟩;simp only [Dh] at b ⊢;obtain ⟨vs,f,q⟩:=b;have c:(lW a.length (.tup l)).2=(lW a.length (.tup r)).2:=by simp only [lW];exact h.blocks _
  refine ⟨vs,f, ?_⟩;rw [c] at q;exact h.outR _ _ q
end
end AM
namespace AM
open Go
def thaw:AV→AV
 | .own xs n e=> .sl (xs.take (n*e)) n true
 |x=>x
def xE:kG→kG
 | .ret (.tup l)=> .ret (.tup (l.map thaw))
 | .ret x=> .ret (thaw x)
 | .pan v=> .pan v
theorem Gy {x:AV} (h:∀ xs k e,x ≠ .own xs k e):thaw x=x:=by
 cases x<;>first|rfl|exact absurd rfl (h _ _ _)
theorem sO (x:AV):∀ xs k e,thaw x ≠ .own xs k e:=by
 intro xs k e h;cases x<;>simp [thaw] at h
theorem yt:∀ (l:List AV) (n:Nat),(fU n (l.map thaw)).2= []
 | [],_=>rfl
 |x::r,n=>by rw [Xqb,bI n (sO x)];exact yt r n
section
variable {P:Program} {ap:AP}
theorem Bv {gh o g':dJ} {m:bf} {S S':aZ} {w:World} (j:bY ap o m S w) {rd:dJ} (c:∀ b B,rd b=some B→o b=some B) (d:S'=dL S m rd w) (hother:∀ x v,VR gh m S x v→VR g' m S' x v):
  ∀ (l:List AV) (n:Nat) (vs:List Value),(∀ i B,(fU n l).2[i]? =some B→rd (n+i)=some B)→jH gh o m S n l vs→jH g' g' m S' n (l.map thaw) vs
 | [],n,vs,_,h=>by cases vs with|nil=>trivial|cons _ _=>simp [jH] at h
 |x::r,n,[],_,h=>by
  exfalso;rcases jF x with ⟨xs,k,e,rfl⟩|f
  ·simp [jH] at h
  ·cases x<;>simp [jH] at h
 | x ::r,n,v::vs,hb,h=>by
  rcases jF x with ⟨xs,k,e,rfl⟩|f
  ·simp only [jH] at h;simp only [fU] at hb;have s:=hb 0 _ rfl;rw [Nat.add_zero] at s;have A:frz rd 6 (.ref n 0 0 k)=some (.sl (xs.take (k*e)) k true):=by
    simp [frz,s,JZ]
   have E:=lU j c 6 _ _ _ A h.1;rw [Xqb,bW (sO _)];refine ⟨iG _ (d ▸ E), ?_⟩;have C:=Bv j c d hother r (n+1) vs (fun i B D=>by rw [show n+1+i=n+(i+1) by omega];exact hb (i+1) B (by simpa using D)) h.2;have key:∀ (l:List AV) (a b:Nat) (vs:List Value),(∀ x ∈ l,∀ xs k e,x ≠ .own xs k e)→jH g' g' m S' a l vs→jH g' g' m S' b l vs:=by
    intro l
    induction l with
    |nil=>intro a b vs _ h;cases vs with|nil=>trivial|cons _ _=>simp [jH] at h
    | cons y q ih=>
     intro a b vs t h;cases vs with
     |nil=>cases y<;>simp [jH] at h
     |cons u us=>
      have p:=t y (by simp);rw [bW p] at h ⊢;exact ⟨h.1,ih a b us (fun x f=>t x (by simp [f])) h.2⟩
   refine key _ (n+1) n vs ?_ C;intro y p;obtain ⟨z,_,rfl⟩:=List.mem_map.1 p;exact sO z
  ·rw [bW f] at h;rw [bI n f] at hb;rw [Xqb,bW (sO x),Gy f];exact ⟨hother _ _ h.1,Bv j c d hother r n vs hb h.2⟩
theorem aG.thaw {f:Nat} {args:List AV} {h a:List bg} {out:kG} (hp:∀ B ∈ a,B.pr=true) (I:aG P ap f args h out a):aG P ap f args h (xE out) a:=by
 refine ⟨I.len,I.ent,fun m S w cargs T C=>(I.calls m S w cargs T C).mono ?_⟩
 rintro e w' ⟨m',S',hF⟩
 obtain ⟨r,j,z⟩:=hF;have y:∀ n,nH n (xE out)= []:=by
  intro n;cases out with
  |pan v=>rfl
  | ret x=>
   rcases BN x with ⟨l,rfl⟩|ht
   ·simp only [xE,nH,lW];exact yt l n
   ·have:xE (.ret x)= .ret (AM.thaw x):=by cases x<;>first|rfl|exact absurd rfl (ht _)
    rw [this];simp only [nH];have E:∀ l,AM.thaw x ≠ .tup l:=by intro l K;cases x<;>simp [AM.thaw] at K;exact ht _ rfl
    rw [jq n (sO x) E]
 let rd:dJ:=fun b=>if a.length≤b then bP (a++nH a.length out) b else none
 have u:∀ b B,rd b=some B→bP (a++nH a.length out) b=some B:=by
  intro b B c;simp only [rd] at c;split at c
  ·exact c
  ·cases c
 have s:=oG S' m' rd w';have p:∀ b B,bP a b=some B→bP (a++nH a.length out) b=some B:=by
  intro b B c;have:b<a.length:=(List.getElem?_eq_some_iff.1 c).1;rw [fG this];exact c
 have hother:∀ x v,VR (bP a) m' S' x v→VR (bP (a++nH a.length (xE out))) m' (dL S' m' rd w') x v:=by
  intro x v G;rw [y,Γ];exact qj s (Ge.refl _ _) x G
 refine ⟨m',dL S' m' rd w', ?_, ?_, ?_⟩
 ·rw [y,Γ];refine ⟨fun b A B B' c Q=>r.inj b A B B' (p b B c) (p A B' Q), ?_,fun k o v C=>qG r C, ?_, ?_⟩
  ·intro b B c;obtain ⟨⟨cur,e,vs,rest,d,t,F,R,J,W⟩,U,O⟩:=r.blk b B (p b B c);have L:=hp B (Xqt c);refine ⟨⟨cur,e,vs,rest,d,t,fun _=>dE s _ (F L),b_ _ (dE s _ (F L)),J,W⟩,U,O⟩
  ·intro b B c o v C;rcases fV C with d|⟨d,A,B',t,F,R⟩
   ·exact r.own b B (p b B c) o v d
   ·have:=r.inj b A B B' (p b B c) (u _ _ t) F.symm;subst this;have D:b<a.length:=(List.getElem?_eq_some_iff.1 c).1;simp only [rd] at t;rw [if_neg (by omega)] at t;cases t
  ·intro k xs Z;obtain ⟨vs,d,t⟩:=r.glob k xs Z;exact ⟨vs,dE s _ d,t.mono s⟩
 ·rw [y,Γ];refine ⟨?_,pY.trans j.sle s,j.os,j.tape,j.output,j.size,j.rest,fun b B c=>j.img b B (p b B c), ?_⟩
  ·intro b B c;obtain ⟨B',d,t⟩:=j.ge b B c;have D:b<a.length:=Nat.lt_of_lt_of_le (List.getElem?_eq_some_iff.1 c).1 I.len;rw [fG D] at d;exact ⟨B',d,t⟩
  ·intro k o v C;rcases fV C with d|⟨d,A,B',t,F,R⟩
   ·exact j.sealN k o v d
   ·rcases j.img A B' (u _ _ t) with J|⟨B0,J,_⟩
    ·exact .inr (.inl (F ▸ J))
    ·exfalso;have D:A<h.length:=(List.getElem?_eq_some_iff.1 J).1;simp only [rd] at t;rw [if_neg (by have:=I.len;omega)] at t;cases t
 ·have M:∀ l,out= .ret (.tup l)→∀ i B,(fU a.length l).2[i]? =some B→rd (a.length+i)=some B:=by
   intro l K i B Y;subst K;simp only [rd];rw [if_pos (by omega),jg (by omega),show a.length+i - a.length=i by omega];exact Y
  cases out with
  |pan v=>
   obtain ⟨cv,N,d⟩:=z;refine ⟨cv,N, ?_⟩;have:=hother v cv d;rwa [y,Γ] at this
  | ret x=>
   obtain ⟨cv,N,d⟩:=z;rcases BN x with ⟨l,rfl⟩|ht
   ·simp only [Dh] at d;obtain ⟨vs,e2,q⟩:=d;refine ⟨cv,N, ?_⟩;simp only [Dh];refine ⟨vs,e2, ?_⟩;have c:(lW a.length (.tup (l.map AM.thaw))).2= []:=by simp only [lW];exact yt l _
    rw [c,Γ];have:=Bv (gh:=bP a) (g':=bP a) r u rfl (fun x v G=>qj s (Ge.refl _ _) x G) l a.length vs (M l rfl) q;exact this
   ·have e3:xE (.ret x)= .ret (AM.thaw x):=by cases x<;>first|rfl|exact absurd rfl (ht _)
    have E:∀ l,AM.thaw x ≠ .tup l:=by intro l K;cases x<;>simp [AM.thaw] at K;exact ht _ rfl
    rw [e3];refine ⟨cv,N, ?_⟩;rw [lM (sO x) E];rcases jF x with ⟨xs,k,e,rfl⟩|G
    ·simp only [Dh] at d;have X:rd a.length=some (JZ xs e):=by
      simp only [rd];rw [if_pos (Δ _),jg (Δ _),Xj4];rfl
     have V:frz rd 6 (.ref a.length 0 0 k)=some (.sl (xs.take (k*e)) k true):=by
      simp [frz,X,JZ]
     have:=lU r u 6 _ _ _ V d;exact iG _ this
    ·rw [lM G ht] at d;rw [Gy G];exact qj s (Ge.refl _ _) x d
end
end AM
namespace AM
open Go
structure rf (s s':St):Prop where
 env:∀ t,aQ (s'.env.get t) (s.env.get t)
 hp:s.hp=s'.hp
 md:s.md=s'.md
 dfs:s.dfs=s'.dfs
theorem rf.refl (s:St):rf s s:=⟨fun _=>aQ.refl _,rfl,rfl,rfl⟩
def Js:iT→(Nat→AV)→Prop
 | [],_=>True
 |(t,v)::r,f=>aQ (f t) v∧Js r f
theorem xy {f:Nat→AV}:∀ {e:iT},Js e f→∀ t,aQ (f t) (e.get t)
 | [],_,t=>aQ.dead _
 | (u,v)::r,h,t=>by
  simp only [Js] at h;simp only [iT.get,aB];cases a:Xqn u t with
  |true=>
   have:=aU a;subst this;exact h.1
  |false=>exact xy h.2 t
theorem rf.of {e e':iT} {hp:Hp} {md:AV} {dfs:List (Nat × List AV)} (h:Js e e'.get):rf {env:=e,hp,md,dfs} {env:=e',hp,md,dfs}:=⟨xy h,rfl,rfl,rfl⟩
section
variable {P:Program} {ap:AP}
theorem FR.lessF {s s':St} (h:rf s s') {nt:Nat} {m:bf} {S:aZ} {w:World} {a:Act} (b:FR ap s'.env s'.hp s'.dfs nt m S w a):FR ap s.env s.hp s.dfs nt m S w a:=by
 refine ⟨h.hp ▸ b.srel,fun t=> ?_, ?_,b.size⟩
 ·have:=h.env t _ _ _ _ (b.env t);rw [h.hp];exact this
 ·rw [h.hp,h.dfs];exact b.dfs
theorem au.weakF {j:List bg} {nt:Nat} {b:Code} {s s' r k:St} {e:bM} (h:au P ap j nt b s e r) (hs:rf s s') (c:rf k r):au P ap j nt b s' e k:=by
 intro d;obtain ⟨p,x⟩:=h (hs.md ▸ d);refine ⟨c.md ▸ p,fun m0 S0 w0 m S w a i n Q t=>x m0 S0 w0 m S w a (by rw [hs.hp];exact i) (n.lessF hs) Q ?_⟩;intro u S' w' q l o;have:=t u S' w' q (by rw [c.hp];exact l) (o.lessF c);cases e with
 |normal=>exact this
 |exit id=>exact this
 |ret=>exact this
 |panic v=>intro cv f;exact this cv (by rw [c.hp];exact f)
theorem aC.blkF {d:List bg} {n id:Nat} {b:Code} {α β:Type} {e:β→bM} {st:α→St} {out:β→St} {a:α} {r:β} {s s':St} {e':bM} (h:∀ nt,n≤nt→aC P ap d nt b e st out a r) (c:e r ≠ .normal) (i:qw id (e r)=e') (hs:rf (st a) s) (k:rf s' (out r)):aN P ap d n (.block id (.loop b)) s e' s':=by
 intro nt j;have f:=((h nt j).ok c).block (id:=id);rw [i] at f;exact f.weakF hs k
end
end AM
namespace AM
open Go
def y_ (b:Nat) (c v:Nat):Option (Nat × Nat):=match Xqn c b with|true=>none|false=>some (c,v)
inductive Fz (b:Nat) (B:bg):AV→AV→Prop
 |ren {x:AV}:Fz b B x (ren (y_ b) x)
 |ref {i n:Nat}:Fz b B (.ref b B.ver i n) (.sl ((B.cells.drop (i*B.esz)).take (n*B.esz)) n true)
 |fit {x y z:AV}:Fz b B x y→aQ y z→Fz b B x z
inductive FzL (b:Nat) (B:bg):List AV→List AV→Prop
 |nil:FzL b B [] []
 |cons {x y:AV} {l r:List AV}:Fz b B x y→FzL b B l r→FzL b B (x::l) (y::r)
theorem Fz.same {b:Nat} {B:bg} {x:AV} (h:AM.ren (y_ b) x=x):Fz b B x x:=by
 have:=Fz.ren (b:=b) (B:=B) (x:=x);rwa [h] at this
theorem Fz.dead {b:Nat} {B:bg} (x:AV):Fz b B x .dead:= .fit .ren (aQ.dead _)
theorem FzL.length {b:Nat} {B:bg} {l r:List AV} (h:FzL b B l r):l.length=r.length:=by
 induction h with
 |nil=>rfl
 |cons _ _ ih=>simp [ih]
structure Oh (b:Nat) (B:bg) (C C':bg):Prop where
 ver:C'.ver=C.ver
 fro:C'.fro=C.fro
 fz:C'.fz=C.fz
 esz:C'.esz=C.esz
 body:(C.pr=true∧C'.cells=C.cells∧C'.pr=true)∨(FzL b B C.cells C'.cells∧(C'.pr=true→(bV C'.cells).isEmpty=true))
theorem Oh.same {b:Nat} {B C:bg} (hp:C.pr=true):Oh b B C C:=⟨rfl,rfl,rfl,rfl,.inl ⟨hp,rfl,hp⟩⟩
theorem Oh.length {b:Nat} {B C C':bg} (h:Oh b B C C'):C.cells.length=C'.cells.length:=by
 rcases h.body with ⟨_,e,_⟩|⟨e,_⟩
 ·rw [e]
 ·exact e.length
section
variable {P:Program} {ap:AP} {g:dJ} {m:bf} {S:aZ} {w:World}
def nO (b:Nat) (B:bg):dJ:=fun c=>match Xqn c b with|true=>some B|false=>none
theorem uq {b c:Nat} {B C:bg} (h:nO b B c=some C):c=b∧C=B:=by
 unfold nO at h;split at h
 ·rename_i a;cases h;exact ⟨aU a,rfl⟩
 ·cases h
theorem PU (b:Nat) (B:bg):nO b B b=some B:=by unfold nO;rw [Nat.beq_refl]
theorem Fz.sound {b:Nat} {B:bg} (j:bY ap g m S w) (o:g b=some B) (f:B.pr=true) {g':dJ} (l:uH g m g' m (y_ b)) {x y:AV} (h:Fz b B x y):∀ {v:Value},VR g m S x v→VR g' m (dL S m (nO b B) w) y v:=by
 have d:∀ c C,nO b B c=some C→g c=some C:=by
  intro c C k;obtain ⟨rfl,rfl⟩:=uq k;exact o
 induction h with
 |ren=>intro v a;exact Au (oG S m (nO b B) w) l _ a
 | @ref i n=>
  intro v a;have e:frz (nO b B) 6 (.ref b B.ver i n)=some (.sl ((B.cells.drop (i*B.esz)).take (n*B.esz)) n true):=by
   simp [frz,PU,f]
  exact iG _ (lU j d 6 _ _ _ e a)
 |fit _ e ih=>intro v a;exact e _ _ _ _ (ih a)
theorem FzL.sound {b:Nat} {B:bg} (d:bY ap g m S w) (f:g b=some B) (c:B.pr=true) {g':dJ} (e:uH g m g' m (y_ b)) {l r:List AV} (h:FzL b B l r):∀ {vs:List Value},bF g m S l vs→bF g' m (dL S m (nO b B) w) r vs:=by
 induction h with
 |nil=>intro vs a;cases vs with|nil=>simp [bF]|cons _ _=>simp [bF] at a
 | cons hx _ ih=>
  intro vs a;cases vs with
  |nil=>simp [bF] at a
  |cons v vs=>
   simp only [bF] at a ⊢;exact ⟨hx.sound d f c e a.1,ih a.2⟩
theorem xn:∀ {l:List AV} {vs:List Value},(bV l).isEmpty=true→bF g m S l vs→eG S l vs
 | [],[],_,_=>by simp [eG]
 |x::l,v::vs,h,hv=>by
  simp only [bV,Xv8,List.append_eq_nil_iff] at h;rw [← Xv8,← Xv8] at h;simp only [bF] at hv;simp only [eG];exact ⟨nS h.1 hv.1,xn h.2 hv.2⟩
 | [],_::_,_,hv=>by simp [bF] at hv
 |_::_,[],_,hv=>by simp [bF] at hv
theorem H7 {g g':dJ} {m e:bf} {S S':aZ} {ρ:Nat→Nat→Option (Nat × Nat)} (b:pY S S') (c:uH g m g' e ρ):∀ {l:List (Nat × List AV)} {ds:List Deferred},iy g m S l ds→iy g' e S' (l.map fun d=>(d.1,nI ρ d.2)) ds
 | [],[],_=>by simp only [List.map_nil,iy]
 |d::r,cd::cr,h=>by
  simp only [iy] at h;simp only [Xqb,iy];obtain ⟨⟨a,j,i⟩,f⟩:=h;exact ⟨⟨a,j,kQ b c _ i⟩,H7 b c f⟩
 | [],_::_,h=>by simp [iy] at h
 |_::_,[],h=>by simp [iy] at h
theorem XJ {y:List bg} {nt:Nat} {r i:St} {m0 h:bf} {S0 S':aZ} {w0 w':World} {W:Act} (b:Nat) (B:bg) (hb0:y.length≤b) (G:aB r.hp b=some B) (I:B.pr=true)
  (hd:i.dfs=r.dfs.map fun d=>(d.1,nI (y_ b) d.2))
  (henv:∀ t,Fz b B (r.env.get t) (i.env.get t))
  (hdom:∀ c C',aB i.hp c=some C'→c ≠ b∧∃ C,aB r.hp c=some C∧Oh b B C C')
  (hall:∀ c C,c ≠ b→aB r.hp c=some C→∃ C',aB i.hp c=some C')
  (h5:Fr (bP y) m0 S0 w0 (aB r.hp) h S' w') (h6:FR ap r.env r.hp r.dfs nt h S' w' W):
  ∃ S2,Fr (bP y) m0 S0 w0 (aB i.hp) h S2 w'∧FR ap i.env i.hp i.dfs nt h S2 w' W:=by
 have f:=h6.srel;have n:=oG S' h (nO b B) w';have hrd:∀ c C,nO b B c=some C→aB r.hp c=some C:=by
  intro c C j;obtain ⟨rfl,rfl⟩:=uq j;exact G
 have l:uH (aB r.hp) h (aB i.hp) h (y_ b):=by
  intro c ver T Z hρ C u s;unfold y_ at hρ;split at hρ
  ·cases hρ
  ·rename_i V;cases hρ;have x:c ≠ b:=by intro e;subst e;simp at V
   obtain ⟨C',p⟩:=hall c C x u;obtain ⟨_,C2,q,a⟩:=hdom c C' p;rw [u] at q;cases q;exact ⟨C',p,by rw [a.ver];exact s,fun e=> ⟨by rw [← a.ver];exact e,rfl,a.esz⟩⟩
 have O:bY ap (aB i.hp) h (dL S' h (nO b B) w') w':=by
  refine ⟨?_, ?_,fun k o v s=>qG f s, ?_, ?_⟩
  ·intro c T C C' j Y hm;obtain ⟨_,D,hD,_⟩:=hdom c C j;obtain ⟨_,D',L,_⟩:=hdom T C' Y;exact f.inj c T D D' hD L hm
  ·intro c C' j;obtain ⟨_,C,u,a⟩:=hdom c C' j;obtain ⟨⟨cur,ee,vs,rest,k1,k2,k3,k4,k5,k6⟩,hz,K⟩:=f.blk c C u;have E:(C'.pr=true→eG (dL S' h (nO b B) w') C'.cells vs)∧bF (aB i.hp) h (dL S' h (nO b B) w') C'.cells vs:=by
    rcases a.body with ⟨X,N,q3⟩|⟨X,N⟩
    ·have:=dE n _ (k3 X);rw [N];exact ⟨fun _=>this,b_ _ this⟩
    ·have s:=X.sound f G I l k4;exact ⟨fun hp=>xn (N hp) s,s⟩
   exact ⟨⟨cur,ee,vs,rest,by rw [a.esz];exact k1,k2,E.1,E.2,by rw [a.esz];exact k5,fun hp=>by rw [a.esz] at hp ⊢;exact k6 hp⟩,fun hp=>by rw [a.fz];exact hz (by rw [← a.fro];exact hp),by rw [a.fz,← a.length];exact K⟩
  ·intro c C' j o v s;obtain ⟨x,C,u,a⟩:=hdom c C' j;rw [a.fro,a.fz];rcases fV s with A|⟨A,J,B',M,Q,h4⟩
   ·exact f.own c C u o v A
   ·obtain ⟨rfl,rfl⟩:=uq M;exact absurd (f.inj c J C B' u G Q.symm) x
  ·intro k xs hk;obtain ⟨vs,k1,k2⟩:=f.glob k xs hk;exact ⟨vs,dE n _ k1,k2.mono n⟩
 have F:Fr (bP y) m0 S0 w0 (aB i.hp) h (dL S' h (nO b B) w') w':=by
  refine ⟨?_,pY.trans h5.sle n,h5.os,h5.tape,h5.output,h5.size,h5.rest, ?_, ?_⟩
  ·intro c C j;have hlt:c<y.length:=(List.getElem?_eq_some_iff.1 j).1;obtain ⟨C1,z,e1,e2⟩:=h5.ge c C j;obtain ⟨C',p⟩:=hall c C1 (by omega) z;obtain ⟨_,C2,q,a⟩:=hdom c C' p;rw [z] at q;cases q;exact ⟨C',p,by rw [a.esz];exact e1,by rw [a.ver];exact e2⟩
  ·intro c C' j;obtain ⟨_,C,u,_⟩:=hdom c C' j;exact h5.img c C u
  ·intro k o v s;rcases fV s with A|⟨A,J,B',M,Q,h4⟩
   ·exact h5.sealN k o v A
   ·obtain ⟨rfl,rfl⟩:=uq M;rcases h5.img J B' G with U|⟨B0,U,_⟩
    ·exact .inr (.inl (Q ▸ U))
    ·have:J<y.length:=(List.getElem?_eq_some_iff.1 U).1;omega
 have R:FR ap i.env i.hp i.dfs nt h (dL S' h (nO b B) w') w' W:=by
  refine ⟨O,fun t=>(henv t).sound f G I l (h6.env t), ?_,h6.size⟩;rw [hd];exact H7 n l h6.dfs
 exact ⟨_,F,R⟩
theorem au.freeze {k:List bg} {nt:Nat} {f:Code} {s r i:St} {e:bM} (b:Nat) (B:bg) (h:au P ap k nt f s e r) (q:∀ v,e ≠ .panic v) (p:k.length≤b) (z:aB r.hp b=some B) (n:B.pr=true)
  (hmd:i.md=r.md) (hd:i.dfs=r.dfs.map fun d=>(d.1,nI (y_ b) d.2))
  (henv:∀ t,Fz b B (r.env.get t) (i.env.get t))
  (hdom:∀ c C',aB i.hp c=some C'→c ≠ b∧∃ C,aB r.hp c=some C∧Oh b B C C')
  (hall:∀ c C,c ≠ b→aB r.hp c=some C→∃ C',aB i.hp c=some C'):au P ap k nt f s e i:=by
 intro hs;obtain ⟨y,G⟩:=h hs;refine ⟨hmd ▸ y,fun m0 S0 w0 m S w a o A Q E=>G m0 S0 w0 m S w a o A Q ?_⟩;intro F S' w' D u x;obtain ⟨S2,j,l⟩:=XJ b B p z n hd henv hdom hall u x;have:=E F S2 w' D j l;cases e with
 |normal=>exact this
 |exit id=>exact this
 |ret=>exact this
 |panic v=>exact absurd rfl (q v)
def Xj (b:Nat) (B:bg):iT→(Nat→AV)→Prop
 | [],_=>True
 |(t,v)::r,f=>Fz b B (f t) v∧Xj b B r f
theorem vG {b:Nat} {B:bg} {f:Nat→AV}:∀ {e:iT},Xj b B e f→∀ t,Fz b B (f t) (e.get t)
 | [],_,t=>Fz.dead _
 | (u,v)::r,h,t=>by
  simp only [Xj] at h;simp only [iT.get,aB];cases a:Xqn u t with
  |true=>
   have:=aU a;subst this;exact h.1
  |false=>exact vG h.2 t
def Q8 (b:Nat) (B:bg):Hp→Hp→Prop
 | [],l=>l= [(b,B)]
 |(c,C)::r,(d,D)::l=>c=d∧Oh b B D C∧c ≠ b∧Q8 b B r l
 |_::_,[]=>False
theorem JB {b:Nat} {B:bg}:∀ {r l:Hp},Q8 b B r l→∀ c C',aB r c=some C'→c ≠ b∧∃ C,aB l c=some C∧Oh b B C C'
 | [],l,_,c,C',hc=>by simp [aB] at hc
 | (d,D)::r,(d',D')::l,h,c,C',hc=>by
  simp only [Q8] at h;obtain ⟨rfl,i,f,e⟩:=h;simp only [aB] at hc ⊢;cases a:Xqn d c with
  |true=>
   rw [a] at hc;have:=aU a;subst this;cases hc;exact ⟨f,D',rfl,i⟩
  |false=>
   rw [a] at hc;exact JB e c C' hc
 |_::_,[],h,_,_,_=>by simp [Q8] at h
theorem JA {b:Nat} {B:bg}:∀ {r l:Hp},Q8 b B r l→∀ c C,c ≠ b→aB l c=some C→∃ C',aB r c=some C'
 | [],l,h,c,C,hcb,hc=>by
  simp only [Q8] at h;subst h;simp only [aB] at hc;split at hc
  ·rename_i a;exact absurd (aU a).symm hcb
  ·cases hc
 |(d,D)::r,(d',D')::l,h,c,C,hcb,hc=>by
  simp only [Q8] at h;obtain ⟨rfl,i,f,e⟩:=h;simp only [aB] at hc ⊢;cases a:Xqn d c with
  |true=>exact ⟨D,rfl⟩
  |false=>rw [a] at hc;exact JA e c C hcb hc
 |_::_,[],h,_,_,_,_=>by simp [Q8] at h
theorem EX {b:Nat} {B:bg}:∀ {r l:Hp},Q8 b B r l→aB l b=some B
 | [],l,h=>by
  simp only [Q8] at h;subst h;simp [aB]
 |(d,D)::r,(d',D')::l,h=>by
  simp only [Q8] at h;obtain ⟨rfl,f,c,a⟩:=h;simp only [aB];cases e:Xqn d b with
  |true=>exact absurd (aU e) c
  |false=>exact EX a
 |_::_,[],h=>by simp [Q8] at h
theorem au.forget {f:List bg} {nt:Nat} {a:Code} {s:St} {e:bM} (b:Nat) (B:bg) {k c:iT} {hp d:Hp} {md:AV} (h:au P ap f nt a s e {env:=k,hp,md,dfs:= []}) (l:∀ v,e ≠ .panic v) (i:f.length≤b) (j:B.pr=true)
  (henv:Xj b B c (iT.get k)) (hhp:Q8 b B d hp):au P ap f nt a s e {env:=c,hp:=d,md,dfs:= []}:=
 h.freeze b B l i (EX hhp) j rfl rfl (vG henv) (JB hhp) (JA hhp)
theorem au.forgetD {i:List bg} {nt:Nat} {a:Code} {s:St} {e:bM} (b:Nat) (B:bg) {l c:iT} {hp f:Hp} {md:AV} {dfs:List (Nat × List AV)} (h:au P ap i nt a s e {env:=l,hp,md,dfs}) (n:∀ v,e ≠ .panic v) (j:i.length≤b) (k:B.pr=true)
  (henv:Xj b B c (iT.get l)) (hhp:Q8 b B f hp) (hd:dfs.map (fun d=>(d.1,nI (y_ b) d.2))=dfs):au P ap i nt a s e {env:=c,hp:=f,md,dfs}:=
 h.freeze b B n j (EX hhp) k rfl hd.symm (vG henv) (JB hhp) (JA hhp)
end
end AM
namespace AM
open Go
def EP (P:Program) (f:TypeId→Option (List LK)):List Field→Nat→Option (List LK)
 | [],_=>some []
 | x::r,off=>match f x.type with
  |some l=>match Xqn x.offset off && Xqn (P.cellsOf x.type) l.length with
   |true=>match EP P f r (off+l.length) with|some q=>some (l++q)|none=>none
   |false=>none
  |none=>none
def Iu (P:Program):Nat→TypeId→Option (List LK)
 |0,_=>none
 | n+1,t=>match P.underlying t with
  |some (.int k)=>some [.int k]
  |some .bool=>some [.bool]
  |some .string=>some [.str]
  |some (.struct fs)=>match EP P (Iu P n) fs.toList 0 with
   |some l=>match Xqn (P.cellsOf t) l.length with|true=>some l|false=>none
   |none=>none
  |some (.array m e)=>match Iu P n e with
   |some l=>match Xqn (P.cellsOf e) l.length && Xqn (P.cellsOf t) (m*l.length) with|true=>some (μ m l).flatten|false=>none
   |none=>none
  |_=>none
inductive gm:List LK→List Value→Prop
 |nil:gm [] []
 |int {k:IntKind} {n:Int} {r:List LK} {l:List Value}:gm r l→gm (.int k::r) (.int k n::l)
 |bool {b:Bool} {r:List LK} {l:List Value}:gm r l→gm (.bool::r) (.bool b::l)
 |str {s:ByteArray} {r:List LK} {l:List Value}:gm r l→gm (.str::r) (.string s::l)
theorem gm.app {a b:List LK} {x y:List Value} (h:gm a x) (c:gm b y):gm (a++b) (x++y):=by
 induction h with
 |nil=>exact c
 |int _ ih=>exact .int ih
 |bool _ ih=>exact .bool ih
 |str _ ih=>exact .str ih
theorem gm.length {a:List LK} {x:List Value} (h:gm a x):a.length=x.length:=by
 induction h with
 |nil=>rfl
 |int _ ih=>simp [ih]
 |bool _ ih=>simp [ih]
 |str _ ih=>simp [ih]
def tq:Value→AV
 | .int k n=> .int k n
 | .bool b=> .bool b
 | .string s=> .str s.data.toList
 |_=> .dead
theorem gm.pr {S:aZ} {a:List LK} {x:List Value} (h:gm a x):eG S (x.map tq) x:=by
 induction h with
 |nil=>simp [eG]
 |int _ ih=>simp only [Xqb,eG];exact ⟨by simp [tq,PR],ih⟩
 |bool _ ih=>simp only [Xqb,eG];exact ⟨by simp [tq,PR],ih⟩
 |@str s _ _ _ ih=>simp only [Xqb,eG];exact ⟨by simp [tq,PR],ih⟩
theorem gm.one {a:List LK} {x:List Value} (h:gm a x):∀ u ∈ x,u.oneCell'=true:=by
 induction h with
 |nil=>intro u b;cases b
 |int _ ih=>
  intro u b;rcases List.mem_cons.1 b with rfl|b
  ·rfl
  ·exact ih u b
 |bool _ ih=>
  intro u b;rcases List.mem_cons.1 b with rfl|b
  ·rfl
  ·exact ih u b
 |str _ ih=>
  intro u b;rcases List.mem_cons.1 b with rfl|b
  ·rfl
  ·exact ih u b
section
variable {H:Type} {enc:TypeId × Value→H} {P:Program} {w:World} {base:Nat} {spare:Nat→Bool} {held:Bool}
theorem Cb {n:Nat} {f:TypeId→Option (List LK)} (c:∀ t ks,f t=some ks→∀ (fuel:Nat) (a:List Value) (x:DataW H × List MemPlace),DataW.trod enc P w base spare held fuel t a=some x→gm ks a) {a:List Value}:∀ (r:List Field) (off:Nat) (ks:List LK),EP P f r off=some ks→
  (∀ (i:Nat) (x:Field),r[i]? =some x→∃ y,DataW.trod enc P w base spare held n x.type ((a.drop x.offset).take (P.cellsOf x.type))=some y)→gm ks ((a.drop off).take ks.length)
 | [],off,ks,h,_=>by
  simp only [EP] at h;cases h;simpa using gm.nil
 | x ::r,off,ks,h,hx=>by
  simp only [EP] at h;split at h
  ·rename_i l j;split at h
   ·rename_i b;simp only [ο] at b;have u:=Xjj b.1;have s:=Xjj b.2;split at h
    ·rename_i q o;cases h;obtain ⟨y,k⟩:=hx 0 x rfl;have d:=c _ _ j _ _ _ k;rw [u,s] at d;have e:=Cb c r (off+l.length) q o (fun i f p=>hx (i+1) f (by simpa using p));rw [η,Xkx,Xjs];exact d.app e
    ·cases h
   ·cases h
  ·cases h
theorem UL:∀ (n:Nat) (t:TypeId) (ks:List LK),Iu P n t=some ks→∀ (d:Nat) (y:List Value) (x:DataW H × List MemPlace),DataW.trod enc P w base spare held d t y=some x→gm ks y:=by
 intro n
 induction n with
 |zero=>intro t ks h;simp [Iu] at h
 | succ n ih=>
  intro t ks h d y x u;simp only [Iu] at h;split at h
  ·rename_i k c;cases h;obtain ⟨m,rfl,_⟩:=DataW.trod_int c u;exact .int .nil
  ·rename_i c;cases h;obtain ⟨b,rfl,_⟩:=DataW.trod_bool c u;exact .bool .nil
  ·rename_i c;cases h;obtain ⟨s,rfl,_⟩:=DataW.trod_string c u;exact .str .nil
  ·rename_i F c;split at h
   ·rename_i l z;split at h
    ·rename_i v;cases h;obtain ⟨xs,m,rfl,_,a,o,A⟩:=DataW.trod_struct c u;have e:=Xjj v;have E:=Cb (n:=m) ih F.toList 0 ks z (fun i f I=>by
      have r:F[i]? =some f:=by simpa using I
      have p:=A i f r;have B:i<xs.length:=by rw [o];exact (Array.getElem?_eq_some_iff.1 r).1
      rw [π B] at p;exact ⟨_,p⟩)
     rw [Xjr,← e,← a,Xq1] at E;exact E
    ·cases h
   ·cases h
  ·rename_i m e c;split at h
   ·rename_i l z;split at h
    ·rename_i v;cases h;simp only [ο] at v;have L:=Xjj v.1;have J:=Xjj v.2;obtain ⟨xs,q,rfl,_,a,o,A⟩:=DataW.trod_array c u;have key:∀ j,j≤m→gm (μ j l).flatten ((y.drop ((m - j)*l.length)).take (j*l.length)):=by
      intro j
      induction j with
      |zero=>intro _;simpa using gm.nil
      | succ j ihj=>
       intro M;have p:=A (m - (j+1)) (by omega);rw [π (by omega)] at p;have D:=ih _ _ z _ _ _ p;rw [L] at D;have K:=ihj (by omega);rw [List.replicate_succ,Xze,Nat.add_mul,Nat.one_mul,Nat.add_comm (j*l.length),Xkx,Xjs];have G:(m - (j+1))*l.length+l.length=(m - j)*l.length:=by
        rw [← Xke];congr 1;omega
       rw [G];exact D.app K
     have C:=key m (Δ _);rw [Xj4,Nat.zero_mul,Xjr,← J,← a,Xq1] at C;exact C
    ·cases h
   ·cases h
  ·cases h
end
end AM
namespace AM
open Go
def yL:Nat→Nat→List Bool
 |0,_=> []
 |n+1,k=>Xqn (k % 2) 1::yL n (k / 2)
def ZG:Nat→List Bool→List Bool
 |0,l=>l
 |n+1,l=>true::ZG n l
theorem jw.n (k:Nat) {l:List Bool} (h:jw l):jw (ZG k l):=by
 induction k with
 |zero=>exact h
 |succ k ih=>exact .t ih
theorem jw.k (k:Nat) {b:Bool} {l:List Bool} (a:b=true) (h:jw l):jw (ZG k (b::l)):= .n k (.c a h)
theorem tf (b:Bool):b=true∨b=false:=by cases b<;>simp
theorem aA {b:Bool} (h:b=true):lit true b=true:=h
theorem aF {b:Bool} (h:b=false):lit false b=true:=by subst h;rfl
theorem di {b:Bool} (h:b=false):lit true (!b)=true:=by subst h;rfl
theorem aV {b:Bool} (h:b=true):lit false (!b)=true:=by subst h;rfl
inductive PS (P:Program) (ap:AP):List Prop→List (kG × List bg)→yE→List wZ→Prop where
 |nil:PS P ap [] [] [] []
 |c {f:Nat} {args:List AV} {h h':List bg} {out:kG} {ps:List Prop} {ans:List (kG × List bg)} {lps:yE} {hs:List wZ}:aG P ap f args h out h'→PS P ap ps ans lps hs→PS P ap (aG P ap f args h out h'::ps) (ans++ [(out,h')]) lps hs
 |l {h0:List bg} {n:Nat} {code:Code} {s s':St} {e:bM} {ps:List Prop} {ans:List (kG × List bg)} {lps:yE} {hs:List wZ}:aN P ap h0 n code s e s'→PS P ap ps ans lps hs→PS P ap (aN P ap h0 n code s e s'::ps) ans (lps++ [(e,s')]) hs
 |v (d:Nat) {x y:AV} {ps:List Prop} {ans:List (kG × List bg)} {lps:yE} {hs:List wZ}:aQ x y→PS P ap ps ans lps hs→PS P ap (aQ x y::ps) ans lps (hs++ [.v d y])
 |b (d:Nat) {x y:List AV} {ps:List Prop} {ans:List (kG × List bg)} {lps:yE} {hs:List wZ}:x=y→PS P ap ps ans lps hs→PS P ap ((x=y)::ps) ans lps (hs++ [.b d y])
 |u (d:Nat) {x y:List (Option bg)} {ps:List Prop} {ans:List (kG × List bg)} {lps:yE} {hs:List wZ}:x=y→PS P ap ps ans lps hs→PS P ap ((x=y)::ps) ans lps (hs++ [.u d])
theorem PS.all {P:Program} {ap:AP} {ps:List Prop} {ans:List (kG × List bg)} {lps:yE} {hs:List wZ} (h:PS P ap ps ans lps hs):qZ ps:=by
 induction h with
 |nil=>exact .nil
 |c h _ ih=>exact .cons h ih
 |l h _ ih=>exact .cons h ih
 |v _ h _ ih=>exact .cons h ih
 |b _ h _ ih=>exact .cons h ih
 |u _ h _ ih=>exact .cons h ih
theorem ck {P:Program} {ap:AP} (g:Ef P ap) {ans:List (kG × List bg)} {ps:List Prop} {f:Nat} {args:List AV} {h a:List bg} {out:kG} (hp:PS P ap ps ans [] [])
  (he:uX ap (yu P ap 3000 4) 3000 .dead f args h ⟨true,[],[],[],ans,[]⟩= .ok (out,a,.dead) ⟨true,[],[],ps,[],[]⟩):aG P ap f args h out a:=lQ g hp.all he
theorem pk {P:Program} {ap:AP} (g:Ef P ap) (ls:List Nat) (n k:Nat) {ans:List (kG × List bg)} {lps:yE} {hs:List wZ} {bs:List Bool} {ps:List Prop} {f:Nat} {args:List AV} {h a:List bg} {out:kG}
  (hb:jw bs) (hp:PS P ap ps ans lps hs) (he:Lc P ap (yu P ap 3000 4) 3000 ls f args h lps ⟨false,yL n k,[],[],ans,hs⟩= .ok (out,a,.dead) ⟨false,[],bs,ps,[],[]⟩):aG P ap f args h out a:=by
 obtain ⟨b,c⟩:=lZ g.apok g.mixed g.fnok 3000 4;exact Ld g.apok g.mixed g.fnok b c he ⟨hb.mem,hp.all.mem⟩
def JG (ap:AP) (f:Nat):List Nat:=match ap.fnAt f with|some F=>F.keep|none=> []
def RU (env:iT):R ((bM × St) × yE)→R ((bM × St) × yE)
 | .ok ((e,s),l) c=> .ok ((e,⟨env.map fun q=>(q.1,s.env.get q.1),s.hp,s.md,s.dfs⟩),l) c
 |r=>r
def PP (P:Program) (ap:AP) (h0:List bg) (f nt0:Nat) (ls:List Nat) (code:Code) (s:St) (lps:yE) (orc:List Bool) (ans:List (kG × List bg)) (hs:List wZ) (env:iT):R ((bM × St) × yE):=
 match dO nt0 code with
 |true=>RU env (mO P ap (yu P ap 3000 4) h0 (JG ap f) 3000 nt0 ls code s lps ⟨false,orc,[],[],ans,hs⟩)
 |false=> .bad 0
theorem XO (env a:iT):∀ t,iT.get (env.map fun q=>(q.1,a.get q.1)) t=a.get t∨iT.get (env.map fun q=>(q.1,a.get q.1)) t= .dead:=by
 intro t
 induction env with
 |nil=>exact .inr rfl
 | cons q r ih=>
  cases b:Xqn q.1 t with
  |true=>
   left;have:=Xjj b;subst this;simp only [iT.get,Xqb,aB,b,Option.getD_some]
  | false=>
   have e:iT.get (Xw6 (fun q=>(q.1,a.get q.1)) (q::r)) t=iT.get (Xw6 (fun q=>(q.1,a.get q.1)) r) t:=by
    simp only [iT.get,Xqb,aB,b]
   rw [e];exact ih
theorem pj {P:Program} {ap:AP} (g:Ef P ap) (f:Nat) (ls:List Nat) (n k:Nat) {nt b:Nat} {ans:List (kG × List bg)} {lps:yE} {hs:List wZ} {bs:List Bool} {ps:List Prop} {a:Code} {s s':St} {d:List bg} {e:bM}
  (hb:jw bs) (hp:PS P ap ps ans lps hs) (hn:b≤nt) (he:PP P ap d f b ls a s lps (yL n k) ans hs s'.env= .ok ((e,s'),[]) ⟨false,[],bs,ps,[],[]⟩):au P ap d nt a s e s':=by
 unfold PP at he;split at he
 ·rename_i hd;generalize j:mO P ap (yu P ap 3000 4) d (JG ap f) 3000 b ls a s lps ⟨false,yL n k,[],[],ans,hs⟩=r at he;cases r with
  |ok q c=>
   obtain ⟨⟨p,o⟩,t⟩:=q;simp only [RU,R.ok.injEq,Prod.mk.injEq] at he;obtain ⟨⟨⟨rfl,h⟩,rfl⟩,rfl⟩:=he;obtain ⟨i,u⟩:=lZ g.apok g.mixed g.fnok 3000 4;have l:au P ap d nt a s p o:=(vz g.apok g.mixed i hn a (eH hn a hd) _ _ _ _ _ j ⟨hb.mem,hp.all.mem⟩).2;refine l.weak (aP.refl _) ?_;rw [← h];exact ⟨XO _ _,rfl,rfl,rfl⟩
  |need=>simp [RU] at he
  |bad n=>simp [RU] at he
 ·cases he
theorem aQ.pp {xs d:List AV} {a:Nat} (h:ε a xs=d):aQ (.pp xs a) (.pp d 0):=by
 subst h;intro g m S v e;simp only [VR,PR] at e ⊢;obtain ⟨b,o,vs,rfl,hp,hs⟩:=e;refine ⟨b,o+a,vs.drop a,rfl,rq a hp,fun j u c=> ?_⟩;rw [List.getElem?_drop] at c;have:=hs (a+j) u c;rwa [← Nat.add_assoc] at this
theorem aQ.ppt {xs d f:List AV} {a:Nat} (h:ε a xs=d++f):aQ (.pp xs a) (.pp d 0):=by
 intro g m S v e;have:=aQ.pp h g m S v e;simp only [VR,PR] at this ⊢;obtain ⟨b,o,vs,rfl,hp,hs⟩:=this;refine ⟨b,o,vs.take d.length,rfl, ?_,fun j u c=> ?_⟩
 ·have:=kN d.length hp;rwa [List.take_left'] at this;rfl
 ·rw [List.getElem?_take] at c;split at c
  ·exact hs j u c
  ·cases c
theorem aQ.eq {x y:AV} (h:x=y):aQ x y:=h ▸ fun _ _ _ _ a=>a
theorem aQ.rd (ks:List LK) {xs b c:List AV} {a:Nat} (h:ε a xs=b++c) (d:Nk true ks (b++c)=b):aQ (.agg (vV true ks xs a)) (.agg b):= .eq (by unfold vV;rw [h,d])
theorem jw.a {l r:List Bool} (h:jw l) (a:jw r):jw (l++r):=by
 induction h with
 |nil=>exact a
 |t _ ih=>exact .t ih
 |c hb _ ih=>exact .c hb ih
theorem jw.of {l:List Bool} (h:l.all id=true):jw l:=by
 induction l with
 |nil=>exact .nil
 |cons b r ih=>
  simp only [List.all_cons,id,ο] at h;exact .c h.1 (ih h.2)
theorem kS (ks:List LK) {xs c b:List AV} {a:Nat} (h:ε a xs=c++b) (d:(WC true ks (c++b)).all id=true):jw (Jk true ks xs a):=by
 unfold Jk;rw [h];exact .of d
inductive ZQ:List AV→List AV→Prop where
 |nil:ZQ [] []
 |same {x:AV} {l r:List AV}:ZQ l r→ZQ (x::l) (x::r)
 |nilS {l r:List AV}:ZQ l r→ZQ (.nilS::l) (.sl [] 0 false::r)
 |sl {xs:List AV} {n:Nat} {a:Bool} {l r:List AV}:ZQ l r→ZQ (.sl xs n a::l) (.sl xs n false::r)
theorem ZQ.prl {S:aZ} {l r:List AV} (h:ZQ l r):∀ {vs:List Value},eG S l vs→eG S r vs:=by
 induction h with
 |nil=>exact fun h=>h
 |same _ ih=>intro vs b;cases vs with|nil=>simp [eG] at b|cons v vs=>simp only [eG] at b ⊢;exact ⟨b.1,ih b.2⟩
 | nilS _ ih=>
  intro vs b;cases vs with
  |nil=>simp [eG] at b
  |cons v vs=>
   simp only [eG,PR] at b ⊢;exact ⟨⟨none,0,b.1,Δ _,.inl (by simp)⟩,ih b.2⟩
 | @sl xs n a _ _ _ ih=>
  intro vs b;cases vs with
  |nil=>simp [eG] at b
  |cons v vs=>
   have c:=b;simp only [eG] at c ⊢;refine ⟨?_,ih c.2⟩;have d:=aQ.sl xs n a (fun _=>none) (fun _=>(0,0)) S v (by simp only [VR];exact c.1);simpa only [VR] using d
theorem aQ.slP {xs k:List AV} {n:Nat} {nn:Bool} (j:ZQ xs k):aQ (.sl xs n nn) (.sl k n nn):=by
 intro g m S v i;simp only [VR,PR] at i ⊢;obtain ⟨a,c,rfl,l,h⟩:=i;refine ⟨a,c,rfl,l, ?_⟩;rcases h with ⟨f,e,d,q,p⟩|⟨b,o,vs,f,e,d⟩
 ·subst d;cases j;exact .inl ⟨f,e,rfl,q,p⟩
 ·exact .inr ⟨b,o,vs,f,j.prl e,d⟩
end AM
namespace AM
open Go
variable {P:Program} {ap:AP}
theorem au.norm {c:List bg} {nt:Nat} {b:Code} {s i:St} {e:bM} (keep:List Nat) (o:∀ v,e= .panic v→(d_ v).isEmpty=true) (h:au P ap c nt b s e i):au P ap c nt b s e (AM.norm c.length keep i):=by
 intro hs;obtain ⟨x,l⟩:=h hs;refine ⟨x,fun m0 S0 w0 m S w a f r Q k=>l m0 S0 w0 m S w a f r Q ?_⟩;intro y S' w' u p t;obtain ⟨q,j,n⟩:=uj (keep:=keep) p t;have:=k q S' w' u j n;clear k j n l;generalize AM.norm c.length keep i=s2 at*
 cases e with
 |normal=>exact this
 |exit id=>exact this
 |ret=>exact this
 |panic v=>intro cv d;exact this cv (iG _ (nS (o v rfl) d))
def akX:bM→Bool
 | .panic v=>(d_ v).isEmpty
 |_=>true
def RI (base:Nat) (env:iT):R ((bM × St) × yE)→R ((bM × St) × yE)
 | .ok ((e,s),l) c=>match akX e with
  |true=> .ok ((e,norm base (env.map fun q=>q.1) s),l) c
  |false=> .bad 1
 |r=>r
def PO (P:Program) (ap:AP) (h0:List bg) (f nt0:Nat) (ls:List Nat) (code:Code) (s:St) (lps:yE) (orc:List Bool) (ans:List (kG × List bg)) (hs:List wZ) (env:iT):R ((bM × St) × yE):=
 match dO nt0 code with
 |true=>RI h0.length env (mO P ap (yu P ap 3000 4) h0 (JG ap f) 3000 nt0 ls code s lps ⟨false,orc,[],[],ans,hs⟩)
 |false=> .bad 0
theorem pn (g:Ef P ap) (f:Nat) (ls:List Nat) (n k:Nat) {nt b:Nat} {ans:List (kG × List bg)} {lps:yE} {hs:List wZ} {bs:List Bool} {ps:List Prop} {a:Code} {s s':St} {h:List bg} {e:bM}
  (hb:jw bs) (hp:PS P ap ps ans lps hs) (hn:b≤nt) (he:PO P ap h f b ls a s lps (yL n k) ans hs s'.env= .ok ((e,s'),[]) ⟨false,[],bs,ps,[],[]⟩):au P ap h nt a s e s':=by
 unfold PO at he;split at he
 ·rename_i hd;generalize l:mO P ap (yu P ap 3000 4) h (JG ap f) 3000 b ls a s lps ⟨false,yL n k,[],[],ans,hs⟩=r at he;cases r with
  | ok q c=>
   obtain ⟨⟨t,p⟩,x⟩:=q;simp only [RI] at he;split at he
   ·rename_i d;simp only [R.ok.injEq,Prod.mk.injEq] at he;obtain ⟨⟨⟨rfl,i⟩,rfl⟩,rfl⟩:=he;obtain ⟨u,y⟩:=lZ g.apok g.mixed g.fnok 3000 4;have o:au P ap h nt a s t p:=(vz g.apok g.mixed u hn a (eH hn a hd) _ _ _ _ _ l ⟨hb.mem,hp.all.mem⟩).2;have:=o.norm (s'.env.map fun q=>q.1) (fun v j=>by subst j;exact d);rwa [i] at this
   ·cases he
  |need=>simp [RI] at he
  |bad n=>simp [RI] at he
 ·cases he
end AM
namespace AM
open Go
variable {P:Program} {ap:AP}
def goL {α σ β:Type} (F:σ→α→σ ⊕ β) (fin:σ→β):List α→σ→β
 | [],s=>fin s
 |x::r,s=>match F s x with
  | .inl s'=>goL F fin r s'
  | .inr b=>b
theorem aC.goL {α σ β:Type} {d:List bg} {nt:Nat} {b:Code} {e:β→bM} {st:Nat × σ→St} {out:β→St} (F:σ→α→σ ⊕ β) (a:σ→β) (L:List α) (Inv:List α→σ→Prop)
  (hstep:∀ p x r s,L=p++x::r→Inv p s→match F s x with
   | .inl s'=>au P ap d nt b (st (p.length,s)) .normal (st (p.length+1,s'))∧Inv (p++ [x]) s'
   | .inr q=>au P ap d nt b (st (p.length,s)) (e q) (out q))
  (hend:∀ s,Inv L s→au P ap d nt b (st (L.length,s)) (e (a s)) (out (a s))):
  ∀ (r p:List α) (s:σ),L=p++r→Inv p s→aC P ap d nt b e st out (p.length,s) (AM.goL F a r s):=by
 intro r
 induction r with
 |nil=>
  intro p s h f;rw [Γ] at h;subst h;exact .done (hend s f)
 | cons x r ih=>
  intro p s h f;have c:=hstep p x r s h f;simp only [AM.goL];cases i:F s x with
  |inl s'=>
   rw [i] at c;have j:=ih (p++ [x]) s' (by rw [h];simp) c.2;rw [η,List.length_singleton] at j;exact .next c.1 j
  |inr q=>
   rw [i] at c;exact .done c
end AM
namespace AM
open Go Go.WideShapes Go.ChangeShapes
theorem Ia {a:Addr} (h:a.spot=none) (n:Nat):a.add n=⟨a.block,a.off+n,none⟩:=by
 unfold Addr.add;obtain ⟨b,o,s⟩:=a;simp only at h;subst h;split
 ·rename_i c;subst c;rfl
 ·rfl
section
variable {H:Type} {enc:TypeId × Value→H} {P:Program} {w:World} {base:Nat} {spare:Nat→Bool} {held:Bool}
theorem KO {S:aZ} {ks:List LK}:∀ (L:List (List Value)),(∀ x ∈ L,gm ks x)→eG S (L.flatMap fun x=>x.map tq) L.flatten
 | [],_=>by simp [eG]
 |x::r,h=>by
  rw [Xxu,Xze];exact oK (gm.pr (h x (by simp))) (KO r fun y a=>h y (by simp [a]))
theorem YB {ks:List LK}:∀ (L:List (List Value)),(∀ x ∈ L,gm ks x)→∀ u ∈ L.flatten,u.oneCell'=true:=by
 intro L h u a;obtain ⟨x,b,a⟩:=List.mem_flatten.1 a;exact gm.one (h x b) u a
theorem YD {t e:TypeId} {n base':Nat} {ks:List LK} (E:P.underlying t=some (.slice e)) (U:Iu P n e=some ks) (Q:P.cellsOf e=ks.length) {v:Value} {d:DataW H} {p:List MemPlace}
  (hv:Value.okWide P w .any base' t v) (h:DataW.Trod enc P w base spare held t v d p):∃ L:List (List Value),(∀ x ∈ L,gm ks x)∧PR (mf w) (.sl (L.flatMap fun x=>x.map tq) L.length false) v:=by
 obtain ⟨M,len,i,rfl⟩:=okWide_slice E hv;obtain ⟨J,h⟩:=h;rcases DataW.trod_slice E h with ⟨f,_⟩|⟨a,l,y,elems,rest,m,_,f,_,_,T,Y,N,G,_,_⟩
 ·have:M=none∧len=0∧i=0:=by simpa [Value.cells] using f
  obtain ⟨rfl,rfl,rfl⟩:=this;refine ⟨[],by simp, ?_⟩;simp only [PR];exact ⟨none,0,rfl,Δ _,.inl (by simp)⟩
 ·have:M=some a∧len=l∧i=y:=by simpa [Value.cells] using f
  obtain ⟨rfl,rfl,rfl⟩:=this;have hspot:a.spot=none:=by
   simp only [Value.okWide,E,Cell.okWide,Cell.ok] at hv;exact hv.2.2.2.1
  have key:∀ q,q≤len→∃ L:List (List Value),L.length=q∧(∀ x ∈ L,gm ks x)∧L.flatten.length=q*ks.length∧∀ j u,L.flatten[j]? =some u→mf w a.block (a.off+j)=some u:=by
   intro q
   induction q with
   |zero=>intro _;exact ⟨[],rfl,by simp,by simp,by simp⟩
   | succ q ih=>
    intro Z;obtain ⟨L,B,z,A,I⟩:=ih (by omega);have K:=G q (by omega);rw [π (by omega)] at K;obtain ⟨C,R,V⟩:=Option.bind_eq_some_iff.1 K;have F:=UL n e ks U _ _ _ V;obtain ⟨_,X,D⟩:=World.cells?_some R;refine ⟨L++ [C],by simp [B], ?_, ?_, ?_⟩
    ·intro x k;rcases List.mem_append.1 k with k|k
     ·exact z x k
     ·simp at k;subst k;exact F
    ·rw [Xwf,η,A];have:=F.length;simp only [Xze,Yqh,Γ];rw [← this,Xke]
    ·intro j u c;rw [Xwf,List.getElem?_append] at c;split at c
     ·exact I j u c
     ·rename_i W;simp only [Xze,Yqh,Γ] at c;have O:=(List.getElem?_eq_some_iff.1 c).1;have r:=D (j - L.flatten.length) (by omega);rw [c,Ia hspot,Ia rfl] at r;refine I_ ?_ (gm.one F u (Xqt c));rw [← r,A,Q];congr 2;have:q*ks.length≤j:=by rw [← A];omega
      simp only;omega
  obtain ⟨L,B,z,A,I⟩:=key len (Δ _);refine ⟨L,z, ?_⟩;simp only [PR];refine ⟨some a,i,by rw [B],by rw [B];exact T,.inr ⟨a.block,a.off,L.flatten, ?_,KO L z,fun j u c=> ⟨I j u c,YB L z u (Xqt c)⟩⟩⟩;obtain ⟨b,o,s⟩:=a;simp only at hspot;subst hspot;rfl
theorem UK {α:Type} (f:α→List AV) {L:List (List Value)} (h:∀ x ∈ L,∃ a,x.map tq=f a):∃ l:List α,(L.flatMap fun x=>x.map tq)=l.flatMap f∧L.length=l.length:=by
 induction L with
 |nil=>exact ⟨[],rfl,rfl⟩
 |cons x r ih=>
  obtain ⟨a,e⟩:=h x (by simp);obtain ⟨l,b,c⟩:=ih fun y d=>h y (by simp [d])
  exact ⟨a::l,by rw [Xxu,Xxu,e,b],by simp [c]⟩
end
end AM
namespace AM
open Go
inductive HpS (b:Nat) (B:bg):Hp→Hp→Prop
 |nil:HpS b B [] []
 |cons {c:Nat} {C D:bg} {r l:Hp}:Oh b B D C→c ≠ b→HpS b B r l→HpS b B ((c,C)::r) ((c,D)::l)
inductive HpY (b:Nat) (B:bg):Hp→Hp→Prop
 |here {r l:Hp}:HpS b B r l→HpY b B r ((b,B)::l)
 |step {c:Nat} {C D:bg} {r l:Hp}:Oh b B D C→c ≠ b→HpY b B r l→HpY b B ((c,C)::r) ((c,D)::l)
section
variable {P:Program} {ap:AP}
end
end AM
namespace AM
open Go
section
variable {P:Program} {ap:AP} {H:dD}
inductive V_ (P:Program) (ap:AP) (H:dD) (n:Nat) (ops:List Oper) (o:Oper) (b d:Nat) (rt:List Nat) (env:iT) (v:AV):List bg→Prop where
 |nil:V_ P ap H n ops o b d rt env v []
 | cons {B:bg} {r:List bg} {c2 c3:Cx} {t:RS}:TB ap H n ops o {env,hp:= [(b,B)],md:= .dead,dfs:= [],dec:= [],feet:= []} c2= .ok (t,none) c3→c3.Ok→t.feet= [{rt:=rt,wt:= [d],rb:= [b],wb:= []}]→t.dfs= []→t.env.get d=v→
   V_ P ap H n ops o b d rt env v r→V_ P ap H n ops o b d rt env v (B::r)
end
end AM
namespace AM
open Go Go.WideShapes Go.ChangeShapes
section
variable {H:Type} {enc:TypeId × Value→H} {P:Program} {w:World} {base:Nat} {spare:Nat→Bool} {held:Bool}
theorem MW {t u:TypeId} {ts:List TypeId} (c:(∃ l,P.underlying t=some (.struct l))∨∃ n e,P.underlying t=some (.array n e)) (d:P.cellTypes P.depth t=some ts) {j:Array Value} {base':Nat} (h:Value.okWide P w .any base' t (.agg j)) {i:Nat} {v:Value} (q:j[i]? =some v) (r:ts[i % ts.length]? =some u):Cell.okWide P w .any base' u v:=by
 have key:Row.okWide P w .any base' t j:=by
  rcases c with ⟨l,c⟩|⟨n,e,c⟩
  ·simp only [Value.okWide,c] at h;obtain ⟨f,b,k,a⟩:=h;cases b;exact a
  ·simp only [Value.okWide,c] at h;obtain ⟨f,b,k,a⟩:=h;cases b;exact a
 obtain ⟨o,b,_,k⟩:=key;rw [d] at b;cases b;obtain ⟨s,a,p⟩:=k i v q;rw [r] at a;cases a;exact p
theorem Vb {u e:TypeId} (a:P.underlying u=some (.slice e)) {base':Nat} {v:Value} (h:Cell.okWide P w .any base' u v):Value.okWide P w .any base' u v:=by
 simp only [Value.okWide,a];exact h
theorem NI {u e:TypeId} (b:P.underlying u=some (.slice e)) {base':Nat} {v:Value} (h:Value.okWide P w .any base' u v):v.cells.toList= [v]:=by
 obtain ⟨a,l,c,rfl⟩:=okWide_slice b h;rfl
end
abbrev ω (x:Int):AV:= .int .i64 x
abbrev Ω (b:Bool) (n d:List UInt8):AV:= .agg [.bool b,.str n,.str d]
theorem Yq0 {p:Prop} [Decidable p]:p→decide p=true:=decide_eq_true
theorem Yq1 {p:Prop} [Decidable p]:¬p→decide p=false:=decide_eq_false
theorem Yq2 {α:Type} [BEq α] [LawfulBEq α] {a b:α}:(a==b)=false↔a≠b:=beq_eq_false_iff_ne
end AM
