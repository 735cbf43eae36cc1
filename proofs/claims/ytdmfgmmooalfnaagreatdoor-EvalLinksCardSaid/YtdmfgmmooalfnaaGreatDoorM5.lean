/- The abstract machine over the code of the model, and the proof that it is sound. No conditions. -/
import Derived.Test.YtdmfgmmooalfnaaGreatDoorM4
import Derived.ChangeArms
import Derived.WideShapes
import Derived.Deep.Strs
set_option linter.unusedSimpArgs false
set_option linter.unusedVariables false
namespace AM
open Go
structure aO (s s':St):Prop where
 env:∀ t,s.env.get t=s'.env.get t∨s.env.get t= .dead
 hp:s.hp=s'.hp
 md:s.md=s'.md
 dfs:s.dfs=s'.dfs
theorem aO.refl (s:St):aO s s:=⟨fun _=> .inl rfl,rfl,rfl,rfl⟩
def Qc:iI→(Nat→AV)→Prop
 | [],_=>True
 |(t,v)::r,f=>(f t=v)∧Qc r f
theorem yM {f:Nat→AV}:∀ {e:iI},Qc e f→∀ t,e.get t=f t∨e.get t= .dead
 | [],_,t=> .inr rfl
 | (u,v)::r,h,t=>by
  simp only [Qc] at h
  simp only [iI.get,az]
  cases a:Nat.beq u t with
  |true=>
   have:=aN a
   subst this
   exact .inl h.1.symm
  |false=>exact yM h.2 t
theorem aO.of {e e':iI} {hp:Hp} {md:AV} {dfs:List (Nat × List AV)} (h:Qc e e'.get):aO {env:=e,hp,md,dfs} {env:=e',hp,md,dfs}:=⟨yM h,rfl,rfl,rfl⟩
section
variable {P:Program} {ap:AP} {H:di}
theorem FR.less {s s':St} (h:aO s s') {nt:Nat} {m:aX} {S:aV} {w:World} {a:Act} (b:FR ap s'.env s'.hp s'.dfs nt m S w a):FR ap s.env s.hp s.dfs nt m S w a:=by
 refine ⟨h.hp ▸ b.srel,fun t=> ?_, ?_,b.size⟩
 ·rcases h.env t with e|e
  ·rw [e,h.hp];exact b.env t
  ·rw [e];simp [VR]
 ·rw [h.hp,h.dfs];exact b.dfs
theorem au.weak {j:List aZ} {nt:Nat} {b:Code} {s s' r k:St} {e:bI} (h:au P ap j nt b s e r) (hs:aO s s') (c:aO k r):au P ap j nt b s' e k:=by
 intro d
 obtain ⟨p,q⟩:=h (hs.md ▸ d)
 refine ⟨c.md ▸ p,fun m0 S0 w0 m S w a f o Q n=>q m0 S0 w0 m S w a (by rw [hs.hp];exact f) (o.less hs) Q ?_⟩
 intro u S' w' l x t
 have:=n u S' w' l (by rw [c.hp];exact x) (t.less c)
 cases e with
 |normal=>exact this
 |exit id=>exact this
 |ret=>exact this
 |panic v=>intro cv i;exact this cv (by rw [c.hp];exact i)
inductive aI (P:Program) (ap:AP) (h0:List aZ) (nt:Nat) (b:Code) {α β:Type} (e:β→bI) (st:α→St) (out:β→St):α→β→Prop where
 |done {a:α} {r:β}:au P ap h0 nt b (st a) (e r) (out r)→aI P ap h0 nt b e st out a r
 |next {a a':α} {r:β}:au P ap h0 nt b (st a) .normal (st a')→aI P ap h0 nt b e st out a' r→aI P ap h0 nt b e st out a r
theorem aI.rounds {s:List aZ} {nt:Nat} {b:Code} {α β:Type} {e:β→bI} {st:α→St} {out:β→St} {a:α} {r:β} (d:e r ≠ .normal) (h:aI P ap s nt b e st out a r):(st a).md= .dead→(out r).md= .dead∧∃ n,∀ m0 S0 w0 m S w c,Fr (bG s) m0 S0 w0 (az (st a).hp) m S w→FR ap (st a).env (st a).hp (st a).dfs nt m S w c→∀ Q,XA ap s m0 S0 w0 nt (out r) (e r) Q→Code.rounds P b Q n c w:=by
 induction h with
 |@done a r hx=>
  intro f
  obtain ⟨p,q⟩:=hx f
  refine ⟨p,1,fun m0 S0 w0 m S w c i l Q k=>q m0 S0 w0 m S w c i l _ ?_⟩
  intro u S' w' j o t
  have:=k u S' w' j o t
  revert d this
  cases e r with
  |normal=>intro d _;exact absurd rfl d
  |exit id=>intro _ h;exact h
  |ret=>intro _ h;exact h
  |panic v=>intro _ h;exact h
 |next hx _ ih=>
  intro f
  obtain ⟨p,q⟩:=hx f
  obtain ⟨o,n,t⟩:=ih d p
  refine ⟨o,n+1,fun m0 S0 w0 m S w c i l Q k=>q m0 S0 w0 m S w c i l _ ?_⟩
  intro u S' w' j x y
  exact t m0 S0 w0 u S' w' j x y Q k
theorem aI.ok {j:List aZ} {nt:Nat} {b:Code} {α β:Type} {e:β→bI} {st:α→St} {out:β→St} {a:α} {r:β} (i:e r ≠ .normal) (h:aI P ap j nt b e st out a r):au P ap j nt (.loop b) (st a) (e r) (out r):=by
 intro d
 obtain ⟨o,n,p⟩:=h.rounds i d
 exact ⟨o,fun m0 S0 w0 m S w c f l Q k=>wp_loop_rounds n (p m0 S0 w0 m S w c f l Q k)⟩
theorem aI.blk {f:List aZ} {n id:Nat} {b:Code} {α β:Type} {e:β→bI} {st:α→St} {out:β→St} {a:α} {r:β} {s s':St} {e':bI} (h:∀ nt,n≤nt→aI P ap f nt b e st out a r) (c:e r ≠ .normal) (j:pM id (e r)=e') (hs:aO (st a) s) (k:aO s' (out r)):aK P ap f n (.block id (.loop b)) s e' s':=by
 intro nt i
 have d:=((h nt i).ok c).block (id:=id)
 rw [j] at d
 exact d.weak hs k
def pI (id:Nat):Code→Option Code
 | .seq a b=>match pI id a with|some c=>some c|none=>pI id b
 | .cond _ a b=>match pI id a with|some c=>some c|none=>pI id b
 | .block i b=>match Nat.beq i id with|true=>some b|false=>pI id b
 | .loop b=>pI id b
 | .scope b=>pI id b
 |_=>none
def af (id:Nat) (c:Code):Code:=match pI id c with|some (.loop b)=>b|_=> .skip
end
end AM
namespace AM
open Go
def gQ (x y:List AV):Prop:=∀ g m S v,bi g m S x v→bi g m S y v
def vV:AV→Bool
 | .own _ _ _=>false
 | .tup _=>false
 |_=>true
theorem aU.refl (x:AV):aU x x:=fun _ _ _ _ h=>h
theorem gQ.refl (x:List AV):gQ x x:=fun _ _ _ _ h=>h
theorem gQ.nil:gQ [] []:=gQ.refl []
theorem gQ.cons {x y:AV} {l r:List AV} (h:aU x y) (b:gQ l r):gQ (x::l) (y::r):=by
 intro g m S v a
 cases v with
 |nil=>simp [bi] at a
 |cons u vs=>simp only [bi] at a ⊢;exact ⟨h g m S u a.1,b g m S vs a.2⟩
theorem aU.nilS (nn:Bool) (h:nn=false):aU .nilS (.sl [] 0 nn):=by
 subst h
 intro g m S v a
 simp only [VR,PR] at a ⊢
 exact ⟨none,0,a,Nat.le_refl _,.inl (by simp)⟩
theorem aU.sl (xs:List AV) (n:Nat) (a:Bool):aU (.sl xs n a) (.sl xs n false):=by
 intro g m S v d
 simp only [VR,PR] at d ⊢
 obtain ⟨a,c,e,b,q⟩:=d
 refine ⟨a,c,e,b, ?_⟩
 rcases q with ⟨f,_,h⟩|q
 ·exact .inl (by simp [f,h])
 ·exact .inr q
theorem aU.dead (x:AV):aU x .dead:=fun _ _ _ _ _=>by simp only [VR]
theorem aU.agg {l r:List AV} (h:gQ l r):aU (.agg l) (.agg r):=by
 intro g m S v a
 simp only [VR] at a ⊢
 obtain ⟨vs,e,q⟩:=a
 exact ⟨vs,e,h _ _ _ _ q⟩
section
variable {P:Program} {ap:AP}
theorem aA.args {f:Nat} {args args':List AV} {h b:List aZ} {out:jU} (d:gQ args' args) (a:aA P ap f args h out b):aA P ap f args' h out b:=
 ⟨a.len,a.ent,fun m S w cargs e c=>a.calls m S w cargs e (d _ _ _ _ c)⟩
def jm (out out':jU):Prop:=(∀ n,mi n out=mi n out')∧∀ h' m' S' e,ac5 h' m' S' out e→ac5 h' m' S' out' e
theorem aA.out {f:Nat} {args:List AV} {h d:List aZ} {out a:jU} (c:jm out a) (b:aA P ap f args h out d):aA P ap f args h a d:=
 ⟨b.len,b.ent,fun m S w cargs j i=>(b.calls m S w cargs j i).mono fun e w' ⟨m',S',hF⟩=> ⟨m',S',c.1 _ ▸ hF.srel,c.1 _ ▸ hF.fr,c.2 _ _ _ _ hF.out⟩⟩
theorem jR {x:AV} (h:vV x=true):∀ xs k e,x ≠ .own xs k e:=by intro xs k e a;subst a;cases h
theorem vW {x:AV} (h:vV x=true):∀ l,x ≠ .tup l:=by intro l a;subst a;cases h
theorem jm.ret {x y:AV} (a:vV x=true) (b:vV y=true) (h:aU x y):jm (.ret x) (.ret y):=by
 refine ⟨fun n=> ?_,fun i j S' e d=> ?_⟩
 ·simp only [mi,iZ n (jR a) (vW a),iZ n (jR b) (vW b)]
 ·obtain ⟨cv,f,c⟩:=d
  refine ⟨cv,f, ?_⟩
  rw [kW (jR a) (vW a)] at c
  rw [kW (jR b) (vW b)]
  exact h _ _ _ _ c
inductive Gm:List AV→List AV→Prop where
 |nil:Gm [] []
 |same {x:AV} {l r:List AV}:Gm l r→Gm (x::l) (x::r)
 |fit {x y:AV} {l r:List AV}:vV x=true→vV y=true→aU x y→Gm l r→Gm (x::l) (y::r)
theorem Gm.blocks {l r:List AV} (h:Gm l r):∀ n,(fD n l).2=(fD n r).2:=by
 induction h with
 |nil=>intro n;rfl
 |@same x l r _ ih=>
  intro n
  rcases jk x with ⟨xs,k,e,rfl⟩|hx
  ·simp only [fD];rw [ih]
  ·rw [bz n hx,bz n hx];exact ih n
 |fit hx hy _ _ ih=>
  intro n
  rw [bz n (jR hx),bz n (jR hy)]
  exact ih n
theorem Gm.outR {gh b:dE} {m:aX} {S:aV} {l r:List AV} (h:Gm l r):∀ (n:Nat) (vs:List Value),jo gh b m S n l vs→jo gh b m S n r vs:=by
 induction h with
 |nil=>intro n vs a;exact a
 | @same x l r _ ih=>
  intro n vs a
  cases vs with
  |nil=>simp [jo] at a
  |cons v vs=>
   rcases jk x with ⟨xs,k,e,rfl⟩|hx
   ·simp only [jo] at a ⊢;exact ⟨a.1,ih _ _ a.2⟩
   ·rw [bQ hx] at a ⊢;exact ⟨a.1,ih _ _ a.2⟩
 | fit hx hy hf _ ih=>
  intro n vs a
  cases vs with
  |nil=>simp [jo] at a
  |cons v vs=>
   rw [bQ (jR hx)] at a
   rw [bQ (jR hy)]
   exact ⟨hf _ _ _ _ a.1,ih _ _ a.2⟩
theorem jm.tup {l r:List AV} (h:Gm l r):jm (.ret (.tup l)) (.ret (.tup r)):=by
 refine ⟨fun n=> ?_,fun a j S' e d=> ?_⟩
 ·simp only [mi,lu];exact h.blocks n
 ·obtain ⟨cv,i,b⟩:=d
  refine ⟨cv,i, ?_⟩
  simp only [BV] at b ⊢
  obtain ⟨vs,f,q⟩:=b
  have c:(lu a.length (.tup l)).2=(lu a.length (.tup r)).2:=by simp only [lu];exact h.blocks _
  refine ⟨vs,f, ?_⟩
  rw [c] at q
  exact h.outR _ _ q
end
end AM
namespace AM
open Go
def thaw:AV→AV
 | .own xs n e=> .sl (xs.take (n*e)) n true
 |x=>x
def zB:jU→jU
 | .ret (.tup l)=> .ret (.tup (l.map thaw))
 | .ret x=> .ret (thaw x)
 | .pan v=> .pan v
theorem FT {x:AV} (h:∀ xs k e,x ≠ .own xs k e):thaw x=x:=by
 cases x<;>first|rfl|exact absurd rfl (h _ _ _)
theorem rD (x:AV):∀ xs k e,thaw x ≠ .own xs k e:=by
 intro xs k e h
 cases x<;>simp [thaw] at h
theorem xI:∀ (l:List AV) (n:Nat),(fD n (l.map thaw)).2= []
 | [],_=>rfl
 |x::r,n=>by rw [List.map_cons,bz n (rD x)];exact xI r n
section
variable {P:Program} {ap:AP}
theorem Am {gh p g':dE} {m:aX} {S S':aV} {w:World} (o:bT ap p m S w) {rd:dE} (c:∀ b B,rd b=some B→p b=some B) (d:S'=dG S m rd w) (hother:∀ x v,VR gh m S x v→VR g' m S' x v):
  ∀ (l:List AV) (n:Nat) (vs:List Value),(∀ i B,(fD n l).2[i]? =some B→rd (n+i)=some B)→jo gh p m S n l vs→jo g' g' m S' n (l.map thaw) vs
 | [],n,vs,_,h=>by cases vs with|nil=>trivial|cons _ _=>simp [jo] at h
 |x::r,n,[],_,h=>by
  exfalso
  rcases jk x with ⟨xs,k,e,rfl⟩|f
  ·simp [jo] at h
  ·cases x<;>simp [jo] at h
 | x ::r,n,v::vs,hb,h=>by
  rcases jk x with ⟨xs,k,e,rfl⟩|f
  ·simp only [jo] at h
   simp only [fD] at hb
   have s:=hb 0 _ rfl
   rw [Nat.add_zero] at s
   have D:frz rd 6 (.ref n 0 0 k)=some (.sl (xs.take (k*e)) k true):=by
    simp [frz,s,Ju]
   have C:=lh o c 6 _ _ _ D h.1
   rw [List.map_cons,bQ (rD _)]
   refine ⟨gX _ (d ▸ C), ?_⟩
   have E:=Am o c d hother r (n+1) vs (fun i B A=>by rw [show n+1+i=n+(i+1) by omega];exact hb (i+1) B (by simpa using A)) h.2
   have key:∀ (l:List AV) (a b:Nat) (vs:List Value),(∀ x ∈ l,∀ xs k e,x ≠ .own xs k e)→jo g' g' m S' a l vs→jo g' g' m S' b l vs:=by
    intro l
    induction l with
    |nil=>intro a b vs _ h;cases vs with|nil=>trivial|cons _ _=>simp [jo] at h
    | cons y q ih=>
     intro a b vs t h
     cases vs with
     |nil=>cases y<;>simp [jo] at h
     |cons u us=>
      have j:=t y (by simp)
      rw [bQ j] at h ⊢
      exact ⟨h.1,ih a b us (fun x f=>t x (by simp [f])) h.2⟩
   refine key _ (n+1) n vs ?_ E
   intro y j
   obtain ⟨z,_,rfl⟩:=List.mem_map.1 j
   exact rD z
  ·rw [bQ f] at h
   rw [bz n f] at hb
   rw [List.map_cons,bQ (rD x),FT f]
   exact ⟨hother _ _ h.1,Am o c d hother r n vs hb h.2⟩
theorem aA.thaw {f:Nat} {args:List AV} {h a:List aZ} {out:jU} (hp:∀ B ∈ a,B.pr=true) (K:aA P ap f args h out a):aA P ap f args h (zB out) a:=by
 refine ⟨K.len,K.ent,fun m S w cargs W E=>(K.calls m S w cargs W E).mono ?_⟩
 rintro e w' ⟨m',S',hF⟩
 obtain ⟨s,j,z⟩:=hF
 have y:∀ n,mi n (zB out)= []:=by
  intro n
  cases out with
  |pan v=>rfl
  | ret x=>
   rcases AU x with ⟨l,rfl⟩|ht
   ·simp only [zB,mi,lu];exact xI l n
   ·have:zB (.ret x)= .ret (AM.thaw x):=by cases x<;>first|rfl|exact absurd rfl (ht _)
    rw [this]
    simp only [mi]
    have A:∀ l,AM.thaw x ≠ .tup l:=by intro l L;cases x<;>simp [AM.thaw] at L;exact ht _ rfl
    rw [iZ n (rD x) A]
 let rd:dE:=fun b=>if a.length≤b then bG (a++mi a.length out) b else none
 have u:∀ b B,rd b=some B→bG (a++mi a.length out) b=some B:=by
  intro b B c
  simp only [rd] at c
  split at c
  ·exact c
  ·cases c
 have r:=nM S' m' rd w'
 have p:∀ b B,bG a b=some B→bG (a++mi a.length out) b=some B:=by
  intro b B c
  have:b<a.length:=(List.getElem?_eq_some_iff.1 c).1
  rw [eQ this];exact c
 have hother:∀ x v,VR (bG a) m' S' x v→VR (bG (a++mi a.length (zB out))) m' (dG S' m' rd w') x v:=by
  intro x v F
  rw [y,List.append_nil]
  exact pg r (Ge.refl _ _) x F
 refine ⟨m',dG S' m' rd w', ?_, ?_, ?_⟩
 ·rw [y,List.append_nil]
  refine ⟨fun b D B B' c Q=>s.inj b D B B' (p b B c) (p D B' Q), ?_,fun k o v E=>pW s E, ?_, ?_⟩
  ·intro b B c
   obtain ⟨⟨cur,e,vs,rest,d,t,G,R,J,h6⟩,U,O⟩:=s.blk b B (p b B c)
   have M:=hp B (List.mem_of_getElem? c)
   refine ⟨⟨cur,e,vs,rest,d,t,fun _=>dm r _ (G M),bV _ (dm r _ (G M)),J,h6⟩,U,O⟩
  ·intro b B c o v E
   rcases fE E with d|⟨d,D,B',t,G,R⟩
   ·exact s.own b B (p b B c) o v d
   ·have:=s.inj b D B B' (p b B c) (u _ _ t) G.symm
    subst this
    have C:b<a.length:=(List.getElem?_eq_some_iff.1 c).1
    simp only [rd] at t
    rw [if_neg (by omega)] at t
    cases t
  ·intro k xs Z
   obtain ⟨vs,d,t⟩:=s.glob k xs Z
   exact ⟨vs,dm r _ d,t.mono r⟩
 ·rw [y,List.append_nil]
  refine ⟨?_,oP.trans j.sle r,j.os,j.tape,j.output,j.size,j.rest,fun b B c=>j.img b B (p b B c), ?_⟩
  ·intro b B c
   obtain ⟨B',d,t⟩:=j.ge b B c
   have C:b<a.length:=Nat.lt_of_lt_of_le (List.getElem?_eq_some_iff.1 c).1 K.len
   rw [eQ C] at d
   exact ⟨B',d,t⟩
  ·intro k o v E
   rcases fE E with d|⟨d,D,B',t,G,R⟩
   ·exact j.sealN k o v d
   ·rcases j.img D B' (u _ _ t) with J|⟨B0,J,_⟩
    ·exact .inr (.inl (G ▸ J))
    ·exfalso
     have C:D<h.length:=(List.getElem?_eq_some_iff.1 J).1
     simp only [rd] at t
     rw [if_neg (by have:=K.len;omega)] at t
     cases t
 ·have I:∀ l,out= .ret (.tup l)→∀ i B,(fD a.length l).2[i]? =some B→rd (a.length+i)=some B:=by
   intro l L i B T
   subst L
   simp only [rd]
   rw [if_pos (by omega),iQ (by omega),show a.length+i - a.length=i by omega]
   exact T
  cases out with
  |pan v=>
   obtain ⟨cv,N,d⟩:=z
   refine ⟨cv,N, ?_⟩
   have:=hother v cv d
   rwa [y,List.append_nil] at this
  | ret x=>
   obtain ⟨cv,N,d⟩:=z
   rcases AU x with ⟨l,rfl⟩|ht
   ·simp only [BV] at d
    obtain ⟨vs,e2,q⟩:=d
    refine ⟨cv,N, ?_⟩
    simp only [BV]
    refine ⟨vs,e2, ?_⟩
    have c:(lu a.length (.tup (l.map AM.thaw))).2= []:=by simp only [lu];exact xI l _
    rw [c,List.append_nil]
    have:=Am (gh:=bG a) (g':=bG a) s u rfl (fun x v F=>pg r (Ge.refl _ _) x F) l a.length vs (I l rfl) q
    exact this
   ·have Y:zB (.ret x)= .ret (AM.thaw x):=by cases x<;>first|rfl|exact absurd rfl (ht _)
    have A:∀ l,AM.thaw x ≠ .tup l:=by intro l L;cases x<;>simp [AM.thaw] at L;exact ht _ rfl
    rw [Y]
    refine ⟨cv,N, ?_⟩
    rw [kW (rD x) A]
    rcases jk x with ⟨xs,k,e,rfl⟩|F
    ·simp only [BV] at d
     have X:rd a.length=some (Ju xs e):=by
      simp only [rd]
      rw [if_pos (Nat.le_refl _),iQ (Nat.le_refl _),Nat.sub_self]
      rfl
     have V:frz rd 6 (.ref a.length 0 0 k)=some (.sl (xs.take (k*e)) k true):=by
      simp [frz,X,Ju]
     have:=lh s u 6 _ _ _ V d
     exact gX _ this
    ·rw [kW F ht] at d
     rw [FT F]
     exact pg r (Ge.refl _ _) x d
end
end AM
namespace AM
open Go
structure qx (s s':St):Prop where
 env:∀ t,aU (s'.env.get t) (s.env.get t)
 hp:s.hp=s'.hp
 md:s.md=s'.md
 dfs:s.dfs=s'.dfs
theorem qx.refl (s:St):qx s s:=⟨fun _=>aU.refl _,rfl,rfl,rfl⟩
def IU:iI→(Nat→AV)→Prop
 | [],_=>True
 |(t,v)::r,f=>aU (f t) v∧IU r f
theorem wO {f:Nat→AV}:∀ {e:iI},IU e f→∀ t,aU (f t) (e.get t)
 | [],_,t=>aU.dead _
 | (u,v)::r,h,t=>by
  simp only [IU] at h
  simp only [iI.get,az]
  cases a:Nat.beq u t with
  |true=>
   have:=aN a
   subst this
   exact h.1
  |false=>exact wO h.2 t
theorem qx.of {e e':iI} {hp:Hp} {md:AV} {dfs:List (Nat × List AV)} (h:IU e e'.get):qx {env:=e,hp,md,dfs} {env:=e',hp,md,dfs}:=⟨wO h,rfl,rfl,rfl⟩
section
variable {P:Program} {ap:AP}
theorem FR.lessF {s s':St} (h:qx s s') {nt:Nat} {m:aX} {S:aV} {w:World} {a:Act} (b:FR ap s'.env s'.hp s'.dfs nt m S w a):FR ap s.env s.hp s.dfs nt m S w a:=by
 refine ⟨h.hp ▸ b.srel,fun t=> ?_, ?_,b.size⟩
 ·have:=h.env t _ _ _ _ (b.env t)
  rw [h.hp];exact this
 ·rw [h.hp,h.dfs];exact b.dfs
theorem au.weakF {j:List aZ} {nt:Nat} {b:Code} {s s' r k:St} {e:bI} (h:au P ap j nt b s e r) (hs:qx s s') (c:qx k r):au P ap j nt b s' e k:=by
 intro d
 obtain ⟨p,q⟩:=h (hs.md ▸ d)
 refine ⟨c.md ▸ p,fun m0 S0 w0 m S w a f o Q n=>q m0 S0 w0 m S w a (by rw [hs.hp];exact f) (o.lessF hs) Q ?_⟩
 intro u S' w' l x t
 have:=n u S' w' l (by rw [c.hp];exact x) (t.lessF c)
 cases e with
 |normal=>exact this
 |exit id=>exact this
 |ret=>exact this
 |panic v=>intro cv i;exact this cv (by rw [c.hp];exact i)
theorem aI.blkF {f:List aZ} {n id:Nat} {b:Code} {α β:Type} {e:β→bI} {st:α→St} {out:β→St} {a:α} {r:β} {s s':St} {e':bI} (h:∀ nt,n≤nt→aI P ap f nt b e st out a r) (c:e r ≠ .normal) (j:pM id (e r)=e') (hs:qx (st a) s) (k:qx s' (out r)):aK P ap f n (.block id (.loop b)) s e' s':=by
 intro nt i
 have d:=((h nt i).ok c).block (id:=id)
 rw [j] at d
 exact d.weakF hs k
end
end AM
namespace AM
open Go
def yE (b:Nat) (c v:Nat):Option (Nat × Nat):=match Nat.beq c b with|true=>none|false=>some (c,v)
inductive Fz (b:Nat) (B:aZ):AV→AV→Prop
 |ren {x:AV}:Fz b B x (ren (yE b) x)
 |ref {i n:Nat}:Fz b B (.ref b B.ver i n) (.sl ((B.cells.drop (i*B.esz)).take (n*B.esz)) n true)
 |fit {x y z:AV}:Fz b B x y→aU y z→Fz b B x z
inductive FzL (b:Nat) (B:aZ):List AV→List AV→Prop
 |nil:FzL b B [] []
 |cons {x y:AV} {l r:List AV}:Fz b B x y→FzL b B l r→FzL b B (x::l) (y::r)
theorem Fz.same {b:Nat} {B:aZ} {x:AV} (h:AM.ren (yE b) x=x):Fz b B x x:=by
 have:=Fz.ren (b:=b) (B:=B) (x:=x)
 rwa [h] at this
theorem Fz.dead {b:Nat} {B:aZ} (x:AV):Fz b B x .dead:= .fit .ren (aU.dead _)
theorem FzL.length {b:Nat} {B:aZ} {l r:List AV} (h:FzL b B l r):l.length=r.length:=by
 induction h with
 |nil=>rfl
 |cons _ _ ih=>simp [ih]
structure Nr (b:Nat) (B:aZ) (C C':aZ):Prop where
 ver:C'.ver=C.ver
 fro:C'.fro=C.fro
 fz:C'.fz=C.fz
 esz:C'.esz=C.esz
 body:(C.pr=true∧C'.cells=C.cells∧C'.pr=true)∨(FzL b B C.cells C'.cells∧(C'.pr=true→(bP C'.cells).isEmpty=true))
theorem Nr.same {b:Nat} {B C:aZ} (hp:C.pr=true):Nr b B C C:=⟨rfl,rfl,rfl,rfl,.inl ⟨hp,rfl,hp⟩⟩
theorem Nr.length {b:Nat} {B C C':aZ} (h:Nr b B C C'):C.cells.length=C'.cells.length:=by
 rcases h.body with ⟨_,e,_⟩|⟨e,_⟩
 ·rw [e]
 ·exact e.length
section
variable {P:Program} {ap:AP} {g:dE} {m:aX} {S:aV} {w:World}
def mP (b:Nat) (B:aZ):dE:=fun c=>match Nat.beq c b with|true=>some B|false=>none
theorem sO {b c:Nat} {B C:aZ} (h:mP b B c=some C):c=b∧C=B:=by
 unfold mP at h
 split at h
 ·rename_i a;cases h;exact ⟨aN a,rfl⟩
 ·cases h
theorem OZ (b:Nat) (B:aZ):mP b B b=some B:=by unfold mP;rw [Nat.beq_refl]
theorem Fz.sound {b:Nat} {B:aZ} (o:bT ap g m S w) (l:g b=some B) (f:B.pr=true) {g':dE} (j:tK g m g' m (yE b)) {x y:AV} (h:Fz b B x y):∀ {v:Value},VR g m S x v→VR g' m (dG S m (mP b B) w) y v:=by
 have d:∀ c C,mP b B c=some C→g c=some C:=by
  intro c C k
  obtain ⟨rfl,rfl⟩:=sO k
  exact l
 induction h with
 |ren=>intro v a;exact zL (nM S m (mP b B) w) j _ a
 | @ref i n=>
  intro v a
  have e:frz (mP b B) 6 (.ref b B.ver i n)=some (.sl ((B.cells.drop (i*B.esz)).take (n*B.esz)) n true):=by
   simp [frz,OZ,f]
  exact gX _ (lh o d 6 _ _ _ e a)
 |fit _ e ih=>intro v a;exact e _ _ _ _ (ih a)
theorem FzL.sound {b:Nat} {B:aZ} (f:bT ap g m S w) (d:g b=some B) (c:B.pr=true) {g':dE} (e:tK g m g' m (yE b)) {l r:List AV} (h:FzL b B l r):∀ {vs:List Value},bi g m S l vs→bi g' m (dG S m (mP b B) w) r vs:=by
 induction h with
 |nil=>intro vs a;cases vs with|nil=>simp [bi]|cons _ _=>simp [bi] at a
 | cons hx _ ih=>
  intro vs a
  cases vs with
  |nil=>simp [bi] at a
  |cons v vs=>
   simp only [bi] at a ⊢
   exact ⟨hx.sound f d c e a.1,ih a.2⟩
theorem wJ:∀ {l:List AV} {vs:List Value},(bP l).isEmpty=true→bi g m S l vs→dQ S l vs
 | [],[],_,_=>by simp [dQ]
 |x::l,v::vs,h,hv=>by
  simp only [bP,List.isEmpty_iff,List.append_eq_nil_iff] at h
  rw [← List.isEmpty_iff,← List.isEmpty_iff] at h
  simp only [bi] at hv
  simp only [dQ]
  exact ⟨mV h.1 hv.1,wJ h.2 hv.2⟩
 | [],_::_,_,hv=>by simp [bi] at hv
 |_::_,[],_,hv=>by simp [bi] at hv
theorem GK {g g':dE} {m c:aX} {S S':aV} {ρ:Nat→Nat→Option (Nat × Nat)} (e:oP S S') (b:tK g m g' c ρ):∀ {l:List (Nat × List AV)} {ds:List Deferred},gJ g m S l ds→gJ g' c S' (l.map fun d=>(d.1,mD ρ d.2)) ds
 | [],[],_=>by simp only [List.map_nil,gJ]
 |d::r,cd::cr,h=>by
  simp only [gJ] at h
  simp only [List.map_cons,gJ]
  obtain ⟨⟨a,i,f⟩,j⟩:=h
  exact ⟨⟨a,i,j_ e b _ f⟩,GK e b j⟩
 | [],_::_,h=>by simp [gJ] at h
 |_::_,[],h=>by simp [gJ] at h
theorem We {y:List aZ} {nt:Nat} {r i:St} {m0 h:aX} {S0 S':aV} {w0 w':World} {K:Act} (b:Nat) (B:aZ) (hb0:y.length≤b) (I:az r.hp b=some B) (G:B.pr=true)
  (hd:i.dfs=r.dfs.map fun d=>(d.1,mD (yE b) d.2))
  (henv:∀ t,Fz b B (r.env.get t) (i.env.get t))
  (hdom:∀ c C',az i.hp c=some C'→c ≠ b∧∃ C,az r.hp c=some C∧Nr b B C C')
  (hall:∀ c C,c ≠ b→az r.hp c=some C→∃ C',az i.hp c=some C')
  (h5:Fr (bG y) m0 S0 w0 (az r.hp) h S' w') (h6:FR ap r.env r.hp r.dfs nt h S' w' K):
  ∃ S2,Fr (bG y) m0 S0 w0 (az i.hp) h S2 w'∧FR ap i.env i.hp i.dfs nt h S2 w' K:=by
 have f:=h6.srel
 have q:=nM S' h (mP b B) w'
 have hrd:∀ c C,mP b B c=some C→az r.hp c=some C:=by
  intro c C j
  obtain ⟨rfl,rfl⟩:=sO j
  exact I
 have p:tK (az r.hp) h (az i.hp) h (yE b):=by
  intro c ver Y Z hρ C u s
  unfold yE at hρ
  split at hρ
  ·cases hρ
  ·rename_i Q
   cases hρ
   have x:c ≠ b:=by intro e;subst e;simp at Q
   obtain ⟨C',l⟩:=hall c C x u
   obtain ⟨_,C2,n,a⟩:=hdom c C' l
   rw [u] at n;cases n
   exact ⟨C',l,by rw [a.ver];exact s,fun e=> ⟨by rw [← a.ver];exact e,rfl,a.esz⟩⟩
 have O:bT ap (az i.hp) h (dG S' h (mP b B) w') w':=by
  refine ⟨?_, ?_,fun k o v s=>pW f s, ?_, ?_⟩
  ·intro c Y C C' j T hm
   obtain ⟨_,D,hD,_⟩:=hdom c C j
   obtain ⟨_,D',V,_⟩:=hdom Y C' T
   exact f.inj c Y D D' hD V hm
  ·intro c C' j
   obtain ⟨_,C,u,a⟩:=hdom c C' j
   obtain ⟨⟨cur,ee,vs,rest,k1,k2,k3,k4,k5,k6⟩,hz,X⟩:=f.blk c C u
   have A:(C'.pr=true→dQ (dG S' h (mP b B) w') C'.cells vs)∧bi (az i.hp) h (dG S' h (mP b B) w') C'.cells vs:=by
    rcases a.body with ⟨W,R,q3⟩|⟨W,R⟩
    ·have:=dm q _ (k3 W)
     rw [R]
     exact ⟨fun _=>this,bV _ this⟩
    ·have s:=W.sound f I G p k4
     exact ⟨fun hp=>wJ (R hp) s,s⟩
   exact ⟨⟨cur,ee,vs,rest,by rw [a.esz];exact k1,k2,A.1,A.2,by rw [a.esz];exact k5,fun hp=>by rw [a.esz] at hp ⊢;exact k6 hp⟩,fun hp=>by rw [a.fz];exact hz (by rw [← a.fro];exact hp),by rw [a.fz,← a.length];exact X⟩
  ·intro c C' j o v s
   obtain ⟨x,C,u,a⟩:=hdom c C' j
   rw [a.fro,a.fz]
   rcases fE s with z|⟨z,J,B',U,N,h4⟩
   ·exact f.own c C u o v z
   ·obtain ⟨rfl,rfl⟩:=sO U
    exact absurd (f.inj c J C B' u I N.symm) x
  ·intro k xs hk
   obtain ⟨vs,k1,k2⟩:=f.glob k xs hk
   exact ⟨vs,dm q _ k1,k2.mono q⟩
 have E:Fr (bG y) m0 S0 w0 (az i.hp) h (dG S' h (mP b B) w') w':=by
  refine ⟨?_,oP.trans h5.sle q,h5.os,h5.tape,h5.output,h5.size,h5.rest, ?_, ?_⟩
  ·intro c C j
   have hlt:c<y.length:=(List.getElem?_eq_some_iff.1 j).1
   obtain ⟨C1,F,e1,e2⟩:=h5.ge c C j
   obtain ⟨C',l⟩:=hall c C1 (by omega) F
   obtain ⟨_,C2,n,a⟩:=hdom c C' l
   rw [F] at n;cases n
   exact ⟨C',l,by rw [a.esz];exact e1,by rw [a.ver];exact e2⟩
  ·intro c C' j
   obtain ⟨_,C,u,_⟩:=hdom c C' j
   exact h5.img c C u
  ·intro k o v s
   rcases fE s with z|⟨z,J,B',U,N,h4⟩
   ·exact h5.sealN k o v z
   ·obtain ⟨rfl,rfl⟩:=sO U
    rcases h5.img J B' I with M|⟨B0,M,_⟩
    ·exact .inr (.inl (N ▸ M))
    ·have:J<y.length:=(List.getElem?_eq_some_iff.1 M).1
     omega
 have L:FR ap i.env i.hp i.dfs nt h (dG S' h (mP b B) w') w' K:=by
  refine ⟨O,fun t=>(henv t).sound f I G p (h6.env t), ?_,h6.size⟩
  rw [hd]
  exact GK q p h6.dfs
 exact ⟨_,E,L⟩
theorem au.freeze {n:List aZ} {nt:Nat} {f:Code} {s r i:St} {e:bI} (b:Nat) (B:aZ) (h:au P ap n nt f s e r) (z:∀ v,e ≠ .panic v) (l:n.length≤b) (E:az r.hp b=some B) (p:B.pr=true)
  (hmd:i.md=r.md) (hd:i.dfs=r.dfs.map fun d=>(d.1,mD (yE b) d.2))
  (henv:∀ t,Fz b B (r.env.get t) (i.env.get t))
  (hdom:∀ c C',az i.hp c=some C'→c ≠ b∧∃ C,az r.hp c=some C∧Nr b B C C')
  (hall:∀ c C,c ≠ b→az r.hp c=some C→∃ C',az i.hp c=some C'):au P ap n nt f s e i:=by
 intro hs
 obtain ⟨A,D⟩:=h hs
 refine ⟨hmd ▸ A,fun m0 S0 w0 m S w a o x Q u=>D m0 S0 w0 m S w a o x Q ?_⟩
 intro G S' w' q y F
 obtain ⟨S2,j,k⟩:=We b B l E p hd henv hdom hall y F
 have:=u G S2 w' q j k
 cases e with
 |normal=>exact this
 |exit id=>exact this
 |ret=>exact this
 |panic v=>exact absurd rfl (z v)
def VJ (b:Nat) (B:aZ):iI→(Nat→AV)→Prop
 | [],_=>True
 |(t,v)::r,f=>Fz b B (f t) v∧VJ b B r f
theorem uG {b:Nat} {B:aZ} {f:Nat→AV}:∀ {e:iI},VJ b B e f→∀ t,Fz b B (f t) (e.get t)
 | [],_,t=>Fz.dead _
 | (u,v)::r,h,t=>by
  simp only [VJ] at h
  simp only [iI.get,az]
  cases a:Nat.beq u t with
  |true=>
   have:=aN a
   subst this
   exact h.1
  |false=>exact uG h.2 t
def Qm (b:Nat) (B:aZ):Hp→Hp→Prop
 | [],l=>l= [(b,B)]
 |(c,C)::r,(d,D)::l=>c=d∧Nr b B D C∧c ≠ b∧Qm b B r l
 |_::_,[]=>False
theorem I7 {b:Nat} {B:aZ}:∀ {r l:Hp},Qm b B r l→∀ c C',az r c=some C'→c ≠ b∧∃ C,az l c=some C∧Nr b B C C'
 | [],l,_,c,C',hc=>by simp [az] at hc
 | (d,D)::r,(d',D')::l,h,c,C',hc=>by
  simp only [Qm] at h
  obtain ⟨rfl,i,e,f⟩:=h
  simp only [az] at hc ⊢
  cases a:Nat.beq d c with
  |true=>
   rw [a] at hc
   have:=aN a
   subst this
   cases hc
   exact ⟨e,D',rfl,i⟩
  |false=>
   rw [a] at hc
   exact I7 f c C' hc
 |_::_,[],h,_,_,_=>by simp [Qm] at h
theorem I5 {b:Nat} {B:aZ}:∀ {r l:Hp},Qm b B r l→∀ c C,c ≠ b→az l c=some C→∃ C',az r c=some C'
 | [],l,h,c,C,hcb,hc=>by
  simp only [Qm] at h
  subst h
  simp only [az] at hc
  split at hc
  ·rename_i a;exact absurd (aN a).symm hcb
  ·cases hc
 |(d,D)::r,(d',D')::l,h,c,C,hcb,hc=>by
  simp only [Qm] at h
  obtain ⟨rfl,i,f,e⟩:=h
  simp only [az] at hc ⊢
  cases a:Nat.beq d c with
  |true=>exact ⟨D,rfl⟩
  |false=>rw [a] at hc;exact I5 e c C hcb hc
 |_::_,[],h,_,_,_,_=>by simp [Qm] at h
theorem En {b:Nat} {B:aZ}:∀ {r l:Hp},Qm b B r l→az l b=some B
 | [],l,h=>by
  simp only [Qm] at h
  subst h
  simp [az]
 |(d,D)::r,(d',D')::l,h=>by
  simp only [Qm] at h
  obtain ⟨rfl,f,a,e⟩:=h
  simp only [az]
  cases c:Nat.beq d b with
  |true=>exact absurd (aN c) a
  |false=>exact En e
 |_::_,[],h=>by simp [Qm] at h
theorem au.forget {i:List aZ} {nt:Nat} {a:Code} {s:St} {e:bI} (b:Nat) (B:aZ) {k c:iI} {hp d:Hp} {md:AV} (h:au P ap i nt a s e {env:=k,hp,md,dfs:= []}) (l:∀ v,e ≠ .panic v) (f:i.length≤b) (j:B.pr=true)
  (henv:VJ b B c (iI.get k)) (hhp:Qm b B d hp):au P ap i nt a s e {env:=c,hp:=d,md,dfs:= []}:=
 h.freeze b B l f (En hhp) j rfl rfl (uG henv) (I7 hhp) (I5 hhp)
theorem au.forgetD {j:List aZ} {nt:Nat} {a:Code} {s:St} {e:bI} (b:Nat) (B:aZ) {l c:iI} {hp f:Hp} {md:AV} {dfs:List (Nat × List AV)} (h:au P ap j nt a s e {env:=l,hp,md,dfs}) (n:∀ v,e ≠ .panic v) (i:j.length≤b) (k:B.pr=true)
  (henv:VJ b B c (iI.get l)) (hhp:Qm b B f hp) (hd:dfs.map (fun d=>(d.1,mD (yE b) d.2))=dfs):au P ap j nt a s e {env:=c,hp:=f,md,dfs}:=
 h.freeze b B n i (En hhp) k rfl hd.symm (uG henv) (I7 hhp) (I5 hhp)
end
end AM
namespace AM
open Go
def Ed (P:Program) (f:TypeId→Option (List LK)):List Field→Nat→Option (List LK)
 | [],_=>some []
 | x::r,off=>match f x.type with
  |some l=>match Nat.beq x.offset off && Nat.beq (P.cellsOf x.type) l.length with
   |true=>match Ed P f r (off+l.length) with|some q=>some (l++q)|none=>none
   |false=>none
  |none=>none
def Ee (P:Program):Nat→TypeId→Option (List LK)
 |0,_=>none
 | n+1,t=>match P.underlying t with
  |some (.int k)=>some [.int k]
  |some .bool=>some [.bool]
  |some .string=>some [.str]
  |some (.struct fs)=>match Ed P (Ee P n) fs.toList 0 with
   |some l=>match Nat.beq (P.cellsOf t) l.length with|true=>some l|false=>none
   |none=>none
  |some (.array m e)=>match Ee P n e with
   |some l=>match Nat.beq (P.cellsOf e) l.length && Nat.beq (P.cellsOf t) (m*l.length) with|true=>some (List.replicate m l).flatten|false=>none
   |none=>none
  |_=>none
inductive fB:List LK→List Value→Prop
 |nil:fB [] []
 |int {k:IntKind} {n:Int} {r:List LK} {l:List Value}:fB r l→fB (.int k::r) (.int k n::l)
 |bool {b:Bool} {r:List LK} {l:List Value}:fB r l→fB (.bool::r) (.bool b::l)
 |str {s:ByteArray} {r:List LK} {l:List Value}:fB r l→fB (.str::r) (.string s::l)
theorem fB.app {a b:List LK} {x y:List Value} (h:fB a x) (c:fB b y):fB (a++b) (x++y):=by
 induction h with
 |nil=>exact c
 |int _ ih=>exact .int ih
 |bool _ ih=>exact .bool ih
 |str _ ih=>exact .str ih
theorem fB.length {a:List LK} {x:List Value} (h:fB a x):a.length=x.length:=by
 induction h with
 |nil=>rfl
 |int _ ih=>simp [ih]
 |bool _ ih=>simp [ih]
 |str _ ih=>simp [ih]
def rO:Value→AV
 | .int k n=> .int k n
 | .bool b=> .bool b
 | .string s=> .str s.data.toList
 |_=> .dead
theorem fB.pr {S:aV} {a:List LK} {x:List Value} (h:fB a x):dQ S (x.map rO) x:=by
 induction h with
 |nil=>simp [dQ]
 |int _ ih=>simp only [List.map_cons,dQ];exact ⟨by simp [rO,PR],ih⟩
 |bool _ ih=>simp only [List.map_cons,dQ];exact ⟨by simp [rO,PR],ih⟩
 |@str s _ _ _ ih=>simp only [List.map_cons,dQ];exact ⟨by simp [rO,PR],ih⟩
theorem fB.one {a:List LK} {x:List Value} (h:fB a x):∀ u ∈ x,u.oneCell'=true:=by
 induction h with
 |nil=>intro u b;cases b
 |int _ ih=>
  intro u b
  rcases List.mem_cons.1 b with rfl|b
  ·rfl
  ·exact ih u b
 |bool _ ih=>
  intro u b
  rcases List.mem_cons.1 b with rfl|b
  ·rfl
  ·exact ih u b
 |str _ ih=>
  intro u b
  rcases List.mem_cons.1 b with rfl|b
  ·rfl
  ·exact ih u b
section
variable {H:Type} {enc:TypeId × Value→H} {P:Program} {w:World} {base:Nat} {spare:Nat→Bool} {held:Bool}
theorem Be {n:Nat} {f:TypeId→Option (List LK)} (d:∀ t ks,f t=some ks→∀ (fuel:Nat) (a:List Value) (x:DataW H × List MemPlace),DataW.trod enc P w base spare held fuel t a=some x→fB ks a) {a:List Value}:∀ (r:List Field) (off:Nat) (ks:List LK),Ed P f r off=some ks→
  (∀ (i:Nat) (x:Field),r[i]? =some x→∃ y,DataW.trod enc P w base spare held n x.type ((a.drop x.offset).take (P.cellsOf x.type))=some y)→fB ks ((a.drop off).take ks.length)
 | [],off,ks,h,_=>by
  simp only [Ed] at h
  cases h
  simpa using fB.nil
 | x ::r,off,ks,h,hx=>by
  simp only [Ed] at h
  split at h
  ·rename_i l e
   split at h
   ·rename_i b
    simp only [Bool.and_eq_true] at b
    have k:=Nat.eq_of_beq_eq_true b.1
    have s:=Nat.eq_of_beq_eq_true b.2
    split at h
    ·rename_i q o
     cases h
     obtain ⟨y,u⟩:=hx 0 x rfl
     have c:=d _ _ e _ _ _ u
     rw [k,s] at c
     have j:=Be d r (off+l.length) q o (fun i f p=>hx (i+1) f (by simpa using p))
     rw [List.length_append,List.take_add,List.drop_drop]
     exact c.app j
    ·cases h
   ·cases h
  ·cases h
theorem Hf:∀ (n:Nat) (t:TypeId) (ks:List LK),Ee P n t=some ks→∀ (d:Nat) (y:List Value) (x:DataW H × List MemPlace),DataW.trod enc P w base spare held d t y=some x→fB ks y:=by
 intro n
 induction n with
 |zero=>intro t ks h;simp [Ee] at h
 | succ n ih=>
  intro t ks h d y x p
  simp only [Ee] at h
  split at h
  ·rename_i k c
   cases h
   obtain ⟨m,rfl,_⟩:=DataW.trod_int c p
   exact .int .nil
  ·rename_i c
   cases h
   obtain ⟨b,rfl,_⟩:=DataW.trod_bool c p
   exact .bool .nil
  ·rename_i c
   cases h
   obtain ⟨s,rfl,_⟩:=DataW.trod_string c p
   exact .str .nil
  ·rename_i F c
   split at h
   ·rename_i l B
    split at h
    ·rename_i v
     cases h
     obtain ⟨xs,m,rfl,_,a,r,z⟩:=DataW.trod_struct c p
     have e:=Nat.eq_of_beq_eq_true v
     have C:=Be (n:=m) ih F.toList 0 ks B (fun i f I=>by
      have o:F[i]? =some f:=by simpa using I
      have u:=z i f o
      have A:i<xs.length:=by rw [r];exact (Array.getElem?_eq_some_iff.1 o).1
      rw [List.getElem?_eq_getElem A] at u
      exact ⟨_,u⟩)
     rw [List.drop_zero,← e,← a,List.take_length] at C
     exact C
    ·cases h
   ·cases h
  ·rename_i m e c
   split at h
   ·rename_i l B
    split at h
    ·rename_i v
     cases h
     simp only [Bool.and_eq_true] at v
     have J:=Nat.eq_of_beq_eq_true v.1
     have L:=Nat.eq_of_beq_eq_true v.2
     obtain ⟨xs,q,rfl,_,a,r,z⟩:=DataW.trod_array c p
     have key:∀ j,j≤m→fB (List.replicate j l).flatten ((y.drop ((m - j)*l.length)).take (j*l.length)):=by
      intro j
      induction j with
      |zero=>intro _;simpa using fB.nil
      | succ j ihj=>
       intro M
       have u:=z (m - (j+1)) (by omega)
       rw [List.getElem?_eq_getElem (by omega)] at u
       have D:=ih _ _ B _ _ _ u
       rw [J] at D
       have K:=ihj (by omega)
       rw [List.replicate_succ,List.flatten_cons,Nat.add_mul,Nat.one_mul,Nat.add_comm (j*l.length),List.take_add,List.drop_drop]
       have G:(m - (j+1))*l.length+l.length=(m - j)*l.length:=by
        rw [← Nat.succ_mul];congr 1;omega
       rw [G]
       exact D.app K
     have E:=key m (Nat.le_refl _)
     rw [Nat.sub_self,Nat.zero_mul,List.drop_zero,← L,← a,List.take_length] at E
     exact E
    ·cases h
   ·cases h
  ·cases h
theorem TT {n:Nat} {t:TypeId} {ks:List LK} (b:Ee P n t=some ks) {v:Value} {d:DataW H} {p:List MemPlace} (h:DataW.Trod enc P w base spare held t v d p):fB ks v.cells.toList:=by
 obtain ⟨a,h⟩:=h
 exact Hf n t ks b a _ _ h
theorem Iw {v:Value} {l:List Value} (h:v.cells.toList=l) (a:l.length ≠ 1):v= .agg l.toArray:=by
 cases v with
 |agg cs=>
  have:cs.toList=l:=h
  rw [← this]
 |_=>subst h;simp [Value.cells] at a
end
end AM
namespace AM
open Go
def yf:Nat→Nat→List Bool
 |0,_=> []
 |n+1,k=>Nat.beq (k % 2) 1::yf n (k / 2)
def Yr:Nat→List Bool→List Bool
 |0,l=>l
 |n+1,l=>true::Yr n l
theorem jb.n (k:Nat) {l:List Bool} (h:jb l):jb (Yr k l):=by
 induction k with
 |zero=>exact h
 |succ k ih=>exact .t ih
theorem jb.k (k:Nat) {b:Bool} {l:List Bool} (a:b=true) (h:jb l):jb (Yr k (b::l)):= .n k (.c a h)
theorem tf (b:Bool):b=true∨b=false:=by cases b<;>simp
theorem aG {b:Bool} (h:b=true):lit true b=true:=h
theorem aF {b:Bool} (h:b=false):lit false b=true:=by subst h;rfl
theorem d_ {b:Bool} (h:b=false):lit true (!b)=true:=by subst h;rfl
theorem aW {b:Bool} (h:b=true):lit false (!b)=true:=by subst h;rfl
inductive PS (P:Program) (ap:AP):List Prop→List (jU × List aZ)→xR→List wB→Prop where
 |nil:PS P ap [] [] [] []
 |c {f:Nat} {args:List AV} {h h':List aZ} {out:jU} {ps:List Prop} {ans:List (jU × List aZ)} {lps:xR} {hs:List wB}:aA P ap f args h out h'→PS P ap ps ans lps hs→PS P ap (aA P ap f args h out h'::ps) (ans++ [(out,h')]) lps hs
 |l {h0:List aZ} {n:Nat} {code:Code} {s s':St} {e:bI} {ps:List Prop} {ans:List (jU × List aZ)} {lps:xR} {hs:List wB}:aK P ap h0 n code s e s'→PS P ap ps ans lps hs→PS P ap (aK P ap h0 n code s e s'::ps) ans (lps++ [(e,s')]) hs
 |v (d:Nat) {x y:AV} {ps:List Prop} {ans:List (jU × List aZ)} {lps:xR} {hs:List wB}:aU x y→PS P ap ps ans lps hs→PS P ap (aU x y::ps) ans lps (hs++ [.v d y])
 |b (d:Nat) {x y:List AV} {ps:List Prop} {ans:List (jU × List aZ)} {lps:xR} {hs:List wB}:x=y→PS P ap ps ans lps hs→PS P ap ((x=y)::ps) ans lps (hs++ [.b d y])
 |u (d:Nat) {x y:List (Option aZ)} {ps:List Prop} {ans:List (jU × List aZ)} {lps:xR} {hs:List wB}:x=y→PS P ap ps ans lps hs→PS P ap ((x=y)::ps) ans lps (hs++ [.u d])
theorem PS.all {P:Program} {ap:AP} {ps:List Prop} {ans:List (jU × List aZ)} {lps:xR} {hs:List wB} (h:PS P ap ps ans lps hs):qw ps:=by
 induction h with
 |nil=>exact .nil
 |c h _ ih=>exact .cons h ih
 |l h _ ih=>exact .cons h ih
 |v _ h _ ih=>exact .cons h ih
 |b _ h _ ih=>exact .cons h ih
 |u _ h _ ih=>exact .cons h ih
theorem ck {P:Program} {ap:AP} (g:Dx P ap) {ans:List (jU × List aZ)} {ps:List Prop} {f:Nat} {args:List AV} {h a:List aZ} {out:jU} (hp:PS P ap ps ans [] [])
  (he:uo ap (xJ P ap 3000 4) 3000 .dead f args h ⟨true,[],[],[],ans,[]⟩= .ok (out,a,.dead) ⟨true,[],[],ps,[],[]⟩):aA P ap f args h out a:=kY g hp.all he
theorem pk {P:Program} {ap:AP} (g:Dx P ap) (ls:List Nat) (n k:Nat) {ans:List (jU × List aZ)} {lps:xR} {hs:List wB} {bs:List Bool} {ps:List Prop} {f:Nat} {args:List AV} {h a:List aZ} {out:jU}
  (hb:jb bs) (hp:PS P ap ps ans lps hs) (he:Ku P ap (xJ P ap 3000 4) 3000 ls f args h lps ⟨false,yf n k,[],[],ans,hs⟩= .ok (out,a,.dead) ⟨false,[],bs,ps,[],[]⟩):aA P ap f args h out a:=by
 obtain ⟨c,b⟩:=lD g.apok g.mixed g.fnok 3000 4
 exact Kv g.apok g.mixed g.fnok c b he ⟨hb.mem,hp.all.mem⟩
def Jb (ap:AP) (f:Nat):List Nat:=match ap.fnAt f with|some F=>F.keep|none=> []
def QM (env:iI):R ((bI × St) × xR)→R ((bI × St) × xR)
 | .ok ((e,s),l) c=> .ok ((e,⟨env.map fun q=>(q.1,s.env.get q.1),s.hp,s.md,s.dfs⟩),l) c
 |r=>r
def OW (P:Program) (ap:AP) (h0:List aZ) (f nt0:Nat) (ls:List Nat) (code:Code) (s:St) (lps:xR) (orc:List Bool) (ans:List (jU × List aZ)) (hs:List wB) (env:iI):R ((bI × St) × xR):=
 match dH nt0 code with
 |true=>QM env (lM P ap (xJ P ap 3000 4) h0 (Jb ap f) 3000 nt0 ls code s lps ⟨false,orc,[],[],ans,hs⟩)
 |false=> .bad 0
theorem Wn (env a:iI):∀ t,iI.get (env.map fun q=>(q.1,a.get q.1)) t=a.get t∨iI.get (env.map fun q=>(q.1,a.get q.1)) t= .dead:=by
 intro t
 induction env with
 |nil=>exact .inr rfl
 | cons q r ih=>
  cases b:Nat.beq q.1 t with
  |true=>
   left
   have:=Nat.eq_of_beq_eq_true b
   subst this
   simp only [iI.get,List.map_cons,az,b,Option.getD_some]
  | false=>
   have e:iI.get (List.map (fun q=>(q.1,a.get q.1)) (q::r)) t=iI.get (List.map (fun q=>(q.1,a.get q.1)) r) t:=by
    simp only [iI.get,List.map_cons,az,b]
   rw [e];exact ih
theorem pj {P:Program} {ap:AP} (g:Dx P ap) (f:Nat) (ls:List Nat) (n k:Nat) {nt b:Nat} {ans:List (jU × List aZ)} {lps:xR} {hs:List wB} {bs:List Bool} {ps:List Prop} {a:Code} {s s':St} {d:List aZ} {e:bI}
  (hb:jb bs) (hp:PS P ap ps ans lps hs) (hn:b≤nt) (he:OW P ap d f b ls a s lps (yf n k) ans hs s'.env= .ok ((e,s'),[]) ⟨false,[],bs,ps,[],[]⟩):au P ap d nt a s e s':=by
 unfold OW at he
 split at he
 ·rename_i hd
  generalize p:lM P ap (xJ P ap 3000 4) d (Jb ap f) 3000 b ls a s lps ⟨false,yf n k,[],[],ans,hs⟩=r at he
  cases r with
  |ok q c=>
   obtain ⟨⟨o,l⟩,u⟩:=q
   simp only [QM,R.ok.injEq,Prod.mk.injEq] at he
   obtain ⟨⟨⟨rfl,h⟩,rfl⟩,rfl⟩:=he
   obtain ⟨j,t⟩:=lD g.apok g.mixed g.fnok 3000 4
   have i:au P ap d nt a s o l:=(uB g.apok g.mixed j hn a (dV hn a hd) _ _ _ _ _ p ⟨hb.mem,hp.all.mem⟩).2
   refine i.weak (aO.refl _) ?_
   rw [← h]
   exact ⟨Wn _ _,rfl,rfl,rfl⟩
  |need=>simp [QM] at he
  |bad n=>simp [QM] at he
 ·cases he
theorem aU.pp {xs d:List AV} {a:Nat} (h:List.drop a xs=d):aU (.pp xs a) (.pp d 0):=by
 subst h
 intro g m S v c
 simp only [VR,PR] at c ⊢
 obtain ⟨b,o,vs,rfl,hp,hs⟩:=c
 refine ⟨b,o+a,vs.drop a,rfl,qy a hp,fun j u e=> ?_⟩
 rw [List.getElem?_drop] at e
 have:=hs (a+j) u e
 rwa [← Nat.add_assoc] at this
theorem aU.ppt {xs d e:List AV} {a:Nat} (h:List.drop a xs=d++e):aU (.pp xs a) (.pp d 0):=by
 intro g m S v f
 have:=aU.pp h g m S v f
 simp only [VR,PR] at this ⊢
 obtain ⟨b,o,vs,rfl,hp,hs⟩:=this
 refine ⟨b,o,vs.take d.length,rfl, ?_,fun j u c=> ?_⟩
 ·have:=jY d.length hp
  rwa [List.take_left'] at this
  rfl
 ·rw [List.getElem?_take] at c
  split at c
  ·exact hs j u c
  ·cases c
theorem aU.eq {x y:AV} (h:x=y):aU x y:=h ▸ fun _ _ _ _ a=>a
theorem aU.rd (ks:List LK) {xs b c:List AV} {a:Nat} (h:List.drop a xs=b++c) (d:L8 true ks (b++c)=b):aU (.agg (uX true ks xs a)) (.agg b):= .eq (by unfold uX;rw [h,d])
theorem jb.a {l r:List Bool} (h:jb l) (a:jb r):jb (l++r):=by
 induction h with
 |nil=>exact a
 |t _ ih=>exact .t ih
 |c hb _ ih=>exact .c hb ih
theorem jb.of {l:List Bool} (h:l.all id=true):jb l:=by
 induction l with
 |nil=>exact .nil
 |cons b r ih=>
  simp only [List.all_cons,id,Bool.and_eq_true] at h
  exact .c h.1 (ih h.2)
theorem rU (ks:List LK) {xs c b:List AV} {a:Nat} (h:List.drop a xs=c++b) (d:(Vf true ks (c++b)).all id=true):jb (II true ks xs a):=by
 unfold II;rw [h];exact .of d
inductive YA:List AV→List AV→Prop where
 |nil:YA [] []
 |same {x:AV} {l r:List AV}:YA l r→YA (x::l) (x::r)
 |nilS {l r:List AV}:YA l r→YA (.nilS::l) (.sl [] 0 false::r)
 |sl {xs:List AV} {n:Nat} {a:Bool} {l r:List AV}:YA l r→YA (.sl xs n a::l) (.sl xs n false::r)
theorem YA.prl {S:aV} {l r:List AV} (h:YA l r):∀ {vs:List Value},dQ S l vs→dQ S r vs:=by
 induction h with
 |nil=>exact fun h=>h
 |same _ ih=>intro vs b;cases vs with|nil=>simp [dQ] at b|cons v vs=>simp only [dQ] at b ⊢;exact ⟨b.1,ih b.2⟩
 | nilS _ ih=>
  intro vs b
  cases vs with
  |nil=>simp [dQ] at b
  |cons v vs=>
   simp only [dQ,PR] at b ⊢
   exact ⟨⟨none,0,b.1,Nat.le_refl _,.inl (by simp)⟩,ih b.2⟩
 | @sl xs n a _ _ _ ih=>
  intro vs b
  cases vs with
  |nil=>simp [dQ] at b
  |cons v vs=>
   have c:=b
   simp only [dQ] at c ⊢
   refine ⟨?_,ih c.2⟩
   have d:=aU.sl xs n a (fun _=>none) (fun _=>(0,0)) S v (by simp only [VR];exact c.1)
   simpa only [VR] using d
theorem aU.slP {xs k:List AV} {n:Nat} {nn:Bool} (j:YA xs k):aU (.sl xs n nn) (.sl k n nn):=by
 intro g m S v i
 simp only [VR,PR] at i ⊢
 obtain ⟨a,c,rfl,l,h⟩:=i
 refine ⟨a,c,rfl,l, ?_⟩
 rcases h with ⟨e,d,f,q,p⟩|⟨b,o,vs,e,d,f⟩
 ·subst f
  cases j
  exact .inl ⟨e,d,rfl,q,p⟩
 ·exact .inr ⟨b,o,vs,e,j.prl d,f⟩
end AM
namespace AM
open Go
variable {P:Program} {ap:AP}
theorem au.norm {c:List aZ} {nt:Nat} {b:Code} {s d:St} {e:bI} (keep:List Nat) (r:∀ v,e= .panic v→(dP v).isEmpty=true) (h:au P ap c nt b s e d):au P ap c nt b s e (AM.norm c.length keep d):=by
 intro hs
 obtain ⟨q,k⟩:=h hs
 refine ⟨q,fun m0 S0 w0 m S w a f p Q j=>k m0 S0 w0 m S w a f p Q ?_⟩
 intro y S' w' o x t
 obtain ⟨u,l,n⟩:=sH (keep:=keep) x t
 have:=j u S' w' o l n
 clear j l n k
 generalize AM.norm c.length keep d=s2 at*
 cases e with
 |normal=>exact this
 |exit id=>exact this
 |ret=>exact this
 |panic v=>intro cv i;exact this cv (gX _ (mV (r v rfl) i))
def aiH:bI→Bool
 | .panic v=>(dP v).isEmpty
 |_=>true
def QI (base:Nat) (env:iI):R ((bI × St) × xR)→R ((bI × St) × xR)
 | .ok ((e,s),l) c=>match aiH e with
  |true=> .ok ((e,norm base (env.map fun q=>q.1) s),l) c
  |false=> .bad 1
 |r=>r
def OV (P:Program) (ap:AP) (h0:List aZ) (f nt0:Nat) (ls:List Nat) (code:Code) (s:St) (lps:xR) (orc:List Bool) (ans:List (jU × List aZ)) (hs:List wB) (env:iI):R ((bI × St) × xR):=
 match dH nt0 code with
 |true=>QI h0.length env (lM P ap (xJ P ap 3000 4) h0 (Jb ap f) 3000 nt0 ls code s lps ⟨false,orc,[],[],ans,hs⟩)
 |false=> .bad 0
theorem pn (g:Dx P ap) (f:Nat) (ls:List Nat) (n k:Nat) {nt b:Nat} {ans:List (jU × List aZ)} {lps:xR} {hs:List wB} {bs:List Bool} {ps:List Prop} {a:Code} {s s':St} {h:List aZ} {e:bI}
  (hb:jb bs) (hp:PS P ap ps ans lps hs) (hn:b≤nt) (he:OV P ap h f b ls a s lps (yf n k) ans hs s'.env= .ok ((e,s'),[]) ⟨false,[],bs,ps,[],[]⟩):au P ap h nt a s e s':=by
 unfold OV at he
 split at he
 ·rename_i hd
  generalize t:lM P ap (xJ P ap 3000 4) h (Jb ap f) 3000 b ls a s lps ⟨false,yf n k,[],[],ans,hs⟩=r at he
  cases r with
  | ok q c=>
   obtain ⟨⟨o,u⟩,y⟩:=q
   simp only [QI] at he
   split at he
   ·rename_i d
    simp only [R.ok.injEq,Prod.mk.injEq] at he
    obtain ⟨⟨⟨rfl,i⟩,rfl⟩,rfl⟩:=he
    obtain ⟨p,x⟩:=lD g.apok g.mixed g.fnok 3000 4
    have j:au P ap h nt a s o u:=(uB g.apok g.mixed p hn a (dV hn a hd) _ _ _ _ _ t ⟨hb.mem,hp.all.mem⟩).2
    have:=j.norm (s'.env.map fun q=>q.1) (fun v l=>by subst l;exact d)
    rwa [i] at this
   ·cases he
  |need=>simp [QI] at he
  |bad n=>simp [QI] at he
 ·cases he
end AM
namespace AM
open Go
variable {P:Program} {ap:AP}
def goL {α σ β:Type} (F:σ→α→σ ⊕ β) (fin:σ→β):List α→σ→β
 | [],s=>fin s
 |x::r,s=>match F s x with
  | .inl s'=>goL F fin r s'
  | .inr b=>b
theorem aI.goL {α σ β:Type} {d:List aZ} {nt:Nat} {b:Code} {e:β→bI} {st:Nat × σ→St} {out:β→St} (F:σ→α→σ ⊕ β) (a:σ→β) (L:List α) (Inv:List α→σ→Prop)
  (hstep:∀ p x r s,L=p++x::r→Inv p s→match F s x with
   | .inl s'=>au P ap d nt b (st (p.length,s)) .normal (st (p.length+1,s'))∧Inv (p++ [x]) s'
   | .inr q=>au P ap d nt b (st (p.length,s)) (e q) (out q))
  (hend:∀ s,Inv L s→au P ap d nt b (st (L.length,s)) (e (a s)) (out (a s))):
  ∀ (r p:List α) (s:σ),L=p++r→Inv p s→aI P ap d nt b e st out (p.length,s) (AM.goL F a r s):=by
 intro r
 induction r with
 |nil=>
  intro p s h f
  rw [List.append_nil] at h
  subst h
  exact .done (hend s f)
 | cons x r ih=>
  intro p s h f
  have c:=hstep p x r s h f
  simp only [AM.goL]
  cases j:F s x with
  |inl s'=>
   rw [j] at c
   have i:=ih (p++ [x]) s' (by rw [h];simp) c.2
   rw [List.length_append,List.length_singleton] at i
   exact .next c.1 i
  |inr q=>
   rw [j] at c
   exact .done c
end AM
namespace AM
open Go Go.WideShapes Go.ChangeShapes
theorem GR {a:Addr} (h:a.spot=none) (n:Nat):a.add n=⟨a.block,a.off+n,none⟩:=by
 unfold Addr.add
 obtain ⟨b,o,s⟩:=a
 simp only at h
 subst h
 split
 ·rename_i c;subst c;rfl
 ·rfl
section
variable {H:Type} {enc:TypeId × Value→H} {P:Program} {w:World} {base:Nat} {spare:Nat→Bool} {held:Bool}
theorem JZ {S:aV} {ks:List LK}:∀ (L:List (List Value)),(∀ x ∈ L,fB ks x)→dQ S (L.flatMap fun x=>x.map rO) L.flatten
 | [],_=>by simp [dQ]
 |x::r,h=>by
  rw [List.flatMap_cons,List.flatten_cons]
  exact nS (fB.pr (h x (by simp))) (JZ r fun y a=>h y (by simp [a]))
theorem Xm {ks:List LK}:∀ (L:List (List Value)),(∀ x ∈ L,fB ks x)→∀ u ∈ L.flatten,u.oneCell'=true:=by
 intro L h u a
 obtain ⟨x,b,a⟩:=List.mem_flatten.1 a
 exact fB.one (h x b) u a
theorem Xo {t e:TypeId} {n base':Nat} {ks:List LK} (C:P.underlying t=some (.slice e)) (W:Ee P n e=some ks) (T:P.cellsOf e=ks.length) {v:Value} {d:DataW H} {p:List MemPlace}
  (hv:Value.okWide P w .any base' t v) (h:DataW.Trod enc P w base spare held t v d p):∃ L:List (List Value),(∀ x ∈ L,fB ks x)∧PR (kQ w) (.sl (L.flatMap fun x=>x.map rO) L.length false) v:=by
 obtain ⟨K,len,i,rfl⟩:=okWide_slice C hv
 obtain ⟨M,h⟩:=h
 rcases DataW.trod_slice C h with ⟨f,_⟩|⟨a,l,y,elems,rest,m,_,f,_,_,U,Z,J,F,_,_⟩
 ·have:K=none∧len=0∧i=0:=by simpa [Value.cells] using f
  obtain ⟨rfl,rfl,rfl⟩:=this
  refine ⟨[],by simp, ?_⟩
  simp only [PR]
  exact ⟨none,0,rfl,Nat.le_refl _,.inl (by simp)⟩
 ·have:K=some a∧len=l∧i=y:=by simpa [Value.cells] using f
  obtain ⟨rfl,rfl,rfl⟩:=this
  have hspot:a.spot=none:=by
   simp only [Value.okWide,C,Cell.okWide,Cell.ok] at hv
   exact hv.2.2.2.1
  have key:∀ q,q≤len→∃ L:List (List Value),L.length=q∧(∀ x ∈ L,fB ks x)∧L.flatten.length=q*ks.length∧∀ j u,L.flatten[j]? =some u→kQ w a.block (a.off+j)=some u:=by
   intro q
   induction q with
   |zero=>intro _;exact ⟨[],rfl,by simp,by simp,by simp⟩
   | succ q ih=>
    intro X
    obtain ⟨L,A,r,B,I⟩:=ih (by omega)
    have N:=F q (by omega)
    rw [List.getElem?_eq_getElem (by omega)] at N
    obtain ⟨G,V,O⟩:=Option.bind_eq_some_iff.1 N
    have D:=Hf n e ks W _ _ _ O
    obtain ⟨_,Y,E⟩:=World.cells?_some V
    refine ⟨L++ [G],by simp [A], ?_, ?_, ?_⟩
    ·intro x k
     rcases List.mem_append.1 k with k|k
     ·exact r x k
     ·simp at k;subst k;exact D
    ·rw [List.flatten_append,List.length_append,B]
     have:=D.length
     simp only [List.flatten_cons,List.flatten_nil,List.append_nil]
     rw [← this,Nat.succ_mul]
    ·intro j u c
     rw [List.flatten_append,List.getElem?_append] at c
     split at c
     ·exact I j u c
     ·rename_i R
      simp only [List.flatten_cons,List.flatten_nil,List.append_nil] at c
      have Q:=(List.getElem?_eq_some_iff.1 c).1
      have z:=E (j - L.flatten.length) (by omega)
      rw [c,GR hspot,GR rfl] at z
      refine Io ?_ (fB.one D u (List.mem_of_getElem? c))
      rw [← z,B,T]
      congr 2
      have:q*ks.length≤j:=by rw [← B];omega
      simp only
      omega
  obtain ⟨L,A,r,B,I⟩:=key len (Nat.le_refl _)
  refine ⟨L,r, ?_⟩
  simp only [PR]
  refine ⟨some a,i,by rw [A],by rw [A];exact U,.inr ⟨a.block,a.off,L.flatten, ?_,JZ L r,fun j u c=> ⟨I j u c,Xm L r u (List.mem_of_getElem? c)⟩⟩⟩
  obtain ⟨b,o,s⟩:=a
  simp only at hspot
  subst hspot
  rfl
theorem Ti {α:Type} (f:α→List AV) {L:List (List Value)} (h:∀ x ∈ L,∃ a,x.map rO=f a):∃ l:List α,(L.flatMap fun x=>x.map rO)=l.flatMap f∧L.length=l.length:=by
 induction L with
 |nil=>exact ⟨[],rfl,rfl⟩
 |cons x r ih=>
  obtain ⟨a,d⟩:=h x (by simp)
  obtain ⟨l,c,b⟩:=ih fun y e=>h y (by simp [e])
  exact ⟨a::l,by rw [List.flatMap_cons,List.flatMap_cons,d,c],by simp [b]⟩
end
end AM
namespace AM
open Go
inductive HpS (b:Nat) (B:aZ):Hp→Hp→Prop
 |nil:HpS b B [] []
 |cons {c:Nat} {C D:aZ} {r l:Hp}:Nr b B D C→c ≠ b→HpS b B r l→HpS b B ((c,C)::r) ((c,D)::l)
inductive HpY (b:Nat) (B:aZ):Hp→Hp→Prop
 |here {r l:Hp}:HpS b B r l→HpY b B r ((b,B)::l)
 |step {c:Nat} {C D:aZ} {r l:Hp}:Nr b B D C→c ≠ b→HpY b B r l→HpY b B ((c,C)::r) ((c,D)::l)
section
variable {P:Program} {ap:AP}
end
end AM
namespace AM
open Go
section
variable {P:Program} {ap:AP} {H:di}
inductive UW (P:Program) (ap:AP) (H:di) (n:Nat) (ops:List Oper) (o:Oper) (b d:Nat) (rt:List Nat) (env:iI) (v:AV):List aZ→Prop where
 |nil:UW P ap H n ops o b d rt env v []
 | cons {B:aZ} {r:List aZ} {c2 c3:Cx} {t:RS}:Rk ap H n ops o {env,hp:= [(b,B)],md:= .dead,dfs:= [],dec:= [],feet:= []} c2= .ok (t,none) c3→c3.Ok→t.feet= [{rt:=rt,wt:= [d],rb:= [b],wb:= []}]→t.dfs= []→t.env.get d=v→
   UW P ap H n ops o b d rt env v r→UW P ap H n ops o b d rt env v (B::r)
end
end AM
namespace AM
open Go Go.WideShapes Go.ChangeShapes
section
variable {H:Type} {enc:TypeId × Value→H} {P:Program} {w:World} {base:Nat} {spare:Nat→Bool} {held:Bool}
theorem BH {t u:TypeId} {ts:List TypeId} (c:(∃ l,P.underlying t=some (.struct l))∨∃ n e,P.underlying t=some (.array n e)) (k:P.cellTypes P.depth t=some ts) {d:Array Value} {base':Nat} (h:Value.okWide P w .any base' t (.agg d)) {i:Nat} {v:Value} (o:d[i]? =some v) (q:ts[i % ts.length]? =some u):Cell.okWide P w .any base' u v:=by
 have key:Row.okWide P w .any base' t d:=by
  rcases c with ⟨l,c⟩|⟨n,e,c⟩
  ·simp only [Value.okWide,c] at h
   obtain ⟨j,a,f,b⟩:=h
   cases a;exact b
  ·simp only [Value.okWide,c] at h
   obtain ⟨j,a,f,b⟩:=h
   cases a;exact b
 obtain ⟨r,a,_,f⟩:=key
 rw [k] at a;cases a
 obtain ⟨s,b,p⟩:=f i v o
 rw [q] at b;cases b
 exact p
theorem TR {u e:TypeId} (a:P.underlying u=some (.slice e)) {base':Nat} {v:Value} (h:Cell.okWide P w .any base' u v):Value.okWide P w .any base' u v:=by
 simp only [Value.okWide,a];exact h
theorem ML {u e:TypeId} (b:P.underlying u=some (.slice e)) {base':Nat} {v:Value} (h:Value.okWide P w .any base' u v):v.cells.toList= [v]:=by
 obtain ⟨a,l,c,rfl⟩:=okWide_slice b h
 rfl
end
end AM
