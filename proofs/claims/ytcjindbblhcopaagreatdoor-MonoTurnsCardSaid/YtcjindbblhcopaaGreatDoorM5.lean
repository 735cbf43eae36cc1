/- The abstract machine over the code of the model, and the proof that it is sound. No conditions. -/
import Derived.Test.YtcjindbblhcopaaGreatDoorM4
import Derived.ChangeArms
import Derived.WideShapes
set_option linter.unusedSimpArgs false
set_option linter.unusedVariables false
namespace AM
open Go
structure aK (s s':St):Prop where
 env:∀ t,s.env.get t=s'.env.get t∨s.env.get t= .dead
 hp:s.hp=s'.hp
 md:s.md=s'.md
 dfs:s.dfs=s'.dfs
theorem aK.refl (s:St):aK s s:=⟨fun _=> .inl rfl,rfl,rfl,rfl⟩
def Ef:dY→(Nat→AV)→Prop
 | [],_=>True
 |(t,v)::r,f=>(f t=v)∧Ef r f
theorem qd {f:Nat→AV}:∀ {e:dY},Ef e f→∀ t,e.get t=f t∨e.get t= .dead
 | [],_,t=> .inr rfl
 | (u,v)::r,h,t=>by
  simp only [Ef] at h
  simp only [dY.get,look]
  cases hb:Nat.beq u t with
  |true=>
   have:=ax hb
   subst this
   exact .inl h.1.symm
  |false=>exact qd h.2 t
theorem aK.of {e e':dY} {hp:Hp} {md:AV} {dfs:List (Nat × List AV)} (h:Ef e e'.get):aK {env:=e,hp,md,dfs} {env:=e',hp,md,dfs}:=⟨qd h,rfl,rfl,rfl⟩
section
variable {P:Program} {ap:AP} {H:bA}
theorem FR.less {s s':St} (h:aK s s') {nt:Nat} {m:aN} {S:aJ} {w:World} {a:Act} (hF:FR ap s'.env s'.hp s'.dfs nt m S w a):FR ap s.env s.hp s.dfs nt m S w a:=by
 refine ⟨h.hp ▸ hF.srel,fun t=> ?_, ?_,hF.size⟩
 ·rcases h.env t with e|e
  ·rw [e,h.hp];exact hF.env t
  ·rw [e];simp [VR]
 ·rw [h.hp,h.dfs];exact hF.dfs
theorem ah.weak {h0:List aL} {nt:Nat} {code:Code} {s s' r r':St} {e:a_} (h:ah P ap h0 nt code s e r) (hs:aK s s') (hr:aK r' r):ah P ap h0 nt code s' e r':=by
 intro hmd
 obtain ⟨h3,h4⟩:=h (hs.md ▸ hmd)
 refine ⟨hr.md ▸ h3,fun m0 S0 w0 m S w a hfr hF Q hQ=>h4 m0 S0 w0 m S w a (by rw [hs.hp];exact hfr) (hF.less hs) Q ?_⟩
 intro m' S' w' a' h5 h6
 have:=hQ m' S' w' a' (by rw [hr.hp];exact h5) (h6.less hr)
 cases e with
 |normal=>exact this
 |exit id=>exact this
 |ret=>exact this
 |panic v=>intro cv hcv;exact this cv (by rw [hr.hp];exact hcv)
inductive aw (P:Program) (ap:AP) (h0:List aL) (nt:Nat) (b:Code) {α β:Type} (e:β→a_) (st:α→St) (out:β→St):α→β→Prop where
 |done {a:α} {r:β}:ah P ap h0 nt b (st a) (e r) (out r)→aw P ap h0 nt b e st out a r
 |next {a a':α} {r:β}:ah P ap h0 nt b (st a) .normal (st a')→aw P ap h0 nt b e st out a' r→aw P ap h0 nt b e st out a r
theorem aw.rounds {h0:List aL} {nt:Nat} {b:Code} {α β:Type} {e:β→a_} {st:α→St} {out:β→St} {a:α} {r:β} (hne:e r ≠ .normal) (h:aw P ap h0 nt b e st out a r):(st a).md= .dead→(out r).md= .dead∧∃ n,∀ m0 S0 w0 m S w c,Fr (aS h0) m0 S0 w0 (look (st a).hp) m S w→FR ap (st a).env (st a).hp (st a).dfs nt m S w c→∀ Q,XA ap h0 m0 S0 w0 nt (out r) (e r) Q→Code.rounds P b Q n c w:=by
 induction h with
 |@done a r hx=>
  intro hmd
  obtain ⟨h3,h4⟩:=hx hmd
  refine ⟨h3,1,fun m0 S0 w0 m S w c hfr hF Q hQ=>h4 m0 S0 w0 m S w c hfr hF _ ?_⟩
  intro m' S' w' a' h5 h6
  have:=hQ m' S' w' a' h5 h6
  revert hne this
  cases e r with
  |normal=>intro hne _;exact absurd rfl hne
  |exit id=>intro _ h;exact h
  |ret=>intro _ h;exact h
  |panic v=>intro _ h;exact h
 |next hx _ ih=>
  intro hmd
  obtain ⟨h3,h4⟩:=hx hmd
  obtain ⟨h5,n,h6⟩:=ih hne h3
  refine ⟨h5,n+1,fun m0 S0 w0 m S w c hfr hF Q hQ=>h4 m0 S0 w0 m S w c hfr hF _ ?_⟩
  intro m' S' w' a' h7 h8
  exact h6 m0 S0 w0 m' S' w' a' h7 h8 Q hQ
theorem aw.ok {h0:List aL} {nt:Nat} {b:Code} {α β:Type} {e:β→a_} {st:α→St} {out:β→St} {a:α} {r:β} (hne:e r ≠ .normal) (h:aw P ap h0 nt b e st out a r):ah P ap h0 nt (.loop b) (st a) (e r) (out r):=by
 intro hmd
 obtain ⟨h3,n,h4⟩:=h.rounds hne hmd
 exact ⟨h3,fun m0 S0 w0 m S w c hfr hF Q hQ=>wp_loop_rounds n (h4 m0 S0 w0 m S w c hfr hF Q hQ)⟩
theorem aw.blk {h0:List aL} {n id:Nat} {b:Code} {α β:Type} {e:β→a_} {st:α→St} {out:β→St} {a:α} {r:β} {s s':St} {e':a_} (h:∀ nt,n≤nt→aw P ap h0 nt b e st out a r) (hne:e r ≠ .normal) (he:jz id (e r)=e') (hs:aK (st a) s) (hr:aK s' (out r)):az P ap h0 n (.block id (.loop b)) s e' s':=by
 intro nt hn
 have h1:=((h nt hn).ok hne).block (id:=id)
 rw [he] at h1
 exact h1.weak hs hr
def jy (id:Nat):Code→Option Code
 | .seq a b=>match jy id a with|some c=>some c|none=>jy id b
 | .cond _ a b=>match jy id a with|some c=>some c|none=>jy id b
 | .block i b=>match Nat.beq i id with|true=>some b|false=>jy id b
 | .loop b=>jy id b
 | .scope b=>jy id b
 |_=>none
def aa (id:Nat) (c:Code):Code:=match jy id c with|some (.loop b)=>b|_=> .skip
def mM (id:Nat):Code→Code
 | .seq a b=>match mM id a with| .region i o d=> .region i o d|_=>mM id b
 | .cond _ a b=>match mM id a with| .region i o d=> .region i o d|_=>mM id b
 | .block _ b=>mM id b
 | .loop b=>mM id b
 | .scope b=>mM id b
 | .region i o d=>match Nat.beq i id with|true=> .region i o d|false=> .skip
 |_=> .skip
end
end AM
namespace AM
open Go
def lT (x y:List AV):Prop:=∀ g m S v,aQ g m S x v→aQ g m S y v
def nB:AV→Bool
 | .own _ _ _=>false
 | .tup _=>false
 |_=>true
theorem aM.refl (x:AV):aM x x:=fun _ _ _ _ h=>h
theorem lT.refl (x:List AV):lT x x:=fun _ _ _ _ h=>h
theorem lT.nil:lT [] []:=lT.refl []
theorem lT.cons {x y:AV} {l r:List AV} (h:aM x y) (h':lT l r):lT (x::l) (y::r):=by
 intro g m S v hv
 cases v with
 |nil=>simp [aQ] at hv
 |cons u vs=>simp only [aQ] at hv ⊢;exact ⟨h g m S u hv.1,h' g m S vs hv.2⟩
theorem aM.nilS (nn:Bool) (h:nn=false):aM .nilS (.sl [] 0 nn):=by
 subst h
 intro g m S v hv
 simp only [VR,PR] at hv ⊢
 exact ⟨none,0,hv,Nat.le_refl _,.inl (by simp)⟩
theorem aM.sl (xs:List AV) (n:Nat) (a:Bool):aM (.sl xs n a) (.sl xs n false):=by
 intro g m S v hv
 simp only [VR,PR] at hv ⊢
 obtain ⟨a,cap,e,hle,q⟩:=hv
 refine ⟨a,cap,e,hle, ?_⟩
 rcases q with ⟨h1,_,h3⟩|q
 ·exact .inl (by simp [h1,h3])
 ·exact .inr q
theorem aM.dead (x:AV):aM x .dead:=fun _ _ _ _ _=>by simp only [VR]
section
variable {P:Program} {ap:AP}
theorem ai.args {f:Nat} {args args':List AV} {h h':List aL} {out:gb} (hf:lT args' args) (hc:ai P ap f args h out h'):ai P ap f args' h out h':=
 ⟨hc.len,hc.ent,fun m S w cargs hS hv=>hc.calls m S w cargs hS (hf _ _ _ _ hv)⟩
def fO (out out':gb):Prop:=(∀ n,gz n out=gz n out')∧∀ h' m' S' e,NY h' m' S' out e→NY h' m' S' out' e
theorem ai.out {f:Nat} {args:List AV} {h h':List aL} {out out':gb} (ho:fO out out') (hc:ai P ap f args h out h'):ai P ap f args h out' h':=
 ⟨hc.len,hc.ent,fun m S w cargs hS hv=>(hc.calls m S w cargs hS hv).mono fun e w' ⟨m',S',hF⟩=> ⟨m',S',ho.1 _ ▸ hF.srel,ho.1 _ ▸ hF.fr,ho.2 _ _ _ _ hF.out⟩⟩
theorem fU {x:AV} (h:nB x=true):∀ xs k e,x ≠ .own xs k e:=by intro xs k e he;subst he;cases h
theorem nC {x:AV} (h:nB x=true):∀ l,x ≠ .tup l:=by intro l he;subst he;cases h
theorem fO.ret {x y:AV} (hx:nB x=true) (hy:nB y=true) (h:aM x y):fO (.ret x) (.ret y):=by
 refine ⟨fun n=> ?_,fun h' m' S' e he=> ?_⟩
 ·simp only [gz,eW n (fU hx) (nC hx),eW n (fU hy) (nC hy)]
 ·obtain ⟨cv,e1,h1⟩:=he
  refine ⟨cv,e1, ?_⟩
  rw [gF (fU hx) (nC hx)] at h1
  rw [gF (fU hy) (nC hy)]
  exact h _ _ _ _ h1
inductive w_:List AV→List AV→Prop where
 |nil:w_ [] []
 |same {x:AV} {l r:List AV}:w_ l r→w_ (x::l) (x::r)
 |fit {x y:AV} {l r:List AV}:nB x=true→nB y=true→aM x y→w_ l r→w_ (x::l) (y::r)
theorem w_.blocks {l r:List AV} (h:w_ l r):∀ n,(dc n l).2=(dc n r).2:=by
 induction h with
 |nil=>intro n;rfl
 |@same x l r _ ih=>
  intro n
  rcases fo x with ⟨xs,k,e,rfl⟩|hx
  ·simp only [dc];rw [ih]
  ·rw [aT n hx,aT n hx];exact ih n
 |fit hx hy _ _ ih=>
  intro n
  rw [aT n (fU hx),aT n (fU hy)]
  exact ih n
theorem w_.outR {gh gf:bL} {m:aN} {S:aJ} {l r:List AV} (h:w_ l r):∀ (n:Nat) (vs:List Value),fu gh gf m S n l vs→fu gh gf m S n r vs:=by
 induction h with
 |nil=>intro n vs hv;exact hv
 | @same x l r _ ih=>
  intro n vs hv
  cases vs with
  |nil=>simp [fu] at hv
  |cons v vs=>
   rcases fo x with ⟨xs,k,e,rfl⟩|hx
   ·simp only [fu] at hv ⊢;exact ⟨hv.1,ih _ _ hv.2⟩
   ·rw [bu hx] at hv ⊢;exact ⟨hv.1,ih _ _ hv.2⟩
 | fit hx hy hf _ ih=>
  intro n vs hv
  cases vs with
  |nil=>simp [fu] at hv
  |cons v vs=>
   rw [bu (fU hx)] at hv
   rw [bu (fU hy)]
   exact ⟨hf _ _ _ _ hv.1,ih _ _ hv.2⟩
theorem fO.tup {l r:List AV} (h:w_ l r):fO (.ret (.tup l)) (.ret (.tup r)):=by
 refine ⟨fun n=> ?_,fun h' m' S' e he=> ?_⟩
 ·simp only [gz,fL];exact h.blocks n
 ·obtain ⟨cv,e1,h1⟩:=he
  refine ⟨cv,e1, ?_⟩
  simp only [pA] at h1 ⊢
  obtain ⟨vs,e2,q⟩:=h1
  have hb:(fL h'.length (.tup l)).2=(fL h'.length (.tup r)).2:=by simp only [fL];exact h.blocks _
  refine ⟨vs,e2, ?_⟩
  rw [hb] at q
  exact h.outR _ _ q
end
end AM
namespace AM
open Go
def thaw:AV→AV
 | .own xs n e=> .sl (xs.take (n*e)) n true
 |x=>x
def qC:gb→gb
 | .ret (.tup l)=> .ret (.tup (l.map thaw))
 | .ret x=> .ret (thaw x)
 | .pan v=> .pan v
theorem wF {x:AV} (h:∀ xs k e,x ≠ .own xs k e):thaw x=x:=by
 cases x<;>first|rfl|exact absurd rfl (h _ _ _)
theorem kJ (x:AV):∀ xs k e,thaw x ≠ .own xs k e:=by
 intro xs k e h
 cases x<;>simp [thaw] at h
theorem oW:∀ (l:List AV) (n:Nat),(dc n (l.map thaw)).2= []
 | [],_=>rfl
 |x::r,n=>by rw [List.map_cons,aT n (kJ x)];exact oW r n
section
variable {P:Program} {ap:AP}
theorem ru {gh gf g':bL} {m:aN} {S S':aJ} {w:World} (hS:br ap gf m S w) {rd:bL} (hrd:∀ b B,rd b=some B→gf b=some B) (hle:S'=bO S m rd w) (hother:∀ x v,VR gh m S x v→VR g' m S' x v):
  ∀ (l:List AV) (n:Nat) (vs:List Value),(∀ i B,(dc n l).2[i]? =some B→rd (n+i)=some B)→fu gh gf m S n l vs→fu g' g' m S' n (l.map thaw) vs
 | [],n,vs,_,h=>by cases vs with|nil=>trivial|cons _ _=>simp [fu] at h
 |x::r,n,[],_,h=>by
  exfalso
  rcases fo x with ⟨xs,k,e,rfl⟩|hx
  ·simp [fu] at h
  ·cases x<;>simp [fu] at h
 | x ::r,n,v::vs,hb,h=>by
  rcases fo x with ⟨xs,k,e,rfl⟩|hx
  ·simp only [fu] at h
   simp only [dc] at hb
   have h0:=hb 0 _ rfl
   rw [Nat.add_zero] at h0
   have hf:frz rd 6 (.ref n 0 0 k)=some (.sl (xs.take (k*e)) k true):=by
    simp [frz,h0,zR]
   have h1:=gH hS hrd 6 _ _ _ hf h.1
   rw [List.map_cons,bu (kJ _)]
   refine ⟨d_ _ (hle ▸ h1), ?_⟩
   have h2:=ru hS hrd hle hother r (n+1) vs (fun i B hi=>by rw [show n+1+i=n+(i+1) by omega];exact hb (i+1) B (by simpa using hi)) h.2
   have key:∀ (l:List AV) (a b:Nat) (vs:List Value),(∀ x ∈ l,∀ xs k e,x ≠ .own xs k e)→fu g' g' m S' a l vs→fu g' g' m S' b l vs:=by
    intro l
    induction l with
    |nil=>intro a b vs _ h;cases vs with|nil=>trivial|cons _ _=>simp [fu] at h
    | cons y q ih=>
     intro a b vs hl h
     cases vs with
     |nil=>cases y<;>simp [fu] at h
     |cons u us=>
      have hy:=hl y (by simp)
      rw [bu hy] at h ⊢
      exact ⟨h.1,ih a b us (fun x hx=>hl x (by simp [hx])) h.2⟩
   refine key _ (n+1) n vs ?_ h2
   intro y hy
   obtain ⟨z,_,rfl⟩:=List.mem_map.1 hy
   exact kJ z
  ·rw [bu hx] at h
   rw [aT n hx] at hb
   rw [List.map_cons,bu (kJ x),wF hx]
   exact ⟨hother _ _ h.1,ru hS hrd hle hother r n vs hb h.2⟩
theorem ai.thaw {f:Nat} {args:List AV} {h h':List aL} {out:gb} (hp:∀ B ∈ h',B.pr=true) (hc:ai P ap f args h out h'):ai P ap f args h (qC out) h':=by
 refine ⟨hc.len,hc.ent,fun m S w cargs hS hv=>(hc.calls m S w cargs hS hv).mono ?_⟩
 rintro e w' ⟨m',S',hF⟩
 obtain ⟨hsr,hfr,hout⟩:=hF
 have hB0:∀ n,gz n (qC out)= []:=by
  intro n
  cases out with
  |pan v=>rfl
  | ret x=>
   rcases rK x with ⟨l,rfl⟩|ht
   ·simp only [qC,gz,fL];exact oW l n
   ·have:qC (.ret x)= .ret (AM.thaw x):=by cases x<;>first|rfl|exact absurd rfl (ht _)
    rw [this]
    simp only [gz]
    have hnt:∀ l,AM.thaw x ≠ .tup l:=by intro l hl;cases x<;>simp [AM.thaw] at hl;exact ht _ rfl
    rw [eW n (kJ x) hnt]
 let rd:bL:=fun b=>if h'.length≤b then aS (h'++gz h'.length out) b else none
 have hrd:∀ b B,rd b=some B→aS (h'++gz h'.length out) b=some B:=by
  intro b B hb
  simp only [rd] at hb
  split at hb
  ·exact hb
  ·cases hb
 have hle:=iJ S' m' rd w'
 have hlow:∀ b B,aS h' b=some B→aS (h'++gz h'.length out) b=some B:=by
  intro b B hb
  have:b<h'.length:=(List.getElem?_eq_some_iff.1 hb).1
  rw [cT this];exact hb
 have hother:∀ x v,VR (aS h') m' S' x v→VR (aS (h'++gz h'.length (qC out))) m' (bO S' m' rd w') x v:=by
  intro x v hx
  rw [hB0,List.append_nil]
  exact jt hle (Ge.refl _ _) x hx
 refine ⟨m',bO S' m' rd w', ?_, ?_, ?_⟩
 ·rw [hB0,List.append_nil]
  refine ⟨fun b b' B B' hb hb'=>hsr.inj b b' B B' (hlow b B hb) (hlow b' B' hb'), ?_,fun k o v hv=>jF hsr hv, ?_, ?_⟩
  ·intro b B hb
   obtain ⟨⟨cur,e,vs,rest,h1,h2,h3,h4,h5,h6⟩,hz,hzl⟩:=hsr.blk b B (hlow b B hb)
   have hpr:=hp B (List.mem_of_getElem? hb)
   refine ⟨⟨cur,e,vs,rest,h1,h2,fun _=>aX hle _ (h3 hpr),bh _ (aX hle _ (h3 hpr)),h5,h6⟩,hz,hzl⟩
  ·intro b B hb o v hv
   rcases dh hv with h1|⟨h1,b',B',h2,h3,h4⟩
   ·exact hsr.own b B (hlow b B hb) o v h1
   ·have:=hsr.inj b b' B B' (hlow b B hb) (hrd _ _ h2) h3.symm
    subst this
    have hlt:b<h'.length:=(List.getElem?_eq_some_iff.1 hb).1
    simp only [rd] at h2
    rw [if_neg (by omega)] at h2
    cases h2
  ·intro k xs hk
   obtain ⟨vs,h1,h2⟩:=hsr.glob k xs hk
   exact ⟨vs,aX hle _ h1,h2.mono hle⟩
 ·rw [hB0,List.append_nil]
  refine ⟨?_,iC.trans hfr.sle hle,hfr.os,hfr.tape,hfr.output,hfr.size,hfr.rest,fun b B hb=>hfr.img b B (hlow b B hb), ?_⟩
  ·intro b B hb
   obtain ⟨B',h1,h2⟩:=hfr.ge b B hb
   have hlt:b<h'.length:=Nat.lt_of_lt_of_le (List.getElem?_eq_some_iff.1 hb).1 hc.len
   rw [cT hlt] at h1
   exact ⟨B',h1,h2⟩
  ·intro k o v hv
   rcases dh hv with h1|⟨h1,b',B',h2,h3,h4⟩
   ·exact hfr.sealN k o v h1
   ·rcases hfr.img b' B' (hrd _ _ h2) with h5|⟨B0,h5,_⟩
    ·exact .inr (.inl (h3 ▸ h5))
    ·exfalso
     have hlt:b'<h.length:=(List.getElem?_eq_some_iff.1 h5).1
     simp only [rd] at h2
     rw [if_neg (by have:=hc.len;omega)] at h2
     cases h2
 ·have hidx:∀ l,out= .ret (.tup l)→∀ i B,(dc h'.length l).2[i]? =some B→rd (h'.length+i)=some B:=by
   intro l hl i B hi
   subst hl
   simp only [rd]
   rw [if_pos (by omega),eQ (by omega),show h'.length+i - h'.length=i by omega]
   exact hi
  cases out with
  |pan v=>
   obtain ⟨cv,e1,h1⟩:=hout
   refine ⟨cv,e1, ?_⟩
   have:=hother v cv h1
   rwa [hB0,List.append_nil] at this
  | ret x=>
   obtain ⟨cv,e1,h1⟩:=hout
   rcases rK x with ⟨l,rfl⟩|ht
   ·simp only [pA] at h1
    obtain ⟨vs,e2,q⟩:=h1
    refine ⟨cv,e1, ?_⟩
    simp only [pA]
    refine ⟨vs,e2, ?_⟩
    have hb:(fL h'.length (.tup (l.map AM.thaw))).2= []:=by simp only [fL];exact oW l _
    rw [hb,List.append_nil]
    have:=ru (gh:=aS h') (g':=aS h') hsr hrd rfl (fun x v hx=>jt hle (Ge.refl _ _) x hx) l h'.length vs (hidx l rfl) q
    exact this
   ·have e3:qC (.ret x)= .ret (AM.thaw x):=by cases x<;>first|rfl|exact absurd rfl (ht _)
    have hnt:∀ l,AM.thaw x ≠ .tup l:=by intro l hl;cases x<;>simp [AM.thaw] at hl;exact ht _ rfl
    rw [e3]
    refine ⟨cv,e1, ?_⟩
    rw [gF (kJ x) hnt]
    rcases fo x with ⟨xs,k,e,rfl⟩|hx
    ·simp only [pA] at h1
     have h0:rd h'.length=some (zR xs e):=by
      simp only [rd]
      rw [if_pos (Nat.le_refl _),eQ (Nat.le_refl _),Nat.sub_self]
      rfl
     have hf:frz rd 6 (.ref h'.length 0 0 k)=some (.sl (xs.take (k*e)) k true):=by
      simp [frz,h0,zR]
     have:=gH hsr hrd 6 _ _ _ hf h1
     exact d_ _ this
    ·rw [gF hx ht] at h1
     rw [wF hx]
     exact jt hle (Ge.refl _ _) x h1
end
end AM
namespace AM
open Go
structure jU (s s':St):Prop where
 env:∀ t,aM (s'.env.get t) (s.env.get t)
 hp:s.hp=s'.hp
 md:s.md=s'.md
 dfs:s.dfs=s'.dfs
theorem jU.refl (s:St):jU s s:=⟨fun _=>aM.refl _,rfl,rfl,rfl⟩
def zj:dY→(Nat→AV)→Prop
 | [],_=>True
 |(t,v)::r,f=>aM (f t) v∧zj r f
theorem nY {f:Nat→AV}:∀ {e:dY},zj e f→∀ t,aM (f t) (e.get t)
 | [],_,t=>aM.dead _
 | (u,v)::r,h,t=>by
  simp only [zj] at h
  simp only [dY.get,look]
  cases hb:Nat.beq u t with
  |true=>
   have:=ax hb
   subst this
   exact h.1
  |false=>exact nY h.2 t
theorem jU.of {e e':dY} {hp:Hp} {md:AV} {dfs:List (Nat × List AV)} (h:zj e e'.get):jU {env:=e,hp,md,dfs} {env:=e',hp,md,dfs}:=⟨nY h,rfl,rfl,rfl⟩
section
variable {P:Program} {ap:AP}
theorem FR.lessF {s s':St} (h:jU s s') {nt:Nat} {m:aN} {S:aJ} {w:World} {a:Act} (hF:FR ap s'.env s'.hp s'.dfs nt m S w a):FR ap s.env s.hp s.dfs nt m S w a:=by
 refine ⟨h.hp ▸ hF.srel,fun t=> ?_, ?_,hF.size⟩
 ·have:=h.env t _ _ _ _ (hF.env t)
  rw [h.hp];exact this
 ·rw [h.hp,h.dfs];exact hF.dfs
theorem ah.weakF {h0:List aL} {nt:Nat} {code:Code} {s s' r r':St} {e:a_} (h:ah P ap h0 nt code s e r) (hs:jU s s') (hr:jU r' r):ah P ap h0 nt code s' e r':=by
 intro hmd
 obtain ⟨h3,h4⟩:=h (hs.md ▸ hmd)
 refine ⟨hr.md ▸ h3,fun m0 S0 w0 m S w a hfr hF Q hQ=>h4 m0 S0 w0 m S w a (by rw [hs.hp];exact hfr) (hF.lessF hs) Q ?_⟩
 intro m' S' w' a' h5 h6
 have:=hQ m' S' w' a' (by rw [hr.hp];exact h5) (h6.lessF hr)
 cases e with
 |normal=>exact this
 |exit id=>exact this
 |ret=>exact this
 |panic v=>intro cv hcv;exact this cv (by rw [hr.hp];exact hcv)
theorem aw.blkF {h0:List aL} {n id:Nat} {b:Code} {α β:Type} {e:β→a_} {st:α→St} {out:β→St} {a:α} {r:β} {s s':St} {e':a_} (h:∀ nt,n≤nt→aw P ap h0 nt b e st out a r) (hne:e r ≠ .normal) (he:jz id (e r)=e') (hs:jU (st a) s) (hr:jU s' (out r)):az P ap h0 n (.block id (.loop b)) s e' s':=by
 intro nt hn
 have h1:=((h nt hn).ok hne).block (id:=id)
 rw [he] at h1
 exact h1.weakF hs hr
end
end AM
namespace AM
open Go
def pX (b:Nat) (c v:Nat):Option (Nat × Nat):=match Nat.beq c b with|true=>none|false=>some (c,v)
inductive Fz (b:Nat) (B:aL):AV→AV→Prop
 |ren {x:AV}:Fz b B x (ren (pX b) x)
 |ref {i n:Nat}:Fz b B (.ref b B.ver i n) (.sl ((B.cells.drop (i*B.esz)).take (n*B.esz)) n true)
 |fit {x y z:AV}:Fz b B x y→aM y z→Fz b B x z
inductive Ng (b:Nat) (B:aL):List AV→List AV→Prop
 |nil:Ng b B [] []
 |cons {x y:AV} {l r:List AV}:Fz b B x y→Ng b B l r→Ng b B (x::l) (y::r)
theorem Fz.same {b:Nat} {B:aL} {x:AV} (h:AM.ren (pX b) x=x):Fz b B x x:=by
 have:=Fz.ren (b:=b) (B:=B) (x:=x)
 rwa [h] at this
theorem Fz.dead {b:Nat} {B:aL} (x:AV):Fz b B x .dead:= .fit .ren (aM.dead _)
theorem Ng.length {b:Nat} {B:aL} {l r:List AV} (h:Ng b B l r):l.length=r.length:=by
 induction h with
 |nil=>rfl
 |cons _ _ ih=>simp [ih]
structure gS (b:Nat) (B:aL) (C C':aL):Prop where
 ver:C'.ver=C.ver
 fro:C'.fro=C.fro
 fz:C'.fz=C.fz
 esz:C'.esz=C.esz
 body:(C.pr=true∧C'.cells=C.cells∧C'.pr=true)∨(Ng b B C.cells C'.cells∧(C'.pr=true→(bq C'.cells).isEmpty=true))
theorem gS.same {b:Nat} {B C:aL} (hp:C.pr=true):gS b B C C:=⟨rfl,rfl,rfl,rfl,.inl ⟨hp,rfl,hp⟩⟩
theorem gS.length {b:Nat} {B C C':aL} (h:gS b B C C'):C.cells.length=C'.cells.length:=by
 rcases h.body with ⟨_,e,_⟩|⟨e,_⟩
 ·rw [e]
 ·exact e.length
section
variable {P:Program} {ap:AP} {g:bL} {m:aN} {S:aJ} {w:World}
def iw (b:Nat) (B:aL):bL:=fun c=>match Nat.beq c b with|true=>some B|false=>none
theorem ld {b c:Nat} {B C:aL} (h:iw b B c=some C):c=b∧C=B:=by
 unfold iw at h
 split at h
 ·rename_i hb;cases h;exact ⟨ax hb,rfl⟩
 ·cases h
theorem Dx (b:Nat) (B:aL):iw b B b=some B:=by unfold iw;rw [Nat.beq_refl]
theorem Fz.sound {b:Nat} {B:aL} (hS:br ap g m S w) (hb:g b=some B) (hpr:B.pr=true) {g':bL} (hg:lH g m g' m (pX b)) {x y:AV} (h:Fz b B x y):∀ {v:Value},VR g m S x v→VR g' m (bO S m (iw b B) w) y v:=by
 have hrd:∀ c C,iw b B c=some C→g c=some C:=by
  intro c C hc
  obtain ⟨rfl,rfl⟩:=ld hc
  exact hb
 induction h with
 |ren=>intro v hv;exact qK (iJ S m (iw b B) w) hg _ hv
 | @ref i n=>
  intro v hv
  have hf:frz (iw b B) 6 (.ref b B.ver i n)=some (.sl ((B.cells.drop (i*B.esz)).take (n*B.esz)) n true):=by
   simp [frz,Dx,hpr]
  exact d_ _ (gH hS hrd 6 _ _ _ hf hv)
 |fit _ hf ih=>intro v hv;exact hf _ _ _ _ (ih hv)
theorem Ng.sound {b:Nat} {B:aL} (hS:br ap g m S w) (hb:g b=some B) (hpr:B.pr=true) {g':bL} (hg:lH g m g' m (pX b)) {l r:List AV} (h:Ng b B l r):∀ {vs:List Value},aQ g m S l vs→aQ g' m (bO S m (iw b B) w) r vs:=by
 induction h with
 |nil=>intro vs hv;cases vs with|nil=>simp [aQ]|cons _ _=>simp [aQ] at hv
 | cons hx _ ih=>
  intro vs hv
  cases vs with
  |nil=>simp [aQ] at hv
  |cons v vs=>
   simp only [aQ] at hv ⊢
   exact ⟨hx.sound hS hb hpr hg hv.1,ih hv.2⟩
theorem nU:∀ {l:List AV} {vs:List Value},(bq l).isEmpty=true→aQ g m S l vs→bP S l vs
 | [],[],_,_=>by simp [bP]
 |x::l,v::vs,h,hv=>by
  simp only [bq,List.isEmpty_iff,List.append_eq_nil_iff] at h
  rw [← List.isEmpty_iff,← List.isEmpty_iff] at h
  simp only [aQ] at hv
  simp only [bP]
  exact ⟨iB h.1 hv.1,nU h.2 hv.2⟩
 | [],_::_,_,hv=>by simp [aQ] at hv
 |_::_,[],_,hv=>by simp [aQ] at hv
theorem xp {g g':bL} {m m':aN} {S S':aJ} {ρ:Nat→Nat→Option (Nat × Nat)} (hS:iC S S') (hG:lH g m g' m' ρ):∀ {l:List (Nat × List AV)} {ds:List Deferred},dQ g m S l ds→dQ g' m' S' (l.map fun d=>(d.1,ic ρ d.2)) ds
 | [],[],_=>by simp only [List.map_nil,dQ]
 |d::r,cd::cr,h=>by
  simp only [dQ] at h
  simp only [List.map_cons,dQ]
  obtain ⟨⟨cap,h1,h2⟩,h3⟩:=h
  exact ⟨⟨cap,h1,gm hS hG _ h2⟩,xp hS hG h3⟩
 | [],_::_,h=>by simp [dQ] at h
 |_::_,[],h=>by simp [dQ] at h
theorem uK {h0:List aL} {nt:Nat} {r r':St} {m0 m':aN} {S0 S':aJ} {w0 w':World} {a':Act} (b:Nat) (B:aL) (hb0:h0.length≤b) (hB:look r.hp b=some B) (hpr:B.pr=true)
  (hd:r'.dfs=r.dfs.map fun d=>(d.1,ic (pX b) d.2))
  (henv:∀ t,Fz b B (r.env.get t) (r'.env.get t))
  (hdom:∀ c C',look r'.hp c=some C'→c ≠ b∧∃ C,look r.hp c=some C∧gS b B C C')
  (hall:∀ c C,c ≠ b→look r.hp c=some C→∃ C',look r'.hp c=some C')
  (h5:Fr (aS h0) m0 S0 w0 (look r.hp) m' S' w') (h6:FR ap r.env r.hp r.dfs nt m' S' w' a'):
  ∃ S2,Fr (aS h0) m0 S0 w0 (look r'.hp) m' S2 w'∧FR ap r'.env r'.hp r'.dfs nt m' S2 w' a':=by
 have hSR:=h6.srel
 have hle:=iJ S' m' (iw b B) w'
 have hrd:∀ c C,iw b B c=some C→look r.hp c=some C:=by
  intro c C hc
  obtain ⟨rfl,rfl⟩:=ld hc
  exact hB
 have hren:lH (look r.hp) m' (look r'.hp) m' (pX b):=by
  intro c ver c' ver' hρ C hC hv
  unfold pX at hρ
  split at hρ
  ·cases hρ
  ·rename_i hne
   cases hρ
   have hcb:c ≠ b:=by intro e;subst e;simp at hne
   obtain ⟨C',hC'⟩:=hall c C hcb hC
   obtain ⟨_,C2,hC2,hf⟩:=hdom c C' hC'
   rw [hC] at hC2;cases hC2
   exact ⟨C',hC',by rw [hf.ver];exact hv,fun e=> ⟨by rw [← hf.ver];exact e,rfl,hf.esz⟩⟩
 have hsr:br ap (look r'.hp) m' (bO S' m' (iw b B) w') w':=by
  refine ⟨?_, ?_,fun k o v hv=>jF hSR hv, ?_, ?_⟩
  ·intro c c' C C' hc hc' hm
   obtain ⟨_,D,hD,_⟩:=hdom c C hc
   obtain ⟨_,D',hD',_⟩:=hdom c' C' hc'
   exact hSR.inj c c' D D' hD hD' hm
  ·intro c C' hc
   obtain ⟨_,C,hC,hf⟩:=hdom c C' hc
   obtain ⟨⟨cur,ee,vs,rest,k1,k2,k3,k4,k5,k6⟩,hz,hzl⟩:=hSR.blk c C hC
   have hpv:(C'.pr=true→bP (bO S' m' (iw b B) w') C'.cells vs)∧aQ (look r'.hp) m' (bO S' m' (iw b B) w') C'.cells vs:=by
    rcases hf.body with ⟨q1,q2,q3⟩|⟨q1,q2⟩
    ·have:=aX hle _ (k3 q1)
     rw [q2]
     exact ⟨fun _=>this,bh _ this⟩
    ·have hv:=q1.sound hSR hB hpr hren k4
     exact ⟨fun hp=>nU (q2 hp) hv,hv⟩
   exact ⟨⟨cur,ee,vs,rest,by rw [hf.esz];exact k1,k2,hpv.1,hpv.2,by rw [hf.esz];exact k5,fun hp=>by rw [hf.esz] at hp ⊢;exact k6 hp⟩,fun hp=>by rw [hf.fz];exact hz (by rw [← hf.fro];exact hp),by rw [hf.fz,← hf.length];exact hzl⟩
  ·intro c C' hc o v hv
   obtain ⟨hcb,C,hC,hf⟩:=hdom c C' hc
   rw [hf.fro,hf.fz]
   rcases dh hv with h1|⟨h1,b',B',h2,h3,h4⟩
   ·exact hSR.own c C hC o v h1
   ·obtain ⟨rfl,rfl⟩:=ld h2
    exact absurd (hSR.inj c b' C B' hC hB h3.symm) hcb
  ·intro k xs hk
   obtain ⟨vs,k1,k2⟩:=hSR.glob k xs hk
   exact ⟨vs,aX hle _ k1,k2.mono hle⟩
 have hfr':Fr (aS h0) m0 S0 w0 (look r'.hp) m' (bO S' m' (iw b B) w') w':=by
  refine ⟨?_,iC.trans h5.sle hle,h5.os,h5.tape,h5.output,h5.size,h5.rest, ?_, ?_⟩
  ·intro c C hc
   have hlt:c<h0.length:=(List.getElem?_eq_some_iff.1 hc).1
   obtain ⟨C1,hC1,e1,e2⟩:=h5.ge c C hc
   obtain ⟨C',hC'⟩:=hall c C1 (by omega) hC1
   obtain ⟨_,C2,hC2,hf⟩:=hdom c C' hC'
   rw [hC1] at hC2;cases hC2
   exact ⟨C',hC',by rw [hf.esz];exact e1,by rw [hf.ver];exact e2⟩
  ·intro c C' hc
   obtain ⟨_,C,hC,_⟩:=hdom c C' hc
   exact h5.img c C hC
  ·intro k o v hv
   rcases dh hv with h1|⟨h1,b',B',h2,h3,h4⟩
   ·exact h5.sealN k o v h1
   ·obtain ⟨rfl,rfl⟩:=ld h2
    rcases h5.img b' B' hB with h7|⟨B0,h7,_⟩
    ·exact .inr (.inl (h3 ▸ h7))
    ·have:b'<h0.length:=(List.getElem?_eq_some_iff.1 h7).1
     omega
 have hFR:FR ap r'.env r'.hp r'.dfs nt m' (bO S' m' (iw b B) w') w' a':=by
  refine ⟨hsr,fun t=>(henv t).sound hSR hB hpr hren (h6.env t), ?_,h6.size⟩
  rw [hd]
  exact xp hle hren h6.dfs
 exact ⟨_,hfr',hFR⟩
theorem ah.freeze {h0:List aL} {nt:Nat} {code:Code} {s r r':St} {e:a_} (b:Nat) (B:aL) (h:ah P ap h0 nt code s e r) (he:∀ v,e ≠ .panic v) (hb0:h0.length≤b) (hB:look r.hp b=some B) (hpr:B.pr=true)
  (hmd:r'.md=r.md) (hd:r'.dfs=r.dfs.map fun d=>(d.1,ic (pX b) d.2))
  (henv:∀ t,Fz b B (r.env.get t) (r'.env.get t))
  (hdom:∀ c C',look r'.hp c=some C'→c ≠ b∧∃ C,look r.hp c=some C∧gS b B C C')
  (hall:∀ c C,c ≠ b→look r.hp c=some C→∃ C',look r'.hp c=some C'):ah P ap h0 nt code s e r':=by
 intro hs
 obtain ⟨h3,h4⟩:=h hs
 refine ⟨hmd ▸ h3,fun m0 S0 w0 m S w a hfr hF Q hQ=>h4 m0 S0 w0 m S w a hfr hF Q ?_⟩
 intro m' S' w' a' h5 h6
 obtain ⟨S2,hfr',hFR⟩:=uK b B hb0 hB hpr hd henv hdom hall h5 h6
 have:=hQ m' S2 w' a' hfr' hFR
 cases e with
 |normal=>exact this
 |exit id=>exact this
 |ret=>exact this
 |panic v=>exact absurd rfl (he v)
def CS (b:Nat) (B:aL):dY→(Nat→AV)→Prop
 | [],_=>True
 |(t,v)::r,f=>Fz b B (f t) v∧CS b B r f
theorem gV {b:Nat} {B:aL} {f:Nat→AV}:∀ {e:dY},CS b B e f→∀ t,Fz b B (f t) (e.get t)
 | [],_,t=>Fz.dead _
 | (u,v)::r,h,t=>by
  simp only [CS] at h
  simp only [dY.get,look]
  cases hb:Nat.beq u t with
  |true=>
   have:=ax hb
   subst this
   exact h.1
  |false=>exact gV h.2 t
def C8 (b:Nat) (B:aL):Hp→Hp→Prop
 | [],l=>l= [(b,B)]
 |(c,C)::r,(d,D)::l=>c=d∧gS b B D C∧c ≠ b∧C8 b B r l
 |_::_,[]=>False
theorem tD {b:Nat} {B:aL}:∀ {r l:Hp},C8 b B r l→∀ c C',look r c=some C'→c ≠ b∧∃ C,look l c=some C∧gS b B C C'
 | [],l,_,c,C',hc=>by simp [look] at hc
 | (d,D)::r,(d',D')::l,h,c,C',hc=>by
  simp only [C8] at h
  obtain ⟨rfl,h2,h3,h4⟩:=h
  simp only [look] at hc ⊢
  cases hb:Nat.beq d c with
  |true=>
   rw [hb] at hc
   have:=ax hb
   subst this
   cases hc
   exact ⟨h3,D',rfl,h2⟩
  |false=>
   rw [hb] at hc
   exact tD h4 c C' hc
 |_::_,[],h,_,_,_=>by simp [C8] at h
theorem tC {b:Nat} {B:aL}:∀ {r l:Hp},C8 b B r l→∀ c C,c ≠ b→look l c=some C→∃ C',look r c=some C'
 | [],l,h,c,C,hcb,hc=>by
  simp only [C8] at h
  subst h
  simp only [look] at hc
  split at hc
  ·rename_i hb;exact absurd (ax hb).symm hcb
  ·cases hc
 |(d,D)::r,(d',D')::l,h,c,C,hcb,hc=>by
  simp only [C8] at h
  obtain ⟨rfl,h2,h3,h4⟩:=h
  simp only [look] at hc ⊢
  cases hb:Nat.beq d c with
  |true=>exact ⟨D,rfl⟩
  |false=>rw [hb] at hc;exact tC h4 c C hcb hc
 |_::_,[],h,_,_,_,_=>by simp [C8] at h
theorem qh {b:Nat} {B:aL}:∀ {r l:Hp},C8 b B r l→look l b=some B
 | [],l,h=>by
  simp only [C8] at h
  subst h
  simp [look]
 |(d,D)::r,(d',D')::l,h=>by
  simp only [C8] at h
  obtain ⟨rfl,h2,h3,h4⟩:=h
  simp only [look]
  cases hb:Nat.beq d b with
  |true=>exact absurd (ax hb) h3
  |false=>exact qh h4
 |_::_,[],h=>by simp [C8] at h
theorem ah.forget {h0:List aL} {nt:Nat} {code:Code} {s:St} {e:a_} (b:Nat) (B:aL) {en en':dY} {hp hp':Hp} {md:AV} (h:ah P ap h0 nt code s e {env:=en,hp,md,dfs:= []}) (he:∀ v,e ≠ .panic v) (hb0:h0.length≤b) (hpr:B.pr=true)
  (henv:CS b B en' (dY.get en)) (hhp:C8 b B hp' hp):ah P ap h0 nt code s e {env:=en',hp:=hp',md,dfs:= []}:=
 h.freeze b B he hb0 (qh hhp) hpr rfl rfl (gV henv) (tD hhp) (tC hhp)
theorem ah.forgetD {h0:List aL} {nt:Nat} {code:Code} {s:St} {e:a_} (b:Nat) (B:aL) {en en':dY} {hp hp':Hp} {md:AV} {dfs:List (Nat × List AV)} (h:ah P ap h0 nt code s e {env:=en,hp,md,dfs}) (he:∀ v,e ≠ .panic v) (hb0:h0.length≤b) (hpr:B.pr=true)
  (henv:CS b B en' (dY.get en)) (hhp:C8 b B hp' hp) (hd:dfs.map (fun d=>(d.1,ic (pX b) d.2))=dfs):ah P ap h0 nt code s e {env:=en',hp:=hp',md,dfs}:=
 h.freeze b B he hb0 (qh hhp) hpr rfl hd.symm (gV henv) (tD hhp) (tC hhp)
end
end AM
namespace AM
open Go
def uF (P:Program) (f:TypeId→Option (List LK)):List Field→Nat→Option (List LK)
 | [],_=>some []
 | x::r,off=>match f x.type with
  |some l=>match Nat.beq x.offset off && Nat.beq (P.cellsOf x.type) l.length with
   |true=>match uF P f r (off+l.length) with|some q=>some (l++q)|none=>none
   |false=>none
  |none=>none
def uG (P:Program):Nat→TypeId→Option (List LK)
 |0,_=>none
 | n+1,t=>match P.underlying t with
  |some (.int k)=>some [.int k]
  |some .bool=>some [.bool]
  |some .string=>some [.str]
  |some (.struct fs)=>match uF P (uG P n) fs.toList 0 with
   |some l=>match Nat.beq (P.cellsOf t) l.length with|true=>some l|false=>none
   |none=>none
  |some (.array m e)=>match uG P n e with
   |some l=>match Nat.beq (P.cellsOf e) l.length && Nat.beq (P.cellsOf t) (m*l.length) with|true=>some (List.replicate m l).flatten|false=>none
   |none=>none
  |_=>none
inductive cV:List LK→List Value→Prop
 |nil:cV [] []
 |int {k:IntKind} {n:Int} {r:List LK} {l:List Value}:cV r l→cV (.int k::r) (.int k n::l)
 |bool {b:Bool} {r:List LK} {l:List Value}:cV r l→cV (.bool::r) (.bool b::l)
 |str {s:ByteArray} {r:List LK} {l:List Value}:cV r l→cV (.str::r) (.string s::l)
theorem cV.app {a b:List LK} {x y:List Value} (h:cV a x) (h':cV b y):cV (a++b) (x++y):=by
 induction h with
 |nil=>exact h'
 |int _ ih=>exact .int ih
 |bool _ ih=>exact .bool ih
 |str _ ih=>exact .str ih
theorem cV.length {a:List LK} {x:List Value} (h:cV a x):a.length=x.length:=by
 induction h with
 |nil=>rfl
 |int _ ih=>simp [ih]
 |bool _ ih=>simp [ih]
 |str _ ih=>simp [ih]
def jH:Value→AV
 | .int k n=> .int k n
 | .bool b=> .bool b
 | .string s=> .str s.data.toList
 |_=> .dead
theorem cV.pr {S:aJ} {a:List LK} {x:List Value} (h:cV a x):bP S (x.map jH) x:=by
 induction h with
 |nil=>simp [bP]
 |int _ ih=>simp only [List.map_cons,bP];exact ⟨by simp [jH,PR],ih⟩
 |bool _ ih=>simp only [List.map_cons,bP];exact ⟨by simp [jH,PR],ih⟩
 |@str s _ _ _ ih=>simp only [List.map_cons,bP];exact ⟨by simp [jH,PR],ih⟩
theorem cV.one {a:List LK} {x:List Value} (h:cV a x):∀ u ∈ x,u.oneCell'=true:=by
 induction h with
 |nil=>intro u hu;cases hu
 |int _ ih=>
  intro u hu
  rcases List.mem_cons.1 hu with rfl|hu
  ·rfl
  ·exact ih u hu
 |bool _ ih=>
  intro u hu
  rcases List.mem_cons.1 hu with rfl|hu
  ·rfl
  ·exact ih u hu
 |str _ ih=>
  intro u hu
  rcases List.mem_cons.1 hu with rfl|hu
  ·rfl
  ·exact ih u hu
section
variable {H:Type} {enc:TypeId × Value→H} {P:Program} {w:World} {base:Nat} {spare:Nat→Bool} {held:Bool}
theorem rV {n:Nat} {f:TypeId→Option (List LK)} (hf:∀ t ks,f t=some ks→∀ (fuel:Nat) (cs:List Value) (x:DataW H × List MemPlace),DataW.trod enc P w base spare held fuel t cs=some x→cV ks cs) {cs:List Value}:∀ (r:List Field) (off:Nat) (ks:List LK),uF P f r off=some ks→
  (∀ (i:Nat) (x:Field),r[i]? =some x→∃ y,DataW.trod enc P w base spare held n x.type ((cs.drop x.offset).take (P.cellsOf x.type))=some y)→cV ks ((cs.drop off).take ks.length)
 | [],off,ks,h,_=>by
  simp only [uF] at h
  cases h
  simpa using cV.nil
 | x ::r,off,ks,h,hx=>by
  simp only [uF] at h
  split at h
  ·rename_i l hl
   split at h
   ·rename_i hb
    simp only [Bool.and_eq_true] at hb
    have e1:=Nat.eq_of_beq_eq_true hb.1
    have e2:=Nat.eq_of_beq_eq_true hb.2
    split at h
    ·rename_i q hq
     cases h
     obtain ⟨y,hy⟩:=hx 0 x rfl
     have h1:=hf _ _ hl _ _ _ hy
     rw [e1,e2] at h1
     have h2:=rV hf r (off+l.length) q hq (fun i f hi=>hx (i+1) f (by simpa using hi))
     rw [List.length_append,List.take_add,List.drop_drop]
     exact h1.app h2
    ·cases h
   ·cases h
  ·cases h
theorem xO:∀ (n:Nat) (t:TypeId) (ks:List LK),uG P n t=some ks→∀ (fuel:Nat) (cs:List Value) (x:DataW H × List MemPlace),DataW.trod enc P w base spare held fuel t cs=some x→cV ks cs:=by
 intro n
 induction n with
 |zero=>intro t ks h;simp [uG] at h
 | succ n ih=>
  intro t ks h fuel cs x hx
  simp only [uG] at h
  split at h
  ·rename_i k ht
   cases h
   obtain ⟨m,rfl,_⟩:=DataW.trod_int ht hx
   exact .int .nil
  ·rename_i ht
   cases h
   obtain ⟨b,rfl,_⟩:=DataW.trod_bool ht hx
   exact .bool .nil
  ·rename_i ht
   cases h
   obtain ⟨s,rfl,_⟩:=DataW.trod_string ht hx
   exact .str .nil
  ·rename_i fs ht
   split at h
   ·rename_i l hl
    split at h
    ·rename_i hb
     cases h
     obtain ⟨xs,m,rfl,_,hlen,hxl,hi⟩:=DataW.trod_struct ht hx
     have e:=Nat.eq_of_beq_eq_true hb
     have h1:=rV (n:=m) ih fs.toList 0 ks hl (fun i f hf=>by
      have hf':fs[i]? =some f:=by simpa using hf
      have h2:=hi i f hf'
      have hlt:i<xs.length:=by rw [hxl];exact (Array.getElem?_eq_some_iff.1 hf').1
      rw [List.getElem?_eq_getElem hlt] at h2
      exact ⟨_,h2⟩)
     rw [List.drop_zero,← e,← hlen,List.take_length] at h1
     exact h1
    ·cases h
   ·cases h
  ·rename_i m e ht
   split at h
   ·rename_i l hl
    split at h
    ·rename_i hb
     cases h
     simp only [Bool.and_eq_true] at hb
     have e1:=Nat.eq_of_beq_eq_true hb.1
     have e2:=Nat.eq_of_beq_eq_true hb.2
     obtain ⟨xs,q,rfl,_,hlen,hxl,hi⟩:=DataW.trod_array ht hx
     have key:∀ j,j≤m→cV (List.replicate j l).flatten ((cs.drop ((m - j)*l.length)).take (j*l.length)):=by
      intro j
      induction j with
      |zero=>intro _;simpa using cV.nil
      | succ j ihj=>
       intro hj
       have h2:=hi (m - (j+1)) (by omega)
       rw [List.getElem?_eq_getElem (by omega)] at h2
       have h3:=ih _ _ hl _ _ _ h2
       rw [e1] at h3
       have h4:=ihj (by omega)
       rw [List.replicate_succ,List.flatten_cons,Nat.add_mul,Nat.one_mul,Nat.add_comm (j*l.length),List.take_add,List.drop_drop]
       have h5:(m - (j+1))*l.length+l.length=(m - j)*l.length:=by
        rw [← Nat.succ_mul];congr 1;omega
       rw [h5]
       exact h3.app h4
     have h6:=key m (Nat.le_refl _)
     rw [Nat.sub_self,Nat.zero_mul,List.drop_zero,← e2,← hlen,List.take_length] at h6
     exact h6
    ·cases h
   ·cases h
  ·cases h
theorem Q6 {n:Nat} {t:TypeId} {ks:List LK} (hk:uG P n t=some ks) {v:Value} {d:DataW H} {p:List MemPlace} (h:DataW.Trod enc P w base spare held t v d p):cV ks v.cells.toList:=by
 obtain ⟨fuel,h⟩:=h
 exact xO n t ks hk fuel _ _ h
theorem Kc {v:Value} {l:List Value} (h:v.cells.toList=l) (hl:l.length ≠ 1):v= .agg l.toArray:=by
 cases v with
 |agg cs=>
  have:cs.toList=l:=h
  rw [← this]
 |_=>subst h;simp [Value.cells] at hl
end
end AM
namespace AM
open Go
def pG:Nat→Nat→List Bool
 |0,_=> []
 |n+1,k=>Nat.beq (k % 2) 1::pG n (k / 2)
def JP:Nat→List Bool→List Bool
 |0,l=>l
 |n+1,l=>true::JP n l
theorem gR.n (k:Nat) {l:List Bool} (h:gR l):gR (JP k l):=by
 induction k with
 |zero=>exact h
 |succ k ih=>exact .t ih
theorem gR.k (k:Nat) {b:Bool} {l:List Bool} (hb:b=true) (h:gR l):gR (JP k (b::l)):= .n k (.c hb h)
theorem tf (b:Bool):b=true∨b=false:=by cases b<;>simp
theorem ay {b:Bool} (h:b=true):lit true b=true:=h
theorem aB {b:Bool} (h:b=false):lit false b=true:=by subst h;rfl
theorem cG {b:Bool} (h:b=false):lit true (!b)=true:=by subst h;rfl
theorem aG {b:Bool} (h:b=true):lit false (!b)=true:=by subst h;rfl
inductive PS (P:Program) (ap:AP):List Prop→List (gb × List aL)→py→List nL→Prop where
 |nil:PS P ap [] [] [] []
 |c {f:Nat} {args:List AV} {h h':List aL} {out:gb} {ps:List Prop} {ans:List (gb × List aL)} {lps:py} {hs:List nL}:ai P ap f args h out h'→PS P ap ps ans lps hs→PS P ap (ai P ap f args h out h'::ps) (ans++ [(out,h')]) lps hs
 |l {h0:List aL} {n:Nat} {code:Code} {s s':St} {e:a_} {ps:List Prop} {ans:List (gb × List aL)} {lps:py} {hs:List nL}:az P ap h0 n code s e s'→PS P ap ps ans lps hs→PS P ap (az P ap h0 n code s e s'::ps) ans (lps++ [(e,s')]) hs
 |v (d:Nat) {x y:AV} {ps:List Prop} {ans:List (gb × List aL)} {lps:py} {hs:List nL}:aM x y→PS P ap ps ans lps hs→PS P ap (aM x y::ps) ans lps (hs++ [.v d y])
 |b (d:Nat) {x y:List AV} {ps:List Prop} {ans:List (gb × List aL)} {lps:py} {hs:List nL}:x=y→PS P ap ps ans lps hs→PS P ap ((x=y)::ps) ans lps (hs++ [.b d y])
 |u (d:Nat) {x y:List (Option aL)} {ps:List Prop} {ans:List (gb × List aL)} {lps:py} {hs:List nL}:x=y→PS P ap ps ans lps hs→PS P ap ((x=y)::ps) ans lps (hs++ [.u d])
theorem PS.all {P:Program} {ap:AP} {ps:List Prop} {ans:List (gb × List aL)} {lps:py} {hs:List nL} (h:PS P ap ps ans lps hs):Aj ps:=by
 induction h with
 |nil=>exact .nil
 |c h _ ih=>exact .cons h ih
 |l h _ ih=>exact .cons h ih
 |v _ h _ ih=>exact .cons h ih
 |b _ h _ ih=>exact .cons h ih
 |u _ h _ ih=>exact .cons h ih
theorem ck {P:Program} {ap:AP} (g:tX P ap) {ans:List (gb × List aL)} {ps:List Prop} {f:Nat} {args:List AV} {h h':List aL} {out:gb} (hp:PS P ap ps ans [] [])
  (he:lX ap (o_ P ap 3000 4) 3000 .dead f args h ⟨true,[],[],[],ans,[]⟩= .ok (out,h',.dead) ⟨true,[],[],ps,[],[]⟩):ai P ap f args h out h':=xF g hp.all he
theorem pk {P:Program} {ap:AP} (g:tX P ap) (ls:List Nat) (n k:Nat) {ans:List (gb × List aL)} {lps:py} {hs:List nL} {bs:List Bool} {ps:List Prop} {f:Nat} {args:List AV} {h h':List aL} {out:gb}
  (hb:gR bs) (hp:PS P ap ps ans lps hs) (he:D_ P ap (o_ P ap 3000 4) 3000 ls f args h lps ⟨false,pG n k,[],[],ans,hs⟩= .ok (out,h',.dead) ⟨false,[],bs,ps,[],[]⟩):ai P ap f args h out h':=by
 obtain ⟨h1,h2⟩:=gJ g.apok g.mixed g.fnok 3000 4
 exact Hg g.apok g.mixed g.fnok h1 h2 he ⟨hb.mem,hp.all.mem⟩
def mC (ap:AP) (f:Nat):List Nat:=match ap.fnAt f with|some F=>F.keep|none=> []
def ED (env:dY):R ((a_ × St) × py)→R ((a_ × St) × py)
 | .ok ((e,s),l) c=> .ok ((e,⟨env.map fun q=>(q.1,s.env.get q.1),s.hp,s.md,s.dfs⟩),l) c
 |r=>r
def Dw (P:Program) (ap:AP) (h0:List aL) (f nt0:Nat) (ls:List Nat) (code:Code) (s:St) (lps:py) (orc:List Bool) (ans:List (gb × List aL)) (hs:List nL) (env:dY):R ((a_ × St) × py):=
 match bR nt0 code with
 |true=>ED env (gU P ap (o_ P ap 3000 4) h0 (mC ap f) 3000 nt0 ls code s lps ⟨false,orc,[],[],ans,hs⟩)
 |false=> .bad 0
theorem H0 (env env':dY):∀ t,dY.get (env.map fun q=>(q.1,env'.get q.1)) t=env'.get t∨dY.get (env.map fun q=>(q.1,env'.get q.1)) t= .dead:=by
 intro t
 induction env with
 |nil=>exact .inr rfl
 | cons q r ih=>
  cases hq:Nat.beq q.1 t with
  |true=>
   left
   have:=Nat.eq_of_beq_eq_true hq
   subst this
   simp only [dY.get,List.map_cons,look,hq,Option.getD_some]
  | false=>
   have e:dY.get (List.map (fun q=>(q.1,env'.get q.1)) (q::r)) t=dY.get (List.map (fun q=>(q.1,env'.get q.1)) r) t:=by
    simp only [dY.get,List.map_cons,look,hq]
   rw [e];exact ih
theorem pj {P:Program} {ap:AP} (g:tX P ap) (f:Nat) (ls:List Nat) (n k:Nat) {nt nt0:Nat} {ans:List (gb × List aL)} {lps:py} {hs:List nL} {bs:List Bool} {ps:List Prop} {code:Code} {s s':St} {h0:List aL} {e:a_}
  (hb:gR bs) (hp:PS P ap ps ans lps hs) (hn:nt0≤nt) (he:Dw P ap h0 f nt0 ls code s lps (pG n k) ans hs s'.env= .ok ((e,s'),[]) ⟨false,[],bs,ps,[],[]⟩):ah P ap h0 nt code s e s':=by
 unfold Dw at he
 split at he
 ·rename_i hd
  generalize hr:gU P ap (o_ P ap 3000 4) h0 (mC ap f) 3000 nt0 ls code s lps ⟨false,pG n k,[],[],ans,hs⟩=r at he
  cases r with
  |ok q c=>
   obtain ⟨⟨e1,s1⟩,l1⟩:=q
   simp only [ED,R.ok.injEq,Prod.mk.injEq] at he
   obtain ⟨⟨⟨rfl,hs1⟩,rfl⟩,rfl⟩:=he
   obtain ⟨h1,h2⟩:=gJ g.apok g.mixed g.fnok 3000 4
   have hx:ah P ap h0 nt code s e1 s1:=(mh g.apok g.mixed h1 hn code (cE hn code hd) _ _ _ _ _ hr ⟨hb.mem,hp.all.mem⟩).2
   refine hx.weak (aK.refl _) ?_
   rw [← hs1]
   exact ⟨H0 _ _,rfl,rfl,rfl⟩
  |need=>simp [ED] at he
  |bad n=>simp [ED] at he
 ·cases he
theorem aM.pp {xs ys:List AV} {off:Nat} (h:List.drop off xs=ys):aM (.pp xs off) (.pp ys 0):=by
 subst h
 intro g m S v hv
 simp only [VR,PR] at hv ⊢
 obtain ⟨b,o,vs,rfl,hp,hs⟩:=hv
 refine ⟨b,o+off,vs.drop off,rfl,jV off hp,fun j u hj=> ?_⟩
 rw [List.getElem?_drop] at hj
 have:=hs (off+j) u hj
 rwa [← Nat.add_assoc] at this
theorem aM.ppt {xs ys zs:List AV} {off:Nat} (h:List.drop off xs=ys++zs):aM (.pp xs off) (.pp ys 0):=by
 intro g m S v hv
 have:=aM.pp h g m S v hv
 simp only [VR,PR] at this ⊢
 obtain ⟨b,o,vs,rfl,hp,hs⟩:=this
 refine ⟨b,o,vs.take ys.length,rfl, ?_,fun j u hj=> ?_⟩
 ·have:=gi ys.length hp
  rwa [List.take_left'] at this
  rfl
 ·rw [List.getElem?_take] at hj
  split at hj
  ·exact hs j u hj
  ·cases hj
theorem aM.eq {x y:AV} (h:x=y):aM x y:=h ▸ fun _ _ _ _ hv=>hv
theorem aM.rd1 (k:LK) {xs zs:List AV} {y:AV} {off:Nat} (h:List.drop off xs= [y]++zs) (hr:eta k y=y):aM (eta k ((List.drop off xs).headD .dead)) y:= .eq (by rw [h];exact hr)
theorem gR.a {l r:List Bool} (h:gR l) (h':gR r):gR (l++r):=by
 induction h with
 |nil=>exact h'
 |t _ ih=>exact .t ih
 |c hb _ ih=>exact .c hb ih
theorem gR.of {l:List Bool} (h:l.all id=true):gR l:=by
 induction l with
 |nil=>exact .nil
 |cons b r ih=>
  simp only [List.all_cons,id,Bool.and_eq_true] at h
  exact .c h.1 (ih h.2)
theorem Hl (ks:List LK) {xs ys zs:List AV} {off:Nat} (h:List.drop off xs=ys++zs) (hc:(Hj true ks (ys++zs)).all id=true):gR (yT true ks xs off):=by
 unfold yT;rw [h];exact .of hc
inductive JY:List AV→List AV→Prop where
 |nil:JY [] []
 |same {x:AV} {l r:List AV}:JY l r→JY (x::l) (x::r)
 |nilS {l r:List AV}:JY l r→JY (.nilS::l) (.sl [] 0 false::r)
 |sl {xs:List AV} {n:Nat} {a:Bool} {l r:List AV}:JY l r→JY (.sl xs n a::l) (.sl xs n false::r)
theorem JY.prl {S:aJ} {l r:List AV} (h:JY l r):∀ {vs:List Value},bP S l vs→bP S r vs:=by
 induction h with
 |nil=>exact fun h=>h
 |same _ ih=>intro vs hv;cases vs with|nil=>simp [bP] at hv|cons v vs=>simp only [bP] at hv ⊢;exact ⟨hv.1,ih hv.2⟩
 | nilS _ ih=>
  intro vs hv
  cases vs with
  |nil=>simp [bP] at hv
  |cons v vs=>
   simp only [bP,PR] at hv ⊢
   exact ⟨⟨none,0,hv.1,Nat.le_refl _,.inl (by simp)⟩,ih hv.2⟩
 | @sl xs n a _ _ _ ih=>
  intro vs hv
  cases vs with
  |nil=>simp [bP] at hv
  |cons v vs=>
   have h1:=hv
   simp only [bP] at h1 ⊢
   refine ⟨?_,ih h1.2⟩
   have h2:=aM.sl xs n a (fun _=>none) (fun _=>(0,0)) S v (by simp only [VR];exact h1.1)
   simpa only [VR] using h2
theorem aM.slP {xs ys:List AV} {n:Nat} {nn:Bool} (hl:JY xs ys):aM (.sl xs n nn) (.sl ys n nn):=by
 intro g m S v hv
 simp only [VR,PR] at hv ⊢
 obtain ⟨a,cap,rfl,hc,h⟩:=hv
 refine ⟨a,cap,rfl,hc, ?_⟩
 rcases h with ⟨h1,h2,h3,h4,h5⟩|⟨b,o,vs,h1,h2,h3⟩
 ·subst h3
  cases hl
  exact .inl ⟨h1,h2,rfl,h4,h5⟩
 ·exact .inr ⟨b,o,vs,h1,hl.prl h2,h3⟩
end AM
namespace AM
open Go
variable {P:Program} {ap:AP}
theorem ah.norm {h0:List aL} {nt:Nat} {code:Code} {s s1:St} {e:a_} (keep:List Nat) (he:∀ v,e= .panic v→(ct v).isEmpty=true) (h:ah P ap h0 nt code s e s1):ah P ap h0 nt code s e (AM.norm h0.length keep s1):=by
 intro hs
 obtain ⟨h3,h4⟩:=h hs
 refine ⟨h3,fun m0 S0 w0 m S w a hfr hF Q hQ=>h4 m0 S0 w0 m S w a hfr hF Q ?_⟩
 intro m' S' w' a' h5 h6
 obtain ⟨m2,h7,h8⟩:=gI (keep:=keep) h5 h6
 have:=hQ m2 S' w' a' h7 h8
 clear hQ h7 h8 h4
 generalize AM.norm h0.length keep s1=s2 at*
 cases e with
 |normal=>exact this
 |exit id=>exact this
 |ret=>exact this
 |panic v=>intro cv hcv;exact this cv (d_ _ (iB (he v rfl) hcv))
def VP:a_→Bool
 | .panic v=>(ct v).isEmpty
 |_=>true
def EA (base:Nat) (env:dY):R ((a_ × St) × py)→R ((a_ × St) × py)
 | .ok ((e,s),l) c=>match VP e with
  |true=> .ok ((e,norm base (env.map fun q=>q.1) s),l) c
  |false=> .bad 1
 |r=>r
def Dv (P:Program) (ap:AP) (h0:List aL) (f nt0:Nat) (ls:List Nat) (code:Code) (s:St) (lps:py) (orc:List Bool) (ans:List (gb × List aL)) (hs:List nL) (env:dY):R ((a_ × St) × py):=
 match bR nt0 code with
 |true=>EA h0.length env (gU P ap (o_ P ap 3000 4) h0 (mC ap f) 3000 nt0 ls code s lps ⟨false,orc,[],[],ans,hs⟩)
 |false=> .bad 0
theorem pn (g:tX P ap) (f:Nat) (ls:List Nat) (n k:Nat) {nt nt0:Nat} {ans:List (gb × List aL)} {lps:py} {hs:List nL} {bs:List Bool} {ps:List Prop} {code:Code} {s s':St} {h0:List aL} {e:a_}
  (hb:gR bs) (hp:PS P ap ps ans lps hs) (hn:nt0≤nt) (he:Dv P ap h0 f nt0 ls code s lps (pG n k) ans hs s'.env= .ok ((e,s'),[]) ⟨false,[],bs,ps,[],[]⟩):ah P ap h0 nt code s e s':=by
 unfold Dv at he
 split at he
 ·rename_i hd
  generalize hr:gU P ap (o_ P ap 3000 4) h0 (mC ap f) 3000 nt0 ls code s lps ⟨false,pG n k,[],[],ans,hs⟩=r at he
  cases r with
  | ok q c=>
   obtain ⟨⟨e1,s1⟩,l1⟩:=q
   simp only [EA] at he
   split at he
   ·rename_i hpan
    simp only [R.ok.injEq,Prod.mk.injEq] at he
    obtain ⟨⟨⟨rfl,hs1⟩,rfl⟩,rfl⟩:=he
    obtain ⟨h1,h2⟩:=gJ g.apok g.mixed g.fnok 3000 4
    have hx:ah P ap h0 nt code s e1 s1:=(mh g.apok g.mixed h1 hn code (cE hn code hd) _ _ _ _ _ hr ⟨hb.mem,hp.all.mem⟩).2
    have:=hx.norm (s'.env.map fun q=>q.1) (fun v hv=>by subst hv;exact hpan)
    rwa [hs1] at this
   ·cases he
  |need=>simp [EA] at he
  |bad n=>simp [EA] at he
 ·cases he
end AM
namespace AM
open Go Go.WideShapes Go.ChangeShapes
theorem xx {a:Addr} (h:a.spot=none) (n:Nat):a.add n=⟨a.block,a.off+n,none⟩:=by
 unfold Addr.add
 obtain ⟨b,o,s⟩:=a
 simp only at h
 subst h
 split
 ·rename_i hn;subst hn;rfl
 ·rfl
section
variable {H:Type} {enc:TypeId × Value→H} {P:Program} {w:World} {base:Nat} {spare:Nat→Bool} {held:Bool}
theorem Am {S:aJ} {ks:List LK}:∀ (L:List (List Value)),(∀ x ∈ L,cV ks x)→bP S (L.flatMap fun x=>x.map jH) L.flatten
 | [],_=>by simp [bP]
 |x::r,h=>by
  rw [List.flatMap_cons,List.flatten_cons]
  exact iP (cV.pr (h x (by simp))) (Am r fun y hy=>h y (by simp [hy]))
theorem I5 {ks:List LK}:∀ (L:List (List Value)),(∀ x ∈ L,cV ks x)→∀ u ∈ L.flatten,u.oneCell'=true:=by
 intro L h u hu
 obtain ⟨x,hx,hu⟩:=List.mem_flatten.1 hu
 exact cV.one (h x hx) u hu
theorem VS {t e:TypeId} {n base':Nat} {ks:List LK} (ht:P.underlying t=some (.slice e)) (hk:uG P n e=some ks) (hc:P.cellsOf e=ks.length) {v:Value} {d:DataW H} {p:List MemPlace}
  (hv:Value.okWide P w .any base' t v) (h:DataW.Trod enc P w base spare held t v d p):∃ L:List (List Value),(∀ x ∈ L,cV ks x)∧PR (jS w) (.sl (L.flatMap fun x=>x.map jH) L.length false) v:=by
 obtain ⟨a0,len,cap,rfl⟩:=okWide_slice ht hv
 obtain ⟨fuel,h⟩:=h
 rcases DataW.trod_slice ht h with ⟨hcs,_⟩|⟨a,len',cap',elems,rest,m,_,hcs,_,_,hl,hm,hlen,hel,_,_⟩
 ·have:a0=none∧len=0∧cap=0:=by simpa [Value.cells] using hcs
  obtain ⟨rfl,rfl,rfl⟩:=this
  refine ⟨[],by simp, ?_⟩
  simp only [PR]
  exact ⟨none,0,rfl,Nat.le_refl _,.inl (by simp)⟩
 ·have:a0=some a∧len=len'∧cap=cap':=by simpa [Value.cells] using hcs
  obtain ⟨rfl,rfl,rfl⟩:=this
  have hspot:a.spot=none:=by
   simp only [Value.okWide,ht,Cell.okWide,Cell.ok] at hv
   exact hv.2.2.2.1
  have key:∀ q,q≤len→∃ L:List (List Value),L.length=q∧(∀ x ∈ L,cV ks x)∧L.flatten.length=q*ks.length∧∀ j u,L.flatten[j]? =some u→jS w a.block (a.off+j)=some u:=by
   intro q
   induction q with
   |zero=>intro _;exact ⟨[],rfl,by simp,by simp,by simp⟩
   | succ q ih=>
    intro hq
    obtain ⟨L,h1,h2,h3,h4⟩:=ih (by omega)
    have h5:=hel q (by omega)
    rw [List.getElem?_eq_getElem (by omega)] at h5
    obtain ⟨cs',h6,h7⟩:=Option.bind_eq_some_iff.1 h5
    have h8:=xO n e ks hk _ _ _ h7
    obtain ⟨_,h9,h10⟩:=World.cells?_some h6
    refine ⟨L++ [cs'],by simp [h1], ?_, ?_, ?_⟩
    ·intro x hx
     rcases List.mem_append.1 hx with hx|hx
     ·exact h2 x hx
     ·simp at hx;subst hx;exact h8
    ·rw [List.flatten_append,List.length_append,h3]
     have:=h8.length
     simp only [List.flatten_cons,List.flatten_nil,List.append_nil]
     rw [← this,Nat.succ_mul]
    ·intro j u hj
     rw [List.flatten_append,List.getElem?_append] at hj
     split at hj
     ·exact h4 j u hj
     ·rename_i hjl
      simp only [List.flatten_cons,List.flatten_nil,List.append_nil] at hj
      have h11:=(List.getElem?_eq_some_iff.1 hj).1
      have h12:=h10 (j - L.flatten.length) (by omega)
      rw [hj,xx hspot,xx rfl] at h12
      refine yG ?_ (cV.one h8 u (List.mem_of_getElem? hj))
      rw [← h12,h3,hc]
      congr 2
      have:q*ks.length≤j:=by rw [← h3];omega
      simp only
      omega
  obtain ⟨L,h1,h2,h3,h4⟩:=key len (Nat.le_refl _)
  refine ⟨L,h2, ?_⟩
  simp only [PR]
  refine ⟨some a,cap,by rw [h1],by rw [h1];exact hl,.inr ⟨a.block,a.off,L.flatten, ?_,Am L h2,fun j u hj=> ⟨h4 j u hj,I5 L h2 u (List.mem_of_getElem? hj)⟩⟩⟩
  obtain ⟨b,o,s⟩:=a
  simp only at hspot
  subst hspot
  rfl
theorem Q0 {α:Type} (f:α→List AV) {L:List (List Value)} (h:∀ x ∈ L,∃ a,x.map jH=f a):∃ l:List α,(L.flatMap fun x=>x.map jH)=l.flatMap f∧L.length=l.length:=by
 induction L with
 |nil=>exact ⟨[],rfl,rfl⟩
 |cons x r ih=>
  obtain ⟨a,ha⟩:=h x (by simp)
  obtain ⟨l,h1,h2⟩:=ih fun y hy=>h y (by simp [hy])
  exact ⟨a::l,by rw [List.flatMap_cons,List.flatMap_cons,ha,h1],by simp [h2]⟩
end
end AM
namespace AM
open Go
section
variable {P:Program} {ap:AP}
theorem ah.ahead {h0:List aL} {nt:Nat} {code:Code} {e:a_} {s2:St} (b:Nat) (B:aL) {en en':dY} {hp hp':Hp} (hy:ah P ap h0 nt code ⟨en',hp',.dead,[]⟩ e s2) (hb0:h0.length≤b) (hpr:B.pr=true)
  (henv:CS b B en' (dY.get en)) (hhp:C8 b B hp' hp):ah P ap h0 nt code {env:=en,hp,md:= .dead,dfs:= []} e s2:=by
 intro _
 obtain ⟨h5,h6⟩:=hy rfl
 refine ⟨h5,fun m0 S0 w0 m S w a hfr hF Q hQ=> ?_⟩
 obtain ⟨S2,h7,h8⟩:=uK (r:={env:=en,hp,md:= .dead,dfs:= []}) (r':=⟨en',hp',.dead,[]⟩) b B hb0 (qh hhp) hpr rfl (gV henv) (tD hhp) (tC hhp) hfr hF
 exact h6 m0 S0 w0 m S2 w a h7 h8 Q hQ
end
end AM
namespace AM
open Go
section
variable {P:Program} {ap:AP} {H:bA}
def jO (r:fQ):fQ:={r with rb:= []}
theorem uC {D:Nat→Bool}:∀ (rs:List fQ) (i j:Nat) (e:dY) (r:fQ),rs[i]? =some r→ia D j e (rs.set i (jO r))=ia D j e rs
 | [],i,j,e,r,h=>by simp at h
 |x::rs,0,j,e,r,h=>by
  have h:x=r:=by simpa using h
  subst h;rfl
 |x::rs,i+1,j,e,r,h=>by
  simp only [List.set_cons_succ,ia]
  exact uC rs i (j+1) _ r (by simpa using h)
theorem zt {D:Nat→Bool}:∀ (rs:List fQ) (i j:Nat) (e:Hp) (r:fQ),rs[i]? =some r→jo D j e (rs.set i (jO r))=jo D j e rs
 | [],i,j,e,r,h=>by simp at h
 |x::rs,0,j,e,r,h=>by
  have h:x=r:=by simpa using h
  subst h;rfl
 |x::rs,i+1,j,e,r,h=>by
  simp only [List.set_cons_succ,jo]
  exact zt rs i (j+1) _ r (by simpa using h)
theorem yA (rs:List fQ) (i k:Nat) (r:fQ) (h:rs[i]? =some r):(rs.set i (jO r)).take k=rs.take k∨((rs.take k)[i]? =some r∧(rs.set i (jO r)).take k=(rs.take k).set i (jO r)):=by
 by_cases hk:i<k
 ·right
  refine ⟨by rw [List.getElem?_take,if_pos hk];exact h, ?_⟩
  rw [List.take_set]
 ·left
  rw [List.take_set,List.set_eq_of_length_le]
  rw [List.length_take];omega
theorem xL (rs:List fQ) (i k:Nat) (e:dY) (r:fQ) (h:rs[i]? =some r):jn e ((rs.set i (jO r)).take k)=jn e (rs.take k):=by
 rcases yA rs i k r h with h1|⟨h1,h2⟩
 ·rw [h1]
 ·rw [h2];exact uC _ _ _ _ _ h1
theorem H5 (rs:List fQ) (i k:Nat) (e:Hp) (r:fQ) (h:rs[i]? =some r):uR e ((rs.set i (jO r)).take k)=uR e (rs.take k):=by
 rcases yA rs i k r h with h1|⟨h1,h2⟩
 ·rw [h1]
 ·rw [h2];exact zt _ _ _ _ _ h1
def yD:Hp→Nat→List aL
 | [],_=> []
 |(b,B)::r,t=>match Nat.beq b t with|true=>B::yD r t|false=>yD r t
theorem yE {b:Nat} {B:aL}:∀ {hp:Hp},(b,B) ∈ hp→B ∈ yD hp b
 | (c,C)::r,h=>by
  simp only [yD]
  rcases List.mem_cons.1 h with h|h
  ·cases h
   rw [Nat.beq_refl];exact List.mem_cons_self
  ·have ih:=yE h
   split
   ·exact List.mem_cons_of_mem _ ih
   ·exact ih
theorem Ek {D D':Nat→Bool} (hD:∀ j,D j=true→D' j=true):∀ (rs:List fQ) (j:Nat) (h h':Hp),(∀ x ∈ h,x ∈ h')→∀ x ∈ jo D j h rs,x ∈ jo D' j h' rs
 | [],_,_,_,hs=>hs
 | r::rs,j,h,h',hs=>by
  simp only [jo]
  refine Ek hD rs (j+1) _ _ ?_
  intro x hx
  cases hd:D j with
  |true=>
   rw [hd] at hx
   rw [hD j hd]
   rcases List.mem_append.1 hx with hx|hx
   ·exact List.mem_append.2 (.inl hx)
   ·exact List.mem_append.2 (.inr (hs x hx))
  |false=>
   rw [hd] at hx
   cases D' j with
   |true=>exact List.mem_append.2 (.inr (hs x hx))
   |false=>exact hs x hx
def nG (D:Nat→Bool):List ou→Hp→Hp
 | [],hp=>hp
 |F::r,hp=>match D r.length with
  |true=>hp.take F.wb.length++nG D r (hp.drop F.wb.length)
  |false=>nG D r (hp.drop F.wb.length)
theorem uQ {D:Nat→Bool}:∀ (rs:List fQ) (j:Nat) (h:Hp) (r:fQ),jo D j h (rs++ [r])=match D (j+rs.length) with|true=>r.ups++jo D j h rs|false=>jo D j h rs
 | [],j,h,r=>by
  simp only [List.nil_append,jo,List.length_nil,Nat.add_zero]
  cases D j<;>rfl
 |x::rs,j,h,r=>by
  simp only [List.cons_append,jo]
  rw [uQ rs (j+1) _ r]
  rw [show j+1+rs.length=j+(x::rs).length by simp;omega]
theorem wz {D:Nat→Bool} (h:Hp):∀ (l:List fQ),nG D (l.map fQ.foot) (uR h l.reverse)=jo D 0 h l.reverse
 | []=>rfl
 | r::l=>by
  have e:uR h (r::l).reverse=r.ups++uR h l.reverse:=by
   unfold uR
   rw [List.reverse_cons,uQ]
  have ew:(fQ.foot r).wb.length=r.ups.length:=by simp [fQ.foot]
  rw [e,List.reverse_cons,uQ]
  simp only [List.map_cons,nG,ew,List.length_map,List.take_left,List.drop_left,List.length_reverse,Nat.zero_add]
  rw [wz h l]
theorem A0 {D:Nat→Bool} {b:Nat}:∀ (rs:List fQ) (j:Nat) (h:Hp),(∃ B,look h b=some B)→∃ B,look (jo D j h rs) b=some B
 | [],_,_,hs=>hs
 | r ::rs,j,h,hs=>by
  simp only [jo]
  refine A0 rs (j+1) _ ?_
  cases D j with
  |false=>exact hs
  | true=>
   by_cases hm:b ∈ r.ups.map (·.1)
   ·obtain ⟨B,hB⟩:=mG hm
    exact ⟨B,by
     rw [dJ,hB]⟩
   ·rw [kY hm];exact hs
inductive ub (P:Program) (ap:AP) (H:bA) (n:Nat) (ops:List Oper) (o:Oper) (b d:Nat) (rt:List Nat) (env:dY) (v:AV):List aL→Prop where
 |nil:ub P ap H n ops o b d rt env v []
 | cons {B:aL} {r:List aL} {c2 c3:Cx} {t:RS}:BU ap H n ops o {env,hp:= [(b,B)],md:= .dead,dfs:= [],dec:= [],feet:= []} c2= .ok (t,none) c3→c3.Ok→t.feet= [{rt:=rt,wt:= [d],rb:= [b],wb:= []}]→t.dfs= []→t.env.get d=v→
   ub P ap H n ops o b d rt env v r→ub P ap H n ops o b d rt env v (B::r)
theorem ub.sem (hap:eB P ap) (hH:fH P ap H) {n:Nat} {ops:List Oper} {o:Oper} {b d:Nat} {rt:List Nat} {env:dY} {v:AV} {l:List aL} (hd:o.dst=some d) (h:ub P ap H n ops o b d rt env v l):∀ B ∈ l,yJ P ap ops.toArray o n env [(b,B)] rt [b] v [] [] none:=by
 induction h with
 |nil=>intro B hB;simp at hB
 | @cons B r c2 c3 t he hc hft hdf0 hvd _ ih=>
  intro B' hB'
  rcases List.mem_cons.1 hB' with rfl|hB'
  ·obtain ⟨_,hs⟩:=lu hap hH he hc
   obtain ⟨v2,rb,ups,df,hs⟩:=hs rfl (fun t b hb=>by cases hb)
   have hf:=hs.feet rfl
   rw [hft] at hf
   simp only [List.cons.injEq,ou.mk.injEq,and_true] at hf
   obtain ⟨hrt,_,hrb,hwb⟩:=hf
   have hups:ups= []:=by
    cases ups with
    |nil=>rfl
    |cons _ _=>simp at hwb
   have hdf:df= []:=by
    have:=hs.dfs
    rw [hdf0] at this
    simpa using this.symm
   have hv:v2=v:=by
    have:=hs.env rfl
    rw [this,hd,eP] at hvd
    exact hvd
   have:=hs.sem
   rw [← hrt,← hrb,hups,hdf,hv] at this
   exact this
  ·exact ih B' hB'
theorem FD (hap:eB P ap) (hmix:P.follows .mixedOrders=true) (hH:fH P ap H) {ops:List Oper} {nt:Nat} {h0:List aL} (keep:List Nat) {id:Nat} (hnt:∀ o ∈ ops,∀ d,o.dst=some d→d<nt) {s:St} {s1:RS} {c c':Cx} (i b d:Nat) (o:Oper) (rt:List Nat) (v:AV) (L:List aL)
  (e1:lw ap H ops ops (dU s.hp) {env:=s.env,hp:=s.hp,md:=s.md,dfs:=s.dfs,dec:= [],feet:= []} c= .ok (s1,none) c') (hc:c'.Ok)
  (hoi:ops[i]? =some o) (hod:o.dst=some d) (hft:s1.feet.reverse[i]? =some {rt:=rt,wt:= [d],rb:= [b],wb:= []})
  (hord:mJ (dU s.hp) (Region.before ops.toArray).toList (s1.feet.reverse.set i {rt:=rt,wt:= [d],rb:= [],wb:= []}).reverse=true) (hback:kU ops=true) (hdl:s1.dfs.length=s.dfs.length)
  (hlate:∀ k o',i<k→ops[k]? =some o'→∀ x,o'.dst=some x→x ≠ d∧x ∉ rt) (hdr:d ∉ rt)
  (hv:s1.env.get d=v) (hb:∃ B,look s.hp b=some B) (hL:yD (nG (fun k=> !(((Region.before ops.toArray).toList.getD k 0).testBit i)) s1.feet s1.hp) b=L) (hst:ub P ap H (dU s.hp+4*i) ops o b d rt s1.env v L):
  ah P ap h0 nt (.region id ops.toArray true) s .normal (norm h0.length keep ⟨s1.env,s1.hp,s1.md,s1.dfs⟩):=by
 intro hmd
 have hn0:∀ b B,look s.hp b=some B→b<dU s.hp:=fun b B hb=>kC hb
 obtain ⟨_,hs⟩:=JK hap hH ops 0 _ _ _ _ _ e1 hc
 obtain ⟨h1,recs,hlen,htr⟩:=hs hmd (fun t b hb=>by cases hb) rfl
 refine ⟨h1,fun m0 S0 w0 m S w a hfr hF Q hQ=>wp_region_any hmix ?_⟩
 have hdl':s1.dfs.length=s.dfs.length:=hdl
 have hdf:=(htr.sem hdl').1
 have hil:i<recs.length:=by rw [hlen];exact (List.getElem?_eq_some_iff.1 hoi).1
 have hri:recs[i]? =some recs[i]:=List.getElem?_eq_getElem hil
 have hfeet:s1.feet.reverse=recs.map fQ.foot:=by rw [htr.feet,List.append_nil,List.reverse_reverse]
 rw [hfeet] at hft hord
 rw [List.getElem?_map,hri,Option.map_some,Option.some.injEq] at hft
 generalize recs[i]=r at hri hft
 have hft':=hft
 simp only [fQ.foot,ou.mk.injEq] at hft'
 obtain ⟨hrt,hwt,hrb,hups⟩:=hft'
 have hups:r.ups= []:=by
  cases hu:r.ups with
  |nil=>rfl
  |cons _ _=>rw [hu] at hups;simp at hups
 have hset:(recs.map fQ.foot).set i {rt:=rt,wt:= [d],rb:= [],wb:= []}=(recs.set i (jO r)).map fQ.foot:=by
  rw [List.map_set]
  congr 1
  simp only [fQ.foot,jO,ou.mk.injEq]
  exact ⟨hrt.symm,hwt.symm,trivial,by rw [hups];rfl⟩
 rw [hset] at hord
 have hD0:jA (Array.replicate ops.length false)=fun _=>false:=by
  funext k
  simp only [jA,Array.getD_eq_getD_getElem?]
  by_cases hk:k<ops.length<;>simp [hk]
 have hsz:ops.toArray.size=ops.length:=by simp
 rw [hsz]
 have hpE:∀ D,jo D 0 s.hp (recs.set i (jO r))=jo D 0 s.hp recs:=fun D=>zt recs i 0 s.hp r hri
 have enE:∀ D,ia D 0 s.env (recs.set i (jO r))=ia D 0 s.env recs:=fun D=>uC recs i 0 s.env r hri
 have hget:∀ k,k ≠ i→(recs.set i (jO r))[k]? =recs[k]? :=fun k hk=>List.getElem?_set_ne (Ne.symm hk)
 have hgeti:(recs.set i (jO r))[i]? =some (jO r):=List.getElem?_set_self hil
 have hdsto:∀ (k:Nat) (q:fQ),recs[k]? =some q→∃ o':Oper,ops[k]? =some o'∧q.dst=o'.dst:=by
  intro k q hk
  obtain ⟨o',h2,h3,_⟩:=(htr.sem hdl').2 k q hk
  exact ⟨o',by rw [← h2,Nat.zero_add],h3⟩
 have hrd:r.dst=some d:=by
  obtain ⟨o',h2,h3⟩:=hdsto i r hri
  rw [hoi] at h2;cases h2
  rw [h3,hod]
 have hrv:r.v=v:=by
  have e2:(jn s.env recs).get d=(jn s.env (recs.take (i+1))).get d:=by
   rw [← p_]
   refine iV recs 0 _ _ rfl fun k q hk hd=> ?_
   rw [Nat.zero_add]
   by_cases hki:i<k
   ·obtain ⟨o',h2,h3⟩:=hdsto k q hk
    exact absurd rfl (hlate k o' hki h2 d (h3 ▸ hd)).1
   ·simp;omega
  have e3:s1.env.get d=v:=hv
  rw [htr.env] at e3
  rw [show (jn s.env recs).get d=(jn s.env recs).get d from rfl,e2,xM _ _ _ _ hri,hrd,eP] at e3
  exact e3
 have hrte:∀ t ∈ rt,(jn s.env (recs.take i)).get t=s1.env.get t:=by
  intro t ht
  rw [htr.env,← p_]
  refine iV recs 0 _ _ rfl fun k q hk hd=> ?_
  rw [Nat.zero_add]
  rcases Nat.lt_trichotomy k i with h|h|h
  ·simp [h]
  ·subst h
   rw [hri] at hk;cases hk
   rw [hrd] at hd;cases hd
   exact absurd ht hdr
  ·obtain ⟨o',h2,h3⟩:=hdsto k q hk
   exact absurd ht (hlate k o' h h2 t (h3 ▸ hd)).2
 refine AR (P:=P) (ap:=ap) (s:={env:=s.env,hp:=s.hp,md:=s.md,dfs:=s.dfs,dec:= [],feet:= []}) (recs:=recs.set i (jO r)) hnt (by rw [List.length_set];exact hlen) ?_ ?_ (vL hord) hback hn0 (m0:=m) (S0:=S) (w0:=w) (Q:=Q) ?_ ops.length _ m S _ a ⟨by simp, ?_, ?_, ?_⟩ ?_
 ·intro k q hk x hx
  by_cases hki:k=i
  ·subst hki
   rw [hgeti] at hk;cases hk
   rw [show (jO r).ups=r.ups from rfl,hups] at hx
   simp at hx
  ·rw [hget k hki] at hk
   have:=htr.bound k q hk x hx
   omega
 ·intro k q hk
  by_cases hki:k=i
  ·subst hki
   rw [hgeti] at hk;cases hk
   refine ⟨o,hoi,by rw [← hod] at hrd;exact hrd, ?_⟩
   intro D m2 S2 w2 a2 hS hvr _ hfr2 hnb Q2 K hA
   dsimp only at hS hvr hfr2 hA
   rw [hpE] at hS hvr hfr2 hA
   obtain ⟨B,hB⟩:=A0 (D:=D) recs 0 s.hp hb
   have hBm:B ∈ L:=by
    have e4:=wz (D:=fun j=> !(((Region.before ops.toArray).toList.getD j 0).testBit k)) s.hp recs.reverse
    rw [List.reverse_reverse,List.map_reverse] at e4
    rw [← hL,htr.hp,htr.feet,List.append_nil]
    rw [e4]
    refine yE (Ek (D:=D) (fun j hj=> ?_) recs 0 s.hp s.hp (fun _ h=>h) _ (qZ hB))
    cases hb2:((Region.before ops.toArray).toList.getD j 0).testBit k with
    |false=>rfl
    |true=>rw [hnb j hb2] at hj;cases hj
   have hsem:=hst.sem hap hH hod B hBm
   rw [show (jO r).v=r.v from rfl,hrv,show (jO r).ups=r.ups from rfl,hups] at hA
   refine hsem _ m2 S2 w2 a2 hS (fun t ht=> ?_) (fun x hx B2 hB2=> ?_) hfr2 Q2 K hA
   ·have h2:=hvr t (by rw [show (jO r).rt=r.rt from rfl,hrt];exact ht)
    rw [xL recs k k s.env r hri,hrte t ht] at h2
    exact h2
   ·rw [List.mem_singleton] at hx
    subst hx
    simp only [look,Nat.beq_refl,Option.some.injEq] at hB2
    subst hB2
    exact hB
  ·rw [hget k hki] at hk
   obtain ⟨o',h2,h3,hsem⟩:=(htr.sem hdl').2 k q hk
   rw [Nat.zero_add] at h2
   refine ⟨o',h2,h3, ?_⟩
   intro D m2 S2 w2 a2 hS hvr hag hfr2 _ Q2 K hA
   dsimp only at hS hvr hag hfr2 hA
   rw [hpE] at hS hvr hag hfr2 hA
   rw [xL recs i k s.env r hri] at hvr
   rw [H5 recs i k s.hp r hri] at hag
   exact hsem _ m2 S2 w2 a2 hS hvr (fun x hx B hB=>by rw [← hag x hx];exact hB) hfr2 Q2 K hA
 ·intro m' S' w' a' h3 h4
  dsimp only at h3 h4
  have e5:uR s.hp (recs.set i (jO r))=uR s.hp recs:=hpE _
  have e6:jn s.env (recs.set i (jO r))=jn s.env recs:=enE _
  rw [e5] at h3 h4
  rw [e6] at h4
  have h5:Fr (aS h0) m0 S0 w0 (look s1.hp) m' S' w':=by
   rw [htr.hp];exact hfr.trans h3
  have h6:FR ap s1.env s1.hp s1.dfs nt m' S' w' a':=by
   rw [htr.hp,htr.env,hdf];exact h4
  obtain ⟨m2,h7,h8⟩:=gI (keep:=keep) (s:=⟨s1.env,s1.hp,s1.md,s1.dfs⟩) h5 h6
  exact hQ m2 S' w' a' h7 h8
 ·intro k o hk hd
  rw [hD0] at hd;cases hd
 ·dsimp only
  rw [hD0,iY _ 0 _ (fun _ _=>rfl)]
  exact ⟨Ge.refl _ _,iC.refl _,rfl,rfl,rfl,Nat.le_refl _,fun _ _ _=>rfl,fun _ B h=> .inr ⟨B,h,rfl⟩,fun _ _ _ h=> .inl h⟩
 ·dsimp only
  rw [hD0,iY _ 0 _ (fun _ _=>rfl),nj _ 0 _ (fun _ _=>rfl)]
  exact ⟨⟨hF.srel.inj,fun b B hb=>hF.srel.blk b B hb|>fun ⟨h1,h2,h3⟩=> ⟨h1,h2,h3⟩,hF.srel.sealed,hF.srel.own,hF.srel.glob⟩,hF.env,hF.dfs,hF.size⟩
 ·simp only [tF]
  exact Nat.le_trans (List.length_filter_le _ _) (by simp)
def sL:List Nat→List Nat→Bool
 | [],[]=>true
 |a::r,b::q=>Nat.beq a b && sL r q
 |_,_=>false
theorem jB:∀ {l r:List Nat},sL l r=true→l=r
 | [],[],_=>rfl
 |a::r,b::q,h=>by
  simp only [sL,Bool.and_eq_true] at h
  rw [ax h.1,jB h.2]
 | [],_::_,h=>by simp [sL] at h
 |_::_,[],h=>by simp [sL] at h
def ET (ap:AP) (H:bA) (n:Nat) (ops:List Oper) (o:Oper) (b d:Nat) (rt:List Nat) (env:dY) (v:AV):List aL→Option (List Prop)
 | []=>some []
 | B ::r=>match BU ap H n ops o {env,hp:= [(b,B)],md:= .dead,dfs:= [],dec:= [],feet:= []} ⟨true,[],[],[],[],[]⟩ with
  | .ok (t,none) c3=>match t.feet,t.dfs,c3.bs,c3.ps with
   | [F],[],[],[]=>match sL F.rt rt && sL F.wt [d] && sL F.rb [b] && sL F.wb [] with
    |true=>match ET ap H n ops o b d rt env v r with
     |some l=>some ((t.env.get d=v)::l)
     |none=>none
    |false=>none
   |_,_,_,_=>none
  |_=>none
theorem BS {n:Nat} {ops:List Oper} {o:Oper} {b d:Nat} {rt:List Nat} {env:dY} {v:AV}:∀ {L:List aL} {l:List Prop},ET ap H n ops o b d rt env v L=some l→(∀ p ∈ l,p)→ub P ap H n ops o b d rt env v L
 | [],_,_,_=> .nil
 | B ::r,l,h,hl=>by
  simp only [ET] at h
  split at h
  ·rename_i t c3 he
   split at h
   ·rename_i F h1 h2 h3 h4
    split at h
    ·rename_i hc
     simp only [Bool.and_eq_true] at hc
     split at h
     ·rename_i l' hr
      cases h
      refine .cons he ⟨by rw [h3];simp,by rw [h4];simp⟩ ?_ h2 (hl _ (by simp)) (BS hr fun p hp=>hl p (by simp [hp]))
      rw [h1,← jB hc.1.1.1,← jB hc.1.1.2,← jB hc.1.2,← jB hc.2]
     ·cases h
    ·cases h
   ·cases h
  ·cases h
def Aa (ap:AP) (H:bA) (base:Nat) (keep:List Nat) (nt0 i b d:Nat) (code:Code) (s:St) (c:Cx):R St:=
 match code with
 | .region _ opsA true=>
  (lw ap H opsA.toList opsA.toList (dU s.hp) {env:=s.env,hp:=s.hp,md:=s.md,dfs:=s.dfs,dec:= [],feet:= []} c).bind fun (s1,p) c=>
  match p with
  |some _=> .bad 1
  |none=>
  match opsA.toList[i]?,s1.feet.reverse[i]? with
  | some o,some F=>
   match (match o.dst with|some d'=>Nat.beq d' d|none=>false) && sL F.wt [d] && sL F.rb [b] && sL F.wb [] && mJ (dU s.hp) (Region.before opsA).toList (s1.feet.reverse.set i {rt:=F.rt,wt:= [d],rb:= [],wb:= []}).reverse && kU opsA.toList && Nat.beq s1.dfs.length s.dfs.length
    && (opsA.toList.drop (i+1)).all (fun o'=>match o'.dst with|some x=> !(Nat.beq x d) && !(jN F.rt x)|none=>true) && !(jN F.rt d) && (look s.hp b).isSome && opsA.toList.all (xK nt0) with
   |true=>match ET ap H (dU s.hp+4*i) opsA.toList o b d F.rt s1.env (s1.env.get d) (yD (nG (fun k=> !(((Region.before opsA).toList.getD k 0).testBit i)) s1.feet s1.hp) b) with
    |some l=> .ok (norm base keep ⟨s1.env,s1.hp,s1.md,s1.dfs⟩) {c with ps:=l++c.ps}
    |none=> .bad 3
   |false=> .bad 2
  |_,_=> .bad 4
 |_=> .bad 5
theorem DI (hap:eB P ap) (hmix:P.follows .mixedOrders=true) (hH:fH P ap H) {h0:List aL} {keep:List Nat} {nt nt0 i b d:Nat} {code:Code} {s s':St} {c c':Cx} (hn:nt0≤nt) (h:Aa ap H h0.length keep nt0 i b d code s c= .ok s' c') (hc:c'.Ok):ah P ap h0 nt code s .normal s':=by
 unfold Aa at h
 split at h
 ·rename_i id opsA
  obtain ⟨⟨s1,p⟩,c1,e1,h⟩:=R.bind_ok h
  dsimp only at h
  split at h
  ·cases h
  ·split at h
   ·rename_i o F ho hF
    split at h
    ·rename_i hcond
     split at h
     ·rename_i l hl
      cases h
      simp only [Bool.and_eq_true] at hcond
      obtain ⟨⟨⟨⟨⟨⟨⟨⟨⟨⟨q1,q2⟩,q3⟩,q4⟩,q5⟩,q6⟩,q7⟩,q8⟩,q9⟩,q10⟩,q11⟩:=hcond
      have hod:o.dst=some d:=by
       split at q1
       ·rename_i d' hd';rw [hd',ax q1]
       ·cases q1
      have hFe:F={rt:=F.rt,wt:= [d],rb:= [b],wb:= []}:=by
       rw [← jB q2,← jB q3,← jB q4]
      have hops:opsA.toList.toArray=opsA:=by simp
      have key:=FD (nt:=nt) (h0:=h0) hap hmix hH keep (id:=id) (ops:=opsA.toList) (fun o' ho' x hx=>by
        have:=List.all_eq_true.1 q11 o' ho'
        simp only [xK,hx] at this
        exact Nat.lt_of_lt_of_le (cZ this) hn) i b d o F.rt (s1.env.get d) _ e1 ⟨hc.bs,fun p hp=>hc.ps p (by simp [hp])⟩ ho hod (by rw [hF,← hFe]) (by rw [hops];exact q5) q6 (ax q7) ?_ ?_ rfl (by simpa [Option.isSome_iff_exists] using q10) (by rw [hops]) (BS hl fun p hp=>hc.ps p (by simp [hp]))
      ·rw [hops] at key
       exact key
      ·intro k o' hk ho' x hx
       have hm:o' ∈ opsA.toList.drop (i+1):=by
        refine List.mem_of_getElem? (i:=k - (i+1)) ?_
        rw [List.getElem?_drop,show i+1+(k - (i+1))=k by omega]
        exact ho'
       have:=List.all_eq_true.1 q8 o' hm
       simp only [hx,Bool.and_eq_true,Bool.not_eq_true'] at this
       refine ⟨fun e=> ?_,fun e=> ?_⟩
       ·subst e;rw [Nat.beq_refl] at this;cases this.1
       ·rw [eF.2 e] at this;cases this.2
      ·intro e
       rw [eF.2 e] at q9
       cases q9
     ·cases h
    ·cases h
   ·cases h
 ·cases h
end
theorem tK {P:Program} {ap:AP} (g:tX P ap) {h0:List aL} {keep:List Nat} {nt nt0 i b d:Nat} {code:Code} {s s':St} {ans:List (gb × List aL)} {ps:List Prop} (hp:Aj ps) (hn:nt0≤nt)
  (h:Aa ap (o_ P ap 3000 4) h0.length keep nt0 i b d code s ⟨true,[],[],[],ans,[]⟩= .ok s' ⟨true,[],[],ps,[],[]⟩):ah P ap h0 nt code s .normal s':=by
 obtain ⟨h1,_⟩:=gJ g.apok g.mixed g.fnok 3000 4
 exact DI g.apok g.mixed h1 hn h ⟨by simp,hp.mem⟩
end AM
namespace AM
open Go
inductive Nh (b:Nat) (B:aL):Hp→Hp→Prop
 |nil:Nh b B [] []
 |cons {c:Nat} {C D:aL} {r l:Hp}:gS b B D C→c ≠ b→Nh b B r l→Nh b B ((c,C)::r) ((c,D)::l)
inductive JZ (b:Nat) (B:aL):Hp→Hp→Prop
 |here {r l:Hp}:Nh b B r l→JZ b B r ((b,B)::l)
 |step {c:Nat} {C D:aL} {r l:Hp}:gS b B D C→c ≠ b→JZ b B r l→JZ b B ((c,C)::r) ((c,D)::l)
theorem Nh.dom {b:Nat} {B:aL} {r l:Hp} (h:Nh b B r l):∀ c C',look r c=some C'→c ≠ b∧∃ C,look l c=some C∧gS b B C C':=by
 induction h with
 |nil=>intro c C' hc;simp [look] at hc
 | @cons d C D r l h1 h2 _ ih=>
  intro c C' hc
  simp only [look] at hc ⊢
  cases hb:Nat.beq d c with
  |true=>
   rw [hb] at hc
   have:=ax hb
   subst this
   cases hc
   exact ⟨h2,D,rfl,h1⟩
  |false=>rw [hb] at hc;exact ih c C' hc
theorem Nh.all {b:Nat} {B:aL} {r l:Hp} (h:Nh b B r l):∀ c C,look l c=some C→∃ C',look r c=some C':=by
 induction h with
 |nil=>intro c C hc;simp [look] at hc
 |@cons d C D r l h1 h2 _ ih=>
  intro c C' hc
  simp only [look] at hc ⊢
  cases hb:Nat.beq d c with
  |true=>exact ⟨C,rfl⟩
  |false=>rw [hb] at hc;exact ih c C' hc
theorem JZ.dom {b:Nat} {B:aL} {r l:Hp} (h:JZ b B r l):∀ c C',look r c=some C'→c ≠ b∧∃ C,look l c=some C∧gS b B C C':=by
 induction h with
 |here h=>
  intro c C' hc
  obtain ⟨h1,C,h2,h3⟩:=h.dom c C' hc
  refine ⟨h1,C, ?_,h3⟩
  simp only [look]
  cases hb:Nat.beq b c with
  |true=>exact absurd (ax hb).symm h1
  |false=>exact h2
 | @step d C D r l h1 h2 _ ih=>
  intro c C' hc
  simp only [look] at hc ⊢
  cases hb:Nat.beq d c with
  |true=>
   rw [hb] at hc
   have:=ax hb
   subst this
   cases hc
   exact ⟨h2,D,rfl,h1⟩
  |false=>rw [hb] at hc;exact ih c C' hc
theorem JZ.all {b:Nat} {B:aL} {r l:Hp} (h:JZ b B r l):∀ c C,c ≠ b→look l c=some C→∃ C',look r c=some C':=by
 induction h with
 |here h=>
  intro c C hcb hc
  simp only [look] at hc
  cases hb:Nat.beq b c with
  |true=>exact absurd (ax hb).symm hcb
  |false=>rw [hb] at hc;exact h.all c C hc
 |@step d C D r l h1 h2 _ ih=>
  intro c C' hcb hc
  simp only [look] at hc ⊢
  cases hb:Nat.beq d c with
  |true=>exact ⟨C,rfl⟩
  |false=>rw [hb] at hc;exact ih c C' hcb hc
theorem JZ.look {b:Nat} {B:aL} {r l:Hp} (h:JZ b B r l):AM.look l b=some B:=by
 induction h with
 |here h=>simp [AM.look]
 |@step d C D r l h1 h2 _ ih=>
  simp only [AM.look]
  cases hb:Nat.beq d b with
  |true=>exact absurd (ax hb) h2
  |false=>exact ih
section
variable {P:Program} {ap:AP}
theorem ah.before {h0:List aL} {nt:Nat} {code:Code} {e:a_} {s2:St} (b:Nat) (B:aL) {en en':dY} {hp hp':Hp} (hy:ah P ap h0 nt code ⟨en',hp',.dead,[]⟩ e s2) (hb0:h0.length≤b) (hpr:B.pr=true)
  (henv:CS b B en' (dY.get en)) (hhp:JZ b B hp' hp):ah P ap h0 nt code {env:=en,hp,md:= .dead,dfs:= []} e s2:=by
 intro _
 obtain ⟨h5,h6⟩:=hy rfl
 refine ⟨h5,fun m0 S0 w0 m S w a hfr hF Q hQ=> ?_⟩
 obtain ⟨S2,h7,h8⟩:=uK (r:={env:=en,hp,md:= .dead,dfs:= []}) (r':=⟨en',hp',.dead,[]⟩) b B hb0 hhp.look hpr rfl (gV henv) hhp.dom hhp.all hfr hF
 exact h6 m0 S0 w0 m S2 w a h7 h8 Q hQ
theorem ah.tidy {h0:List aL} {nt:Nat} {code:Code} {e:a_} {s s1 s2:St} (keep:List Nat) (h:ah P ap h0 nt code s1 e s2) (hn:AM.norm h0.length keep s=s1) (hd:s1.md= .dead):ah P ap h0 nt code s e s2:=by
 intro hs
 obtain ⟨h3,h4⟩:=h hd
 refine ⟨h3,fun m0 S0 w0 m S w a hfr hF Q hQ=> ?_⟩
 obtain ⟨m2,h7,h8⟩:=gI (keep:=keep) hfr hF
 rw [hn] at h7 h8
 exact h4 m0 S0 w0 m2 S w a h7 h8 Q hQ
end
end AM
