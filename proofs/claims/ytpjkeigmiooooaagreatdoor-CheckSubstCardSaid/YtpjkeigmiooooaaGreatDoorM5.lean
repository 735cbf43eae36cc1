/- The abstract machine over the code of the model, and the proof that it is sound. No conditions. -/
import Derived.Test.YtpjkeigmiooooaaGreatDoorM4
import Derived.ChangeArms
import Derived.WideShapes
set_option linter.unusedSimpArgs false
set_option linter.unusedVariables false
namespace AM
open Go
structure aF (s s':St):Prop where
 env:∀ t,s.env.get t=s'.env.get t∨s.env.get t= .dead
 hp:s.hp=s'.hp
 md:s.md=s'.md
 dfs:s.dfs=s'.dfs
theorem aF.refl (s:St):aF s s:=⟨fun _=> .inl rfl,rfl,rfl,rfl⟩
def Ak:dQ→(Nat→AV)→Prop
 | [],_=>True
 |(t,v)::r,f=>(f t=v)∧Ak r f
theorem nr {f:Nat→AV}:∀ {e:dQ},Ak e f→∀ t,e.get t=f t∨e.get t= .dead
 | [],_,t=> .inr rfl
 | (u,v)::r,h,t=>by
  simp only [Ak] at h
  simp only [dQ.get,av]
  cases hb:Nat.beq u t with
  |true=>
   have:=aL hb
   subst this
   exact .inl h.1.symm
  |false=>exact nr h.2 t
theorem aF.of {e e':dQ} {hp:Hp} {md:AV} {dfs:List (Nat × List AV)} (h:Ak e e'.get):aF {env:=e,hp,md,dfs} {env:=e',hp,md,dfs}:=⟨nr h,rfl,rfl,rfl⟩
section
variable {P:Program} {ap:AP} {H:bN}
theorem FR.less {s s':St} (h:aF s s') {nt:Nat} {m:aX} {S:aS} {w:World} {a:Act} (hF:FR ap s'.env s'.hp s'.dfs nt m S w a):FR ap s.env s.hp s.dfs nt m S w a:=by
 refine ⟨h.hp ▸ hF.srel,fun t=> ?_, ?_,hF.size⟩
 ·rcases h.env t with e|e
  ·rw [e,h.hp];exact hF.env t
  ·rw [e];simp [VR]
 ·rw [h.hp,h.dfs];exact hF.dfs
theorem ah.weak {h0:List a_} {nt:Nat} {code:Code} {s s' r r':St} {e:bk} (h:ah P ap h0 nt code s e r) (hs:aF s s') (hr:aF r' r):ah P ap h0 nt code s' e r':=by
 intro hmd
 obtain ⟨h3,h4⟩:=h (hs.md ▸ hmd)
 refine ⟨hr.md ▸ h3,fun m0 S0 w0 m S w a hfr hF Q hQ=>h4 m0 S0 w0 m S w a (by rw [hs.hp];exact hfr) (hF.less hs) Q ?_⟩
 intro m' S' w' a' h5 h6
 have:=hQ m' S' w' a' (by rw [hr.hp];exact h5) (h6.less hr)
 cases e with
 |normal=>exact this
 |exit id=>exact this
 |ret=>exact this
 |panic v=>intro cv hcv;exact this cv (by rw [hr.hp];exact hcv)
inductive aA (P:Program) (ap:AP) (h0:List a_) (nt:Nat) (b:Code) {α β:Type} (e:β→bk) (st:α→St) (out:β→St):α→β→Prop where
 |done {a:α} {r:β}:ah P ap h0 nt b (st a) (e r) (out r)→aA P ap h0 nt b e st out a r
 |next {a a':α} {r:β}:ah P ap h0 nt b (st a) .normal (st a')→aA P ap h0 nt b e st out a' r→aA P ap h0 nt b e st out a r
theorem aA.rounds {h0:List a_} {nt:Nat} {b:Code} {α β:Type} {e:β→bk} {st:α→St} {out:β→St} {a:α} {r:β} (hne:e r ≠ .normal) (h:aA P ap h0 nt b e st out a r):(st a).md= .dead→(out r).md= .dead∧∃ n,∀ m0 S0 w0 m S w c,Fr (bq h0) m0 S0 w0 (av (st a).hp) m S w→FR ap (st a).env (st a).hp (st a).dfs nt m S w c→∀ Q,XA ap h0 m0 S0 w0 nt (out r) (e r) Q→Code.rounds P b Q n c w:=by
 induction h with
 |@done a r hx=>
  intro hmd
  obtain ⟨h3,h4⟩:=hx hmd
  refine ⟨h3,1,fun m0 S0 w0 m S w c hfr hF Q hQ=>h4 m0 S0 w0 m S w c hfr hF _ ?_⟩
  intro m' S' w' a' h5 h6
  have:=hQ m' S' w' a' h5 h6
  revert hne this
  cases e r with
  |normal=>intro hne _;exact absurd rfl hne
  |exit id=>intro _ h;exact h
  |ret=>intro _ h;exact h
  |panic v=>intro _ h;exact h
 |next hx _ ih=>
  intro hmd
  obtain ⟨h3,h4⟩:=hx hmd
  obtain ⟨h5,n,h6⟩:=ih hne h3
  refine ⟨h5,n+1,fun m0 S0 w0 m S w c hfr hF Q hQ=>h4 m0 S0 w0 m S w c hfr hF _ ?_⟩
  intro m' S' w' a' h7 h8
  exact h6 m0 S0 w0 m' S' w' a' h7 h8 Q hQ
theorem aA.ok {h0:List a_} {nt:Nat} {b:Code} {α β:Type} {e:β→bk} {st:α→St} {out:β→St} {a:α} {r:β} (hne:e r ≠ .normal) (h:aA P ap h0 nt b e st out a r):ah P ap h0 nt (.loop b) (st a) (e r) (out r):=by
 intro hmd
 obtain ⟨h3,n,h4⟩:=h.rounds hne hmd
 exact ⟨h3,fun m0 S0 w0 m S w c hfr hF Q hQ=>wp_loop_rounds n (h4 m0 S0 w0 m S w c hfr hF Q hQ)⟩
theorem aA.blk {h0:List a_} {n id:Nat} {b:Code} {α β:Type} {e:β→bk} {st:α→St} {out:β→St} {a:α} {r:β} {s s':St} {e':bk} (h:∀ nt,n≤nt→aA P ap h0 nt b e st out a r) (hne:e r ≠ .normal) (he:iN id (e r)=e') (hs:aF (st a) s) (hr:aF s' (out r)):aC P ap h0 n (.block id (.loop b)) s e' s':=by
 intro nt hn
 have h1:=((h nt hn).ok hne).block (id:=id)
 rw [he] at h1
 exact h1.weak hs hr
def iM (id:Nat):Code→Option Code
 | .seq a b=>match iM id a with|some c=>some c|none=>iM id b
 | .cond _ a b=>match iM id a with|some c=>some c|none=>iM id b
 | .block i b=>match Nat.beq i id with|true=>some b|false=>iM id b
 | .loop b=>iM id b
 | .scope b=>iM id b
 |_=>none
def ac (id:Nat) (c:Code):Code:=match iM id c with|some (.loop b)=>b|_=> .skip
def iX (id:Nat):Code→Code
 | .seq a b=>match iX id a with| .region i o d=> .region i o d|_=>iX id b
 | .cond _ a b=>match iX id a with| .region i o d=> .region i o d|_=>iX id b
 | .block _ b=>iX id b
 | .loop b=>iX id b
 | .scope b=>iX id b
 | .region i o d=>match Nat.beq i id with|true=> .region i o d|false=> .skip
 |_=> .skip
end
end AM
namespace AM
open Go
def bi (x y:List AV):Prop:=∀ g m S v,bn g m S x v→bn g m S y v
def lp:AV→Bool
 | .own _ _ _=>false
 | .tup _=>false
 |_=>true
theorem bp.refl (x:AV):bp x x:=fun _ _ _ _ h=>h
theorem bi.refl (x:List AV):bi x x:=fun _ _ _ _ h=>h
theorem bi.nil:bi [] []:=bi.refl []
theorem bi.cons {x y:AV} {l r:List AV} (h:bp x y) (h':bi l r):bi (x::l) (y::r):=by
 intro g m S v hv
 cases v with
 |nil=>simp [bn] at hv
 |cons u vs=>simp only [bn] at hv ⊢;exact ⟨h g m S u hv.1,h' g m S vs hv.2⟩
theorem bp.nilS (nn:Bool) (h:nn=false):bp .nilS (.sl [] 0 nn):=by
 subst h
 intro g m S v hv
 simp only [VR,PR] at hv ⊢
 exact ⟨none,0,hv,Nat.le_refl _,.inl (by simp)⟩
theorem bp.sl (xs:List AV) (n:Nat) (a:Bool):bp (.sl xs n a) (.sl xs n false):=by
 intro g m S v hv
 simp only [VR,PR] at hv ⊢
 obtain ⟨a,cap,e,hle,q⟩:=hv
 refine ⟨a,cap,e,hle, ?_⟩
 rcases q with ⟨h1,_,h3⟩|q
 ·exact .inl (by simp [h1,h3])
 ·exact .inr q
theorem bp.dead (x:AV):bp x .dead:=fun _ _ _ _ _=>by simp only [VR]
section
variable {P:Program} {ap:AP}
theorem aB.args {f:Nat} {args args':List AV} {h h':List a_} {out:fq} (hf:bi args' args) (hc:aB P ap f args h out h'):aB P ap f args' h out h':=
 ⟨hc.len,hc.ent,fun m S w cargs hS hv=>hc.calls m S w cargs hS (hf _ _ _ _ hv)⟩
def eI (out out':fq):Prop:=(∀ n,gA n out=gA n out')∧∀ h' m' S' e,Jb h' m' S' out e→Jb h' m' S' out' e
theorem aB.out {f:Nat} {args:List AV} {h h':List a_} {out out':fq} (ho:eI out out') (hc:aB P ap f args h out h'):aB P ap f args h out' h':=
 ⟨hc.len,hc.ent,fun m S w cargs hS hv=>(hc.calls m S w cargs hS hv).mono fun e w' ⟨m',S',hF⟩=> ⟨m',S',ho.1 _ ▸ hF.srel,ho.1 _ ▸ hF.fr,ho.2 _ _ _ _ hF.out⟩⟩
theorem fb {x:AV} (h:lp x=true):∀ xs k e,x ≠ .own xs k e:=by intro xs k e he;subst he;cases h
theorem lq {x:AV} (h:lp x=true):∀ l,x ≠ .tup l:=by intro l he;subst he;cases h
theorem eI.ret {x y:AV} (hx:lp x=true) (hy:lp y=true) (h:bp x y):eI (.ret x) (.ret y):=by
 refine ⟨fun n=> ?_,fun h' m' S' e he=> ?_⟩
 ·simp only [gA,eu n (fb hx) (lq hx),eu n (fb hy) (lq hy)]
 ·obtain ⟨cv,e1,h1⟩:=he
  refine ⟨cv,e1, ?_⟩
  rw [fL (fb hx) (lq hx)] at h1
  rw [fL (fb hy) (lq hy)]
  exact h _ _ _ _ h1
inductive tC:List AV→List AV→Prop where
 |nil:tC [] []
 |same {x:AV} {l r:List AV}:tC l r→tC (x::l) (x::r)
 |fit {x y:AV} {l r:List AV}:lp x=true→lp y=true→bp x y→tC l r→tC (x::l) (y::r)
theorem tC.blocks {l r:List AV} (h:tC l r):∀ n,(cR n l).2=(cR n r).2:=by
 induction h with
 |nil=>intro n;rfl
 |@same x l r _ ih=>
  intro n
  rcases eK x with ⟨xs,k,e,rfl⟩|hx
  ·simp only [cR];rw [ih]
  ·rw [bh n hx,bh n hx];exact ih n
 |fit hx hy _ _ ih=>
  intro n
  rw [bh n (fb hx),bh n (fb hy)]
  exact ih n
theorem tC.outR {gh gf:bX} {m:aX} {S:aS} {l r:List AV} (h:tC l r):∀ (n:Nat) (vs:List Value),eM gh gf m S n l vs→eM gh gf m S n r vs:=by
 induction h with
 |nil=>intro n vs hv;exact hv
 | @same x l r _ ih=>
  intro n vs hv
  cases vs with
  |nil=>simp [eM] at hv
  |cons v vs=>
   rcases eK x with ⟨xs,k,e,rfl⟩|hx
   ·simp only [eM] at hv ⊢;exact ⟨hv.1,ih _ _ hv.2⟩
   ·rw [bw hx] at hv ⊢;exact ⟨hv.1,ih _ _ hv.2⟩
 | fit hx hy hf _ ih=>
  intro n vs hv
  cases vs with
  |nil=>simp [eM] at hv
  |cons v vs=>
   rw [bw (fb hx)] at hv
   rw [bw (fb hy)]
   exact ⟨hf _ _ _ _ hv.1,ih _ _ hv.2⟩
theorem eI.tup {l r:List AV} (h:tC l r):eI (.ret (.tup l)) (.ret (.tup r)):=by
 refine ⟨fun n=> ?_,fun h' m' S' e he=> ?_⟩
 ·simp only [gA,fS];exact h.blocks n
 ·obtain ⟨cv,e1,h1⟩:=he
  refine ⟨cv,e1, ?_⟩
  simp only [pS] at h1 ⊢
  obtain ⟨vs,e2,q⟩:=h1
  have hb:(fS h'.length (.tup l)).2=(fS h'.length (.tup r)).2:=by simp only [fS];exact h.blocks _
  refine ⟨vs,e2, ?_⟩
  rw [hb] at q
  exact h.outR _ _ q
end
end AM
namespace AM
open Go
def thaw:AV→AV
 | .own xs n e=> .sl (xs.take (n*e)) n true
 |x=>x
def jz:fq→fq
 | .ret (.tup l)=> .ret (.tup (l.map thaw))
 | .ret x=> .ret (thaw x)
 | .pan v=> .pan v
theorem sL {x:AV} (h:∀ xs k e,x ≠ .own xs k e):thaw x=x:=by
 cases x<;>first|rfl|exact absurd rfl (h _ _ _)
theorem jA (x:AV):∀ xs k e,thaw x ≠ .own xs k e:=by
 intro xs k e h
 cases x<;>simp [thaw] at h
theorem mE:∀ (l:List AV) (n:Nat),(cR n (l.map thaw)).2= []
 | [],_=>rfl
 |x::r,n=>by rw [List.map_cons,bh n (jA x)];exact mE r n
section
variable {P:Program} {ap:AP}
theorem oG {gh gf g':bX} {m:aX} {S S':aS} {w:World} (hS:bJ ap gf m S w) {rd:bX} (hrd:∀ b B,rd b=some B→gf b=some B) (hle:S'=bQ S m rd w) (hother:∀ x v,VR gh m S x v→VR g' m S' x v):
  ∀ (l:List AV) (n:Nat) (vs:List Value),(∀ i B,(cR n l).2[i]? =some B→rd (n+i)=some B)→eM gh gf m S n l vs→eM g' g' m S' n (l.map thaw) vs
 | [],n,vs,_,h=>by cases vs with|nil=>trivial|cons _ _=>simp [eM] at h
 |x::r,n,[],_,h=>by
  exfalso
  rcases eK x with ⟨xs,k,e,rfl⟩|hx
  ·simp [eM] at h
  ·cases x<;>simp [eM] at h
 | x ::r,n,v::vs,hb,h=>by
  rcases eK x with ⟨xs,k,e,rfl⟩|hx
  ·simp only [eM] at h
   simp only [cR] at hb
   have h0:=hb 0 _ rfl
   rw [Nat.add_zero] at h0
   have hf:frz rd 6 (.ref n 0 0 k)=some (.sl (xs.take (k*e)) k true):=by
    simp [frz,h0,vM]
   have h1:=fP hS hrd 6 _ _ _ hf h.1
   rw [List.map_cons,bw (jA _)]
   refine ⟨dC _ (hle ▸ h1), ?_⟩
   have h2:=oG hS hrd hle hother r (n+1) vs (fun i B hi=>by rw [show n+1+i=n+(i+1) by omega];exact hb (i+1) B (by simpa using hi)) h.2
   have key:∀ (l:List AV) (a b:Nat) (vs:List Value),(∀ x ∈ l,∀ xs k e,x ≠ .own xs k e)→eM g' g' m S' a l vs→eM g' g' m S' b l vs:=by
    intro l
    induction l with
    |nil=>intro a b vs _ h;cases vs with|nil=>trivial|cons _ _=>simp [eM] at h
    | cons y q ih=>
     intro a b vs hl h
     cases vs with
     |nil=>cases y<;>simp [eM] at h
     |cons u us=>
      have hy:=hl y (by simp)
      rw [bw hy] at h ⊢
      exact ⟨h.1,ih a b us (fun x hx=>hl x (by simp [hx])) h.2⟩
   refine key _ (n+1) n vs ?_ h2
   intro y hy
   obtain ⟨z,_,rfl⟩:=List.mem_map.1 hy
   exact jA z
  ·rw [bw hx] at h
   rw [bh n hx] at hb
   rw [List.map_cons,bw (jA x),sL hx]
   exact ⟨hother _ _ h.1,oG hS hrd hle hother r n vs hb h.2⟩
theorem aB.thaw {f:Nat} {args:List AV} {h h':List a_} {out:fq} (hp:∀ B ∈ h',B.pr=true) (hc:aB P ap f args h out h'):aB P ap f args h (jz out) h':=by
 refine ⟨hc.len,hc.ent,fun m S w cargs hS hv=>(hc.calls m S w cargs hS hv).mono ?_⟩
 rintro e w' ⟨m',S',hF⟩
 obtain ⟨hsr,hfr,hout⟩:=hF
 have hB0:∀ n,gA n (jz out)= []:=by
  intro n
  cases out with
  |pan v=>rfl
  | ret x=>
   rcases oP x with ⟨l,rfl⟩|ht
   ·simp only [jz,gA,fS];exact mE l n
   ·have:jz (.ret x)= .ret (AM.thaw x):=by cases x<;>first|rfl|exact absurd rfl (ht _)
    rw [this]
    simp only [gA]
    have hnt:∀ l,AM.thaw x ≠ .tup l:=by intro l hl;cases x<;>simp [AM.thaw] at hl;exact ht _ rfl
    rw [eu n (jA x) hnt]
 let rd:bX:=fun b=>if h'.length≤b then bq (h'++gA h'.length out) b else none
 have hrd:∀ b B,rd b=some B→bq (h'++gA h'.length out) b=some B:=by
  intro b B hb
  simp only [rd] at hb
  split at hb
  ·exact hb
  ·cases hb
 have hle:=gP S' m' rd w'
 have hlow:∀ b B,bq h' b=some B→bq (h'++gA h'.length out) b=some B:=by
  intro b B hb
  have:b<h'.length:=(List.getElem?_eq_some_iff.1 hb).1
  rw [cH this];exact hb
 have hother:∀ x v,VR (bq h') m' S' x v→VR (bq (h'++gA h'.length (jz out))) m' (bQ S' m' rd w') x v:=by
  intro x v hx
  rw [hB0,List.append_nil]
  exact iH hle (Ge.refl _ _) x hx
 refine ⟨m',bQ S' m' rd w', ?_, ?_, ?_⟩
 ·rw [hB0,List.append_nil]
  refine ⟨fun b b' B B' hb hb'=>hsr.inj b b' B B' (hlow b B hb) (hlow b' B' hb'), ?_,fun k o v hv=>iS hsr hv, ?_, ?_⟩
  ·intro b B hb
   obtain ⟨⟨cur,e,vs,rest,h1,h2,h3,h4,h5,h6⟩,hz,hzl⟩:=hsr.blk b B (hlow b B hb)
   have hpr:=hp B (List.mem_of_getElem? hb)
   refine ⟨⟨cur,e,vs,rest,h1,h2,fun _=>bU hle _ (h3 hpr),bH _ (bU hle _ (h3 hpr)),h5,h6⟩,hz,hzl⟩
  ·intro b B hb o v hv
   rcases cS hv with h1|⟨h1,b',B',h2,h3,h4⟩
   ·exact hsr.own b B (hlow b B hb) o v h1
   ·have:=hsr.inj b b' B B' (hlow b B hb) (hrd _ _ h2) h3.symm
    subst this
    have hlt:b<h'.length:=(List.getElem?_eq_some_iff.1 hb).1
    simp only [rd] at h2
    rw [if_neg (by omega)] at h2
    cases h2
  ·intro k xs hk
   obtain ⟨vs,h1,h2⟩:=hsr.glob k xs hk
   exact ⟨vs,bU hle _ h1,h2.mono hle⟩
 ·rw [hB0,List.append_nil]
  refine ⟨?_,iC.trans hfr.sle hle,hfr.os,hfr.tape,hfr.output,hfr.size,hfr.rest,fun b B hb=>hfr.img b B (hlow b B hb), ?_⟩
  ·intro b B hb
   obtain ⟨B',h1,h2⟩:=hfr.ge b B hb
   have hlt:b<h'.length:=by rw [hc.len];exact (List.getElem?_eq_some_iff.1 hb).1
   rw [cH hlt] at h1
   exact ⟨B',h1,h2⟩
  ·intro k o v hv
   rcases cS hv with h1|⟨h1,b',B',h2,h3,h4⟩
   ·exact hfr.sealN k o v h1
   ·rcases hfr.img b' B' (hrd _ _ h2) with h5|⟨B0,h5,_⟩
    ·exact .inr (.inl (h3 ▸ h5))
    ·exfalso
     have hlt:b'<h.length:=(List.getElem?_eq_some_iff.1 h5).1
     simp only [rd] at h2
     rw [if_neg (by rw [hc.len];omega)] at h2
     cases h2
 ·have hidx:∀ l,out= .ret (.tup l)→∀ i B,(cR h'.length l).2[i]? =some B→rd (h'.length+i)=some B:=by
   intro l hl i B hi
   subst hl
   simp only [rd]
   rw [if_pos (by omega),cW (by omega),show h'.length+i - h'.length=i by omega]
   exact hi
  cases out with
  |pan v=>
   obtain ⟨cv,e1,h1⟩:=hout
   refine ⟨cv,e1, ?_⟩
   have:=hother v cv h1
   rwa [hB0,List.append_nil] at this
  | ret x=>
   obtain ⟨cv,e1,h1⟩:=hout
   rcases oP x with ⟨l,rfl⟩|ht
   ·simp only [pS] at h1
    obtain ⟨vs,e2,q⟩:=h1
    refine ⟨cv,e1, ?_⟩
    simp only [pS]
    refine ⟨vs,e2, ?_⟩
    have hb:(fS h'.length (.tup (l.map AM.thaw))).2= []:=by simp only [fS];exact mE l _
    rw [hb,List.append_nil]
    have:=oG (gh:=bq h') (g':=bq h') hsr hrd rfl (fun x v hx=>iH hle (Ge.refl _ _) x hx) l h'.length vs (hidx l rfl) q
    exact this
   ·have e3:jz (.ret x)= .ret (AM.thaw x):=by cases x<;>first|rfl|exact absurd rfl (ht _)
    have hnt:∀ l,AM.thaw x ≠ .tup l:=by intro l hl;cases x<;>simp [AM.thaw] at hl;exact ht _ rfl
    rw [e3]
    refine ⟨cv,e1, ?_⟩
    rw [fL (jA x) hnt]
    rcases eK x with ⟨xs,k,e,rfl⟩|hx
    ·simp only [pS] at h1
     have h0:rd h'.length=some (vM xs e):=by
      simp only [rd]
      rw [if_pos (Nat.le_refl _),cW (Nat.le_refl _),Nat.sub_self]
      rfl
     have hf:frz rd 6 (.ref h'.length 0 0 k)=some (.sl (xs.take (k*e)) k true):=by
      simp [frz,h0,vM]
     have:=fP hsr hrd 6 _ _ _ hf h1
     exact dC _ this
    ·rw [fL hx ht] at h1
     rw [sL hx]
     exact iH hle (Ge.refl _ _) x h1
end
end AM
namespace AM
open Go
structure jb (s s':St):Prop where
 env:∀ t,bp (s'.env.get t) (s.env.get t)
 hp:s.hp=s'.hp
 md:s.md=s'.md
 dfs:s.dfs=s'.dfs
theorem jb.refl (s:St):jb s s:=⟨fun _=>bp.refl _,rfl,rfl,rfl⟩
def vk:dQ→(Nat→AV)→Prop
 | [],_=>True
 |(t,v)::r,f=>bp (f t) v∧vk r f
theorem lR {f:Nat→AV}:∀ {e:dQ},vk e f→∀ t,bp (f t) (e.get t)
 | [],_,t=>bp.dead _
 | (u,v)::r,h,t=>by
  simp only [vk] at h
  simp only [dQ.get,av]
  cases hb:Nat.beq u t with
  |true=>
   have:=aL hb
   subst this
   exact h.1
  |false=>exact lR h.2 t
theorem jb.of {e e':dQ} {hp:Hp} {md:AV} {dfs:List (Nat × List AV)} (h:vk e e'.get):jb {env:=e,hp,md,dfs} {env:=e',hp,md,dfs}:=⟨lR h,rfl,rfl,rfl⟩
section
variable {P:Program} {ap:AP}
theorem FR.lessF {s s':St} (h:jb s s') {nt:Nat} {m:aX} {S:aS} {w:World} {a:Act} (hF:FR ap s'.env s'.hp s'.dfs nt m S w a):FR ap s.env s.hp s.dfs nt m S w a:=by
 refine ⟨h.hp ▸ hF.srel,fun t=> ?_, ?_,hF.size⟩
 ·have:=h.env t _ _ _ _ (hF.env t)
  rw [h.hp];exact this
 ·rw [h.hp,h.dfs];exact hF.dfs
theorem ah.weakF {h0:List a_} {nt:Nat} {code:Code} {s s' r r':St} {e:bk} (h:ah P ap h0 nt code s e r) (hs:jb s s') (hr:jb r' r):ah P ap h0 nt code s' e r':=by
 intro hmd
 obtain ⟨h3,h4⟩:=h (hs.md ▸ hmd)
 refine ⟨hr.md ▸ h3,fun m0 S0 w0 m S w a hfr hF Q hQ=>h4 m0 S0 w0 m S w a (by rw [hs.hp];exact hfr) (hF.lessF hs) Q ?_⟩
 intro m' S' w' a' h5 h6
 have:=hQ m' S' w' a' (by rw [hr.hp];exact h5) (h6.lessF hr)
 cases e with
 |normal=>exact this
 |exit id=>exact this
 |ret=>exact this
 |panic v=>intro cv hcv;exact this cv (by rw [hr.hp];exact hcv)
theorem aA.blkF {h0:List a_} {n id:Nat} {b:Code} {α β:Type} {e:β→bk} {st:α→St} {out:β→St} {a:α} {r:β} {s s':St} {e':bk} (h:∀ nt,n≤nt→aA P ap h0 nt b e st out a r) (hne:e r ≠ .normal) (he:iN id (e r)=e') (hs:jb (st a) s) (hr:jb s' (out r)):aC P ap h0 n (.block id (.loop b)) s e' s':=by
 intro nt hn
 have h1:=((h nt hn).ok hne).block (id:=id)
 rw [he] at h1
 exact h1.weakF hs hr
end
end AM
namespace AM
open Go
def pg (b:Nat) (c v:Nat):Option (Nat × Nat):=match Nat.beq c b with|true=>none|false=>some (c,v)
inductive Fz (b:Nat) (B:a_):AV→AV→Prop
 |ren {x:AV}:Fz b B x (ren (pg b) x)
 |ref {i n:Nat}:Fz b B (.ref b B.ver i n) (.sl ((B.cells.drop (i*B.esz)).take (n*B.esz)) n true)
 |fit {x y z:AV}:Fz b B x y→bp y z→Fz b B x z
inductive II (b:Nat) (B:a_):List AV→List AV→Prop
 |nil:II b B [] []
 |cons {x y:AV} {l r:List AV}:Fz b B x y→II b B l r→II b B (x::l) (y::r)
theorem Fz.same {b:Nat} {B:a_} {x:AV} (h:AM.ren (pg b) x=x):Fz b B x x:=by
 have:=Fz.ren (b:=b) (B:=B) (x:=x)
 rwa [h] at this
theorem Fz.dead {b:Nat} {B:a_} (x:AV):Fz b B x .dead:= .fit .ren (bp.dead _)
theorem II.length {b:Nat} {B:a_} {l r:List AV} (h:II b B l r):l.length=r.length:=by
 induction h with
 |nil=>rfl
 |cons _ _ ih=>simp [ih]
structure qf (b:Nat) (B:a_) (C C':a_):Prop where
 ver:C'.ver=C.ver
 fro:C'.fro=C.fro
 fz:C'.fz=C.fz
 esz:C'.esz=C.esz
 body:(C.pr=true∧C'.cells=C.cells∧C'.pr=true)∨(II b B C.cells C'.cells∧(C'.pr=true→(cA C'.cells).isEmpty=true))
theorem qf.same {b:Nat} {B C:a_} (hp:C.pr=true):qf b B C C:=⟨rfl,rfl,rfl,rfl,.inl ⟨hp,rfl,hp⟩⟩
theorem qf.length {b:Nat} {B C C':a_} (h:qf b B C C'):C.cells.length=C'.cells.length:=by
 rcases h.body with ⟨_,e,_⟩|⟨e,_⟩
 ·rw [e]
 ·exact e.length
section
variable {P:Program} {ap:AP} {g:bX} {m:aX} {S:aS} {w:World}
def gq (b:Nat) (B:a_):bX:=fun c=>match Nat.beq c b with|true=>some B|false=>none
theorem jU {b c:Nat} {B C:a_} (h:gq b B c=some C):c=b∧C=B:=by
 unfold gq at h
 split at h
 ·rename_i hb;cases h;exact ⟨aL hb,rfl⟩
 ·cases h
theorem zw (b:Nat) (B:a_):gq b B b=some B:=by unfold gq;rw [Nat.beq_refl]
theorem Fz.sound {b:Nat} {B:a_} (hS:bJ ap g m S w) (hb:g b=some B) (hpr:B.pr=true) {g':bX} (hg:kg g m g' m (pg b)) {x y:AV} (h:Fz b B x y):∀ {v:Value},VR g m S x v→VR g' m (bQ S m (gq b B) w) y v:=by
 have hrd:∀ c C,gq b B c=some C→g c=some C:=by
  intro c C hc
  obtain ⟨rfl,rfl⟩:=jU hc
  exact hb
 induction h with
 |ren=>intro v hv;exact nX (gP S m (gq b B) w) hg _ hv
 | @ref i n=>
  intro v hv
  have hf:frz (gq b B) 6 (.ref b B.ver i n)=some (.sl ((B.cells.drop (i*B.esz)).take (n*B.esz)) n true):=by
   simp [frz,zw,hpr]
  exact dC _ (fP hS hrd 6 _ _ _ hf hv)
 |fit _ hf ih=>intro v hv;exact hf _ _ _ _ (ih hv)
theorem II.sound {b:Nat} {B:a_} (hS:bJ ap g m S w) (hb:g b=some B) (hpr:B.pr=true) {g':bX} (hg:kg g m g' m (pg b)) {l r:List AV} (h:II b B l r):∀ {vs:List Value},bn g m S l vs→bn g' m (bQ S m (gq b B) w) r vs:=by
 induction h with
 |nil=>intro vs hv;cases vs with|nil=>simp [bn]|cons _ _=>simp [bn] at hv
 | cons hx _ ih=>
  intro vs hv
  cases vs with
  |nil=>simp [bn] at hv
  |cons v vs=>
   simp only [bn] at hv ⊢
   exact ⟨hx.sound hS hb hpr hg hv.1,ih hv.2⟩
theorem lK:∀ {l:List AV} {vs:List Value},(cA l).isEmpty=true→bn g m S l vs→cZ S l vs
 | [],[],_,_=>by simp [cZ]
 |x::l,v::vs,h,hv=>by
  simp only [cA,List.isEmpty_iff,List.append_eq_nil_iff] at h
  rw [← List.isEmpty_iff,← List.isEmpty_iff] at h
  simp only [bn] at hv
  simp only [cZ]
  exact ⟨gF h.1 hv.1,lK h.2 hv.2⟩
 | [],_::_,_,hv=>by simp [bn] at hv
 |_::_,[],_,hv=>by simp [bn] at hv
theorem tO {g g':bX} {m m':aX} {S S':aS} {ρ:Nat→Nat→Option (Nat × Nat)} (hS:iC S S') (hG:kg g m g' m' ρ):∀ {l:List (Nat × List AV)} {ds:List Deferred},du g m S l ds→du g' m' S' (l.map fun d=>(d.1,gB ρ d.2)) ds
 | [],[],_=>by simp only [List.map_nil,du]
 |d::r,cd::cr,h=>by
  simp only [du] at h
  simp only [List.map_cons,du]
  obtain ⟨⟨cap,h1,h2⟩,h3⟩:=h
  exact ⟨⟨cap,h1,fA hS hG _ h2⟩,tO hS hG h3⟩
 | [],_::_,h=>by simp [du] at h
 |_::_,[],h=>by simp [du] at h
theorem ah.freeze {h0:List a_} {nt:Nat} {code:Code} {s r r':St} {e:bk} (b:Nat) (B:a_) (h:ah P ap h0 nt code s e r) (he:∀ v,e ≠ .panic v) (hb0:h0.length≤b) (hB:av r.hp b=some B) (hpr:B.pr=true)
  (hmd:r'.md=r.md) (hd:r'.dfs=r.dfs.map fun d=>(d.1,gB (pg b) d.2))
  (henv:∀ t,Fz b B (r.env.get t) (r'.env.get t))
  (hdom:∀ c C',av r'.hp c=some C'→c ≠ b∧∃ C,av r.hp c=some C∧qf b B C C')
  (hall:∀ c C,c ≠ b→av r.hp c=some C→∃ C',av r'.hp c=some C'):ah P ap h0 nt code s e r':=by
 intro hs
 obtain ⟨h3,h4⟩:=h hs
 refine ⟨hmd ▸ h3,fun m0 S0 w0 m S w a hfr hF Q hQ=>h4 m0 S0 w0 m S w a hfr hF Q ?_⟩
 intro m' S' w' a' h5 h6
 have hSR:=h6.srel
 have hle:=gP S' m' (gq b B) w'
 have hrd:∀ c C,gq b B c=some C→av r.hp c=some C:=by
  intro c C hc
  obtain ⟨rfl,rfl⟩:=jU hc
  exact hB
 have hren:kg (av r.hp) m' (av r'.hp) m' (pg b):=by
  intro c ver c' ver' hρ C hC hv
  unfold pg at hρ
  split at hρ
  ·cases hρ
  ·rename_i hne
   cases hρ
   have hcb:c ≠ b:=by intro e;subst e;simp at hne
   obtain ⟨C',hC'⟩:=hall c C hcb hC
   obtain ⟨_,C2,hC2,hf⟩:=hdom c C' hC'
   rw [hC] at hC2;cases hC2
   exact ⟨C',hC',by rw [hf.ver];exact hv,fun e=> ⟨by rw [← hf.ver];exact e,rfl,hf.esz⟩⟩
 have hsr:bJ ap (av r'.hp) m' (bQ S' m' (gq b B) w') w':=by
  refine ⟨?_, ?_,fun k o v hv=>iS hSR hv, ?_, ?_⟩
  ·intro c c' C C' hc hc' hm
   obtain ⟨_,D,hD,_⟩:=hdom c C hc
   obtain ⟨_,D',hD',_⟩:=hdom c' C' hc'
   exact hSR.inj c c' D D' hD hD' hm
  ·intro c C' hc
   obtain ⟨_,C,hC,hf⟩:=hdom c C' hc
   obtain ⟨⟨cur,ee,vs,rest,k1,k2,k3,k4,k5,k6⟩,hz,hzl⟩:=hSR.blk c C hC
   have hpv:(C'.pr=true→cZ (bQ S' m' (gq b B) w') C'.cells vs)∧bn (av r'.hp) m' (bQ S' m' (gq b B) w') C'.cells vs:=by
    rcases hf.body with ⟨q1,q2,q3⟩|⟨q1,q2⟩
    ·have:=bU hle _ (k3 q1)
     rw [q2]
     exact ⟨fun _=>this,bH _ this⟩
    ·have hv:=q1.sound hSR hB hpr hren k4
     exact ⟨fun hp=>lK (q2 hp) hv,hv⟩
   exact ⟨⟨cur,ee,vs,rest,k1,k2,hpv.1,hpv.2,k5,fun hp=>by rw [hf.esz] at hp ⊢;exact k6 hp⟩,fun hp=>by rw [hf.fz];exact hz (by rw [← hf.fro];exact hp),by rw [hf.fz,← hf.length];exact hzl⟩
  ·intro c C' hc o v hv
   obtain ⟨hcb,C,hC,hf⟩:=hdom c C' hc
   rw [hf.fro,hf.fz]
   rcases cS hv with h1|⟨h1,b',B',h2,h3,h4⟩
   ·exact hSR.own c C hC o v h1
   ·obtain ⟨rfl,rfl⟩:=jU h2
    exact absurd (hSR.inj c b' C B' hC hB h3.symm) hcb
  ·intro k xs hk
   obtain ⟨vs,k1,k2⟩:=hSR.glob k xs hk
   exact ⟨vs,bU hle _ k1,k2.mono hle⟩
 have hfr':Fr (bq h0) m0 S0 w0 (av r'.hp) m' (bQ S' m' (gq b B) w') w':=by
  refine ⟨?_,iC.trans h5.sle hle,h5.os,h5.tape,h5.output,h5.size,h5.rest, ?_, ?_⟩
  ·intro c C hc
   have hlt:c<h0.length:=(List.getElem?_eq_some_iff.1 hc).1
   obtain ⟨C1,hC1,e1,e2⟩:=h5.ge c C hc
   obtain ⟨C',hC'⟩:=hall c C1 (by omega) hC1
   obtain ⟨_,C2,hC2,hf⟩:=hdom c C' hC'
   rw [hC1] at hC2;cases hC2
   exact ⟨C',hC',by rw [hf.esz];exact e1,by rw [hf.ver];exact e2⟩
  ·intro c C' hc
   obtain ⟨_,C,hC,_⟩:=hdom c C' hc
   exact h5.img c C hC
  ·intro k o v hv
   rcases cS hv with h1|⟨h1,b',B',h2,h3,h4⟩
   ·exact h5.sealN k o v h1
   ·obtain ⟨rfl,rfl⟩:=jU h2
    rcases h5.img b' B' hB with h7|⟨B0,h7,_⟩
    ·exact .inr (.inl (h3 ▸ h7))
    ·have:b'<h0.length:=(List.getElem?_eq_some_iff.1 h7).1
     omega
 have hFR:FR ap r'.env r'.hp r'.dfs nt m' (bQ S' m' (gq b B) w') w' a':=by
  refine ⟨hsr,fun t=>(henv t).sound hSR hB hpr hren (h6.env t), ?_,h6.size⟩
  rw [hd]
  exact tO hle hren h6.dfs
 have:=hQ m' (bQ S' m' (gq b B) w') w' a' hfr' hFR
 cases e with
 |normal=>exact this
 |exit id=>exact this
 |ret=>exact this
 |panic v=>exact absurd rfl (he v)
def DX (b:Nat) (B:a_):dQ→(Nat→AV)→Prop
 | [],_=>True
 |(t,v)::r,f=>Fz b B (f t) v∧DX b B r f
theorem kG {b:Nat} {B:a_} {f:Nat→AV}:∀ {e:dQ},DX b B e f→∀ t,Fz b B (f t) (e.get t)
 | [],_,t=>Fz.dead _
 | (u,v)::r,h,t=>by
  simp only [DX] at h
  simp only [dQ.get,av]
  cases hb:Nat.beq u t with
  |true=>
   have:=aL hb
   subst this
   exact h.1
  |false=>exact kG h.2 t
def Ao (b:Nat) (B:a_):Hp→Hp→Prop
 | [],l=>l= [(b,B)]
 |(c,C)::r,(d,D)::l=>c=d∧qf b B D C∧c ≠ b∧Ao b B r l
 |_::_,[]=>False
theorem vu {b:Nat} {B:a_}:∀ {r l:Hp},Ao b B r l→∀ c C',av r c=some C'→c ≠ b∧∃ C,av l c=some C∧qf b B C C'
 | [],l,_,c,C',hc=>by simp [av] at hc
 | (d,D)::r,(d',D')::l,h,c,C',hc=>by
  simp only [Ao] at h
  obtain ⟨rfl,h2,h3,h4⟩:=h
  simp only [av] at hc ⊢
  cases hb:Nat.beq d c with
  |true=>
   rw [hb] at hc
   have:=aL hb
   subst this
   cases hc
   exact ⟨h3,D',rfl,h2⟩
  |false=>
   rw [hb] at hc
   exact vu h4 c C' hc
 |_::_,[],h,_,_,_=>by simp [Ao] at h
theorem vq {b:Nat} {B:a_}:∀ {r l:Hp},Ao b B r l→∀ c C,c ≠ b→av l c=some C→∃ C',av r c=some C'
 | [],l,h,c,C,hcb,hc=>by
  simp only [Ao] at h
  subst h
  simp only [av] at hc
  split at hc
  ·rename_i hb;exact absurd (aL hb).symm hcb
  ·cases hc
 |(d,D)::r,(d',D')::l,h,c,C,hcb,hc=>by
  simp only [Ao] at h
  obtain ⟨rfl,h2,h3,h4⟩:=h
  simp only [av] at hc ⊢
  cases hb:Nat.beq d c with
  |true=>exact ⟨D,rfl⟩
  |false=>rw [hb] at hc;exact vq h4 c C hcb hc
 |_::_,[],h,_,_,_,_=>by simp [Ao] at h
theorem rE {b:Nat} {B:a_}:∀ {r l:Hp},Ao b B r l→av l b=some B
 | [],l,h=>by
  simp only [Ao] at h
  subst h
  simp [av]
 |(d,D)::r,(d',D')::l,h=>by
  simp only [Ao] at h
  obtain ⟨rfl,h2,h3,h4⟩:=h
  simp only [av]
  cases hb:Nat.beq d b with
  |true=>exact absurd (aL hb) h3
  |false=>exact rE h4
 |_::_,[],h=>by simp [Ao] at h
theorem ah.forget {h0:List a_} {nt:Nat} {code:Code} {s:St} {e:bk} (b:Nat) (B:a_) {en en':dQ} {hp hp':Hp} {md:AV} (h:ah P ap h0 nt code s e {env:=en,hp,md,dfs:= []}) (he:∀ v,e ≠ .panic v) (hb0:h0.length≤b) (hpr:B.pr=true)
  (henv:DX b B en' (dQ.get en)) (hhp:Ao b B hp' hp):ah P ap h0 nt code s e {env:=en',hp:=hp',md,dfs:= []}:=
 h.freeze b B he hb0 (rE hhp) hpr rfl rfl (kG henv) (vu hhp) (vq hhp)
theorem ah.forgetD {h0:List a_} {nt:Nat} {code:Code} {s:St} {e:bk} (b:Nat) (B:a_) {en en':dQ} {hp hp':Hp} {md:AV} {dfs:List (Nat × List AV)} (h:ah P ap h0 nt code s e {env:=en,hp,md,dfs}) (he:∀ v,e ≠ .panic v) (hb0:h0.length≤b) (hpr:B.pr=true)
  (henv:DX b B en' (dQ.get en)) (hhp:Ao b B hp' hp) (hd:dfs.map (fun d=>(d.1,gB (pg b) d.2))=dfs):ah P ap h0 nt code s e {env:=en',hp:=hp',md,dfs}:=
 h.freeze b B he hb0 (rE hhp) hpr rfl hd.symm (kG henv) (vu hhp) (vq hhp)
end
end AM
namespace AM
open Go
def rr (P:Program) (f:TypeId→Option (List LK)):List Field→Nat→Option (List LK)
 | [],_=>some []
 | x::r,off=>match f x.type with
  |some l=>match Nat.beq x.offset off && Nat.beq (P.cellsOf x.type) l.length with
   |true=>match rr P f r (off+l.length) with|some q=>some (l++q)|none=>none
   |false=>none
  |none=>none
def rv (P:Program):Nat→TypeId→Option (List LK)
 |0,_=>none
 | n+1,t=>match P.underlying t with
  |some (.int k)=>some [.int k]
  |some .bool=>some [.bool]
  |some .string=>some [.str]
  |some (.struct fs)=>match rr P (rv P n) fs.toList 0 with
   |some l=>match Nat.beq (P.cellsOf t) l.length with|true=>some l|false=>none
   |none=>none
  |some (.array m e)=>match rv P n e with
   |some l=>match Nat.beq (P.cellsOf e) l.length && Nat.beq (P.cellsOf t) (m*l.length) with|true=>some (List.replicate m l).flatten|false=>none
   |none=>none
  |_=>none
inductive cU:List LK→List Value→Prop
 |nil:cU [] []
 |int {k:IntKind} {n:Int} {r:List LK} {l:List Value}:cU r l→cU (.int k::r) (.int k n::l)
 |bool {b:Bool} {r:List LK} {l:List Value}:cU r l→cU (.bool::r) (.bool b::l)
 |str {s:ByteArray} {r:List LK} {l:List Value}:cU r l→cU (.str::r) (.string s::l)
theorem cU.app {a b:List LK} {x y:List Value} (h:cU a x) (h':cU b y):cU (a++b) (x++y):=by
 induction h with
 |nil=>exact h'
 |int _ ih=>exact .int ih
 |bool _ ih=>exact .bool ih
 |str _ ih=>exact .str ih
theorem cU.length {a:List LK} {x:List Value} (h:cU a x):a.length=x.length:=by
 induction h with
 |nil=>rfl
 |int _ ih=>simp [ih]
 |bool _ ih=>simp [ih]
 |str _ ih=>simp [ih]
def jI:Value→AV
 | .int k n=> .int k n
 | .bool b=> .bool b
 | .string s=> .str s.data.toList
 |_=> .dead
theorem cU.pr {S:aS} {a:List LK} {x:List Value} (h:cU a x):cZ S (x.map jI) x:=by
 induction h with
 |nil=>simp [cZ]
 |int _ ih=>simp only [List.map_cons,cZ];exact ⟨by simp [jI,PR],ih⟩
 |bool _ ih=>simp only [List.map_cons,cZ];exact ⟨by simp [jI,PR],ih⟩
 |@str s _ _ _ ih=>simp only [List.map_cons,cZ];exact ⟨by simp [jI,PR],ih⟩
theorem cU.one {a:List LK} {x:List Value} (h:cU a x):∀ u ∈ x,u.oneCell'=true:=by
 induction h with
 |nil=>intro u hu;cases hu
 |int _ ih=>
  intro u hu
  rcases List.mem_cons.1 hu with rfl|hu
  ·rfl
  ·exact ih u hu
 |bool _ ih=>
  intro u hu
  rcases List.mem_cons.1 hu with rfl|hu
  ·rfl
  ·exact ih u hu
 |str _ ih=>
  intro u hu
  rcases List.mem_cons.1 hu with rfl|hu
  ·rfl
  ·exact ih u hu
section
variable {H:Type} {enc:TypeId × Value→H} {P:Program} {w:World} {base:Nat} {spare:Nat→Bool} {held:Bool}
theorem pq {n:Nat} {f:TypeId→Option (List LK)} (hf:∀ t ks,f t=some ks→∀ (fuel:Nat) (cs:List Value) (x:DataW H × List MemPlace),DataW.trod enc P w base spare held fuel t cs=some x→cU ks cs) {cs:List Value}:∀ (r:List Field) (off:Nat) (ks:List LK),rr P f r off=some ks→
  (∀ (i:Nat) (x:Field),r[i]? =some x→∃ y,DataW.trod enc P w base spare held n x.type ((cs.drop x.offset).take (P.cellsOf x.type))=some y)→cU ks ((cs.drop off).take ks.length)
 | [],off,ks,h,_=>by
  simp only [rr] at h
  cases h
  simpa using cU.nil
 | x ::r,off,ks,h,hx=>by
  simp only [rr] at h
  split at h
  ·rename_i l hl
   split at h
   ·rename_i hb
    simp only [Bool.and_eq_true] at hb
    have e1:=Nat.eq_of_beq_eq_true hb.1
    have e2:=Nat.eq_of_beq_eq_true hb.2
    split at h
    ·rename_i q hq
     cases h
     obtain ⟨y,hy⟩:=hx 0 x rfl
     have h1:=hf _ _ hl _ _ _ hy
     rw [e1,e2] at h1
     have h2:=pq hf r (off+l.length) q hq (fun i f hi=>hx (i+1) f (by simpa using hi))
     rw [List.length_append,List.take_add,List.drop_drop]
     exact h1.app h2
    ·cases h
   ·cases h
  ·cases h
theorem uq:∀ (n:Nat) (t:TypeId) (ks:List LK),rv P n t=some ks→∀ (fuel:Nat) (cs:List Value) (x:DataW H × List MemPlace),DataW.trod enc P w base spare held fuel t cs=some x→cU ks cs:=by
 intro n
 induction n with
 |zero=>intro t ks h;simp [rv] at h
 | succ n ih=>
  intro t ks h fuel cs x hx
  simp only [rv] at h
  split at h
  ·rename_i k ht
   cases h
   obtain ⟨m,rfl,_⟩:=DataW.trod_int ht hx
   exact .int .nil
  ·rename_i ht
   cases h
   obtain ⟨b,rfl,_⟩:=DataW.trod_bool ht hx
   exact .bool .nil
  ·rename_i ht
   cases h
   obtain ⟨s,rfl,_⟩:=DataW.trod_string ht hx
   exact .str .nil
  ·rename_i fs ht
   split at h
   ·rename_i l hl
    split at h
    ·rename_i hb
     cases h
     obtain ⟨xs,m,rfl,_,hlen,hxl,hi⟩:=DataW.trod_struct ht hx
     have e:=Nat.eq_of_beq_eq_true hb
     have h1:=pq (n:=m) ih fs.toList 0 ks hl (fun i f hf=>by
      have hf':fs[i]? =some f:=by simpa using hf
      have h2:=hi i f hf'
      have hlt:i<xs.length:=by rw [hxl];exact (Array.getElem?_eq_some_iff.1 hf').1
      rw [List.getElem?_eq_getElem hlt] at h2
      exact ⟨_,h2⟩)
     rw [List.drop_zero,← e,← hlen,List.take_length] at h1
     exact h1
    ·cases h
   ·cases h
  ·rename_i m e ht
   split at h
   ·rename_i l hl
    split at h
    ·rename_i hb
     cases h
     simp only [Bool.and_eq_true] at hb
     have e1:=Nat.eq_of_beq_eq_true hb.1
     have e2:=Nat.eq_of_beq_eq_true hb.2
     obtain ⟨xs,q,rfl,_,hlen,hxl,hi⟩:=DataW.trod_array ht hx
     have key:∀ j,j≤m→cU (List.replicate j l).flatten ((cs.drop ((m - j)*l.length)).take (j*l.length)):=by
      intro j
      induction j with
      |zero=>intro _;simpa using cU.nil
      | succ j ihj=>
       intro hj
       have h2:=hi (m - (j+1)) (by omega)
       rw [List.getElem?_eq_getElem (by omega)] at h2
       have h3:=ih _ _ hl _ _ _ h2
       rw [e1] at h3
       have h4:=ihj (by omega)
       rw [List.replicate_succ,List.flatten_cons,Nat.add_mul,Nat.one_mul,Nat.add_comm (j*l.length),List.take_add,List.drop_drop]
       have h5:(m - (j+1))*l.length+l.length=(m - j)*l.length:=by
        rw [← Nat.succ_mul];congr 1;omega
       rw [h5]
       exact h3.app h4
     have h6:=key m (Nat.le_refl _)
     rw [Nat.sub_self,Nat.zero_mul,List.drop_zero,← e2,← hlen,List.take_length] at h6
     exact h6
    ·cases h
   ·cases h
  ·cases h
theorem LN {n:Nat} {t:TypeId} {ks:List LK} (hk:rv P n t=some ks) {v:Value} {d:DataW H} {p:List MemPlace} (h:DataW.Trod enc P w base spare held t v d p):cU ks v.cells.toList:=by
 obtain ⟨fuel,h⟩:=h
 exact uq n t ks hk fuel _ _ h
theorem FV {v:Value} {l:List Value} (h:v.cells.toList=l) (hl:l.length ≠ 1):v= .agg l.toArray:=by
 cases v with
 |agg cs=>
  have:cs.toList=l:=h
  rw [← this]
 |_=>subst h;simp [Value.cells] at hl
end
end AM
namespace AM
open Go
def mS:Nat→Nat→List Bool
 |0,_=> []
 |n+1,k=>Nat.beq (k % 2) 1::mS n (k / 2)
def FB:Nat→List Bool→List Bool
 |0,l=>l
 |n+1,l=>true::FB n l
theorem eD.n (k:Nat) {l:List Bool} (h:eD l):eD (FB k l):=by
 induction k with
 |zero=>exact h
 |succ k ih=>exact .t ih
theorem eD.k (k:Nat) {b:Bool} {l:List Bool} (hb:b=true) (h:eD l):eD (FB k (b::l)):= .n k (.c hb h)
theorem tf (b:Bool):b=true∨b=false:=by cases b<;>simp
theorem aQ {b:Bool} (h:b=true):lit true b=true:=h
theorem aU {b:Bool} (h:b=false):lit false b=true:=by subst h;rfl
theorem bm {b:Bool} (h:b=false):lit true (!b)=true:=by subst h;rfl
theorem aG {b:Bool} (h:b=true):lit false (!b)=true:=by subst h;rfl
inductive PS (P:Program) (ap:AP):List Prop→List (fq × List a_)→mM→List lW→Prop where
 |nil:PS P ap [] [] [] []
 |c {f:Nat} {args:List AV} {h h':List a_} {out:fq} {ps:List Prop} {ans:List (fq × List a_)} {lps:mM} {hs:List lW}:aB P ap f args h out h'→PS P ap ps ans lps hs→PS P ap (aB P ap f args h out h'::ps) (ans++ [(out,h')]) lps hs
 |l {h0:List a_} {n:Nat} {code:Code} {s s':St} {e:bk} {ps:List Prop} {ans:List (fq × List a_)} {lps:mM} {hs:List lW}:aC P ap h0 n code s e s'→PS P ap ps ans lps hs→PS P ap (aC P ap h0 n code s e s'::ps) ans (lps++ [(e,s')]) hs
 |v (d:Nat) {x y:AV} {ps:List Prop} {ans:List (fq × List a_)} {lps:mM} {hs:List lW}:bp x y→PS P ap ps ans lps hs→PS P ap (bp x y::ps) ans lps (hs++ [.v d y])
 |b (d:Nat) {x y:List AV} {ps:List Prop} {ans:List (fq × List a_)} {lps:mM} {hs:List lW}:x=y→PS P ap ps ans lps hs→PS P ap ((x=y)::ps) ans lps (hs++ [.b d y])
theorem PS.all {P:Program} {ap:AP} {ps:List Prop} {ans:List (fq × List a_)} {lps:mM} {hs:List lW} (h:PS P ap ps ans lps hs):ja ps:=by
 induction h with
 |nil=>exact .nil
 |c h _ ih=>exact .cons h ih
 |l h _ ih=>exact .cons h ih
 |v _ h _ ih=>exact .cons h ih
 |b _ h _ ih=>exact .cons h ih
theorem ck {P:Program} {ap:AP} (g:qJ P ap) {ans:List (fq × List a_)} {ps:List Prop} {f:Nat} {args:List AV} {h h':List a_} {out:fq} (hp:PS P ap ps ans [] [])
  (he:kA ap (mF P ap 3000 4) 3000 .dead f args h ⟨true,[],[],[],ans,[]⟩= .ok (out,h',.dead) ⟨true,[],[],ps,[],[]⟩):aB P ap f args h out h':=fN g hp.all he
theorem pk {P:Program} {ap:AP} (g:qJ P ap) (ls:List Nat) (n k:Nat) {ans:List (fq × List a_)} {lps:mM} {hs:List lW} {bs:List Bool} {ps:List Prop} {f:Nat} {args:List AV} {h h':List a_} {out:fq}
  (hb:eD bs) (hp:PS P ap ps ans lps hs) (he:wG P ap (mF P ap 3000 4) 3000 ls f args h lps ⟨false,mS n k,[],[],ans,hs⟩= .ok (out,h',.dead) ⟨false,[],bs,ps,[],[]⟩):aB P ap f args h out h':=by
 obtain ⟨h1,h2⟩:=fT g.apok g.mixed g.fnok 3000 4
 exact wH g.apok g.mixed g.fnok h1 h2 he ⟨hb.mem,hp.all.mem⟩
def vD (ap:AP) (f:Nat):List Nat:=match ap.fnAt f with|some F=>F.keep|none=> []
def AJ (env:dQ):R ((bk × St) × mM)→R ((bk × St) × mM)
 | .ok ((e,s),l) c=> .ok ((e,⟨env.map fun q=>(q.1,s.env.get q.1),s.hp,s.md,s.dfs⟩),l) c
 |r=>r
def zu (P:Program) (ap:AP) (h0:List a_) (f nt0:Nat) (ls:List Nat) (code:Code) (s:St) (lps:mM) (orc:List Bool) (ans:List (fq × List a_)) (hs:List lW) (env:dQ):R ((bk × St) × mM):=
 match bW nt0 code with
 |true=>AJ env (ga P ap (mF P ap 3000 4) h0 (vD ap f) 3000 nt0 ls code s lps ⟨false,orc,[],[],ans,hs⟩)
 |false=> .bad 0
theorem D7 (env env':dQ):∀ t,dQ.get (env.map fun q=>(q.1,env'.get q.1)) t=env'.get t∨dQ.get (env.map fun q=>(q.1,env'.get q.1)) t= .dead:=by
 intro t
 induction env with
 |nil=>exact .inr rfl
 | cons q r ih=>
  cases hq:Nat.beq q.1 t with
  |true=>
   left
   have:=Nat.eq_of_beq_eq_true hq
   subst this
   simp only [dQ.get,List.map_cons,av,hq,Option.getD_some]
  | false=>
   have e:dQ.get (List.map (fun q=>(q.1,env'.get q.1)) (q::r)) t=dQ.get (List.map (fun q=>(q.1,env'.get q.1)) r) t:=by
    simp only [dQ.get,List.map_cons,av,hq]
   rw [e];exact ih
theorem pj {P:Program} {ap:AP} (g:qJ P ap) (f:Nat) (ls:List Nat) (n k:Nat) {nt nt0:Nat} {ans:List (fq × List a_)} {lps:mM} {hs:List lW} {bs:List Bool} {ps:List Prop} {code:Code} {s s':St} {h0:List a_} {e:bk}
  (hb:eD bs) (hp:PS P ap ps ans lps hs) (hn:nt0≤nt) (he:zu P ap h0 f nt0 ls code s lps (mS n k) ans hs s'.env= .ok ((e,s'),[]) ⟨false,[],bs,ps,[],[]⟩):ah P ap h0 nt code s e s':=by
 unfold zu at he
 split at he
 ·rename_i hd
  generalize hr:ga P ap (mF P ap 3000 4) h0 (vD ap f) 3000 nt0 ls code s lps ⟨false,mS n k,[],[],ans,hs⟩=r at he
  cases r with
  |ok q c=>
   obtain ⟨⟨e1,s1⟩,l1⟩:=q
   simp only [AJ,R.ok.injEq,Prod.mk.injEq] at he
   obtain ⟨⟨⟨rfl,hs1⟩,rfl⟩,rfl⟩:=he
   obtain ⟨h1,h2⟩:=fT g.apok g.mixed g.fnok 3000 4
   have hx:ah P ap h0 nt code s e1 s1:=(kE g.apok g.mixed h1 hn code (cf hn code hd) _ _ _ _ _ hr ⟨hb.mem,hp.all.mem⟩).2
   refine hx.weak (aF.refl _) ?_
   rw [← hs1]
   exact ⟨D7 _ _,rfl,rfl,rfl⟩
  |need=>simp [AJ] at he
  |bad n=>simp [AJ] at he
 ·cases he
theorem bp.pp {xs ys:List AV} {off:Nat} (h:List.drop off xs=ys):bp (.pp xs off) (.pp ys 0):=by
 subst h
 intro g m S v hv
 simp only [VR,PR] at hv ⊢
 obtain ⟨b,o,vs,rfl,hp,hs⟩:=hv
 refine ⟨b,o+off,vs.drop off,rfl,jc off hp,fun j u hj=> ?_⟩
 rw [List.getElem?_drop] at hj
 have:=hs (off+j) u hj
 rwa [← Nat.add_assoc] at this
theorem bp.ppt {xs ys zs:List AV} {off:Nat} (h:List.drop off xs=ys++zs):bp (.pp xs off) (.pp ys 0):=by
 intro g m S v hv
 have:=bp.pp h g m S v hv
 simp only [VR,PR] at this ⊢
 obtain ⟨b,o,vs,rfl,hp,hs⟩:=this
 refine ⟨b,o,vs.take ys.length,rfl, ?_,fun j u hj=> ?_⟩
 ·have:=fu ys.length hp
  rwa [List.take_left'] at this
  rfl
 ·rw [List.getElem?_take] at hj
  split at hj
  ·exact hs j u hj
  ·cases hj
theorem bp.eq {x y:AV} (h:x=y):bp x y:=h ▸ fun _ _ _ _ hv=>hv
theorem bp.rd (ks:List LK) {xs ys zs:List AV} {off:Nat} (h:List.drop off xs=ys++zs) (hr:xG true ks (ys++zs)=ys):bp (.agg (kR true ks xs off)) (.agg ys):= .eq (by unfold kR;rw [h,hr])
theorem bp.rd1 (k:LK) {xs zs:List AV} {y:AV} {off:Nat} (h:List.drop off xs= [y]++zs) (hr:eta k y=y):bp (eta k ((List.drop off xs).headD .dead)) y:= .eq (by rw [h];exact hr)
theorem eD.a {l r:List Bool} (h:eD l) (h':eD r):eD (l++r):=by
 induction h with
 |nil=>exact h'
 |t _ ih=>exact .t ih
 |c hb _ ih=>exact .c hb ih
theorem eD.of {l:List Bool} (h:l.all id=true):eD l:=by
 induction l with
 |nil=>exact .nil
 |cons b r ih=>
  simp only [List.all_cons,id,Bool.and_eq_true] at h
  exact .c h.1 (ih h.2)
theorem DA (ks:List LK) {xs ys zs:List AV} {off:Nat} (h:List.drop off xs=ys++zs) (hc:(Dz true ks (ys++zs)).all id=true):eD (uW true ks xs off):=by
 unfold uW;rw [h];exact .of hc
inductive Ja:List AV→List AV→Prop where
 |nil:Ja [] []
 |same {x:AV} {l r:List AV}:Ja l r→Ja (x::l) (x::r)
 |nilS {l r:List AV}:Ja l r→Ja (.nilS::l) (.sl [] 0 false::r)
 |sl {xs:List AV} {n:Nat} {a:Bool} {l r:List AV}:Ja l r→Ja (.sl xs n a::l) (.sl xs n false::r)
end AM
namespace AM
open Go
variable {P:Program} {ap:AP}
theorem ah.norm {h0:List a_} {nt:Nat} {code:Code} {s s1:St} {e:bk} (keep:List Nat) (he:∀ v,e= .panic v→(dF v).isEmpty=true) (h:ah P ap h0 nt code s e s1):ah P ap h0 nt code s e (AM.norm h0.length keep s1):=by
 intro hs
 obtain ⟨h3,h4⟩:=h hs
 refine ⟨h3,fun m0 S0 w0 m S w a hfr hF Q hQ=>h4 m0 S0 w0 m S w a hfr hF Q ?_⟩
 intro m' S' w' a' h5 h6
 obtain ⟨m2,h7,h8⟩:=jR (keep:=keep) h5 h6
 have:=hQ m2 S' w' a' h7 h8
 cases e with
 |normal=>exact this
 |exit id=>exact this
 |ret=>exact this
 |panic v=>intro cv hcv;exact this cv (dC _ (gF (he v rfl) hcv))
def OU:bk→Bool
 | .panic v=>(dF v).isEmpty
 |_=>true
def AE (base:Nat) (env:dQ):R ((bk × St) × mM)→R ((bk × St) × mM)
 | .ok ((e,s),l) c=>match OU e with
  |true=> .ok ((e,norm base (env.map fun q=>q.1) s),l) c
  |false=> .bad 1
 |r=>r
def zt (P:Program) (ap:AP) (h0:List a_) (f nt0:Nat) (ls:List Nat) (code:Code) (s:St) (lps:mM) (orc:List Bool) (ans:List (fq × List a_)) (hs:List lW) (env:dQ):R ((bk × St) × mM):=
 match bW nt0 code with
 |true=>AE h0.length env (ga P ap (mF P ap 3000 4) h0 (vD ap f) 3000 nt0 ls code s lps ⟨false,orc,[],[],ans,hs⟩)
 |false=> .bad 0
theorem pn (g:qJ P ap) (f:Nat) (ls:List Nat) (n k:Nat) {nt nt0:Nat} {ans:List (fq × List a_)} {lps:mM} {hs:List lW} {bs:List Bool} {ps:List Prop} {code:Code} {s s':St} {h0:List a_} {e:bk}
  (hb:eD bs) (hp:PS P ap ps ans lps hs) (hn:nt0≤nt) (he:zt P ap h0 f nt0 ls code s lps (mS n k) ans hs s'.env= .ok ((e,s'),[]) ⟨false,[],bs,ps,[],[]⟩):ah P ap h0 nt code s e s':=by
 unfold zt at he
 split at he
 ·rename_i hd
  generalize hr:ga P ap (mF P ap 3000 4) h0 (vD ap f) 3000 nt0 ls code s lps ⟨false,mS n k,[],[],ans,hs⟩=r at he
  cases r with
  | ok q c=>
   obtain ⟨⟨e1,s1⟩,l1⟩:=q
   simp only [AE] at he
   split at he
   ·rename_i hpan
    simp only [R.ok.injEq,Prod.mk.injEq] at he
    obtain ⟨⟨⟨rfl,hs1⟩,rfl⟩,rfl⟩:=he
    obtain ⟨h1,h2⟩:=fT g.apok g.mixed g.fnok 3000 4
    have hx:ah P ap h0 nt code s e1 s1:=(kE g.apok g.mixed h1 hn code (cf hn code hd) _ _ _ _ _ hr ⟨hb.mem,hp.all.mem⟩).2
    have:=hx.norm (s'.env.map fun q=>q.1) (fun v hv=>by subst hv;exact hpan)
    rwa [hs1] at this
   ·cases he
  |need=>simp [AE] at he
  |bad n=>simp [AE] at he
 ·cases he
end AM
namespace AM
open Go
variable {P:Program} {ap:AP}
def goL {α σ β:Type} (F:σ→α→σ ⊕ β) (fin:σ→β):List α→σ→β
 | [],s=>fin s
 |x::r,s=>match F s x with
  | .inl s'=>goL F fin r s'
  | .inr b=>b
theorem aA.goL {α σ β:Type} {h0:List a_} {nt:Nat} {b:Code} {e:β→bk} {st:Nat × σ→St} {out:β→St} (F:σ→α→σ ⊕ β) (fin:σ→β) (L:List α) (Inv:List α→σ→Prop)
  (hstep:∀ p x r s,L=p++x::r→Inv p s→match F s x with
   | .inl s'=>ah P ap h0 nt b (st (p.length,s)) .normal (st (p.length+1,s'))∧Inv (p++ [x]) s'
   | .inr q=>ah P ap h0 nt b (st (p.length,s)) (e q) (out q))
  (hend:∀ s,Inv L s→ah P ap h0 nt b (st (L.length,s)) (e (fin s)) (out (fin s))):
  ∀ (r p:List α) (s:σ),L=p++r→Inv p s→aA P ap h0 nt b e st out (p.length,s) (AM.goL F fin r s):=by
 intro r
 induction r with
 |nil=>
  intro p s h hi
  rw [List.append_nil] at h
  subst h
  exact .done (hend s hi)
 | cons x r ih=>
  intro p s h hi
  have h1:=hstep p x r s h hi
  simp only [AM.goL]
  cases hF:F s x with
  |inl s'=>
   rw [hF] at h1
   have h2:=ih (p++ [x]) s' (by rw [h];simp) h1.2
   rw [List.length_append,List.length_singleton] at h2
   exact .next h1.1 h2
  |inr q=>
   rw [hF] at h1
   exact .done h1
theorem aA.mapL {α β:Type} {h0:List a_} {nt:Nat} {b:Code} {e:bk} {st:Nat × List β→St} {out:List β→St} (g:α→β) (L:List α)
  (hstep:∀ p x r,L=p++x::r→ah P ap h0 nt b (st (p.length,p.map g)) .normal (st (p.length+1,p.map g++ [g x])))
  (hend:ah P ap h0 nt b (st (L.length,L.map g)) e (out (L.map g))):aA P ap h0 nt b (fun _=>e) st out (0,[]) (L.map g):=by
 have key:∀ (r p:List α),L=p++r→aA P ap h0 nt b (fun _=>e) st out (p.length,p.map g) (L.map g):=by
  intro r
  induction r with
  |nil=>intro p h;rw [List.append_nil] at h;subst h;exact .done hend
  |cons x r ih=>
   intro p h
   have h2:=ih (p++ [x]) (by rw [h];simp)
   rw [List.length_append,List.length_singleton,List.map_append] at h2
   exact .next (hstep p x r h) h2
 exact key L [] rfl
end AM
namespace AM
open Go Go.WideShapes Go.ChangeShapes
theorem tW {a:Addr} (h:a.spot=none) (n:Nat):a.add n=⟨a.block,a.off+n,none⟩:=by
 unfold Addr.add
 obtain ⟨b,o,s⟩:=a
 simp only at h
 subst h
 split
 ·rename_i hn;subst hn;rfl
 ·rfl
section
variable {H:Type} {enc:TypeId × Value→H} {P:Program} {w:World} {base:Nat} {spare:Nat→Bool} {held:Bool}
theorem wy {S:aS} {ks:List LK}:∀ (L:List (List Value)),(∀ x ∈ L,cU ks x)→cZ S (L.flatMap fun x=>x.map jI) L.flatten
 | [],_=>by simp [cZ]
 |x::r,h=>by
  rw [List.flatMap_cons,List.flatten_cons]
  exact gU (cU.pr (h x (by simp))) (wy r fun y hy=>h y (by simp [hy]))
theorem EE {ks:List LK}:∀ (L:List (List Value)),(∀ x ∈ L,cU ks x)→∀ u ∈ L.flatten,u.oneCell'=true:=by
 intro L h u hu
 obtain ⟨x,hx,hu⟩:=List.mem_flatten.1 hu
 exact cU.one (h x hx) u hu
theorem OW {t e:TypeId} {n base':Nat} {ks:List LK} (ht:P.underlying t=some (.slice e)) (hk:rv P n e=some ks) (hc:P.cellsOf e=ks.length) {v:Value} {d:DataW H} {p:List MemPlace}
  (hv:Value.okWide P w .any base' t v) (h:DataW.Trod enc P w base spare held t v d p):∃ L:List (List Value),(∀ x ∈ L,cU ks x)∧PR (mL w) (.sl (L.flatMap fun x=>x.map jI) L.length false) v:=by
 obtain ⟨a0,len,cap,rfl⟩:=okWide_slice ht hv
 obtain ⟨fuel,h⟩:=h
 rcases DataW.trod_slice ht h with ⟨hcs,_⟩|⟨a,len',cap',elems,rest,m,_,hcs,_,_,hl,hm,hlen,hel,_,_⟩
 ·have:a0=none∧len=0∧cap=0:=by simpa [Value.cells] using hcs
  obtain ⟨rfl,rfl,rfl⟩:=this
  refine ⟨[],by simp, ?_⟩
  simp only [PR]
  exact ⟨none,0,rfl,Nat.le_refl _,.inl (by simp)⟩
 ·have:a0=some a∧len=len'∧cap=cap':=by simpa [Value.cells] using hcs
  obtain ⟨rfl,rfl,rfl⟩:=this
  have hspot:a.spot=none:=by
   simp only [Value.okWide,ht,Cell.okWide,Cell.ok] at hv
   exact hv.2.2.2.1
  have key:∀ q,q≤len→∃ L:List (List Value),L.length=q∧(∀ x ∈ L,cU ks x)∧L.flatten.length=q*ks.length∧∀ j u,L.flatten[j]? =some u→mL w a.block (a.off+j)=some u:=by
   intro q
   induction q with
   |zero=>intro _;exact ⟨[],rfl,by simp,by simp,by simp⟩
   | succ q ih=>
    intro hq
    obtain ⟨L,h1,h2,h3,h4⟩:=ih (by omega)
    have h5:=hel q (by omega)
    rw [List.getElem?_eq_getElem (by omega)] at h5
    obtain ⟨cs',h6,h7⟩:=Option.bind_eq_some_iff.1 h5
    have h8:=uq n e ks hk _ _ _ h7
    obtain ⟨_,h9,h10⟩:=World.cells?_some h6
    refine ⟨L++ [cs'],by simp [h1], ?_, ?_, ?_⟩
    ·intro x hx
     rcases List.mem_append.1 hx with hx|hx
     ·exact h2 x hx
     ·simp at hx;subst hx;exact h8
    ·rw [List.flatten_append,List.length_append,h3]
     have:=h8.length
     simp only [List.flatten_cons,List.flatten_nil,List.append_nil]
     rw [← this,Nat.succ_mul]
    ·intro j u hj
     rw [List.flatten_append,List.getElem?_append] at hj
     split at hj
     ·exact h4 j u hj
     ·rename_i hjl
      simp only [List.flatten_cons,List.flatten_nil,List.append_nil] at hj
      have h11:=(List.getElem?_eq_some_iff.1 hj).1
      have h12:=h10 (j - L.flatten.length) (by omega)
      rw [hj,tW hspot,tW rfl] at h12
      simp only [mL]
      rw [← h12,h3,hc]
      congr 2
      have:q*ks.length≤j:=by rw [← h3];omega
      simp only
      omega
  obtain ⟨L,h1,h2,h3,h4⟩:=key len (Nat.le_refl _)
  refine ⟨L,h2, ?_⟩
  simp only [PR]
  refine ⟨some a,cap,by rw [h1],by rw [h1];exact hl,.inr ⟨a.block,a.off,L.flatten, ?_,wy L h2,fun j u hj=> ⟨h4 j u hj,EE L h2 u (List.mem_of_getElem? hj)⟩⟩⟩
  obtain ⟨b,o,s⟩:=a
  simp only at hspot
  subst hspot
  rfl
theorem LL {α:Type} (f:α→List AV) {L:List (List Value)} (h:∀ x ∈ L,∃ a,x.map jI=f a):∃ l:List α,(L.flatMap fun x=>x.map jI)=l.flatMap f∧L.length=l.length:=by
 induction L with
 |nil=>exact ⟨[],rfl,rfl⟩
 |cons x r ih=>
  obtain ⟨a,ha⟩:=h x (by simp)
  obtain ⟨l,h1,h2⟩:=ih fun y hy=>h y (by simp [hy])
  exact ⟨a::l,by rw [List.flatMap_cons,List.flatMap_cons,ha,h1],by simp [h2]⟩
end
end AM
