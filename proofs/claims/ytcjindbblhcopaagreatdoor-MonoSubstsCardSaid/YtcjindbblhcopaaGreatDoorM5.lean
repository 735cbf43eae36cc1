/- The abstract machine over the code of the model, and the proof that it is sound. No conditions. -/
import Derived.Test.YtcjindbblhcopaaGreatDoorM4
import Derived.ChangeArms
import Derived.WideShapes
set_option linter.unusedSimpArgs false
set_option linter.unusedVariables false
namespace AM
open Go
structure anT (s s':St):Prop where
 env:∀ t,s.env.get t=s'.env.get t∨s.env.get t= .dead
 hp:s.hp=s'.hp
 md:s.md=s'.md
 dfs:s.dfs=s'.dfs
theorem anT.refl (s:St):anT s s:=⟨fun _=> .inl rfl,rfl,rfl,rfl⟩
def aK7:Env→(Nat→AV)→Prop
 | [],_=>True
 |(t,v)::r,f=>(f t=v)∧aK7 r f
theorem aB1 {f:Nat→AV}:∀ {e:Env},aK7 e f→∀ t,e.get t=f t∨e.get t= .dead
 | [],_,t=> .inr rfl
 | (u,v)::r,h,t=>by
  simp only [aK7] at h
  simp only [Env.get,ad9]
  cases hb:Nat.beq u t with
  |true=>
   have:=anN hb
   subst this
   exact .inl h.1.symm
  |false=>exact aB1 h.2 t
theorem anT.of {e e':Env} {hp:Hp} {md:AV} {dfs:List (Nat × List AV)} (h:aK7 e e'.get):anT {env:=e,hp,md,dfs} {env:=e',hp,md,dfs}:=⟨aB1 h,rfl,rfl,rfl⟩
section
variable {P:Program} {ap:AP} {H:aug}
theorem FR.less {s s':St} (h:anT s s') {nt:Nat} {m:anV} {S:anR} {w:World} {a:Act} (hF:FR ap s'.env s'.hp s'.dfs nt m S w a):FR ap s.env s.hp s.dfs nt m S w a:=by
 refine ⟨h.hp ▸ hF.srel,fun t=> ?_, ?_,hF.size⟩
 ·rcases h.env t with e|e
  ·rw [e,h.hp];exact hF.env t
  ·rw [e];simp [VR]
 ·rw [h.hp,h.dfs];exact hF.dfs
theorem adY.weak {h0:List Blk} {nt:Nat} {code:Code} {s s' r r':St} {e:an_} (h:adY P ap h0 nt code s e r) (hs:anT s s') (hr:anT r' r):adY P ap h0 nt code s' e r':=by
 intro hmd
 obtain ⟨h3,h4⟩:=h (hs.md ▸ hmd)
 refine ⟨hr.md ▸ h3,fun m0 S0 w0 m S w a hfr hF Q hQ=>h4 m0 S0 w0 m S w a (by rw [hs.hp];exact hfr) (hF.less hs) Q ?_⟩
 intro m' S' w' a' h5 h6
 have:=hQ m' S' w' a' (by rw [hr.hp];exact h5) (h6.less hr)
 cases e with
 |normal=>exact this
 |exit id=>exact this
 |ret=>exact this
 |panic v=>intro cv hcv;exact this cv (by rw [hr.hp];exact hcv)
inductive aea (P:Program) (ap:AP) (h0:List Blk) (nt:Nat) (b:Code) {α β:Type} (e:β→an_) (st:α→St) (out:β→St):α→β→Prop where
 |done {a:α} {r:β}:adY P ap h0 nt b (st a) (e r) (out r)→aea P ap h0 nt b e st out a r
 |next {a a':α} {r:β}:adY P ap h0 nt b (st a) .normal (st a')→aea P ap h0 nt b e st out a' r→aea P ap h0 nt b e st out a r
theorem aea.rounds {h0:List Blk} {nt:Nat} {b:Code} {α β:Type} {e:β→an_} {st:α→St} {out:β→St} {a:α} {r:β} (hne:e r ≠ .normal) (h:aea P ap h0 nt b e st out a r):(st a).md= .dead→(out r).md= .dead∧∃ n,∀ m0 S0 w0 m S w c,Fr (an3 h0) m0 S0 w0 (ad9 (st a).hp) m S w→FR ap (st a).env (st a).hp (st a).dfs nt m S w c→∀ Q,XA ap h0 m0 S0 w0 nt (out r) (e r) Q→Code.rounds P b Q n c w:=by
 induction h with
 |@done a r hx=>
  intro hmd
  obtain ⟨h3,h4⟩:=hx hmd
  refine ⟨h3,1,fun m0 S0 w0 m S w c hfr hF Q hQ=>h4 m0 S0 w0 m S w c hfr hF _ ?_⟩
  intro m' S' w' a' h5 h6
  have:=hQ m' S' w' a' h5 h6
  revert hne this
  cases e r with
  |normal=>intro hne _;exact absurd rfl hne
  |exit id=>intro _ h;exact h
  |ret=>intro _ h;exact h
  |panic v=>intro _ h;exact h
 |next hx _ ih=>
  intro hmd
  obtain ⟨h3,h4⟩:=hx hmd
  obtain ⟨h5,n,h6⟩:=ih hne h3
  refine ⟨h5,n+1,fun m0 S0 w0 m S w c hfr hF Q hQ=>h4 m0 S0 w0 m S w c hfr hF _ ?_⟩
  intro m' S' w' a' h7 h8
  exact h6 m0 S0 w0 m' S' w' a' h7 h8 Q hQ
theorem aea.ok {h0:List Blk} {nt:Nat} {b:Code} {α β:Type} {e:β→an_} {st:α→St} {out:β→St} {a:α} {r:β} (hne:e r ≠ .normal) (h:aea P ap h0 nt b e st out a r):adY P ap h0 nt (.loop b) (st a) (e r) (out r):=by
 intro hmd
 obtain ⟨h3,n,h4⟩:=h.rounds hne hmd
 exact ⟨h3,fun m0 S0 w0 m S w c hfr hF Q hQ=>wp_loop_rounds n (h4 m0 S0 w0 m S w c hfr hF Q hQ)⟩
theorem aea.blk {h0:List Blk} {n id:Nat} {b:Code} {α β:Type} {e:β→an_} {st:α→St} {out:β→St} {a:α} {r:β} {s s':St} {e':an_} (h:∀ nt,n≤nt→aea P ap h0 nt b e st out a r) (hne:e r ≠ .normal) (he:ayA id (e r)=e') (hs:anT (st a) s) (hr:anT s' (out r)):ajS P ap h0 n (.block id (.loop b)) s e' s':=by
 intro nt hn
 have h1:=((h nt hn).ok hne).block (id:=id)
 rw [he] at h1
 exact h1.weak hs hr
def ayz (id:Nat):Code→Option Code
 | .seq a b=>match ayz id a with|some c=>some c|none=>ayz id b
 | .cond _ a b=>match ayz id a with|some c=>some c|none=>ayz id b
 | .block i b=>match Nat.beq i id with|true=>some b|false=>ayz id b
 | .loop b=>ayz id b
 | .scope b=>ayz id b
 |_=>none
def lT (id:Nat) (c:Code):Code:=match ayz id c with|some (.loop b)=>b|_=> .skip
def aAq (id:Nat):Code→Code
 | .seq a b=>match aAq id a with| .region i o d=> .region i o d|_=>aAq id b
 | .cond _ a b=>match aAq id a with| .region i o d=> .region i o d|_=>aAq id b
 | .block _ b=>aAq id b
 | .loop b=>aAq id b
 | .scope b=>aAq id b
 | .region i o d=>match Nat.beq i id with|true=> .region i o d|false=> .skip
 |_=> .skip
end
end AM
namespace AM
open Go
def az2 (x y:List AV):Prop:=∀ g m S v,VRL g m S x v→VRL g m S y v
def aAK:AV→Bool
 | .own _ _ _=>false
 | .tup _=>false
 |_=>true
theorem anX.refl (x:AV):anX x x:=fun _ _ _ _ h=>h
theorem az2.refl (x:List AV):az2 x x:=fun _ _ _ _ h=>h
theorem az2.nil:az2 [] []:=az2.refl []
theorem az2.cons {x y:AV} {l r:List AV} (h:anX x y) (h':az2 l r):az2 (x::l) (y::r):=by
 intro g m S v hv
 cases v with
 |nil=>simp [VRL] at hv
 |cons u vs=>simp only [VRL] at hv ⊢;exact ⟨h g m S u hv.1,h' g m S vs hv.2⟩
theorem anX.nilS (nn:Bool) (h:nn=false):anX .nilS (.sl [] 0 nn):=by
 subst h
 intro g m S v hv
 simp only [VR,PR] at hv ⊢
 exact ⟨none,0,hv,Nat.le_refl _,.inl (by simp)⟩
theorem anX.sl (xs:List AV) (n:Nat) (a:Bool):anX (.sl xs n a) (.sl xs n false):=by
 intro g m S v hv
 simp only [VR,PR] at hv ⊢
 obtain ⟨a,cap,e,hle,q⟩:=hv
 refine ⟨a,cap,e,hle, ?_⟩
 rcases q with ⟨h1,_,h3⟩|q
 ·exact .inl (by simp [h1,h3])
 ·exact .inr q
theorem anX.dead (x:AV):anX x .dead:=fun _ _ _ _ _=>by simp only [VR]
section
variable {P:Program} {ap:AP}
theorem ad1.args {f:Nat} {args args':List AV} {h h':List Blk} {out:Out} (hf:az2 args' args) (hc:ad1 P ap f args h out h'):ad1 P ap f args' h out h':=
 ⟨hc.len,hc.ent,fun m S w cargs hS hv=>hc.calls m S w cargs hS (hf _ _ _ _ hv)⟩
def awZ (out out':Out):Prop:=(∀ n,axg n out=axg n out')∧∀ h' m' S' e,aTT h' m' S' out e→aTT h' m' S' out' e
theorem ad1.out {f:Nat} {args:List AV} {h h':List Blk} {out out':Out} (ho:awZ out out') (hc:ad1 P ap f args h out h'):ad1 P ap f args h out' h':=
 ⟨hc.len,hc.ent,fun m S w cargs hS hv=>(hc.calls m S w cargs hS hv).mono fun e w' ⟨m',S',hF⟩=> ⟨m',S',ho.1 _ ▸ hF.srel,ho.1 _ ▸ hF.fr,ho.2 _ _ _ _ hF.out⟩⟩
theorem aw5 {x:AV} (h:aAK x=true):∀ xs k e,x ≠ .own xs k e:=by intro xs k e he;subst he;cases h
theorem aAL {x:AV} (h:aAK x=true):∀ l,x ≠ .tup l:=by intro l he;subst he;cases h
theorem awZ.ret {x y:AV} (hx:aAK x=true) (hy:aAK y=true) (h:anX x y):awZ (.ret x) (.ret y):=by
 refine ⟨fun n=> ?_,fun h' m' S' e he=> ?_⟩
 ·simp only [axg,awx n (aw5 hx) (aAL hx),awx n (aw5 hy) (aAL hy)]
 ·obtain ⟨cv,e1,h1⟩:=he
  refine ⟨cv,e1, ?_⟩
  rw [axl (aw5 hx) (aAL hx)] at h1
  rw [axl (aw5 hy) (aAL hy)]
  exact h _ _ _ _ h1
inductive aFN:List AV→List AV→Prop where
 |nil:aFN [] []
 |same {x:AV} {l r:List AV}:aFN l r→aFN (x::l) (x::r)
 |fit {x y:AV} {l r:List AV}:aAK x=true→aAK y=true→anX x y→aFN l r→aFN (x::l) (y::r)
theorem aFN.blocks {l r:List AV} (h:aFN l r):∀ n,(avz n l).2=(avz n r).2:=by
 induction h with
 |nil=>intro n;rfl
 |@same x l r _ ih=>
  intro n
  rcases awI x with ⟨xs,k,e,rfl⟩|hx
  ·simp only [avz];rw [ih]
  ·rw [an4 n hx,an4 n hx];exact ih n
 |fit hx hy _ _ ih=>
  intro n
  rw [an4 n (aw5 hx),an4 n (aw5 hy)]
  exact ih n
theorem aFN.outR {gh gf:HpF} {m:anV} {S:anR} {l r:List AV} (h:aFN l r):∀ (n:Nat) (vs:List Value),awL gh gf m S n l vs→awL gh gf m S n r vs:=by
 induction h with
 |nil=>intro n vs hv;exact hv
 | @same x l r _ ih=>
  intro n vs hv
  cases vs with
  |nil=>simp [awL] at hv
  |cons v vs=>
   rcases awI x with ⟨xs,k,e,rfl⟩|hx
   ·simp only [awL] at hv ⊢;exact ⟨hv.1,ih _ _ hv.2⟩
   ·rw [aub hx] at hv ⊢;exact ⟨hv.1,ih _ _ hv.2⟩
 | fit hx hy hf _ ih=>
  intro n vs hv
  cases vs with
  |nil=>simp [awL] at hv
  |cons v vs=>
   rw [aub (aw5 hx)] at hv
   rw [aub (aw5 hy)]
   exact ⟨hf _ _ _ _ hv.1,ih _ _ hv.2⟩
theorem awZ.tup {l r:List AV} (h:aFN l r):awZ (.ret (.tup l)) (.ret (.tup r)):=by
 refine ⟨fun n=> ?_,fun h' m' S' e he=> ?_⟩
 ·simp only [axg,awY];exact h.blocks n
 ·obtain ⟨cv,e1,h1⟩:=he
  refine ⟨cv,e1, ?_⟩
  simp only [aBG] at h1 ⊢
  obtain ⟨vs,e2,q⟩:=h1
  have hb:(awY h'.length (.tup l)).2=(awY h'.length (.tup r)).2:=by simp only [awY];exact h.blocks _
  refine ⟨vs,e2, ?_⟩
  rw [hb] at q
  exact h.outR _ _ q
end
end AM
namespace AM
open Go
def thaw:AV→AV
 | .own xs n e=> .sl (xs.take (n*e)) n true
 |x=>x
def aCl:Out→Out
 | .ret (.tup l)=> .ret (.tup (l.map thaw))
 | .ret x=> .ret (thaw x)
 | .pan v=> .pan v
theorem aFp {x:AV} (h:∀ xs k e,x ≠ .own xs k e):thaw x=x:=by
 cases x<;>first|rfl|exact absurd rfl (h _ _ _)
theorem azm (x:AV):∀ xs k e,thaw x ≠ .own xs k e:=by
 intro xs k e h
 cases x<;>simp [thaw] at h
theorem aBx:∀ (l:List AV) (n:Nat),(avz n (l.map thaw)).2= []
 | [],_=>rfl
 |x::r,n=>by rw [List.map_cons,an4 n (azm x)];exact aBx r n
section
variable {P:Program} {ap:AP}
theorem aCJ {gh gf g':HpF} {m:anV} {S S':anR} {w:World} (hS:apS ap gf m S w) {rd:HpF} (hrd:∀ b B,rd b=some B→gf b=some B) (hle:S'=auZ S m rd w) (hother:∀ x v,VR gh m S x v→VR g' m S' x v):
  ∀ (l:List AV) (n:Nat) (vs:List Value),(∀ i B,(avz n l).2[i]? =some B→rd (n+i)=some B)→awL gh gf m S n l vs→awL g' g' m S' n (l.map thaw) vs
 | [],n,vs,_,h=>by cases vs with|nil=>trivial|cons _ _=>simp [awL] at h
 |x::r,n,[],_,h=>by
  exfalso
  rcases awI x with ⟨xs,k,e,rfl⟩|hx
  ·simp [awL] at h
  ·cases x<;>simp [awL] at h
 | x ::r,n,v::vs,hb,h=>by
  rcases awI x with ⟨xs,k,e,rfl⟩|hx
  ·simp only [awL] at h
   simp only [avz] at hb
   have h0:=hb 0 _ rfl
   rw [Nat.add_zero] at h0
   have hf:frz rd 6 (.ref n 0 0 k)=some (.sl (xs.take (k*e)) k true):=by
    simp [frz,h0,aHA]
   have h1:=axn hS hrd 6 _ _ _ hf h.1
   rw [List.map_cons,aub (azm _)]
   refine ⟨av7 _ (hle ▸ h1), ?_⟩
   have h2:=aCJ hS hrd hle hother r (n+1) vs (fun i B hi=>by rw [show n+1+i=n+(i+1) by omega];exact hb (i+1) B (by simpa using hi)) h.2
   have key:∀ (l:List AV) (a b:Nat) (vs:List Value),(∀ x ∈ l,∀ xs k e,x ≠ .own xs k e)→awL g' g' m S' a l vs→awL g' g' m S' b l vs:=by
    intro l
    induction l with
    |nil=>intro a b vs _ h;cases vs with|nil=>trivial|cons _ _=>simp [awL] at h
    | cons y q ih=>
     intro a b vs hl h
     cases vs with
     |nil=>cases y<;>simp [awL] at h
     |cons u us=>
      have hy:=hl y (by simp)
      rw [aub hy] at h ⊢
      exact ⟨h.1,ih a b us (fun x hx=>hl x (by simp [hx])) h.2⟩
   refine key _ (n+1) n vs ?_ h2
   intro y hy
   obtain ⟨z,_,rfl⟩:=List.mem_map.1 hy
   exact azm z
  ·rw [aub hx] at h
   rw [an4 n hx] at hb
   rw [List.map_cons,aub (azm x),aFp hx]
   exact ⟨hother _ _ h.1,aCJ hS hrd hle hother r n vs hb h.2⟩
theorem ad1.thaw {f:Nat} {args:List AV} {h h':List Blk} {out:Out} (hp:∀ B ∈ h',B.pr=true) (hc:ad1 P ap f args h out h'):ad1 P ap f args h (aCl out) h':=by
 refine ⟨hc.len,hc.ent,fun m S w cargs hS hv=>(hc.calls m S w cargs hS hv).mono ?_⟩
 rintro e w' ⟨m',S',hF⟩
 obtain ⟨hsr,hfr,hout⟩:=hF
 have hB0:∀ n,axg n (aCl out)= []:=by
  intro n
  cases out with
  |pan v=>rfl
  | ret x=>
   rcases aCR x with ⟨l,rfl⟩|ht
   ·simp only [aCl,axg,awY];exact aBx l n
   ·have:aCl (.ret x)= .ret (AM.thaw x):=by cases x<;>first|rfl|exact absurd rfl (ht _)
    rw [this]
    simp only [axg]
    have hnt:∀ l,AM.thaw x ≠ .tup l:=by intro l hl;cases x<;>simp [AM.thaw] at hl;exact ht _ rfl
    rw [awx n (azm x) hnt]
 let rd:HpF:=fun b=>if h'.length≤b then an3 (h'++axg h'.length out) b else none
 have hrd:∀ b B,rd b=some B→an3 (h'++axg h'.length out) b=some B:=by
  intro b B hb
  simp only [rd] at hb
  split at hb
  ·exact hb
  ·cases hb
 have hle:=axW S' m' rd w'
 have hlow:∀ b B,an3 h' b=some B→an3 (h'++axg h'.length out) b=some B:=by
  intro b B hb
  have:b<h'.length:=(List.getElem?_eq_some_iff.1 hb).1
  rw [avp this];exact hb
 have hother:∀ x v,VR (an3 h') m' S' x v→VR (an3 (h'++axg h'.length (aCl out))) m' (auZ S' m' rd w') x v:=by
  intro x v hx
  rw [hB0,List.append_nil]
  exact ayu hle (Ge.refl _ _) x hx
 refine ⟨m',auZ S' m' rd w', ?_, ?_, ?_⟩
 ·rw [hB0,List.append_nil]
  refine ⟨fun b b' B B' hb hb'=>hsr.inj b b' B B' (hlow b B hb) (hlow b' B' hb'), ?_,fun k o v hv=>ayJ hsr hv, ?_, ?_⟩
  ·intro b B hb
   obtain ⟨⟨cur,e,vs,rest,h1,h2,h3,h4,h5,h6⟩,hz,hzl⟩:=hsr.blk b B (hlow b B hb)
   have hpr:=hp B (List.mem_of_getElem? hb)
   refine ⟨⟨cur,e,vs,rest,h1,h2,fun _=>an6 hle _ (h3 hpr),aoa _ (an6 hle _ (h3 hpr)),h5,h6⟩,hz,hzl⟩
  ·intro b B hb o v hv
   rcases avC hv with h1|⟨h1,b',B',h2,h3,h4⟩
   ·exact hsr.own b B (hlow b B hb) o v h1
   ·have:=hsr.inj b b' B B' (hlow b B hb) (hrd _ _ h2) h3.symm
    subst this
    have hlt:b<h'.length:=(List.getElem?_eq_some_iff.1 hb).1
    simp only [rd] at h2
    rw [if_neg (by omega)] at h2
    cases h2
  ·intro k xs hk
   obtain ⟨vs,h1,h2⟩:=hsr.glob k xs hk
   exact ⟨vs,an6 hle _ h1,h2.mono hle⟩
 ·rw [hB0,List.append_nil]
  refine ⟨?_,SLe.trans hfr.sle hle,hfr.os,hfr.tape,hfr.output,hfr.size,hfr.rest,fun b B hb=>hfr.img b B (hlow b B hb), ?_⟩
  ·intro b B hb
   obtain ⟨B',h1,h2⟩:=hfr.ge b B hb
   have hlt:b<h'.length:=Nat.lt_of_lt_of_le (List.getElem?_eq_some_iff.1 hb).1 hc.len
   rw [avp hlt] at h1
   exact ⟨B',h1,h2⟩
  ·intro k o v hv
   rcases avC hv with h1|⟨h1,b',B',h2,h3,h4⟩
   ·exact hfr.sealN k o v h1
   ·rcases hfr.img b' B' (hrd _ _ h2) with h5|⟨B0,h5,_⟩
    ·exact .inr (.inl (h3 ▸ h5))
    ·exfalso
     have hlt:b'<h.length:=(List.getElem?_eq_some_iff.1 h5).1
     simp only [rd] at h2
     rw [if_neg (by have:=hc.len;omega)] at h2
     cases h2
 ·have hidx:∀ l,out= .ret (.tup l)→∀ i B,(avz h'.length l).2[i]? =some B→rd (h'.length+i)=some B:=by
   intro l hl i B hi
   subst hl
   simp only [rd]
   rw [if_pos (by omega),aws (by omega),show h'.length+i - h'.length=i by omega]
   exact hi
  cases out with
  |pan v=>
   obtain ⟨cv,e1,h1⟩:=hout
   refine ⟨cv,e1, ?_⟩
   have:=hother v cv h1
   rwa [hB0,List.append_nil] at this
  | ret x=>
   obtain ⟨cv,e1,h1⟩:=hout
   rcases aCR x with ⟨l,rfl⟩|ht
   ·simp only [aBG] at h1
    obtain ⟨vs,e2,q⟩:=h1
    refine ⟨cv,e1, ?_⟩
    simp only [aBG]
    refine ⟨vs,e2, ?_⟩
    have hb:(awY h'.length (.tup (l.map AM.thaw))).2= []:=by simp only [awY];exact aBx l _
    rw [hb,List.append_nil]
    have:=aCJ (gh:=an3 h') (g':=an3 h') hsr hrd rfl (fun x v hx=>ayu hle (Ge.refl _ _) x hx) l h'.length vs (hidx l rfl) q
    exact this
   ·have e3:aCl (.ret x)= .ret (AM.thaw x):=by cases x<;>first|rfl|exact absurd rfl (ht _)
    have hnt:∀ l,AM.thaw x ≠ .tup l:=by intro l hl;cases x<;>simp [AM.thaw] at hl;exact ht _ rfl
    rw [e3]
    refine ⟨cv,e1, ?_⟩
    rw [axl (azm x) hnt]
    rcases awI x with ⟨xs,k,e,rfl⟩|hx
    ·simp only [aBG] at h1
     have h0:rd h'.length=some (aHA xs e):=by
      simp only [rd]
      rw [if_pos (Nat.le_refl _),aws (Nat.le_refl _),Nat.sub_self]
      rfl
     have hf:frz rd 6 (.ref h'.length 0 0 k)=some (.sl (xs.take (k*e)) k true):=by
      simp [frz,h0,aHA]
     have:=axn hsr hrd 6 _ _ _ hf h1
     exact av7 _ this
    ·rw [axl hx ht] at h1
     rw [aFp hx]
     exact ayu hle (Ge.refl _ _) x h1
end
end AM
namespace AM
open Go
structure ayY (s s':St):Prop where
 env:∀ t,anX (s'.env.get t) (s.env.get t)
 hp:s.hp=s'.hp
 md:s.md=s'.md
 dfs:s.dfs=s'.dfs
theorem ayY.refl (s:St):ayY s s:=⟨fun _=>anX.refl _,rfl,rfl,rfl⟩
def aHf:Env→(Nat→AV)→Prop
 | [],_=>True
 |(t,v)::r,f=>anX (f t) v∧aHf r f
theorem aA7 {f:Nat→AV}:∀ {e:Env},aHf e f→∀ t,anX (f t) (e.get t)
 | [],_,t=>anX.dead _
 | (u,v)::r,h,t=>by
  simp only [aHf] at h
  simp only [Env.get,ad9]
  cases hb:Nat.beq u t with
  |true=>
   have:=anN hb
   subst this
   exact h.1
  |false=>exact aA7 h.2 t
theorem ayY.of {e e':Env} {hp:Hp} {md:AV} {dfs:List (Nat × List AV)} (h:aHf e e'.get):ayY {env:=e,hp,md,dfs} {env:=e',hp,md,dfs}:=⟨aA7 h,rfl,rfl,rfl⟩
section
variable {P:Program} {ap:AP}
theorem FR.lessF {s s':St} (h:ayY s s') {nt:Nat} {m:anV} {S:anR} {w:World} {a:Act} (hF:FR ap s'.env s'.hp s'.dfs nt m S w a):FR ap s.env s.hp s.dfs nt m S w a:=by
 refine ⟨h.hp ▸ hF.srel,fun t=> ?_, ?_,hF.size⟩
 ·have:=h.env t _ _ _ _ (hF.env t)
  rw [h.hp];exact this
 ·rw [h.hp,h.dfs];exact hF.dfs
theorem adY.weakF {h0:List Blk} {nt:Nat} {code:Code} {s s' r r':St} {e:an_} (h:adY P ap h0 nt code s e r) (hs:ayY s s') (hr:ayY r' r):adY P ap h0 nt code s' e r':=by
 intro hmd
 obtain ⟨h3,h4⟩:=h (hs.md ▸ hmd)
 refine ⟨hr.md ▸ h3,fun m0 S0 w0 m S w a hfr hF Q hQ=>h4 m0 S0 w0 m S w a (by rw [hs.hp];exact hfr) (hF.lessF hs) Q ?_⟩
 intro m' S' w' a' h5 h6
 have:=hQ m' S' w' a' (by rw [hr.hp];exact h5) (h6.lessF hr)
 cases e with
 |normal=>exact this
 |exit id=>exact this
 |ret=>exact this
 |panic v=>intro cv hcv;exact this cv (by rw [hr.hp];exact hcv)
theorem aea.blkF {h0:List Blk} {n id:Nat} {b:Code} {α β:Type} {e:β→an_} {st:α→St} {out:β→St} {a:α} {r:β} {s s':St} {e':an_} (h:∀ nt,n≤nt→aea P ap h0 nt b e st out a r) (hne:e r ≠ .normal) (he:ayA id (e r)=e') (hs:ayY (st a) s) (hr:ayY s' (out r)):ajS P ap h0 n (.block id (.loop b)) s e' s':=by
 intro nt hn
 have h1:=((h nt hn).ok hne).block (id:=id)
 rw [he] at h1
 exact h1.weakF hs hr
end
end AM
namespace AM
open Go
def aBU (b:Nat) (c v:Nat):Option (Nat × Nat):=match Nat.beq c b with|true=>none|false=>some (c,v)
inductive Fz (b:Nat) (B:Blk):AV→AV→Prop
 |ren {x:AV}:Fz b B x (ren (aBU b) x)
 |ref {i n:Nat}:Fz b B (.ref b B.ver i n) (.sl ((B.cells.drop (i*B.esz)).take (n*B.esz)) n true)
 |fit {x y z:AV}:Fz b B x y→anX y z→Fz b B x z
inductive FzL (b:Nat) (B:Blk):List AV→List AV→Prop
 |nil:FzL b B [] []
 |cons {x y:AV} {l r:List AV}:Fz b B x y→FzL b B l r→FzL b B (x::l) (y::r)
theorem Fz.same {b:Nat} {B:Blk} {x:AV} (h:AM.ren (aBU b) x=x):Fz b B x x:=by
 have:=Fz.ren (b:=b) (B:=B) (x:=x)
 rwa [h] at this
theorem Fz.dead {b:Nat} {B:Blk} (x:AV):Fz b B x .dead:= .fit .ren (anX.dead _)
theorem FzL.length {b:Nat} {B:Blk} {l r:List AV} (h:FzL b B l r):l.length=r.length:=by
 induction h with
 |nil=>rfl
 |cons _ _ ih=>simp [ih]
structure FzB (b:Nat) (B:Blk) (C C':Blk):Prop where
 ver:C'.ver=C.ver
 fro:C'.fro=C.fro
 fz:C'.fz=C.fz
 esz:C'.esz=C.esz
 body:(C.pr=true∧C'.cells=C.cells∧C'.pr=true)∨(FzL b B C.cells C'.cells∧(C'.pr=true→(auh C'.cells).isEmpty=true))
theorem FzB.same {b:Nat} {B C:Blk} (hp:C.pr=true):FzB b B C C:=⟨rfl,rfl,rfl,rfl,.inl ⟨hp,rfl,hp⟩⟩
theorem FzB.length {b:Nat} {B C C':Blk} (h:FzB b B C C'):C.cells.length=C'.cells.length:=by
 rcases h.body with ⟨_,e,_⟩|⟨e,_⟩
 ·rw [e]
 ·exact e.length
section
variable {P:Program} {ap:AP} {g:HpF} {m:anV} {S:anR} {w:World}
def axK (b:Nat) (B:Blk):HpF:=fun c=>match Nat.beq c b with|true=>some B|false=>none
theorem azD {b c:Nat} {B C:Blk} (h:axK b B c=some C):c=b∧C=B:=by
 unfold axK at h
 split at h
 ·rename_i hb;cases h;exact ⟨anN hb,rfl⟩
 ·cases h
theorem aKp (b:Nat) (B:Blk):axK b B b=some B:=by unfold axK;rw [Nat.beq_refl]
theorem Fz.sound {b:Nat} {B:Blk} (hS:apS ap g m S w) (hb:g b=some B) (hpr:B.pr=true) {g':HpF} (hg:azR g m g' m (aBU b)) {x y:AV} (h:Fz b B x y):∀ {v:Value},VR g m S x v→VR g' m (auZ S m (axK b B) w) y v:=by
 have hrd:∀ c C,axK b B c=some C→g c=some C:=by
  intro c C hc
  obtain ⟨rfl,rfl⟩:=azD hc
  exact hb
 induction h with
 |ren=>intro v hv;exact aCr (axW S m (axK b B) w) hg _ hv
 | @ref i n=>
  intro v hv
  have hf:frz (axK b B) 6 (.ref b B.ver i n)=some (.sl ((B.cells.drop (i*B.esz)).take (n*B.esz)) n true):=by
   simp [frz,aKp,hpr]
  exact av7 _ (axn hS hrd 6 _ _ _ hf hv)
 |fit _ hf ih=>intro v hv;exact hf _ _ _ _ (ih hv)
theorem FzL.sound {b:Nat} {B:Blk} (hS:apS ap g m S w) (hb:g b=some B) (hpr:B.pr=true) {g':HpF} (hg:azR g m g' m (aBU b)) {l r:List AV} (h:FzL b B l r):∀ {vs:List Value},VRL g m S l vs→VRL g' m (auZ S m (axK b B) w) r vs:=by
 induction h with
 |nil=>intro vs hv;cases vs with|nil=>simp [VRL]|cons _ _=>simp [VRL] at hv
 | cons hx _ ih=>
  intro vs hv
  cases vs with
  |nil=>simp [VRL] at hv
  |cons v vs=>
   simp only [VRL] at hv ⊢
   exact ⟨hx.sound hS hb hpr hg hv.1,ih hv.2⟩
theorem aA2:∀ {l:List AV} {vs:List Value},(auh l).isEmpty=true→VRL g m S l vs→PRL S l vs
 | [],[],_,_=>by simp [PRL]
 |x::l,v::vs,h,hv=>by
  simp only [auh,List.isEmpty_iff,List.append_eq_nil_iff] at h
  rw [← List.isEmpty_iff,← List.isEmpty_iff] at h
  simp only [VRL] at hv
  simp only [PRL]
  exact ⟨axO h.1 hv.1,aA2 h.2 hv.2⟩
 | [],_::_,_,hv=>by simp [VRL] at hv
 |_::_,[],_,hv=>by simp [VRL] at hv
theorem aFY {g g':HpF} {m m':anV} {S S':anR} {ρ:Nat→Nat→Option (Nat × Nat)} (hS:SLe S S') (hG:azR g m g' m' ρ):∀ {l:List (Nat × List AV)} {ds:List Deferred},av1 g m S l ds→av1 g' m' S' (l.map fun d=>(d.1,axG ρ d.2)) ds
 | [],[],_=>by simp only [List.map_nil,av1]
 |d::r,cd::cr,h=>by
  simp only [av1] at h
  simp only [List.map_cons,av1]
  obtain ⟨⟨cap,h1,h2⟩,h3⟩:=h
  exact ⟨⟨cap,h1,axc hS hG _ h2⟩,aFY hS hG h3⟩
 | [],_::_,h=>by simp [av1] at h
 |_::_,[],h=>by simp [av1] at h
theorem aIr {h0:List Blk} {nt:Nat} {r r':St} {m0 m':anV} {S0 S':anR} {w0 w':World} {a':Act} (b:Nat) (B:Blk) (hb0:h0.length≤b) (hB:ad9 r.hp b=some B) (hpr:B.pr=true)
  (hd:r'.dfs=r.dfs.map fun d=>(d.1,axG (aBU b) d.2))
  (henv:∀ t,Fz b B (r.env.get t) (r'.env.get t))
  (hdom:∀ c C',ad9 r'.hp c=some C'→c ≠ b∧∃ C,ad9 r.hp c=some C∧FzB b B C C')
  (hall:∀ c C,c ≠ b→ad9 r.hp c=some C→∃ C',ad9 r'.hp c=some C')
  (h5:Fr (an3 h0) m0 S0 w0 (ad9 r.hp) m' S' w') (h6:FR ap r.env r.hp r.dfs nt m' S' w' a'):
  ∃ S2,Fr (an3 h0) m0 S0 w0 (ad9 r'.hp) m' S2 w'∧FR ap r'.env r'.hp r'.dfs nt m' S2 w' a':=by
 have hSR:=h6.srel
 have hle:=axW S' m' (axK b B) w'
 have hrd:∀ c C,axK b B c=some C→ad9 r.hp c=some C:=by
  intro c C hc
  obtain ⟨rfl,rfl⟩:=azD hc
  exact hB
 have hren:azR (ad9 r.hp) m' (ad9 r'.hp) m' (aBU b):=by
  intro c ver c' ver' hρ C hC hv
  unfold aBU at hρ
  split at hρ
  ·cases hρ
  ·rename_i hne
   cases hρ
   have hcb:c ≠ b:=by intro e;subst e;simp at hne
   obtain ⟨C',hC'⟩:=hall c C hcb hC
   obtain ⟨_,C2,hC2,hf⟩:=hdom c C' hC'
   rw [hC] at hC2;cases hC2
   exact ⟨C',hC',by rw [hf.ver];exact hv,fun e=> ⟨by rw [← hf.ver];exact e,rfl,hf.esz⟩⟩
 have hsr:apS ap (ad9 r'.hp) m' (auZ S' m' (axK b B) w') w':=by
  refine ⟨?_, ?_,fun k o v hv=>ayJ hSR hv, ?_, ?_⟩
  ·intro c c' C C' hc hc' hm
   obtain ⟨_,D,hD,_⟩:=hdom c C hc
   obtain ⟨_,D',hD',_⟩:=hdom c' C' hc'
   exact hSR.inj c c' D D' hD hD' hm
  ·intro c C' hc
   obtain ⟨_,C,hC,hf⟩:=hdom c C' hc
   obtain ⟨⟨cur,ee,vs,rest,k1,k2,k3,k4,k5,k6⟩,hz,hzl⟩:=hSR.blk c C hC
   have hpv:(C'.pr=true→PRL (auZ S' m' (axK b B) w') C'.cells vs)∧VRL (ad9 r'.hp) m' (auZ S' m' (axK b B) w') C'.cells vs:=by
    rcases hf.body with ⟨q1,q2,q3⟩|⟨q1,q2⟩
    ·have:=an6 hle _ (k3 q1)
     rw [q2]
     exact ⟨fun _=>this,aoa _ this⟩
    ·have hv:=q1.sound hSR hB hpr hren k4
     exact ⟨fun hp=>aA2 (q2 hp) hv,hv⟩
   exact ⟨⟨cur,ee,vs,rest,by rw [hf.esz];exact k1,k2,hpv.1,hpv.2,by rw [hf.esz];exact k5,fun hp=>by rw [hf.esz] at hp ⊢;exact k6 hp⟩,fun hp=>by rw [hf.fz];exact hz (by rw [← hf.fro];exact hp),by rw [hf.fz,← hf.length];exact hzl⟩
  ·intro c C' hc o v hv
   obtain ⟨hcb,C,hC,hf⟩:=hdom c C' hc
   rw [hf.fro,hf.fz]
   rcases avC hv with h1|⟨h1,b',B',h2,h3,h4⟩
   ·exact hSR.own c C hC o v h1
   ·obtain ⟨rfl,rfl⟩:=azD h2
    exact absurd (hSR.inj c b' C B' hC hB h3.symm) hcb
  ·intro k xs hk
   obtain ⟨vs,k1,k2⟩:=hSR.glob k xs hk
   exact ⟨vs,an6 hle _ k1,k2.mono hle⟩
 have hfr':Fr (an3 h0) m0 S0 w0 (ad9 r'.hp) m' (auZ S' m' (axK b B) w') w':=by
  refine ⟨?_,SLe.trans h5.sle hle,h5.os,h5.tape,h5.output,h5.size,h5.rest, ?_, ?_⟩
  ·intro c C hc
   have hlt:c<h0.length:=(List.getElem?_eq_some_iff.1 hc).1
   obtain ⟨C1,hC1,e1,e2⟩:=h5.ge c C hc
   obtain ⟨C',hC'⟩:=hall c C1 (by omega) hC1
   obtain ⟨_,C2,hC2,hf⟩:=hdom c C' hC'
   rw [hC1] at hC2;cases hC2
   exact ⟨C',hC',by rw [hf.esz];exact e1,by rw [hf.ver];exact e2⟩
  ·intro c C' hc
   obtain ⟨_,C,hC,_⟩:=hdom c C' hc
   exact h5.img c C hC
  ·intro k o v hv
   rcases avC hv with h1|⟨h1,b',B',h2,h3,h4⟩
   ·exact h5.sealN k o v h1
   ·obtain ⟨rfl,rfl⟩:=azD h2
    rcases h5.img b' B' hB with h7|⟨B0,h7,_⟩
    ·exact .inr (.inl (h3 ▸ h7))
    ·have:b'<h0.length:=(List.getElem?_eq_some_iff.1 h7).1
     omega
 have hFR:FR ap r'.env r'.hp r'.dfs nt m' (auZ S' m' (axK b B) w') w' a':=by
  refine ⟨hsr,fun t=>(henv t).sound hSR hB hpr hren (h6.env t), ?_,h6.size⟩
  rw [hd]
  exact aFY hle hren h6.dfs
 exact ⟨_,hfr',hFR⟩
theorem adY.freeze {h0:List Blk} {nt:Nat} {code:Code} {s r r':St} {e:an_} (b:Nat) (B:Blk) (h:adY P ap h0 nt code s e r) (he:∀ v,e ≠ .panic v) (hb0:h0.length≤b) (hB:ad9 r.hp b=some B) (hpr:B.pr=true)
  (hmd:r'.md=r.md) (hd:r'.dfs=r.dfs.map fun d=>(d.1,axG (aBU b) d.2))
  (henv:∀ t,Fz b B (r.env.get t) (r'.env.get t))
  (hdom:∀ c C',ad9 r'.hp c=some C'→c ≠ b∧∃ C,ad9 r.hp c=some C∧FzB b B C C')
  (hall:∀ c C,c ≠ b→ad9 r.hp c=some C→∃ C',ad9 r'.hp c=some C'):adY P ap h0 nt code s e r':=by
 intro hs
 obtain ⟨h3,h4⟩:=h hs
 refine ⟨hmd ▸ h3,fun m0 S0 w0 m S w a hfr hF Q hQ=>h4 m0 S0 w0 m S w a hfr hF Q ?_⟩
 intro m' S' w' a' h5 h6
 obtain ⟨S2,hfr',hFR⟩:=aIr b B hb0 hB hpr hd henv hdom hall h5 h6
 have:=hQ m' S2 w' a' hfr' hFR
 cases e with
 |normal=>exact this
 |exit id=>exact this
 |ret=>exact this
 |panic v=>exact absurd rfl (he v)
def aMf (b:Nat) (B:Blk):Env→(Nat→AV)→Prop
 | [],_=>True
 |(t,v)::r,f=>Fz b B (f t) v∧aMf b B r f
theorem ayE {b:Nat} {B:Blk} {f:Nat→AV}:∀ {e:Env},aMf b B e f→∀ t,Fz b B (f t) (e.get t)
 | [],_,t=>Fz.dead _
 | (u,v)::r,h,t=>by
  simp only [aMf] at h
  simp only [Env.get,ad9]
  cases hb:Nat.beq u t with
  |true=>
   have:=anN hb
   subst this
   exact h.1
  |false=>exact ayE h.2 t
def hpZ (b:Nat) (B:Blk):Hp→Hp→Prop
 | [],l=>l= [(b,B)]
 |(c,C)::r,(d,D)::l=>c=d∧FzB b B D C∧c ≠ b∧hpZ b B r l
 |_::_,[]=>False
theorem aDG {b:Nat} {B:Blk}:∀ {r l:Hp},hpZ b B r l→∀ c C',ad9 r c=some C'→c ≠ b∧∃ C,ad9 l c=some C∧FzB b B C C'
 | [],l,_,c,C',hc=>by simp [ad9] at hc
 | (d,D)::r,(d',D')::l,h,c,C',hc=>by
  simp only [hpZ] at h
  obtain ⟨rfl,h2,h3,h4⟩:=h
  simp only [ad9] at hc ⊢
  cases hb:Nat.beq d c with
  |true=>
   rw [hb] at hc
   have:=anN hb
   subst this
   cases hc
   exact ⟨h3,D',rfl,h2⟩
  |false=>
   rw [hb] at hc
   exact aDG h4 c C' hc
 |_::_,[],h,_,_,_=>by simp [hpZ] at h
theorem aDF {b:Nat} {B:Blk}:∀ {r l:Hp},hpZ b B r l→∀ c C,c ≠ b→ad9 l c=some C→∃ C',ad9 r c=some C'
 | [],l,h,c,C,hcb,hc=>by
  simp only [hpZ] at h
  subst h
  simp only [ad9] at hc
  split at hc
  ·rename_i hb;exact absurd (anN hb).symm hcb
  ·cases hc
 |(d,D)::r,(d',D')::l,h,c,C,hcb,hc=>by
  simp only [hpZ] at h
  obtain ⟨rfl,h2,h3,h4⟩:=h
  simp only [ad9] at hc ⊢
  cases hb:Nat.beq d c with
  |true=>exact ⟨D,rfl⟩
  |false=>rw [hb] at hc;exact aDF h4 c C hcb hc
 |_::_,[],h,_,_,_,_=>by simp [hpZ] at h
theorem aB4 {b:Nat} {B:Blk}:∀ {r l:Hp},hpZ b B r l→ad9 l b=some B
 | [],l,h=>by
  simp only [hpZ] at h
  subst h
  simp [ad9]
 |(d,D)::r,(d',D')::l,h=>by
  simp only [hpZ] at h
  obtain ⟨rfl,h2,h3,h4⟩:=h
  simp only [ad9]
  cases hb:Nat.beq d b with
  |true=>exact absurd (anN hb) h3
  |false=>exact aB4 h4
 |_::_,[],h=>by simp [hpZ] at h
theorem adY.forget {h0:List Blk} {nt:Nat} {code:Code} {s:St} {e:an_} (b:Nat) (B:Blk) {en en':Env} {hp hp':Hp} {md:AV} (h:adY P ap h0 nt code s e {env:=en,hp,md,dfs:= []}) (he:∀ v,e ≠ .panic v) (hb0:h0.length≤b) (hpr:B.pr=true)
  (henv:aMf b B en' (Env.get en)) (hhp:hpZ b B hp' hp):adY P ap h0 nt code s e {env:=en',hp:=hp',md,dfs:= []}:=
 h.freeze b B he hb0 (aB4 hhp) hpr rfl rfl (ayE henv) (aDG hhp) (aDF hhp)
theorem adY.forgetD {h0:List Blk} {nt:Nat} {code:Code} {s:St} {e:an_} (b:Nat) (B:Blk) {en en':Env} {hp hp':Hp} {md:AV} {dfs:List (Nat × List AV)} (h:adY P ap h0 nt code s e {env:=en,hp,md,dfs}) (he:∀ v,e ≠ .panic v) (hb0:h0.length≤b) (hpr:B.pr=true)
  (henv:aMf b B en' (Env.get en)) (hhp:hpZ b B hp' hp) (hd:dfs.map (fun d=>(d.1,axG (aBU b) d.2))=dfs):adY P ap h0 nt code s e {env:=en',hp:=hp',md,dfs}:=
 h.freeze b B he hb0 (aB4 hhp) hpr rfl hd.symm (ayE henv) (aDG hhp) (aDF hhp)
end
end AM
namespace AM
open Go
def aEj (P:Program) (f:TypeId→Option (List LK)):List Field→Nat→Option (List LK)
 | [],_=>some []
 | x::r,off=>match f x.type with
  |some l=>match Nat.beq x.offset off && Nat.beq (P.cellsOf x.type) l.length with
   |true=>match aEj P f r (off+l.length) with|some q=>some (l++q)|none=>none
   |false=>none
  |none=>none
def aGk (P:Program):Nat→TypeId→Option (List LK)
 |0,_=>none
 | n+1,t=>match P.underlying t with
  |some (.int k)=>some [.int k]
  |some .bool=>some [.bool]
  |some .string=>some [.str]
  |some (.struct fs)=>match aEj P (aGk P n) fs.toList 0 with
   |some l=>match Nat.beq (P.cellsOf t) l.length with|true=>some l|false=>none
   |none=>none
  |some (.array m e)=>match aGk P n e with
   |some l=>match Nat.beq (P.cellsOf e) l.length && Nat.beq (P.cellsOf t) (m*l.length) with|true=>some (List.replicate m l).flatten|false=>none
   |none=>none
  |_=>none
inductive avx:List LK→List Value→Prop
 |nil:avx [] []
 |int {k:IntKind} {n:Int} {r:List LK} {l:List Value}:avx r l→avx (.int k::r) (.int k n::l)
 |bool {b:Bool} {r:List LK} {l:List Value}:avx r l→avx (.bool::r) (.bool b::l)
 |str {s:ByteArray} {r:List LK} {l:List Value}:avx r l→avx (.str::r) (.string s::l)
theorem avx.app {a b:List LK} {x y:List Value} (h:avx a x) (h':avx b y):avx (a++b) (x++y):=by
 induction h with
 |nil=>exact h'
 |int _ ih=>exact .int ih
 |bool _ ih=>exact .bool ih
 |str _ ih=>exact .str ih
theorem avx.length {a:List LK} {x:List Value} (h:avx a x):a.length=x.length:=by
 induction h with
 |nil=>rfl
 |int _ ih=>simp [ih]
 |bool _ ih=>simp [ih]
 |str _ ih=>simp [ih]
def ayL:Value→AV
 | .int k n=> .int k n
 | .bool b=> .bool b
 | .string s=> .str s.data.toList
 |_=> .dead
theorem avx.pr {S:anR} {a:List LK} {x:List Value} (h:avx a x):PRL S (x.map ayL) x:=by
 induction h with
 |nil=>simp [PRL]
 |int _ ih=>simp only [List.map_cons,PRL];exact ⟨by simp [ayL,PR],ih⟩
 |bool _ ih=>simp only [List.map_cons,PRL];exact ⟨by simp [ayL,PR],ih⟩
 |@str s _ _ _ ih=>simp only [List.map_cons,PRL];exact ⟨by simp [ayL,PR],ih⟩
theorem avx.one {a:List LK} {x:List Value} (h:avx a x):∀ u ∈ x,u.oneCell'=true:=by
 induction h with
 |nil=>intro u hu;cases hu
 |int _ ih=>
  intro u hu
  rcases List.mem_cons.1 hu with rfl|hu
  ·rfl
  ·exact ih u hu
 |bool _ ih=>
  intro u hu
  rcases List.mem_cons.1 hu with rfl|hu
  ·rfl
  ·exact ih u hu
 |str _ ih=>
  intro u hu
  rcases List.mem_cons.1 hu with rfl|hu
  ·rfl
  ·exact ih u hu
section
variable {H:Type} {enc:TypeId × Value→H} {P:Program} {w:World} {base:Nat} {spare:Nat→Bool} {held:Bool}
theorem aC2 {n:Nat} {f:TypeId→Option (List LK)} (hf:∀ t ks,f t=some ks→∀ (fuel:Nat) (cs:List Value) (x:DataW H × List MemPlace),DataW.trod enc P w base spare held fuel t cs=some x→avx ks cs) {cs:List Value}:∀ (r:List Field) (off:Nat) (ks:List LK),aEj P f r off=some ks→
  (∀ (i:Nat) (x:Field),r[i]? =some x→∃ y,DataW.trod enc P w base spare held n x.type ((cs.drop x.offset).take (P.cellsOf x.type))=some y)→avx ks ((cs.drop off).take ks.length)
 | [],off,ks,h,_=>by
  simp only [aEj] at h
  cases h
  simpa using avx.nil
 | x ::r,off,ks,h,hx=>by
  simp only [aEj] at h
  split at h
  ·rename_i l hl
   split at h
   ·rename_i hb
    simp only [Bool.and_eq_true] at hb
    have e1:=Nat.eq_of_beq_eq_true hb.1
    have e2:=Nat.eq_of_beq_eq_true hb.2
    split at h
    ·rename_i q hq
     cases h
     obtain ⟨y,hy⟩:=hx 0 x rfl
     have h1:=hf _ _ hl _ _ _ hy
     rw [e1,e2] at h1
     have h2:=aC2 hf r (off+l.length) q hq (fun i f hi=>hx (i+1) f (by simpa using hi))
     rw [List.length_append,List.take_add,List.drop_drop]
     exact h1.app h2
    ·cases h
   ·cases h
  ·cases h
theorem aMg:∀ (n:Nat) (t:TypeId) (ks:List LK),aGk P n t=some ks→∀ (fuel:Nat) (cs:List Value) (x:DataW H × List MemPlace),DataW.trod enc P w base spare held fuel t cs=some x→avx ks cs:=by
 intro n
 induction n with
 |zero=>intro t ks h;simp [aGk] at h
 | succ n ih=>
  intro t ks h fuel cs x hx
  simp only [aGk] at h
  split at h
  ·rename_i k ht
   cases h
   obtain ⟨m,rfl,_⟩:=DataW.trod_int ht hx
   exact .int .nil
  ·rename_i ht
   cases h
   obtain ⟨b,rfl,_⟩:=DataW.trod_bool ht hx
   exact .bool .nil
  ·rename_i ht
   cases h
   obtain ⟨s,rfl,_⟩:=DataW.trod_string ht hx
   exact .str .nil
  ·rename_i fs ht
   split at h
   ·rename_i l hl
    split at h
    ·rename_i hb
     cases h
     obtain ⟨xs,m,rfl,_,hlen,hxl,hi⟩:=DataW.trod_struct ht hx
     have e:=Nat.eq_of_beq_eq_true hb
     have h1:=aC2 (n:=m) ih fs.toList 0 ks hl (fun i f hf=>by
      have hf':fs[i]? =some f:=by simpa using hf
      have h2:=hi i f hf'
      have hlt:i<xs.length:=by rw [hxl];exact (Array.getElem?_eq_some_iff.1 hf').1
      rw [List.getElem?_eq_getElem hlt] at h2
      exact ⟨_,h2⟩)
     rw [List.drop_zero,← e,← hlen,List.take_length] at h1
     exact h1
    ·cases h
   ·cases h
  ·rename_i m e ht
   split at h
   ·rename_i l hl
    split at h
    ·rename_i hb
     cases h
     simp only [Bool.and_eq_true] at hb
     have e1:=Nat.eq_of_beq_eq_true hb.1
     have e2:=Nat.eq_of_beq_eq_true hb.2
     obtain ⟨xs,q,rfl,_,hlen,hxl,hi⟩:=DataW.trod_array ht hx
     have key:∀ j,j≤m→avx (List.replicate j l).flatten ((cs.drop ((m - j)*l.length)).take (j*l.length)):=by
      intro j
      induction j with
      |zero=>intro _;simpa using avx.nil
      | succ j ihj=>
       intro hj
       have h2:=hi (m - (j+1)) (by omega)
       rw [List.getElem?_eq_getElem (by omega)] at h2
       have h3:=ih _ _ hl _ _ _ h2
       rw [e1] at h3
       have h4:=ihj (by omega)
       rw [List.replicate_succ,List.flatten_cons,Nat.add_mul,Nat.one_mul,Nat.add_comm (j*l.length),List.take_add,List.drop_drop]
       have h5:(m - (j+1))*l.length+l.length=(m - j)*l.length:=by
        rw [← Nat.succ_mul];congr 1;omega
       rw [h5]
       exact h3.app h4
     have h6:=key m (Nat.le_refl _)
     rw [Nat.sub_self,Nat.zero_mul,List.drop_zero,← e2,← hlen,List.take_length] at h6
     exact h6
    ·cases h
   ·cases h
  ·cases h
end
end AM
namespace AM
open Go
def aBK:Nat→Nat→List Bool
 |0,_=> []
 |n+1,k=>Nat.beq (k % 2) 1::aBK n (k / 2)
def aP2:Nat→List Bool→List Bool
 |0,l=>l
 |n+1,l=>true::aP2 n l
theorem axw.n (k:Nat) {l:List Bool} (h:axw l):axw (aP2 k l):=by
 induction k with
 |zero=>exact h
 |succ k ih=>exact .t ih
theorem axw.k (k:Nat) {b:Bool} {l:List Bool} (hb:b=true) (h:axw l):axw (aP2 k (b::l)):= .n k (.c hb h)
theorem tf (b:Bool):b=true∨b=false:=by cases b<;>simp
theorem aeF {b:Bool} (h:b=true):lit true b=true:=h
theorem akx {b:Bool} (h:b=false):lit false b=true:=by subst h;rfl
theorem avg {b:Bool} (h:b=false):lit true (!b)=true:=by subst h;rfl
theorem anS {b:Bool} (h:b=true):lit false (!b)=true:=by subst h;rfl
inductive PS (P:Program) (ap:AP):List Prop→List (Out × List Blk)→Lps→List aAU→Prop where
 |nil:PS P ap [] [] [] []
 |c {f:Nat} {args:List AV} {h h':List Blk} {out:Out} {ps:List Prop} {ans:List (Out × List Blk)} {lps:Lps} {hs:List aAU}:ad1 P ap f args h out h'→PS P ap ps ans lps hs→PS P ap (ad1 P ap f args h out h'::ps) (ans++ [(out,h')]) lps hs
 |l {h0:List Blk} {n:Nat} {code:Code} {s s':St} {e:an_} {ps:List Prop} {ans:List (Out × List Blk)} {lps:Lps} {hs:List aAU}:ajS P ap h0 n code s e s'→PS P ap ps ans lps hs→PS P ap (ajS P ap h0 n code s e s'::ps) ans (lps++ [(e,s')]) hs
 |v (d:Nat) {x y:AV} {ps:List Prop} {ans:List (Out × List Blk)} {lps:Lps} {hs:List aAU}:anX x y→PS P ap ps ans lps hs→PS P ap (anX x y::ps) ans lps (hs++ [.v d y])
 |b (d:Nat) {x y:List AV} {ps:List Prop} {ans:List (Out × List Blk)} {lps:Lps} {hs:List aAU}:x=y→PS P ap ps ans lps hs→PS P ap ((x=y)::ps) ans lps (hs++ [.b d y])
 |u (d:Nat) {x y:List (Option Blk)} {ps:List Prop} {ans:List (Out × List Blk)} {lps:Lps} {hs:List aAU}:x=y→PS P ap ps ans lps hs→PS P ap ((x=y)::ps) ans lps (hs++ [.u d])
theorem PS.all {P:Program} {ap:AP} {ps:List Prop} {ans:List (Out × List Blk)} {lps:Lps} {hs:List aAU} (h:PS P ap ps ans lps hs):aHY ps:=by
 induction h with
 |nil=>exact .nil
 |c h _ ih=>exact .cons h ih
 |l h _ ih=>exact .cons h ih
 |v _ h _ ih=>exact .cons h ih
 |b _ h _ ih=>exact .cons h ih
 |u _ h _ ih=>exact .cons h ih
theorem ck {P:Program} {ap:AP} (g:aDU P ap) {ans:List (Out × List Blk)} {ps:List Prop} {f:Nat} {args:List AV} {h h':List Blk} {out:Out} (hp:PS P ap ps ans [] [])
  (he:az7 ap (aBz P ap 3000 4) 3000 .dead f args h ⟨true,[],[],[],ans,[]⟩= .ok (out,h',.dead) ⟨true,[],[],ps,[],[]⟩):ad1 P ap f args h out h':=aF_ g hp.all he
theorem pk {P:Program} {ap:AP} (g:aDU P ap) (ls:List Nat) (n k:Nat) {ans:List (Out × List Blk)} {lps:Lps} {hs:List aAU} {bs:List Bool} {ps:List Prop} {f:Nat} {args:List AV} {h h':List Blk} {out:Out}
  (hb:axw bs) (hp:PS P ap ps ans lps hs) (he:aK2 P ap (aBz P ap 3000 4) 3000 ls f args h lps ⟨false,aBK n k,[],[],ans,hs⟩= .ok (out,h',.dead) ⟨false,[],bs,ps,[],[]⟩):ad1 P ap f args h out h':=by
 obtain ⟨h1,h2⟩:=axo g.apok g.mixed g.fnok 3000 4
 exact aNC g.apok g.mixed g.fnok h1 h2 he ⟨hb.mem,hp.all.mem⟩
def aAg (ap:AP) (f:Nat):List Nat:=match ap.fnAt f with|some F=>F.keep|none=> []
def aLq (env:Env):R ((an_ × St) × Lps)→R ((an_ × St) × Lps)
 | .ok ((e,s),l) c=> .ok ((e,⟨env.map fun q=>(q.1,s.env.get q.1),s.hp,s.md,s.dfs⟩),l) c
 |r=>r
def aKo (P:Program) (ap:AP) (h0:List Blk) (f nt0:Nat) (ls:List Nat) (code:Code) (s:St) (lps:Lps) (orc:List Bool) (ans:List (Out × List Blk)) (hs:List aAU) (env:Env):R ((an_ × St) × Lps):=
 match au3 nt0 code with
 |true=>aLq env (axy P ap (aBz P ap 3000 4) h0 (aAg ap f) 3000 nt0 ls code s lps ⟨false,orc,[],[],ans,hs⟩)
 |false=> .bad 0
theorem aOj (env env':Env):∀ t,Env.get (env.map fun q=>(q.1,env'.get q.1)) t=env'.get t∨Env.get (env.map fun q=>(q.1,env'.get q.1)) t= .dead:=by
 intro t
 induction env with
 |nil=>exact .inr rfl
 | cons q r ih=>
  cases hq:Nat.beq q.1 t with
  |true=>
   left
   have:=Nat.eq_of_beq_eq_true hq
   subst this
   simp only [Env.get,List.map_cons,ad9,hq,Option.getD_some]
  | false=>
   have e:Env.get (List.map (fun q=>(q.1,env'.get q.1)) (q::r)) t=Env.get (List.map (fun q=>(q.1,env'.get q.1)) r) t:=by
    simp only [Env.get,List.map_cons,ad9,hq]
   rw [e];exact ih
theorem pj {P:Program} {ap:AP} (g:aDU P ap) (f:Nat) (ls:List Nat) (n k:Nat) {nt nt0:Nat} {ans:List (Out × List Blk)} {lps:Lps} {hs:List aAU} {bs:List Bool} {ps:List Prop} {code:Code} {s s':St} {h0:List Blk} {e:an_}
  (hb:axw bs) (hp:PS P ap ps ans lps hs) (hn:nt0≤nt) (he:aKo P ap h0 f nt0 ls code s lps (aBK n k) ans hs s'.env= .ok ((e,s'),[]) ⟨false,[],bs,ps,[],[]⟩):adY P ap h0 nt code s e s':=by
 unfold aKo at he
 split at he
 ·rename_i hd
  generalize hr:axy P ap (aBz P ap 3000 4) h0 (aAg ap f) 3000 nt0 ls code s lps ⟨false,aBK n k,[],[],ans,hs⟩=r at he
  cases r with
  |ok q c=>
   obtain ⟨⟨e1,s1⟩,l1⟩:=q
   simp only [aLq,R.ok.injEq,Prod.mk.injEq] at he
   obtain ⟨⟨⟨rfl,hs1⟩,rfl⟩,rfl⟩:=he
   obtain ⟨h1,h2⟩:=axo g.apok g.mixed g.fnok 3000 4
   have hx:adY P ap h0 nt code s e1 s1:=(aAc g.apok g.mixed h1 hn code (avf hn code hd) _ _ _ _ _ hr ⟨hb.mem,hp.all.mem⟩).2
   refine hx.weak (anT.refl _) ?_
   rw [← hs1]
   exact ⟨aOj _ _,rfl,rfl,rfl⟩
  |need=>simp [aLq] at he
  |bad n=>simp [aLq] at he
 ·cases he
theorem anX.pp {xs ys:List AV} {off:Nat} (h:List.drop off xs=ys):anX (.pp xs off) (.pp ys 0):=by
 subst h
 intro g m S v hv
 simp only [VR,PR] at hv ⊢
 obtain ⟨b,o,vs,rfl,hp,hs⟩:=hv
 refine ⟨b,o+off,vs.drop off,rfl,ayZ off hp,fun j u hj=> ?_⟩
 rw [List.getElem?_drop] at hj
 have:=hs (off+j) u hj
 rwa [← Nat.add_assoc] at this
theorem anX.ppt {xs ys zs:List AV} {off:Nat} (h:List.drop off xs=ys++zs):anX (.pp xs off) (.pp ys 0):=by
 intro g m S v hv
 have:=anX.pp h g m S v hv
 simp only [VR,PR] at this ⊢
 obtain ⟨b,o,vs,rfl,hp,hs⟩:=this
 refine ⟨b,o,vs.take ys.length,rfl, ?_,fun j u hj=> ?_⟩
 ·have:=axa ys.length hp
  rwa [List.take_left'] at this
  rfl
 ·rw [List.getElem?_take] at hj
  split at hj
  ·exact hs j u hj
  ·cases hj
theorem anX.eq {x y:AV} (h:x=y):anX x y:=h ▸ fun _ _ _ _ hv=>hv
theorem anX.rd1 (k:LK) {xs zs:List AV} {y:AV} {off:Nat} (h:List.drop off xs= [y]++zs) (hr:eta k y=y):anX (eta k ((List.drop off xs).headD .dead)) y:= .eq (by rw [h];exact hr)
theorem axw.a {l r:List Bool} (h:axw l) (h':axw r):axw (l++r):=by
 induction h with
 |nil=>exact h'
 |t _ ih=>exact .t ih
 |c hb _ ih=>exact .c hb ih
theorem axw.of {l:List Bool} (h:l.all id=true):axw l:=by
 induction l with
 |nil=>exact .nil
 |cons b r ih=>
  simp only [List.all_cons,id,Bool.and_eq_true] at h
  exact .c h.1 (ih h.2)
theorem aNH (ks:List LK) {xs ys zs:List AV} {off:Nat} (h:List.drop off xs=ys++zs) (hc:(aNE true ks (ys++zs)).all id=true):axw (aG5 true ks xs off):=by
 unfold aG5;rw [h];exact .of hc
inductive FzP:List AV→List AV→Prop where
 |nil:FzP [] []
 |same {x:AV} {l r:List AV}:FzP l r→FzP (x::l) (x::r)
 |nilS {l r:List AV}:FzP l r→FzP (.nilS::l) (.sl [] 0 false::r)
 |sl {xs:List AV} {n:Nat} {a:Bool} {l r:List AV}:FzP l r→FzP (.sl xs n a::l) (.sl xs n false::r)
theorem FzP.prl {S:anR} {l r:List AV} (h:FzP l r):∀ {vs:List Value},PRL S l vs→PRL S r vs:=by
 induction h with
 |nil=>exact fun h=>h
 |same _ ih=>intro vs hv;cases vs with|nil=>simp [PRL] at hv|cons v vs=>simp only [PRL] at hv ⊢;exact ⟨hv.1,ih hv.2⟩
 | nilS _ ih=>
  intro vs hv
  cases vs with
  |nil=>simp [PRL] at hv
  |cons v vs=>
   simp only [PRL,PR] at hv ⊢
   exact ⟨⟨none,0,hv.1,Nat.le_refl _,.inl (by simp)⟩,ih hv.2⟩
 | @sl xs n a _ _ _ ih=>
  intro vs hv
  cases vs with
  |nil=>simp [PRL] at hv
  |cons v vs=>
   have h1:=hv
   simp only [PRL] at h1 ⊢
   refine ⟨?_,ih h1.2⟩
   have h2:=anX.sl xs n a (fun _=>none) (fun _=>(0,0)) S v (by simp only [VR];exact h1.1)
   simpa only [VR] using h2
theorem anX.slP {xs ys:List AV} {n:Nat} {nn:Bool} (hl:FzP xs ys):anX (.sl xs n nn) (.sl ys n nn):=by
 intro g m S v hv
 simp only [VR,PR] at hv ⊢
 obtain ⟨a,cap,rfl,hc,h⟩:=hv
 refine ⟨a,cap,rfl,hc, ?_⟩
 rcases h with ⟨h1,h2,h3,h4,h5⟩|⟨b,o,vs,h1,h2,h3⟩
 ·subst h3
  cases hl
  exact .inl ⟨h1,h2,rfl,h4,h5⟩
 ·exact .inr ⟨b,o,vs,h1,hl.prl h2,h3⟩
end AM
namespace AM
open Go
variable {P:Program} {ap:AP}
theorem adY.norm {h0:List Blk} {nt:Nat} {code:Code} {s s1:St} {e:an_} (keep:List Nat) (he:∀ v,e= .panic v→(avh v).isEmpty=true) (h:adY P ap h0 nt code s e s1):adY P ap h0 nt code s e (AM.norm h0.length keep s1):=by
 intro hs
 obtain ⟨h3,h4⟩:=h hs
 refine ⟨h3,fun m0 S0 w0 m S w a hfr hF Q hQ=>h4 m0 S0 w0 m S w a hfr hF Q ?_⟩
 intro m' S' w' a' h5 h6
 obtain ⟨m2,h7,h8⟩:=ayf (keep:=keep) h5 h6
 have:=hQ m2 S' w' a' h7 h8
 clear hQ h7 h8 h4
 generalize AM.norm h0.length keep s1=s2 at*
 cases e with
 |normal=>exact this
 |exit id=>exact this
 |ret=>exact this
 |panic v=>intro cv hcv;exact this cv (av7 _ (axO (he v rfl) hcv))
def a0J:an_→Bool
 | .panic v=>(avh v).isEmpty
 |_=>true
def aLn (base:Nat) (env:Env):R ((an_ × St) × Lps)→R ((an_ × St) × Lps)
 | .ok ((e,s),l) c=>match a0J e with
  |true=> .ok ((e,norm base (env.map fun q=>q.1) s),l) c
  |false=> .bad 1
 |r=>r
def aKn (P:Program) (ap:AP) (h0:List Blk) (f nt0:Nat) (ls:List Nat) (code:Code) (s:St) (lps:Lps) (orc:List Bool) (ans:List (Out × List Blk)) (hs:List aAU) (env:Env):R ((an_ × St) × Lps):=
 match au3 nt0 code with
 |true=>aLn h0.length env (axy P ap (aBz P ap 3000 4) h0 (aAg ap f) 3000 nt0 ls code s lps ⟨false,orc,[],[],ans,hs⟩)
 |false=> .bad 0
theorem pn (g:aDU P ap) (f:Nat) (ls:List Nat) (n k:Nat) {nt nt0:Nat} {ans:List (Out × List Blk)} {lps:Lps} {hs:List aAU} {bs:List Bool} {ps:List Prop} {code:Code} {s s':St} {h0:List Blk} {e:an_}
  (hb:axw bs) (hp:PS P ap ps ans lps hs) (hn:nt0≤nt) (he:aKn P ap h0 f nt0 ls code s lps (aBK n k) ans hs s'.env= .ok ((e,s'),[]) ⟨false,[],bs,ps,[],[]⟩):adY P ap h0 nt code s e s':=by
 unfold aKn at he
 split at he
 ·rename_i hd
  generalize hr:axy P ap (aBz P ap 3000 4) h0 (aAg ap f) 3000 nt0 ls code s lps ⟨false,aBK n k,[],[],ans,hs⟩=r at he
  cases r with
  | ok q c=>
   obtain ⟨⟨e1,s1⟩,l1⟩:=q
   simp only [aLn] at he
   split at he
   ·rename_i hpan
    simp only [R.ok.injEq,Prod.mk.injEq] at he
    obtain ⟨⟨⟨rfl,hs1⟩,rfl⟩,rfl⟩:=he
    obtain ⟨h1,h2⟩:=axo g.apok g.mixed g.fnok 3000 4
    have hx:adY P ap h0 nt code s e1 s1:=(aAc g.apok g.mixed h1 hn code (avf hn code hd) _ _ _ _ _ hr ⟨hb.mem,hp.all.mem⟩).2
    have:=hx.norm (s'.env.map fun q=>q.1) (fun v hv=>by subst hv;exact hpan)
    rwa [hs1] at this
   ·cases he
  |need=>simp [aLn] at he
  |bad n=>simp [aLn] at he
 ·cases he
end AM
namespace AM
open Go
variable {P:Program} {ap:AP}
def goL {α σ β:Type} (F:σ→α→σ ⊕ β) (fin:σ→β):List α→σ→β
 | [],s=>fin s
 |x::r,s=>match F s x with
  | .inl s'=>goL F fin r s'
  | .inr b=>b
theorem aea.goL {α σ β:Type} {h0:List Blk} {nt:Nat} {b:Code} {e:β→an_} {st:Nat × σ→St} {out:β→St} (F:σ→α→σ ⊕ β) (fin:σ→β) (L:List α) (Inv:List α→σ→Prop)
  (hstep:∀ p x r s,L=p++x::r→Inv p s→match F s x with
   | .inl s'=>adY P ap h0 nt b (st (p.length,s)) .normal (st (p.length+1,s'))∧Inv (p++ [x]) s'
   | .inr q=>adY P ap h0 nt b (st (p.length,s)) (e q) (out q))
  (hend:∀ s,Inv L s→adY P ap h0 nt b (st (L.length,s)) (e (fin s)) (out (fin s))):
  ∀ (r p:List α) (s:σ),L=p++r→Inv p s→aea P ap h0 nt b e st out (p.length,s) (AM.goL F fin r s):=by
 intro r
 induction r with
 |nil=>
  intro p s h hi
  rw [List.append_nil] at h
  subst h
  exact .done (hend s hi)
 | cons x r ih=>
  intro p s h hi
  have h1:=hstep p x r s h hi
  simp only [AM.goL]
  cases hF:F s x with
  |inl s'=>
   rw [hF] at h1
   have h2:=ih (p++ [x]) s' (by rw [h];simp) h1.2
   rw [List.length_append,List.length_singleton] at h2
   exact .next h1.1 h2
  |inr q=>
   rw [hF] at h1
   exact .done h1
end AM
namespace AM
open Go Go.WideShapes Go.ChangeShapes
theorem aF2 {a:Addr} (h:a.spot=none) (n:Nat):a.add n=⟨a.block,a.off+n,none⟩:=by
 unfold Addr.add
 obtain ⟨b,o,s⟩:=a
 simp only at h
 subst h
 split
 ·rename_i hn;subst hn;rfl
 ·rfl
section
variable {H:Type} {enc:TypeId × Value→H} {P:Program} {w:World} {base:Nat} {spare:Nat→Bool} {held:Bool}
theorem aH1 {S:anR} {ks:List LK}:∀ (L:List (List Value)),(∀ x ∈ L,avx ks x)→PRL S (L.flatMap fun x=>x.map ayL) L.flatten
 | [],_=>by simp [PRL]
 |x::r,h=>by
  rw [List.flatMap_cons,List.flatten_cons]
  exact ax1 (avx.pr (h x (by simp))) (aH1 r fun y hy=>h y (by simp [hy]))
theorem aPf {ks:List LK}:∀ (L:List (List Value)),(∀ x ∈ L,avx ks x)→∀ u ∈ L.flatten,u.oneCell'=true:=by
 intro L h u hu
 obtain ⟨x,hx,hu⟩:=List.mem_flatten.1 hu
 exact avx.one (h x hx) u hu
theorem a0L {t e:TypeId} {n base':Nat} {ks:List LK} (ht:P.underlying t=some (.slice e)) (hk:aGk P n e=some ks) (hc:P.cellsOf e=ks.length) {v:Value} {d:DataW H} {p:List MemPlace}
  (hv:Value.okWide P w .any base' t v) (h:DataW.Trod enc P w base spare held t v d p):∃ L:List (List Value),(∀ x ∈ L,avx ks x)∧PR (ayW w) (.sl (L.flatMap fun x=>x.map ayL) L.length false) v:=by
 obtain ⟨a0,len,cap,rfl⟩:=okWide_slice ht hv
 obtain ⟨fuel,h⟩:=h
 rcases DataW.trod_slice ht h with ⟨hcs,_⟩|⟨a,len',cap',elems,rest,m,_,hcs,_,_,hl,hm,hlen,hel,_,_⟩
 ·have:a0=none∧len=0∧cap=0:=by simpa [Value.cells] using hcs
  obtain ⟨rfl,rfl,rfl⟩:=this
  refine ⟨[],by simp, ?_⟩
  simp only [PR]
  exact ⟨none,0,rfl,Nat.le_refl _,.inl (by simp)⟩
 ·have:a0=some a∧len=len'∧cap=cap':=by simpa [Value.cells] using hcs
  obtain ⟨rfl,rfl,rfl⟩:=this
  have hspot:a.spot=none:=by
   simp only [Value.okWide,ht,Cell.okWide,Cell.ok] at hv
   exact hv.2.2.2.1
  have key:∀ q,q≤len→∃ L:List (List Value),L.length=q∧(∀ x ∈ L,avx ks x)∧L.flatten.length=q*ks.length∧∀ j u,L.flatten[j]? =some u→ayW w a.block (a.off+j)=some u:=by
   intro q
   induction q with
   |zero=>intro _;exact ⟨[],rfl,by simp,by simp,by simp⟩
   | succ q ih=>
    intro hq
    obtain ⟨L,h1,h2,h3,h4⟩:=ih (by omega)
    have h5:=hel q (by omega)
    rw [List.getElem?_eq_getElem (by omega)] at h5
    obtain ⟨cs',h6,h7⟩:=Option.bind_eq_some_iff.1 h5
    have h8:=aMg n e ks hk _ _ _ h7
    obtain ⟨_,h9,h10⟩:=World.cells?_some h6
    refine ⟨L++ [cs'],by simp [h1], ?_, ?_, ?_⟩
    ·intro x hx
     rcases List.mem_append.1 hx with hx|hx
     ·exact h2 x hx
     ·simp at hx;subst hx;exact h8
    ·rw [List.flatten_append,List.length_append,h3]
     have:=h8.length
     simp only [List.flatten_cons,List.flatten_nil,List.append_nil]
     rw [← this,Nat.succ_mul]
    ·intro j u hj
     rw [List.flatten_append,List.getElem?_append] at hj
     split at hj
     ·exact h4 j u hj
     ·rename_i hjl
      simp only [List.flatten_cons,List.flatten_nil,List.append_nil] at hj
      have h11:=(List.getElem?_eq_some_iff.1 hj).1
      have h12:=h10 (j - L.flatten.length) (by omega)
      rw [hj,aF2 hspot,aF2 rfl] at h12
      refine aGS ?_ (avx.one h8 u (List.mem_of_getElem? hj))
      rw [← h12,h3,hc]
      congr 2
      have:q*ks.length≤j:=by rw [← h3];omega
      simp only
      omega
  obtain ⟨L,h1,h2,h3,h4⟩:=key len (Nat.le_refl _)
  refine ⟨L,h2, ?_⟩
  simp only [PR]
  refine ⟨some a,cap,by rw [h1],by rw [h1];exact hl,.inr ⟨a.block,a.off,L.flatten, ?_,aH1 L h2,fun j u hj=> ⟨h4 j u hj,aPf L h2 u (List.mem_of_getElem? hj)⟩⟩⟩
  obtain ⟨b,o,s⟩:=a
  simp only at hspot
  subst hspot
  rfl
theorem aWC {α:Type} (f:α→List AV) {L:List (List Value)} (h:∀ x ∈ L,∃ a,x.map ayL=f a):∃ l:List α,(L.flatMap fun x=>x.map ayL)=l.flatMap f∧L.length=l.length:=by
 induction L with
 |nil=>exact ⟨[],rfl,rfl⟩
 |cons x r ih=>
  obtain ⟨a,ha⟩:=h x (by simp)
  obtain ⟨l,h1,h2⟩:=ih fun y hy=>h y (by simp [hy])
  exact ⟨a::l,by rw [List.flatMap_cons,List.flatMap_cons,ha,h1],by simp [h2]⟩
end
end AM
namespace AM
open Go
section
variable {P:Program} {ap:AP}
theorem adY.ahead {h0:List Blk} {nt:Nat} {code:Code} {e:an_} {s2:St} (b:Nat) (B:Blk) {en en':Env} {hp hp':Hp} (hy:adY P ap h0 nt code ⟨en',hp',.dead,[]⟩ e s2) (hb0:h0.length≤b) (hpr:B.pr=true)
  (henv:aMf b B en' (Env.get en)) (hhp:hpZ b B hp' hp):adY P ap h0 nt code {env:=en,hp,md:= .dead,dfs:= []} e s2:=by
 intro _
 obtain ⟨h5,h6⟩:=hy rfl
 refine ⟨h5,fun m0 S0 w0 m S w a hfr hF Q hQ=> ?_⟩
 obtain ⟨S2,h7,h8⟩:=aIr (r:={env:=en,hp,md:= .dead,dfs:= []}) (r':=⟨en',hp',.dead,[]⟩) b B hb0 (aB4 hhp) hpr rfl (ayE henv) (aDG hhp) (aDF hhp) hfr hF
 exact h6 m0 S0 w0 m S2 w a h7 h8 Q hQ
end
end AM
namespace AM
open Go
section
variable {P:Program} {ap:AP} {H:aug}
def ayR (r:Rec):Rec:={r with rb:= []}
theorem aEg {D:Nat→Bool}:∀ (rs:List Rec) (i j:Nat) (e:Env) (r:Rec),rs[i]? =some r→axE D j e (rs.set i (ayR r))=axE D j e rs
 | [],i,j,e,r,h=>by simp at h
 |x::rs,0,j,e,r,h=>by
  have h:x=r:=by simpa using h
  subst h;rfl
 |x::rs,i+1,j,e,r,h=>by
  simp only [List.set_cons_succ,axE]
  exact aEg rs i (j+1) _ r (by simpa using h)
theorem aHl {D:Nat→Bool}:∀ (rs:List Rec) (i j:Nat) (e:Hp) (r:Rec),rs[i]? =some r→hpD D j e (rs.set i (ayR r))=hpD D j e rs
 | [],i,j,e,r,h=>by simp at h
 |x::rs,0,j,e,r,h=>by
  have h:x=r:=by simpa using h
  subst h;rfl
 |x::rs,i+1,j,e,r,h=>by
  simp only [List.set_cons_succ,hpD]
  exact aHl rs i (j+1) _ r (by simpa using h)
theorem aGL (rs:List Rec) (i k:Nat) (r:Rec) (h:rs[i]? =some r):(rs.set i (ayR r)).take k=rs.take k∨((rs.take k)[i]? =some r∧(rs.set i (ayR r)).take k=(rs.take k).set i (ayR r)):=by
 by_cases hk:i<k
 ·right
  refine ⟨by rw [List.getElem?_take,if_pos hk];exact h, ?_⟩
  rw [List.take_set]
 ·left
  rw [List.take_set,List.set_eq_of_length_le]
  rw [List.length_take];omega
theorem aGg (rs:List Rec) (i k:Nat) (e:Env) (r:Rec) (h:rs[i]? =some r):ayq e ((rs.set i (ayR r)).take k)=ayq e (rs.take k):=by
 rcases aGL rs i k r h with h1|⟨h1,h2⟩
 ·rw [h1]
 ·rw [h2];exact aEg _ _ _ _ _ h1
theorem aOo (rs:List Rec) (i k:Nat) (e:Hp) (r:Rec) (h:rs[i]? =some r):hpL e ((rs.set i (ayR r)).take k)=hpL e (rs.take k):=by
 rcases aGL rs i k r h with h1|⟨h1,h2⟩
 ·rw [h1]
 ·rw [h2];exact aHl _ _ _ _ _ h1
def aGO:Hp→Nat→List Blk
 | [],_=> []
 |(b,B)::r,t=>match Nat.beq b t with|true=>B::aGO r t|false=>aGO r t
theorem aGP {b:Nat} {B:Blk}:∀ {hp:Hp},(b,B) ∈ hp→B ∈ aGO hp b
 | (c,C)::r,h=>by
  simp only [aGO]
  rcases List.mem_cons.1 h with h|h
  ·cases h
   rw [Nat.beq_refl];exact List.mem_cons_self
  ·have ih:=aGP h
   split
   ·exact List.mem_cons_of_mem _ ih
   ·exact ih
theorem aK_ {D D':Nat→Bool} (hD:∀ j,D j=true→D' j=true):∀ (rs:List Rec) (j:Nat) (h h':Hp),(∀ x ∈ h,x ∈ h')→∀ x ∈ hpD D j h rs,x ∈ hpD D' j h' rs
 | [],_,_,_,hs=>hs
 | r::rs,j,h,h',hs=>by
  simp only [hpD]
  refine aK_ hD rs (j+1) _ _ ?_
  intro x hx
  cases hd:D j with
  |true=>
   rw [hd] at hx
   rw [hD j hd]
   rcases List.mem_append.1 hx with hx|hx
   ·exact List.mem_append.2 (.inl hx)
   ·exact List.mem_append.2 (.inr (hs x hx))
  |false=>
   rw [hd] at hx
   cases D' j with
   |true=>exact List.mem_append.2 (.inr (hs x hx))
   |false=>exact hs x hx
def aAP (D:Nat→Bool):List aBf→Hp→Hp
 | [],hp=>hp
 |F::r,hp=>match D r.length with
  |true=>hp.take F.wb.length++aAP D r (hp.drop F.wb.length)
  |false=>aAP D r (hp.drop F.wb.length)
theorem aEr {D:Nat→Bool}:∀ (rs:List Rec) (j:Nat) (h:Hp) (r:Rec),hpD D j h (rs++ [r])=match D (j+rs.length) with|true=>r.ups++hpD D j h rs|false=>hpD D j h rs
 | [],j,h,r=>by
  simp only [List.nil_append,hpD,List.length_nil,Nat.add_zero]
  cases D j<;>rfl
 |x::rs,j,h,r=>by
  simp only [List.cons_append,hpD]
  rw [aEr rs (j+1) _ r]
  rw [show j+1+rs.length=j+(x::rs).length by simp;omega]
theorem aFl {D:Nat→Bool} (h:Hp):∀ (l:List Rec),aAP D (l.map Rec.foot) (hpL h l.reverse)=hpD D 0 h l.reverse
 | []=>rfl
 | r::l=>by
  have e:hpL h (r::l).reverse=r.ups++hpL h l.reverse:=by
   unfold hpL
   rw [List.reverse_cons,aEr]
  have ew:(Rec.foot r).wb.length=r.ups.length:=by simp [Rec.foot]
  rw [e,List.reverse_cons,aEr]
  simp only [List.map_cons,aAP,ew,List.length_map,List.take_left,List.drop_left,List.length_reverse,Nat.zero_add]
  rw [aFl h l]
theorem aIt {D:Nat→Bool} {b:Nat}:∀ (rs:List Rec) (j:Nat) (h:Hp),(∃ B,ad9 h b=some B)→∃ B,ad9 (hpD D j h rs) b=some B
 | [],_,_,hs=>hs
 | r ::rs,j,h,hs=>by
  simp only [hpD]
  refine aIt rs (j+1) _ ?_
  cases D j with
  |false=>exact hs
  | true=>
   by_cases hm:b ∈ r.ups.map (·.1)
   ·obtain ⟨B,hB⟩:=aAk hm
    exact ⟨B,by
     rw [avU,hB]⟩
   ·rw [azz hm];exact hs
inductive aDX (P:Program) (ap:AP) (H:aug) (n:Nat) (ops:List Oper) (o:Oper) (b d:Nat) (rt:List Nat) (env:Env) (v:AV):List Blk→Prop where
 |nil:aDX P ap H n ops o b d rt env v []
 | cons {B:Blk} {r:List Blk} {c2 c3:Cx} {t:RS}:aI8 ap H n ops o {env,hp:= [(b,B)],md:= .dead,dfs:= [],dec:= [],feet:= []} c2= .ok (t,none) c3→c3.Ok→t.feet= [{rt:=rt,wt:= [d],rb:= [b],wb:= []}]→t.dfs= []→t.env.get d=v→
   aDX P ap H n ops o b d rt env v r→aDX P ap H n ops o b d rt env v (B::r)
theorem aDX.sem (hap:awf P ap) (hH:awU P ap H) {n:Nat} {ops:List Oper} {o:Oper} {b d:Nat} {rt:List Nat} {env:Env} {v:AV} {l:List Blk} (hd:o.dst=some d) (h:aDX P ap H n ops o b d rt env v l):∀ B ∈ l,aGW P ap ops.toArray o n env [(b,B)] rt [b] v [] [] none:=by
 induction h with
 |nil=>intro B hB;simp at hB
 | @cons B r c2 c3 t he hc hft hdf0 hvd _ ih=>
  intro B' hB'
  rcases List.mem_cons.1 hB' with rfl|hB'
  ·obtain ⟨_,hs⟩:=azK hap hH he hc
   obtain ⟨v2,rb,ups,df,hs⟩:=hs rfl (fun t b hb=>by cases hb)
   have hf:=hs.feet rfl
   rw [hft] at hf
   simp only [List.cons.injEq,aBf.mk.injEq,and_true] at hf
   obtain ⟨hrt,_,hrb,hwb⟩:=hf
   have hups:ups= []:=by
    cases ups with
    |nil=>rfl
    |cons _ _=>simp at hwb
   have hdf:df= []:=by
    have:=hs.dfs
    rw [hdf0] at this
    simpa using this.symm
   have hv:v2=v:=by
    have:=hs.env rfl
    rw [this,hd,awr] at hvd
    exact hvd
   have:=hs.sem
   rw [← hrt,← hrb,hups,hdf,hv] at this
   exact this
  ·exact ih B' hB'
theorem aMb (hap:awf P ap) (hmix:P.follows .mixedOrders=true) (hH:awU P ap H) {ops:List Oper} {nt:Nat} {h0:List Blk} (keep:List Nat) {id:Nat} (hnt:∀ o ∈ ops,∀ d,o.dst=some d→d<nt) {s:St} {s1:RS} {c c':Cx} (i b d:Nat) (o:Oper) (rt:List Nat) (v:AV) (L:List Blk)
  (e1:azL ap H ops ops (av3 s.hp) {env:=s.env,hp:=s.hp,md:=s.md,dfs:=s.dfs,dec:= [],feet:= []} c= .ok (s1,none) c') (hc:c'.Ok)
  (hoi:ops[i]? =some o) (hod:o.dst=some d) (hft:s1.feet.reverse[i]? =some {rt:=rt,wt:= [d],rb:= [b],wb:= []})
  (hord:aAn (av3 s.hp) (Region.before ops.toArray).toList (s1.feet.reverse.set i {rt:=rt,wt:= [d],rb:= [],wb:= []}).reverse=true) (hback:azx ops=true) (hdl:s1.dfs.length=s.dfs.length)
  (hlate:∀ k o',i<k→ops[k]? =some o'→∀ x,o'.dst=some x→x ≠ d∧x ∉ rt) (hdr:d ∉ rt)
  (hv:s1.env.get d=v) (hb:∃ B,ad9 s.hp b=some B) (hL:aGO (aAP (fun k=> !(((Region.before ops.toArray).toList.getD k 0).testBit i)) s1.feet s1.hp) b=L) (hst:aDX P ap H (av3 s.hp+4*i) ops o b d rt s1.env v L):
  adY P ap h0 nt (.region id ops.toArray true) s .normal (norm h0.length keep ⟨s1.env,s1.hp,s1.md,s1.dfs⟩):=by
 intro hmd
 have hn0:∀ b B,ad9 s.hp b=some B→b<av3 s.hp:=fun b B hb=>azh hb
 obtain ⟨_,hs⟩:=aPX hap hH ops 0 _ _ _ _ _ e1 hc
 obtain ⟨h1,recs,hlen,htr⟩:=hs hmd (fun t b hb=>by cases hb) rfl
 refine ⟨h1,fun m0 S0 w0 m S w a hfr hF Q hQ=>wp_region_any hmix ?_⟩
 have hdl':s1.dfs.length=s.dfs.length:=hdl
 have hdf:=(htr.sem hdl').1
 have hil:i<recs.length:=by rw [hlen];exact (List.getElem?_eq_some_iff.1 hoi).1
 have hri:recs[i]? =some recs[i]:=List.getElem?_eq_getElem hil
 have hfeet:s1.feet.reverse=recs.map Rec.foot:=by rw [htr.feet,List.append_nil,List.reverse_reverse]
 rw [hfeet] at hft hord
 rw [List.getElem?_map,hri,Option.map_some,Option.some.injEq] at hft
 generalize recs[i]=r at hri hft
 have hft':=hft
 simp only [Rec.foot,aBf.mk.injEq] at hft'
 obtain ⟨hrt,hwt,hrb,hups⟩:=hft'
 have hups:r.ups= []:=by
  cases hu:r.ups with
  |nil=>rfl
  |cons _ _=>rw [hu] at hups;simp at hups
 have hset:(recs.map Rec.foot).set i {rt:=rt,wt:= [d],rb:= [],wb:= []}=(recs.set i (ayR r)).map Rec.foot:=by
  rw [List.map_set]
  congr 1
  simp only [Rec.foot,ayR,aBf.mk.injEq]
  exact ⟨hrt.symm,hwt.symm,trivial,by rw [hups];rfl⟩
 rw [hset] at hord
 have hD0:dOf (Array.replicate ops.length false)=fun _=>false:=by
  funext k
  simp only [dOf,Array.getD_eq_getD_getElem?]
  by_cases hk:k<ops.length<;>simp [hk]
 have hsz:ops.toArray.size=ops.length:=by simp
 rw [hsz]
 have hpE:∀ D,hpD D 0 s.hp (recs.set i (ayR r))=hpD D 0 s.hp recs:=fun D=>aHl recs i 0 s.hp r hri
 have enE:∀ D,axE D 0 s.env (recs.set i (ayR r))=axE D 0 s.env recs:=fun D=>aEg recs i 0 s.env r hri
 have hget:∀ k,k ≠ i→(recs.set i (ayR r))[k]? =recs[k]? :=fun k hk=>List.getElem?_set_ne (Ne.symm hk)
 have hgeti:(recs.set i (ayR r))[i]? =some (ayR r):=List.getElem?_set_self hil
 have hdsto:∀ (k:Nat) (q:Rec),recs[k]? =some q→∃ o':Oper,ops[k]? =some o'∧q.dst=o'.dst:=by
  intro k q hk
  obtain ⟨o',h2,h3,_⟩:=(htr.sem hdl').2 k q hk
  exact ⟨o',by rw [← h2,Nat.zero_add],h3⟩
 have hrd:r.dst=some d:=by
  obtain ⟨o',h2,h3⟩:=hdsto i r hri
  rw [hoi] at h2;cases h2
  rw [h3,hod]
 have hrv:r.v=v:=by
  have e2:(ayq s.env recs).get d=(ayq s.env (recs.take (i+1))).get d:=by
   rw [← aBW]
   refine ax7 recs 0 _ _ rfl fun k q hk hd=> ?_
   rw [Nat.zero_add]
   by_cases hki:i<k
   ·obtain ⟨o',h2,h3⟩:=hdsto k q hk
    exact absurd rfl (hlate k o' hki h2 d (h3 ▸ hd)).1
   ·simp;omega
  have e3:s1.env.get d=v:=hv
  rw [htr.env] at e3
  rw [show (ayq s.env recs).get d=(ayq s.env recs).get d from rfl,e2,aGh _ _ _ _ hri,hrd,awr] at e3
  exact e3
 have hrte:∀ t ∈ rt,(ayq s.env (recs.take i)).get t=s1.env.get t:=by
  intro t ht
  rw [htr.env,← aBW]
  refine ax7 recs 0 _ _ rfl fun k q hk hd=> ?_
  rw [Nat.zero_add]
  rcases Nat.lt_trichotomy k i with h|h|h
  ·simp [h]
  ·subst h
   rw [hri] at hk;cases hk
   rw [hrd] at hd;cases hd
   exact absurd ht hdr
  ·obtain ⟨o',h2,h3⟩:=hdsto k q hk
   exact absurd ht (hlate k o' h h2 t (h3 ▸ hd)).2
 refine aIm (P:=P) (ap:=ap) (s:={env:=s.env,hp:=s.hp,md:=s.md,dfs:=s.dfs,dec:= [],feet:= []}) (recs:=recs.set i (ayR r)) hnt (by rw [List.length_set];exact hlen) ?_ ?_ (aEW hord) hback hn0 (m0:=m) (S0:=S) (w0:=w) (Q:=Q) ?_ ops.length _ m S _ a ⟨by simp, ?_, ?_, ?_⟩ ?_
 ·intro k q hk x hx
  by_cases hki:k=i
  ·subst hki
   rw [hgeti] at hk;cases hk
   rw [show (ayR r).ups=r.ups from rfl,hups] at hx
   simp at hx
  ·rw [hget k hki] at hk
   have:=htr.bound k q hk x hx
   omega
 ·intro k q hk
  by_cases hki:k=i
  ·subst hki
   rw [hgeti] at hk;cases hk
   refine ⟨o,hoi,by rw [← hod] at hrd;exact hrd, ?_⟩
   intro D m2 S2 w2 a2 hS hvr _ hfr2 hnb Q2 K hA
   dsimp only at hS hvr hfr2 hA
   rw [hpE] at hS hvr hfr2 hA
   obtain ⟨B,hB⟩:=aIt (D:=D) recs 0 s.hp hb
   have hBm:B ∈ L:=by
    have e4:=aFl (D:=fun j=> !(((Region.before ops.toArray).toList.getD j 0).testBit k)) s.hp recs.reverse
    rw [List.reverse_reverse,List.map_reverse] at e4
    rw [← hL,htr.hp,htr.feet,List.append_nil]
    rw [e4]
    refine aGP (aK_ (D:=D) (fun j hj=> ?_) recs 0 s.hp s.hp (fun _ h=>h) _ (aCD hB))
    cases hb2:((Region.before ops.toArray).toList.getD j 0).testBit k with
    |false=>rfl
    |true=>rw [hnb j hb2] at hj;cases hj
   have hsem:=hst.sem hap hH hod B hBm
   rw [show (ayR r).v=r.v from rfl,hrv,show (ayR r).ups=r.ups from rfl,hups] at hA
   refine hsem _ m2 S2 w2 a2 hS (fun t ht=> ?_) (fun x hx B2 hB2=> ?_) hfr2 Q2 K hA
   ·have h2:=hvr t (by rw [show (ayR r).rt=r.rt from rfl,hrt];exact ht)
    rw [aGg recs k k s.env r hri,hrte t ht] at h2
    exact h2
   ·rw [List.mem_singleton] at hx
    subst hx
    simp only [ad9,Nat.beq_refl,Option.some.injEq] at hB2
    subst hB2
    exact hB
  ·rw [hget k hki] at hk
   obtain ⟨o',h2,h3,hsem⟩:=(htr.sem hdl').2 k q hk
   rw [Nat.zero_add] at h2
   refine ⟨o',h2,h3, ?_⟩
   intro D m2 S2 w2 a2 hS hvr hag hfr2 _ Q2 K hA
   dsimp only at hS hvr hag hfr2 hA
   rw [hpE] at hS hvr hag hfr2 hA
   rw [aGg recs i k s.env r hri] at hvr
   rw [aOo recs i k s.hp r hri] at hag
   exact hsem _ m2 S2 w2 a2 hS hvr (fun x hx B hB=>by rw [← hag x hx];exact hB) hfr2 Q2 K hA
 ·intro m' S' w' a' h3 h4
  dsimp only at h3 h4
  have e5:hpL s.hp (recs.set i (ayR r))=hpL s.hp recs:=hpE _
  have e6:ayq s.env (recs.set i (ayR r))=ayq s.env recs:=enE _
  rw [e5] at h3 h4
  rw [e6] at h4
  have h5:Fr (an3 h0) m0 S0 w0 (ad9 s1.hp) m' S' w':=by
   rw [htr.hp];exact hfr.trans h3
  have h6:FR ap s1.env s1.hp s1.dfs nt m' S' w' a':=by
   rw [htr.hp,htr.env,hdf];exact h4
  obtain ⟨m2,h7,h8⟩:=ayf (keep:=keep) (s:=⟨s1.env,s1.hp,s1.md,s1.dfs⟩) h5 h6
  exact hQ m2 S' w' a' h7 h8
 ·intro k o hk hd
  rw [hD0] at hd;cases hd
 ·dsimp only
  rw [hD0,aya _ 0 _ (fun _ _=>rfl)]
  exact ⟨Ge.refl _ _,SLe.refl _,rfl,rfl,rfl,Nat.le_refl _,fun _ _ _=>rfl,fun _ B h=> .inr ⟨B,h,rfl⟩,fun _ _ _ h=> .inl h⟩
 ·dsimp only
  rw [hD0,aya _ 0 _ (fun _ _=>rfl),aAE _ 0 _ (fun _ _=>rfl)]
  exact ⟨⟨hF.srel.inj,fun b B hb=>hF.srel.blk b B hb|>fun ⟨h1,h2,h3⟩=> ⟨h1,h2,h3⟩,hF.srel.sealed,hF.srel.own,hF.srel.glob⟩,hF.env,hF.dfs,hF.size⟩
 ·simp only [aDI]
  exact Nat.le_trans (List.length_filter_le _ _) (by simp)
def aDn:List Nat→List Nat→Bool
 | [],[]=>true
 |a::r,b::q=>Nat.beq a b && aDn r q
 |_,_=>false
theorem ayC:∀ {l r:List Nat},aDn l r=true→l=r
 | [],[],_=>rfl
 |a::r,b::q,h=>by
  simp only [aDn,Bool.and_eq_true] at h
  rw [anN h.1,ayC h.2]
 | [],_::_,h=>by simp [aDn] at h
 |_::_,[],h=>by simp [aDn] at h
def aLD (ap:AP) (H:aug) (n:Nat) (ops:List Oper) (o:Oper) (b d:Nat) (rt:List Nat) (env:Env) (v:AV):List Blk→Option (List Prop)
 | []=>some []
 | B ::r=>match aI8 ap H n ops o {env,hp:= [(b,B)],md:= .dead,dfs:= [],dec:= [],feet:= []} ⟨true,[],[],[],[],[]⟩ with
  | .ok (t,none) c3=>match t.feet,t.dfs,c3.bs,c3.ps with
   | [F],[],[],[]=>match aDn F.rt rt && aDn F.wt [d] && aDn F.rb [b] && aDn F.wb [] with
    |true=>match aLD ap H n ops o b d rt env v r with
     |some l=>some ((t.env.get d=v)::l)
     |none=>none
    |false=>none
   |_,_,_,_=>none
  |_=>none
theorem aI7 {n:Nat} {ops:List Oper} {o:Oper} {b d:Nat} {rt:List Nat} {env:Env} {v:AV}:∀ {L:List Blk} {l:List Prop},aLD ap H n ops o b d rt env v L=some l→(∀ p ∈ l,p)→aDX P ap H n ops o b d rt env v L
 | [],_,_,_=> .nil
 | B ::r,l,h,hl=>by
  simp only [aLD] at h
  split at h
  ·rename_i t c3 he
   split at h
   ·rename_i F h1 h2 h3 h4
    split at h
    ·rename_i hc
     simp only [Bool.and_eq_true] at hc
     split at h
     ·rename_i l' hr
      cases h
      refine .cons he ⟨by rw [h3];simp,by rw [h4];simp⟩ ?_ h2 (hl _ (by simp)) (aI7 hr fun p hp=>hl p (by simp [hp]))
      rw [h1,← ayC hc.1.1.1,← ayC hc.1.1.2,← ayC hc.1.2,← ayC hc.2]
     ·cases h
    ·cases h
   ·cases h
  ·cases h
def aHN (ap:AP) (H:aug) (base:Nat) (keep:List Nat) (nt0 i b d:Nat) (code:Code) (s:St) (c:Cx):R St:=
 match code with
 | .region _ opsA true=>
  (azL ap H opsA.toList opsA.toList (av3 s.hp) {env:=s.env,hp:=s.hp,md:=s.md,dfs:=s.dfs,dec:= [],feet:= []} c).bind fun (s1,p) c=>
  match p with
  |some _=> .bad 1
  |none=>
  match opsA.toList[i]?,s1.feet.reverse[i]? with
  | some o,some F=>
   match (match o.dst with|some d'=>Nat.beq d' d|none=>false) && aDn F.wt [d] && aDn F.rb [b] && aDn F.wb [] && aAn (av3 s.hp) (Region.before opsA).toList (s1.feet.reverse.set i {rt:=F.rt,wt:= [d],rb:= [],wb:= []}).reverse && azx opsA.toList && Nat.beq s1.dfs.length s.dfs.length
    && (opsA.toList.drop (i+1)).all (fun o'=>match o'.dst with|some x=> !(Nat.beq x d) && !(ayQ F.rt x)|none=>true) && !(ayQ F.rt d) && (ad9 s.hp b).isSome && opsA.toList.all (aGf nt0) with
   |true=>match aLD ap H (av3 s.hp+4*i) opsA.toList o b d F.rt s1.env (s1.env.get d) (aGO (aAP (fun k=> !(((Region.before opsA).toList.getD k 0).testBit i)) s1.feet s1.hp) b) with
    |some l=> .ok (norm base keep ⟨s1.env,s1.hp,s1.md,s1.dfs⟩) {c with ps:=l++c.ps}
    |none=> .bad 3
   |false=> .bad 2
  |_,_=> .bad 4
 |_=> .bad 5
theorem aKF (hap:awf P ap) (hmix:P.follows .mixedOrders=true) (hH:awU P ap H) {h0:List Blk} {keep:List Nat} {nt nt0 i b d:Nat} {code:Code} {s s':St} {c c':Cx} (hn:nt0≤nt) (h:aHN ap H h0.length keep nt0 i b d code s c= .ok s' c') (hc:c'.Ok):adY P ap h0 nt code s .normal s':=by
 unfold aHN at h
 split at h
 ·rename_i id opsA
  obtain ⟨⟨s1,p⟩,c1,e1,h⟩:=R.bind_ok h
  dsimp only at h
  split at h
  ·cases h
  ·split at h
   ·rename_i o F ho hF
    split at h
    ·rename_i hcond
     split at h
     ·rename_i l hl
      cases h
      simp only [Bool.and_eq_true] at hcond
      obtain ⟨⟨⟨⟨⟨⟨⟨⟨⟨⟨q1,q2⟩,q3⟩,q4⟩,q5⟩,q6⟩,q7⟩,q8⟩,q9⟩,q10⟩,q11⟩:=hcond
      have hod:o.dst=some d:=by
       split at q1
       ·rename_i d' hd';rw [hd',anN q1]
       ·cases q1
      have hFe:F={rt:=F.rt,wt:= [d],rb:= [b],wb:= []}:=by
       rw [← ayC q2,← ayC q3,← ayC q4]
      have hops:opsA.toList.toArray=opsA:=by simp
      have key:=aMb (nt:=nt) (h0:=h0) hap hmix hH keep (id:=id) (ops:=opsA.toList) (fun o' ho' x hx=>by
        have:=List.all_eq_true.1 q11 o' ho'
        simp only [aGf,hx] at this
        exact Nat.lt_of_lt_of_le (avv this) hn) i b d o F.rt (s1.env.get d) _ e1 ⟨hc.bs,fun p hp=>hc.ps p (by simp [hp])⟩ ho hod (by rw [hF,← hFe]) (by rw [hops];exact q5) q6 (anN q7) ?_ ?_ rfl (by simpa [Option.isSome_iff_exists] using q10) (by rw [hops]) (aI7 hl fun p hp=>hc.ps p (by simp [hp]))
      ·rw [hops] at key
       exact key
      ·intro k o' hk ho' x hx
       have hm:o' ∈ opsA.toList.drop (i+1):=by
        refine List.mem_of_getElem? (i:=k - (i+1)) ?_
        rw [List.getElem?_drop,show i+1+(k - (i+1))=k by omega]
        exact ho'
       have:=List.all_eq_true.1 q8 o' hm
       simp only [hx,Bool.and_eq_true,Bool.not_eq_true'] at this
       refine ⟨fun e=> ?_,fun e=> ?_⟩
       ·subst e;rw [Nat.beq_refl] at this;cases this.1
       ·rw [awh.2 e] at this;cases this.2
      ·intro e
       rw [awh.2 e] at q9
       cases q9
     ·cases h
    ·cases h
   ·cases h
 ·cases h
end
theorem aDL {P:Program} {ap:AP} (g:aDU P ap) {h0:List Blk} {keep:List Nat} {nt nt0 i b d:Nat} {code:Code} {s s':St} {ans:List (Out × List Blk)} {ps:List Prop} (hp:aHY ps) (hn:nt0≤nt)
  (h:aHN ap (aBz P ap 3000 4) h0.length keep nt0 i b d code s ⟨true,[],[],[],ans,[]⟩= .ok s' ⟨true,[],[],ps,[],[]⟩):adY P ap h0 nt code s .normal s':=by
 obtain ⟨h1,_⟩:=axo g.apok g.mixed g.fnok 3000 4
 exact aKF g.apok g.mixed h1 hn h ⟨by simp,hp.mem⟩
end AM
