/- The abstract machine over the code of the model, and the proof that it is sound. No conditions. -/
import Derived.Test.YtpjkeigmiooooaaGreatDoorM4
import Derived.ChangeArms
import Derived.WideShapes
set_option linter.unusedSimpArgs false
set_option linter.unusedVariables false
namespace AM
open Go
structure Less (s s' : St) : Prop where
 env : ∀ t, s.env.get t = s'.env.get t ∨ s.env.get t = .dead
 hp : s.hp = s'.hp
 md : s.md = s'.md
 dfs : s.dfs = s'.dfs
theorem Less.refl (s : St) : Less s s := ⟨fun _ => .inl rfl, rfl, rfl, rfl⟩
def envIn : Env → (Nat → AV) → Prop
 | [], _ => True
 | (t, v) :: r, f => (f t = v) ∧ envIn r f
theorem get_of_envIn {f : Nat → AV} : ∀ {e : Env}, envIn e f → ∀ t, e.get t = f t ∨ e.get t = .dead
 | [], _, t => .inr rfl
 | (u, v) :: r, h, t => by
  simp only [envIn] at h
  simp only [Env.get, look]
  cases hb : Nat.beq u t with
  | true =>
   have := beq_nat hb
   subst this
   exact .inl h.1.symm
  | false => exact get_of_envIn h.2 t
theorem Less.of {e e' : Env} {hp : Hp} {md : AV} {dfs : List (Nat × List AV)} (h : envIn e e'.get) : Less { env := e, hp, md, dfs } { env := e', hp, md, dfs } := ⟨get_of_envIn h, rfl, rfl, rfl⟩
section
variable {P : Program} {ap : AP} {H : Handler}
theorem FR.less {s s' : St} (h : Less s s') {nt : Nat} {m : MapF} {S : SMap} {w : World} {a : Act} (hF : FR ap s'.env s'.hp s'.dfs nt m S w a) : FR ap s.env s.hp s.dfs nt m S w a := by
 refine ⟨h.hp ▸ hF.srel, fun t => ?_, ?_, hF.size⟩
 ·rcases h.env t with e | e
  ·rw [e, h.hp]; exact hF.env t
  ·rw [e]; simp [VR]
 ·rw [h.hp, h.dfs]; exact hF.dfs
theorem ExecOk.weak {h0 : List Blk} {nt : Nat} {code : Code} {s s' r r' : St} {e : AExit} (h : ExecOk P ap h0 nt code s e r) (hs : Less s s') (hr : Less r' r) : ExecOk P ap h0 nt code s' e r' := by
 intro hmd
 obtain ⟨h3, h4⟩ := h (hs.md ▸ hmd)
 refine ⟨hr.md ▸ h3, fun m0 S0 w0 m S w a hfr hF Q hQ => h4 m0 S0 w0 m S w a (by rw [hs.hp]; exact hfr) (hF.less hs) Q ?_⟩
 intro m' S' w' a' h5 h6
 have := hQ m' S' w' a' (by rw [hr.hp]; exact h5) (h6.less hr)
 cases e with
 | normal => exact this
 | exit id => exact this
 | ret => exact this
 | panic v => intro cv hcv; exact this cv (by rw [hr.hp]; exact hcv)
inductive LoopR (P : Program) (ap : AP) (h0 : List Blk) (nt : Nat) (b : Code) {α β : Type} (e : β → AExit) (st : α → St) (out : β → St) : α → β → Prop where
 | done {a : α} {r : β} : ExecOk P ap h0 nt b (st a) (e r) (out r) → LoopR P ap h0 nt b e st out a r
 | next {a a' : α} {r : β} : ExecOk P ap h0 nt b (st a) .normal (st a') → LoopR P ap h0 nt b e st out a' r → LoopR P ap h0 nt b e st out a r
theorem LoopR.rounds {h0 : List Blk} {nt : Nat} {b : Code} {α β : Type} {e : β → AExit} {st : α → St} {out : β → St} {a : α} {r : β} (hne : e r ≠ .normal) (h : LoopR P ap h0 nt b e st out a r) : (st a).md = .dead → (out r).md = .dead ∧ ∃ n, ∀ m0 S0 w0 m S w c, Fr (hpOf h0) m0 S0 w0 (look (st a).hp) m S w → FR ap (st a).env (st a).hp (st a).dfs nt m S w c → ∀ Q, XA ap h0 m0 S0 w0 nt (out r) (e r) Q → Code.rounds P b Q n c w := by
 induction h with
 | @done a r hx =>
  intro hmd
  obtain ⟨h3, h4⟩ := hx hmd
  refine ⟨h3, 1, fun m0 S0 w0 m S w c hfr hF Q hQ => h4 m0 S0 w0 m S w c hfr hF _ ?_⟩
  intro m' S' w' a' h5 h6
  have := hQ m' S' w' a' h5 h6
  revert hne this
  cases e r with
  | normal => intro hne _; exact absurd rfl hne
  | exit id => intro _ h; exact h
  | ret => intro _ h; exact h
  | panic v => intro _ h; exact h
 | next hx _ ih =>
  intro hmd
  obtain ⟨h3, h4⟩ := hx hmd
  obtain ⟨h5, n, h6⟩ := ih hne h3
  refine ⟨h5, n + 1, fun m0 S0 w0 m S w c hfr hF Q hQ => h4 m0 S0 w0 m S w c hfr hF _ ?_⟩
  intro m' S' w' a' h7 h8
  exact h6 m0 S0 w0 m' S' w' a' h7 h8 Q hQ
theorem LoopR.ok {h0 : List Blk} {nt : Nat} {b : Code} {α β : Type} {e : β → AExit} {st : α → St} {out : β → St} {a : α} {r : β} (hne : e r ≠ .normal) (h : LoopR P ap h0 nt b e st out a r) : ExecOk P ap h0 nt (.loop b) (st a) (e r) (out r) := by
 intro hmd
 obtain ⟨h3, n, h4⟩ := h.rounds hne hmd
 exact ⟨h3, fun m0 S0 w0 m S w c hfr hF Q hQ => wp_loop_rounds n (h4 m0 S0 w0 m S w c hfr hF Q hQ)⟩
theorem LoopR.blk {h0 : List Blk} {n id : Nat} {b : Code} {α β : Type} {e : β → AExit} {st : α → St} {out : β → St} {a : α} {r : β} {s s' : St} {e' : AExit} (h : ∀ nt, n ≤ nt → LoopR P ap h0 nt b e st out a r) (hne : e r ≠ .normal) (he : blkExit id (e r) = e') (hs : Less (st a) s) (hr : Less s' (out r)) : LoopOk P ap h0 n (.block id (.loop b)) s e' s' := by
 intro nt hn
 have h1 := ((h nt hn).ok hne).block (id := id)
 rw [he] at h1
 exact h1.weak hs hr
def blkBody (id : Nat) : Code → Option Code
 | .seq a b => match blkBody id a with | some c => some c | none => blkBody id b
 | .cond _ a b => match blkBody id a with | some c => some c | none => blkBody id b
 | .block i b => match Nat.beq i id with | true => some b | false => blkBody id b
 | .loop b => blkBody id b
 | .scope b => blkBody id b
 | _ => none
def loopBody (id : Nat) (c : Code) : Code := match blkBody id c with | some (.loop b) => b | _ => .skip
def regC (id : Nat) : Code → Code
 | .seq a b => match regC id a with | .region i o d => .region i o d | _ => regC id b
 | .cond _ a b => match regC id a with | .region i o d => .region i o d | _ => regC id b
 | .block _ b => regC id b
 | .loop b => regC id b
 | .scope b => regC id b
 | .region i o d => match Nat.beq i id with | true => .region i o d | false => .skip
 | _ => .skip
end
end AM
namespace AM
open Go
def FitsL (x y : List AV) : Prop := ∀ g m S v, VRL g m S x v → VRL g m S y v
def plainAV : AV → Bool
 | .own _ _ _ => false
 | .tup _ => false
 | _ => true
theorem Fits.refl (x : AV) : Fits x x := fun _ _ _ _ h => h
theorem FitsL.refl (x : List AV) : FitsL x x := fun _ _ _ _ h => h
theorem FitsL.nil : FitsL [] [] := FitsL.refl []
theorem FitsL.cons {x y : AV} {l r : List AV} (h : Fits x y) (h' : FitsL l r) : FitsL (x :: l) (y :: r) := by
 intro g m S v hv
 cases v with
 | nil => simp [VRL] at hv
 | cons u vs => simp only [VRL] at hv ⊢; exact ⟨h g m S u hv.1, h' g m S vs hv.2⟩
theorem Fits.nilS (nn : Bool) (h : nn = false) : Fits .nilS (.sl [] 0 nn) := by
 subst h
 intro g m S v hv
 simp only [VR, PR] at hv ⊢
 exact ⟨none, 0, hv, Nat.le_refl _, .inl (by simp)⟩
theorem Fits.sl (xs : List AV) (n : Nat) (a : Bool) : Fits (.sl xs n a) (.sl xs n false) := by
 intro g m S v hv
 simp only [VR, PR] at hv ⊢
 obtain ⟨a, cap, e, hle, q⟩ := hv
 refine ⟨a, cap, e, hle, ?_⟩
 rcases q with ⟨h1, _, h3⟩ | q
 ·exact .inl (by simp [h1, h3])
 ·exact .inr q
theorem Fits.dead (x : AV) : Fits x .dead := fun _ _ _ _ _ => by simp only [VR]
section
variable {P : Program} {ap : AP}
theorem CallOk.args {f : Nat} {args args' : List AV} {h h' : List Blk} {out : Out} (hf : FitsL args' args) (hc : CallOk P ap f args h out h') : CallOk P ap f args' h out h' :=
 ⟨hc.len, hc.ent, fun m S w cargs hS hv => hc.calls m S w cargs hS (hf _ _ _ _ hv)⟩
def OutLe (out out' : Out) : Prop := (∀ n, outB n out = outB n out') ∧ ∀ h' m' S' e, OutE h' m' S' out e → OutE h' m' S' out' e
theorem CallOk.out {f : Nat} {args : List AV} {h h' : List Blk} {out out' : Out} (ho : OutLe out out') (hc : CallOk P ap f args h out h') : CallOk P ap f args h out' h' :=
 ⟨hc.len, hc.ent, fun m S w cargs hS hv => (hc.calls m S w cargs hS hv).mono fun e w' ⟨m', S', hF⟩ => ⟨m', S', ho.1 _ ▸ hF.srel, ho.1 _ ▸ hF.fr, ho.2 _ _ _ _ hF.out⟩⟩
theorem plain_own {x : AV} (h : plainAV x = true) : ∀ xs k e, x ≠ .own xs k e := by intro xs k e he; subst he; cases h
theorem plain_tup {x : AV} (h : plainAV x = true) : ∀ l, x ≠ .tup l := by intro l he; subst he; cases h
theorem OutLe.ret {x y : AV} (hx : plainAV x = true) (hy : plainAV y = true) (h : Fits x y) : OutLe (.ret x) (.ret y) := by
 refine ⟨fun n => ?_, fun h' m' S' e he => ?_⟩
 ·simp only [outB, recv_other n (plain_own hx) (plain_tup hx), recv_other n (plain_own hy) (plain_tup hy)]
 ·obtain ⟨cv, e1, h1⟩ := he
  refine ⟨cv, e1, ?_⟩
  rw [OutV_other (plain_own hx) (plain_tup hx)] at h1
  rw [OutV_other (plain_own hy) (plain_tup hy)]
  exact h _ _ _ _ h1
inductive OutL : List AV → List AV → Prop where
 | nil : OutL [] []
 | same {x : AV} {l r : List AV} : OutL l r → OutL (x :: l) (x :: r)
 | fit {x y : AV} {l r : List AV} : plainAV x = true → plainAV y = true → Fits x y → OutL l r → OutL (x :: l) (y :: r)
theorem OutL.blocks {l r : List AV} (h : OutL l r) : ∀ n, (recvL n l).2 = (recvL n r).2 := by
 induction h with
 | nil => intro n; rfl
 | @same x l r _ ih =>
  intro n
  rcases own_or x with ⟨xs, k, e, rfl⟩ | hx
  ·simp only [recvL]; rw [ih]
  ·rw [recvL_cons_other n hx, recvL_cons_other n hx]; exact ih n
 | fit hx hy _ _ ih =>
  intro n
  rw [recvL_cons_other n (plain_own hx), recvL_cons_other n (plain_own hy)]
  exact ih n
theorem OutL.outR {gh gf : HpF} {m : MapF} {S : SMap} {l r : List AV} (h : OutL l r) : ∀ (n : Nat) (vs : List Value), OutR gh gf m S n l vs → OutR gh gf m S n r vs := by
 induction h with
 | nil => intro n vs hv; exact hv
 | @same x l r _ ih =>
  intro n vs hv
  cases vs with
  | nil => simp [OutR] at hv
  | cons v vs =>
   rcases own_or x with ⟨xs, k, e, rfl⟩ | hx
   ·simp only [OutR] at hv ⊢; exact ⟨hv.1, ih _ _ hv.2⟩
   ·rw [OutR_cons_other hx] at hv ⊢; exact ⟨hv.1, ih _ _ hv.2⟩
 | fit hx hy hf _ ih =>
  intro n vs hv
  cases vs with
  | nil => simp [OutR] at hv
  | cons v vs =>
   rw [OutR_cons_other (plain_own hx)] at hv
   rw [OutR_cons_other (plain_own hy)]
   exact ⟨hf _ _ _ _ hv.1, ih _ _ hv.2⟩
theorem OutLe.tup {l r : List AV} (h : OutL l r) : OutLe (.ret (.tup l)) (.ret (.tup r)) := by
 refine ⟨fun n => ?_, fun h' m' S' e he => ?_⟩
 ·simp only [outB, recv]; exact h.blocks n
 ·obtain ⟨cv, e1, h1⟩ := he
  refine ⟨cv, e1, ?_⟩
  simp only [OutV] at h1 ⊢
  obtain ⟨vs, e2, q⟩ := h1
  have hb : (recv h'.length (.tup l)).2 = (recv h'.length (.tup r)).2 := by simp only [recv]; exact h.blocks _
  refine ⟨vs, e2, ?_⟩
  rw [hb] at q
  exact h.outR _ _ q
end
end AM
namespace AM
open Go
def thaw : AV → AV
 | .own xs n e => .sl (xs.take (n * e)) n true
 | x => x
def thawO : Out → Out
 | .ret (.tup l) => .ret (.tup (l.map thaw))
 | .ret x => .ret (thaw x)
 | .pan v => .pan v
theorem thaw_other {x : AV} (h : ∀ xs k e, x ≠ .own xs k e) : thaw x = x := by
 cases x <;> first | rfl | exact absurd rfl (h _ _ _)
theorem thaw_not (x : AV) : ∀ xs k e, thaw x ≠ .own xs k e := by
 intro xs k e h
 cases x <;> simp [thaw] at h
theorem recvL_thaw : ∀ (l : List AV) (n : Nat), (recvL n (l.map thaw)).2 = []
 | [], _ => rfl
 | x :: r, n => by rw [List.map_cons, recvL_cons_other n (thaw_not x)]; exact recvL_thaw r n
section
variable {P : Program} {ap : AP}
theorem outR_thaw {gh gf g' : HpF} {m : MapF} {S S' : SMap} {w : World} (hS : SRel ap gf m S w) {rd : HpF} (hrd : ∀ b B, rd b = some B → gf b = some B) (hle : S' = sealUp S m rd w) (hother : ∀ x v, VR gh m S x v → VR g' m S' x v) :
  ∀ (l : List AV) (n : Nat) (vs : List Value), (∀ i B, (recvL n l).2[i]? = some B → rd (n + i) = some B) → OutR gh gf m S n l vs → OutR g' g' m S' n (l.map thaw) vs
 | [], n, vs, _, h => by cases vs with | nil => trivial | cons _ _ => simp [OutR] at h
 | x :: r, n, [], _, h => by
  exfalso
  rcases own_or x with ⟨xs, k, e, rfl⟩ | hx
  ·simp [OutR] at h
  ·cases x <;> simp [OutR] at h
 | x :: r, n, v :: vs, hb, h => by
  rcases own_or x with ⟨xs, k, e, rfl⟩ | hx
  ·simp only [OutR] at h
   simp only [recvL] at hb
   have h0 := hb 0 _ rfl
   rw [Nat.add_zero] at h0
   have hf : frz rd 6 (.ref n 0 0 k) = some (.sl (xs.take (k * e)) k true) := by
    simp [frz, h0, ownB]
   have h1 := frz_sound hS hrd 6 _ _ _ hf h.1
   rw [List.map_cons, OutR_cons_other (thaw_not _)]
   refine ⟨VR_of_PR _ (hle ▸ h1), ?_⟩
   have h2 := outR_thaw hS hrd hle hother r (n + 1) vs (fun i B hi => by rw [show n + 1 + i = n + (i + 1) by omega]; exact hb (i + 1) B (by simpa using hi)) h.2
   have key : ∀ (l : List AV) (a b : Nat) (vs : List Value), (∀ x ∈ l, ∀ xs k e, x ≠ .own xs k e) → OutR g' g' m S' a l vs → OutR g' g' m S' b l vs := by
    intro l
    induction l with
    | nil => intro a b vs _ h; cases vs with | nil => trivial | cons _ _ => simp [OutR] at h
    | cons y q ih =>
     intro a b vs hl h
     cases vs with
     | nil => cases y <;> simp [OutR] at h
     | cons u us =>
      have hy := hl y (by simp)
      rw [OutR_cons_other hy] at h ⊢
      exact ⟨h.1, ih a b us (fun x hx => hl x (by simp [hx])) h.2⟩
   refine key _ (n + 1) n vs ?_ h2
   intro y hy
   obtain ⟨z, _, rfl⟩ := List.mem_map.1 hy
   exact thaw_not z
  ·rw [OutR_cons_other hx] at h
   rw [recvL_cons_other n hx] at hb
   rw [List.map_cons, OutR_cons_other (thaw_not x), thaw_other hx]
   exact ⟨hother _ _ h.1, outR_thaw hS hrd hle hother r n vs hb h.2⟩
theorem CallOk.thaw {f : Nat} {args : List AV} {h h' : List Blk} {out : Out} (hp : ∀ B ∈ h', B.pr = true) (hc : CallOk P ap f args h out h') : CallOk P ap f args h (thawO out) h' := by
 refine ⟨hc.len, hc.ent, fun m S w cargs hS hv => (hc.calls m S w cargs hS hv).mono ?_⟩
 rintro e w' ⟨m', S', hF⟩
 obtain ⟨hsr, hfr, hout⟩ := hF
 have hB0 : ∀ n, outB n (thawO out) = [] := by
  intro n
  cases out with
  | pan v => rfl
  | ret x =>
   rcases tup_or x with ⟨l, rfl⟩ | ht
   ·simp only [thawO, outB, recv]; exact recvL_thaw l n
   ·have : thawO (.ret x) = .ret (AM.thaw x) := by cases x <;> first | rfl | exact absurd rfl (ht _)
    rw [this]
    simp only [outB]
    have hnt : ∀ l, AM.thaw x ≠ .tup l := by intro l hl; cases x <;> simp [AM.thaw] at hl; exact ht _ rfl
    rw [recv_other n (thaw_not x) hnt]
 let rd : HpF := fun b => if h'.length ≤ b then hpOf (h' ++ outB h'.length out) b else none
 have hrd : ∀ b B, rd b = some B → hpOf (h' ++ outB h'.length out) b = some B := by
  intro b B hb
  simp only [rd] at hb
  split at hb
  ·exact hb
  ·cases hb
 have hle := sealUp_le S' m' rd w'
 have hlow : ∀ b B, hpOf h' b = some B → hpOf (h' ++ outB h'.length out) b = some B := by
  intro b B hb
  have : b < h'.length := (List.getElem?_eq_some_iff.1 hb).1
  rw [hpOf_append_lt this]; exact hb
 have hother : ∀ x v, VR (hpOf h') m' S' x v → VR (hpOf (h' ++ outB h'.length (thawO out))) m' (sealUp S' m' rd w') x v := by
  intro x v hx
  rw [hB0, List.append_nil]
  exact VR_mono hle (Ge.refl _ _) x hx
 refine ⟨m', sealUp S' m' rd w', ?_, ?_, ?_⟩
 ·rw [hB0, List.append_nil]
  refine ⟨fun b b' B B' hb hb' => hsr.inj b b' B B' (hlow b B hb) (hlow b' B' hb'), ?_, fun k o v hv => sealUp_cell hsr hv, ?_, ?_⟩
  ·intro b B hb
   obtain ⟨⟨cur, e, vs, rest, h1, h2, h3, h4, h5, h6⟩, hz, hzl⟩ := hsr.blk b B (hlow b B hb)
   have hpr := hp B (List.mem_of_getElem? hb)
   refine ⟨⟨cur, e, vs, rest, h1, h2, fun _ => PRL_mono hle _ (h3 hpr), VRL_of_PRL _ (PRL_mono hle _ (h3 hpr)), h5, h6⟩, hz, hzl⟩
  ·intro b B hb o v hv
   rcases sealUp_spec hv with h1 | ⟨h1, b', B', h2, h3, h4⟩
   ·exact hsr.own b B (hlow b B hb) o v h1
   ·have := hsr.inj b b' B B' (hlow b B hb) (hrd _ _ h2) h3.symm
    subst this
    have hlt : b < h'.length := (List.getElem?_eq_some_iff.1 hb).1
    simp only [rd] at h2
    rw [if_neg (by omega)] at h2
    cases h2
  ·intro k xs hk
   obtain ⟨vs, h1, h2⟩ := hsr.glob k xs hk
   exact ⟨vs, PRL_mono hle _ h1, h2.mono hle⟩
 ·rw [hB0, List.append_nil]
  refine ⟨?_, SLe.trans hfr.sle hle, hfr.os, hfr.tape, hfr.output, hfr.size, hfr.rest, fun b B hb => hfr.img b B (hlow b B hb), ?_⟩
  ·intro b B hb
   obtain ⟨B', h1, h2⟩ := hfr.ge b B hb
   have hlt : b < h'.length := by rw [hc.len]; exact (List.getElem?_eq_some_iff.1 hb).1
   rw [hpOf_append_lt hlt] at h1
   exact ⟨B', h1, h2⟩
  ·intro k o v hv
   rcases sealUp_spec hv with h1 | ⟨h1, b', B', h2, h3, h4⟩
   ·exact hfr.sealN k o v h1
   ·rcases hfr.img b' B' (hrd _ _ h2) with h5 | ⟨B0, h5, _⟩
    ·exact .inr (.inl (h3 ▸ h5))
    ·exfalso
     have hlt : b' < h.length := (List.getElem?_eq_some_iff.1 h5).1
     simp only [rd] at h2
     rw [if_neg (by rw [hc.len]; omega)] at h2
     cases h2
 ·have hidx : ∀ l, out = .ret (.tup l) → ∀ i B, (recvL h'.length l).2[i]? = some B → rd (h'.length + i) = some B := by
   intro l hl i B hi
   subst hl
   simp only [rd]
   rw [if_pos (by omega), hpOf_append_ge (by omega), show h'.length + i - h'.length = i by omega]
   exact hi
  cases out with
  | pan v =>
   obtain ⟨cv, e1, h1⟩ := hout
   refine ⟨cv, e1, ?_⟩
   have := hother v cv h1
   rwa [hB0, List.append_nil] at this
  | ret x =>
   obtain ⟨cv, e1, h1⟩ := hout
   rcases tup_or x with ⟨l, rfl⟩ | ht
   ·simp only [OutV] at h1
    obtain ⟨vs, e2, q⟩ := h1
    refine ⟨cv, e1, ?_⟩
    simp only [OutV]
    refine ⟨vs, e2, ?_⟩
    have hb : (recv h'.length (.tup (l.map AM.thaw))).2 = [] := by simp only [recv]; exact recvL_thaw l _
    rw [hb, List.append_nil]
    have := outR_thaw (gh := hpOf h') (g' := hpOf h') hsr hrd rfl (fun x v hx => VR_mono hle (Ge.refl _ _) x hx) l h'.length vs (hidx l rfl) q
    exact this
   ·have e3 : thawO (.ret x) = .ret (AM.thaw x) := by cases x <;> first | rfl | exact absurd rfl (ht _)
    have hnt : ∀ l, AM.thaw x ≠ .tup l := by intro l hl; cases x <;> simp [AM.thaw] at hl; exact ht _ rfl
    rw [e3]
    refine ⟨cv, e1, ?_⟩
    rw [OutV_other (thaw_not x) hnt]
    rcases own_or x with ⟨xs, k, e, rfl⟩ | hx
    ·simp only [OutV] at h1
     have h0 : rd h'.length = some (ownB xs e) := by
      simp only [rd]
      rw [if_pos (Nat.le_refl _), hpOf_append_ge (Nat.le_refl _), Nat.sub_self]
      rfl
     have hf : frz rd 6 (.ref h'.length 0 0 k) = some (.sl (xs.take (k * e)) k true) := by
      simp [frz, h0, ownB]
     have := frz_sound hsr hrd 6 _ _ _ hf h1
     exact VR_of_PR _ this
    ·rw [OutV_other hx ht] at h1
     rw [thaw_other hx]
     exact VR_mono hle (Ge.refl _ _) x h1
end
end AM
namespace AM
open Go
structure LessF (s s' : St) : Prop where
 env : ∀ t, Fits (s'.env.get t) (s.env.get t)
 hp : s.hp = s'.hp
 md : s.md = s'.md
 dfs : s.dfs = s'.dfs
theorem LessF.refl (s : St) : LessF s s := ⟨fun _ => Fits.refl _, rfl, rfl, rfl⟩
def envInF : Env → (Nat → AV) → Prop
 | [], _ => True
 | (t, v) :: r, f => Fits (f t) v ∧ envInF r f
theorem get_of_envInF {f : Nat → AV} : ∀ {e : Env}, envInF e f → ∀ t, Fits (f t) (e.get t)
 | [], _, t => Fits.dead _
 | (u, v) :: r, h, t => by
  simp only [envInF] at h
  simp only [Env.get, look]
  cases hb : Nat.beq u t with
  | true =>
   have := beq_nat hb
   subst this
   exact h.1
  | false => exact get_of_envInF h.2 t
theorem LessF.of {e e' : Env} {hp : Hp} {md : AV} {dfs : List (Nat × List AV)} (h : envInF e e'.get) : LessF { env := e, hp, md, dfs } { env := e', hp, md, dfs } := ⟨get_of_envInF h, rfl, rfl, rfl⟩
section
variable {P : Program} {ap : AP}
theorem FR.lessF {s s' : St} (h : LessF s s') {nt : Nat} {m : MapF} {S : SMap} {w : World} {a : Act} (hF : FR ap s'.env s'.hp s'.dfs nt m S w a) : FR ap s.env s.hp s.dfs nt m S w a := by
 refine ⟨h.hp ▸ hF.srel, fun t => ?_, ?_, hF.size⟩
 ·have := h.env t _ _ _ _ (hF.env t)
  rw [h.hp]; exact this
 ·rw [h.hp, h.dfs]; exact hF.dfs
theorem ExecOk.weakF {h0 : List Blk} {nt : Nat} {code : Code} {s s' r r' : St} {e : AExit} (h : ExecOk P ap h0 nt code s e r) (hs : LessF s s') (hr : LessF r' r) : ExecOk P ap h0 nt code s' e r' := by
 intro hmd
 obtain ⟨h3, h4⟩ := h (hs.md ▸ hmd)
 refine ⟨hr.md ▸ h3, fun m0 S0 w0 m S w a hfr hF Q hQ => h4 m0 S0 w0 m S w a (by rw [hs.hp]; exact hfr) (hF.lessF hs) Q ?_⟩
 intro m' S' w' a' h5 h6
 have := hQ m' S' w' a' (by rw [hr.hp]; exact h5) (h6.lessF hr)
 cases e with
 | normal => exact this
 | exit id => exact this
 | ret => exact this
 | panic v => intro cv hcv; exact this cv (by rw [hr.hp]; exact hcv)
theorem LoopR.blkF {h0 : List Blk} {n id : Nat} {b : Code} {α β : Type} {e : β → AExit} {st : α → St} {out : β → St} {a : α} {r : β} {s s' : St} {e' : AExit} (h : ∀ nt, n ≤ nt → LoopR P ap h0 nt b e st out a r) (hne : e r ≠ .normal) (he : blkExit id (e r) = e') (hs : LessF (st a) s) (hr : LessF s' (out r)) : LoopOk P ap h0 n (.block id (.loop b)) s e' s' := by
 intro nt hn
 have h1 := ((h nt hn).ok hne).block (id := id)
 rw [he] at h1
 exact h1.weakF hs hr
end
end AM
namespace AM
open Go
def dropR (b : Nat) (c v : Nat) : Option (Nat × Nat) := match Nat.beq c b with | true => none | false => some (c, v)
inductive Fz (b : Nat) (B : Blk) : AV → AV → Prop
 | ren {x : AV} : Fz b B x (ren (dropR b) x)
 | ref {i n : Nat} : Fz b B (.ref b B.ver i n) (.sl ((B.cells.drop (i * B.esz)).take (n * B.esz)) n true)
 | fit {x y z : AV} : Fz b B x y → Fits y z → Fz b B x z
inductive FzL (b : Nat) (B : Blk) : List AV → List AV → Prop
 | nil : FzL b B [] []
 | cons {x y : AV} {l r : List AV} : Fz b B x y → FzL b B l r → FzL b B (x :: l) (y :: r)
theorem Fz.same {b : Nat} {B : Blk} {x : AV} (h : AM.ren (dropR b) x = x) : Fz b B x x := by
 have := Fz.ren (b := b) (B := B) (x := x)
 rwa [h] at this
theorem Fz.dead {b : Nat} {B : Blk} (x : AV) : Fz b B x .dead := .fit .ren (Fits.dead _)
theorem FzL.length {b : Nat} {B : Blk} {l r : List AV} (h : FzL b B l r) : l.length = r.length := by
 induction h with
 | nil => rfl
 | cons _ _ ih => simp [ih]
structure FzB (b : Nat) (B : Blk) (C C' : Blk) : Prop where
 ver : C'.ver = C.ver
 fro : C'.fro = C.fro
 fz : C'.fz = C.fz
 esz : C'.esz = C.esz
 body : (C.pr = true ∧ C'.cells = C.cells ∧ C'.pr = true) ∨ (FzL b B C.cells C'.cells ∧ (C'.pr = true → (refsL C'.cells).isEmpty = true))
theorem FzB.same {b : Nat} {B C : Blk} (hp : C.pr = true) : FzB b B C C := ⟨rfl, rfl, rfl, rfl, .inl ⟨hp, rfl, hp⟩⟩
theorem FzB.length {b : Nat} {B C C' : Blk} (h : FzB b B C C') : C.cells.length = C'.cells.length := by
 rcases h.body with ⟨_, e, _⟩ | ⟨e, _⟩
 ·rw [e]
 ·exact e.length
section
variable {P : Program} {ap : AP} {g : HpF} {m : MapF} {S : SMap} {w : World}
def rdOne (b : Nat) (B : Blk) : HpF := fun c => match Nat.beq c b with | true => some B | false => none
theorem rdOne_some {b c : Nat} {B C : Blk} (h : rdOne b B c = some C) : c = b ∧ C = B := by
 unfold rdOne at h
 split at h
 ·rename_i hb; cases h; exact ⟨beq_nat hb, rfl⟩
 ·cases h
theorem rdOne_self (b : Nat) (B : Blk) : rdOne b B b = some B := by unfold rdOne; rw [Nat.beq_refl]
theorem Fz.sound {b : Nat} {B : Blk} (hS : SRel ap g m S w) (hb : g b = some B) (hpr : B.pr = true) {g' : HpF} (hg : RenOk g m g' m (dropR b)) {x y : AV} (h : Fz b B x y) : ∀ {v : Value}, VR g m S x v → VR g' m (sealUp S m (rdOne b B) w) y v := by
 have hrd : ∀ c C, rdOne b B c = some C → g c = some C := by
  intro c C hc
  obtain ⟨rfl, rfl⟩ := rdOne_some hc
  exact hb
 induction h with
 | ren => intro v hv; exact VR_ren (sealUp_le S m (rdOne b B) w) hg _ hv
 | @ref i n =>
  intro v hv
  have hf : frz (rdOne b B) 6 (.ref b B.ver i n) = some (.sl ((B.cells.drop (i * B.esz)).take (n * B.esz)) n true) := by
   simp [frz, rdOne_self, hpr]
  exact VR_of_PR _ (frz_sound hS hrd 6 _ _ _ hf hv)
 | fit _ hf ih => intro v hv; exact hf _ _ _ _ (ih hv)
theorem FzL.sound {b : Nat} {B : Blk} (hS : SRel ap g m S w) (hb : g b = some B) (hpr : B.pr = true) {g' : HpF} (hg : RenOk g m g' m (dropR b)) {l r : List AV} (h : FzL b B l r) : ∀ {vs : List Value}, VRL g m S l vs → VRL g' m (sealUp S m (rdOne b B) w) r vs := by
 induction h with
 | nil => intro vs hv; cases vs with | nil => simp [VRL] | cons _ _ => simp [VRL] at hv
 | cons hx _ ih =>
  intro vs hv
  cases vs with
  | nil => simp [VRL] at hv
  | cons v vs =>
   simp only [VRL] at hv ⊢
   exact ⟨hx.sound hS hb hpr hg hv.1, ih hv.2⟩
theorem PRL_of_norefs : ∀ {l : List AV} {vs : List Value}, (refsL l).isEmpty = true → VRL g m S l vs → PRL S l vs
 | [], [], _, _ => by simp [PRL]
 | x :: l, v :: vs, h, hv => by
  simp only [refsL, List.isEmpty_iff, List.append_eq_nil_iff] at h
  rw [← List.isEmpty_iff, ← List.isEmpty_iff] at h
  simp only [VRL] at hv
  simp only [PRL]
  exact ⟨PR_of_norefs h.1 hv.1, PRL_of_norefs h.2 hv.2⟩
 | [], _ :: _, _, hv => by simp [VRL] at hv
 | _ :: _, [], _, hv => by simp [VRL] at hv
theorem DefR_renZ {g g' : HpF} {m m' : MapF} {S S' : SMap} {ρ : Nat → Nat → Option (Nat × Nat)} (hS : SLe S S') (hG : RenOk g m g' m' ρ) : ∀ {l : List (Nat × List AV)} {ds : List Deferred}, DefR g m S l ds → DefR g' m' S' (l.map fun d => (d.1, renL ρ d.2)) ds
 | [], [], _ => by simp only [List.map_nil, DefR]
 | d :: r, cd :: cr, h => by
  simp only [DefR] at h
  simp only [List.map_cons, DefR]
  obtain ⟨⟨cap, h1, h2⟩, h3⟩ := h
  exact ⟨⟨cap, h1, VRL_ren hS hG _ h2⟩, DefR_renZ hS hG h3⟩
 | [], _ :: _, h => by simp [DefR] at h
 | _ :: _, [], h => by simp [DefR] at h
theorem ExecOk.freeze {h0 : List Blk} {nt : Nat} {code : Code} {s r r' : St} {e : AExit} (b : Nat) (B : Blk) (h : ExecOk P ap h0 nt code s e r) (he : ∀ v, e ≠ .panic v) (hb0 : h0.length ≤ b) (hB : look r.hp b = some B) (hpr : B.pr = true)
  (hmd : r'.md = r.md) (hd : r'.dfs = r.dfs.map fun d => (d.1, renL (dropR b) d.2))
  (henv : ∀ t, Fz b B (r.env.get t) (r'.env.get t))
  (hdom : ∀ c C', look r'.hp c = some C' → c ≠ b ∧ ∃ C, look r.hp c = some C ∧ FzB b B C C')
  (hall : ∀ c C, c ≠ b → look r.hp c = some C → ∃ C', look r'.hp c = some C') : ExecOk P ap h0 nt code s e r' := by
 intro hs
 obtain ⟨h3, h4⟩ := h hs
 refine ⟨hmd ▸ h3, fun m0 S0 w0 m S w a hfr hF Q hQ => h4 m0 S0 w0 m S w a hfr hF Q ?_⟩
 intro m' S' w' a' h5 h6
 have hSR := h6.srel
 have hle := sealUp_le S' m' (rdOne b B) w'
 have hrd : ∀ c C, rdOne b B c = some C → look r.hp c = some C := by
  intro c C hc
  obtain ⟨rfl, rfl⟩ := rdOne_some hc
  exact hB
 have hren : RenOk (look r.hp) m' (look r'.hp) m' (dropR b) := by
  intro c ver c' ver' hρ C hC hv
  unfold dropR at hρ
  split at hρ
  ·cases hρ
  ·rename_i hne
   cases hρ
   have hcb : c ≠ b := by intro e; subst e; simp at hne
   obtain ⟨C', hC'⟩ := hall c C hcb hC
   obtain ⟨_, C2, hC2, hf⟩ := hdom c C' hC'
   rw [hC] at hC2; cases hC2
   exact ⟨C', hC', by rw [hf.ver]; exact hv, fun e => ⟨by rw [← hf.ver]; exact e, rfl, hf.esz⟩⟩
 have hsr : SRel ap (look r'.hp) m' (sealUp S' m' (rdOne b B) w') w' := by
  refine ⟨?_, ?_, fun k o v hv => sealUp_cell hSR hv, ?_, ?_⟩
  ·intro c c' C C' hc hc' hm
   obtain ⟨_, D, hD, _⟩ := hdom c C hc
   obtain ⟨_, D', hD', _⟩ := hdom c' C' hc'
   exact hSR.inj c c' D D' hD hD' hm
  ·intro c C' hc
   obtain ⟨_, C, hC, hf⟩ := hdom c C' hc
   obtain ⟨⟨cur, ee, vs, rest, k1, k2, k3, k4, k5, k6⟩, hz, hzl⟩ := hSR.blk c C hC
   have hpv : (C'.pr = true → PRL (sealUp S' m' (rdOne b B) w') C'.cells vs) ∧ VRL (look r'.hp) m' (sealUp S' m' (rdOne b B) w') C'.cells vs := by
    rcases hf.body with ⟨q1, q2, q3⟩ | ⟨q1, q2⟩
    ·have := PRL_mono hle _ (k3 q1)
     rw [q2]
     exact ⟨fun _ => this, VRL_of_PRL _ this⟩
    ·have hv := q1.sound hSR hB hpr hren k4
     exact ⟨fun hp => PRL_of_norefs (q2 hp) hv, hv⟩
   exact ⟨⟨cur, ee, vs, rest, k1, k2, hpv.1, hpv.2, k5, fun hp => by rw [hf.esz] at hp ⊢; exact k6 hp⟩, fun hp => by rw [hf.fz]; exact hz (by rw [← hf.fro]; exact hp), by rw [hf.fz, ← hf.length]; exact hzl⟩
  ·intro c C' hc o v hv
   obtain ⟨hcb, C, hC, hf⟩ := hdom c C' hc
   rw [hf.fro, hf.fz]
   rcases sealUp_spec hv with h1 | ⟨h1, b', B', h2, h3, h4⟩
   ·exact hSR.own c C hC o v h1
   ·obtain ⟨rfl, rfl⟩ := rdOne_some h2
    exact absurd (hSR.inj c b' C B' hC hB h3.symm) hcb
  ·intro k xs hk
   obtain ⟨vs, k1, k2⟩ := hSR.glob k xs hk
   exact ⟨vs, PRL_mono hle _ k1, k2.mono hle⟩
 have hfr' : Fr (hpOf h0) m0 S0 w0 (look r'.hp) m' (sealUp S' m' (rdOne b B) w') w' := by
  refine ⟨?_, SLe.trans h5.sle hle, h5.os, h5.tape, h5.output, h5.size, h5.rest, ?_, ?_⟩
  ·intro c C hc
   have hlt : c < h0.length := (List.getElem?_eq_some_iff.1 hc).1
   obtain ⟨C1, hC1, e1, e2⟩ := h5.ge c C hc
   obtain ⟨C', hC'⟩ := hall c C1 (by omega) hC1
   obtain ⟨_, C2, hC2, hf⟩ := hdom c C' hC'
   rw [hC1] at hC2; cases hC2
   exact ⟨C', hC', by rw [hf.esz]; exact e1, by rw [hf.ver]; exact e2⟩
  ·intro c C' hc
   obtain ⟨_, C, hC, _⟩ := hdom c C' hc
   exact h5.img c C hC
  ·intro k o v hv
   rcases sealUp_spec hv with h1 | ⟨h1, b', B', h2, h3, h4⟩
   ·exact h5.sealN k o v h1
   ·obtain ⟨rfl, rfl⟩ := rdOne_some h2
    rcases h5.img b' B' hB with h7 | ⟨B0, h7, _⟩
    ·exact .inr (.inl (h3 ▸ h7))
    ·have : b' < h0.length := (List.getElem?_eq_some_iff.1 h7).1
     omega
 have hFR : FR ap r'.env r'.hp r'.dfs nt m' (sealUp S' m' (rdOne b B) w') w' a' := by
  refine ⟨hsr, fun t => (henv t).sound hSR hB hpr hren (h6.env t), ?_, h6.size⟩
  rw [hd]
  exact DefR_renZ hle hren h6.dfs
 have := hQ m' (sealUp S' m' (rdOne b B) w') w' a' hfr' hFR
 cases e with
 | normal => exact this
 | exit id => exact this
 | ret => exact this
 | panic v => exact absurd rfl (he v)
def envZ (b : Nat) (B : Blk) : Env → (Nat → AV) → Prop
 | [], _ => True
 | (t, v) :: r, f => Fz b B (f t) v ∧ envZ b B r f
theorem get_of_envZ {b : Nat} {B : Blk} {f : Nat → AV} : ∀ {e : Env}, envZ b B e f → ∀ t, Fz b B (f t) (e.get t)
 | [], _, t => Fz.dead _
 | (u, v) :: r, h, t => by
  simp only [envZ] at h
  simp only [Env.get, look]
  cases hb : Nat.beq u t with
  | true =>
   have := beq_nat hb
   subst this
   exact h.1
  | false => exact get_of_envZ h.2 t
def hpZ (b : Nat) (B : Blk) : Hp → Hp → Prop
 | [], l => l = [(b, B)]
 | (c, C) :: r, (d, D) :: l => c = d ∧ FzB b B D C ∧ c ≠ b ∧ hpZ b B r l
 | _ :: _, [] => False
theorem hpZ_dom {b : Nat} {B : Blk} : ∀ {r l : Hp}, hpZ b B r l → ∀ c C', look r c = some C' → c ≠ b ∧ ∃ C, look l c = some C ∧ FzB b B C C'
 | [], l, _, c, C', hc => by simp [look] at hc
 | (d, D) :: r, (d', D') :: l, h, c, C', hc => by
  simp only [hpZ] at h
  obtain ⟨rfl, h2, h3, h4⟩ := h
  simp only [look] at hc ⊢
  cases hb : Nat.beq d c with
  | true =>
   rw [hb] at hc
   have := beq_nat hb
   subst this
   cases hc
   exact ⟨h3, D', rfl, h2⟩
  | false =>
   rw [hb] at hc
   exact hpZ_dom h4 c C' hc
 | _ :: _, [], h, _, _, _ => by simp [hpZ] at h
theorem hpZ_all {b : Nat} {B : Blk} : ∀ {r l : Hp}, hpZ b B r l → ∀ c C, c ≠ b → look l c = some C → ∃ C', look r c = some C'
 | [], l, h, c, C, hcb, hc => by
  simp only [hpZ] at h
  subst h
  simp only [look] at hc
  split at hc
  ·rename_i hb; exact absurd (beq_nat hb).symm hcb
  ·cases hc
 | (d, D) :: r, (d', D') :: l, h, c, C, hcb, hc => by
  simp only [hpZ] at h
  obtain ⟨rfl, h2, h3, h4⟩ := h
  simp only [look] at hc ⊢
  cases hb : Nat.beq d c with
  | true => exact ⟨D, rfl⟩
  | false => rw [hb] at hc; exact hpZ_all h4 c C hcb hc
 | _ :: _, [], h, _, _, _, _ => by simp [hpZ] at h
theorem hpZ_look {b : Nat} {B : Blk} : ∀ {r l : Hp}, hpZ b B r l → look l b = some B
 | [], l, h => by
  simp only [hpZ] at h
  subst h
  simp [look]
 | (d, D) :: r, (d', D') :: l, h => by
  simp only [hpZ] at h
  obtain ⟨rfl, h2, h3, h4⟩ := h
  simp only [look]
  cases hb : Nat.beq d b with
  | true => exact absurd (beq_nat hb) h3
  | false => exact hpZ_look h4
 | _ :: _, [], h => by simp [hpZ] at h
theorem ExecOk.forget {h0 : List Blk} {nt : Nat} {code : Code} {s : St} {e : AExit} (b : Nat) (B : Blk) {en en' : Env} {hp hp' : Hp} {md : AV} (h : ExecOk P ap h0 nt code s e { env := en, hp, md, dfs := [] }) (he : ∀ v, e ≠ .panic v) (hb0 : h0.length ≤ b) (hpr : B.pr = true)
  (henv : envZ b B en' (Env.get en)) (hhp : hpZ b B hp' hp) : ExecOk P ap h0 nt code s e { env := en', hp := hp', md, dfs := [] } :=
 h.freeze b B he hb0 (hpZ_look hhp) hpr rfl rfl (get_of_envZ henv) (hpZ_dom hhp) (hpZ_all hhp)
theorem ExecOk.forgetD {h0 : List Blk} {nt : Nat} {code : Code} {s : St} {e : AExit} (b : Nat) (B : Blk) {en en' : Env} {hp hp' : Hp} {md : AV} {dfs : List (Nat × List AV)} (h : ExecOk P ap h0 nt code s e { env := en, hp, md, dfs }) (he : ∀ v, e ≠ .panic v) (hb0 : h0.length ≤ b) (hpr : B.pr = true)
  (henv : envZ b B en' (Env.get en)) (hhp : hpZ b B hp' hp) (hd : dfs.map (fun d => (d.1, renL (dropR b) d.2)) = dfs) : ExecOk P ap h0 nt code s e { env := en', hp := hp', md, dfs } :=
 h.freeze b B he hb0 (hpZ_look hhp) hpr rfl hd.symm (get_of_envZ henv) (hpZ_dom hhp) (hpZ_all hhp)
end
end AM
namespace AM
open Go
def flatFs (P : Program) (f : TypeId → Option (List LK)) : List Field → Nat → Option (List LK)
 | [], _ => some []
 | x :: r, off => match f x.type with
  | some l => match Nat.beq x.offset off && Nat.beq (P.cellsOf x.type) l.length with
   | true => match flatFs P f r (off + l.length) with | some q => some (l ++ q) | none => none
   | false => none
  | none => none
def flatK (P : Program) : Nat → TypeId → Option (List LK)
 | 0, _ => none
 | n + 1, t => match P.underlying t with
  | some (.int k) => some [.int k]
  | some .bool => some [.bool]
  | some .string => some [.str]
  | some (.struct fs) => match flatFs P (flatK P n) fs.toList 0 with
   | some l => match Nat.beq (P.cellsOf t) l.length with | true => some l | false => none
   | none => none
  | some (.array m e) => match flatK P n e with
   | some l => match Nat.beq (P.cellsOf e) l.length && Nat.beq (P.cellsOf t) (m * l.length) with | true => some (List.replicate m l).flatten | false => none
   | none => none
  | _ => none
inductive FlatV : List LK → List Value → Prop
 | nil : FlatV [] []
 | int {k : IntKind} {n : Int} {r : List LK} {l : List Value} : FlatV r l → FlatV (.int k :: r) (.int k n :: l)
 | bool {b : Bool} {r : List LK} {l : List Value} : FlatV r l → FlatV (.bool :: r) (.bool b :: l)
 | str {s : ByteArray} {r : List LK} {l : List Value} : FlatV r l → FlatV (.str :: r) (.string s :: l)
theorem FlatV.app {a b : List LK} {x y : List Value} (h : FlatV a x) (h' : FlatV b y) : FlatV (a ++ b) (x ++ y) := by
 induction h with
 | nil => exact h'
 | int _ ih => exact .int ih
 | bool _ ih => exact .bool ih
 | str _ ih => exact .str ih
theorem FlatV.length {a : List LK} {x : List Value} (h : FlatV a x) : a.length = x.length := by
 induction h with
 | nil => rfl
 | int _ ih => simp [ih]
 | bool _ ih => simp [ih]
 | str _ ih => simp [ih]
def avLeaf : Value → AV
 | .int k n => .int k n
 | .bool b => .bool b
 | .string s => .str s.data.toList
 | _ => .dead
theorem FlatV.pr {S : SMap} {a : List LK} {x : List Value} (h : FlatV a x) : PRL S (x.map avLeaf) x := by
 induction h with
 | nil => simp [PRL]
 | int _ ih => simp only [List.map_cons, PRL]; exact ⟨by simp [avLeaf, PR], ih⟩
 | bool _ ih => simp only [List.map_cons, PRL]; exact ⟨by simp [avLeaf, PR], ih⟩
 | @str s _ _ _ ih => simp only [List.map_cons, PRL]; exact ⟨by simp [avLeaf, PR], ih⟩
theorem FlatV.one {a : List LK} {x : List Value} (h : FlatV a x) : ∀ u ∈ x, u.oneCell' = true := by
 induction h with
 | nil => intro u hu; cases hu
 | int _ ih =>
  intro u hu
  rcases List.mem_cons.1 hu with rfl | hu
  ·rfl
  ·exact ih u hu
 | bool _ ih =>
  intro u hu
  rcases List.mem_cons.1 hu with rfl | hu
  ·rfl
  ·exact ih u hu
 | str _ ih =>
  intro u hu
  rcases List.mem_cons.1 hu with rfl | hu
  ·rfl
  ·exact ih u hu
section
variable {H : Type} {enc : TypeId × Value → H} {P : Program} {w : World} {base : Nat} {spare : Nat → Bool} {held : Bool}
theorem flatFs_open {n : Nat} {f : TypeId → Option (List LK)} (hf : ∀ t ks, f t = some ks → ∀ (fuel : Nat) (cs : List Value) (x : DataW H × List MemPlace), DataW.trod enc P w base spare held fuel t cs = some x → FlatV ks cs) {cs : List Value} : ∀ (r : List Field) (off : Nat) (ks : List LK), flatFs P f r off = some ks →
  (∀ (i : Nat) (x : Field), r[i]? = some x → ∃ y, DataW.trod enc P w base spare held n x.type ((cs.drop x.offset).take (P.cellsOf x.type)) = some y) → FlatV ks ((cs.drop off).take ks.length)
 | [], off, ks, h, _ => by
  simp only [flatFs] at h
  cases h
  simpa using FlatV.nil
 | x :: r, off, ks, h, hx => by
  simp only [flatFs] at h
  split at h
  ·rename_i l hl
   split at h
   ·rename_i hb
    simp only [Bool.and_eq_true] at hb
    have e1 := Nat.eq_of_beq_eq_true hb.1
    have e2 := Nat.eq_of_beq_eq_true hb.2
    split at h
    ·rename_i q hq
     cases h
     obtain ⟨y, hy⟩ := hx 0 x rfl
     have h1 := hf _ _ hl _ _ _ hy
     rw [e1, e2] at h1
     have h2 := flatFs_open hf r (off + l.length) q hq (fun i f hi => hx (i + 1) f (by simpa using hi))
     rw [List.length_append, List.take_add, List.drop_drop]
     exact h1.app h2
    ·cases h
   ·cases h
  ·cases h
theorem flat_open : ∀ (n : Nat) (t : TypeId) (ks : List LK), flatK P n t = some ks → ∀ (fuel : Nat) (cs : List Value) (x : DataW H × List MemPlace), DataW.trod enc P w base spare held fuel t cs = some x → FlatV ks cs := by
 intro n
 induction n with
 | zero => intro t ks h; simp [flatK] at h
 | succ n ih =>
  intro t ks h fuel cs x hx
  simp only [flatK] at h
  split at h
  ·rename_i k ht
   cases h
   obtain ⟨m, rfl, _⟩ := DataW.trod_int ht hx
   exact .int .nil
  ·rename_i ht
   cases h
   obtain ⟨b, rfl, _⟩ := DataW.trod_bool ht hx
   exact .bool .nil
  ·rename_i ht
   cases h
   obtain ⟨s, rfl, _⟩ := DataW.trod_string ht hx
   exact .str .nil
  ·rename_i fs ht
   split at h
   ·rename_i l hl
    split at h
    ·rename_i hb
     cases h
     obtain ⟨xs, m, rfl, _, hlen, hxl, hi⟩ := DataW.trod_struct ht hx
     have e := Nat.eq_of_beq_eq_true hb
     have h1 := flatFs_open (n := m) ih fs.toList 0 ks hl (fun i f hf => by
      have hf' : fs[i]? = some f := by simpa using hf
      have h2 := hi i f hf'
      have hlt : i < xs.length := by rw [hxl]; exact (Array.getElem?_eq_some_iff.1 hf').1
      rw [List.getElem?_eq_getElem hlt] at h2
      exact ⟨_, h2⟩)
     rw [List.drop_zero, ← e, ← hlen, List.take_length] at h1
     exact h1
    ·cases h
   ·cases h
  ·rename_i m e ht
   split at h
   ·rename_i l hl
    split at h
    ·rename_i hb
     cases h
     simp only [Bool.and_eq_true] at hb
     have e1 := Nat.eq_of_beq_eq_true hb.1
     have e2 := Nat.eq_of_beq_eq_true hb.2
     obtain ⟨xs, q, rfl, _, hlen, hxl, hi⟩ := DataW.trod_array ht hx
     have key : ∀ j, j ≤ m → FlatV (List.replicate j l).flatten ((cs.drop ((m - j) * l.length)).take (j * l.length)) := by
      intro j
      induction j with
      | zero => intro _; simpa using FlatV.nil
      | succ j ihj =>
       intro hj
       have h2 := hi (m - (j + 1)) (by omega)
       rw [List.getElem?_eq_getElem (by omega)] at h2
       have h3 := ih _ _ hl _ _ _ h2
       rw [e1] at h3
       have h4 := ihj (by omega)
       rw [List.replicate_succ, List.flatten_cons, Nat.add_mul, Nat.one_mul, Nat.add_comm (j * l.length), List.take_add, List.drop_drop]
       have h5 : (m - (j + 1)) * l.length + l.length = (m - j) * l.length := by
        rw [← Nat.succ_mul]; congr 1; omega
       rw [h5]
       exact h3.app h4
     have h6 := key m (Nat.le_refl _)
     rw [Nat.sub_self, Nat.zero_mul, List.drop_zero, ← e2, ← hlen, List.take_length] at h6
     exact h6
    ·cases h
   ·cases h
  ·cases h
end
end AM
namespace AM
open Go
def bitsL : Nat → Nat → List Bool
 | 0, _ => []
 | n + 1, k => Nat.beq (k % 2) 1 :: bitsL n (k / 2)
def trueL : Nat → List Bool → List Bool
 | 0, l => l
 | n + 1, l => true :: trueL n l
theorem AllB.n (k : Nat) {l : List Bool} (h : AllB l) : AllB (trueL k l) := by
 induction k with
 | zero => exact h
 | succ k ih => exact .t ih
theorem AllB.k (k : Nat) {b : Bool} {l : List Bool} (hb : b = true) (h : AllB l) : AllB (trueL k (b :: l)) := .n k (.c hb h)
theorem tf (b : Bool) : b = true ∨ b = false := by cases b <;> simp
theorem litT {b : Bool} (h : b = true) : lit true b = true := h
theorem litF {b : Bool} (h : b = false) : lit false b = true := by subst h; rfl
theorem litNT {b : Bool} (h : b = false) : lit true (!b) = true := by subst h; rfl
theorem litNF {b : Bool} (h : b = true) : lit false (!b) = true := by subst h; rfl
inductive PS (P : Program) (ap : AP) : List Prop → List (Out × List Blk) → Lps → List Hint → Prop where
 | nil : PS P ap [] [] [] []
 | c {f : Nat} {args : List AV} {h h' : List Blk} {out : Out} {ps : List Prop} {ans : List (Out × List Blk)} {lps : Lps} {hs : List Hint} : CallOk P ap f args h out h' → PS P ap ps ans lps hs → PS P ap (CallOk P ap f args h out h' :: ps) (ans ++ [(out, h')]) lps hs
 | l {h0 : List Blk} {n : Nat} {code : Code} {s s' : St} {e : AExit} {ps : List Prop} {ans : List (Out × List Blk)} {lps : Lps} {hs : List Hint} : LoopOk P ap h0 n code s e s' → PS P ap ps ans lps hs → PS P ap (LoopOk P ap h0 n code s e s' :: ps) ans (lps ++ [(e, s')]) hs
 | v (d : Nat) {x y : AV} {ps : List Prop} {ans : List (Out × List Blk)} {lps : Lps} {hs : List Hint} : Fits x y → PS P ap ps ans lps hs → PS P ap (Fits x y :: ps) ans lps (hs ++ [.v d y])
 | b (d : Nat) {x y : List AV} {ps : List Prop} {ans : List (Out × List Blk)} {lps : Lps} {hs : List Hint} : x = y → PS P ap ps ans lps hs → PS P ap ((x = y) :: ps) ans lps (hs ++ [.b d y])
theorem PS.all {P : Program} {ap : AP} {ps : List Prop} {ans : List (Out × List Blk)} {lps : Lps} {hs : List Hint} (h : PS P ap ps ans lps hs) : AllP ps := by
 induction h with
 | nil => exact .nil
 | c h _ ih => exact .cons h ih
 | l h _ ih => exact .cons h ih
 | v _ h _ ih => exact .cons h ih
 | b _ h _ ih => exact .cons h ih
theorem ck {P : Program} {ap : AP} (g : GoodP P ap) {ans : List (Out × List Blk)} {ps : List Prop} {f : Nat} {args : List AV} {h h' : List Blk} {out : Out} (hp : PS P ap ps ans [] [])
  (he : callA ap (runE P ap 3000 4) 3000 .dead f args h ⟨true, [], [], [], ans, []⟩ = .ok (out, h', .dead) ⟨true, [], [], ps, [], []⟩) : CallOk P ap f args h out h' := closed_ok g hp.all he
theorem pk {P : Program} {ap : AP} (g : GoodP P ap) (ls : List Nat) (n k : Nat) {ans : List (Out × List Blk)} {lps : Lps} {hs : List Hint} {bs : List Bool} {ps : List Prop} {f : Nat} {args : List AV} {h h' : List Blk} {out : Out}
  (hb : AllB bs) (hp : PS P ap ps ans lps hs) (he : callS P ap (runE P ap 3000 4) 3000 ls f args h lps ⟨false, bitsL n k, [], [], ans, hs⟩ = .ok (out, h', .dead) ⟨false, [], bs, ps, [], []⟩) : CallOk P ap f args h out h' := by
 obtain ⟨h1, h2⟩ := runE_sound g.apok g.mixed g.fnok 3000 4
 exact callS_ok g.apok g.mixed g.fnok h1 h2 he ⟨hb.mem, hp.all.mem⟩
def keepOf (ap : AP) (f : Nat) : List Nat := match ap.fnAt f with | some F => F.keep | none => []
def projR (env : Env) : R ((AExit × St) × Lps) → R ((AExit × St) × Lps)
 | .ok ((e, s), l) c => .ok ((e, ⟨env.map fun q => (q.1, s.env.get q.1), s.hp, s.md, s.dfs⟩), l) c
 | r => r
def pieceR (P : Program) (ap : AP) (h0 : List Blk) (f nt0 : Nat) (ls : List Nat) (code : Code) (s : St) (lps : Lps) (orc : List Bool) (ans : List (Out × List Blk)) (hs : List Hint) (env : Env) : R ((AExit × St) × Lps) :=
 match dstsOk nt0 code with
 | true => projR env (execS P ap (runE P ap 3000 4) h0 (keepOf ap f) 3000 nt0 ls code s lps ⟨false, orc, [], [], ans, hs⟩)
 | false => .bad 0
theorem get_proj (env env' : Env) : ∀ t, Env.get (env.map fun q => (q.1, env'.get q.1)) t = env'.get t ∨ Env.get (env.map fun q => (q.1, env'.get q.1)) t = .dead := by
 intro t
 induction env with
 | nil => exact .inr rfl
 | cons q r ih =>
  cases hq : Nat.beq q.1 t with
  | true =>
   left
   have := Nat.eq_of_beq_eq_true hq
   subst this
   simp only [Env.get, List.map_cons, look, hq, Option.getD_some]
  | false =>
   have e : Env.get (List.map (fun q => (q.1, env'.get q.1)) (q :: r)) t = Env.get (List.map (fun q => (q.1, env'.get q.1)) r) t := by
    simp only [Env.get, List.map_cons, look, hq]
   rw [e]; exact ih
theorem pj {P : Program} {ap : AP} (g : GoodP P ap) (f : Nat) (ls : List Nat) (n k : Nat) {nt nt0 : Nat} {ans : List (Out × List Blk)} {lps : Lps} {hs : List Hint} {bs : List Bool} {ps : List Prop} {code : Code} {s s' : St} {h0 : List Blk} {e : AExit}
  (hb : AllB bs) (hp : PS P ap ps ans lps hs) (hn : nt0 ≤ nt) (he : pieceR P ap h0 f nt0 ls code s lps (bitsL n k) ans hs s'.env = .ok ((e, s'), []) ⟨false, [], bs, ps, [], []⟩) : ExecOk P ap h0 nt code s e s' := by
 unfold pieceR at he
 split at he
 ·rename_i hd
  generalize hr : execS P ap (runE P ap 3000 4) h0 (keepOf ap f) 3000 nt0 ls code s lps ⟨false, bitsL n k, [], [], ans, hs⟩ = r at he
  cases r with
  | ok q c =>
   obtain ⟨⟨e1, s1⟩, l1⟩ := q
   simp only [projR, R.ok.injEq, Prod.mk.injEq] at he
   obtain ⟨⟨⟨rfl, hs1⟩, rfl⟩, rfl⟩ := he
   obtain ⟨h1, h2⟩ := runE_sound g.apok g.mixed g.fnok 3000 4
   have hx : ExecOk P ap h0 nt code s e1 s1 := (execS_sound g.apok g.mixed h1 hn code (dstsOk_mono hn code hd) _ _ _ _ _ hr ⟨hb.mem, hp.all.mem⟩).2
   refine hx.weak (Less.refl _) ?_
   rw [← hs1]
   exact ⟨get_proj _ _, rfl, rfl, rfl⟩
  | need => simp [projR] at he
  | bad n => simp [projR] at he
 ·cases he
theorem Fits.pp {xs ys : List AV} {off : Nat} (h : List.drop off xs = ys) : Fits (.pp xs off) (.pp ys 0) := by
 subst h
 intro g m S v hv
 simp only [VR, PR] at hv ⊢
 obtain ⟨b, o, vs, rfl, hp, hs⟩ := hv
 refine ⟨b, o + off, vs.drop off, rfl, PRL_drop off hp, fun j u hj => ?_⟩
 rw [List.getElem?_drop] at hj
 have := hs (off + j) u hj
 rwa [← Nat.add_assoc] at this
theorem Fits.ppt {xs ys zs : List AV} {off : Nat} (h : List.drop off xs = ys ++ zs) : Fits (.pp xs off) (.pp ys 0) := by
 intro g m S v hv
 have := Fits.pp h g m S v hv
 simp only [VR, PR] at this ⊢
 obtain ⟨b, o, vs, rfl, hp, hs⟩ := this
 refine ⟨b, o, vs.take ys.length, rfl, ?_, fun j u hj => ?_⟩
 ·have := PRL_take ys.length hp
  rwa [List.take_left'] at this
  rfl
 ·rw [List.getElem?_take] at hj
  split at hj
  ·exact hs j u hj
  ·cases hj
theorem Fits.eq {x y : AV} (h : x = y) : Fits x y := h ▸ fun _ _ _ _ hv => hv
theorem Fits.rd (ks : List LK) {xs ys zs : List AV} {off : Nat} (h : List.drop off xs = ys ++ zs) (hr : readD true ks (ys ++ zs) = ys) : Fits (.agg (readL true ks xs off)) (.agg ys) := .eq (by unfold readL; rw [h, hr])
theorem AllB.a {l r : List Bool} (h : AllB l) (h' : AllB r) : AllB (l ++ r) := by
 induction h with
 | nil => exact h'
 | t _ ih => exact .t ih
 | c hb _ ih => exact .c hb ih
theorem AllB.of {l : List Bool} (h : l.all id = true) : AllB l := by
 induction l with
 | nil => exact .nil
 | cons b r ih =>
  simp only [List.all_cons, id, Bool.and_eq_true] at h
  exact .c h.1 (ih h.2)
theorem chk_of (ks : List LK) {xs ys zs : List AV} {off : Nat} (h : List.drop off xs = ys ++ zs) (hc : (chkD true ks (ys ++ zs)).all id = true) : AllB (chkL true ks xs off) := by
 unfold chkL; rw [h]; exact .of hc
inductive FzP : List AV → List AV → Prop where
 | nil : FzP [] []
 | same {x : AV} {l r : List AV} : FzP l r → FzP (x :: l) (x :: r)
 | nilS {l r : List AV} : FzP l r → FzP (.nilS :: l) (.sl [] 0 false :: r)
 | sl {xs : List AV} {n : Nat} {a : Bool} {l r : List AV} : FzP l r → FzP (.sl xs n a :: l) (.sl xs n false :: r)
end AM
namespace AM
open Go
variable {P : Program} {ap : AP}
theorem ExecOk.norm {h0 : List Blk} {nt : Nat} {code : Code} {s s1 : St} {e : AExit} (keep : List Nat) (he : ∀ v, e = .panic v → (refs v).isEmpty = true) (h : ExecOk P ap h0 nt code s e s1) : ExecOk P ap h0 nt code s e (AM.norm h0.length keep s1) := by
 intro hs
 obtain ⟨h3, h4⟩ := h hs
 refine ⟨h3, fun m0 S0 w0 m S w a hfr hF Q hQ => h4 m0 S0 w0 m S w a hfr hF Q ?_⟩
 intro m' S' w' a' h5 h6
 obtain ⟨m2, h7, h8⟩ := norm_sound (keep := keep) h5 h6
 have := hQ m2 S' w' a' h7 h8
 cases e with
 | normal => exact this
 | exit id => exact this
 | ret => exact this
 | panic v => intro cv hcv; exact this cv (VR_of_PR _ (PR_of_norefs (he v rfl) hcv))
def okPan : AExit → Bool
 | .panic v => (refs v).isEmpty
 | _ => true
def normR (base : Nat) (env : Env) : R ((AExit × St) × Lps) → R ((AExit × St) × Lps)
 | .ok ((e, s), l) c => match okPan e with
  | true => .ok ((e, norm base (env.map fun q => q.1) s), l) c
  | false => .bad 1
 | r => r
def pieceN (P : Program) (ap : AP) (h0 : List Blk) (f nt0 : Nat) (ls : List Nat) (code : Code) (s : St) (lps : Lps) (orc : List Bool) (ans : List (Out × List Blk)) (hs : List Hint) (env : Env) : R ((AExit × St) × Lps) :=
 match dstsOk nt0 code with
 | true => normR h0.length env (execS P ap (runE P ap 3000 4) h0 (keepOf ap f) 3000 nt0 ls code s lps ⟨false, orc, [], [], ans, hs⟩)
 | false => .bad 0
theorem pn (g : GoodP P ap) (f : Nat) (ls : List Nat) (n k : Nat) {nt nt0 : Nat} {ans : List (Out × List Blk)} {lps : Lps} {hs : List Hint} {bs : List Bool} {ps : List Prop} {code : Code} {s s' : St} {h0 : List Blk} {e : AExit}
  (hb : AllB bs) (hp : PS P ap ps ans lps hs) (hn : nt0 ≤ nt) (he : pieceN P ap h0 f nt0 ls code s lps (bitsL n k) ans hs s'.env = .ok ((e, s'), []) ⟨false, [], bs, ps, [], []⟩) : ExecOk P ap h0 nt code s e s' := by
 unfold pieceN at he
 split at he
 ·rename_i hd
  generalize hr : execS P ap (runE P ap 3000 4) h0 (keepOf ap f) 3000 nt0 ls code s lps ⟨false, bitsL n k, [], [], ans, hs⟩ = r at he
  cases r with
  | ok q c =>
   obtain ⟨⟨e1, s1⟩, l1⟩ := q
   simp only [normR] at he
   split at he
   ·rename_i hpan
    simp only [R.ok.injEq, Prod.mk.injEq] at he
    obtain ⟨⟨⟨rfl, hs1⟩, rfl⟩, rfl⟩ := he
    obtain ⟨h1, h2⟩ := runE_sound g.apok g.mixed g.fnok 3000 4
    have hx : ExecOk P ap h0 nt code s e1 s1 := (execS_sound g.apok g.mixed h1 hn code (dstsOk_mono hn code hd) _ _ _ _ _ hr ⟨hb.mem, hp.all.mem⟩).2
    have := hx.norm (s'.env.map fun q => q.1) (fun v hv => by subst hv; exact hpan)
    rwa [hs1] at this
   ·cases he
  | need => simp [normR] at he
  | bad n => simp [normR] at he
 ·cases he
end AM
namespace AM
open Go
variable {P : Program} {ap : AP}
def goL {α σ β : Type} (F : σ → α → σ ⊕ β) (fin : σ → β) : List α → σ → β
 | [], s => fin s
 | x :: r, s => match F s x with
  | .inl s' => goL F fin r s'
  | .inr b => b
theorem LoopR.goL {α σ β : Type} {h0 : List Blk} {nt : Nat} {b : Code} {e : β → AExit} {st : Nat × σ → St} {out : β → St} (F : σ → α → σ ⊕ β) (fin : σ → β) (L : List α) (Inv : List α → σ → Prop)
  (hstep : ∀ p x r s, L = p ++ x :: r → Inv p s → match F s x with
   | .inl s' => ExecOk P ap h0 nt b (st (p.length, s)) .normal (st (p.length + 1, s')) ∧ Inv (p ++ [x]) s'
   | .inr q => ExecOk P ap h0 nt b (st (p.length, s)) (e q) (out q))
  (hend : ∀ s, Inv L s → ExecOk P ap h0 nt b (st (L.length, s)) (e (fin s)) (out (fin s))) :
  ∀ (r p : List α) (s : σ), L = p ++ r → Inv p s → LoopR P ap h0 nt b e st out (p.length, s) (AM.goL F fin r s) := by
 intro r
 induction r with
 | nil =>
  intro p s h hi
  rw [List.append_nil] at h
  subst h
  exact .done (hend s hi)
 | cons x r ih =>
  intro p s h hi
  have h1 := hstep p x r s h hi
  simp only [AM.goL]
  cases hF : F s x with
  | inl s' =>
   rw [hF] at h1
   have h2 := ih (p ++ [x]) s' (by rw [h]; simp) h1.2
   rw [List.length_append, List.length_singleton] at h2
   exact .next h1.1 h2
  | inr q =>
   rw [hF] at h1
   exact .done h1
end AM
namespace AM
open Go Go.WideShapes Go.ChangeShapes
theorem add_plain {a : Addr} (h : a.spot = none) (n : Nat) : a.add n = ⟨a.block, a.off + n, none⟩ := by
 unfold Addr.add
 obtain ⟨b, o, s⟩ := a
 simp only at h
 subst h
 split
 ·rename_i hn; subst hn; rfl
 ·rfl
section
variable {H : Type} {enc : TypeId × Value → H} {P : Program} {w : World} {base : Nat} {spare : Nat → Bool} {held : Bool}
theorem PRL_flat {S : SMap} {ks : List LK} : ∀ (L : List (List Value)), (∀ x ∈ L, FlatV ks x) → PRL S (L.flatMap fun x => x.map avLeaf) L.flatten
 | [], _ => by simp [PRL]
 | x :: r, h => by
  rw [List.flatMap_cons, List.flatten_cons]
  exact PRL_append (FlatV.pr (h x (by simp))) (PRL_flat r fun y hy => h y (by simp [hy]))
theorem one_flat {ks : List LK} : ∀ (L : List (List Value)), (∀ x ∈ L, FlatV ks x) → ∀ u ∈ L.flatten, u.oneCell' = true := by
 intro L h u hu
 obtain ⟨x, hx, hu⟩ := List.mem_flatten.1 hu
 exact FlatV.one (h x hx) u hu
theorem open_slF {t e : TypeId} {n base' : Nat} {ks : List LK} (ht : P.underlying t = some (.slice e)) (hk : flatK P n e = some ks) (hc : P.cellsOf e = ks.length) {v : Value} {d : DataW H} {p : List MemPlace}
  (hv : Value.okWide P w .any base' t v) (h : DataW.Trod enc P w base spare held t v d p) : ∃ L : List (List Value), (∀ x ∈ L, FlatV ks x) ∧ PR (worldS w) (.sl (L.flatMap fun x => x.map avLeaf) L.length false) v := by
 obtain ⟨a0, len, cap, rfl⟩ := okWide_slice ht hv
 obtain ⟨fuel, h⟩ := h
 rcases DataW.trod_slice ht h with ⟨hcs, _⟩ | ⟨a, len', cap', elems, rest, m, _, hcs, _, _, hl, hm, hlen, hel, _, _⟩
 ·have : a0 = none ∧ len = 0 ∧ cap = 0 := by simpa [Value.cells] using hcs
  obtain ⟨rfl, rfl, rfl⟩ := this
  refine ⟨[], by simp, ?_⟩
  simp only [PR]
  exact ⟨none, 0, rfl, Nat.le_refl _, .inl (by simp)⟩
 ·have : a0 = some a ∧ len = len' ∧ cap = cap' := by simpa [Value.cells] using hcs
  obtain ⟨rfl, rfl, rfl⟩ := this
  have hspot : a.spot = none := by
   simp only [Value.okWide, ht, Cell.okWide, Cell.ok] at hv
   exact hv.2.2.2.1
  have key : ∀ q, q ≤ len → ∃ L : List (List Value), L.length = q ∧ (∀ x ∈ L, FlatV ks x) ∧ L.flatten.length = q * ks.length ∧ ∀ j u, L.flatten[j]? = some u → worldS w a.block (a.off + j) = some u := by
   intro q
   induction q with
   | zero => intro _; exact ⟨[], rfl, by simp, by simp, by simp⟩
   | succ q ih =>
    intro hq
    obtain ⟨L, h1, h2, h3, h4⟩ := ih (by omega)
    have h5 := hel q (by omega)
    rw [List.getElem?_eq_getElem (by omega)] at h5
    obtain ⟨cs', h6, h7⟩ := Option.bind_eq_some_iff.1 h5
    have h8 := flat_open n e ks hk _ _ _ h7
    obtain ⟨_, h9, h10⟩ := World.cells?_some h6
    refine ⟨L ++ [cs'], by simp [h1], ?_, ?_, ?_⟩
    ·intro x hx
     rcases List.mem_append.1 hx with hx | hx
     ·exact h2 x hx
     ·simp at hx; subst hx; exact h8
    ·rw [List.flatten_append, List.length_append, h3]
     have := h8.length
     simp only [List.flatten_cons, List.flatten_nil, List.append_nil]
     rw [← this, Nat.succ_mul]
    ·intro j u hj
     rw [List.flatten_append, List.getElem?_append] at hj
     split at hj
     ·exact h4 j u hj
     ·rename_i hjl
      simp only [List.flatten_cons, List.flatten_nil, List.append_nil] at hj
      have h11 := (List.getElem?_eq_some_iff.1 hj).1
      have h12 := h10 (j - L.flatten.length) (by omega)
      rw [hj, add_plain hspot, add_plain rfl] at h12
      simp only [worldS]
      rw [← h12, h3, hc]
      congr 2
      have : q * ks.length ≤ j := by rw [← h3]; omega
      simp only
      omega
  obtain ⟨L, h1, h2, h3, h4⟩ := key len (Nat.le_refl _)
  refine ⟨L, h2, ?_⟩
  simp only [PR]
  refine ⟨some a, cap, by rw [h1], by rw [h1]; exact hl, .inr ⟨a.block, a.off, L.flatten, ?_, PRL_flat L h2, fun j u hj => ⟨h4 j u hj, one_flat L h2 u (List.mem_of_getElem? hj)⟩⟩⟩
  obtain ⟨b, o, s⟩ := a
  simp only at hspot
  subst hspot
  rfl
theorem flat_list {α : Type} (f : α → List AV) {L : List (List Value)} (h : ∀ x ∈ L, ∃ a, x.map avLeaf = f a) : ∃ l : List α, (L.flatMap fun x => x.map avLeaf) = l.flatMap f ∧ L.length = l.length := by
 induction L with
 | nil => exact ⟨[], rfl, rfl⟩
 | cons x r ih =>
  obtain ⟨a, ha⟩ := h x (by simp)
  obtain ⟨l, h1, h2⟩ := ih fun y hy => h y (by simp [hy])
  exact ⟨a :: l, by rw [List.flatMap_cons, List.flatMap_cons, ha, h1], by simp [h2]⟩
end
end AM
