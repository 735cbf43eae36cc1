/- The abstract machine over the code of the model, and the proof that it is sound. No conditions. -/
import Derived.Test.YtpjkeigmiooooaaGreatDoorM2
import Derived.Orders
import Derived.LoopN
import Derived.Scope
set_option linter.unusedSimpArgs false
set_option linter.unusedVariables false
namespace AM
open Go
def hpOf (h : List Blk) : HpF := fun b => h[b]?
def OutR (gh gf : HpF) (m : MapF) (S : SMap) : Nat → List AV → List Value → Prop
 | _, [], [] => True
 | n, .own _ k _ :: r, v :: vs => VR gf m S (.ref n 0 0 k) v ∧ OutR gh gf m S (n + 1) r vs
 | n, x :: r, v :: vs => VR gh m S x v ∧ OutR gh gf m S n r vs
 | _, _, _ => False
def OutV (gh gf : HpF) (m : MapF) (S : SMap) (n : Nat) : AV → Value → Prop
 | .tup l, v => ∃ vs, v = .tuple vs.toArray ∧ OutR gh gf m S n l vs
 | .own _ k _, v => VR gf m S (.ref n 0 0 k) v
 | x, v => VR gh m S x v
def outB (n : Nat) : Out → List Blk
 | .ret v => (recv n v).2
 | .pan _ => []
def OutE (h' : List Blk) (m' : MapF) (S' : SMap) : Out → Ending → Prop
 | .ret v, e => ∃ cv, e = .returned cv ∧ OutV (hpOf h') (hpOf (h' ++ (recv h'.length v).2)) m' S' h'.length v cv
 | .pan v, e => ∃ cv, e = .panicked [{ v := cv, recovered := false }] ∧ VR (hpOf h') m' S' v cv
structure FinR (ap : AP) (h : List Blk) (m : MapF) (S : SMap) (w : World) (out : Out) (h' : List Blk) (m' : MapF) (S' : SMap) (w' : World) (e : Ending) : Prop where
 srel : SRel ap (hpOf (h' ++ outB h'.length out)) m' S' w'
 fr : Fr (hpOf h) m S w (hpOf (h' ++ outB h'.length out)) m' S' w'
 out : OutE h' m' S' out e
def Enters (P : Program) (f : Nat) : Prop := ∀ args w, (callFunc f args).run P w = .ok (.enter f args) w
structure CallOk (P : Program) (ap : AP) (f : Nat) (args : List AV) (h : List Blk) (out : Out) (h' : List Blk) : Prop where
 len : h'.length = h.length
 ent : Enters P f
 calls : ∀ m S w cargs, SRel ap (hpOf h) m S w → VRL (hpOf h) m S args cargs → Calls P f cargs.toArray w fun e w' => ∃ m' S', FinR ap h m S w out h' m' S' w' e
def HSound (P : Program) (ap : AP) (H : Handler) : Prop := ∀ c f args h out h' md' c', H c .dead f args h = .ok (out, h', md') c' → c'.Ok → c.Ok ∧ CallOk P ap f args h out h'
section
variable {P : Program} {ap : AP} {g : HpF} {m : MapF} {S : SMap} {w : World}
mutual
theorem PR_of_none {m : MapF} {S : SMap} : ∀ (x : AV) {v : Value}, VR (hpOf []) m S x v → PR S x v
 | .int _ _, _, p => by simpa only [VR] using p
 | .bool _, _, p => by simpa only [VR] using p
 | .str _, _, p => by simpa only [VR] using p
 | .nilS, _, p => by simpa only [VR] using p
 | .nilP, _, p => by simpa only [VR] using p
 | .nilF, _, p => by simpa only [VR] using p
 | .nilI, _, p => by simpa only [VR] using p
 | .sl _ _ _, _, p => by simpa only [VR] using p
 | .pp _ _, _, p => by simpa only [VR] using p
 | .dead, _, _ => by simp only [PR]
 | .own _ _ _, _, p => by simp only [VR] at p
 | .ref _ _ _ _, _, p => by simp [VR, hpOf] at p
 | .ptr _ _ _, _, p => by simp [VR, hpOf] at p
 | .agg l, _, p => by
  simp only [VR] at p; simp only [PR]
  obtain ⟨vs, e, q⟩ := p
  exact ⟨vs, e, PRL_of_none l q⟩
 | .tup l, _, p => by
  simp only [VR] at p; simp only [PR]
  obtain ⟨vs, e, q⟩ := p
  exact ⟨vs, e, PRL_of_none l q⟩
 | .fn f a c, _, p => by
  simp only [VR] at p; simp only [PR]
  obtain ⟨va, vc, e, q, r⟩ := p
  exact ⟨va, vc, e, PRL_of_none a q, PRL_of_none c r⟩
 | .ifc t x, _, p => by
  simp only [VR] at p; simp only [PR]
  obtain ⟨u, e, q⟩ := p
  exact ⟨u, e, PR_of_none x q⟩
theorem PRL_of_none {m : MapF} {S : SMap} : ∀ (l : List AV) {vs : List Value}, VRL (hpOf []) m S l vs → PRL S l vs
 | [], [], _ => by simp only [PRL]
 | x :: r, v :: vs, p => by simp only [VRL] at p; simp only [PRL]; exact ⟨PR_of_none x p.1, PRL_of_none r p.2⟩
 | [], _ :: _, p => by simp [VRL] at p
 | _ :: _, [], p => by simp [VRL] at p
end
theorem graft (hS : SRel ap g m S w) {gc gc' : HpF} {mc mc' : MapF} {Sp S' : SMap} {w' : World} (hc : SRel ap gc' mc' S' w') (hf : Fr gc mc Sp w gc' mc' S' w') (ι : Nat → Nat)
  (hdom : ∀ i Bc, gc i = some Bc → ∃ B, g (ι i) = some B ∧ mc i = m (ι i))
  (hSp : SLe S Sp) (hSpN : ∀ k o v, Sp k o = some v → S k o = some v ∨ ∃ b B, g b = some B ∧ (m b).1 = k) {gN : HpF} {mN : MapF} (ρ : Nat → Nat → Option (Nat × Nat)) (hρ : RenOk gc' mc' gN mN ρ)
  (hnew : ∀ i Bc, gc' i = some Bc → ∃ B, gN (ι i) = some B ∧ mN (ι i) = mc' i ∧ B.esz = Bc.esz ∧ B.fro = Bc.fro ∧ B.fz = Bc.fz ∧ B.pr = Bc.pr ∧ (Bc.pr = true → B.cells = Bc.cells) ∧ (Bc.pr = false → B.cells = renL ρ Bc.cells))
  (hold : ∀ b B, gN b = some B → (∃ i Bc, gc' i = some Bc ∧ b = ι i) ∨ (∃ B0, g b = some B0 ∧ mN b = m b ∧ B.cells = B0.cells ∧ B.pr = B0.pr ∧ B.esz = B0.esz ∧ (B.fro = false → B.fz = 0) ∧ B.fz ≤ B.cells.length ∧ (∀ i Bc, gc i = some Bc → b ≠ ι i) ∧ (∀ o v, Sp (m b).1 o = some v → B.fro = true ∧ o < B.fz)))
  (hge : Ge g m gN mN) : SRel ap gN mN S' w' ∧ Fr g m S w gN mN S' w' := by
 have hsle : SLe S S' := hSp.trans hf.sle
 have hcross : ∀ b B0 i Bc, g b = some B0 → gc' i = some Bc → (∀ i Bc, gc i = some Bc → b ≠ ι i) → (m b).1 ≠ (mc' i).1 := by
  intro b B0 i Bc hb hi hno e
  have hlt := hS.lt hb
  rcases hf.img i Bc hi with h1 | ⟨B1, h1, h2⟩
  ·omega
  ·obtain ⟨B2, h3, h4⟩ := hdom i B1 h1
   rw [h4] at h2
   exact hno i B1 h1 (hS.inj b (ι i) B0 B2 hb h3 (e.trans h2))
 constructor
 ·refine ⟨?_, ?_, hc.sealed, ?_, hc.glob⟩
  ·intro b b' B B' hb hb' e
   rcases hold b B hb with ⟨i, Bi, hi, rfl⟩ | ⟨B0, h0, h1, _, _, _, _, _, h2, _⟩ <;> rcases hold b' B' hb' with ⟨j, Bj, hj, rfl⟩ | ⟨B0', h0', h1', _, _, _, _, _, h2', _⟩
   ·obtain ⟨_, _, e1, _⟩ := hnew i Bi hi
    obtain ⟨_, _, e2, _⟩ := hnew j Bj hj
    rw [e1, e2] at e
    rw [hc.inj i j Bi Bj hi hj e]
   ·obtain ⟨_, _, e1, _⟩ := hnew i Bi hi
    rw [e1, h1'] at e
    exact absurd e.symm (hcross b' B0' i Bi h0' hi h2')
   ·obtain ⟨_, _, e2, _⟩ := hnew j Bj hj
    rw [e2, h1] at e
    exact absurd e (hcross b B0 j Bj h0 hj h2)
   ·rw [h1, h1'] at e
    exact hS.inj b b' B0 B0' h0 h0' e
  ·intro b B hb
   rcases hold b B hb with ⟨i, Bi, hi, rfl⟩ | ⟨B0, h0, h1, h3, h4, h5, h6, h7, h2, _⟩
   ·obtain ⟨B1, e0, e1, e2, e3, e4, e5, e6, e7⟩ := hnew i Bi hi
    rw [hb] at e0; cases e0
    rw [e1]
    obtain ⟨⟨cur, e, vs, rest, k1, k2, k3, k4, k5, k6⟩, k7, k8⟩ := hc.blk i Bi hi
    cases hp : Bi.pr with
    | true =>
     have hcells := e6 hp
     refine ⟨⟨cur, e, vs, rest, k1, k2, fun _ => by rw [hcells]; exact k3 hp, by rw [hcells]; exact VRL_of_PRL _ (k3 hp), k5, by rw [e2]; exact k6⟩, by rw [e3, e4]; exact k7, by rw [e4, hcells]; exact k8⟩
    | false =>
     have hcells := e7 hp
     have hv := VRL_ren (SLe.refl S') hρ _ k4
     have hlen : B.cells.length = Bi.cells.length := by rw [VRL_length k4, hcells, VRL_length hv]
     refine ⟨⟨cur, e, vs, rest, k1, k2, (fun h => by rw [e5, hp] at h; cases h), by rw [hcells]; exact hv, k5, by rw [e2]; exact k6⟩, by rw [e3, e4]; exact k7, by rw [e4, hlen]; exact k8⟩
   ·rw [h1]
    have hno : ∀ i Bc, gc i = some Bc → (mc i).1 ≠ (m b).1 := by
     intro i Bc hi e
     obtain ⟨B2, h8, h9⟩ := hdom i Bc hi
     rw [h9] at e
     exact h2 i Bc hi (hS.inj b (ι i) B0 B2 h0 h8 e.symm)
    obtain ⟨⟨cur, e, vs, rest, k1, k2, k3, k4, k5, k6⟩, k7, k8⟩ := hS.blk b B0 h0
    refine ⟨⟨cur, e, vs, rest, by rw [hf.rest _ (hS.lt h0) hno]; exact k1, k2, fun hp => by rw [h3]; rw [h4] at hp; exact PRL_mono hsle _ (k3 hp), by rw [h3]; exact VRL_mono hsle hge _ k4, k5, by rw [h5]; exact k6⟩, h6, h7⟩
  ·intro b B hb o v hv
   rcases hold b B hb with ⟨i, Bi, hi, rfl⟩ | ⟨B0, h0, h1, h3, h4, h5, h6, h7, h2, h8⟩
   ·obtain ⟨B1, e0, e1, e2, e3, e4, e5, e6, e7⟩ := hnew i Bi hi
    rw [hb] at e0; cases e0
    rw [e1] at hv
    rw [e3, e4]
    exact hc.own i Bi hi o v hv
   ·rw [h1] at hv
    rcases hf.sealN _ _ _ hv with h9 | h9 | ⟨i, Bi, hi, h9⟩
    ·exact h8 o v h9
    ·have := hS.lt h0; omega
    ·obtain ⟨B2, h10, h11⟩ := hdom i Bi hi
     rw [h11] at h9
     exact absurd (hS.inj b (ι i) B0 B2 h0 h10 h9.symm) (h2 i Bi hi)
 ·refine ⟨hge, hsle, hf.os, hf.tape, hf.output, hf.size, ?_, ?_, ?_⟩
  ·intro k hk hno
   refine hf.rest k hk fun i Bc hi e => ?_
   obtain ⟨B2, h8, h9⟩ := hdom i Bc hi
   exact hno (ι i) B2 h8 (by rw [← h9]; exact e)
  ·intro b B hb
   rcases hold b B hb with ⟨i, Bi, hi, rfl⟩ | ⟨B0, h0, h1, _⟩
   ·obtain ⟨B1, e0, e1, _⟩ := hnew i Bi hi
    rw [e1]
    rcases hf.img i Bi hi with h1 | ⟨B2, h1, h2⟩
    ·exact .inl h1
    ·obtain ⟨B3, h3, h4⟩ := hdom i B2 h1
     exact .inr ⟨B3, h3, by rw [h2, h4]⟩
   ·exact .inr ⟨B0, h0, by rw [h1]⟩
  ·intro k o v hv
   rcases hf.sealN _ _ _ hv with h9 | h9 | ⟨i, Bi, hi, h9⟩
   ·rcases hSpN _ _ _ h9 with h | h
    ·exact .inl h
    ·exact .inr (.inr h)
   ·exact .inr (.inl h9)
   ·obtain ⟨B2, h10, h11⟩ := hdom i Bi hi
    exact .inr (.inr ⟨ι i, B2, h10, by rw [← h11]; exact h9⟩)
structure Keeps (F : AV → AV) : Prop where
 own : ∀ xs n e, F (.own xs n e) = .own xs n e
 tup : ∀ l, F (.tup l) = .tup (l.map F)
 not : ∀ x, (∀ xs n e, x ≠ .own xs n e) → (∀ xs n e, F x ≠ .own xs n e)
 notT : ∀ x, (∀ l, x ≠ .tup l) → (∀ l, F x ≠ .tup l)
theorem recvL_cons_other (n : Nat) {x : AV} (h : ∀ xs k e, x ≠ .own xs k e) (r : List AV) : recvL n (x :: r) = (x :: (recvL n r).1, (recvL n r).2) := by
 cases x <;> first | rfl | exact absurd rfl (h _ _ _)
theorem recv_other (n : Nat) {x : AV} (h : ∀ xs k e, x ≠ .own xs k e) (h' : ∀ l, x ≠ .tup l) : recv n x = (x, []) := by
 cases x <;> first | rfl | exact absurd rfl (h _ _ _) | exact absurd rfl (h' _)
theorem OutR_cons_other {gh gf : HpF} {n : Nat} {x : AV} (h : ∀ xs k e, x ≠ .own xs k e) {r : List AV} {v : Value} {vs : List Value} : OutR gh gf m S n (x :: r) (v :: vs) = (VR gh m S x v ∧ OutR gh gf m S n r vs) := by
 cases x <;> first | rfl | exact absurd rfl (h _ _ _)
theorem OutV_other {gh gf : HpF} {n : Nat} {x : AV} (h : ∀ xs k e, x ≠ .own xs k e) (h' : ∀ l, x ≠ .tup l) {v : Value} : OutV gh gf m S n x v = VR gh m S x v := by
 cases x <;> first | rfl | exact absurd rfl (h _ _ _) | exact absurd rfl (h' _)
theorem own_or (x : AV) : (∃ xs k e, x = .own xs k e) ∨ (∀ xs k e, x ≠ .own xs k e) := by
 cases x <;> first | exact .inl ⟨_, _, _, rfl⟩ | exact .inr (fun _ _ _ h => by cases h)
theorem tup_or (x : AV) : (∃ l, x = .tup l) ∨ (∀ l, x ≠ .tup l) := by
 cases x <;> first | exact .inl ⟨_, rfl⟩ | exact .inr (fun _ h => by cases h)
theorem recvL_blocks {F : AV → AV} (hF : Keeps F) : ∀ (l : List AV) (a b : Nat), (recvL a (l.map F)).2 = (recvL b l).2
 | [], a, b => rfl
 | x :: r, a, b => by
  rcases own_or x with ⟨xs, k, e, rfl⟩ | hx
  ·simp only [List.map_cons, hF.own, recvL]
   rw [recvL_blocks hF r (a + 1) (b + 1)]
  ·rw [List.map_cons, recvL_cons_other a (hF.not x hx), recvL_cons_other b hx]
   exact recvL_blocks hF r a b
theorem recv_blocks {F : AV → AV} (hF : Keeps F) (x : AV) (a b : Nat) : (recv a (F x)).2 = (recv b x).2 := by
 rcases own_or x with ⟨xs, k, e, rfl⟩ | hx
 ·rw [hF.own]; rfl
 ·rcases tup_or x with ⟨l, rfl⟩ | ht
  ·rw [hF.tup]
   simp only [recv]
   exact recvL_blocks hF l a b
  ·rw [recv_other a (hF.not x hx) (hF.notT x ht), recv_other b hx ht]
theorem recvL_sound {F : AV → AV} (hF : Keeps F) {gh gf gN : HpF} {m mN : MapF} {S : SMap} {n nid : Nat} (hx : ∀ x v, VR gh m S x v → VR gN mN S (F x) v) (hr : ∀ i k v, VR gf m S (.ref (n + i) 0 0 k) v → VR gN mN S (.ref (nid + i) 0 0 k) v) :
  ∀ (l : List AV) (vs : List Value) (j : Nat), OutR gh gf m S (n + j) l vs → VRL gN mN S (recvL (nid + j) (l.map F)).1 vs
 | [], [], j, _ => by simp [recvL, VRL]
 | x :: r, v :: vs, j, h => by
  rcases own_or x with ⟨xs, k, e, rfl⟩ | hxo
  ·simp only [OutR] at h
   simp only [List.map_cons, hF.own, recvL, VRL]
   exact ⟨hr j k v h.1, by have := recvL_sound hF hx hr r vs (j + 1); rw [← Nat.add_assoc, ← Nat.add_assoc] at this; exact this h.2⟩
  ·rw [OutR_cons_other hxo] at h
   rw [List.map_cons, recvL_cons_other _ (hF.not x hxo)]
   simp only [VRL]
   exact ⟨hx x v h.1, recvL_sound hF hx hr r vs j h.2⟩
 | [], _ :: _, _, h => by simp [OutR] at h
 | x :: r, [], _, h => by cases x <;> simp [OutR] at h
theorem recv_sound {F : AV → AV} (hF : Keeps F) {gh gf gN : HpF} {m mN : MapF} {S : SMap} {n nid : Nat} (hx : ∀ x v, VR gh m S x v → VR gN mN S (F x) v) (hr : ∀ i k v, VR gf m S (.ref (n + i) 0 0 k) v → VR gN mN S (.ref (nid + i) 0 0 k) v)
  {x : AV} {v : Value} (h : OutV gh gf m S n x v) : VR gN mN S (recv nid (F x)).1 v := by
 rcases own_or x with ⟨xs, k, e, rfl⟩ | hxo
 ·simp only [OutV] at h
  rw [hF.own]
  exact hr 0 k v h
 ·rcases tup_or x with ⟨l, rfl⟩ | ht
  ·simp only [OutV] at h
   obtain ⟨vs, e, h⟩ := h
   rw [hF.tup]
   simp only [recv, VR]
   exact ⟨vs, e, recvL_sound hF hx hr l vs 0 h⟩
  ·rw [OutV_other hxo ht] at h
   rw [recv_other _ (hF.not x hxo) (hF.notT x ht)]
   exact hx x v h
theorem keeps_id : Keeps id := ⟨fun _ _ _ => rfl, fun l => by simp, fun _ h => h, fun _ h => h⟩
theorem renL_map (ρ : Nat → Nat → Option (Nat × Nat)) : ∀ l, renL ρ l = l.map (ren ρ)
 | [] => rfl
 | x :: r => by simp [renL, renL_map ρ r]
theorem keeps_ren (ρ : Nat → Nat → Option (Nat × Nat)) : Keeps (ren ρ) := by
 refine ⟨fun _ _ _ => rfl, fun l => by simp [ren, renL_map], ?_, ?_⟩
 ·intro x h xs n e hh
  cases x <;> simp only [ren] at hh <;> first
   | (cases hh; done)
   | (split at hh <;> cases hh; done)
   | exact h _ _ _ rfl
 ·intro x h l hh
  cases x <;> simp only [ren] at hh <;> first
   | (cases hh; done)
   | (split at hh <;> cases hh; done)
   | exact h _ rfl
theorem look_numb : ∀ (bs : List Blk) (n b : Nat), look (numb n bs) b = if n ≤ b then bs[b - n]? else none
 | [], n, b => by simp [numb, look]
 | B :: r, n, b => by
  simp only [numb, look]
  cases h : Nat.beq n b with
  | true =>
   have := beq_nat h
   subst this
   simp
  | false =>
   have hne : n ≠ b := by intro e; subst e; simp at h
   rw [look_numb r (n + 1) b]
   by_cases hle : n ≤ b
   ·rw [if_pos hle, if_pos (show n + 1 ≤ b by omega)]
    obtain ⟨d, hd⟩ : ∃ d, b - n = d + 1 := ⟨b - n - 1, by omega⟩
    rw [hd, List.getElem?_cons_succ, show b - (n + 1) = d by omega]
   ·rw [if_neg hle, if_neg (show ¬ n + 1 ≤ b by omega)]
theorem look_mark {rd : HpF} {mk : Blk → Blk} : ∀ (fp : List Nat) (b : Nat), look (fp.filterMap fun b => (rd b).map fun B => (b, mk B)) b = if b ∈ fp then (rd b).map mk else none
 | [], b => by simp [look]
 | a :: r, b => by
  have ih := look_mark (rd := rd) (mk := mk) r b
  cases ha : rd a with
  | none =>
   rw [List.filterMap_cons_none (by simp [ha]), ih]
   by_cases hab : b = a
   ·subst hab; simp [ha]
   ·simp [hab]
  | some B =>
   rw [List.filterMap_cons_some (by simp [ha]; rfl)]
   simp only [look]
   cases h : Nat.beq a b with
   | true => have := beq_nat h; subst this; simp [ha]
   | false =>
    have hne : b ≠ a := by intro e; subst e; simp at h
    simp only [ih, List.mem_cons, hne, false_or]
end
end AM
namespace AM
open Go
def OutF (g : HpF) (m : MapF) (S : SMap) : Out → Ending → Prop
 | .ret v, e => ∃ cv, e = .returned cv ∧ VR g m S v cv
 | .pan v, e => ∃ cv, e = .panicked [{ v := cv, recovered := false }] ∧ VR g m S v cv
def EndR (ap : AP) (g : HpF) (m : MapF) (S : SMap) (w : World) (out : Out) (ups : List (Nat × Blk)) (e : Ending) (w' : World) : Prop :=
 ∃ m' S', SRel ap (updF g ups) m' S' w' ∧ Fr g m S w (updF g ups) m' S' w' ∧ OutF (updF g ups) m' S' out e
theorem hpOf_append_lt {h h' : List Blk} {b : Nat} (hb : b < h.length) : hpOf (h ++ h') b = hpOf h b := by
 simp [hpOf, List.getElem?_append_left hb]
theorem hpOf_append_ge {h h' : List Blk} {b : Nat} (hb : h.length ≤ b) : hpOf (h ++ h') b = hpOf h' (b - h.length) := by
 simp [hpOf, List.getElem?_append_right hb]
def Ownish (l : List Blk) : Prop := ∀ B ∈ l, B.pr = true ∧ B.fro = false ∧ B.ver = 0
theorem recvL_ownish : ∀ (l : List AV) (n : Nat), Ownish (recvL n l).2
 | [], n => by simp [recvL, Ownish]
 | x :: r, n => by
  rcases own_or x with ⟨xs, k, e, rfl⟩ | hx
  ·simp only [recvL]
   intro B hB
   rcases List.mem_cons.1 hB with rfl | hB
   ·exact ⟨rfl, rfl, rfl⟩
   ·exact recvL_ownish r (n + 1) B hB
  ·rw [recvL_cons_other n hx]; exact recvL_ownish r n
theorem recv_ownish (x : AV) (n : Nat) : Ownish (recv n x).2 := by
 rcases own_or x with ⟨xs, k, e, rfl⟩ | hx
 ·intro B hB
  simp [recv] at hB
  subst hB
  exact ⟨rfl, rfl, rfl⟩
 ·rcases tup_or x with ⟨l, rfl⟩ | ht
  ·simp only [recv]; exact recvL_ownish l n
  ·rw [recv_other n hx ht]; simp [Ownish]
theorem outB_ownish (o : Out) (n : Nat) : Ownish (outB n o) := by
 cases o with
 | ret v => exact recv_ownish v n
 | pan v => simp [outB, Ownish]
section
variable {P : Program} {ap : AP} {g : HpF} {m : MapF} {S : SMap} {w : World}
def ownOut (nid : Nat) (F : AV → AV) : Out → Out
 | .ret v => .ret (recv nid (F v)).1
 | .pan v => .pan (F v)
theorem call_frozen (hS : SRel ap g m S w) {rd : HpF} (hrd : ∀ b B, rd b = some B → g b = some B) {fp : List Nat} (hfp : ∀ b B, rd b = some B → b ∈ fp) {nid : Nat} {args args' : List AV} {cargs : List Value} {out : Out}
  (ha : mapO (frz rd 6) args = some args') (hv : VRL g m S args cargs) {C : List Value → (Ending → World → Prop) → Prop} (hmono : ∀ cargs R R', C cargs R → (∀ e w', R e w' → R' e w') → C cargs R')
  (hc : ∀ m1 S1, SLe S S1 → SRel ap (hpOf []) m1 S1 w → VRL (hpOf []) m1 S1 args' cargs → C cargs fun e w' => ∃ m' S', FinR ap [] m1 S1 w out [] m' S' w' e) (hfr : ∀ i, i < (outB 0 out).length → g (nid + i) = none) :
  C cargs fun e w' => EndR ap g m S w (ownOut nid id out) (numb nid (outB 0 out) ++ fp.filterMap fun b => (rd b).map fun B => (b, { B with fro := true, fz := B.cells.length })) e w' := by
 have hpr : PRL (sealUp S m rd w) args' cargs := PRL_of_mapO (fun x v y h1 h2 => frz_sound hS hrd 6 x v y h1 h2) ha hv
 have hle := sealUp_le S m rd w
 let m0 : MapF := fun _ => (0, 0)
 have hS0 : SRel ap (hpOf []) m0 (sealUp S m rd w) w := by
  refine ⟨fun b b' B B' h => by simp [hpOf] at h, fun b B h => by simp [hpOf] at h, fun k o v h => sealUp_cell hS h, fun b B h => by simp [hpOf] at h, ?_⟩
  intro k xs hk
  obtain ⟨vs, h1, h2⟩ := hS.glob k xs hk
  exact ⟨vs, PRL_mono hle _ h1, h2.mono hle⟩
 refine hmono _ _ _ (hc m0 (sealUp S m rd w) hle hS0 (VRL_of_PRL _ hpr)) ?_
 rintro e w' ⟨m', S', hF⟩
 obtain ⟨hsr, hfr', hout⟩ := hF
 simp only [List.nil_append, List.length_nil] at hsr hfr' hout
 generalize hbs : outB 0 out = bs at hsr hfr' hfr
 have hown : Ownish bs := hbs ▸ outB_ownish out 0
 let gN : HpF := updF g (numb nid bs ++ fp.filterMap fun b => (rd b).map fun B => (b, { B with fro := true, fz := B.cells.length }))
 let mN : MapF := fun b => if nid ≤ b ∧ b - nid < bs.length then m' (b - nid) else m b
 have hgN : ∀ b, gN b = if nid ≤ b ∧ b - nid < bs.length then bs[b - nid]? else match rd b with | some B => some { B with fro := true, fz := B.cells.length } | none => g b := by
  intro b
  show updF g _ b = _
  unfold updF
  have hmk : ∀ mk : Blk → Blk, (if b ∈ fp then (rd b).map mk else none) = (rd b).map mk := by
   intro mk
   split
   ·rfl
   ·rename_i hb
    cases hr : rd b with
    | none => rfl
    | some B => exact absurd (hfp b B hr) hb
  rw [look_append, look_numb, look_mark, hmk]
  by_cases h1 : nid ≤ b
  ·by_cases h2 : b - nid < bs.length
   ·have hc : nid ≤ b ∧ b - nid < bs.length := ⟨h1, h2⟩
    rw [if_pos h1, if_pos hc, List.getElem?_eq_getElem h2]
   ·have hc : ¬ (nid ≤ b ∧ b - nid < bs.length) := fun h => h2 h.2
    rw [if_pos h1, if_neg hc, List.getElem?_eq_none (Nat.le_of_not_lt h2)]
    cases rd b <;> rfl
  ·have hc : ¬ (nid ≤ b ∧ b - nid < bs.length) := fun h => h1 h.1
   rw [if_neg h1, if_neg hc]
   cases rd b <;> rfl
 have hnidg : ∀ b B, g b = some B → ¬ (nid ≤ b ∧ b - nid < bs.length) := by
  rintro b B hb ⟨h1, h2⟩
  have := hfr (b - nid) h2
  rw [show nid + (b - nid) = b by omega, hb] at this
  cases this
 have hge : Ge g m gN mN := by
  intro b B hb
  have hn := hnidg b B hb
  have hm : mN b = m b := if_neg hn
  rw [hgN, if_neg hn]
  cases hr : rd b with
  | none => exact ⟨B, hb, rfl, .inl ⟨rfl, hm⟩⟩
  | some B1 =>
   have := hrd b B1 hr
   rw [hb] at this; cases this
   exact ⟨_, rfl, rfl, .inl ⟨rfl, hm⟩⟩
 have hmN : ∀ i B, bs[i]? = some B → gN (nid + i) = some B ∧ mN (nid + i) = m' i := by
  intro i B hi
  have hl := (List.getElem?_eq_some_iff.1 hi).1
  have hc : nid ≤ nid + i ∧ nid + i - nid < bs.length := by omega
  refine ⟨by rw [hgN, if_pos hc, show nid + i - nid = i by omega]; exact hi, ?_⟩
  show (if _ then _ else _) = _
  rw [if_pos hc, show nid + i - nid = i by omega]
 obtain ⟨hsN, hfN⟩ := graft (g := g) (m := m) (S := S) (w := w) hS hsr hfr' (fun i => nid + i) (fun i Bc h => by simp [hpOf] at h) hle
  (fun k o v h => (sealUp_spec h).imp id fun ⟨_, b, B, h1, h2, _⟩ => ⟨b, B, hrd b B h1, h2⟩) (gN := gN) (mN := mN) (fun i v => some (nid + i, v))
  (by
   intro b ver b' ver' h B hB hver
   simp only [Option.some.injEq, Prod.mk.injEq] at h
   obtain ⟨rfl, rfl⟩ := h
   obtain ⟨h1, h2⟩ := hmN b B hB
   exact ⟨B, h1, hver, fun e => ⟨e, h2, rfl⟩⟩)
  (by
   intro i Bc hi
   obtain ⟨h1, h2⟩ := hmN i Bc hi
   exact ⟨Bc, h1, h2, rfl, rfl, rfl, rfl, fun _ => rfl, fun hp => by rw [(hown Bc (List.mem_of_getElem? hi)).1] at hp; cases hp⟩)
  (by
   intro b B hb
   by_cases hc : nid ≤ b ∧ b - nid < bs.length
   ·rw [hgN, if_pos hc] at hb
    exact .inl ⟨b - nid, B, hb, by omega⟩
   ·have hm : mN b = m b := if_neg hc
    rw [hgN, if_neg hc] at hb
    right
    cases hr : rd b with
    | none =>
     rw [hr] at hb
     have hb : g b = some B := hb
     refine ⟨B, hb, hm, rfl, rfl, rfl, (hS.blk b B hb).fz0, (hS.blk b B hb).fzle, (fun i Bc h => by simp [hpOf] at h), ?_⟩
     intro o v ho
     rcases sealUp_spec ho with h | ⟨_, b1, B1, h1, h2, _⟩
     ·exact hS.own b B hb o v h
     ·have := hS.inj b1 b B1 B (hrd _ _ h1) hb h2
      subst this
      rw [h1] at hr; cases hr
    | some B1 =>
     rw [hr] at hb
     have hb : some { B1 with fro := true, fz := B1.cells.length } = some B := hb
     cases hb
     have hg1 := hrd b B1 hr
     refine ⟨B1, hg1, hm, rfl, rfl, rfl, (fun h => by cases h), Nat.le_refl _, (fun i Bc h => by simp [hpOf] at h), ?_⟩
     intro o v ho
     refine ⟨rfl, ?_⟩
     rcases sealUp_spec ho with h | ⟨_, b1, B2, h1, h2, h3⟩
     ·exact Nat.lt_of_lt_of_le (hS.own b B1 hg1 o v h).2 (hS.blk b B1 hg1).fzle
     ·have := hS.inj b1 b B2 B1 (hrd _ _ h1) hg1 h2
      subst this
      rw [h1] at hr; cases hr
      exact h3)
  hge
 refine ⟨mN, S', hsN, hfN, ?_⟩
 show OutF gN mN S' (ownOut nid id out) e
 cases out with
 | ret v =>
  obtain ⟨cv, e1, h1⟩ := hout
  refine ⟨cv, e1, ?_⟩
  have hbs' : (recv 0 v).2 = bs := hbs
  simp only [List.length_nil, List.nil_append, hbs'] at h1
  refine recv_sound (n := 0) keeps_id (fun x v hx => VR_of_PR x (PR_of_none x hx)) ?_ h1
  intro i k v hx
  rw [Nat.zero_add] at hx
  simp only [VR] at hx ⊢
  obtain ⟨B, h2, h3, h4, h5⟩ := hx
  obtain ⟨h6, h7⟩ := hmN i B h2
  exact ⟨B, h6, h3, h4, by rw [h7]; exact h5⟩
 | pan v =>
  obtain ⟨cv, e1, h1⟩ := hout
  exact ⟨cv, e1, VR_of_PR _ (PR_of_none _ h1)⟩
end
end AM
namespace AM
open Go
theorem nodupT_cons {b : Nat} {r : List Nat} (h : nodupT (b :: r) = true) : b ∉ r ∧ nodupT r = true := by
 simp only [nodupT, Bool.and_eq_true, Bool.not_eq_true'] at h
 refine ⟨fun hb => ?_, h.2⟩
 rw [memN_iff.2 hb] at h
 cases h.1
theorem idxN_some : ∀ {l : List Nat} {b p : Nat}, idxN l b = some p → l[p]? = some b
 | [], b, p, h => by simp [idxN] at h
 | c :: r, b, p, h => by
  simp only [idxN] at h
  split at h
  ·rename_i hc; cases h; rw [beq_nat hc]; rfl
  ·simp only [Option.map_eq_some_iff] at h
   obtain ⟨q, hq, rfl⟩ := h
   simpa using idxN_some hq
theorem idxN_of : ∀ {l : List Nat} {b p : Nat}, nodupT l = true → l[p]? = some b → idxN l b = some p
 | [], b, p, _, h => by simp at h
 | c :: r, b, 0, hn, h => by simp at h; subst h; simp [idxN]
 | c :: r, b, p + 1, hn, h => by
  obtain ⟨h1, h2⟩ := nodupT_cons hn
  have h : r[p]? = some b := by simpa using h
  have hne : Nat.beq c b = false := by
   cases hc : Nat.beq c b with
   | false => rfl
   | true => exact absurd (beq_nat hc ▸ List.mem_of_getElem? h) h1
  simp [idxN, hne, idxN_of h2 h]
theorem look_zip {mk : Nat → Blk → Blk} : ∀ (fp : List Nat) (h' : List Blk) (b : Nat), look ((zipB fp h').map fun (b, B) => (b, mk b B)) b = (idxN fp b).bind fun p => (h'[p]?).map (mk b)
 | [], h', b => by cases h' <;> simp [zipB, look, idxN]
 | a :: r, [], b => by
  simp only [zipB, List.map_nil, look, idxN]
  cases Nat.beq a b with
  | true => rfl
  | false => cases idxN r b <;> rfl
 | a :: r, B :: q, b => by
  simp only [zipB, List.map_cons, look, idxN]
  cases h : Nat.beq a b with
  | true => have := beq_nat h; subst this; rfl
  | false =>
   simp only [look_zip r q b]
   cases idxN r b <;> simp
section
variable {P : Program} {ap : AP} {g : HpF} {m : MapF} {S : SMap} {w : World}
def shB (ρ : Nat → Nat → Option (Nat × Nat)) (B : Blk) : Blk := { B with cells := (match B.pr with | true => B.cells | false => renL ρ B.cells), ver := 0 }
def bkB (ρ : Nat → Nat → Option (Nat × Nat)) (v : Nat) (B : Blk) : Blk := { B with cells := (match B.pr with | true => B.cells | false => renL ρ B.cells), ver := v + B.ver }
theorem call_shared (hS : SRel ap g m S w) {rd : HpF} (hrd : ∀ b B, rd b = some B → g b = some B) {fp : List Nat} {bl : List Blk} (hbl : mapO rd fp = some bl) (hnd : nodupT fp = true) {nid : Nat} {args : List AV} {cargs : List Value} {out : Out}
  {vers : Nat → Nat} (hvers : ∀ b B, rd b = some B → vers b = B.ver) {ρ ρ' : Nat → Nat → Option (Nat × Nat)} (hρe : ∀ b v, ρ b v = match Nat.beq v (vers b) with | true => (idxN fp b).map fun p => (p, 0) | false => none)
  (hρe' : ∀ p v, ρ' p v = (fp[p]?).map fun b => (b, vers b + v)) {h' : List Blk}
  (hv : VRL g m S args cargs) {C : List Value → (Ending → World → Prop) → Prop} (hmono : ∀ cargs R R', C cargs R → (∀ e w', R e w' → R' e w') → C cargs R')
  (hc : ∀ m1 S1, SLe S S1 → SRel ap (hpOf (bl.map (shB ρ))) m1 S1 w → VRL (hpOf (bl.map (shB ρ))) m1 S1 (renL ρ args) cargs → C cargs fun e w' => ∃ m' S', FinR ap (bl.map (shB ρ)) m1 S1 w out h' m' S' w' e) (hl : h'.length = fp.length) (hfr : ∀ i, i < (outB h'.length out).length → g (nid + i) = none) :
  C cargs fun e w' => EndR ap g m S w (ownOut nid (ren ρ') out) (numb nid (outB h'.length out) ++ (zipB fp h').map fun (b, B) => (b, bkB ρ' (vers b) B)) e w' := by
 have hfpg : ∀ p b, fp[p]? = some b → ∃ B, rd b = some B ∧ g b = some B ∧ hpOf (bl.map (shB ρ)) p = some (shB ρ B) := by
  intro p b hp
  obtain ⟨B, h1, h2⟩ := (mapO_get hbl).2 p b hp
  exact ⟨B, h2, hrd b B h2, by simp [hpOf, h1]⟩
 have hgc : ∀ p Bc, hpOf (bl.map (shB ρ)) p = some Bc → ∃ b B, fp[p]? = some b ∧ rd b = some B ∧ g b = some B ∧ Bc = shB ρ B := by
  intro p Bc hp
  have hlt : p < fp.length := by
   have := (List.getElem?_eq_some_iff.1 hp).1
   rw [List.length_map, (mapO_get hbl).1] at this
   exact this
  obtain ⟨B, h1, h2, h3⟩ := hfpg p _ (List.getElem?_eq_getElem hlt)
  rw [h3] at hp; cases hp
  exact ⟨_, B, List.getElem?_eq_getElem hlt, h1, h2, rfl⟩
 let mc : MapF := fun p => m (fp.getD p 0)
 have hmc : ∀ p b, fp[p]? = some b → mc p = m b := by
  intro p b hp
  show m (fp.getD p 0) = _
  rw [List.getD_eq_getElem?_getD, hp]; rfl
 have hren : RenOk g m (hpOf (bl.map (shB ρ))) mc ρ := by
  intro b ver b' ver' h B hB hver
  rw [hρe] at h
  split at h
  ·rename_i hve
   simp only [Option.map_eq_some_iff, Prod.mk.injEq] at h
   obtain ⟨p, hp, rfl, rfl⟩ := h
   have hp := idxN_some hp
   obtain ⟨B1, h1, h2, h3⟩ := hfpg p b hp
   rw [h2] at hB; cases hB
   exact ⟨_, h3, Nat.zero_le _, fun _ => ⟨by rw [beq_nat hve, hvers b _ h1], hmc p b hp, rfl⟩⟩
  ·cases h
 have hSc : SRel ap (hpOf (bl.map (shB ρ))) mc S w := by
  refine ⟨?_, ?_, hS.sealed, ?_, hS.glob⟩
  ·intro p q Bp Bq hp hq e
   obtain ⟨b, B, h1, h2, h3, _⟩ := hgc p Bp hp
   obtain ⟨b', B', h1', h2', h3', _⟩ := hgc q Bq hq
   rw [hmc p b h1, hmc q b' h1'] at e
   have := hS.inj b b' B B' h3 h3' e
   subst this
   have e1 := idxN_of hnd h1
   rw [idxN_of hnd h1'] at e1
   cases e1; rfl
  ·intro p Bp hp
   obtain ⟨b, B, h1, h2, h3, rfl⟩ := hgc p Bp hp
   rw [hmc p b h1]
   obtain ⟨⟨cur, e, vs, rest, k1, k2, k3, k4, k5, k6⟩, k7, k8⟩ := hS.blk b B h3
   cases hp : B.pr with
   | true => exact ⟨⟨cur, e, vs, rest, k1, k2, fun _ => by simpa [shB, hp] using k3 hp, by simpa [shB, hp] using VRL_of_PRL _ (k3 hp), k5, k6⟩, k7, by simpa [shB, hp] using k8⟩
   | false =>
    have hv := VRL_ren (SLe.refl S) hren _ k4
    exact ⟨⟨cur, e, vs, rest, k1, k2, fun h => by simp [shB, hp] at h, by simpa [shB, hp] using hv, k5, k6⟩, k7, by
     have : (shB ρ B).cells.length = B.cells.length := by simp only [shB, hp]; rw [VRL_length k4, VRL_length hv]
     rw [this]; exact k8⟩
  ·intro p Bp hp o v ho
   obtain ⟨b, B, h1, h2, h3, rfl⟩ := hgc p Bp hp
   rw [hmc p b h1] at ho
   exact hS.own b B h3 o v ho
 refine hmono _ _ _ (hc mc S (SLe.refl S) hSc (VRL_ren (SLe.refl S) hren _ hv)) ?_
 rintro e w' ⟨m', S', hF⟩
 obtain ⟨hsr, hfr', hout⟩ := hF
 generalize hbs : outB h'.length out = bs at hsr hfr' hfr
 have hown : Ownish bs := hbs ▸ outB_ownish out h'.length
 let ups := (zipB fp h').map fun (b, B) => (b, bkB ρ' (vers b) B)
 let gN : HpF := updF g (numb nid bs ++ ups)
 let mN : MapF := fun b => if nid ≤ b ∧ b - nid < bs.length then m' (fp.length + (b - nid)) else match idxN fp b with | some p => m' p | none => m b
 have hgN : ∀ b, gN b = if nid ≤ b ∧ b - nid < bs.length then bs[b - nid]? else match (idxN fp b).bind fun p => (h'[p]?).map (bkB ρ' (vers b)) with | some B => some B | none => g b := by
  intro b
  show updF g _ b = _
  unfold updF
  rw [look_append, look_numb, look_zip (mk := fun b B => bkB ρ' (vers b) B)]
  by_cases h1 : nid ≤ b
  ·by_cases h2 : b - nid < bs.length
   ·have hc : nid ≤ b ∧ b - nid < bs.length := ⟨h1, h2⟩
    rw [if_pos h1, if_pos hc, List.getElem?_eq_getElem h2]
   ·have hc : ¬ (nid ≤ b ∧ b - nid < bs.length) := fun h => h2 h.2
    rw [if_pos h1, if_neg hc, List.getElem?_eq_none (Nat.le_of_not_lt h2)]
    rfl
  ·have hc : ¬ (nid ≤ b ∧ b - nid < bs.length) := fun h => h1 h.1
   rw [if_neg h1, if_neg hc]
   rfl
 have hnidg : ∀ b B, g b = some B → ¬ (nid ≤ b ∧ b - nid < bs.length) := by
  rintro b B hb ⟨h1, h2⟩
  have := hfr (b - nid) h2
  rw [show nid + (b - nid) = b by omega, hb] at this
  cases this
 have hh' : ∀ p, p < fp.length → ∃ B, h'[p]? = some B := fun p hp => ⟨_, List.getElem?_eq_getElem (by omega)⟩
 have hsh : ∀ p b, fp[p]? = some b → ∀ Bc, h'[p]? = some Bc → gN b = some (bkB ρ' (vers b) Bc) ∧ mN b = m' p := by
  intro p b hp Bc hB
  obtain ⟨B, h1, h2, h3⟩ := hfpg p b hp
  have hn := hnidg b B h2
  refine ⟨by rw [hgN, if_neg hn, idxN_of hnd hp]; simp [hB], ?_⟩
  show (if _ then _ else _) = _
  rw [if_neg hn, idxN_of hnd hp]
 have hmN : ∀ i B, bs[i]? = some B → gN (nid + i) = some B ∧ mN (nid + i) = m' (fp.length + i) := by
  intro i B hi
  have hl := (List.getElem?_eq_some_iff.1 hi).1
  have hc : nid ≤ nid + i ∧ nid + i - nid < bs.length := by omega
  refine ⟨by rw [hgN, if_pos hc, show nid + i - nid = i by omega]; exact hi, ?_⟩
  show (if _ then _ else _) = _
  rw [if_pos hc, show nid + i - nid = i by omega]
 have hlow : ∀ p Bc, hpOf (h' ++ bs) p = some Bc → (p < fp.length ∧ h'[p]? = some Bc) ∨ (fp.length ≤ p ∧ bs[p - fp.length]? = some Bc) := by
  intro p Bc h
  by_cases hp : p < fp.length
  ·rw [hpOf_append_lt (by omega)] at h; exact .inl ⟨hp, h⟩
  ·rw [hpOf_append_ge (by omega), hl] at h; exact .inr ⟨by omega, h⟩
 have hren' : RenOk (hpOf (h' ++ bs)) m' gN mN ρ' := by
  intro p ver b' ver' h Bc hB hver
  rw [hρe'] at h
  simp only [Option.map_eq_some_iff, Prod.mk.injEq] at h
  obtain ⟨b, hp, rfl, rfl⟩ := h
  rcases hlow p Bc hB with ⟨h1, h2⟩ | ⟨h1, _⟩
  ·obtain ⟨h3, h4⟩ := hsh p b hp Bc h2
   exact ⟨_, h3, by simp only [bkB]; omega, fun e => ⟨by simp only [bkB] at e; omega, h4, rfl⟩⟩
  ·have := (List.getElem?_eq_some_iff.1 hp).1; omega
 have hge : Ge g m gN mN := by
  intro b B hb
  have hn := hnidg b B hb
  cases hi : idxN fp b with
  | none =>
   have hm : mN b = m b := by
    show (if _ then _ else _) = _
    rw [if_neg hn, hi]
   refine ⟨B, ?_, rfl, .inl ⟨rfl, hm⟩⟩
   rw [hgN, if_neg hn, hi]; exact hb
  | some p =>
   have hp := idxN_some hi
   obtain ⟨B1, h1, h2, h3⟩ := hfpg p b hp
   rw [h2] at hb; cases hb
   obtain ⟨Bc, h4, h5, h6⟩ := hfr'.ge p _ h3
   rcases hlow p Bc h4 with ⟨_, h7⟩ | ⟨h7, _⟩
   ·obtain ⟨h8, h9⟩ := hsh p b hp Bc h7
    refine ⟨_, h8, h5, ?_⟩
    rcases h6 with ⟨h6, h6'⟩ | h6
    ·left
     refine ⟨?_, by rw [h9, h6', hmc p b hp]⟩
     simp only [bkB, shB] at h6 ⊢
     rw [hvers b _ h1]; omega
    ·right
     simp only [bkB, shB] at h6 ⊢
     rw [hvers b _ h1]; omega
   ·have := (List.getElem?_eq_some_iff.1 hp).1; omega
 let ι : Nat → Nat := fun p => if p < fp.length then fp.getD p 0 else nid + (p - fp.length)
 have hι : ∀ p b, fp[p]? = some b → ι p = b := by
  intro p b hp
  show (if _ then _ else _) = _
  rw [if_pos (List.getElem?_eq_some_iff.1 hp).1, List.getD_eq_getElem?_getD, hp]; rfl
 have hι' : ∀ i, ι (fp.length + i) = nid + i := by
  intro i
  show (if _ then _ else _) = _
  rw [if_neg (by omega)]; congr 1; omega
 obtain ⟨hsN, hfN⟩ := graft (g := g) (m := m) (S := S) (w := w) hS hsr hfr' ι
  (by
   intro p Bc hp
   obtain ⟨b, B, h1, h2, h3, rfl⟩ := hgc p Bc hp
   rw [hι p b h1]
   exact ⟨B, h3, hmc p b h1⟩) (SLe.refl S) (fun k o v h => .inl h) (gN := gN) (mN := mN) ρ' hren'
  (by
   intro p Bc hp
   rcases hlow p Bc hp with ⟨h1, h2⟩ | ⟨h1, h2⟩
   ·have hp := List.getElem?_eq_getElem h1
    obtain ⟨h3, h4⟩ := hsh p _ hp Bc h2
    rw [hι p _ hp]
    exact ⟨_, h3, h4, rfl, rfl, rfl, rfl, fun h => by simp [bkB, h], fun h => by simp [bkB, h]⟩
   ·obtain ⟨i, rfl⟩ : ∃ i, p = fp.length + i := ⟨p - fp.length, by omega⟩
    rw [show fp.length + i - fp.length = i by omega] at h2
    obtain ⟨h3, h4⟩ := hmN i Bc h2
    rw [hι' i]
    exact ⟨Bc, h3, h4, rfl, rfl, rfl, rfl, fun _ => rfl, fun hp => by rw [(hown Bc (List.mem_of_getElem? h2)).1] at hp; cases hp⟩)
  (by
   intro b B hb
   by_cases hc : nid ≤ b ∧ b - nid < bs.length
   ·rw [hgN, if_pos hc] at hb
    refine .inl ⟨fp.length + (b - nid), B, ?_, by rw [hι']; omega⟩
    rw [hpOf_append_ge (by omega), hl, show fp.length + (b - nid) - fp.length = b - nid by omega]; exact hb
   ·rw [hgN, if_neg hc] at hb
    cases hi : idxN fp b with
    | some p =>
     have hp := idxN_some hi
     have hlt := (List.getElem?_eq_some_iff.1 hp).1
     obtain ⟨Bc, h4⟩ := hh' p hlt
     exact .inl ⟨p, Bc, by rw [hpOf_append_lt (by omega)]; exact h4, (hι p b hp).symm⟩
    | none =>
     have hm : mN b = m b := by
      show (if _ then _ else _) = _
      rw [if_neg hc, hi]
     rw [hi] at hb
     have hb : g b = some B := hb
     refine .inr ⟨B, hb, hm, rfl, rfl, rfl, (hS.blk b B hb).fz0, (hS.blk b B hb).fzle, ?_, fun o v ho => hS.own b B hb o v ho⟩
     intro p Bc hp e
     obtain ⟨b1, B1, h1, _⟩ := hgc p Bc hp
     rw [hι p b1 h1] at e
     subst e
     rw [idxN_of hnd h1] at hi; cases hi)
  hge
 refine ⟨mN, S', hsN, hfN, ?_⟩
 show OutF gN mN S' (ownOut nid (ren ρ') out) e
 have hrenh : RenOk (hpOf h') m' gN mN ρ' := by
  intro p ver b' ver' h Bc hB hver
  refine hren' p ver b' ver' h Bc ?_ hver
  rw [hpOf_append_lt (List.getElem?_eq_some_iff.1 hB).1]; exact hB
 cases out with
 | ret v =>
  obtain ⟨cv, e1, h1⟩ := hout
  refine ⟨cv, e1, ?_⟩
  have hbs' : (recv h'.length v).2 = bs := hbs
  rw [hbs'] at h1
  refine recv_sound (n := h'.length) (keeps_ren ρ') (fun x v hx => VR_ren (SLe.refl S') hrenh x hx) ?_ h1
  intro i k v hx
  simp only [VR] at hx ⊢
  obtain ⟨B, h2, h3, h4, h5⟩ := hx
  rw [hpOf_append_ge (by omega), show h'.length + i - h'.length = i by omega] at h2
  obtain ⟨h6, h7⟩ := hmN i B h2
  rw [hl] at h5
  exact ⟨B, h6, h3, h4, by rw [h7]; exact h5⟩
 | pan v =>
  obtain ⟨cv, e1, h1⟩ := hout
  exact ⟨cv, e1, VR_ren (SLe.refl S') hrenh _ h1⟩
end
end AM
namespace AM
open Go
section
variable {P : Program} {ap : AP} {H : Handler}
theorem callStep_gen {rd0 : HpF} {nid f : Nat} {args : List AV} {md : AV} {c c' : Cx} {r : CallR} (h : callStep ap H rd0 nid md f args c = .ok r c') :
  ∃ args0 h0 out0 h0', H c md f args0 h0 = .ok (out0, h0', r.md) c' ∧ ((∃ v, out0 = .ret v) ↔ ∃ v, r.out = .ret v) ∧
  ∀ g m S w cargs (C : List Value → (Ending → World → Prop) → Prop), (∀ cargs R R', C cargs R → (∀ e w', R e w' → R' e w') → C cargs R') → SRel ap g m S w → (∀ b ∈ r.fp, ∀ B, rd0 b = some B → g b = some B) → (∀ i, i < 4 → g (nid + i) = none) → VRL g m S args cargs →
   (∀ m1 S1, SLe S S1 → SRel ap (hpOf h0) m1 S1 w → VRL (hpOf h0) m1 S1 args0 cargs → C cargs fun e w' => ∃ m' S', FinR ap h0 m1 S1 w out0 h0' m' S' w' e) →
   C cargs fun e w' => EndR ap g m S w r.out r.ups e w' := by
 unfold callStep at h
 simp only at h
 generalize hfp : clos rd0 6 (nodupN (refsL args)) = fp at h
 let rd : HpF := fun b => match memN fp b with | true => rd0 b | false => none
 have hmem : ∀ b B, rd b = some B → b ∈ fp ∧ rd0 b = some B := by
  intro b B hb
  dsimp only [rd] at hb
  split at hb
  ·rename_i hm; exact ⟨memN_iff.1 hm, hb⟩
  ·cases hb
 split at h
 ·split at h
  ·cases h
  ·rename_i args' ha
   obtain ⟨⟨out, h', md⟩, c1, e1, h⟩ := R.bind_ok h
   dsimp only at h
   split at h
   ·cases h
   ·split at h
    ·rename_i v
     split at h
     ·rename_i hle
      cases h
      refine ⟨_, _, _, _, e1, ⟨fun _ => ⟨_, rfl⟩, fun _ => ⟨_, rfl⟩⟩, ?_⟩
      intro g m S w cargs C hmono hS hag hfr hv hc
      have hrec : outB 0 (Out.ret v) = (recv nid v).2 := recv_blocks keeps_id v 0 nid
      have := call_frozen hS (rd := rd) (fun b B hb => hag b (hmem b B hb).1 B (hmem b B hb).2) (fun b B hb => (hmem b B hb).1) (nid := nid) ha hv hmono hc (fun i hi => hfr i (by rw [hrec] at hi; have := ble_nat hle; omega))
      rw [hrec] at this
      exact this
     ·cases h
    ·rename_i v
     cases h
     refine ⟨_, _, _, _, e1, ⟨(fun ⟨_, h⟩ => by cases h), (fun ⟨_, h⟩ => by cases h)⟩, ?_⟩
     intro g m S w cargs C hmono hS hag hfr hv hc
     exact call_frozen hS (rd := rd) (fun b B hb => hag b (hmem b B hb).1 B (hmem b B hb).2) (fun b B hb => (hmem b B hb).1) (nid := nid) ha hv hmono hc (fun i hi => by simp [outB] at hi)
 ·split at h
  ·cases h
  ·rename_i bl hbl
   obtain ⟨⟨out, h', md⟩, c1, e1, h⟩ := R.bind_ok h
   dsimp only at h
   split at h
   ·cases h
   ·rename_i hcond
    simp only [Bool.and_eq_true] at hcond
    have hl := beq_nat hcond.1
    let vers : Nat → Nat := fun b => match rd b with | some B => B.ver | none => 0
    have hvers' : ∀ b B, rd b = some B → vers b = B.ver := by
     intro b B hb; simp only [vers, hb]
    let ρ' : Nat → Nat → Option (Nat × Nat) := fun p v => (fp[p]?).map fun b => (b, vers b + v)
    split at h
    ·rename_i v
     split at h
     ·rename_i hle
      cases h
      refine ⟨_, _, _, _, e1, ⟨fun _ => ⟨_, rfl⟩, fun _ => ⟨_, rfl⟩⟩, ?_⟩
      intro g m S w cargs C hmono hS hag hfr hv hc
      have hrec : outB h'.length (Out.ret v) = (recv nid (ren ρ' v)).2 := (recv_blocks (keeps_ren ρ') v nid h'.length).symm
      have := call_shared hS (rd := rd) (fun b B hb => hag b (hmem b B hb).1 B (hmem b B hb).2) hbl hcond.2 (nid := nid) hvers' (ρ' := ρ') (fun b v => rfl) (fun p v => rfl) hv hmono hc hl (fun i hi => hfr i (by rw [hrec] at hi; exact Nat.lt_of_lt_of_le hi (ble_nat hle)))
      rw [hrec] at this
      exact this
     ·cases h
    ·rename_i v
     cases h
     refine ⟨_, _, _, _, e1, ⟨(fun ⟨_, h⟩ => by cases h), (fun ⟨_, h⟩ => by cases h)⟩, ?_⟩
     intro g m S w cargs C hmono hS hag hfr hv hc
     exact call_shared hS (rd := rd) (fun b B hb => hag b (hmem b B hb).1 B (hmem b B hb).2) hbl hcond.2 (nid := nid) hvers' (ρ' := ρ') (fun b v => rfl) (fun p v => rfl) hv hmono hc hl (fun i hi => by simp [outB] at hi)
theorem callStep_sound (hH : HSound P ap H) {rd0 : HpF} {nid f : Nat} {args : List AV} {c c' : Cx} {r : CallR} (h : callStep ap H rd0 nid .dead f args c = .ok r c') (hc : c'.Ok) :
  c.Ok ∧ Enters P f ∧ ∀ g m S w cargs, SRel ap g m S w → (∀ b ∈ r.fp, ∀ B, rd0 b = some B → g b = some B) → (∀ i, i < 4 → g (nid + i) = none) → VRL g m S args cargs →
   Calls P f cargs.toArray w fun e w' => EndR ap g m S w r.out r.ups e w' := by
 obtain ⟨args0, h0, out0, h0', e1, _, hg⟩ := callStep_gen h
 obtain ⟨hc0, hq⟩ := hH _ _ _ _ _ _ _ _ e1 hc
 refine ⟨hc0, hq.ent, fun g m S w cargs hS hag hfr hv => ?_⟩
 exact hg g m S w cargs (fun cargs R => Calls P f cargs.toArray w R) (fun _ _ _ h1 h2 => h1.mono h2) hS hag hfr hv fun m1 S1 _ h1 h2 => hq.calls m1 S1 w cargs h1 h2
end
end AM
namespace AM
open Go
def DecOk (dec : List (Nat × Bool)) (env : Env) : Prop := ∀ t b, look dec t = some b → env.get t = .bool b
def DefR (g : HpF) (m : MapF) (S : SMap) : List (Nat × List AV) → List Deferred → Prop
 | [], [] => True
 | d :: r, cd :: cr => (∃ cap, cd.target = .fn (.func d.1) cap ∧ VRL g m S d.2 (cd.args ++ cap).toList) ∧ DefR g m S r cr
 | _, _ => False
theorem DefR_mono {g g' : HpF} {m m' : MapF} {S S' : SMap} (hS : SLe S S') (hG : Ge g m g' m') : ∀ {l : List (Nat × List AV)} {ds : List Deferred}, DefR g m S l ds → DefR g' m' S' l ds
 | [], [], _ => by simp only [DefR]
 | d :: r, cd :: cr, h => by
  simp only [DefR] at h ⊢
  obtain ⟨⟨cap, h1, h2⟩, h3⟩ := h
  exact ⟨⟨cap, h1, VRL_mono hS hG _ h2⟩, DefR_mono hS hG h3⟩
 | [], _ :: _, h => by simp [DefR] at h
 | _ :: _, [], h => by simp [DefR] at h
theorem DefR_append {g : HpF} {m : MapF} {S : SMap} : ∀ {l l' : List (Nat × List AV)} {ds ds' : List Deferred}, DefR g m S l ds → DefR g m S l' ds' → DefR g m S (l ++ l') (ds ++ ds')
 | [], _, [], _, _, h' => by simpa using h'
 | d :: r, _, cd :: cr, _, h, h' => by
  simp only [DefR] at h
  simp only [List.cons_append, DefR]
  exact ⟨h.1, DefR_append h.2 h'⟩
 | [], _, _ :: _, _, h, _ => by simp [DefR] at h
 | _ :: _, _, [], _, h, _ => by simp [DefR] at h
def wpO (P : Program) (ops : Array Oper) (Q : Exit → Act → World → Prop) (o : Oper) (K : Act → World → Prop) (a : Act) (w : World) : Prop :=
 if Region.wanted o (yielded ops a.tmps) then o.wp P a w K Q ∨ (o.asks P a w ∧ LetsOut Q) else K (a.put o.dst undef) w
def After (ap : AP) (o : Oper) (g : HpF) (m : MapF) (S : SMap) (w : World) (a : Act) (v : AV) (ups : List (Nat × Blk)) (df : List (Nat × List AV)) (Q : Exit → Act → World → Prop) (K : Act → World → Prop) : Option AV → Prop
 | none => ∀ cv m' S' w' ds, SRel ap (updF g ups) m' S' w' → Fr g m S w (updF g ups) m' S' w' → VR (updF g ups) m' S' v cv → DefR (updF g ups) m' S' df ds → K ({ a with defers := ds ++ a.defers }.put o.dst cv) w'
 | some pv => ∀ cv m' S' w', SRel ap (updF g ups) m' S' w' → Fr g m S w (updF g ups) m' S' w' → VR (updF g ups) m' S' pv cv → Q (.panic [{ v := cv, recovered := false }]) a w'
def StepSem (P : Program) (ap : AP) (ops : Array Oper) (o : Oper) (nid : Nat) (env : Env) (hp : Hp) (rt rb : List Nat) (v : AV) (ups : List (Nat × Blk)) (df : List (Nat × List AV)) (p : Option AV) : Prop :=
 ∀ g m S w (a : Act), SRel ap g m S w → (∀ t ∈ rt, VR g m S (env.get t) (a.tmps.getD t undef)) → (∀ b ∈ rb, ∀ B, look hp b = some B → g b = some B) → (∀ i, i < 4 → g (nid + i) = none) →
  ∀ (Q : Exit → Act → World → Prop) (K : Act → World → Prop), After ap o g m S w a v ups df Q K p → wpO P ops Q o K a w
structure StepR (P : Program) (ap : AP) (ops : Array Oper) (o : Oper) (nid : Nat) (s s' : RS) (p : Option AV) (v : AV) (rt rb : List Nat) (ups : List (Nat × Blk)) (df : List (Nat × List AV)) : Prop where
 env : p = none → s'.env = putE s.env o.dst v
 envp : p ≠ none → s'.env = s.env ∧ df = []
 hp : s'.hp = ups ++ s.hp
 md : s'.md = s.md
 dfs : s'.dfs = df ++ s.dfs
 dec : p = none → DecOk s'.dec s'.env
 feet : p = none → s'.feet = { rt, wt := dstL o, rb, wb := ups.map (·.1) } :: s.feet
 sem : StepSem P ap ops o nid s.env s.hp rt rb v ups df p
section
variable {P : Program} {ap : AP} {H : Handler}
theorem getD_get (e : Array Value) (t : Nat) {v : Value} (h : e.getD t undef = v) (hv : v ≠ undef) : e[t]? = some v := by
 rw [Array.getD_eq_getD_getElem?] at h
 cases he : e[t]? with
 | none => rw [he] at h; exact absurd h.symm hv
 | some u => rw [he] at h; simpa using h
theorem yielded_of {ops : Array Oper} {tmps : Array Value} {j s : Nat} (hs : (ops[j]?).bind (·.dst) = some s) {b : Bool} (h : tmps.getD s undef = .bool b) : yielded ops tmps j = some b := by
 unfold yielded
 rw [hs]
 simp only [Option.bind_some]
 rw [getD_get tmps s h (by simp [undef])]
theorem yielded_none {ops : Array Oper} {tmps : Array Value} {j s : Nat} (hs : (ops[j]?).bind (·.dst) = some s) (h : tmps.getD s undef = .tuple #[]) : yielded ops tmps j = none := by
 unfold yielded
 rw [hs]
 simp only [Option.bind_some]
 rw [Array.getD_eq_getD_getElem?] at h
 cases he : tmps[s]? with
 | none => rfl
 | some u =>
  rw [he] at h
  simp at h
  rw [h]
theorem eval_sound {g : HpF} {m : MapF} {S : SMap} {w : World} (hS : SRel ap g m S w) {env : Env} {a : Act} (x : Operand) (h : ∀ t, x = .tmp t → VR g m S (env.get t) (a.tmps.getD t undef)) : VR g m S (evalA ap env x) (a.eval x) := by
 cases x with
 | tmp t => exact h t rfl
 | const v => exact VR_of_PR _ (PR_ofLit S v)
 | global k =>
  simp only [evalA, Act.eval]
  cases hk : (ap.gl[k]?).join with
  | none => simp only [VR]
  | some xs =>
   obtain ⟨vs, h1, h2⟩ := hS.glob k xs hk
   simp only [VR, PR]
   exact ⟨k, 0, vs, rfl, h1, h2⟩
 | func f =>
  simp only [evalA, Act.eval, VR]
  exact ⟨[], [], rfl, by simp [VRL], by simp [VRL]⟩
theorem mem_tmpsOf {l : List Operand} {t : Nat} (h : Operand.tmp t ∈ l) : t ∈ tmpsOf l := by
 simp only [tmpsOf, List.mem_filterMap]
 exact ⟨_, h, rfl⟩
theorem guardA_sound {ops : List Oper} {env : Env} {dec dec' : List (Nat × Bool)} {o : Oper} {c c' : Cx} {run : Bool} (h : guardA ops env dec o c = .ok (run, dec') c') (hc : c'.Ok) :
  c.Ok ∧ (DecOk dec env → DecOk dec' env ∧ (∀ t b, look dec t = some b → look dec' t = some b) ∧ ∀ g m S (a : Act), (∀ t ∈ guardTmps ops o, VR g m S (env.get t) (a.tmps.getD t undef)) → Region.wanted o (yielded ops.toArray a.tmps) = run) := by
 unfold guardA at h
 unfold guardTmps
 unfold Region.wanted
 split at h
 ·rename_i hg
  cases h
  simp only [hg]
  exact ⟨hc, fun hd => ⟨hd, fun _ _ h => h, fun _ _ _ _ _ => trivial⟩⟩
 ·rename_i j want hg
  simp only [hg]
  split at h
  ·cases h
  ·rename_i s hs
   have hs' : (ops.toArray[j]?).bind (·.dst) = some s := by simpa using hs
   split at h
   ·rename_i b hb
    cases h
    refine ⟨hc, fun hd => ⟨hd, fun _ _ h => h, fun g m S a hv => ?_⟩⟩
    have h1 := hv s (by simp)
    rw [hd s b hb] at h1
    simp only [VR, PR] at h1
    rw [yielded_of hs' h1]
    cases want <;> cases b <;> rfl
   ·rename_i hl
    split at h
    ·rename_i b hb
     obtain ⟨b', c1, h1, h2⟩ := R.bind_ok h
     cases h2
     obtain ⟨hc0, rfl⟩ := branch_ok h1 hc
     refine ⟨hc0, fun hd => ⟨?_, ?_, fun g m S a hv => ?_⟩⟩
     ·intro t x hx
      simp only [look] at hx
      split at hx
      ·rename_i ht
       cases hx
       rw [← beq_nat ht, hb]
      ·exact hd t x hx
     ·intro t x hx
      simp only [look]
      split
      ·rename_i ht
       rw [beq_nat ht] at hl
       rw [hl] at hx; cases hx
      ·exact hx
     ·have h1 := hv s (by simp)
      rw [hb] at h1
      simp only [VR, PR] at h1
      rw [yielded_of hs' h1]
      cases want <;> cases b' <;> rfl
    ·rename_i hb
     cases h
     refine ⟨hc, fun hd => ⟨hd, fun _ _ h => h, fun g m S a hv => ?_⟩⟩
     have h1 := hv s (by simp)
     rw [hb] at h1
     simp only [VR] at h1
     obtain ⟨vs, h1, h2⟩ := h1
     cases vs with
     | nil => rw [yielded_none hs' h1]; rfl
     | cons v r => simp [VRL] at h2
    ·cases h
theorem get_putE_ne {env : Env} {o : Oper} {v : AV} {t : Nat} (h : ∀ d, o.dst = some d → d ≠ t) : (putE env o.dst v).get t = env.get t := by
 unfold putE
 split
 ·rename_i d hd
  simp only [Env.get, look]
  split
  ·rename_i ht; exact absurd (beq_nat ht) (h d hd)
  ·rfl
 ·rfl
theorem dec_put {dec : List (Nat × Bool)} {env : Env} {o : Oper} {v : AV} (hd : DecOk dec env) (ho : dstOk dec o = true) : DecOk dec (putE env o.dst v) := by
 intro t b hb
 rw [get_putE_ne]
 ·exact hd t b hb
 ·rintro d hdd rfl
  unfold dstOk at ho
  rw [hdd] at ho
  simp [hb] at ho
end
end AM
namespace AM
open Go
section
variable {P : Program} {ap : AP} {H : Handler}
theorem hintV_ok {c : Cx} {dst : Option Nat} {v : AV} (h : (hintV c dst v).2.Ok) : c.Ok ∧ Fits v (hintV c dst v).1 := by
 obtain ⟨cl, orc, bs, ps, ans, hs⟩ := c
 unfold hintV at h ⊢
 dsimp only at h ⊢
 split at h
 ·rename_i d x r d'
  split at h
  ·rename_i he
   have hB : Fits v x := h.ps _ (List.mem_cons_self ..)
   refine ⟨⟨h.bs, fun p hp => h.ps p (List.mem_cons_of_mem _ hp)⟩, ?_⟩
   simp only [he]
   exact hB
  ·rename_i he
   refine ⟨h, ?_⟩
   simp only [he]
   exact fun _ _ _ _ hv => hv
 ·rename_i hh
  exact ⟨h, fun _ _ _ _ hv => hv⟩
theorem hintB_ok {c : Cx} {dst : Option Nat} {ups : List (Nat × Blk)} (h : (hintB c dst ups).2.Ok) : c.Ok ∧ (hintB c dst ups).1 = ups := by
 obtain ⟨cl, orc, bs, ps, ans, hs⟩ := c
 unfold hintB at h ⊢
 dsimp only at h ⊢
 split at h
 ·rename_i d xs r d' b B
  split at h
  ·rename_i he
   have hB : B.cells = xs := h.ps _ (List.mem_cons_self ..)
   refine ⟨⟨h.bs, fun p hp => h.ps p (List.mem_cons_of_mem _ hp)⟩, ?_⟩
   simp only [he, ← hB]
  ·rename_i he
   refine ⟨h, ?_⟩
   simp only [he]
 ·rename_i hh
  exact ⟨h, rfl⟩
theorem run_ofValue {a : Act} {g : Operand} {args : Array Operand} {argTypes : Array TypeId} {ty : TypeId} {f : Nat} {first cap : Array Value} (h : a.eval g = .func (.func f) first cap) (w : World) :
  (resolve a.eval { callee := .value g, args, argTypes } ty).run P w = .ok { target := .fn (.func f) cap, args := first ++ args.map a.eval } w := by
 simp only [resolve, h, Deferred.ofValue]
 rfl
theorem run_callValue {a : Act} {g : Operand} {args : Array Operand} {argTypes : Array TypeId} {ty : TypeId} {f : Nat} {first cap : Array Value} (h : a.eval g = .func (.func f) first cap) (hE : Enters P f) (w : World) :
  (do let d ← resolve a.eval { callee := .value g, args, argTypes } ty; invoke d.target d.args : Sem Next).run P w = .ok (.enter f ((first ++ args.map a.eval) ++ cap)) w := by
 rw [Sem.run_bind, run_ofValue h, Result.andThen_ok]
 exact hE _ _
theorem VRL_args {g : HpF} {m : MapF} {S : SMap} {ρ : Operand → AV} {cρ : Operand → Value} {args : Array Operand} (h : ∀ o ∈ args, VR g m S (ρ o) (cρ o)) : VRL g m S (args.toList.map ρ) (args.map cρ).toList := by
 rw [Array.toList_map]
 exact VRL_map _ fun o ho => h o (by simpa using ho)
theorem step_sound (hap : ApOk P ap) (hH : HSound P ap H) {nid : Nat} {ops : List Oper} {o : Oper} {s s' : RS} {p : Option AV} {c c' : Cx} (h : stepA ap H nid ops o s c = .ok (s', p) c') (hc : c'.Ok) :
  c.Ok ∧ (s.md = .dead → DecOk s.dec s.env → ∃ v rb ups df, StepR P ap ops.toArray o nid s s' p v (tmpsOf o.op.operands.toList ++ guardTmps ops o) rb ups df) := by
 unfold stepA at h
 obtain ⟨⟨run, dec⟩, c1, e1, h⟩ := R.bind_ok h
 dsimp only at h
 split at h
 ·cases h
 rename_i hdst
 have hguard : ∀ c1ok : c1.Ok, c.Ok ∧ (DecOk s.dec s.env → DecOk dec s.env ∧ (∀ t b, look s.dec t = some b → look dec t = some b) ∧ ∀ g m S (a : Act), (∀ t ∈ guardTmps ops o, VR g m S (s.env.get t) (a.tmps.getD t undef)) → Region.wanted o (yielded ops.toArray a.tmps) = run) := fun hk => guardA_sound e1 hk
 have hopd : ∀ {g : HpF} {m : MapF} {S : SMap} {w : World} {a : Act}, SRel ap g m S w → (∀ t ∈ tmpsOf o.op.operands.toList ++ guardTmps ops o, VR g m S (s.env.get t) (a.tmps.getD t undef)) → ∀ x ∈ o.op.operands, VR g m S (evalA ap s.env x) (a.eval x) := by
  intro g m S w a hS hv x hx
  refine eval_sound hS x fun t ht => hv t ?_
  subst ht
  exact List.mem_append.2 (.inl (mem_tmpsOf (by simpa using hx)))
 split at h
 ·
  cases h
  obtain ⟨hc0, hg⟩ := hguard hc
  refine ⟨hc0, fun hmd hdec => ?_⟩
  obtain ⟨hd, _, hw⟩ := hg hdec
  refine ⟨.tup [], [], [], [], ⟨fun _ => rfl, fun h => absurd rfl h, rfl, rfl, rfl, fun _ => dec_put hd hdst, fun _ => rfl, ?_⟩⟩
  intro g m S w a hS hv _ _ Q K hA
  unfold wpO
  rw [hw g m S a fun t ht => hv t (List.mem_append.2 (.inr ht))]
  simp only [Bool.false_eq_true, if_false]
  have := hA undef m S w [] (by rw [updF_nil]; exact hS) (by rw [updF_nil]; exact Fr.refl _ _ _ _) (by simp only [VR]; exact ⟨[], rfl, by simp [VRL]⟩) (by simp [DefR])
  exact this
 ·
  have hwant : ∀ (Q : Exit → Act → World → Prop) (K : Act → World → Prop) (g : HpF) (m : MapF) (S : SMap) (a : Act) (w : World), c1.Ok → DecOk s.dec s.env → (∀ t ∈ tmpsOf o.op.operands.toList ++ guardTmps ops o, VR g m S (s.env.get t) (a.tmps.getD t undef)) → o.wp P a w K Q → wpO P ops.toArray Q o K a w := by
   intro Q K g m S a w hk hdec hv hh
   obtain ⟨_, _, hw⟩ := (hguard hk).2 hdec
   unfold wpO
   rw [hw g m S a fun t ht => hv t (List.mem_append.2 (.inr ht))]
   simp only [if_true]
   exact .inl hh
  split at h
  ·
   rename_i gf args argTypes hop
   split at h
   ·rename_i f first cap hf
    obtain ⟨r, c2, e2, h⟩ := R.bind_ok h
    have hfin : c2 = c' := by revert h; cases r.out <;> intro h <;> cases h <;> rfl
    subst hfin
    obtain ⟨hc1, hE, hcall⟩ := callStep_sound hH e2 hc
    obtain ⟨hc0, hg⟩ := hguard hc1
    refine ⟨hc0, fun hmd hdec => ?_⟩
    obtain ⟨hd, _, _⟩ := hg hdec
    have hargs : ∀ {g : HpF} {m : MapF} {S : SMap} {w : World} {a : Act}, SRel ap g m S w → (∀ t ∈ tmpsOf o.op.operands.toList ++ guardTmps ops o, VR g m S (s.env.get t) (a.tmps.getD t undef)) →
      ∃ vf vc : List Value, a.eval gf = .func (.func f) vf.toArray vc.toArray ∧ VRL g m S (first ++ args.toList.map (evalA ap s.env) ++ cap) ((vf ++ (args.map a.eval).toList) ++ vc) := by
     intro g m S w a hS hv
     have h1 := hopd hS hv
     rw [hop] at h1
     have h2 := h1 gf (by simp [Op.operands, Call.operands])
     rw [hf] at h2
     simp only [VR] at h2
     obtain ⟨vf, vc, h3, h4, h5⟩ := h2
     exact ⟨vf, vc, h3, VRL_append (VRL_append h4 (VRL_args fun x hx => h1 x (by simp [Op.operands, Call.operands, hx]))) h5⟩
    have hrun : ∀ {a : Act} {vf vc : List Value} (w : World), a.eval gf = .func (.func f) vf.toArray vc.toArray → (execOp a.eval o).run P w = .ok (.enter f (((vf ++ (args.map a.eval).toList) ++ vc).toArray)) w := by
     intro a vf vc w he
     have := run_callValue (args := args) (argTypes := argTypes) (ty := o.type) he hE w
     unfold execOp
     rw [hop]
     dsimp only
     rw [this]
     congr 2
     apply Array.toList_inj.1
     simp
    split at h
    ·rename_i v hout
     cases h
     refine ⟨v, r.fp, r.ups, [], ⟨fun _ => rfl, fun h => absurd rfl h, rfl, rfl, rfl, fun _ => dec_put hd hdst, fun _ => rfl, ?_⟩⟩
     intro g m S w a hS hv hag hfr Q K hA
     refine hwant Q K g m S a w hc1 hdec hv ?_
     obtain ⟨vf, vc, h1, h2⟩ := hargs hS hv
     unfold Oper.wp
     rw [hrun w h1]
     refine (hcall g m S w _ hS hag hfr h2).mono ?_
     rintro e w' ⟨m', S', h3, h4, h5⟩
     rw [hout] at h5
     obtain ⟨cv, rfl, h6⟩ := h5
     exact hA cv m' S' w' [] h3 h4 h6 (by simp [DefR])
    ·rename_i v hout
     cases h
     refine ⟨v, r.fp, r.ups, [], ⟨fun h => (by cases h), fun _ => ⟨rfl, rfl⟩, rfl, rfl, rfl, fun h => (by cases h), fun h => (by cases h), ?_⟩⟩
     intro g m S w a hS hv hag hfr Q K hA
     refine hwant Q K g m S a w hc1 hdec hv ?_
     obtain ⟨vf, vc, h1, h2⟩ := hargs hS hv
     unfold Oper.wp
     rw [hrun w h1]
     refine (hcall g m S w _ hS hag hfr h2).mono ?_
     rintro e w' ⟨m', S', h3, h4, h5⟩
     rw [hout] at h5
     obtain ⟨cv, rfl, h6⟩ := h5
     exact hA cv m' S' w' h3 h4 h6
   ·cases h
  ·
   split at h
   ·cases h
    exact ⟨(hguard hc).1, fun hmd => by simp_all⟩
   ·cases h
    exact ⟨(hguard hc).1, fun hmd => by simp_all⟩
   ·cases h
  ·
   rename_i gf args argTypes hop
   split at h
   ·rename_i f first cap hf
    cases h
    obtain ⟨hc0, hg⟩ := hguard hc
    refine ⟨hc0, fun hmd hdec => ?_⟩
    obtain ⟨hd, _, _⟩ := hg hdec
    refine ⟨.dead, [], [], [(f, first ++ args.toList.map (evalA ap s.env) ++ cap)], ⟨fun _ => rfl, fun h => absurd rfl h, rfl, rfl, rfl, fun _ => dec_put hd hdst, fun _ => rfl, ?_⟩⟩
    intro g m S w a hS hv hag hfr Q K hA
    refine hwant Q K g m S a w hc hdec hv ?_
    have h1 := hopd hS hv
    rw [hop] at h1
    have h2 := h1 gf (by simp [Op.operands, Call.operands])
    rw [hf] at h2
    simp only [VR] at h2
    obtain ⟨vf, vc, h3, h4, h5⟩ := h2
    unfold Oper.wp
    have hr : (execOp a.eval o).run P w = .ok (.defer { target := .fn (.func f) vc.toArray, args := vf.toArray ++ args.map a.eval }) w := by
     unfold execOp
     rw [hop]
     dsimp only
     rw [Sem.run_bind, run_ofValue h3, Result.andThen_ok]
     rfl
    rw [hr]
    refine hA undef m S w [{ target := .fn (.func f) vc.toArray, args := vf.toArray ++ args.map a.eval }] (by rw [updF_nil]; exact hS) (by rw [updF_nil]; exact Fr.refl _ _ _ _) (by simp only [VR]) ?_
    simp only [DefR, updF_nil, and_true]
    refine ⟨vc.toArray, rfl, ?_⟩
    have := VRL_append (VRL_append h4 (VRL_args (args := args) fun x hx => h1 x (by simp [Op.operands, Call.operands, hx]))) h5
    simpa using this
   ·cases h
  ·
   rename_i x hop
   split at h
   ·rename_i t v hx
    cases h
    obtain ⟨hc0, hg⟩ := hguard hc
    refine ⟨hc0, fun hmd hdec => ?_⟩
    obtain ⟨hd, _, _⟩ := hg hdec
    refine ⟨.dead, [], [], [], ⟨fun h => (by cases h), fun _ => ⟨rfl, rfl⟩, rfl, rfl, rfl, fun h => (by cases h), fun h => (by cases h), ?_⟩⟩
    intro g m S w a hS hv hag hfr Q K hA
    refine hwant Q K g m S a w hc hdec hv ?_
    have h1 := hopd hS hv
    rw [hop] at h1
    have h2 := h1 x (by simp [Op.operands])
    rw [hx] at h2
    have h2' := h2
    simp only [VR] at h2'
    obtain ⟨u, h3, h4⟩ := h2'
    unfold Oper.wp
    have hr : (execOp a.eval o).run P w = .halt (.panic (a.eval x)) w := by
     unfold execOp
     rw [hop]
     dsimp only
     rw [h3]
     rfl
    rw [hr]
    exact hA _ m S w (by rw [updF_nil]; exact hS) (by rw [updF_nil]; exact Fr.refl _ _ _ _) (by rw [updF_nil]; exact h2)
   ·cases h
  ·
   rename_i op n1 n2 n3 n4
   obtain ⟨em, c2, e2, h⟩ := R.bind_ok h
   split at h
   ·cases h
   ·rename_i v ups bs hop
    obtain ⟨_, c3, e3, h⟩ := R.bind_ok h
    have hv1 : (hintV c3 o.dst v).2.Ok → c3.Ok ∧ Fits v (hintV c3 o.dst v).1 := hintV_ok
    generalize hintV c3 o.dst v = q1 at h hv1
    obtain ⟨v1, c4⟩ := q1
    dsimp only at h hv1
    have hv2 : (hintB c4 o.dst ups).2.Ok → c4.Ok ∧ (hintB c4 o.dst ups).1 = ups := hintB_ok
    generalize hintB c4 o.dst ups = q2 at h hv2
    obtain ⟨ups1, c5⟩ := q2
    dsimp only at h hv2
    cases h
    obtain ⟨hc4, hups⟩ := hv2 hc
    subst hups
    obtain ⟨hc3, hfit⟩ := hv1 hc4
    obtain ⟨hc2, hbs⟩ := emit_ok e3 hc3
    have hem : c1.Ok ∧ ∀ n, emptyAsk (evalA ap s.env) o.op = some n → Nat.beq n 0 = em := by
     split at e2
     ·rename_i n hn
      obtain ⟨hk, rfl⟩ := branch_ok e2 hc2
      exact ⟨hk, fun n' hn' => by rw [hn] at hn'; cases hn'; rfl⟩
     ·rename_i hn
      cases e2
      exact ⟨hc2, fun n' hn' => by rw [hn] at hn'; cases hn'⟩
    obtain ⟨hc1, hem⟩ := hem
    obtain ⟨hc0, hg⟩ := hguard hc1
    refine ⟨hc0, fun hmd hdec => ?_⟩
    obtain ⟨hd, _, _⟩ := hg hdec
    refine ⟨v1, readsA (evalA ap s.env) o.op, ups1, [], ⟨fun _ => rfl, fun h => absurd rfl h, rfl, rfl, rfl, fun _ => dec_put hd hdst, fun _ => rfl, ?_⟩⟩
    intro g m S w a hS hv hag hfr Q K hA
    refine hwant Q K g m S a w hc1 hdec hv ?_
    have h1 := hopd hS hv
    have hok := opA_sound hap hS (nid := nid) (hfr 0 (by omega)) (ρ := evalA ap s.env) (cρ := a.eval) (fun b B hb => by
      split at hb
      ·rename_i hm; exact hag b (memN_iff.1 hm) B hb
      ·cases hb) o h1 (dec := fun | .tmp t => look dec t | _ => none) (fun x hx b hb => by
      split at hb
      ·rename_i t
       have := hv t (List.mem_append.2 (.inl (mem_tmpsOf (by simpa using hx))))
       rw [hd t b hb] at this
       simp only [VR, PR] at this
       exact this
      ·cases hb) hem hop hbs
    obtain ⟨nx, m', w', h2, h3, h4, h5⟩ := hok
    unfold Oper.wp
    rw [h2]
    rcases h5 with ⟨cv, rfl, h5⟩ | ⟨rfl, rfl⟩
    ·exact hA cv m' S w' [] h3 h4 (hfit _ _ _ _ h5) (by simp [DefR])
    ·exact hA undef m' S w' [] h3 h4 (hfit _ _ _ _ (by simp only [VR])) (by simp [DefR])
end
end AM
namespace AM
open Go
theorem nextId_lt : ∀ {hp : Hp} {b : Nat} {B : Blk}, look hp b = some B → b < nextId hp
 | [], b, B, h => by simp [look] at h
 | (c, C) :: r, b, B, h => by
  simp only [look] at h
  simp only [nextId]
  split at h
  ·rename_i hb
   have hb := beq_nat hb
   subst hb
   split
   ·rename_i hl; exact blt_nat hl
   ·omega
  ·have ih := nextId_lt h
   split
   ·exact ih
   ·rename_i hl
    have : ¬ c < nextId r := fun hh => by
     have : Nat.blt c (nextId r) = true := by
      show Nat.ble (c + 1) (nextId r) = true
      exact Nat.ble_eq_true_of_le hh
     rw [this] at hl; cases hl
    omega
theorem look_mem : ∀ {l : Hp} {b : Nat} {B : Blk}, look l b = some B → b ∈ l.map (·.1)
 | [], b, B, h => by simp [look] at h
 | (c, C) :: r, b, B, h => by
  simp only [look] at h
  split at h
  ·rename_i hb; simp [beq_nat hb]
  ·simp [look_mem h]
structure FR (ap : AP) (env : Env) (hp : Hp) (dfs : List (Nat × List AV)) (nt : Nat) (m : MapF) (S : SMap) (w : World) (a : Act) : Prop where
 srel : SRel ap (look hp) m S w
 env : ∀ t, VR (look hp) m S (env.get t) (a.tmps.getD t undef)
 dfs : DefR (look hp) m S dfs a.defers
 size : a.tmps.size = nt
theorem put_size (a : Act) (d : Option Nat) (v : Value) : (a.put d v).tmps.size = a.tmps.size := by
 cases d <;> simp [Act.put]
theorem put_defers (a : Act) (d : Option Nat) (v : Value) : (a.put d v).defers = a.defers := by
 cases d <;> simp [Act.put]
theorem put_get_ne (a : Act) (d : Option Nat) (v : Value) {t : Nat} (h : d ≠ some t) : (a.put d v).tmps.getD t undef = a.tmps.getD t undef := by
 cases d with
 | none => rfl
 | some d =>
  have hne : d ≠ t := fun e => h (by rw [e])
  simp only [Act.put, Array.getD_eq_getD_getElem?]
  rw [Array.getElem?_setIfInBounds_ne hne]
theorem put_get_eq (a : Act) (d : Nat) (v : Value) (h : d < a.tmps.size) : (a.put (some d) v).tmps.getD d undef = v := by
 simp only [Act.put, Array.getD_eq_getD_getElem?]
 rw [Array.getElem?_setIfInBounds_self_of_lt h]; rfl
theorem get_putE_eq {env : Env} {d : Nat} {v : AV} : (putE env (some d) v).get d = v := by simp [putE, Env.get, look]
theorem getE_put {env : Env} {dst : Option Nat} {v : AV} {t : Nat} (h : dst ≠ some t) : (putE env dst v).get t = env.get t := by
 cases dst with
 | none => rfl
 | some d =>
  have hne : Nat.beq d t = false := by
   cases hb : Nat.beq d t with
   | false => rfl
   | true => exact absurd (by rw [beq_nat hb]) h
  simp [putE, Env.get, look, hne]
section
variable {P : Program} {ap : AP} {H : Handler}
theorem FR.put {env : Env} {hp ups : Hp} {dfs df : List (Nat × List AV)} {nt : Nat} {m m' : MapF} {S S' : SMap} {w w' : World} {a : Act} (h : FR ap env hp dfs nt m S w a) {dst : Option Nat} (hd : ∀ d, dst = some d → d < nt) {v : AV} {cv : Value} {ds : List Deferred}
  (h1 : SRel ap (updF (look hp) ups) m' S' w') (h2 : Fr (look hp) m S w (updF (look hp) ups) m' S' w') (h3 : VR (updF (look hp) ups) m' S' v cv) (h4 : DefR (updF (look hp) ups) m' S' df ds) :
  FR ap (putE env dst v) (ups ++ hp) (df ++ dfs) nt m' S' w' ({ a with defers := ds ++ a.defers }.put dst cv) := by
 rw [updF_append] at h1 h2 h3 h4
 refine ⟨h1, ?_, ?_, ?_⟩
 ·intro t
  by_cases ht : dst = some t
  ·subst ht
   rw [get_putE_eq, put_get_eq _ _ _ (by have := hd t rfl; have := h.size; simpa [this] using hd t rfl)]
   exact h3
  ·rw [getE_put ht, put_get_ne _ _ _ ht]
   exact VR_mono h2.sle h2.ge _ (h.env t)
 ·rw [put_defers]
  exact DefR_append h4 (DefR_mono h2.sle h2.ge h.dfs)
 ·rw [put_size]; exact h.size
theorem FR.still {env : Env} {hp ups : Hp} {dfs : List (Nat × List AV)} {nt : Nat} {m m' : MapF} {S S' : SMap} {w w' : World} {a : Act} (h : FR ap env hp dfs nt m S w a)
  (h1 : SRel ap (updF (look hp) ups) m' S' w') (h2 : Fr (look hp) m S w (updF (look hp) ups) m' S' w') : FR ap env (ups ++ hp) dfs nt m' S' w' a := by
 rw [updF_append] at h1 h2
 exact ⟨h1, fun t => VR_mono h2.sle h2.ge _ (h.env t), DefR_mono h2.sle h2.ge h.dfs, h.size⟩
def RegAfter (ap : AP) (hp0 : Hp) (m : MapF) (S : SMap) (w : World) (nt : Nat) (env : Env) (hp : Hp) (dfs : List (Nat × List AV)) (Q : Exit → Act → World → Prop) : Option AV → Prop
 | none => ∀ m' S' w' a', Fr (look hp0) m S w (look hp) m' S' w' → FR ap env hp dfs nt m' S' w' a' → Q .normal a' w'
 | some v => ∀ m' S' w' a' cv, Fr (look hp0) m S w (look hp) m' S' w' → FR ap env hp dfs nt m' S' w' a' → VR (look hp) m' S' v cv → Q (.panic [{ v := cv, recovered := false }]) a' w'
theorem wpOps_cons_some {ops : Array Oper} {Q : Exit → Act → World → Prop} {i : Nat} {o : Oper} (ho : ops[i]? = some o) (rest : List Nat) (a : Act) (w : World) : wpOps P ops Q (i :: rest) a w ↔ wpO P ops Q o (wpOps P ops Q rest) a w := by
 simp only [wpOps, ho, wpO]
theorem key_of_ups {hp ups : Hp} {nid : Nat} (hk : ∀ b B, look hp b = some B → b < nid) (hw : (ups.map (·.1)).all (fun x => Nat.blt x (nid + 4)) = true) : ∀ b B, look (ups ++ hp) b = some B → b < nid + 4 := by
 intro b B hb
 rw [look_append] at hb
 split at hb
 ·rename_i x hx
  have hm : b ∈ ups.map (·.1) := look_mem hx
  exact blt_nat (List.all_eq_true.1 hw b hm)
 ·have := hk b B hb; omega
theorem seq_sound (hap : ApOk P ap) (hH : HSound P ap H) {ops : List Oper} {nt : Nat} (hnt : ∀ o ∈ ops, ∀ d, o.dst = some d → d < nt) : ∀ (l : List Oper) (i nid : Nat) (s s' : RS) (p : Option AV) (c c' : Cx), stepsA ap H ops l nid s c = .ok (s', p) c' → c'.Ok →
  c.Ok ∧ (s.md = .dead → DecOk s.dec s.env → l = ops.drop i → (∀ b B, look s.hp b = some B → b < nid) →
  s'.md = .dead ∧ ∀ m S w a, FR ap s.env s.hp s.dfs nt m S w a → ∀ Q, RegAfter ap s.hp m S w nt s'.env s'.hp s'.dfs Q p → wpOps P ops.toArray Q (List.range' i l.length) a w)
 | [], i, nid, s, s', p, c, c', h, hc => by
  cases h
  exact ⟨hc, fun hmd _ _ _ => ⟨hmd, fun m S w a hF Q hQ => hQ m S w a (Fr.refl _ _ _ _) hF⟩⟩
 | o :: r, i, nid, s, s', p, c, c', h, hc => by
  simp only [stepsA] at h
  obtain ⟨⟨s1, p1⟩, c1, e1, h⟩ := R.bind_ok h
  dsimp only at h
  have hfresh : (∀ b B, look s.hp b = some B → b < nid) → ∀ j, j < 4 → look s.hp (nid + j) = none := by
   intro hk j _
   cases hb : look s.hp (nid + j) with
   | none => rfl
   | some B => have := hk _ _ hb; omega
  have hpre : o :: r = ops.drop i → ops[i]? = some o ∧ ops.toArray[i]? = some o ∧ r = ops.drop (i + 1) ∧ ∀ d, o.dst = some d → d < nt := by
   intro hl
   have hoi : ops[i]? = some o := by
    have : (ops.drop i)[0]? = some o := by rw [← hl]; rfl
    simpa using this
   have hr : r = ops.drop (i + 1) := by
    have : r = (ops.drop i).drop 1 := by rw [← hl]; rfl
    rw [this, List.drop_drop]
   exact ⟨hoi, by simpa using hoi, hr, hnt o (List.mem_of_getElem? hoi)⟩
  cases p1 with
  | some v =>
   cases h
   obtain ⟨hc0, hss⟩ := step_sound hap hH e1 hc
   refine ⟨hc0, fun hmd hdec hl hk => ?_⟩
   obtain ⟨hoi, hoi', hr, hd⟩ := hpre hl
   obtain ⟨v1, rb, ups, df, hs⟩ := hss hmd hdec
   refine ⟨by rw [hs.md, hmd], fun m S w a hF Q hQ => ?_⟩
   rw [List.length_cons, List.range'_succ, wpOps_cons_some hoi']
   refine hs.sem (look s.hp) m S w a hF.srel (fun t _ => hF.env t) (fun b _ B hB => hB) (hfresh hk) Q _ ?_
   intro cv m' S' w' h1 h2 h3
   have hst := hF.still h1 h2
   rw [updF_append] at h2 h3
   obtain ⟨henv, rfl⟩ := hs.envp (by simp)
   have hQ := hQ m' S' w' a cv
   rw [hs.hp, hs.dfs, henv] at hQ
   exact hQ h2 hst h3
  | none =>
   dsimp only at h
   cases hft : s1.feet with
   | nil => rw [hft] at h; cases h
   | cons ft fr =>
    rw [hft] at h
    dsimp only at h
    split at h
    ·rename_i hwb
     obtain ⟨hc1, ih⟩ := seq_sound hap hH hnt r (i + 1) (nid + 4) s1 s' p c1 c' h hc
     obtain ⟨hc0, hss⟩ := step_sound hap hH e1 hc1
     refine ⟨hc0, fun hmd hdec hl hk => ?_⟩
     obtain ⟨hoi, hoi', hr, hd⟩ := hpre hl
     obtain ⟨v1, rb, ups, df, hs⟩ := hss hmd hdec
     have hfe := hs.feet rfl
     rw [hft] at hfe
     simp only [List.cons.injEq] at hfe
     rw [hfe.1] at hwb
     obtain ⟨hmd', ih⟩ := ih (by rw [hs.md, hmd]) (hs.dec rfl) hr (by rw [hs.hp]; exact key_of_ups hk hwb)
     refine ⟨hmd', fun m S w a hF Q hQ => ?_⟩
     rw [List.length_cons, List.range'_succ, wpOps_cons_some hoi']
     refine hs.sem (look s.hp) m S w a hF.srel (fun t _ => hF.env t) (fun b _ B hB => hB) (hfresh hk) Q _ ?_
     intro cv m' S' w' ds h1 h2 h3 h4
     have hF' := hF.put hd h1 h2 h3 h4
     rw [updF_append] at h2
     have henv := hs.env rfl
     rw [← henv, ← hs.hp, ← hs.dfs] at hF'
     refine ih m' S' w' _ hF' Q ?_
     rw [← hs.hp] at h2
     cases p with
     | none => exact fun m2 S2 w2 a2 h5 h6 => hQ m2 S2 w2 a2 (h2.trans h5) h6
     | some v => exact fun m2 S2 w2 a2 cv2 h5 h6 h7 => hQ m2 S2 w2 a2 cv2 (h2.trans h5) h6 h7
    ·cases h
end
end AM
namespace AM
open Go
structure Rec where
 dst : Option Nat
 v : AV
 rt : List Nat
 rb : List Nat
 ups : List (Nat × Blk)
def dstsL (d : Option Nat) : List Nat := match d with | some d => [d] | none => []
def Rec.foot (r : Rec) : Foot := { rt := r.rt, wt := dstsL r.dst, rb := r.rb, wb := r.ups.map (·.1) }
def envD (D : Nat → Bool) : Nat → Env → List Rec → Env
 | _, e, [] => e
 | j, e, r :: rs => envD D (j + 1) (match D j with | true => putE e r.dst r.v | false => e) rs
def hpD (D : Nat → Bool) : Nat → Hp → List Rec → Hp
 | _, h, [] => h
 | j, h, r :: rs => hpD D (j + 1) (match D j with | true => r.ups ++ h | false => h) rs
theorem envD_get {D D' : Nat → Bool} {t : Nat} : ∀ (rs : List Rec) (j : Nat) (e e' : Env), e.get t = e'.get t → (∀ k r, rs[k]? = some r → r.dst = some t → D (j + k) = D' (j + k)) → (envD D j e rs).get t = (envD D' j e' rs).get t
 | [], _, _, _, he, _ => he
 | r :: rs, j, e, e', he, h => by
  simp only [envD]
  refine envD_get rs (j + 1) _ _ ?_ fun k r' hk hd => ?_
  ·by_cases hd : r.dst = some t
   ·have h0 := h 0 r rfl hd
    rw [Nat.add_zero] at h0
    rw [h0]
    cases D' j with
    | true => simp only [hd, get_putE_eq]
    | false => exact he
   ·cases D j <;> cases D' j <;> simp only [getE_put hd, he]
  ·have := h (k + 1) r' (by simpa using hk) hd
   rwa [show j + (k + 1) = j + 1 + k by omega] at this
theorem look_not_mem : ∀ {l : Hp} {b : Nat}, b ∉ l.map (·.1) → look l b = none := by
 intro l b h
 cases hl : look l b with
 | none => rfl
 | some B => exact absurd (look_mem hl) h
theorem look_app_not {ups hp : Hp} {b : Nat} (h : b ∉ ups.map (·.1)) : look (ups ++ hp) b = look hp b := by
 rw [look_append, look_not_mem h]
theorem look_is_mem : ∀ {l : Hp} {b : Nat}, b ∈ l.map (·.1) → ∃ B, look l b = some B
 | [], b, h => by simp at h
 | (c, C) :: r, b, h => by
  simp only [look]
  cases hb : Nat.beq c b with
  | true => exact ⟨C, rfl⟩
  | false =>
   simp only [List.map_cons, List.mem_cons] at h
   rcases h with h | h
   ·subst h; simp at hb
   ·exact look_is_mem h
theorem look_app_mem {ups hp hp' : Hp} {b : Nat} (h : b ∈ ups.map (·.1)) : look (ups ++ hp) b = look (ups ++ hp') b := by
 obtain ⟨B, hB⟩ := look_is_mem h
 rw [look_append, look_append, hB]
theorem hpD_look {D D' : Nat → Bool} {b : Nat} : ∀ (rs : List Rec) (j : Nat) (h h' : Hp), look h b = look h' b → (∀ k r, rs[k]? = some r → b ∈ r.ups.map (·.1) → D (j + k) = D' (j + k)) → look (hpD D j h rs) b = look (hpD D' j h' rs) b
 | [], _, _, _, he, _ => he
 | r :: rs, j, e, e', he, h => by
  simp only [hpD]
  refine hpD_look rs (j + 1) _ _ ?_ fun k r' hk hd => ?_
  ·by_cases hd : b ∈ r.ups.map (·.1)
   ·have h0 := h 0 r rfl hd
    rw [Nat.add_zero] at h0
    rw [h0]
    cases D' j with
    | true => exact look_app_mem hd
    | false => exact he
   ·cases D j <;> cases D' j <;> simp only [look_app_not hd, he]
  ·have := h (k + 1) r' (by simpa using hk) hd
   rwa [show j + (k + 1) = j + 1 + k by omega] at this
theorem envD_none : ∀ (rs : List Rec) (j : Nat) (e : Env) {D : Nat → Bool}, (∀ k, k < rs.length → D (j + k) = false) → envD D j e rs = e
 | [], _, _, _, _ => rfl
 | r :: rs, j, e, D, h => by
  have h0 := h 0 (by simp)
  rw [Nat.add_zero] at h0
  simp only [envD, h0]
  exact envD_none rs (j + 1) e fun k hk => by have := h (k + 1) (by simpa using hk); rwa [show j + (k + 1) = j + 1 + k by omega] at this
theorem hpD_none : ∀ (rs : List Rec) (j : Nat) (e : Hp) {D : Nat → Bool}, (∀ k, k < rs.length → D (j + k) = false) → hpD D j e rs = e
 | [], _, _, _, _ => rfl
 | r :: rs, j, e, D, h => by
  have h0 := h 0 (by simp)
  rw [Nat.add_zero] at h0
  simp only [hpD, h0]
  exact hpD_none rs (j + 1) e fun k hk => by have := h (k + 1) (by simpa using hk); rwa [show j + (k + 1) = j + 1 + k by omega] at this
def envL (e : Env) (rs : List Rec) : Env := envD (fun _ => true) 0 e rs
def hpL (h : Hp) (rs : List Rec) : Hp := hpD (fun _ => true) 0 h rs
theorem envD_shift (D : Nat → Bool) : ∀ (rs : List Rec) (j d : Nat) (e : Env), envD D (j + d) e rs = envD (fun k => D (k + d)) j e rs
 | [], _, _, _ => rfl
 | r :: rs, j, d, e => by
  simp only [envD]
  rw [show j + d + 1 = j + 1 + d by omega]
  exact envD_shift D rs (j + 1) d _
theorem hpD_shift (D : Nat → Bool) : ∀ (rs : List Rec) (j d : Nat) (e : Hp), hpD D (j + d) e rs = hpD (fun k => D (k + d)) j e rs
 | [], _, _, _ => rfl
 | r :: rs, j, d, e => by
  simp only [hpD]
  rw [show j + d + 1 = j + 1 + d by omega]
  exact hpD_shift D rs (j + 1) d _
theorem envL_cons (e : Env) (r : Rec) (rs : List Rec) : envL e (r :: rs) = envL (putE e r.dst r.v) rs := by
 simp only [envL, envD]
 exact envD_shift (fun _ => true) rs 0 1 _
theorem hpL_cons (h : Hp) (r : Rec) (rs : List Rec) : hpL h (r :: rs) = hpL (r.ups ++ h) rs := by
 simp only [hpL, hpD]
 exact hpD_shift (fun _ => true) rs 0 1 _
theorem envD_lt : ∀ (rs : List Rec) (k : Nat) (e : Env), envD (fun j => decide (j < k)) 0 e rs = envL e (rs.take k)
 | rs, 0, e => by
  simp only [List.take_zero]
  exact envD_none rs 0 e fun _ _ => by simp
 | [], k + 1, e => rfl
 | r :: rs, k + 1, e => by
  simp only [List.take_succ_cons, envL_cons, envD]
  rw [show decide (0 < k + 1) = true by simp]
  dsimp only
  rw [← envD_lt rs k]
  have := envD_shift (fun j => decide (j < k + 1)) rs 0 1 (putE e r.dst r.v)
  rw [this]
  congr 1
  funext j
  simp
theorem hpD_lt : ∀ (rs : List Rec) (k : Nat) (e : Hp), hpD (fun j => decide (j < k)) 0 e rs = hpL e (rs.take k)
 | rs, 0, e => by
  simp only [List.take_zero]
  exact hpD_none rs 0 e fun _ _ => by simp
 | [], k + 1, e => rfl
 | r :: rs, k + 1, e => by
  simp only [List.take_succ_cons, hpL_cons, hpD]
  rw [show decide (0 < k + 1) = true by simp]
  dsimp only
  rw [← hpD_lt rs k]
  have := hpD_shift (fun j => decide (j < k + 1)) rs 0 1 (r.ups ++ e)
  rw [this]
  congr 1
  funext j
  simp
theorem envL_snoc (e : Env) : ∀ (rs : List Rec) (k : Nat) (r : Rec), rs[k]? = some r → envL e (rs.take (k + 1)) = putE (envL e (rs.take k)) r.dst r.v := by
 intro rs
 induction rs generalizing e with
 | nil => intro k r h; simp at h
 | cons a rs ih =>
  intro k r h
  cases k with
  | zero => simp at h; subst h; rfl
  | succ k =>
   simp only [List.take_succ_cons, envL_cons]
   exact ih _ k r (by simpa using h)
theorem hpL_snoc (e : Hp) : ∀ (rs : List Rec) (k : Nat) (r : Rec), rs[k]? = some r → hpL e (rs.take (k + 1)) = r.ups ++ hpL e (rs.take k) := by
 intro rs
 induction rs generalizing e with
 | nil => intro k r h; simp at h
 | cons a rs ih =>
  intro k r h
  cases k with
  | zero => simp at h; subst h; rfl
  | succ k =>
   simp only [List.take_succ_cons, hpL_cons]
   exact ih _ k r (by simpa using h)
section
variable {P : Program} {ap : AP} {H : Handler}
structure TraceR (P : Program) (ap : AP) (ops : List Oper) (i nid : Nat) (s s' : RS) (recs : List Rec) : Prop where
 env : s'.env = envL s.env recs
 hp : s'.hp = hpL s.hp recs
 feet : s'.feet = (recs.map Rec.foot).reverse ++ s.feet
 dle : s.dfs.length ≤ s'.dfs.length
 bound : ∀ (k : Nat) (r : Rec), recs[k]? = some r → ∀ b ∈ r.ups.map (·.1), b < nid + 4 * k + 4
 sem : s'.dfs.length = s.dfs.length → s'.dfs = s.dfs ∧ ∀ (k : Nat) (r : Rec), recs[k]? = some r → ∃ o, ops[i + k]? = some o ∧ r.dst = o.dst ∧ StepSem P ap ops.toArray o (nid + 4 * k) (envL s.env (recs.take k)) (hpL s.hp (recs.take k)) r.rt r.rb r.v r.ups [] none
theorem trace (hap : ApOk P ap) (hH : HSound P ap H) {ops : List Oper} : ∀ (l : List Oper) (i nid : Nat) (s s' : RS) (c c' : Cx), stepsA ap H ops l nid s c = .ok (s', none) c' → c'.Ok →
  c.Ok ∧ (s.md = .dead → DecOk s.dec s.env → l = ops.drop i → s'.md = .dead ∧ ∃ recs : List Rec, recs.length = l.length ∧ TraceR P ap ops i nid s s' recs)
 | [], i, nid, s, s', c, c', h, hc => by
  cases h
  exact ⟨hc, fun hmd _ _ => ⟨hmd, [], rfl, ⟨rfl, rfl, rfl, Nat.le_refl _, fun k r h => by simp at h, fun _ => ⟨rfl, fun k r h => by simp at h⟩⟩⟩⟩
 | o :: r, i, nid, s, s', c, c', h, hc => by
  simp only [stepsA] at h
  obtain ⟨⟨s1, p1⟩, c1, e1, h⟩ := R.bind_ok h
  dsimp only at h
  cases p1 with
  | some v => cases h
  | none =>
   dsimp only at h
   cases hft : s1.feet with
   | nil => rw [hft] at h; cases h
   | cons ft fr =>
    rw [hft] at h
    dsimp only at h
    split at h
    ·rename_i hwb
     obtain ⟨hc1, ih⟩ := trace hap hH r (i + 1) (nid + 4) s1 s' c1 c' h hc
     obtain ⟨hc0, hss⟩ := step_sound hap hH e1 hc1
     refine ⟨hc0, fun hmd hdec hl => ?_⟩
     have hoi : ops[i]? = some o := by
      have : (ops.drop i)[0]? = some o := by rw [← hl]; rfl
      simpa using this
     have hr : r = ops.drop (i + 1) := by
      have : r = (ops.drop i).drop 1 := by rw [← hl]; rfl
      rw [this, List.drop_drop]
     obtain ⟨v1, rb, ups, df, hs⟩ := hss hmd hdec
     have hfe := hs.feet rfl
     rw [hft] at hfe
     simp only [List.cons.injEq] at hfe
     rw [hfe.1] at hwb
     obtain ⟨hmd', recs, hlen, ht⟩ := ih (by rw [hs.md, hmd]) (hs.dec rfl) hr
     refine ⟨hmd', { dst := o.dst, v := v1, rt := tmpsOf o.op.operands.toList ++ guardTmps ops o, rb := rb, ups := ups } :: recs, by simp [hlen], ?_⟩
     have hdl : s.dfs.length ≤ s1.dfs.length := by rw [hs.dfs]; simp
     refine ⟨?_, ?_, ?_, Nat.le_trans hdl ht.dle, ?_, ?_⟩
     ·rw [ht.env, envL_cons, hs.env rfl]
     ·rw [ht.hp, hpL_cons, hs.hp]
     ·rw [ht.feet, hs.feet rfl]
      simp [Rec.foot, dstsL, dstL]
      cases o.dst <;> rfl
     ·intro k q hk b hb
      cases k with
      | zero =>
       simp at hk
       subst hk
       exact blt_nat (List.all_eq_true.1 hwb b hb)
      | succ k =>
       have := ht.bound k q (by simpa using hk) b hb
       omega
     ·intro he
      have h1 := ht.dle
      obtain ⟨hd1, hsem⟩ := ht.sem (by omega)
      have hdf : df = [] := by
       have : df.length = 0 := by
        have := hs.dfs
        have h3 : s1.dfs.length = df.length + s.dfs.length := by rw [this]; simp
        omega
       exact List.eq_nil_of_length_eq_zero this
      subst hdf
      refine ⟨by rw [hd1, hs.dfs]; rfl, ?_⟩
      intro k q hk
      cases k with
      | zero =>
       simp at hk
       subst hk
       exact ⟨o, hoi, rfl, hs.sem⟩
      | succ k =>
       obtain ⟨o2, h4, h5, h6⟩ := hsem k q (by simpa using hk)
       refine ⟨o2, by rw [show i + (k + 1) = i + 1 + k by omega]; exact h4, h5, ?_⟩
       rw [List.take_succ_cons, envL_cons, hpL_cons]
       rw [hs.env rfl, hs.hp] at h6
       rw [show nid + 4 * (k + 1) = nid + 4 + 4 * k by omega]
       exact h6
    ·cases h
end
end AM
namespace AM
open Go
theorem foldl_bits {md : Region.Mode} (acc : Array Nat) (i : Nat) : ∀ (l : List Edge) (s : Nat), (l.foldl (fun s e => if Region.binds md e then s ||| 2 ^ e.on ||| acc.getD e.on 0 else s) s).testBit i = true →
  s.testBit i = true ∨ ∃ e ∈ l, Region.binds md e = true ∧ (i = e.on ∨ (acc.getD e.on 0).testBit i = true)
 | [], s, h => .inl h
 | e :: r, s, h => by
  simp only [List.foldl_cons] at h
  rcases foldl_bits acc i r _ h with h1 | ⟨e', h1, h2⟩
  ·split at h1
   ·rename_i hb
    simp only [Nat.testBit_or, Bool.or_eq_true, Nat.testBit_two_pow, decide_eq_true_eq] at h1
    rcases h1 with (h1 | h1) | h1
    ·exact .inl h1
    ·exact .inr ⟨e, by simp, hb, .inl h1.symm⟩
    ·exact .inr ⟨e, by simp, hb, .inr h1⟩
   ·exact .inl h1
  ·exact .inr ⟨e', by simp [h1], h2⟩
def befStep (acc : Array Nat) (o : Oper) : Array Nat := acc.push (o.after.toList.foldl (fun s e => if Region.binds .any e then s ||| 2 ^ e.on ||| acc.getD e.on 0 else s) 0)
theorem getD_push_size (acc : Array Nat) (x : Nat) : (acc.push x).getD acc.size 0 = x := by simp [Array.getD_eq_getD_getElem?]
def ClosedE (ops : List Oper) (D : Nat → Bool) : Prop := ∀ (k : Nat) (o : Oper), ops[k]? = some o → D k = true → ∀ e ∈ o.after, Region.binds .any e = true → D e.on = true
def BefOk (D : Nat → Bool) (acc : Array Nat) : Prop := ∀ k, D k = true → ∀ i, (acc.getD k 0).testBit i = true → D i = true
theorem befs_ok {ops : List Oper} {D : Nat → Bool} (hD : ClosedE ops D) : ∀ (l : List Oper) (acc : Array Nat), BefOk D acc → l = ops.drop acc.size → BefOk D (l.foldl befStep acc)
 | [], acc, h, _ => h
 | o :: r, acc, h, hl => by
  simp only [List.foldl_cons]
  have hoi : ops[acc.size]? = some o := by
   have : (ops.drop acc.size)[0]? = some o := by rw [← hl]; rfl
   simpa using this
  refine befs_ok hD r _ ?_ ?_
  ·intro k hk i hi
   by_cases hks : k < acc.size
   ·refine h k hk i ?_
    simpa [befStep, Array.getD_eq_getD_getElem?, Array.getElem?_push, Nat.ne_of_lt hks] using hi
   ·by_cases hke : k = acc.size
    ·subst hke
     rw [befStep, getD_push_size] at hi
     rcases foldl_bits acc i _ _ hi with h1 | ⟨e, h1, h2, h3⟩
     ·simp at h1
     ·have he := hD _ o hoi hk e (by simpa using h1) h2
      rcases h3 with rfl | h3
      ·exact he
      ·exact h _ he i h3
    ·have : (befStep acc o)[k]? = none := by
      simp only [befStep]
      rw [Array.getElem?_eq_none]; simp; omega
     simp [Array.getD_eq_getD_getElem?, this] at hi
  ·have : (befStep acc o).size = acc.size + 1 := by simp [befStep]
   rw [this, ← List.drop_drop, ← hl]; rfl
theorem before_eq (ops : List Oper) : Region.before ops.toArray = ops.foldl befStep #[] := by
 simp only [Region.before, ← Array.foldl_toList]
 rfl
theorem before_closed {ops : List Oper} {D : Nat → Bool} (hD : ClosedE ops D) {k i : Nat} (hk : D k = true) (h : ((Region.before ops.toArray).toList.getD k 0).testBit i = true) : D i = true := by
 have := befs_ok hD ops #[] (fun k _ i hi => by simp at hi) (by simp)
 rw [← before_eq] at this
 refine this k hk i ?_
 rw [List.getD_eq_getElem?_getD] at h
 rw [Array.getD_eq_getD_getElem?]
 simpa using h
theorem meets_of {a b : List Nat} {x : Nat} (ha : x ∈ a) (hb : x ∈ b) : meets a b = true := List.any_eq_true.2 ⟨x, ha, memN_iff.2 hb⟩
structure Ordered (n : Nat) (bef : Nat → Nat → Bool) (recs : List Rec) : Prop where
 ok : ∀ i j a b, recs[i]? = some a → recs[j]? = some b → i < j → (clash a.foot b.foot = true ∨ ∃ x ∈ b.ups.map (·.1), n + 4 * i ≤ x ∧ x < n + 4 * i + 4) → bef j i = true
theorem ordered_of {n : Nat} {bef : List Nat} {recs : List Rec} (h : orderedA n bef (recs.map Rec.foot).reverse = true) : Ordered n (fun j i => (bef.getD j 0).testBit i) recs := by
 refine ⟨fun i j a b ha hb hij hc => ?_⟩
 simp only [orderedA, List.reverse_reverse, List.all_eq_true] at h
 have h1 := h (a.foot, i) (by rw [List.mem_zipIdx_iff_getElem?]; simp [ha]) (b.foot, j) (by rw [List.mem_zipIdx_iff_getElem?]; simp [hb])
 simp only [Bool.or_eq_true, Bool.not_eq_true'] at h1
 rcases h1 with (h1 | h1) | h1
 ·have : Nat.blt i j = true := Nat.ble_eq_true_of_le hij
  rw [this] at h1; cases h1
 ·exfalso
  rw [Bool.or_eq_false_iff] at h1
  rcases hc with hc | ⟨x, hx, h2, h3⟩
  ·rw [hc] at h1; cases h1.1
  ·have := List.any_eq_false.1 h1.2 x hx
   simp only [Bool.and_eq_true, not_and] at this
   exact this (Nat.ble_eq_true_of_le h2) (Nat.ble_eq_true_of_le h3)
 ·exact h1
section
variable {P : Program} {ap : AP} {H : Handler}
theorem FR.congr {env env' : Env} {hp hp' : Hp} {dfs : List (Nat × List AV)} {nt : Nat} {m : MapF} {S : SMap} {w : World} {a : Act} (h : FR ap env hp dfs nt m S w a) (he : ∀ t, env'.get t = env.get t) (hh : look hp' = look hp) : FR ap env' hp' dfs nt m S w a := by
 refine ⟨hh ▸ h.srel, fun t => ?_, hh ▸ h.dfs, h.size⟩
 rw [he, hh]; exact h.env t
def dOf (listed : Array Bool) : Nat → Bool := fun k => listed.getD k false
theorem dOf_set {listed : Array Bool} {i : Nat} (hi : i < listed.size) (k : Nat) : dOf (listed.setIfInBounds i true) k = (if k = i then true else dOf listed k) := by
 simp only [dOf, Array.getD_eq_getD_getElem?]
 by_cases h : k = i
 ·subst h; rw [if_pos rfl, Array.getElem?_setIfInBounds_self_of_lt hi]; rfl
 ·rw [if_neg h, Array.getElem?_setIfInBounds_ne (fun e => h e.symm)]
def missing (n : Nat) (D : Nat → Bool) : Nat := ((List.range n).filter fun i => !D i).length
theorem missing_set {D D' : Nat → Bool} {i : Nat} (hi : D i = false) (hD' : ∀ k, D' k = if k = i then true else D k) : ∀ (l : List Nat), l.Nodup → i ∈ l → (l.filter fun k => !D k).length = (l.filter fun k => !D' k).length + 1
 | [], _, h => by simp at h
 | a :: r, hn, h => by
  rw [List.nodup_cons] at hn
  by_cases ha : a = i
  ·subst ha
   have hsame : r.filter (fun k => !D k) = r.filter (fun k => !D' k) := by
    refine List.filter_congr fun k hk => ?_
    have : k ≠ a := fun e => hn.1 (e ▸ hk)
    rw [hD' k, if_neg this]
   have h1 : D' a = true := by rw [hD' a, if_pos rfl]
   simp [hi, h1, hsame]
  ·have h2 := missing_set hi hD' r hn.2 (by simpa [Ne.symm ha] using h)
   have : D' a = D a := by rw [hD' a, if_neg ha]
   simp only [List.filter_cons, this]
   split <;> simp [h2]
theorem ready_of {ops : List Oper} (hb : edgesOk ops = true) {listed : Array Bool} (hsz : listed.size = ops.length) (hnil : Region.ready .any ops.toArray listed = []) : ∀ k, k < ops.length → dOf listed k = true := by
 intro k
 induction k using Nat.strongRecOn with
 | _ k ih =>
  intro hk
  cases hd : dOf listed k with
  | true => rfl
  | false =>
   exfalso
   have hmem : k ∈ Region.ready .any ops.toArray listed := by
    simp only [Region.ready, List.mem_filter, List.mem_range, List.size_toArray]
    refine ⟨hk, ?_⟩
    have h1 : listed.getD k true = false := by
     simp only [dOf, Array.getD_eq_getD_getElem?] at hd ⊢
     rw [Array.getElem?_eq_getElem (by omega)] at hd ⊢
     simpa using hd
    have h2 : ops.toArray[k]? = some ops[k] := by simp [hk]
    rw [h1, h2]
    simp only [Bool.not_false, Bool.true_and, Option.map_some, Option.getD_some, Array.all_eq_true', Bool.or_eq_true, Bool.not_eq_true']
    intro e he
    cases hbe : Region.binds .any e with
    | false => exact .inl rfl
    | true =>
     right
     simp only [edgesOk, List.all_eq_true] at hb
     have h3 := hb (ops[k], k) (by rw [List.mem_zipIdx_iff_getElem?]; simp [hk]) e (by simpa using he)
     rw [hbe] at h3
     simp only [Bool.not_true, Bool.false_or] at h3
     have h4 := blt_nat h3
     exact ih e.on h4 (by omega)
   rw [hnil] at hmem
   cases hmem
theorem ready_spec {ops : List Oper} {listed : Array Bool} (hsz : listed.size = ops.length) {i : Nat} (h : i ∈ Region.ready .any ops.toArray listed) : ∃ o, ops[i]? = some o ∧ dOf listed i = false ∧ i < ops.length ∧ ∀ e ∈ o.after, Region.binds .any e = true → dOf listed e.on = true := by
 simp only [Region.ready, List.mem_filter, List.mem_range, List.size_toArray, Bool.and_eq_true, Bool.not_eq_true'] at h
 obtain ⟨hi, h1, h2⟩ := h
 have h3 : ops.toArray[i]? = some ops[i] := by simp [hi]
 rw [h3] at h2
 simp only [Option.map_some, Option.getD_some, Array.all_eq_true', Bool.or_eq_true, Bool.not_eq_true'] at h2
 refine ⟨ops[i], List.getElem?_eq_getElem hi, ?_, hi, fun e he hb => ?_⟩
 ·simp only [dOf, Array.getD_eq_getD_getElem?] at h1 ⊢
  rw [Array.getElem?_eq_getElem (by omega)] at h1 ⊢
  simpa using h1
 ·rcases h2 e he with h | h
  ·rw [hb] at h; cases h
  ·exact h
end
end AM
namespace AM
open Go
theorem clash_wr {a b : Foot} {x : Nat} (h : x ∈ a.wt) (h' : x ∈ b.rt) : clash a b = true := by simp [clash, meets_of h h']
theorem clash_ww {a b : Foot} {x : Nat} (h : x ∈ a.wt) (h' : x ∈ b.wt) : clash a b = true := by simp [clash, meets_of h h']
theorem clash_rw {a b : Foot} {x : Nat} (h : x ∈ a.rt) (h' : x ∈ b.wt) : clash a b = true := by simp [clash, meets_of h h']
theorem clash_bwr {a b : Foot} {x : Nat} (h : x ∈ a.wb) (h' : x ∈ b.rb) : clash a b = true := by simp [clash, meets_of h h']
theorem clash_bww {a b : Foot} {x : Nat} (h : x ∈ a.wb) (h' : x ∈ b.wb) : clash a b = true := by simp [clash, meets_of h h']
theorem clash_brw {a b : Foot} {x : Nat} (h : x ∈ a.rb) (h' : x ∈ b.wb) : clash a b = true := by simp [clash, meets_of h h']
theorem mem_dsts {d : Option Nat} {t : Nat} (h : d = some t) : t ∈ dstsL d := by subst h; simp [dstsL]
section
variable {P : Program} {ap : AP} {H : Handler}
structure DInv (ap : AP) (ops : List Oper) (recs : List Rec) (e0 : Env) (hp0 : Hp) (dfs : List (Nat × List AV)) (nt : Nat) (m0 : MapF) (S0 : SMap) (w0 : World) (listed : Array Bool) (m : MapF) (S : SMap) (w : World) (a : Act) : Prop where
 sz : listed.size = ops.length
 cl : ClosedE ops (dOf listed)
 fr : Fr (look hp0) m0 S0 w0 (look (hpD (dOf listed) 0 hp0 recs)) m S w
 rel : FR ap (envD (dOf listed) 0 e0 recs) (hpD (dOf listed) 0 hp0 recs) dfs nt m S w a
theorem draw_any {ops : List Oper} {recs : List Rec} {s s' : RS} {n0 nt : Nat} (hnt : ∀ o ∈ ops, ∀ d, o.dst = some d → d < nt) (hlen : recs.length = ops.length) (htr : TraceR P ap ops 0 n0 s s' recs) (hdl : s'.dfs.length = s.dfs.length)
  (hord : Ordered n0 (fun j i => ((Region.before ops.toArray).toList.getD j 0).testBit i) recs) (hback : edgesOk ops = true) (hn0 : ∀ b B, look s.hp b = some B → b < n0) {m0 : MapF} {S0 : SMap} {w0 : World} {Q : Exit → Act → World → Prop}
  (hQ : ∀ m S w a, Fr (look s.hp) m0 S0 w0 (look (hpL s.hp recs)) m S w → FR ap (envL s.env recs) (hpL s.hp recs) s.dfs nt m S w a → Q .normal a w) :
  ∀ (fuel : Nat) (listed : Array Bool) (m : MapF) (S : SMap) (w : World) (a : Act), DInv ap ops recs s.env s.hp s.dfs nt m0 S0 w0 listed m S w a → missing ops.length (dOf listed) ≤ fuel → wpAny P .any ops.toArray Q fuel listed a w := by
 obtain ⟨_, hsem⟩ := htr.sem hdl
 have hdone : ∀ (listed : Array Bool) (m : MapF) (S : SMap) (w : World) (a : Act), DInv ap ops recs s.env s.hp s.dfs nt m0 S0 w0 listed m S w a → (∀ k, k < ops.length → dOf listed k = true) → Q .normal a w := by
  intro listed m S w a hI hall
  have hh : ∀ b, look (hpL s.hp recs) b = look (hpD (dOf listed) 0 s.hp recs) b := fun b =>
   hpD_look recs 0 _ _ rfl fun k r hk _ => by rw [hall (0 + k) (by have := (List.getElem?_eq_some_iff.1 hk).1; omega)]
  have he : ∀ t, (envL s.env recs).get t = (envD (dOf listed) 0 s.env recs).get t := fun t =>
   envD_get recs 0 _ _ rfl fun k r hk _ => by rw [hall (0 + k) (by have := (List.getElem?_eq_some_iff.1 hk).1; omega)]
  have hh' := funext hh
  exact hQ m S w a (hh' ▸ hI.fr) (hI.rel.congr he hh')
 intro fuel
 induction fuel with
 | zero =>
  intro listed m S w a hI hm
  have hall : ∀ k, k < ops.length → dOf listed k = true := by
   intro k hk
   cases hd : dOf listed k with
   | true => rfl
   | false =>
    have hmem : k ∈ (List.range ops.length).filter fun i => !dOf listed i := by simp [hk, hd]
    have : (List.range ops.length).filter (fun i => !dOf listed i) = [] := List.eq_nil_of_length_eq_zero (Nat.le_zero.1 hm)
    rw [this] at hmem
    cases hmem
  refine ⟨?_, hdone listed m S w a hI hall⟩
  cases hr : Region.ready .any ops.toArray listed with
  | nil => rfl
  | cons i r =>
   obtain ⟨o, _, h2, h3, _⟩ := ready_spec hI.sz (i := i) (by rw [hr]; simp)
   rw [hall i h3] at h2; cases h2
 | succ fuel ih =>
  intro listed m S w a hI hm
  refine ⟨fun hnil => hdone listed m S w a hI (ready_of hback hI.sz hnil), fun i hi => ?_⟩
  obtain ⟨o, hoi, hDi, hlt, hedges⟩ := ready_spec hI.sz hi
  have hri : recs[i]? = some recs[i] := List.getElem?_eq_getElem (by omega)
  generalize recs[i] = r at hri
  obtain ⟨o', ho', hdst, hstep⟩ := hsem i r hri
  rw [Nat.zero_add, hoi] at ho'
  cases ho'
  have hsz' : i < listed.size := by rw [hI.sz]; exact hlt
  have hset := dOf_set hsz'
  have hcl' : ClosedE ops (dOf (listed.setIfInBounds i true)) := by
   intro k o2 hk hd e he hb
   rw [hset] at hd ⊢
   split
   ·rfl
   ·split at hd
    ·rename_i hki
     subst hki
     rw [hoi] at hk; cases hk
     exact hedges e he hb
    ·exact hI.cl k o2 hk hd e he hb
  have hlow : ∀ k q, recs[k]? = some q → k < i → (clash q.foot r.foot = true ∨ ∃ x ∈ r.ups.map (·.1), n0 + 4 * k ≤ x ∧ x < n0 + 4 * k + 4) → dOf listed k = true := by
   intro k q hk hki hc
   have h1 := hord.ok k i q r hk hri hki hc
   have h2 := before_closed hcl' (k := i) (i := k) (by rw [hset, if_pos rfl]) h1
   rw [hset, if_neg (by omega)] at h2
   exact h2
  have hhigh : ∀ k q, recs[k]? = some q → i < k → (clash r.foot q.foot = true ∨ ∃ x ∈ q.ups.map (·.1), n0 + 4 * i ≤ x ∧ x < n0 + 4 * i + 4) → dOf listed k = false := by
   intro k q hk hki hc
   cases hd : dOf listed k with
   | false => rfl
   | true =>
    have h1 := hord.ok i k r q hri hk hki hc
    have h2 := before_closed hI.cl hd h1
    rw [hDi] at h2; cases h2
  have hagr : ∀ k q, recs[k]? = some q → (k < i → clash q.foot r.foot = true) → (i < k → clash r.foot q.foot = true) → decide (k < i) = dOf listed k := by
   intro k q hk h1 h2
   rcases Nat.lt_trichotomy k i with h | h | h
   ·rw [hlow k q hk h (.inl (h1 h))]; simp [h]
   ·subst h; rw [hDi]; simp
   ·rw [hhigh k q hk h (.inl (h2 h))]; simp; omega
  have hagr' : ∀ k q, recs[k]? = some q → (k < i → clash q.foot r.foot = true) → (i < k → clash r.foot q.foot = true) → dOf (listed.setIfInBounds i true) k = decide (k < i + 1) := by
   intro k q hk h1 h2
   rw [hset]
   rcases Nat.lt_trichotomy k i with h | h | h
   ·rw [if_neg (by omega), hlow k q hk h (.inl (h1 h))]; simp; omega
   ·subst h; simp
   ·rw [if_neg (by omega), hhigh k q hk h (.inl (h2 h))]; simp; omega
  have henv : ∀ t ∈ r.rt, (envL s.env (recs.take i)).get t = (envD (dOf listed) 0 s.env recs).get t := by
   intro t ht
   rw [← envD_lt]
   refine envD_get recs 0 _ _ rfl fun k q hk hd => ?_
   rw [Nat.zero_add]
   exact hagr k q hk (fun _ => clash_wr (mem_dsts hd) ht) (fun _ => clash_rw ht (mem_dsts hd))
  have hhp : ∀ b ∈ r.rb, look (hpL s.hp (recs.take i)) b = look (hpD (dOf listed) 0 s.hp recs) b := by
   intro b hb
   rw [← hpD_lt]
   refine hpD_look recs 0 _ _ rfl fun k q hk hd => ?_
   rw [Nat.zero_add]
   exact hagr k q hk (fun _ => clash_bwr hd hb) (fun _ => clash_brw hb hd)
  have hfresh : ∀ j, j < 4 → look (hpD (dOf listed) 0 s.hp recs) (n0 + 4 * i + j) = none := by
   intro j hj
   have h1 : look (hpD (dOf listed) 0 s.hp recs) (n0 + 4 * i + j) = look (hpD (fun _ => false) 0 s.hp recs) (n0 + 4 * i + j) := by
    refine hpD_look recs 0 _ _ rfl fun k q hk hd => ?_
    rw [Nat.zero_add]
    have hb := htr.bound k q hk _ hd
    rcases Nat.lt_trichotomy k i with h | h | h
    ·omega
    ·subst h; exact hDi
    ·exact hhigh k q hk h (.inr ⟨_, hd, by omega, by omega⟩)
   rw [h1, hpD_none recs 0 _ (fun _ _ => rfl)]
   cases hb : look s.hp (n0 + 4 * i + j) with
   | none => rfl
   | some B => have := hn0 _ _ hb; omega
  have hopA : ops.toArray[i]? = some o := by simpa using hoi
  have hgoal : wpO P ops.toArray Q o (wpAny P .any ops.toArray Q fuel (listed.setIfInBounds i true)) a w := by
   refine hstep (look (hpD (dOf listed) 0 s.hp recs)) m S w a hI.rel.srel (fun t ht => by rw [henv t ht]; exact hI.rel.env t) (fun b hb B hB => by rw [← hhp b hb]; exact hB) hfresh Q _ ?_
   intro cv m' S' w' ds h1 h2 h3 h4
   have hF := hI.rel.put (hnt o (List.mem_of_getElem? hoi)) h1 h2 h3 h4
   rw [updF_append] at h2
   rw [List.nil_append] at hF
   have he' : ∀ t, (envD (dOf (listed.setIfInBounds i true)) 0 s.env recs).get t = (putE (envD (dOf listed) 0 s.env recs) o.dst r.v).get t := by
    intro t
    by_cases ht : o.dst = some t
    ·have h5 : (envD (dOf (listed.setIfInBounds i true)) 0 s.env recs).get t = (envD (fun j => decide (j < i + 1)) 0 s.env recs).get t := by
      refine envD_get recs 0 _ _ rfl fun k q hk hd => ?_
      rw [Nat.zero_add]
      have hrt : t ∈ r.foot.wt := mem_dsts (hdst.trans ht)
      exact hagr' k q hk (fun _ => clash_ww (mem_dsts hd) hrt) (fun _ => clash_ww hrt (mem_dsts hd))
     rw [h5, envD_lt, envL_snoc _ _ _ _ hri, hdst, ht, get_putE_eq, get_putE_eq]
    ·rw [getE_put ht]
     refine envD_get recs 0 _ _ rfl fun k q hk hd => ?_
     rw [Nat.zero_add, hset, if_neg]
     rintro rfl
     rw [hri] at hk; cases hk
     exact ht (hdst ▸ hd)
   have hh' : look (hpD (dOf (listed.setIfInBounds i true)) 0 s.hp recs) = look (r.ups ++ hpD (dOf listed) 0 s.hp recs) := by
    funext b
    by_cases hb : b ∈ r.ups.map (·.1)
    ·have h5 : look (hpD (dOf (listed.setIfInBounds i true)) 0 s.hp recs) b = look (hpD (fun j => decide (j < i + 1)) 0 s.hp recs) b := by
      refine hpD_look recs 0 _ _ rfl fun k q hk hd => ?_
      rw [Nat.zero_add]
      exact hagr' k q hk (fun _ => clash_bww hd hb) (fun _ => clash_bww hb hd)
     rw [h5, hpD_lt, hpL_snoc _ _ _ _ hri]
     exact look_app_mem hb
    ·rw [look_app_not hb]
     refine hpD_look recs 0 _ _ rfl fun k q hk hd => ?_
     rw [Nat.zero_add, hset, if_neg]
     rintro rfl
     rw [hri] at hk; cases hk
     exact hb hd
   refine ih _ m' S' w' _ ⟨by rw [Array.size_setIfInBounds]; exact hI.sz, hcl', ?_, hF.congr he' hh'⟩ ?_
   ·rw [hh']; exact hI.fr.trans h2
   ·have := missing_set hDi hset (List.range ops.length) List.nodup_range (by simp [hlt])
    simp only [missing] at hm ⊢
    omega
  simp only [wpOp, hopA]
  exact hgoal
def RegionAfter (ap : AP) (base : Nat) (keep : List Nat) (hp0 : Hp) (m : MapF) (S : SMap) (w : World) (nt : Nat) (s' : St) (Q : Exit → Act → World → Prop) : AExit → Prop
 | .panic v => match (refs v).isEmpty with
  | true => ∀ s1 : St, s' = norm base keep s1 → RegAfter ap hp0 m S w nt s1.env s1.hp s1.dfs Q (some v)
  | false => RegAfter ap hp0 m S w nt s'.env s'.hp s'.dfs Q (some v)
 | .normal => ∀ s1 : St, s' = norm base keep s1 → RegAfter ap hp0 m S w nt s1.env s1.hp s1.dfs Q none
 | _ => True
theorem region_sound (hap : ApOk P ap) (hmix : P.follows .mixedOrders = true) (hH : HSound P ap H) {ops : List Oper} {draw : Bool} {nt base : Nat} {keep : List Nat} (hnt : ∀ o ∈ ops, ∀ d, o.dst = some d → d < nt) {s : St} {e : AExit} {s' : St} {c c' : Cx} {id : Nat}
  (h : regionA ap H base keep ops draw s c = .ok (e, s') c') (hc : c'.Ok) : c.Ok ∧ (s.md = .dead → s'.md = .dead ∧ (∀ m S w a, FR ap s.env s.hp s.dfs nt m S w a → ∀ Q,
   RegionAfter ap base keep s.hp m S w nt s' Q e → (Code.region id ops.toArray draw).wp P Q a w)) := by
 unfold regionA at h
 obtain ⟨⟨s1, p⟩, c1, e1, h⟩ := R.bind_ok h
 dsimp only at h
 have hn0 : ∀ b B, look s.hp b = some B → b < nextId s.hp := fun b B hb => nextId_lt hb
 cases p with
 | some v =>
  cases draw with
  | true => cases h
  | false =>
   dsimp only at h
   split at h
   ·rename_i hre
    cases h
    obtain ⟨hc0, hs⟩ := seq_sound hap hH hnt ops 0 _ _ _ _ _ _ e1 hc
    refine ⟨hc0, fun hmd => ?_⟩
    obtain ⟨h1, h2⟩ := hs hmd (fun t b hb => by cases hb) rfl hn0
    refine ⟨h1, fun m S w a hF Q hQ => wp_region ?_⟩
    simp only [RegionAfter, hre] at hQ
    have := h2 m S w a hF Q (hQ _ rfl)
    rw [← List.range_eq_range'] at this
    simpa using this
   ·rename_i hre
    cases h
    obtain ⟨hc0, hs⟩ := seq_sound hap hH hnt ops 0 _ _ _ _ _ _ e1 hc
    refine ⟨hc0, fun hmd => ?_⟩
    obtain ⟨h1, h2⟩ := hs hmd (fun t b hb => by cases hb) rfl hn0
    refine ⟨h1, fun m S w a hF Q hQ => wp_region ?_⟩
    simp only [RegionAfter, hre] at hQ
    have := h2 m S w a hF Q hQ
    rw [← List.range_eq_range'] at this
    simpa using this
 | none =>
  dsimp only at h
  split at h
  ·rename_i hcond
   cases h
   cases draw with
   | false =>
    obtain ⟨hc0, hs⟩ := seq_sound hap hH hnt ops 0 _ _ _ _ _ _ e1 hc
    refine ⟨hc0, fun hmd => ?_⟩
    obtain ⟨h1, h2⟩ := hs hmd (fun t b hb => by cases hb) rfl hn0
    refine ⟨h1, fun m S w a hF Q hQ => wp_region ?_⟩
    have := h2 m S w a hF Q (hQ _ rfl)
    rw [← List.range_eq_range'] at this
    simpa using this
   | true =>
    obtain ⟨hc0, hs⟩ := trace hap hH ops 0 _ _ _ _ _ e1 hc
    refine ⟨hc0, fun hmd => ?_⟩
    obtain ⟨h1, recs, hlen, htr⟩ := hs hmd (fun t b hb => by cases hb) rfl
    refine ⟨h1, fun m S w a hF Q hQ => wp_region_any hmix ?_⟩
    simp only [Bool.not_true, Bool.false_or, Bool.and_eq_true] at hcond
    obtain ⟨⟨ho, hback⟩, hdl⟩ := hcond
    have hdl := beq_nat hdl
    rw [htr.feet, List.append_nil] at ho
    have hst := hQ _ rfl
    have hdf := (htr.sem hdl).1
    have hD0 : dOf (Array.replicate ops.length false) = fun _ => false := by
     funext k
     simp only [dOf, Array.getD_eq_getD_getElem?]
     by_cases hk : k < ops.length <;> simp [hk]
    have hsz : ops.toArray.size = ops.length := by simp
    rw [hsz]
    refine draw_any hnt hlen htr hdl (ordered_of ho) hback hn0 (m0 := m) (S0 := S) (w0 := w) (Q := Q) ?_ ops.length _ m S _ a ⟨by simp, ?_, ?_, ?_⟩ ?_
    ·intro m' S' w' a' h3 h4
     refine hst m' S' w' a' ?_ ?_
     ·rw [htr.hp]; exact h3
     ·rw [htr.hp, htr.env, hdf]; exact h4
    ·intro k o hk hd
     rw [hD0] at hd; cases hd
    ·rw [hD0, hpD_none recs 0 _ (fun _ _ => rfl)]
     exact ⟨Ge.refl _ _, SLe.refl _, rfl, rfl, rfl, Nat.le_refl _, fun _ _ _ => rfl, fun _ B h => .inr ⟨B, h, rfl⟩, fun _ _ _ h => .inl h⟩
    ·rw [hD0, hpD_none recs 0 _ (fun _ _ => rfl), envD_none recs 0 _ (fun _ _ => rfl)]
     exact ⟨⟨hF.srel.inj, fun b B hb => hF.srel.blk b B hb |> fun ⟨h1, h2, h3⟩ => ⟨h1, h2, h3⟩, hF.srel.sealed, hF.srel.own, hF.srel.glob⟩, hF.env, hF.dfs, hF.size⟩
    ·exact Nat.le_trans (List.length_filter_le _ _) (by simp)
  ·cases h
end
end AM
namespace AM
open Go
def addN (acc : List Nat) (b : Nat) : List Nat := if memN acc b then acc else acc ++ [b]
theorem addN_spec (acc : List Nat) (b : Nat) (h : acc.Nodup) : (addN acc b).Nodup ∧ ∃ t, addN acc b = acc ++ t := by
 unfold addN
 split
 ·exact ⟨h, [], by simp⟩
 ·rename_i hb
  refine ⟨?_, [b], rfl⟩
  rw [List.nodup_append]
  refine ⟨h, by simp, ?_⟩
  intro x hx y hy e
  simp at hy
  subst hy; subst e
  exact hb (memN_iff.2 hx)
theorem addAll_spec : ∀ (l acc : List Nat), acc.Nodup → (l.foldl addN acc).Nodup ∧ ∃ t, l.foldl addN acc = acc ++ t
 | [], acc, h => ⟨h, [], by simp⟩
 | b :: r, acc, h => by
  simp only [List.foldl_cons]
  obtain ⟨h1, t1, h2⟩ := addN_spec acc b h
  obtain ⟨h3, t2, h4⟩ := addAll_spec r _ h1
  exact ⟨h3, t1 ++ t2, by rw [h4, h2, List.append_assoc]⟩
theorem addAll_new : ∀ (l acc : List Nat), l.Nodup → (∀ x ∈ l, x ∉ acc) → l.foldl addN acc = acc ++ l
 | [], acc, _, _ => by simp
 | b :: r, acc, h, hd => by
  rw [List.nodup_cons] at h
  have hb : memN acc b = false := by
   cases hm : memN acc b with
   | false => rfl
   | true => exact absurd (memN_iff.1 hm) (hd b (by simp))
  simp only [List.foldl_cons]
  have : addN acc b = acc ++ [b] := by simp [addN, hb]
  rw [this, addAll_new r _ h.2]
  ·simp
  ·intro x hx hm
   rcases List.mem_append.1 hm with hm | hm
   ·exact hd x (by simp [hx]) hm
   ·simp at hm; subst hm; exact h.1 hx
theorem nodupN_eq (l : List Nat) : nodupN l = l.foldl addN [] := rfl
theorem nodupN_pre (n : Nat) (l : List Nat) : (nodupN (List.range n ++ l)).Nodup ∧ ∃ t, nodupN (List.range n ++ l) = List.range n ++ t := by
 rw [nodupN_eq, List.foldl_append, addAll_new (List.range n) [] List.nodup_range (by simp), List.nil_append]
 exact addAll_spec l _ List.nodup_range
theorem clos_pre (rd : HpF) : ∀ (n : Nat) (l : List Nat), l.Nodup → (clos rd n l).Nodup ∧ ∃ t, clos rd n l = l ++ t
 | 0, l, h => ⟨h, [], by simp [clos]⟩
 | n + 1, l, h => by
  simp only [clos]
  split
  ·exact ⟨h, [], by simp⟩
  ·obtain ⟨h1, t1, h2⟩ := addAll_spec (l.flatMap fun b => match rd b with | some B => (match B.pr with | true => [] | false => refsL B.cells) | none => []) l h
   obtain ⟨h3, t2, h4⟩ := clos_pre rd n _ h1
   refine ⟨h3, t1 ++ t2, ?_⟩
   exact h4.trans (by rw [h2, List.append_assoc])
theorem look_keep {f : Nat → AV} : ∀ (keep : List Nat) (t : Nat), look (keep.map fun t => (t, f t)) t = if t ∈ keep then some (f t) else none
 | [], t => by simp [look]
 | a :: r, t => by
  simp only [List.map_cons, look, look_keep r t]
  cases h : Nat.beq a t with
  | true => have := beq_nat h; subst this; simp
  | false =>
   have hne : t ≠ a := by intro e; subst e; simp at h
   simp [hne]
theorem look_zipIdx {rd : HpF} {mk : Nat → Blk → Blk} : ∀ (ids : List Nat) (j p : Nat), look ((ids.zipIdx j).filterMap fun (b, p) => (rd b).map fun B => (p, mk p B)) p = if j ≤ p then (ids[p - j]?).bind fun b => (rd b).map (mk p) else none
 | [], j, p => by simp [look]
 | a :: r, j, p => by
  have ih := look_zipIdx (rd := rd) (mk := mk) r (j + 1) p
  rw [List.zipIdx_cons]
  cases ha : rd a with
  | none =>
   rw [List.filterMap_cons_none (by simp [ha]), ih]
   by_cases hj : j + 1 ≤ p
   ·rw [if_pos hj, if_pos (by omega)]
    obtain ⟨d, hd⟩ : ∃ d, p - j = d + 1 := ⟨p - j - 1, by omega⟩
    rw [hd, List.getElem?_cons_succ, show p - (j + 1) = d by omega]
   ·rw [if_neg hj]
    by_cases hjp : j ≤ p
    ·rw [if_pos hjp, show p - j = 0 by omega]; simp [ha]
    ·rw [if_neg hjp]
  | some B =>
   rw [List.filterMap_cons_some (by simp [ha]; rfl)]
   simp only [look]
   cases h : Nat.beq j p with
   | true => have := beq_nat h; subst this; simp [ha]
   | false =>
    have hne : j ≠ p := by intro e; subst e; simp at h
    simp only [ih]
    by_cases hj : j + 1 ≤ p
    ·rw [if_pos hj, if_pos (by omega)]
     obtain ⟨d, hd⟩ : ∃ d, p - j = d + 1 := ⟨p - j - 1, by omega⟩
     rw [hd, List.getElem?_cons_succ, show p - (j + 1) = d by omega]
    ·rw [if_neg hj, if_neg (by omega)]
theorem nodupT_of : ∀ {l : List Nat}, l.Nodup → nodupT l = true
 | [], _ => rfl
 | b :: r, h => by
  rw [List.nodup_cons] at h
  simp only [nodupT, Bool.and_eq_true, Bool.not_eq_true']
  refine ⟨?_, nodupT_of h.2⟩
  cases hm : memN r b with
  | false => rfl
  | true => exact absurd (memN_iff.1 hm) h.1
section
variable {P : Program} {ap : AP} {H : Handler}
theorem DefR_ren {g g' : HpF} {m m' : MapF} {S S' : SMap} {ρ : Nat → Nat → Option (Nat × Nat)} (hS : SLe S S') (h : RenOk g m g' m' ρ) : ∀ {l : List (Nat × List AV)} {ds : List Deferred}, DefR g m S l ds → DefR g' m' S' (l.map fun d => (d.1, renL ρ d.2)) ds
 | [], [], _ => by simp [DefR]
 | d :: r, cd :: cr, p => by
  simp only [DefR] at p
  obtain ⟨⟨cap, h1, h2⟩, h3⟩ := p
  simp only [List.map_cons, DefR]
  exact ⟨⟨cap, h1, VRL_ren hS h _ h2⟩, DefR_ren hS h h3⟩
 | [], _ :: _, p => by simp [DefR] at p
 | _ :: _, [], p => by simp [DefR] at p
theorem norm_sound {h0 : List Blk} {keep : List Nat} {s : St} {nt : Nat} {m m0 : MapF} {S S0 : SMap} {w w0 : World} {a : Act} (hfr : Fr (hpOf h0) m0 S0 w0 (look s.hp) m S w) (hF : FR ap s.env s.hp s.dfs nt m S w a) :
  ∃ m', Fr (hpOf h0) m0 S0 w0 (look (norm h0.length keep s).hp) m' S w ∧ FR ap (norm h0.length keep s).env (norm h0.length keep s).hp (norm h0.length keep s).dfs nt m' S w a := by
 generalize hroots : envRoots keep s.env ++ s.dfs.flatMap (fun d => refsL d.2) = roots
 have hroots' : List.range h0.length ++ envRoots keep s.env ++ s.dfs.flatMap (fun d => refsL d.2) = List.range h0.length ++ roots := by rw [← hroots, List.append_assoc]
 obtain ⟨hn1, t1, ht1⟩ := nodupN_pre h0.length roots
 obtain ⟨hn2, t2, ht2⟩ := clos_pre (look s.hp) 20 _ hn1
 rw [ht1, List.append_assoc] at ht2
 have hsome : ∀ b, b < h0.length → ∃ B0 B, hpOf h0 b = some B0 ∧ look s.hp b = some B ∧ B.esz = B0.esz ∧ ((B.ver = B0.ver ∧ m b = m0 b) ∨ B0.ver < B.ver) := by
  intro b hb
  obtain ⟨B, h1, h2⟩ := hfr.ge b h0[b] (by simp [hpOf, hb])
  exact ⟨h0[b], B, by simp [hpOf, hb], h1, h2⟩
 generalize hids : (clos (look s.hp) 20 (nodupN (List.range h0.length ++ roots))).filter (fun b => (look s.hp b).isSome) = ids
 have hnd : ids.Nodup := by rw [← hids]; exact hn2.filter _
 have hndT := nodupT_of hnd
 have hpre : ∃ t, ids = List.range h0.length ++ t := by
  rw [← hids, ht1, ht2, List.filter_append]
  refine ⟨_, congrArg (· ++ _) ?_⟩
  rw [List.filter_eq_self]
  intro b hb
  obtain ⟨_, B, _, h2, _⟩ := hsome b (by simpa using hb)
  simp [h2]
 obtain ⟨t, hpre⟩ := hpre
 have hlow : ∀ b, b < h0.length → ids[b]? = some b := by
  intro b hb
  rw [hpre, List.getElem?_append_left (by simpa using hb)]
  simp [hb]
 have hget : ∀ (p b : Nat), ids[p]? = some b → ∃ B, look s.hp b = some B := by
  intro p b hp
  have := List.mem_of_getElem? hp
  rw [← hids, List.mem_filter] at this
  exact Option.isSome_iff_exists.1 this.2
 let ρ : Nat → Nat → Option (Nat × Nat) := fun b v => match look s.hp b with
  | some B => match Nat.beq B.ver v with
   | true => (idxN ids b).map fun p => (p, match Nat.blt p h0.length with | true => v | false => 0)
   | false => none
  | none => none
 let mk : Nat → Blk → Blk := fun p B => { B with cells := (match B.pr with | true => B.cells | false => renL ρ B.cells), ver := match Nat.blt p h0.length with | true => B.ver | false => 0 }
 have hnorm : norm h0.length keep s = ⟨keep.map fun t => (t, ren ρ (s.env.get t)), ids.zipIdx.filterMap fun (b, p) => (look s.hp b).map fun B => (p, mk p B), s.md, s.dfs.map fun d => (d.1, renL ρ d.2)⟩ := by
  unfold norm
  simp only [hroots', hids]
  rfl
 rw [hnorm]
 dsimp only
 have hg2 : ∀ p, look (ids.zipIdx.filterMap fun (b, p) => (look s.hp b).map fun B => (p, mk p B)) p = (ids[p]?).bind fun b => (look s.hp b).map (mk p) := by
  intro p
  rw [look_zipIdx (rd := look s.hp) (mk := mk) ids 0 p, if_pos (Nat.zero_le _), Nat.sub_zero]
 generalize (ids.zipIdx.filterMap fun (b, p) => (look s.hp b).map fun B => (p, mk p B)) = hp2 at hg2
 have hg2' : ∀ (p : Nat) (B2 : Blk), look hp2 p = some B2 → ∃ b B, ids[p]? = some b ∧ look s.hp b = some B ∧ B2 = mk p B := by
  intro p B2 h
  rw [hg2] at h
  cases hp : ids[p]? with
  | none => rw [hp] at h; cases h
  | some b =>
   rw [hp] at h
   obtain ⟨B, hB⟩ := hget p b hp
   simp only [Option.bind_some, hB, Option.map_some, Option.some.injEq] at h
   exact ⟨b, B, rfl, hB, h.symm⟩
 let m2 : MapF := fun p => m (ids.getD p 0)
 have hm2 : ∀ (p b : Nat), ids[p]? = some b → m2 p = m b := by
  intro p b hp
  show m (ids.getD p 0) = _
  rw [List.getD_eq_getElem?_getD, hp]; rfl
 have hren : RenOk (look s.hp) m (look hp2) m2 ρ := by
  intro b ver p ver' h B hB hver
  simp only [ρ, hB] at h
  split at h
  ·rename_i hv
   have hv := beq_nat hv
   simp only [Option.map_eq_some_iff, Prod.mk.injEq] at h
   obtain ⟨q, hq, rfl, rfl⟩ := h
   have hq := idxN_some hq
   refine ⟨mk q B, ?_, ?_, fun _ => ⟨hv, hm2 q b hq, rfl⟩⟩
   ·rw [hg2, hq]; simp [hB]
   ·simp only [mk]
    split
    ·omega
    ·exact Nat.le_refl _
  ·cases h
 have hinj : ∀ (p q b : Nat), ids[p]? = some b → ids[q]? = some b → p = q := by
  intro p q b hp hq
  have e1 := idxN_of hndT hp
  rw [idxN_of hndT hq] at e1
  cases e1; rfl
 refine ⟨m2, ?_, ?_, ?_, ?_, hF.size⟩
 ·refine ⟨?_, hfr.sle, hfr.os, hfr.tape, hfr.output, hfr.size, hfr.rest, ?_, hfr.sealN⟩
  ·intro b B0 hb
   have hlt : b < h0.length := (List.getElem?_eq_some_iff.1 hb).1
   obtain ⟨B0', B, h1, h2, h3, h4⟩ := hsome b hlt
   rw [hb] at h1; cases h1
   have hbl : Nat.blt b h0.length = true := Nat.ble_eq_true_of_le hlt
   refine ⟨mk b B, by rw [hg2, hlow b hlt]; simp [h2], h3, ?_⟩
   simp only [mk, hbl]
   rw [hm2 b b (hlow b hlt)]
   exact h4
  ·intro p B2 hp
   obtain ⟨b, B, h1, h2, rfl⟩ := hg2' p B2 hp
   rw [hm2 p b h1]
   rcases hfr.img b B h2 with h | ⟨B0, h3, h4⟩
   ·exact .inl h
   ·have hlt : b < h0.length := (List.getElem?_eq_some_iff.1 h3).1
    have := hinj p b b h1 (hlow b hlt)
    subst this
    exact .inr ⟨B0, h3, h4⟩
 ·refine ⟨?_, ?_, hF.srel.sealed, ?_, hF.srel.glob⟩
  ·intro p q B2 B2' hp hq e
   obtain ⟨b, B, h1, h2, rfl⟩ := hg2' p B2 hp
   obtain ⟨b', B', h1', h2', rfl⟩ := hg2' q B2' hq
   rw [hm2 p b h1, hm2 q b' h1'] at e
   have := hF.srel.inj b b' B B' h2 h2' e
   subst this
   exact hinj p q b h1 h1'
  ·intro p B2 hp
   obtain ⟨b, B, h1, h2, rfl⟩ := hg2' p B2 hp
   rw [hm2 p b h1]
   obtain ⟨⟨cur, e, vs, rest, k1, k2, k3, k4, k5, k6⟩, k7, k8⟩ := hF.srel.blk b B h2
   cases hpr : B.pr with
   | true => exact ⟨⟨cur, e, vs, rest, k1, k2, fun _ => by simpa [mk, hpr] using k3 hpr, by simpa [mk, hpr] using VRL_of_PRL _ (k3 hpr), k5, k6⟩, k7, by simpa [mk, hpr] using k8⟩
   | false =>
    have hv := VRL_ren (SLe.refl S) hren _ k4
    exact ⟨⟨cur, e, vs, rest, k1, k2, fun h => by simp [mk, hpr] at h, by simpa [mk, hpr] using hv, k5, k6⟩, k7, by
     have : (mk p B).cells.length = B.cells.length := by simp only [mk, hpr]; rw [VRL_length k4, VRL_length hv]
     rw [this]; exact k8⟩
  ·intro p B2 hp o v ho
   obtain ⟨b, B, h1, h2, rfl⟩ := hg2' p B2 hp
   rw [hm2 p b h1] at ho
   exact hF.srel.own b B h2 o v ho
 ·intro t
  simp only [Env.get, look_keep]
  by_cases ht : t ∈ keep
  ·rw [if_pos ht]
   exact VR_ren (SLe.refl S) hren _ (hF.env t)
  ·rw [if_neg ht]
   simp [VR]
 ·exact DefR_ren (SLe.refl S) hren hF.dfs
end
end AM
namespace AM
open Go
mutual
theorem VR_agree {g g' : HpF} {m m' : MapF} {S S' : SMap} (hS : SLe S S') : ∀ (x : AV) {v : Value}, (∀ b ∈ refs x, g' b = g b ∧ m' b = m b) → VR g m S x v → VR g' m' S' x v
 | .int _ _, _, _, p => by simpa only [VR, PR] using p
 | .bool _, _, _, p => by simpa only [VR, PR] using p
 | .str _, _, _, p => by simpa only [VR, PR] using p
 | .nilS, _, _, p => by simpa only [VR, PR] using p
 | .nilP, _, _, p => by simpa only [VR, PR] using p
 | .nilF, _, _, p => by simpa only [VR, PR] using p
 | .nilI, _, _, p => by simpa only [VR, PR] using p
 | .sl _ _ _, _, _, p => by simp only [VR] at p ⊢; exact PR_mono hS _ p
 | .pp _ _, _, _, p => by simp only [VR] at p ⊢; exact PR_mono hS _ p
 | .dead, _, _, _ => by simp only [VR]
 | .own _ _ _, _, _, p => by simp only [VR] at p
 | .ref b _ _ _, _, h, p => by
  obtain ⟨h1, h2⟩ := h b (by simp [refs])
  simp only [VR] at p ⊢
  rw [h1, h2]; exact p
 | .ptr b _ _, _, h, p => by
  obtain ⟨h1, h2⟩ := h b (by simp [refs])
  simp only [VR] at p ⊢
  rw [h1, h2]; exact p
 | .agg l, _, h, p => by
  simp only [VR] at p ⊢
  obtain ⟨vs, e, q⟩ := p
  exact ⟨vs, e, VRL_agree hS l (fun b hb => h b (by simpa [refs] using hb)) q⟩
 | .tup l, _, h, p => by
  simp only [VR] at p ⊢
  obtain ⟨vs, e, q⟩ := p
  exact ⟨vs, e, VRL_agree hS l (fun b hb => h b (by simpa [refs] using hb)) q⟩
 | .fn f a c, _, h, p => by
  simp only [VR] at p ⊢
  obtain ⟨va, vc, e, q, r⟩ := p
  exact ⟨va, vc, e, VRL_agree hS a (fun b hb => h b (by simp [refs, hb])) q, VRL_agree hS c (fun b hb => h b (by simp [refs, hb])) r⟩
 | .ifc t x, _, h, p => by
  simp only [VR] at p ⊢
  obtain ⟨u, e, q⟩ := p
  exact ⟨u, e, VR_agree hS x (fun b hb => h b (by simpa [refs] using hb)) q⟩
theorem VRL_agree {g g' : HpF} {m m' : MapF} {S S' : SMap} (hS : SLe S S') : ∀ (l : List AV) {vs : List Value}, (∀ b ∈ refsL l, g' b = g b ∧ m' b = m b) → VRL g m S l vs → VRL g' m' S' l vs
 | [], [], _, _ => by simp only [VRL]
 | x :: r, v :: vs, h, p => by
  simp only [VRL] at p ⊢
  exact ⟨VR_agree hS x (fun b hb => h b (by simp [refsL, hb])) p.1, VRL_agree hS r (fun b hb => h b (by simp [refsL, hb])) p.2⟩
 | [], _ :: _, _, p => by simp [VRL] at p
 | _ :: _, [], _, p => by simp [VRL] at p
end
theorem PR_of_norefs {g : HpF} {m : MapF} {S : SMap} {x : AV} {v : Value} (h : (refs x).isEmpty = true) (hv : VR g m S x v) : PR S x v := by
 have he : refs x = [] := by simpa using h
 exact PR_of_none (m := m) x (VR_agree (SLe.refl S) x (fun b hb => by rw [he] at hb; cases hb) hv)
def dstLt (nt : Nat) (o : Oper) : Bool := match o.dst with | some d => Nat.blt d nt | none => true
def dstsOk (nt : Nat) : Code → Bool
 | .region _ ops _ => ops.toList.all (dstLt nt)
 | .seq a b => dstsOk nt a && dstsOk nt b
 | .cond _ a b => dstsOk nt a && dstsOk nt b
 | .block _ b => dstsOk nt b
 | .loop b => dstsOk nt b
 | .scope b => dstsOk nt b
 | _ => true
section
variable {P : Program} {ap : AP} {H : Handler}
def ExitR (hp : Hp) (m : MapF) (S : SMap) (Q : Exit → Act → World → Prop) (a : Act) (w : World) : AExit → Prop
 | .normal => Q .normal a w
 | .exit id => Q (.exit id) a w
 | .ret => Q .ret a w
 | .panic v => ∀ cv, VR (look hp) m S v cv → Q (.panic [{ v := cv, recovered := false }]) a w
def XA (ap : AP) (h0 : List Blk) (m0 : MapF) (S0 : SMap) (w0 : World) (nt : Nat) (s' : St) (e : AExit) (Q : Exit → Act → World → Prop) : Prop :=
 ∀ m' S' w' a', Fr (hpOf h0) m0 S0 w0 (look s'.hp) m' S' w' → FR ap s'.env s'.hp s'.dfs nt m' S' w' a' → ExitR s'.hp m' S' Q a' w' e
def ExecOk (P : Program) (ap : AP) (h0 : List Blk) (nt : Nat) (code : Code) (s : St) (e : AExit) (s' : St) : Prop :=
 s.md = .dead → s'.md = .dead ∧ ∀ m0 S0 w0 m S w a, Fr (hpOf h0) m0 S0 w0 (look s.hp) m S w → FR ap s.env s.hp s.dfs nt m S w a → ∀ Q, XA ap h0 m0 S0 w0 nt s' e Q → code.wp P Q a w
theorem ExecOk.still {h0 : List Blk} {nt : Nat} {code : Code} {s : St} {e : AExit} (h : ∀ (Q : Exit → Act → World → Prop) hp m S a w, ExitR hp m S Q a w e → code.wp P Q a w) : ExecOk P ap h0 nt code s e s :=
 fun hmd => ⟨hmd, fun _ _ _ m S w a hf hF Q hQ => h Q s.hp m S a w (hQ m S w a hf hF)⟩
theorem iter_sound {h0 : List Blk} {nt : Nat} {b : Code} {f : St → Cx → R (AExit × St)} (hf : ∀ s e s' c c', f s c = .ok (e, s') c' → c'.Ok → c.Ok ∧ ExecOk P ap h0 nt b s e s') :
  ∀ (n : Nat) (s : St) (e : AExit) (s' : St) (c c' : Cx), iterA f n s c = .ok (e, s') c' → c'.Ok → c.Ok ∧ (s.md = .dead → s'.md = .dead ∧ ∀ m0 S0 w0 m S w a, Fr (hpOf h0) m0 S0 w0 (look s.hp) m S w → FR ap s.env s.hp s.dfs nt m S w a → ∀ Q, XA ap h0 m0 S0 w0 nt s' e Q → Code.rounds P b Q n a w)
 | 0, s, e, s', c, c', h, hc => by cases h
 | n + 1, s, e, s', c, c', h, hc => by
  simp only [iterA] at h
  obtain ⟨⟨e1, s1⟩, c1, h1, h⟩ := R.bind_ok h
  dsimp only at h
  have hother : e1 ≠ .normal → R.ok (e1, s1) c1 = R.ok (e, s') c' → c.Ok ∧ (s.md = .dead → s'.md = .dead ∧ ∀ m0 S0 w0 m S w a, Fr (hpOf h0) m0 S0 w0 (look s.hp) m S w → FR ap s.env s.hp s.dfs nt m S w a → ∀ Q, XA ap h0 m0 S0 w0 nt s' e Q → Code.rounds P b Q (n + 1) a w) := by
   intro hne he
   cases he
   obtain ⟨hc0, hx⟩ := hf _ _ _ _ _ h1 hc
   refine ⟨hc0, fun hmd => ?_⟩
   obtain ⟨h3, h4⟩ := hx hmd
   refine ⟨h3, fun m0 S0 w0 m S w a hfr hF Q hQ => h4 m0 S0 w0 m S w a hfr hF _ ?_⟩
   intro m' S' w' a' h5 h6
   have := hQ m' S' w' a' h5 h6
   cases e with
   | normal => exact absurd rfl hne
   | exit id => exact this
   | ret => exact this
   | panic v => exact this
  cases e1 with
  | normal =>
   dsimp only at h
   obtain ⟨hc1, ih⟩ := iter_sound hf n s1 e s' c1 c' h hc
   obtain ⟨hc0, hx⟩ := hf _ _ _ _ _ h1 hc1
   refine ⟨hc0, fun hmd => ?_⟩
   obtain ⟨h3, h4⟩ := hx hmd
   obtain ⟨h5, h6⟩ := ih h3
   refine ⟨h5, fun m0 S0 w0 m S w a hfr hF Q hQ => h4 m0 S0 w0 m S w a hfr hF _ ?_⟩
   intro m' S' w' a' h7 h8
   exact h6 m0 S0 w0 m' S' w' a' h7 h8 Q hQ
  | exit id => exact hother (by simp) h
  | ret => exact hother (by simp) h
  | panic v => exact hother (by simp) h
theorem exec_sound (hap : ApOk P ap) (hmix : P.follows .mixedOrders = true) (hH : HSound P ap H) {h0 : List Blk} {keep : List Nat} {lf nt : Nat} : ∀ (code : Code), dstsOk nt code = true → ∀ (s : St) (e : AExit) (s' : St) (c c' : Cx), execA ap H h0.length keep lf code s c = .ok (e, s') c' → c'.Ok → c.Ok ∧ ExecOk P ap h0 nt code s e s'
 | .skip, _, s, e, s', c, c', h, hc => by
  cases h
  exact ⟨hc, ExecOk.still fun Q hp m S a w hq => wp_skip hq⟩
 | .label l, _, s, e, s', c, c', h, hc => by
  cases h
  exact ⟨hc, ExecOk.still fun Q hp m S a w hq => wp_label hq⟩
 | .exit id, _, s, e, s', c, c', h, hc => by
  cases h
  exact ⟨hc, ExecOk.still fun Q hp m S a w hq => wp_exit hq⟩
 | .ret, _, s, e, s', c, c', h, hc => by
  cases h
  exact ⟨hc, ExecOk.still fun Q hp m S a w hq => wp_ret hq⟩
 | .region id ops draw, hd, s, e, s', c, c', h, hc => by
  have hnt : ∀ o ∈ ops.toList, ∀ d, o.dst = some d → d < nt := by
   intro o ho d hod
   have := List.all_eq_true.1 hd o ho
   simp only [dstLt, hod] at this
   exact blt_nat this
  obtain ⟨hc0, hr⟩ := region_sound hap hmix hH hnt (id := id) h hc
  refine ⟨hc0, fun hmd => ?_⟩
  obtain ⟨h1, h2⟩ := hr hmd
  refine ⟨h1, fun m0 S0 w0 m S w a hfr hF Q hQ => ?_⟩
  have := h2 m S w a hF Q
  rw [Array.toArray_toList] at this
  refine this ?_
  cases e with
  | normal =>
   intro s1 hs1 m' S' w' a' h3 h4
   obtain ⟨m2, h5, h6⟩ := norm_sound (keep := keep) (hfr.trans h3) h4
   rw [← hs1] at h5 h6
   exact hQ m2 S' w' a' h5 h6
  | panic v =>
   simp only [RegionAfter]
   split
   ·rename_i hre
    intro s1 hs1 m' S' w' a' cv h3 h4 h5
    obtain ⟨m2, h6, h7⟩ := norm_sound (keep := keep) (hfr.trans h3) h4
    rw [← hs1] at h6 h7
    exact hQ m2 S' w' a' h6 h7 cv (VR_of_PR _ (PR_of_norefs hre h5))
   ·intro m' S' w' a' cv h3 h4 h5
    exact hQ m' S' w' a' (hfr.trans h3) h4 cv h5
  | exit id => trivial
  | ret => trivial
 | .seq x y, hd, s, e, s', c, c', h, hc => by
  simp only [dstsOk, Bool.and_eq_true] at hd
  simp only [execA] at h
  obtain ⟨⟨e1, s1⟩, c1, h1, h⟩ := R.bind_ok h
  dsimp only at h
  have hother : e1 ≠ .normal → R.ok (e1, s1) c1 = R.ok (e, s') c' → c.Ok ∧ ExecOk P ap h0 nt (.seq x y) s e s' := by
   intro hne he
   cases he
   obtain ⟨hc0, hx⟩ := exec_sound hap hmix hH x hd.1 _ _ _ _ _ h1 hc
   refine ⟨hc0, fun hmd => ?_⟩
   obtain ⟨h3, h4⟩ := hx hmd
   refine ⟨h3, fun m0 S0 w0 m S w a hfr hF Q hQ => wp_seq (h4 m0 S0 w0 m S w a hfr hF _ ?_)⟩
   intro m' S' w' a' h5 h6
   have := hQ m' S' w' a' h5 h6
   cases e with
   | normal => exact absurd rfl hne
   | exit id => exact this
   | ret => exact this
   | panic v => exact this
  cases e1 with
  | normal =>
   dsimp only at h
   obtain ⟨hc1, ih⟩ := exec_sound hap hmix hH y hd.2 _ _ _ _ _ h hc
   obtain ⟨hc0, hx⟩ := exec_sound hap hmix hH x hd.1 _ _ _ _ _ h1 hc1
   refine ⟨hc0, fun hmd => ?_⟩
   obtain ⟨h3, h4⟩ := hx hmd
   obtain ⟨h5, h6⟩ := ih h3
   refine ⟨h5, fun m0 S0 w0 m S w a hfr hF Q hQ => wp_seq (h4 m0 S0 w0 m S w a hfr hF _ ?_)⟩
   intro m' S' w' a' h7 h8
   exact h6 m0 S0 w0 m' S' w' a' h7 h8 Q hQ
  | exit id => exact hother (by simp) h
  | ret => exact hother (by simp) h
  | panic v => exact hother (by simp) h
 | .cond t x y, hd, s, e, s', c, c', h, hc => by
  simp only [dstsOk, Bool.and_eq_true] at hd
  simp only [execA] at h
  split at h
  ·rename_i bv hbv
   obtain ⟨b', c1, h1, h⟩ := R.bind_ok h
   have key : ∀ (z : Code), (c1.Ok → c1.Ok ∧ z = if bv then x else y) → c1.Ok ∧ ExecOk P ap h0 nt z s e s' → c.Ok ∧ ExecOk P ap h0 nt (.cond t x y) s e s' := by
    rintro z hzz ⟨hc1, ih⟩
    obtain ⟨hc0, hb⟩ := branch_ok h1 hc1
    refine ⟨hc0, fun hmd => ?_⟩
    obtain ⟨h5, h6⟩ := ih hmd
    refine ⟨h5, fun m0 S0 w0 m S w a hfr hF Q hQ => wp_cond (t := bv) ?_ ?_⟩
    ·have := eval_sound hF.srel (a := a) (env := s.env) t (fun t _ => hF.env t)
     rw [hbv] at this
     simpa only [VR, PR] using this
    ·rw [← (hzz hc1).2]
     exact h6 m0 S0 w0 m S w a hfr hF Q hQ
   cases b' with
   | true => exact key x (fun hk => ⟨hk, by rw [← (branch_ok h1 hk).2]; rfl⟩) (exec_sound hap hmix hH x hd.1 _ _ _ _ _ h hc)
   | false => exact key y (fun hk => ⟨hk, by rw [← (branch_ok h1 hk).2]; rfl⟩) (exec_sound hap hmix hH y hd.2 _ _ _ _ _ h hc)
  ·cases h
 | .block id b, hd, s, e, s', c, c', h, hc => by
  simp only [dstsOk] at hd
  simp only [execA] at h
  obtain ⟨⟨e1, s1⟩, c1, h1, h⟩ := R.bind_ok h
  dsimp only at h
  have hcc : c1 = c' := by
   cases e1 <;> dsimp only at h
   ·cases h; rfl
   ·split at h <;> cases h <;> rfl
   ·cases h; rfl
   ·cases h; rfl
  subst hcc
  obtain ⟨hc0, hx⟩ := exec_sound hap hmix hH b hd _ _ _ _ _ h1 hc
  refine ⟨hc0, fun hmd => ?_⟩
  obtain ⟨h3, h4⟩ := hx hmd
  have hs : s1 = s' := by
   cases e1 <;> dsimp only at h
   ·cases h; rfl
   ·split at h <;> cases h <;> rfl
   ·cases h; rfl
   ·cases h; rfl
  subst hs
  refine ⟨h3, fun m0 S0 w0 m S w a hfr hF Q hQ => wp_block (h4 m0 S0 w0 m S w a hfr hF _ ?_)⟩
  intro m' S' w' a' h5 h6
  have hq := hQ m' S' w' a' h5 h6
  cases e1 with
  | normal => cases h; exact hq
  | ret => cases h; exact hq
  | panic v => cases h; exact hq
  | exit id' =>
   dsimp only at h
   split at h
   ·rename_i he
    cases h
    show Exit.inBlock id Q (.exit id') a' w'
    simp only [Exit.inBlock, if_pos (beq_nat he)]
    exact hq
   ·rename_i he
    cases h
    show Exit.inBlock id Q (.exit id') a' w'
    have hne : id' ≠ id := by intro e; subst e; simp at he
    simp only [Exit.inBlock, if_neg hne]
    exact hq
 | .loop b, hd, s, e, s', c, c', h, hc => by
  simp only [dstsOk] at hd
  simp only [execA] at h
  obtain ⟨hc0, hx⟩ := iter_sound (fun s e s' c c' h hc => exec_sound hap hmix hH b hd s e s' c c' h hc) lf s e s' c c' h hc
  refine ⟨hc0, fun hmd => ?_⟩
  obtain ⟨h3, h4⟩ := hx hmd
  exact ⟨h3, fun m0 S0 w0 m S w a hfr hF Q hQ => wp_loop_rounds lf (h4 m0 S0 w0 m S w a hfr hF Q hQ)⟩
 | .scope b, hd, s, e, s', c, c', h, hc => by
  simp only [dstsOk] at hd
  simp only [execA] at h
  obtain ⟨hc0, hx⟩ := exec_sound hap hmix hH b hd _ _ _ _ _ h hc
  refine ⟨hc0, fun hmd => ?_⟩
  obtain ⟨h3, h4⟩ := hx hmd
  refine ⟨h3, fun m0 S0 w0 m S w a hfr hF Q hQ => wp_scope_straight (h4 m0 S0 w0 m S w a hfr hF _ ?_)⟩
  intro m' S' w' a' h5 h6
  have hq := hQ m' S' w' a' h5 h6
  cases e with
  | normal => exact hq
  | exit id => exact hq
  | ret => exact hq
  | panic v => exact hq
 | .rangeFunc _ _ _ _, _, s, e, s', c, c', h, hc => by cases h
 | .goto _, _, s, e, s', c, c', h, hc => by cases h
 | .refuse _, _, s, e, s', c, c', h, hc => by cases h
end
end AM
