/- The law CheckRaw returns true for every input: types and errors of any nodes with any sigs are those of the reference model. No conditions beyond the given row. -/
import Derived.Test.YtpjkeigmiooooaaGreatDoorW3
import Derived.Test.YtpjkeigmiooooaaGreatDoorM5
import Derived.Test.YtpjkeigmiooooaaGreatDoorW1
import Derived.Test.YtpjkeigmiooooaaGreatDoorM4
import Derived.Test.YtpjkeigmiooooaaGreatDoorCards
import Derived.Test.YtpjkeigmiooooaaGreatDoorTie
import Derived.Deep.DeepHandedRow
set_option linter.unusedSimpArgs false
set_option linter.unusedVariables false
set_option maxRecDepth 100000
open Go AM
namespace Go.Proofs.Tryz
theorem s3Z_ok {op : Int} (h1 : 1 ≤ op) (h2 : op ≤ 8) (l : List Sg) (ns : List Nd) (nl nn : Bool) (ll : List (List Nat)) (k : Nat) (x : Nd) (sg : Ty) (ts own : List Ty) : LoopOk prog ap [] 84 (regC 19 (bodyOf f30)) (c3SZ op l ns nl nn ll k x sg ts own) .normal (c3EZ op l ns nl nn ll k x sg ts own (ruleN op.toNat sg []).2 (ruleN op.toNat sg []).1) := by
 have : op = 1 ∨ op = 2 ∨ op = 3 ∨ op = 4 ∨ op = 5 ∨ op = 6 ∨ op = 7 ∨ op = 8 := by omega
 rcases this with rfl | rfl | rfl | rfl | rfl | rfl | rfl | rfl
 ·exact s3Z1 l ns nl nn ll k x sg ts own _ _ ((clN1 false sg).args (FitsL.cons (Fits.refl _) (FitsL.cons (Fits.nilS false rfl) (FitsL.refl _))))
 ·exact s3Z2 l ns nl nn ll k x sg ts own _ _ ((clN2 false sg).args (FitsL.cons (Fits.refl _) (FitsL.cons (Fits.nilS false rfl) (FitsL.refl _))))
 ·exact s3Z3 l ns nl nn ll k x sg ts own _ _ ((clN3 false sg).args (FitsL.cons (Fits.refl _) (FitsL.cons (Fits.nilS false rfl) (FitsL.refl _))))
 ·exact s3Z4 l ns nl nn ll k x sg ts own _ _ ((clN4 false sg).args (FitsL.cons (Fits.refl _) (FitsL.cons (Fits.nilS false rfl) (FitsL.refl _))))
 ·exact s3Z5 l ns nl nn ll k x sg ts own _ _ ((clN5 false sg).args (FitsL.cons (Fits.refl _) (FitsL.cons (Fits.nilS false rfl) (FitsL.refl _))))
 ·exact s3Z6 l ns nl nn ll k x sg ts own _ _ ((clN6 false sg).args (FitsL.cons (Fits.refl _) (FitsL.cons (Fits.nilS false rfl) (FitsL.refl _))))
 ·exact s3Z7 l ns nl nn ll k x sg ts own _ _ ((clN7 false sg).args (FitsL.cons (Fits.refl _) (FitsL.cons (Fits.nilS false rfl) (FitsL.refl _))))
 ·exact s3Z8 l ns nl nn ll k x sg ts own _ _ ((clN8 false sg).args (FitsL.cons (Fits.refl _) (FitsL.cons (Fits.nilS false rfl) (FitsL.refl _))))
theorem s3N_ok {op : Int} (h1 : 1 ≤ op) (h2 : op ≤ 8) (l : List Sg) (ns : List Nd) (nl nn : Bool) (ll : List (List Nat)) (k : Nat) (x : Nd) (sg : Ty) (ts own : List Ty) : LoopOk prog ap [] 84 (regC 19 (bodyOf f30)) (c3SN op l ns nl nn ll k x sg ts own) .normal (c3EN op l ns nl nn ll k x sg ts own (ruleN op.toNat sg []).2 (ruleN op.toNat sg []).1) := by
 have : op = 1 ∨ op = 2 ∨ op = 3 ∨ op = 4 ∨ op = 5 ∨ op = 6 ∨ op = 7 ∨ op = 8 := by omega
 rcases this with rfl | rfl | rfl | rfl | rfl | rfl | rfl | rfl
 ·exact s3N1 l ns nl nn ll k x sg ts own _ _ ((clN1 false sg).args (FitsL.cons (Fits.refl _) (FitsL.cons (Fits.nilS false rfl) (FitsL.refl _))))
 ·exact s3N2 l ns nl nn ll k x sg ts own _ _ ((clN2 false sg).args (FitsL.cons (Fits.refl _) (FitsL.cons (Fits.nilS false rfl) (FitsL.refl _))))
 ·exact s3N3 l ns nl nn ll k x sg ts own _ _ ((clN3 false sg).args (FitsL.cons (Fits.refl _) (FitsL.cons (Fits.nilS false rfl) (FitsL.refl _))))
 ·exact s3N4 l ns nl nn ll k x sg ts own _ _ ((clN4 false sg).args (FitsL.cons (Fits.refl _) (FitsL.cons (Fits.nilS false rfl) (FitsL.refl _))))
 ·exact s3N5 l ns nl nn ll k x sg ts own _ _ ((clN5 false sg).args (FitsL.cons (Fits.refl _) (FitsL.cons (Fits.nilS false rfl) (FitsL.refl _))))
 ·exact s3N6 l ns nl nn ll k x sg ts own _ _ ((clN6 false sg).args (FitsL.cons (Fits.refl _) (FitsL.cons (Fits.nilS false rfl) (FitsL.refl _))))
 ·exact s3N7 l ns nl nn ll k x sg ts own _ _ ((clN7 false sg).args (FitsL.cons (Fits.refl _) (FitsL.cons (Fits.nilS false rfl) (FitsL.refl _))))
 ·exact s3N8 l ns nl nn ll k x sg ts own _ _ ((clN8 false sg).args (FitsL.cons (Fits.refl _) (FitsL.cons (Fits.nilS false rfl) (FitsL.refl _))))
theorem s3C_ok {op : Int} (h1 : 9 ≤ op) (h2 : op ≤ 24) (l : List Sg) (ns : List Nd) (nl nn : Bool) (ll : List (List Nat)) (k : Nat) (x : Nd) (sg : Ty) (ts own : List Ty) (ha : own.length = arI op) (hr : ∀ t ∈ own, rightQ t = true) : LoopOk prog ap [] 84 (regC 19 (bodyOf f30)) (c3SC op l ns nl nn ll k x sg ts own) .normal (c3EC op l ns nl nn ll k x sg ts own (ruleN op.toNat sg own).2 (ruleN op.toNat sg own).1) := by
 have : op = 9 ∨ op = 10 ∨ op = 11 ∨ op = 12 ∨ op = 13 ∨ op = 14 ∨ op = 15 ∨ op = 16 ∨ op = 17 ∨ op = 18 ∨ op = 19 ∨ op = 20 ∨ op = 21 ∨ op = 22 ∨ op = 23 ∨ op = 24 := by omega
 rcases this with rfl | rfl | rfl | rfl | rfl | rfl | rfl | rfl | rfl | rfl | rfl | rfl | rfl | rfl | rfl | rfl
 ·obtain ⟨a, b, rfl⟩ := len2 ha rfl
  have e : ruleN 9 sg [a, b] = ruleC 9 sg [a, b] := Prod.ext (ruleS9 sg a b (hr a (by simp)) (hr b (by simp))).1 (ruleS9 sg a b (hr a (by simp)) (hr b (by simp))).2
  have h := s3C9 l ns nl nn ll k x sg ts [a, b] _ _ (clN9 true sg a b)
  rw [← e] at h
  exact h
 ·obtain ⟨a, b, rfl⟩ := len2 ha rfl
  have e : ruleN 10 sg [a, b] = ruleC 10 sg [a, b] := Prod.ext (ruleS10 sg a b (hr a (by simp)) (hr b (by simp))).1 (ruleS10 sg a b (hr a (by simp)) (hr b (by simp))).2
  have h := s3C10 l ns nl nn ll k x sg ts [a, b] _ _ (clN10 true sg a b)
  rw [← e] at h
  exact h
 ·obtain ⟨a, b, rfl⟩ := len2 ha rfl
  have e : ruleN 11 sg [a, b] = ruleC 11 sg [a, b] := Prod.ext (ruleS11 sg a b (hr a (by simp)) (hr b (by simp))).1 (ruleS11 sg a b (hr a (by simp)) (hr b (by simp))).2
  have h := s3C11 l ns nl nn ll k x sg ts [a, b] _ _ (clN11 true sg a b)
  rw [← e] at h
  exact h
 ·obtain ⟨a, b, rfl⟩ := len2 ha rfl
  have e : ruleN 12 sg [a, b] = ruleC 12 sg [a, b] := Prod.ext (ruleS12 sg a b (hr a (by simp)) (hr b (by simp))).1 (ruleS12 sg a b (hr a (by simp)) (hr b (by simp))).2
  have h := s3C12 l ns nl nn ll k x sg ts [a, b] _ _ (clN12 true sg a b)
  rw [← e] at h
  exact h
 ·obtain ⟨a, b, rfl⟩ := len2 ha rfl
  have e : ruleN 13 sg [a, b] = ruleC 13 sg [a, b] := Prod.ext (ruleS13 sg a b (hr a (by simp)) (hr b (by simp))).1 (ruleS13 sg a b (hr a (by simp)) (hr b (by simp))).2
  have h := s3C13 l ns nl nn ll k x sg ts [a, b] _ _ (clN13 true sg a b)
  rw [← e] at h
  exact h
 ·obtain ⟨a, b, rfl⟩ := len2 ha rfl
  have e : ruleN 14 sg [a, b] = ruleC 14 sg [a, b] := Prod.ext (ruleS14 sg a b (hr a (by simp)) (hr b (by simp))).1 (ruleS14 sg a b (hr a (by simp)) (hr b (by simp))).2
  have h := s3C14 l ns nl nn ll k x sg ts [a, b] _ _ (clN14 true sg a b)
  rw [← e] at h
  exact h
 ·obtain ⟨a, b, c, rfl⟩ := len3 ha rfl
  have e : ruleN 15 sg [a, b, c] = ruleC 15 sg [a, b, c] := Prod.ext (ruleS15 sg a b c (hr a (by simp)) (hr b (by simp)) (hr c (by simp))).1 (ruleS15 sg a b c (hr a (by simp)) (hr b (by simp)) (hr c (by simp))).2
  have h := s3C15 l ns nl nn ll k x sg ts [a, b, c] _ _ (clN15 true sg a b c)
  rw [← e] at h
  exact h
 ·obtain ⟨a, b, rfl⟩ := len2 ha rfl
  have e : ruleN 16 sg [a, b] = ruleC 16 sg [a, b] := Prod.ext (ruleS16 sg a b (hr a (by simp)) (hr b (by simp))).1 (ruleS16 sg a b (hr a (by simp)) (hr b (by simp))).2
  have h := s3C16 l ns nl nn ll k x sg ts [a, b] _ _ (clN16 true sg a b)
  rw [← e] at h
  exact h
 ·obtain ⟨a, b, rfl⟩ := len2 ha rfl
  have e : ruleN 17 sg [a, b] = ruleC 17 sg [a, b] := Prod.ext (ruleS17 sg a b (hr a (by simp)) (hr b (by simp))).1 (ruleS17 sg a b (hr a (by simp)) (hr b (by simp))).2
  have h := s3C17 l ns nl nn ll k x sg ts [a, b] _ _ (clN17 true sg a b)
  rw [← e] at h
  exact h
 ·obtain ⟨a, b, rfl⟩ := len2 ha rfl
  have e : ruleN 18 sg [a, b] = ruleC 18 sg [a, b] := Prod.ext (ruleS18 sg a b (hr a (by simp)) (hr b (by simp))).1 (ruleS18 sg a b (hr a (by simp)) (hr b (by simp))).2
  have h := s3C18 l ns nl nn ll k x sg ts [a, b] _ _ (clN18 true sg a b)
  rw [← e] at h
  exact h
 ·obtain ⟨a, b, rfl⟩ := len2 ha rfl
  have e : ruleN 19 sg [a, b] = ruleC 19 sg [a, b] := Prod.ext (ruleS19 sg a b (hr a (by simp)) (hr b (by simp))).1 (ruleS19 sg a b (hr a (by simp)) (hr b (by simp))).2
  have h := s3C19 l ns nl nn ll k x sg ts [a, b] _ _ (clN19 true sg a b)
  rw [← e] at h
  exact h
 ·obtain ⟨a, rfl⟩ := len1 ha rfl
  have e : ruleN 20 sg [a] = ruleC 20 sg [a] := Prod.ext (ruleS20 sg a (hr a (by simp))).1 (ruleS20 sg a (hr a (by simp))).2
  have h := s3C20 l ns nl nn ll k x sg ts [a] _ _ (clN20 true sg a)
  rw [← e] at h
  exact h
 ·obtain ⟨a, rfl⟩ := len1 ha rfl
  have e : ruleN 21 sg [a] = ruleC 21 sg [a] := Prod.ext (ruleS21 sg a (hr a (by simp))).1 (ruleS21 sg a (hr a (by simp))).2
  have h := s3C21 l ns nl nn ll k x sg ts [a] _ _ (clN21 true sg a)
  rw [← e] at h
  exact h
 ·obtain ⟨a, rfl⟩ := len1 ha rfl
  have e : ruleN 22 sg [a] = ruleC 22 sg [a] := Prod.ext (ruleS22 sg a (hr a (by simp))).1 (ruleS22 sg a (hr a (by simp))).2
  have h := s3C22 l ns nl nn ll k x sg ts [a] _ _ (clN22 true sg a)
  rw [← e] at h
  exact h
 ·obtain ⟨a, rfl⟩ := len1 ha rfl
  have e : ruleN 23 sg [a] = ruleC 23 sg [a] := Prod.ext (ruleS23 sg a (hr a (by simp))).1 (ruleS23 sg a (hr a (by simp))).2
  have h := s3C23 l ns nl nn ll k x sg ts [a] _ _ (clN23 true sg a)
  rw [← e] at h
  exact h
 ·obtain ⟨a, rfl⟩ := len1 ha rfl
  have e : ruleN 24 sg [a] = ruleC 24 sg [a] := Prod.ext (ruleS24 sg a (hr a (by simp))).1 (ruleS24 sg a (hr a (by simp))).2
  have h := s3C24 l ns nl nn ll k x sg ts [a] _ _ (clN24 true sg a)
  rw [← e] at h
  exact h
theorem rule_right {op : Int} (h1 : 1 ≤ op) (h2 : op ≤ 24) (sg : Ty) (own : List Ty) (ha : own.length = arI op) (hr : ∀ t ∈ own, rightQ t = true) (hs : rightQ sg = true) (hq : (ruleN op.toNat sg own).1 = true) : rightQ (ruleN op.toNat sg own).2 = true := by
 rcases op_cases h1 h2 with rfl | rfl | rfl | rfl | rfl | rfl | rfl | rfl | rfl | rfl | rfl | rfl | rfl | rfl | rfl | rfl | rfl | rfl | rfl | rfl | rfl | rfl | rfl | rfl
 ·obtain rfl := len0 ha rfl
  exact rfl
 ·obtain rfl := len0 ha rfl
  exact rfl
 ·obtain rfl := len0 ha rfl
  exact rfl
 ·obtain rfl := len0 ha rfl
  exact rfl
 ·obtain rfl := len0 ha rfl
  exact hs
 ·obtain rfl := len0 ha rfl
  exact hs
 ·obtain rfl := len0 ha rfl
  exact hs
 ·obtain rfl := len0 ha rfl
  exact hs
 ·obtain ⟨a, b, rfl⟩ := len2 ha rfl
  exact hr a (by simp)
 ·obtain ⟨a, b, rfl⟩ := len2 ha rfl
  exact hr a (by simp)
 ·obtain ⟨a, b, rfl⟩ := len2 ha rfl
  exact ((Bool.and_eq_true _ _).mp hq).2
 ·obtain ⟨a, b, rfl⟩ := len2 ha rfl
  exact ((Bool.and_eq_true _ _).mp hq).2
 ·obtain ⟨a, b, rfl⟩ := len2 ha rfl
  exact hr a (by simp)
 ·obtain ⟨a, b, rfl⟩ := len2 ha rfl
  exact hr a (by simp)
 ·obtain ⟨a, b, c, rfl⟩ := len3 ha rfl
  exact hr b (by simp)
 ·obtain ⟨a, b, rfl⟩ := len2 ha rfl
  exact rfl
 ·obtain ⟨a, b, rfl⟩ := len2 ha rfl
  exact rfl
 ·obtain ⟨a, b, rfl⟩ := len2 ha rfl
  exact rfl
 ·obtain ⟨a, b, rfl⟩ := len2 ha rfl
  exact rfl
 ·obtain ⟨a, rfl⟩ := len1 ha rfl
  exact rfl
 ·obtain ⟨a, rfl⟩ := len1 ha rfl
  exact hr a (by simp)
 ·obtain ⟨a, rfl⟩ := len1 ha rfl
  exact hr a (by simp)
 ·obtain ⟨a, rfl⟩ := len1 ha rfl
  exact hr a (by simp)
 ·obtain ⟨a, rfl⟩ := len1 ha rfl
  exact hs
theorem findR_right {l : List Sg} {op : Int} {nm : List UInt8} {t : Ty} (h : findR l op nm = some t) : rightQ t = true := by
 unfold findR at h
 cases hf : l.find? fun s => hitR s op nm with
 | none => rw [hf] at h; cases h
 | some s =>
  rw [hf] at h
  have := List.find?_some hf
  simp only [Option.map_some, Option.some.injEq] at h
  subst h
  simp only [hitR, Bool.and_eq_true] at this
  exact this.2.2.2.1
theorem zT_right : rightQ zT = true := by simp [rightQ, zT, unitQ]
theorem find_getD_right (l : List Sg) (op : Int) (nm : List UInt8) : rightQ ((findR l op nm).getD zT) = true := by
 cases h : findR l op nm with
 | none => exact zT_right
 | some t => exact findR_right h
theorem typR_right {l : List Sg} {x : Nd} {own : List Ty} (h1 : 1 ≤ x.op) (h2 : x.op ≤ 24) (ha : own.length = arI x.op) (hr : ∀ t ∈ own, rightQ t = true) (h : (typR l x own).2 = 0) : rightQ (typR l x own).1 = true := by
 unfold typR ofR at h ⊢
 have h3 := rule_right h1 h2 ((findR l x.op x.name).getD zT) own ha hr (find_getD_right l x.op x.name)
 cases hc : namI x.op && !(findR l x.op x.name).isSome with
 | true => rw [hc] at h; simp at h
 | false =>
  rw [hc] at h
  cases hq : (ruleN x.op.toNat ((findR l x.op x.name).getD zT) own).1 with
  | true => simp only [cond_false, cond_true]; exact h3 hq
  | false => rw [hq] at h; simp at h
theorem ru_drop {op : Int} (h1 : 1 ≤ op) (h2 : op ≤ 24) : ∃ rs, List.drop ((Int.toNat op) * 2) ruL = [AV.bool (namI op)] ++ rs := by
 rcases op_cases h1 h2 with rfl | rfl | rfl | rfl | rfl | rfl | rfl | rfl | rfl | rfl | rfl | rfl | rfl | rfl | rfl | rfl | rfl | rfl | rfl | rfl | rfl | rfl | rfl | rfl <;> exact ⟨_, rfl⟩
theorem ag_drop {ll : List (List Nat)} {k : Nat} (h : k < ll.length) : List.drop (Int.toNat (k : Int) * 1) (argsU ll) = [AV.sl (i64L (ll.getD k [])) (ll.getD k []).length false] ++ argsU (ll.drop (k + 1)) := by
 unfold argsU
 rw [c_toNat, Nat.mul_one, ← List.map_drop, List.drop_eq_getElem_cons h, List.getD_eq_getElem?_getD, List.getElem?_eq_getElem h]
 rfl
theorem i64_drop {a : List Nat} {i : Nat} (h : i < a.length) : List.drop (Int.toNat (i : Int) * 1) (i64L a) = [AV.int .i64 ((a.getD i 0 : Nat) : Int)] ++ i64L (a.drop (i + 1)) := by
 unfold i64L
 rw [c_toNat, Nat.mul_one, ← List.map_drop, List.drop_eq_getElem_cons h, List.getD_eq_getElem?_getD, List.getElem?_eq_getElem h]
 rfl
def ciE (l : List Sg) (ns : List Nd) (nl nn : Bool) (ll : List (List Nat)) (k : Nat) (ag : List Nat) (i : Nat) (v : AV) : Env := ctE l ns nl nn ll k ++ [(11, .ptr 2 0 0), (12, .ptr 3 0 0), (49, .sl (i64L ag) ag.length false), (50, .int .i64 (ag.length : Int)), (13, v), (51, .int .i64 (i : Int))]
def ciH (x : Nd) (sg : Ty) (ts : List Ty) : List Ty → Hp
 | [] => [(0, ⟨[.ref 4 0 0 ts.length], 0, false, 0, 0, false⟩), ct1, (2, ctN x.op x), ct3 sg, (4, ctT ts)]
 | y :: r => [(0, ⟨[.ref 5 0 0 ts.length], 0, false, 0, 0, false⟩), ct1, (2, ctN x.op x), ct3 sg, (4, ctT (y :: r)), (5, ctT ts)]
def ciV : List Ty → AV
 | [] => .nilS
 | y :: r => .ref 4 0 0 (y :: r).length
theorem ciH_ne {x : Nd} {sg : Ty} {ts own : List Ty} (h : own ≠ []) : ciH x sg ts own = [(0, ⟨[.ref 5 0 0 ts.length], 0, false, 0, 0, false⟩), ct1, (2, ctN x.op x), ct3 sg, (4, ctT own), (5, ctT ts)] := by cases own with | nil => exact absurd rfl h | cons _ _ => rfl
theorem ciV_ne {own : List Ty} (h : own ≠ []) : ciV own = .ref 4 0 0 own.length := by cases own with | nil => exact absurd rfl h | cons _ _ => rfl
def ciSt (l : List Sg) (ns : List Nd) (nl nn : Bool) (ll : List (List Nat)) (k : Nat) (ag : List Nat) (x : Nd) (sg : Ty) (ts : List Ty) (p : Nat × List Ty) : St := ⟨ciE l ns nl nn ll k ag p.1 (ciV p.2), ciH x sg ts p.2, .dead, ctD⟩
def ciOut (l : List Sg) (ns : List Nd) (nl nn : Bool) (ll : List (List Nat)) (k : Nat) (x : Nd) (sg : Ty) (ts own : List Ty) : St := ⟨ctE l ns nl nn ll k ++ [(11, .ptr 2 0 0), (12, .ptr 3 0 0), (13, ciV own)], ciH x sg ts own, .dead, ctD⟩
theorem ci_loop {nt : Nat} (hn : 84 ≤ nt) (l : List Sg) (ns : List Nd) (nl nn : Bool) (ll : List (List Nat)) (k : Nat) (ag : List Nat) (x : Nd) (sg : Ty) (ts : List Ty) (ha : ag.length < 2 ^ 38) (hj : ∀ j ∈ ag, j < ts.length) : ∀ (d i : Nat) (own : List Ty), i + d = ag.length → own.length ≤ i → LoopR prog ap [] nt (loopBody 2 (bodyOf f30)) (fun _ => .exit 2) (ciSt l ns nl nn ll k ag x sg ts) (ciOut l ns nl nn ll k x sg ts) (i, own) (own ++ pickT ts (ag.drop i)) := by
 intro d
 induction d with
 | zero =>
  intro i own hi ho
  rw [List.drop_of_length_le (by omega)]
  simp only [pickT, List.map_nil, List.append_nil]
  have hi' : i = ag.length := by omega
  subst hi'
  have hx : lit false (decide ((ag.length : Int) < (ag.length : Int))) = true := by rw [d_lt]; simp [lit]
  refine .done ?_
  cases own with
  | nil => exact ciN_1 hn l ns nl nn ll k ag ag.length x sg ts hx
  | cons y r => exact ciC_1 hn l ns nl nn ll k ag ag.length x sg ts (y :: r) hx
 | succ d ih =>
  intro i own hi ho
  have hia : i < ag.length := by omega
  have hjm : ag.getD i 0 ∈ ag := by rw [List.getD_eq_getElem?_getD, List.getElem?_eq_getElem hia]; exact List.getElem_mem hia
  have hjt := hj _ hjm
  have hnext := ih (i + 1) (own ++ [ts.getD (ag.getD i 0) zT]) (by omega) (by simp; omega)
  have e : ag.drop i = ag.getD i 0 :: ag.drop (i + 1) := by
   rw [List.drop_eq_getElem_cons hia, List.getD_eq_getElem?_getD, List.getElem?_eq_getElem hia]; rfl
  have e2 : own ++ pickT ts (ag.drop i) = own ++ [ts.getD (ag.getD i 0) zT] ++ pickT ts (ag.drop (i + 1)) := by rw [e]; simp [pickT]
  rw [e2]
  refine .next ?_ hnext
  have hne2 : own ++ [ts.getD (ag.getD i 0) zT] ≠ [] := by simp
  have hx : lit true (decide ((i : Int) < (ag.length : Int))) = true := by rw [d_lt]; simp [lit]; omega
  unfold ciSt
  dsimp only
  rw [ciV_ne hne2, ciH_ne hne2]
  cases own with
  | nil => exact ciN_0 hn l ns nl nn ll k ag i x sg ts (ag.getD i 0) _ _ _ (wk1 (by omega)) (i64_drop hia) (tyL_drop hjt) (decide_eq_true (by omega)) (decide_eq_true (by omega)) (decide_eq_true (by omega)) (decide_eq_true (by omega)) hx
  | cons y r =>
   have h := ciC_0 hn l ns nl nn ll k ag i x sg ts (y :: r) (ag.getD i 0) _ _ _ (wk1 (by omega)) (i64_drop hia) (tyL_drop hjt) (by simp at ho ⊢; omega) (by rw [tyL_len]; simp) (decide_eq_true (by omega)) (decide_eq_true (by omega)) (decide_eq_true (by omega)) (decide_eq_true (by omega)) hx
   rw [List.length_append, List.length_singleton]
   exact h
theorem ctyN_0 (l : List Sg) (ns : List Nd) (nl nn : Bool) (ll : List (List Nat)) (ts : List Ty) (w e : Int) (h0 : lit true (!(w == ((0 : Nat) : Int))) = true) (c0 : CO 49 [.sl (ndL ns) ns.length nn] (.ret (.int .i64 w))) : CO 30 [.sl (sgL l) l.length nl, .sl (ndL ns) ns.length nn] (.ret (.tup [.nilS, .int .i64 w])) := pK [0] 1 1 (.k 4 h0 .nil) (.c c0 .nil)
theorem ctyN_1 (l : List Sg) (ns : List Nd) (nl nn : Bool) (ll : List (List Nat)) (ts : List Ty) (w e : Int) (h0 : lit false (!(w == ((0 : Nat) : Int))) = true) (c0 : CO 49 [.sl (ndL ns) ns.length nn] (.ret (.int .i64 w))) (c1 : CO 51 [.sl (ndL ns) ns.length nn] (.ret (.tup [.sl (argsU ll) ns.length true, .bool true]))) (c2 : CO 52 [] (.ret (.sl ruL 25 true))) (l0 : LoopOk prog ap [] 84 (.block 0 (.loop (loopBody 0 (bodyOf f30)))) ⟨[(0, .sl (sgL l) l.length nl), (1, .sl (ndL ns) ns.length nn), (4, .ptr 0 0 0), (5, .ptr 1 0 0), (6, .int .i64 w), (7, .sl (argsU ll) ns.length true), (9, .sl ruL 25 true), (10, .dead), (11, .dead), (12, .dead), (13, .dead), (15, .dead), (16, .dead), (17, .dead), (21, .bool (!(w == ((0 : Nat) : Int)))), (30, .sl (ndL ns) ns.length nn), (31, .int .i64 (ns.length : Int)), (32, .int .i64 0), (33, .dead), (42, .dead), (49, .dead), (50, .dead), (51, .dead), (52, .dead), (76, .dead)], [(0, ⟨[.nilS], 0, false, 0, 0, true⟩), ct1], .dead, ctD⟩ (.normal) ⟨[(4, .ptr 0 0 0), (5, .ptr 1 0 0)], [(0, ⟨[.ref 2 0 0 ts.length], 0, false, 0, 0, false⟩), ct1, (2, ctT ts)], .dead, ctD⟩) : CO 30 [.sl (sgL l) l.length nl, .sl (ndL ns) ns.length nn] (.ret (.tup [.own (List.take (ts.length * 3) (tyL ts)) ts.length 3, .int .i64 0])) := pK [0] 2 0 (.k 6 h0 .nil) (.l l0 (.c c2 (.c c1 (.c c0 .nil))))
theorem ctyP_1 (l : List Sg) (ns : List Nd) (nl nn : Bool) (ll : List (List Nat)) (ts : List Ty) (w e : Int) (h0 : lit false (!(w == ((0 : Nat) : Int))) = true) (c0 : CO 49 [.sl (ndL ns) ns.length nn] (.ret (.int .i64 w))) (c1 : CO 51 [.sl (ndL ns) ns.length nn] (.ret (.tup [.sl (argsU ll) ns.length true, .bool true]))) (c2 : CO 52 [] (.ret (.sl ruL 25 true))) (l0 : LoopOk prog ap [] 84 (.block 0 (.loop (loopBody 0 (bodyOf f30)))) ⟨[(0, .sl (sgL l) l.length nl), (1, .sl (ndL ns) ns.length nn), (4, .ptr 0 0 0), (5, .ptr 1 0 0), (6, .int .i64 w), (7, .sl (argsU ll) ns.length true), (9, .sl ruL 25 true), (10, .dead), (11, .dead), (12, .dead), (13, .dead), (15, .dead), (16, .dead), (17, .dead), (21, .bool (!(w == ((0 : Nat) : Int)))), (30, .sl (ndL ns) ns.length nn), (31, .int .i64 (ns.length : Int)), (32, .int .i64 0), (33, .dead), (42, .dead), (49, .dead), (50, .dead), (51, .dead), (52, .dead), (76, .dead)], [(0, ⟨[.nilS], 0, false, 0, 0, true⟩), ct1], .dead, ctD⟩ (.panic (.ifc 63 (.int .i64 e))) ⟨[(4, .ptr 0 0 0), (5, .ptr 1 0 0)], [(0, ⟨[.ref 2 0 0 ts.length], 0, false, 0, 0, false⟩), ct1, (2, ctT ts)], .dead, ctD⟩) : CO 30 [.sl (sgL l) l.length nl, .sl (ndL ns) ns.length nn] (.ret (.tup [.nilS, .int .i64 e])) := pK [0] 2 2 (.k 5 h0 .nil) (.l l0 (.c c2 (.c c1 (.c c0 .nil))))
theorem ctyQ_1 (l : List Sg) (ns : List Nd) (nl nn : Bool) (ll : List (List Nat)) (ts : List Ty) (w e : Int) (h0 : lit false (!(w == ((0 : Nat) : Int))) = true) (c0 : CO 49 [.sl (ndL ns) ns.length nn] (.ret (.int .i64 w))) (c1 : CO 51 [.sl (ndL ns) ns.length nn] (.ret (.tup [.sl (argsU ll) ns.length true, .bool true]))) (c2 : CO 52 [] (.ret (.sl ruL 25 true))) (l0 : LoopOk prog ap [] 84 (.block 0 (.loop (loopBody 0 (bodyOf f30)))) ⟨[(0, .sl (sgL l) l.length nl), (1, .sl (ndL ns) ns.length nn), (4, .ptr 0 0 0), (5, .ptr 1 0 0), (6, .int .i64 w), (7, .sl (argsU ll) ns.length true), (9, .sl ruL 25 true), (10, .dead), (11, .dead), (12, .dead), (13, .dead), (15, .dead), (16, .dead), (17, .dead), (21, .bool (!(w == ((0 : Nat) : Int)))), (30, .sl (ndL ns) ns.length nn), (31, .int .i64 (ns.length : Int)), (32, .int .i64 0), (33, .dead), (42, .dead), (49, .dead), (50, .dead), (51, .dead), (52, .dead), (76, .dead)], [(0, ⟨[.nilS], 0, false, 0, 0, true⟩), ct1], .dead, ctD⟩ (.panic (.ifc 63 (.int .i64 e))) ⟨[(4, .ptr 0 0 0), (5, .ptr 1 0 0)], [(0, ⟨[.nilS], 0, false, 0, 0, true⟩), ct1], .dead, ctD⟩) : CO 30 [.sl (sgL l) l.length nl, .sl (ndL ns) ns.length nn] (.ret (.tup [.nilS, .int .i64 e])) := pK [0] 2 2 (.k 5 h0 .nil) (.l l0 (.c c2 (.c c1 (.c c0 .nil))))
def ctH : List Ty → Hp
 | [] => [(0, ⟨[.nilS], 0, false, 0, 0, true⟩), ct1]
 | x :: r => [(0, ⟨[.ref 2 0 0 (x :: r).length], 0, false, 0, 0, false⟩), ct1, (2, ctT (x :: r))]
theorem ctH_ne {ts : List Ty} (h : ts ≠ []) : ctH ts = [(0, ⟨[.ref 2 0 0 ts.length], 0, false, 0, 0, false⟩), ct1, (2, ctT ts)] := by cases ts with | nil => exact absurd rfl h | cons _ _ => rfl
def ctSt (l : List Sg) (ns : List Nd) (nl nn : Bool) (ll : List (List Nat)) (p : Nat × List Ty) : St := ⟨ctE l ns nl nn ll p.1, ctH p.2, .dead, ctD⟩
def ctOut (q : List Ty × Int) : St := ⟨[(4, .ptr 0 0 0), (5, .ptr 1 0 0)], ctH q.1, .dead, ctD⟩
def ctX (q : List Ty × Int) : AExit := if q.2 = 0 then .exit 0 else .panic (.ifc 63 (.int .i64 q.2))
theorem ctx_ne (q : List Ty × Int) : ctX q ≠ .normal := by unfold ctX; split <;> simp
theorem ofR_e (named fo : Bool) (sg : Ty) (op : Nat) (ts : List Ty) : ofR named fo sg op ts = if named && !fo then (zT, 12) else if (ruleN op sg ts).1 then ((ruleN op sg ts).2, 0) else (zT, 13) := by
 unfold ofR zT
 cases named && !fo <;> cases (ruleN op sg ts).1 <;> rfl
theorem rule0 {op : Int} (h1 : 1 ≤ op) (h2 : op ≤ 8) (sg : Ty) : (ruleN op.toNat sg []).1 = true := by
 have : op = 1 ∨ op = 2 ∨ op = 3 ∨ op = 4 ∨ op = 5 ∨ op = 6 ∨ op = 7 ∨ op = 8 := by omega
 rcases this with rfl | rfl | rfl | rfl | rfl | rfl | rfl | rfl <;> rfl
theorem arI_0 {op : Int} (h1 : 1 ≤ op) (h2 : op ≤ 24) (h : arI op = 0) : op ≤ 8 := by
 by_cases h3 : op < 9
 ·omega
 ·exfalso
  have : op = 9 ∨ op = 10 ∨ op = 11 ∨ op = 12 ∨ op = 13 ∨ op = 14 ∨ op = 15 ∨ op = 16 ∨ op = 17 ∨ op = 18 ∨ op = 19 ∨ op = 20 ∨ op = 21 ∨ op = 22 ∨ op = 23 ∨ op = 24 := by omega
  rcases this with rfl | rfl | rfl | rfl | rfl | rfl | rfl | rfl | rfl | rfl | rfl | rfl | rfl | rfl | rfl | rfl <;> simp [arI] at h
theorem arI_pos {op : Int} (h1 : 1 ≤ op) (h : arI op ≠ 0) : 9 ≤ op := by
 by_cases h3 : op < 9
 ·exfalso
  have : op = 1 ∨ op = 2 ∨ op = 3 ∨ op = 4 ∨ op = 5 ∨ op = 6 ∨ op = 7 ∨ op = 8 := by omega
  rcases this with rfl | rfl | rfl | rfl | rfl | rfl | rfl | rfl <;> simp [arI] at h
 ·omega
theorem ct_round {nt : Nat} (hn : 84 ≤ nt) (l : List Sg) (ns p r : List Nd) (nl nn : Bool) (ll : List (List Nat)) (x : Nd) (ts : List Ty) (hns : ns = p ++ x :: r) (hle : ns.length < 2 ^ 38) (hlg : l.length < 2 ^ 40) (hll : ll.length = ns.length) (hts : ts.length = p.length) (h1 : 1 ≤ x.op) (h2 : x.op ≤ 24) (ha : (ll.getD p.length []).length = arI x.op) (hj : ∀ j ∈ ll.getD p.length [], j < p.length) (hr : ∀ t ∈ ts, rightQ t = true) :
  ((typR l x (pickT ts (ll.getD p.length []))).2 = 0 → ExecOk prog ap [] nt (loopBody 0 (bodyOf f30)) (ctSt l ns nl nn ll (p.length, ts)) .normal (ctSt l ns nl nn ll (p.length + 1, ts ++ [(typR l x (pickT ts (ll.getD p.length []))).1]))) ∧
  (¬ (typR l x (pickT ts (ll.getD p.length []))).2 = 0 → ExecOk prog ap [] nt (loopBody 0 (bodyOf f30)) (ctSt l ns nl nn ll (p.length, ts)) (ctX (ts, (typR l x (pickT ts (ll.getD p.length []))).2)) (ctOut (ts, (typR l x (pickT ts (ll.getD p.length []))).2))) := by
 have hlen : p.length + (r.length + 1) = ns.length := by rw [hns]; simp
 have hdr : List.drop (Int.toNat (p.length : Int) * 5) (ndL ns) = ndC x ++ ndL r := by rw [hns]; exact nd_drop rfl
 obtain ⟨rs, hrow⟩ := ru_drop h1 h2
 have hag := ag_drop (ll := ll) (k := p.length) (by omega)
 have hsig : ∀ t, findR l x.op x.name = some t → namI x.op = true → CO 53 [.sl (sgL l) l.length nl, .agg (ndC x)] (.ret (.agg (tyC t))) := fun t h hm => sig_some l nl x t hlg (by rw [← find_eq l x.name hm]; exact h)
 have hsigN : findR l x.op x.name = none → namI x.op = true → CO 53 [.sl (sgL l) l.length nl, .agg (ndC x)] (.pan (.ifc 63 (.int .i64 12))) := fun h hm => sig_none l nl x hlg (by rw [← find_eq l x.name hm]; exact h)
 have hfn := find_not l (op := x.op) x.name
 have hrp : ∀ t ∈ pickT ts (ll.getD p.length []), rightQ t = true := by
  intro t ht
  obtain ⟨j, hj1, rfl⟩ := List.mem_map.1 ht
  have := hj j hj1
  rw [List.getD_eq_getElem?_getD, List.getElem?_eq_getElem (by omega)]
  exact hr _ (List.getElem_mem _)
 have hpl : (pickT ts (ll.getD p.length [])).length = arI x.op := by simp [pickT]; exact ha
 have har := arI_le x.op
 have hin : ts ≠ [] → ∀ sg nt, 84 ≤ nt → LoopR prog ap [] nt (loopBody 2 (bodyOf f30)) (fun _ => .exit 2) (ciSt l ns nl nn ll p.length (ll.getD p.length []) x sg ts) (ciOut l ns nl nn ll p.length x sg ts) (0, []) (pickT ts (ll.getD p.length [])) := by
  intro _ sg nt hn
  have h := ci_loop hn l ns nl nn ll p.length (ll.getD p.length []) x sg ts (by omega) (by rw [hts]; exact hj) (ll.getD p.length []).length 0 [] (by omega) (by simp)
  rwa [List.nil_append, List.drop_zero] at h
 have g0 : decide (((0 : Nat) : Int) ≤ (p.length : Int)) = true := decide_eq_true (by omega)
 have g1 : decide ((p.length : Int) < (ns.length : Int)) = true := decide_eq_true (by omega)
 have g2 : lit true (decide ((p.length : Int) < (ns.length : Int))) = true := by rw [g1]; rfl
 have g3 : decide (((0 : Nat) : Int) ≤ x.op) = true := decide_eq_true (by omega)
 have g4 : decide (x.op < ((25 : Nat) : Int)) = true := decide_eq_true (by omega)
 have hw := wk1 (i := p.length) (by omega)
 have hown0 : ts = [] → ll.getD p.length [] = [] := by
  intro h
  cases hh : ll.getD p.length [] with
  | nil => rfl
  | cons j _ => have h4 := hj j (by rw [hh]; simp); rw [h] at hts; simp at hts; omega
 unfold typR
 rw [ofR_e]
 generalize hA : ll.getD p.length [] = ag at *
 cases hm : namI x.op && !(findR l x.op x.name).isSome with
 | true =>
  simp only [if_true]
  refine ⟨fun h => absurd h (by decide), fun _ => ?_⟩
  rw [Bool.and_eq_true] at hm
  have hno : findR l x.op x.name = none := by cases hf : findR l x.op x.name with | none => rfl | some t => rw [hf] at hm; simp at hm
  have hs := hsigN hno hm.1
  have hm1 : lit true (namI x.op) = true := hm.1
  rcases Decidable.em (ts = []) with hT | hT
  ·subst hT
   exact cuZ_0 hn l ns nl nn ll p.length x r rs hdr hrow hm1 g3 g4 g0 g1 g2 hs
  ·unfold ctSt ctOut
   dsimp only
   rw [ctH_ne hT]
   exact cuN_0 hn l ns nl nn ll ts p.length x r rs hdr hrow hm1 g3 g4 g0 g1 g2 hs
 | false =>
  simp only [Bool.false_eq_true, if_false]
  have hsg : (namI x.op = true ∧ CO 53 [.sl (sgL l) l.length nl, .agg (ndC x)] (.ret (.agg (tyC ((findR l x.op x.name).getD zT))))) ∨ (namI x.op = false ∧ (findR l x.op x.name).getD zT = zT) := by
   cases hnm : namI x.op with
   | false => right; rw [hfn hnm]; exact ⟨rfl, rfl⟩
   | true =>
    left
    rw [hnm] at hm
    cases hf : findR l x.op x.name with
    | none => rw [hf] at hm; simp at hm
    | some t => exact ⟨rfl, hsig t hf hnm⟩
  generalize (findR l x.op x.name).getD zT = sg at *
  by_cases hz : ag = []
  ·subst hz
   have h8 := arI_0 h1 h2 ha.symm
   have hg := rule0 h1 h8 sg
   have hp0 : pickT ts [] = [] := rfl
   rw [hp0] at *
   simp only [hg, if_true]
   refine ⟨fun _ => ?_, fun h => absurd trivial h⟩
   rcases Decidable.em (ts = []) with hT | hT
   ·subst hT
    have l1 := s3Z_ok h1 h8 l ns nl nn ll p.length x sg [] []
    rw [hg] at l1
    rcases hsg with ⟨hs1, hs2⟩ | ⟨hs1, rfl⟩
    ·exact ctZ_0 hn l ns nl nn ll p.length sg _ true x r rs _ [] hw hdr hrow hag rfl g0 g1 hs1 g3 g4 g2 hs2 (fun nt hnt => (LoopR.blk (id := 2) (e := fun _ : Unit => AExit.exit 2) (st := fun _ : Unit => (⟨ciE l ns nl nn ll p.length [] 0 .nilS, [(0, ⟨[.nilS], 0, false, 0, 0, true⟩), ct1, (2, ctN x.op x), ct3 sg], .dead, ctD⟩ : St)) (out := fun _ : Unit => (⟨ctE l ns nl nn ll p.length ++ [(11, .ptr 2 0 0), (12, .ptr 3 0 0), (13, .nilS)], [(0, ⟨[.nilS], 0, false, 0, 0, true⟩), ct1, (2, ctN x.op x), ct3 sg], .dead, ctD⟩ : St)) (a := ()) (r := ()) (e' := .normal) (fun nt hn => .done (ciZ_0 hn l ns nl nn ll p.length [] 0 x sg rfl)) (by simp) rfl (Less.of ⟨rfl, rfl, rfl, rfl, rfl, rfl, rfl, rfl, rfl, rfl, rfl, rfl, rfl, rfl, rfl, trivial⟩) (Less.refl _)) nt hnt) l1
    ·exact ctZ_1 hn l ns nl nn ll p.length _ true x r rs _ [] hw hdr hrow hag rfl g0 g1 (by rw [hs1]; rfl) g3 g4 g2 (fun nt hnt => (LoopR.blk (id := 2) (e := fun _ : Unit => AExit.exit 2) (st := fun _ : Unit => (⟨ciE l ns nl nn ll p.length [] 0 .nilS, [(0, ⟨[.nilS], 0, false, 0, 0, true⟩), ct1, (2, ctN x.op x), ct3 zT], .dead, ctD⟩ : St)) (out := fun _ : Unit => (⟨ctE l ns nl nn ll p.length ++ [(11, .ptr 2 0 0), (12, .ptr 3 0 0), (13, .nilS)], [(0, ⟨[.nilS], 0, false, 0, 0, true⟩), ct1, (2, ctN x.op x), ct3 zT], .dead, ctD⟩ : St)) (a := ()) (r := ()) (e' := .normal) (fun nt hn => .done (ciZ_0 hn l ns nl nn ll p.length [] 0 x zT rfl)) (by simp) rfl (Less.of ⟨rfl, rfl, rfl, rfl, rfl, rfl, rfl, rfl, rfl, rfl, rfl, rfl, rfl, rfl, rfl, trivial⟩) (Less.refl _)) nt hnt) l1
   ·have l1 := s3N_ok h1 h8 l ns nl nn ll p.length x sg ts []
    rw [hg] at l1
    have hin2 := hin hT sg
    have hL : ∀ q : Ty, ts ++ [q] ≠ [] := by simp
    have htl : ts.length < 2 ^ 38 := by omega
    unfold ctSt
    dsimp only
    rw [ctH_ne hT, ctH_ne (hL _), List.length_append, List.length_singleton]
    have f0 : Nat.ble (ts.length + 1) 1099511627776 = true := by simp; omega
    have f1 : Nat.ble (ts.length * 3) (List.length (tyL ts)) = true := by rw [tyL_len]; simp
    rcases hsg with ⟨hs1, hs2⟩ | ⟨hs1, rfl⟩
    ·exact ctN_0 hn l ns nl nn ll ts p.length sg _ true x r rs _ [] hw hdr hrow hag f0 f1 rfl g0 g1 hs1 g3 g4 g2 hs2 (fun nt hnt => (LoopR.blk (id := 2) (e' := .normal) hin2 (by simp) rfl (Less.of ⟨rfl, rfl, rfl, rfl, rfl, rfl, rfl, rfl, rfl, rfl, rfl, rfl, rfl, rfl, rfl, trivial⟩) (Less.refl _)) nt hnt) l1
    ·exact ctN_1 hn l ns nl nn ll ts p.length _ true x r rs _ [] hw hdr hrow hag f0 f1 rfl g0 g1 (by rw [hs1]; rfl) g3 g4 g2 (fun nt hnt => (LoopR.blk (id := 2) (e' := .normal) hin2 (by simp) rfl (Less.of ⟨rfl, rfl, rfl, rfl, rfl, rfl, rfl, rfl, rfl, rfl, rfl, rfl, rfl, rfl, rfl, trivial⟩) (Less.refl _)) nt hnt) l1
  ·have h9 := arI_pos h1 (by rw [← ha]; intro h; exact hz (List.eq_nil_of_length_eq_zero h))
   have hT : ts ≠ [] := fun h => hz (hown0 h)
   have hin2 := hin hT sg
   have hne : pickT ts ag ≠ [] := by intro h; apply hz; simpa [pickT] using h
   have l1 := s3C_ok h9 h2 l ns nl nn ll p.length x sg ts (pickT ts ag) hpl hrp
   generalize pickT ts ag = own at *
   have hL : ∀ q : Ty, ts ++ [q] ≠ [] := by simp
   have f0 : Nat.ble (ts.length + 1) 1099511627776 = true := by simp; omega
   have f1 : Nat.ble (ts.length * 3) (List.length (tyL ts)) = true := by rw [tyL_len]; simp
   have hin3 := fun nt hn => hin2 nt hn
   unfold ciOut at hin3
   have hloop := LoopR.blk (id := 2) (e' := .normal) (s' := ⟨ctE l ns nl nn ll p.length ++ [(11, .ptr 2 0 0), (12, .ptr 3 0 0), (13, .ref 4 0 0 own.length)], [(0, ⟨[.ref 5 0 0 ts.length], 0, false, 0, 0, false⟩), ct1, (2, ctN x.op x), ct3 sg, (4, ctT own), (5, ctT ts)], .dead, ctD⟩) (s := ciSt l ns nl nn ll p.length ag x sg ts (0, [])) hin3 (by simp) rfl (Less.refl _) (by rw [ciV_ne hne, ciH_ne hne]; exact Less.refl _)
   cases hg : (ruleN x.op.toNat sg own).1 with
   | true =>
    rw [hg] at l1
    simp only [if_true]
    refine ⟨fun _ => ?_, fun h => absurd trivial h⟩
    unfold ctSt
    dsimp only
    rw [ctH_ne hT, ctH_ne (hL _), List.length_append, List.length_singleton]
    rcases hsg with ⟨hs1, hs2⟩ | ⟨hs1, rfl⟩
    ·exact ctC_1 hn l ns nl nn ll ts own p.length sg _ true x r rs _ ag hw hdr hrow hag f0 f1 rfl g0 g1 hs1 g3 g4 g2 hs2 (fun nt hnt => (hloop nt hnt).weak (Less.of ⟨rfl, rfl, rfl, rfl, rfl, rfl, rfl, rfl, rfl, rfl, rfl, rfl, rfl, rfl, rfl, trivial⟩) (Less.refl _)) l1
    ·exact ctC_3 hn l ns nl nn ll ts own p.length _ true x r rs _ ag hw hdr hrow hag f0 f1 rfl g0 g1 (by rw [hs1]; rfl) g3 g4 g2 (fun nt hnt => (hloop nt hnt).weak (Less.of ⟨rfl, rfl, rfl, rfl, rfl, rfl, rfl, rfl, rfl, rfl, rfl, rfl, rfl, rfl, rfl, trivial⟩) (Less.refl _)) l1
   | false =>
    rw [hg] at l1
    simp only [Bool.false_eq_true, if_false]
    refine ⟨fun h => absurd h (by decide), fun _ => ?_⟩
    unfold ctSt ctOut
    dsimp only
    rw [ctH_ne hT]
    rcases hsg with ⟨hs1, hs2⟩ | ⟨hs1, rfl⟩
    ·exact ctC_0 hn l ns nl nn ll ts own p.length sg _ false x r rs _ ag hdr hrow hag rfl g0 g1 hs1 g3 g4 g2 hs2 (fun nt hnt => (hloop nt hnt).weak (Less.of ⟨rfl, rfl, rfl, rfl, rfl, rfl, rfl, rfl, rfl, rfl, rfl, rfl, rfl, rfl, rfl, trivial⟩) (Less.refl _)) l1
    ·exact ctC_2 hn l ns nl nn ll ts own p.length _ false x r rs _ ag hdr hrow hag rfl g0 g1 (by rw [hs1]; rfl) g3 g4 g2 (fun nt hnt => (hloop nt hnt).weak (Less.of ⟨rfl, rfl, rfl, rfl, rfl, rfl, rfl, rfl, rfl, rfl, rfl, rfl, rfl, rfl, rfl, trivial⟩) (Less.refl _)) l1
def typsP (l : List Sg) : List Nd → Nat → List Nat → List Ty → List Ty × Int
 | [], _, _, ts => (ts, 0)
 | x :: r, k, st, ts => if (typR l x (pickT ts (st.drop (st.length - arI x.op)))).2 = 0 then typsP l r (k + 1) (st.take (st.length - arI x.op) ++ [k]) (ts ++ [(typR l x (pickT ts (st.drop (st.length - arI x.op)))).1]) else (ts, (typR l x (pickT ts (st.drop (st.length - arI x.op)))).2)
theorem typsR_P (l : List Sg) : ∀ (r : List Nd) (k : Nat) (st : List Nat) (ts : List Ty), typsR l r k st ts = if (typsP l r k st ts).2 = 0 then .inl (typsP l r k st ts).1 else .inr (typsP l r k st ts).2 := by
 intro r
 induction r with
 | nil => intro k st ts; simp [typsR, typsP]
 | cons x r ih =>
  intro k st ts
  simp only [typsR, typsP]
  split
  ·exact ih _ _ _
  ·rfl
theorem ct_loop {nt : Nat} (hn : 84 ≤ nt) (l : List Sg) (ns : List Nd) (nl nn : Bool) (hle : ns.length < 2 ^ 38) (hlg : l.length < 2 ^ 40) (e0 : Nat) : ∀ (r p : List Nd) (st : List Nat) (done : List (List Nat)) (ts : List Ty), p ++ r = ns → chkR r st.length = .inl e0 → (∀ j ∈ st, j < p.length) → done.length = p.length → ts.length = p.length → (∀ t ∈ ts, rightQ t = true) → argsQ ns = done ++ argR r p.length st → LoopR prog ap [] nt (loopBody 0 (bodyOf f30)) ctX (ctSt l ns nl nn (argsQ ns)) ctOut (p.length, ts) (typsP l r p.length st ts) := by
 intro r
 induction r with
 | nil =>
  intro p st done ts h hc hst hd hts hrt ha
  have hp : p.length = ns.length := by rw [← h]; simp
  simp only [typsP]
  refine .done ?_
  have hq : lit false (decide ((p.length : Int) < (ns.length : Int))) = true := by rw [hp, d_lt]; simp [lit]
  rcases Decidable.em (ts = []) with hT | hT
  ·subst hT
   exact ctZ_2 hn l ns nl nn (argsQ ns) p.length hq
  ·unfold ctSt ctOut
   dsimp only
   rw [ctH_ne hT]
   exact ctN_2 hn l ns nl nn (argsQ ns) ts p.length hq
 | cons x r ih =>
  intro p st done ts h hc hst hd hts hrt ha
  obtain ⟨⟨h1, h2⟩, har, hc2⟩ := chkR_le hc
  have hst2 : (st.take (st.length - arI x.op) ++ [p.length]).length = st.length - arI x.op + 1 := by
   rw [List.length_append, List.length_take, List.length_singleton, Nat.min_eq_left (by omega)]
  have hget : (argsQ ns).getD p.length [] = st.drop (st.length - arI x.op) := by
   rw [ha]
   simp only [argR]
   rw [← hd, List.getD_eq_getElem?_getD, List.getElem?_append_right (Nat.le_refl _), Nat.sub_self]
   rfl
  have hlen : (argsQ ns).length = ns.length := by unfold argsQ; rw [argR_len]
  have hal : ((argsQ ns).getD p.length []).length = arI x.op := by rw [hget, List.length_drop]; omega
  have hjs : ∀ j ∈ (argsQ ns).getD p.length [], j < p.length := by rw [hget]; exact fun j hj => hst j (List.mem_of_mem_drop hj)
  obtain ⟨s1, s2⟩ := ct_round hn l ns p r nl nn (argsQ ns) x ts h.symm hle hlg hlen hts h1 h2 hal hjs hrt
  have hrp : ∀ t ∈ pickT ts ((argsQ ns).getD p.length []), rightQ t = true := by
   intro t ht
   obtain ⟨j, hj1, rfl⟩ := List.mem_map.1 ht
   have := hjs j hj1
   rw [List.getD_eq_getElem?_getD, List.getElem?_eq_getElem (by omega)]
   exact hrt _ (List.getElem_mem _)
  have hright := typR_right (l := l) h1 h2 (by simp [pickT]; exact hal) hrp
  rw [hget] at s1 s2 hright
  simp only [typsP]
  split
  ·rename_i he
   have hnext := ih (p ++ [x]) (st.take (st.length - arI x.op) ++ [p.length]) (done ++ [st.drop (st.length - arI x.op)]) (ts ++ [(typR l x (pickT ts (st.drop (st.length - arI x.op)))).1]) (by simp [h]) (by rw [hst2]; exact hc2) (by
    intro j hj
    rcases List.mem_append.mp hj with hj | hj
    ·have := hst j (List.mem_of_mem_take hj); simp; omega
    ·simp at hj; simp; omega) (by simp [hd]) (by simp [hts]) (by
    intro t ht
    rcases List.mem_append.mp ht with ht | ht
    ·exact hrt t ht
    ·simp at ht; subst ht; exact hright he) (by rw [ha]; simp only [argR, List.length_append, List.length_singleton, List.append_assoc, List.singleton_append])
   rw [List.length_append, List.length_singleton] at hnext
   exact .next (s1 he) hnext
  ·rename_i he
   exact .done (s2 he)
theorem argsU_ok (ns : List Nd) (nn : Bool) (hsm : ∀ x ∈ ns, x.sm) (hc : checkQ ns = 0) : CO 51 [.sl (ndL ns) ns.length nn] (.ret (.tup [.sl (argsU (argsQ ns)) ns.length true, .bool true])) := args_ok ns nn hsm hc
theorem rulesS_ok : CO 52 [] (.ret (.sl ruL 25 true)) := rules_ok.thaw (by simp)
theorem typsP_len (l : List Sg) (ns : List Nd) (h : (typsP l ns 0 [] []).2 = 0) : (typsP l ns 0 [] []).1.length = ns.length := by
 have h1 := typsR_P l ns 0 [] []
 rw [if_pos h] at h1
 have := typsR_len l ns 0 [] [] _ h1
 simpa using this
theorem ctypes_ok (l : List Sg) (ns : List Nd) (nl nn : Bool) (hlg : l.length < 2 ^ 40) (hsm : ∀ x ∈ ns, x.sm) : CO 30 [.sl (sgL l) l.length nl, .sl (ndL ns) ns.length nn] (.ret (typesO (typesQ l ns))) := by
 have hck := check_ok ns nn hsm
 unfold typesQ
 by_cases hc : checkQ ns = 0
 ·rw [if_pos hc]
  have ha := argsU_ok ns nn hsm hc
  obtain ⟨h60, hin⟩ := checkQ_inl hc
  rw [hc] at hck
  have hloop := fun nt (hn : 84 ≤ nt) => ct_loop hn l ns nl nn (by omega) hlg 1 ns [] [] [] [] rfl hin (by simp) rfl rfl (by simp) rfl
  rw [List.length_nil] at hloop
  rw [typsR_P]
  have hlen := typsP_len l ns
  have h0 : 0 < ns.length := by
   cases ns with
   | nil => simp [chkR] at hin
   | cons _ _ => simp
  generalize typsP l ns 0 [] [] = q at *
  obtain ⟨ts, e⟩ := q
  dsimp only at hlen ⊢
  by_cases he : e = 0
  ·subst he
   have hl := hlen rfl
   rw [if_pos rfl]
   have hT : ts ≠ [] := by intro h; subst h; simp at hl; omega
   have htk : List.take (ts.length * 3) (tyL ts) = tyL ts := List.take_of_length_le (by rw [tyL_len]; omega)
   have l0 := LoopR.blk (id := 0) (e' := .normal) (s' := ⟨[(4, .ptr 0 0 0), (5, .ptr 1 0 0)], [(0, ⟨[.ref 2 0 0 ts.length], 0, false, 0, 0, false⟩), ct1, (2, ctT ts)], .dead, ctD⟩) (s := ctSt l ns nl nn (argsQ ns) (0, [])) hloop (ctx_ne _) rfl (Less.refl _) (by unfold ctOut; dsimp only; rw [ctH_ne hT]; exact Less.refl _)
   have hb := ctyN_1 l ns nl nn (argsQ ns) ts 0 0 rfl hck ha rulesS_ok (fun nt hnt => (l0 nt hnt).weak (Less.of ⟨rfl, rfl, rfl, rfl, rfl, rfl, rfl, rfl, rfl, trivial⟩) (Less.refl _))
   have hb := hb.thaw (by simp)
   simp only [thawO, List.map_cons, List.map_nil, thaw, htk] at hb
   exact hb
  ·rw [if_neg he]
   rcases Decidable.em (ts = []) with hT | hT
   ·subst hT
    have l0 := LoopR.blk (id := 0) (e' := .panic (.ifc 63 (.int .i64 e))) (s' := ctOut ([], e)) (s := ctSt l ns nl nn (argsQ ns) (0, [])) hloop (ctx_ne _) (by unfold ctX; dsimp only; rw [if_neg he]; rfl) (Less.refl _) (Less.refl _)
    exact ctyQ_1 l ns nl nn (argsQ ns) [] 0 e rfl hck ha rulesS_ok (fun nt hnt => (l0 nt hnt).weak (Less.of ⟨rfl, rfl, rfl, rfl, rfl, rfl, rfl, rfl, rfl, trivial⟩) (Less.refl _))
   ·have l0 := LoopR.blk (id := 0) (e' := .panic (.ifc 63 (.int .i64 e))) (s' := ⟨[(4, .ptr 0 0 0), (5, .ptr 1 0 0)], [(0, ⟨[.ref 2 0 0 ts.length], 0, false, 0, 0, false⟩), ct1, (2, ctT ts)], .dead, ctD⟩) (s := ctSt l ns nl nn (argsQ ns) (0, [])) hloop (ctx_ne _) (by unfold ctX; dsimp only; rw [if_neg he]; rfl) (Less.refl _) (by unfold ctOut; dsimp only; rw [ctH_ne hT]; exact Less.refl _)
    exact ctyP_1 l ns nl nn (argsQ ns) ts 0 e rfl hck ha rulesS_ok (fun nt hnt => (l0 nt hnt).weak (Less.of ⟨rfl, rfl, rfl, rfl, rfl, rfl, rfl, rfl, rfl, trivial⟩) (Less.refl _))
 ·rw [if_neg hc]
  exact ctyN_0 l ns nl nn (argsQ ns) [] (checkQ ns) 0 (by simpa [lit] using hc) hck
theorem cpN_0 (l : List Sg) (ns : List Nd) (nl nn : Bool) (ts : List Ty) (e : Int) (h0 : (chk .bool (List.headD (List.drop ((Int.toNat (IntKind.wrap .i64 ((ts.length : Int) - ((1 : Nat) : Int)))) * 3) (tyL ts)) .dead)) = true) (h1 : (chk (.int .i64) (List.headD (List.tail (List.drop ((Int.toNat (IntKind.wrap .i64 ((ts.length : Int) - ((1 : Nat) : Int)))) * 3) (tyL ts))) .dead)) = true) (h2 : (chk (.int .i64) (List.headD (List.tail (List.tail (List.drop ((Int.toNat (IntKind.wrap .i64 ((ts.length : Int) - ((1 : Nat) : Int)))) * 3) (tyL ts)))) .dead)) = true) (h3 : (decide (((0 : Nat) : Int) ≤ (IntKind.wrap .i64 ((ts.length : Int) - ((1 : Nat) : Int))))) = true) (h4 : (decide ((IntKind.wrap .i64 ((ts.length : Int) - ((1 : Nat) : Int))) < (ts.length : Int))) = true) (c0 : CO 30 [.sl (sgL l) l.length nl, .sl (ndL ns) ns.length nn] (.ret (.tup [.sl (tyL ts) ts.length true, .int .i64 0]))) : CO 35 [.sl (sgL l) l.length nl, .sl (ndL ns) ns.length nn] (.ret (.tup [.agg [.bool (AV.toBool (List.headD (List.drop ((Int.toNat (IntKind.wrap .i64 ((ts.length : Int) - ((1 : Nat) : Int)))) * 3) (tyL ts)) .dead)), .int .i64 (AV.toInt (List.headD (List.tail (List.drop ((Int.toNat (IntKind.wrap .i64 ((ts.length : Int) - ((1 : Nat) : Int)))) * 3) (tyL ts))) .dead)), .int .i64 (AV.toInt (List.headD (List.tail (List.tail (List.drop ((Int.toNat (IntKind.wrap .i64 ((ts.length : Int) - ((1 : Nat) : Int)))) * 3) (tyL ts)))) .dead))], .int .i64 0])) := pK [] 1 0 (.k 4 h0 (.c h1 (.c h2 (.c h3 (.c h4 (.n 1 .nil)))))) (.c c0 .nil)
theorem cpE_0 (l : List Sg) (ns : List Nd) (nl nn : Bool) (ts : List Ty) (e : Int) (h0 : lit true (!(e == ((0 : Nat) : Int))) = true) (c0 : CO 30 [.sl (sgL l) l.length nl, .sl (ndL ns) ns.length nn] (.ret (.tup [.nilS, .int .i64 e]))) : CO 35 [.sl (sgL l) l.length nl, .sl (ndL ns) ns.length nn] (.ret (.tup [.agg [.bool false, .int .i64 0, .int .i64 0], .int .i64 e])) := pK [] 1 1 (.k 4 h0 .nil) (.c c0 .nil)
theorem ctype_ok (l : List Sg) (ns : List Nd) (nl nn : Bool) (hlg : l.length < 2 ^ 40) (hsm : ∀ x ∈ ns, x.sm) : CO 35 [.sl (sgL l) l.length nl, .sl (ndL ns) ns.length nn] (.ret (.tup [.agg (tyC (typeQ l ns).1), .int .i64 (typeQ l ns).2])) := by
 have ht := ctypes_ok l ns nl nn hlg hsm
 unfold typeQ
 cases hq : typesQ l ns with
 | inl ts =>
  rw [hq] at ht
  obtain ⟨h1, h2, h3⟩ := typesQ_len hq
  have hj : ts.length - 1 < ts.length := by omega
  have hd := tyL_drop hj
  rw [Nat.zero_add] at hd
  have hw : IntKind.wrap .i64 ((ts.length : Int) - ((1 : Nat) : Int)) = ((ts.length - 1 : Nat) : Int) := by rw [w64_id] <;> omega
  have hb := cpN_0 l ns nl nn ts 0
  rw [hw, hd] at hb
  exact hb rfl rfl rfl (decide_eq_true (by omega)) (decide_eq_true (by omega)) ht
 | inr e =>
  rw [hq] at ht
  exact cpE_0 l ns nl nn [] e (by simpa [lit] using typesQ_err hq) ht
theorem sa_1 {nt : Nat} (hn : 26 ≤ nt) (ts : List Ty) (k : Nat) (t : Ty) (r : List AV) (hw : AV.int .i64 (IntKind.wrap .i64 ((k : Int) + ((1 : Nat) : Int))) = .int .i64 ((k + 1 : Nat) : Int))  (ht : (List.drop ((Int.toNat (k : Int)) * 3) (tyL ts)) = tyC t ++ r) (h0 : lit false (!((t.tr == t.tr) && ((t.m == t.m) && ((t.d == t.d) && true)))) = true) (h1 : (decide (((0 : Nat) : Int) ≤ (k : Int))) = true) (h2 : (decide ((k : Int) < (ts.length : Int))) = true) (h3 : lit true (decide ((k : Int) < (ts.length : Int))) = true)  : ExecOk prog ap [] nt (loopBody 0 (bodyOf f37)) ⟨[(0, .sl (tyL ts) ts.length true), (1, .sl (tyL ts) ts.length true), (5, .int .i64 (k : Int))], [], .dead, []⟩ (.normal) ⟨[(0, .sl (tyL ts) ts.length true), (1, .sl (tyL ts) ts.length true), (5, .int .i64 (((k + 1) : Nat) : Int))], [], .dead, []⟩ := pN 37 [] 2 1 (.c h0 (.k 3 h1 (.c h2 (.k 3 h1 (.c h2 (.c h3 .nil)))))) (.v 16 (.eq hw) (.v 23 (.ppt ht) (.v 19 (.ppt ht) .nil))) hn
theorem sa_2 {nt : Nat} (hn : 26 ≤ nt) (ts : List Ty) (k : Nat)   (h0 : lit false (decide ((k : Int) < (ts.length : Int))) = true)  : ExecOk prog ap [] nt (loopBody 0 (bodyOf f37)) ⟨[(0, .sl (tyL ts) ts.length true), (1, .sl (tyL ts) ts.length true), (5, .int .i64 (k : Int))], [], .dead, []⟩ (.exit 0) ⟨[], [], .dead, []⟩ := pN 37 [] 1 0 (.c h0 .nil) (.nil) hn
theorem saN_0 (ts : List Ty) (h0 : lit false (!((ts.length : Int) == (ts.length : Int))) = true) (l0 : LoopOk prog ap [] 26 (.block 0 (.loop (loopBody 0 (bodyOf f37)))) ⟨[(0, .sl (tyL ts) ts.length true), (1, .sl (tyL ts) ts.length true), (4, .bool false), (5, .int .i64 0), (10, .bool (!((ts.length : Int) == (ts.length : Int)))), (14, .dead), (25, .dead)], [], .dead, []⟩ (.normal) ⟨[], [], .dead, []⟩) : CO 37 [.sl (tyL ts) ts.length true, .sl (tyL ts) ts.length true] (.ret (.bool true)) := pK [0] 1 0 (.c h0 .nil) (.l l0 .nil)
theorem saZ_0    : CO 37 [.nilS, .nilS] (.ret (.bool true)) := pK [] 2 0 (.n 2 .nil) (.nil)
theorem smN_0 (l : List Sg) (ns : List Nd) (nl nn : Bool) (ts : List Ty) (e : Int) (t : Ty) (h0 : lit true ((t.tr == t.tr) && ((t.m == t.m) && ((t.d == t.d) && true))) = true) (c0 : CO 30 [.sl (sgL l) l.length nl, .sl (ndL ns) ns.length nn] (.ret (.tup [.sl (tyL ts) ts.length true, .int .i64 0]))) (c1 : CO 34 [.sl (sgL l) l.length nl, .sl (ndL ns) ns.length nn] (.ret (.tup [.sl (tyL ts) ts.length true, .int .i64 0]))) (c2 : CO 35 [.sl (sgL l) l.length nl, .sl (ndL ns) ns.length nn] (.ret (.tup [.agg [.bool t.tr, .int .i64 t.m, .int .i64 t.d], .int .i64 0]))) (c3 : CO 36 [.sl (sgL l) l.length nl, .sl (ndL ns) ns.length nn] (.ret (.tup [.agg [.bool t.tr, .int .i64 t.m, .int .i64 t.d], .int .i64 0]))) (c4 : CO 37 [.sl (tyL ts) ts.length true, .sl (tyL ts) ts.length true] (.ret (.bool true))) : CO 12 [.sl (sgL l) l.length nl, .sl (ndL ns) ns.length nn] (.ret (.bool true)) := pK [] 3 7 (.c h0 (.n 10 .nil)) (.c c4 (.c c3 (.c c2 (.c c1 (.c c0 .nil)))))
theorem smE_0 (l : List Sg) (ns : List Nd) (nl nn : Bool) (ts : List Ty) (e : Int) (t : Ty) (h0 : lit true ((t.tr == t.tr) && ((t.m == t.m) && ((t.d == t.d) && true))) = true) (h1 : lit true (e == e) = true) (c0 : CO 30 [.sl (sgL l) l.length nl, .sl (ndL ns) ns.length nn] (.ret (.tup [.nilS, .int .i64 e]))) (c1 : CO 34 [.sl (sgL l) l.length nl, .sl (ndL ns) ns.length nn] (.ret (.tup [.nilS, .int .i64 e]))) (c2 : CO 35 [.sl (sgL l) l.length nl, .sl (ndL ns) ns.length nn] (.ret (.tup [.agg [.bool t.tr, .int .i64 t.m, .int .i64 t.d], .int .i64 e]))) (c3 : CO 36 [.sl (sgL l) l.length nl, .sl (ndL ns) ns.length nn] (.ret (.tup [.agg [.bool t.tr, .int .i64 t.m, .int .i64 t.d], .int .i64 e]))) (c4 : CO 37 [.nilS, .nilS] (.ret (.bool true))) : CO 12 [.sl (sgL l) l.length nl, .sl (ndL ns) ns.length nn] (.ret (.bool (e == e))) := pK [] 3 7 (.c h0 (.k 7 h1 (.n 2 .nil))) (.c c4 (.c c3 (.c c2 (.c c1 (.c c0 .nil)))))
theorem sa_loop {nt : Nat} (hn : 26 ≤ nt) (ts : List Ty) (hl : ts.length < 2 ^ 38) : ∀ (d k : Nat), k + d = ts.length → LoopR prog ap [] nt (loopBody 0 (bodyOf f37)) (fun _ => .exit 0) (fun k : Nat => (⟨[(0, .sl (tyL ts) ts.length true), (1, .sl (tyL ts) ts.length true), (5, .int .i64 (k : Int))], [], .dead, []⟩ : St)) (fun _ : Unit => (⟨[], [], .dead, []⟩ : St)) k () := by
 intro d
 induction d with
 | zero =>
  intro k h
  exact .done (sa_2 hn ts k (by rw [d_lt]; simp [lit]; omega))
 | succ d ih =>
  intro k h
  have hk : k < ts.length := by omega
  have ht := tyL_drop hk
  rw [Nat.zero_add] at ht
  refine .next ?_ (ih (k + 1) (by omega))
  exact sa_1 hn ts k _ _ (wk1 (by omega)) ht (by simp [lit]) (decide_eq_true (by omega)) (decide_eq_true (by omega)) (by rw [d_lt]; simp [lit]; omega)
theorem same_eq (ts : List Ty) (hl : ts.length < 2 ^ 38) : CO 37 [.sl (tyL ts) ts.length true, .sl (tyL ts) ts.length true] (.ret (.bool true)) :=
 saN_0 ts (by simp [lit]) (fun nt hnt => (LoopR.blk (id := 0) (e' := .normal) (fun nt hn => sa_loop hn ts hl ts.length 0 (by omega)) (by simp) rfl (Less.of ⟨rfl, rfl, rfl, trivial⟩) (Less.refl _)) nt hnt)
theorem same_ok (l : List Sg) (ns : List Nd) (nl nn : Bool) (hlg : l.length < 2 ^ 40) (hsm : ∀ x ∈ ns, x.sm) : CO 12 [.sl (sgL l) l.length nl, .sl (ndL ns) ns.length nn] (.ret (.bool true)) := by
 have h1 := ctypes_ok l ns nl nn hlg hsm
 have h2 := types_ok l ns nl nn hlg hsm
 have h3 := ctype_ok l ns nl nn hlg hsm
 have h4 := type_ok l ns nl nn hlg hsm
 unfold typeQ at h3 h4
 have hx : ∀ t : Ty, ((t.tr == t.tr) && ((t.m == t.m) && ((t.d == t.d) && true))) = true := fun t => by simp
 cases hq : typesQ l ns with
 | inl ts =>
  rw [hq] at h1 h2 h3 h4
  obtain ⟨k1, k2, k3⟩ := typesQ_len hq
  exact smN_0 l ns nl nn ts 0 _ (hx _) h1 h2 h3 h4 (same_eq ts (by omega))
 | inr e =>
  rw [hq] at h1 h2 h3 h4
  have h := smE_0 l ns nl nn [] e _ (hx _) (by simp [lit]) h1 h2 h3 h4 saZ_0
  rwa [beq_self_eq_true] at h
theorem min_e (k : Nat) (s : List UInt8) : AV.int .i64 (if (k : Int) < (s.length : Int) then (k : Int) else (s.length : Int)) = .int .i64 ((min k s.length : Nat) : Int) := by
 congr 1
 split <;> omega
theorem cut_e (k : Nat) (s : List UInt8) : AV.str (List.drop 0 (List.take (Int.toNat ((min k s.length : Nat) : Int)) s)) = .str (s.take k) := by
 rw [List.drop_zero, c_toNat]
 congr 1
 rcases Nat.le_total k s.length with h | h
 ·rw [Nat.min_eq_left h]
 ·rw [Nat.min_eq_right h, List.take_of_length_le (Nat.le_refl _), List.take_of_length_le h]
def cutN (x : Nd) : Nd := ⟨x.op, x.neg, x.num.take 60, x.den.take 60, x.name.take 25⟩
def cutSg (s : Sg) : Sg := ⟨s.op, s.name.take 25, s.ty⟩
theorem nd_snoc (own : List Nd) (x : Nd) : List.take (own.length * 5) (ndL own) ++ [AV.int .i64 x.op, .bool x.neg, .str (List.take 60 x.num), .str (List.take 60 x.den), .str (List.take 25 x.name)] = ndL (own ++ [cutN x]) := by
 rw [List.take_of_length_le (by rw [ndL_len]; omega), ndL_app]; simp [ndL, ndC, cutN]
theorem sg_snoc (own : List Sg) (s : Sg) : List.take (own.length * 5) (sgL own) ++ [AV.int .i64 s.op, .str (List.take 25 s.name), .bool s.ty.tr, .int .i64 s.ty.m, .int .i64 s.ty.d] = sgL (own ++ [cutSg s]) := by
 rw [List.take_of_length_le (by rw [sgL_len]; omega), sgL_app]; simp [sgL, sgC, cutSg]
theorem cvZ_0 {nt : Nat} (hn : 55 ≤ nt) (ns : List Nd) (nn : Bool) (k : Nat) (x : Nd) (r : List Nd) (hw : AV.int .i64 (IntKind.wrap .i64 ((k : Int) + ((1 : Nat) : Int))) = .int .i64 ((k + 1 : Nat) : Int))  (hdr : (List.drop ((Int.toNat (k : Int)) * 5) (ndL ns)) = ndC x ++ ndL r) (h0 : (decide (((0 : Nat) : Int) ≤ (((min 60 x.den.length) : Nat) : Int))) = true) (h1 : (decide ((((min 60 x.den.length) : Nat) : Int) ≤ (((List.length x.den) : Nat) : Int))) = true) (h2 : (decide (((0 : Nat) : Int) ≤ (((min 60 x.num.length) : Nat) : Int))) = true) (h3 : (decide ((((min 60 x.num.length) : Nat) : Int) ≤ (((List.length x.num) : Nat) : Int))) = true) (h4 : (decide (((0 : Nat) : Int) ≤ (((min 25 x.name.length) : Nat) : Int))) = true) (h5 : (decide ((((min 25 x.name.length) : Nat) : Int) ≤ (((List.length x.name) : Nat) : Int))) = true) (h6 : (decide (((0 : Nat) : Int) ≤ (k : Int))) = true) (h7 : (decide ((k : Int) < (ns.length : Int))) = true) (h8 : lit true (decide ((k : Int) < ((62 : Nat) : Int))) = true) (h9 : lit true (decide ((k : Int) < (ns.length : Int))) = true)  : ExecOk prog ap [] nt (loopBody 0 (bodyOf f13)) ⟨[(0, .sl (ndL ns) ns.length nn), (3, .nilS), (4, .int .i64 (k : Int))], [], .dead, []⟩ (.normal) ⟨[(0, .sl (ndL ns) ns.length nn), (3, .ref 0 0 0 1), (4, .int .i64 (((k + 1) : Nat) : Int))], [(0, ⟨[.int .i64 x.op, .bool x.neg, .str (List.take 60 x.num), .str (List.take 60 x.den), .str (List.take 25 x.name)], 0, false, 0, 5, true⟩)], .dead, []⟩ := pN 13 [] 3 3 (.k 10 h0 (.c h1 (.k 4 h2 (.c h3 (.k 4 h4 (.c h5 (.k 8 h6 (.c h7 (.c h8 (.c h9 .nil)))))))))) (.v 15 (.eq hw) (.v 47 (.eq (cut_e 60 x.den)) (.v 46 (.eq (min_e 60 x.den)) (.v 36 (.eq (cut_e 60 x.num)) (.v 35 (.eq (min_e 60 x.num)) (.v 26 (.eq (cut_e 25 x.name)) (.v 25 (.eq (min_e 25 x.name)) (.v 18 (.ppt hdr) .nil)))))))) hn
theorem cvZ_1 {nt : Nat} (hn : 55 ≤ nt) (ns : List Nd) (nn : Bool) (k : Nat)   (h0 : lit false (decide ((k : Int) < ((62 : Nat) : Int))) = true) (h1 : lit true (decide ((k : Int) < (ns.length : Int))) = true)  : ExecOk prog ap [] nt (loopBody 0 (bodyOf f13)) ⟨[(0, .sl (ndL ns) ns.length nn), (3, .nilS), (4, .int .i64 (k : Int))], [], .dead, []⟩ (.exit 0) ⟨[(3, .nilS)], [], .dead, []⟩ := pN 13 [] 2 1 (.c h0 (.c h1 .nil)) (.nil) hn
theorem cvZ_2 {nt : Nat} (hn : 55 ≤ nt) (ns : List Nd) (nn : Bool) (k : Nat)   (h0 : lit false (decide ((k : Int) < (ns.length : Int))) = true)  : ExecOk prog ap [] nt (loopBody 0 (bodyOf f13)) ⟨[(0, .sl (ndL ns) ns.length nn), (3, .nilS), (4, .int .i64 (k : Int))], [], .dead, []⟩ (.exit 0) ⟨[(3, .nilS)], [], .dead, []⟩ := pN 13 [] 2 0 (.k 1 h0 .nil) (.nil) hn
theorem cvC_0 {nt : Nat} (hn : 55 ≤ nt) (ns cs : List Nd) (nn : Bool) (k : Nat) (x : Nd) (r : List Nd) (hw : AV.int .i64 (IntKind.wrap .i64 ((k : Int) + ((1 : Nat) : Int))) = .int .i64 ((k + 1 : Nat) : Int))  (hdr : (List.drop ((Int.toNat (k : Int)) * 5) (ndL ns)) = ndC x ++ ndL r) (h0 : (Nat.ble (cs.length + 1) 1099511627776) = true) (h1 : (Nat.ble (cs.length * 5) (List.length (ndL cs))) = true) (h2 : (decide (((0 : Nat) : Int) ≤ (((min 60 x.den.length) : Nat) : Int))) = true) (h3 : (decide ((((min 60 x.den.length) : Nat) : Int) ≤ (((List.length x.den) : Nat) : Int))) = true) (h4 : (decide (((0 : Nat) : Int) ≤ (((min 60 x.num.length) : Nat) : Int))) = true) (h5 : (decide ((((min 60 x.num.length) : Nat) : Int) ≤ (((List.length x.num) : Nat) : Int))) = true) (h6 : (decide (((0 : Nat) : Int) ≤ (((min 25 x.name.length) : Nat) : Int))) = true) (h7 : (decide ((((min 25 x.name.length) : Nat) : Int) ≤ (((List.length x.name) : Nat) : Int))) = true) (h8 : (decide (((0 : Nat) : Int) ≤ (k : Int))) = true) (h9 : (decide ((k : Int) < (ns.length : Int))) = true) (h10 : lit true (decide ((k : Int) < ((62 : Nat) : Int))) = true) (h11 : lit true (decide ((k : Int) < (ns.length : Int))) = true)  : ExecOk prog ap [] nt (loopBody 0 (bodyOf f13)) ⟨[(0, .sl (ndL ns) ns.length nn), (3, .ref 0 0 0 cs.length), (4, .int .i64 (k : Int))], [(0, ⟨(ndL cs), 0, false, 0, 5, true⟩)], .dead, []⟩ (.normal) ⟨[(0, .sl (ndL ns) ns.length nn), (3, .ref 0 0 0 (cs.length + 1)), (4, .int .i64 (((k + 1) : Nat) : Int))], [(0, ⟨(ndL (cs ++ [cutN x])), 0, false, 0, 5, true⟩)], .dead, []⟩ := pN 13 [] 2 3 (.k 1 h0 (.c h1 (.k 8 h2 (.c h3 (.k 4 h4 (.c h5 (.k 4 h6 (.c h7 (.k 8 h8 (.c h9 (.c h10 (.c h11 .nil)))))))))))) (.v 15 (.eq hw) (.b 53 (nd_snoc cs x) (.v 47 (.eq (cut_e 60 x.den)) (.v 46 (.eq (min_e 60 x.den)) (.v 36 (.eq (cut_e 60 x.num)) (.v 35 (.eq (min_e 60 x.num)) (.v 26 (.eq (cut_e 25 x.name)) (.v 25 (.eq (min_e 25 x.name)) (.v 18 (.ppt hdr) .nil))))))))) hn
theorem cvC_1 {nt : Nat} (hn : 55 ≤ nt) (ns cs : List Nd) (nn : Bool) (k : Nat)   (h0 : lit false (decide ((k : Int) < ((62 : Nat) : Int))) = true) (h1 : lit true (decide ((k : Int) < (ns.length : Int))) = true)  : ExecOk prog ap [] nt (loopBody 0 (bodyOf f13)) ⟨[(0, .sl (ndL ns) ns.length nn), (3, .ref 0 0 0 cs.length), (4, .int .i64 (k : Int))], [(0, ⟨(ndL cs), 0, false, 0, 5, true⟩)], .dead, []⟩ (.exit 0) ⟨[(3, .ref 0 0 0 cs.length)], [(0, ⟨(ndL cs), 0, false, 0, 5, true⟩)], .dead, []⟩ := pN 13 [] 2 1 (.c h0 (.c h1 .nil)) (.nil) hn
theorem cvC_2 {nt : Nat} (hn : 55 ≤ nt) (ns cs : List Nd) (nn : Bool) (k : Nat)   (h0 : lit false (decide ((k : Int) < (ns.length : Int))) = true)  : ExecOk prog ap [] nt (loopBody 0 (bodyOf f13)) ⟨[(0, .sl (ndL ns) ns.length nn), (3, .ref 0 0 0 cs.length), (4, .int .i64 (k : Int))], [(0, ⟨(ndL cs), 0, false, 0, 5, true⟩)], .dead, []⟩ (.exit 0) ⟨[(3, .ref 0 0 0 cs.length)], [(0, ⟨(ndL cs), 0, false, 0, 5, true⟩)], .dead, []⟩ := pN 13 [] 2 0 (.k 1 h0 .nil) (.nil) hn
theorem cgZ_0 {nt : Nat} (hn : 51 ≤ nt) (l : List Sg) (ns : List Nd) (nl nn : Bool) (k : Nat) (s : Sg) (r : List Sg) (hw : AV.int .i64 (IntKind.wrap .i64 ((k : Int) + ((1 : Nat) : Int))) = .int .i64 ((k + 1 : Nat) : Int))  (hdr : (List.drop ((Int.toNat (k : Int)) * 5) (sgL l)) = sgC s ++ sgL r) (h0 : (decide (((0 : Nat) : Int) ≤ (((min 25 s.name.length) : Nat) : Int))) = true) (h1 : (decide ((((min 25 s.name.length) : Nat) : Int) ≤ (((List.length s.name) : Nat) : Int))) = true) (h2 : (decide (((0 : Nat) : Int) ≤ (k : Int))) = true) (h3 : (decide ((k : Int) < (l.length : Int))) = true) (h4 : lit true (decide ((k : Int) < ((30 : Nat) : Int))) = true) (h5 : lit true (decide ((k : Int) < (l.length : Int))) = true)  : ExecOk prog ap [] nt (loopBody 0 (bodyOf f3)) ⟨[(0, .sl (sgL l) l.length nl), (1, .sl (ndL ns) ns.length nn), (5, .bool true), (6, .nilS), (7, .int .i64 (k : Int))], [], .dead, []⟩ (.normal) ⟨[(0, .sl (sgL l) l.length nl), (1, .sl (ndL ns) ns.length nn), (5, .bool true), (6, .ref 0 0 0 1), (7, .int .i64 (((k + 1) : Nat) : Int))], [(0, ⟨[.int .i64 s.op, .str (List.take 25 s.name), .bool s.ty.tr, .int .i64 s.ty.m, .int .i64 s.ty.d], 0, false, 0, 5, true⟩)], .dead, []⟩ := pN 3 [] 3 3 (.k 10 h0 (.c h1 (.k 8 h2 (.c h3 (.c h4 (.c h5 .nil)))))) (.v 19 (.eq hw) (.v 30 (.eq (cut_e 25 s.name)) (.v 29 (.eq (min_e 25 s.name)) (.v 22 (.ppt hdr) .nil)))) hn
theorem cgZ_1 {nt : Nat} (hn : 51 ≤ nt) (l : List Sg) (ns : List Nd) (nl nn : Bool) (k : Nat)   (h0 : lit false (decide ((k : Int) < ((30 : Nat) : Int))) = true) (h1 : lit true (decide ((k : Int) < (l.length : Int))) = true)  : ExecOk prog ap [] nt (loopBody 0 (bodyOf f3)) ⟨[(0, .sl (sgL l) l.length nl), (1, .sl (ndL ns) ns.length nn), (5, .bool true), (6, .nilS), (7, .int .i64 (k : Int))], [], .dead, []⟩ (.exit 0) ⟨[(1, .sl (ndL ns) ns.length nn), (5, .bool true), (6, .nilS)], [], .dead, []⟩ := pN 3 [] 2 1 (.c h0 (.c h1 .nil)) (.nil) hn
theorem cgZ_2 {nt : Nat} (hn : 51 ≤ nt) (l : List Sg) (ns : List Nd) (nl nn : Bool) (k : Nat)   (h0 : lit false (decide ((k : Int) < (l.length : Int))) = true)  : ExecOk prog ap [] nt (loopBody 0 (bodyOf f3)) ⟨[(0, .sl (sgL l) l.length nl), (1, .sl (ndL ns) ns.length nn), (5, .bool true), (6, .nilS), (7, .int .i64 (k : Int))], [], .dead, []⟩ (.exit 0) ⟨[(1, .sl (ndL ns) ns.length nn), (5, .bool true), (6, .nilS)], [], .dead, []⟩ := pN 3 [] 2 0 (.k 1 h0 .nil) (.nil) hn
theorem cgC_0 {nt : Nat} (hn : 51 ≤ nt) (l cs : List Sg) (ns : List Nd) (nl nn : Bool) (k : Nat) (s : Sg) (r : List Sg) (hw : AV.int .i64 (IntKind.wrap .i64 ((k : Int) + ((1 : Nat) : Int))) = .int .i64 ((k + 1 : Nat) : Int))  (hdr : (List.drop ((Int.toNat (k : Int)) * 5) (sgL l)) = sgC s ++ sgL r) (h0 : (Nat.ble (cs.length + 1) 1099511627776) = true) (h1 : (Nat.ble (cs.length * 5) (List.length (sgL cs))) = true) (h2 : (decide (((0 : Nat) : Int) ≤ (((min 25 s.name.length) : Nat) : Int))) = true) (h3 : (decide ((((min 25 s.name.length) : Nat) : Int) ≤ (((List.length s.name) : Nat) : Int))) = true) (h4 : (decide (((0 : Nat) : Int) ≤ (k : Int))) = true) (h5 : (decide ((k : Int) < (l.length : Int))) = true) (h6 : lit true (decide ((k : Int) < ((30 : Nat) : Int))) = true) (h7 : lit true (decide ((k : Int) < (l.length : Int))) = true)  : ExecOk prog ap [] nt (loopBody 0 (bodyOf f3)) ⟨[(0, .sl (sgL l) l.length nl), (1, .sl (ndL ns) ns.length nn), (5, .bool true), (6, .ref 0 0 0 cs.length), (7, .int .i64 (k : Int))], [(0, ⟨(sgL cs), 0, false, 0, 5, true⟩)], .dead, []⟩ (.normal) ⟨[(0, .sl (sgL l) l.length nl), (1, .sl (ndL ns) ns.length nn), (5, .bool true), (6, .ref 0 0 0 (cs.length + 1)), (7, .int .i64 (((k + 1) : Nat) : Int))], [(0, ⟨(sgL (cs ++ [cutSg s])), 0, false, 0, 5, true⟩)], .dead, []⟩ := pN 3 [] 2 3 (.k 1 h0 (.c h1 (.k 8 h2 (.c h3 (.k 8 h4 (.c h5 (.c h6 (.c h7 .nil)))))))) (.v 19 (.eq hw) (.b 35 (sg_snoc cs s) (.v 30 (.eq (cut_e 25 s.name)) (.v 29 (.eq (min_e 25 s.name)) (.v 22 (.ppt hdr) .nil))))) hn
theorem cgC_1 {nt : Nat} (hn : 51 ≤ nt) (l cs : List Sg) (ns : List Nd) (nl nn : Bool) (k : Nat)   (h0 : lit false (decide ((k : Int) < ((30 : Nat) : Int))) = true) (h1 : lit true (decide ((k : Int) < (l.length : Int))) = true)  : ExecOk prog ap [] nt (loopBody 0 (bodyOf f3)) ⟨[(0, .sl (sgL l) l.length nl), (1, .sl (ndL ns) ns.length nn), (5, .bool true), (6, .ref 0 0 0 cs.length), (7, .int .i64 (k : Int))], [(0, ⟨(sgL cs), 0, false, 0, 5, true⟩)], .dead, []⟩ (.exit 0) ⟨[(1, .sl (ndL ns) ns.length nn), (5, .bool true), (6, .ref 0 0 0 cs.length)], [(0, ⟨(sgL cs), 0, false, 0, 5, true⟩)], .dead, []⟩ := pN 3 [] 2 1 (.c h0 (.c h1 .nil)) (.nil) hn
theorem cgC_2 {nt : Nat} (hn : 51 ≤ nt) (l cs : List Sg) (ns : List Nd) (nl nn : Bool) (k : Nat)   (h0 : lit false (decide ((k : Int) < (l.length : Int))) = true)  : ExecOk prog ap [] nt (loopBody 0 (bodyOf f3)) ⟨[(0, .sl (sgL l) l.length nl), (1, .sl (ndL ns) ns.length nn), (5, .bool true), (6, .ref 0 0 0 cs.length), (7, .int .i64 (k : Int))], [(0, ⟨(sgL cs), 0, false, 0, 5, true⟩)], .dead, []⟩ (.exit 0) ⟨[(1, .sl (ndL ns) ns.length nn), (5, .bool true), (6, .ref 0 0 0 cs.length)], [(0, ⟨(sgL cs), 0, false, 0, 5, true⟩)], .dead, []⟩ := pN 3 [] 2 0 (.k 1 h0 .nil) (.nil) hn
def sigsQ : List Sg := [⟨5, [105, 110, 99, 111, 109, 101], ⟨false, 1, 0⟩⟩, ⟨5, [107, 105, 100, 115], ⟨false, 0, 0⟩⟩, ⟨5, [115, 105, 110, 103, 108, 101], ⟨true, 0, 0⟩⟩, ⟨5, [115, 116, 97, 121], ⟨false, 0, 1⟩⟩, ⟨6, [112, 111, 111, 114], ⟨true, 0, 0⟩⟩, ⟨6, [116, 97, 120], ⟨false, 1, 0⟩⟩, ⟨7, [112, 111, 111, 114], ⟨true, 0, 0⟩⟩, ⟨7, [116, 97, 120], ⟨false, 1, 0⟩⟩, ⟨8, [112, 111, 111, 114], ⟨true, 0, 0⟩⟩, ⟨8, [116, 97, 120], ⟨false, 1, 0⟩⟩, ⟨24, [115, 99, 97, 108, 101], ⟨false, 1, 0⟩⟩, ⟨24, [116, 101, 114, 109], ⟨false, 0, 1⟩⟩]
theorem cvF_0 (ns : List Nd) (nn : Bool)  (l0 : LoopOk prog ap [] 55 (.block 0 (.loop (loopBody 0 (bodyOf f13)))) ⟨[(0, .sl (ndL ns) ns.length nn), (2, .nilS), (3, .nilS), (4, .int .i64 0), (5, .dead), (13, .dead)], [], .dead, []⟩ (.normal) ⟨[(3, .nilS)], [], .dead, []⟩) : CO 13 [.sl (ndL ns) ns.length nn] (.ret (.nilS)) := pK [0] 0 0 .nil (.l l0 .nil)
theorem cvG_0 (ns cs : List Nd) (nn : Bool)  (l0 : LoopOk prog ap [] 55 (.block 0 (.loop (loopBody 0 (bodyOf f13)))) ⟨[(0, .sl (ndL ns) ns.length nn), (2, .nilS), (3, .nilS), (4, .int .i64 0), (5, .dead), (13, .dead)], [], .dead, []⟩ (.normal) ⟨[(3, .ref 0 0 0 cs.length)], [(0, ⟨(ndL cs), 0, false, 0, 5, true⟩)], .dead, []⟩) : CO 13 [.sl (ndL ns) ns.length nn] (.ret (.own (List.take (cs.length * 5) (ndL cs)) cs.length 5)) := pK [0] 0 0 .nil (.l l0 .nil)
theorem sg_app (own : List Sg) : List.take (own.length * 5) (sgL own) ++ (List.take (12 * 5) (List.drop (0 * 5) (sgL sigsQ))) = sgL (own ++ sigsQ) := by
 rw [List.take_of_length_le (by rw [sgL_len]; omega), sgL_app]; rfl
theorem rwZ_0 (l cl : List Sg) (ns cs : List Nd) (nl nn : Bool) (h0 : (Nat.beq (List.length (List.take 60 (sgL sigsQ))) 60) = true) (c0 : CO 11 [] (.ret (.bool true))) (l0 : LoopOk prog ap [] 51 (.block 0 (.loop (loopBody 0 (bodyOf f3)))) ⟨[(0, .sl (sgL l) l.length nl), (1, .sl (ndL ns) ns.length nn), (4, .bool false), (5, .bool true), (6, .nilS), (7, .int .i64 0), (8, .dead), (17, .dead)], [], .dead, []⟩ (.normal) ⟨[(1, .sl (ndL ns) ns.length nn), (5, .bool true), (6, .nilS)], [], .dead, []⟩) (c1 : CO 13 [.sl (ndL ns) ns.length nn] (.ret (.sl (ndL cs) cs.length false))) (c2 : CO 12 [.nilS, .sl (ndL cs) cs.length false] (.ret (.bool true))) (c3 : CO 14 [] (.ret (.own (sgL sigsQ) 12 5))) (c4 : CO 13 [.sl (ndL ns) ns.length nn] (.ret (.sl (ndL cs) cs.length false))) (c5 : CO 12 [.sl (List.take 60 (List.take 60 (sgL sigsQ))) 12 true, .sl (ndL cs) cs.length false] (.ret (.bool true))) : CO 3 [.sl (sgL l) l.length nl, .sl (ndL ns) ns.length nn] (.ret (.bool true)) := pK [0] 3 3 (.c h0 (.n 4 .nil)) (.c c5 (.c c4 (.c c3 (.c c2 (.c c1 (.l l0 (.c c0 .nil)))))))
theorem rwC_0 (l cl : List Sg) (ns cs : List Nd) (nl nn : Bool) (h0 : (Nat.beq (List.length (List.take 60 (sgL sigsQ))) 60) = true) (h1 : (Nat.ble (cl.length + 12) 1099511627776) = true) (h2 : (Nat.ble (cl.length * 5) (List.length (sgL cl))) = true) (h3 : (Nat.ble (List.length (sgL cl)) (cl.length * 5)) = true) (c0 : CO 11 [] (.ret (.bool true))) (l0 : LoopOk prog ap [] 51 (.block 0 (.loop (loopBody 0 (bodyOf f3)))) ⟨[(0, .sl (sgL l) l.length nl), (1, .sl (ndL ns) ns.length nn), (4, .bool false), (5, .bool true), (6, .nilS), (7, .int .i64 0), (8, .dead), (17, .dead)], [], .dead, []⟩ (.normal) ⟨[(1, .sl (ndL ns) ns.length nn), (5, .bool true), (6, .ref 0 0 0 cl.length)], [(0, ⟨(sgL cl), 0, false, 0, 5, true⟩)], .dead, []⟩) (c1 : CO 13 [.sl (ndL ns) ns.length nn] (.ret (.sl (ndL cs) cs.length false))) (c2 : CO 12 [.sl (List.take (cl.length * 5) (sgL cl)) cl.length true, .sl (ndL cs) cs.length false] (.ret (.bool true))) (c3 : CO 14 [] (.ret (.own (sgL sigsQ) 12 5))) (c4 : CO 13 [.sl (ndL ns) ns.length nn] (.ret (.sl (ndL cs) cs.length false))) (c5 : CO 12 [.sl (List.take ((cl.length + 12) * 5) (sgL (cl ++ sigsQ))) (cl.length + 12) true, .sl (ndL cs) cs.length false] (.ret (.bool true))) : CO 3 [.sl (sgL l) l.length nl, .sl (ndL ns) ns.length nn] (.ret (.bool true)) := pK [0] 2 3 (.c h0 (.c h1 (.c h2 (.c h3 (.n 2 .nil))))) (.c c5 (.c c4 (.b 46 (sg_app cl) (.c c3 (.c c2 (.c c1 (.l l0 (.c c0 .nil))))))))
theorem sm_all {ns : List Nd} (h : ns.all (fun x => Nat.ble (x.num.length + 1) 8589934592 && Nat.ble (x.den.length + 1) 8589934592) = true) : ∀ x ∈ ns, x.sm := by
 intro x hx
 have := List.all_eq_true.1 h x hx
 rw [Bool.and_eq_true] at this
 exact ⟨Nat.le_of_ble_eq_true this.1, Nat.le_of_ble_eq_true this.2⟩
theorem toK {p q : Prop} (h : p) (e : p = q) : q := e ▸ h
def saSg0 : List Sg := [⟨5, [105, 110, 99, 111, 109, 101], ⟨false, 1, 0⟩⟩, ⟨5, [115, 116, 97, 121], ⟨false, 0, 1⟩⟩, ⟨6, [112, 111, 111, 114], ⟨true, 0, 0⟩⟩, ⟨24, [115, 99, 97, 108, 101], ⟨false, 1, 0⟩⟩]
def saNd1 : List Nd := [⟨5, false, [], [], [105, 110, 99, 111, 109, 101]⟩, ⟨3, false, [1], [10], []⟩, ⟨11, false, [], [], []⟩]
def saNd2 : List Nd := [⟨5, false, [], [], [105, 110, 99, 111, 109, 101]⟩, ⟨5, false, [], [], [115, 116, 97, 121]⟩, ⟨12, false, [], [], []⟩]
def saNd3 : List Nd := [⟨6, false, [], [], [112, 111, 111, 114]⟩, ⟨1, false, [], [1], []⟩, ⟨5, false, [], [], [105, 110, 99, 111, 109, 101]⟩, ⟨24, false, [], [], [115, 99, 97, 108, 101]⟩, ⟨15, false, [], [], []⟩]
def saNd4 : List Nd := [⟨5, false, [], [], [105, 110, 99, 111, 109, 101]⟩, ⟨3, false, [5], [1], []⟩, ⟨9, false, [], [], []⟩]
def saNd5 : List Nd := [⟨6, false, [], [], [112, 111, 111, 114]⟩, ⟨3, false, [1], [1], []⟩, ⟨18, false, [], [], []⟩]
def saNd6 : List Nd := [⟨5, false, [], [], [115, 116, 97, 121]⟩, ⟨24, false, [], [], [115, 99, 97, 108, 101]⟩]
def saNd7 : List Nd := [⟨5, false, [], [], [112, 111, 111, 114]⟩]
def saNd8 : List Nd := [⟨5, false, [], [], [110, 111, 110, 101]⟩, ⟨5, false, [], [], [115, 116, 97, 121]⟩, ⟨9, false, [], [], []⟩]
def saNd9 : List Nd := [⟨6, false, [], [], [112, 111, 111, 114]⟩, ⟨4, false, [1], [1], []⟩, ⟨17, false, [], [], []⟩]
def saNd10 : List Nd := [⟨2, false, [1], [1], []⟩, ⟨2, false, [2], [1], []⟩, ⟨16, false, [], [], []⟩]
theorem k0 : CO 26 [.int .i64 1, .int .i64 0] (.ret (.agg [.bool false, .int .i64 1, .int .i64 0])) := cK (.nil)
theorem k1 : CO 25 [] (.ret (.agg [.bool true, .int .i64 0, .int .i64 0])) := cK (.nil)
theorem k2 : CO 24 [.int .i64 5, .str [105, 110, 99, 111, 109, 101]] (.ret (.agg [.int .i64 5, .bool false, .str [], .str [], .str [105, 110, 99, 111, 109, 101]])) := cK (.nil)
theorem k3 : CO 24 [.int .i64 5, .str [115, 116, 97, 121]] (.ret (.agg [.int .i64 5, .bool false, .str [], .str [], .str [115, 116, 97, 121]])) := cK (.nil)
theorem k4 : CO 24 [.int .i64 6, .str [112, 111, 111, 114]] (.ret (.agg [.int .i64 6, .bool false, .str [], .str [], .str [112, 111, 111, 114]])) := cK (.nil)
theorem k5 : CO 24 [.int .i64 24, .str [115, 99, 97, 108, 101]] (.ret (.agg [.int .i64 24, .bool false, .str [], .str [], .str [115, 99, 97, 108, 101]])) := cK (.nil)
theorem k6 : CO 26 [.int .i64 0, .int .i64 1] (.ret (.agg [.bool false, .int .i64 0, .int .i64 1])) := cK (.nil)
theorem k7 : CO 61 [.str [0, 0, 0, 0, 0, 0, 0, 1]] (.ret (.str [1])) := cK (.nil)
theorem k8 : CO 39 [.int .i64 1] (.ret (.str [1])) := cK (.c k7 .nil)
theorem k9 : CO 19 [.int .i64 1] (.ret (.agg [.bool false, .str [1], .str [1]])) := cK (.c k8 (.c k8 .nil))
theorem k10 : CO 61 [.str [0, 0, 0, 0, 0, 0, 0, 10]] (.ret (.str [10])) := cK (.nil)
theorem k11 : CO 39 [.int .i64 10] (.ret (.str [10])) := cK (.c k10 .nil)
theorem k12 : CO 19 [.int .i64 10] (.ret (.agg [.bool false, .str [10], .str [1]])) := cK (.c k8 (.c k11 .nil))
theorem k13 : CO 102 [.str [1]] (.ret (.bool true)) := cK (.nil)
theorem k14 : CO 61 [.str [1]] (.ret (.str [1])) := cK (.nil)
theorem k15 : CO 94 [.str [1]] (.ret (.tup [.int .i64 1, .bool true])) := cK (.c k14 .nil)
theorem k16 : CO 62 [.str [1], .int .i64 7] (.ret (.tup [.int .i64 1, .bool true])) := cK (.c k15 (.c k14 .nil))
theorem k17 : CO 61 [.str []] (.ret (.str [])) := cK (.nil)
theorem k18 : CO 39 [.int .i64 0] (.ret (.str [])) := cK (.c k17 .nil)
theorem k19 : CO 105 [.str [1], .str [1]] (.ret (.tup [.str [1], .str [], .bool true])) := cK (.c k18 (.c k8 (.c k16 (.c k16 (.c k14 .nil)))))
theorem k20 : CO 104 [.str [1], .str [1]] (.ret (.str [1])) := cK (.c k19 (.c k14 (.c k14 .nil)))
theorem k21 : CO 103 [.str [1], .str [1]] (.ret (.int .i64 0)) := cK (.c k14 (.c k14 .nil))
theorem k22 : CO 69 [.agg [.bool false, .str [1], .str [1]]] (.ret (.bool true)) := cK (.c k21 (.c k8 (.c k20 (.c k13 (.c k13 .nil)))))
theorem k23 : CO 71 [.agg [.bool false, .str [1], .str [1]]] (.ret (.agg [.bool false, .str [1], .str [1]])) := cK (.c k22 .nil)
theorem k24 : CO 102 [.str [10]] (.ret (.bool true)) := cK (.nil)
theorem k25 : CO 61 [.str [10]] (.ret (.str [10])) := cK (.nil)
theorem k26 : CO 94 [.str [10]] (.ret (.tup [.int .i64 10, .bool true])) := cK (.c k25 .nil)
theorem k27 : CO 62 [.str [10], .int .i64 7] (.ret (.tup [.int .i64 10, .bool true])) := cK (.c k26 (.c k25 .nil))
theorem k28 : CO 105 [.str [10], .str [1]] (.ret (.tup [.str [10], .str [], .bool true])) := cK (.c k18 (.c k11 (.c k16 (.c k27 (.c k14 .nil)))))
theorem k29 : CO 104 [.str [10], .str [1]] (.ret (.str [1])) := cK (.c k28 (.c k14 (.c k25 .nil)))
theorem k30 : CO 69 [.agg [.bool false, .str [10], .str [1]]] (.ret (.bool true)) := cK (.c k21 (.c k8 (.c k29 (.c k13 (.c k24 .nil)))))
theorem k31 : CO 71 [.agg [.bool false, .str [10], .str [1]]] (.ret (.agg [.bool false, .str [10], .str [1]])) := cK (.c k30 .nil)
theorem k32 : CO 62 [.str [1], .int .i64 3] (.ret (.tup [.int .i64 1, .bool true])) := cK (.c k15 (.c k14 .nil))
theorem k33 : CO 62 [.str [1], .int .i64 4] (.ret (.tup [.int .i64 1, .bool true])) := cK (.c k15 (.c k14 .nil))
theorem k34 : CO 73 [.str [1], .str [1]] (.ret (.str [1])) := cK (.c k8 (.c k33 (.c k32 .nil)))
theorem k35 : CO 62 [.str [10], .int .i64 4] (.ret (.tup [.int .i64 10, .bool true])) := cK (.c k26 (.c k25 .nil))
theorem k36 : CO 73 [.str [1], .str [10]] (.ret (.str [10])) := cK (.c k11 (.c k35 (.c k32 .nil)))
theorem k37 : CO 105 [.str [1], .str [10]] (.ret (.tup [.str [], .str [1], .bool true])) := cK (.c k8 (.c k18 (.c k27 (.c k16 (.c k25 .nil)))))
theorem k38 : CO 104 [.str [1], .str [10]] (.ret (.str [1])) := cK (.c k28 (.c k37 (.c k25 (.c k14 .nil))))
theorem k39 : CO 72 [.bool false, .str [1], .str [10]] (.ret (.agg [.bool false, .str [1], .str [10]])) := cK (.c k28 (.c k19 (.c k38 .nil)))
theorem k40 : CO 46 [.agg [.bool false, .str [1], .str [1]], .agg [.bool false, .str [10], .str [1]]] (.ret (.tup [.agg [.bool false, .str [1], .str [10]], .bool true])) := cK (.c k39 (.c k36 (.c k34 (.c k31 (.c k23 .nil)))))
theorem k41 : CO 27 [.int .i64 3, .int .i64 1, .int .i64 10] (.ret (.agg [.int .i64 3, .bool false, .str [1], .str [10], .str []])) := cK (.c k40 (.c k12 (.c k9 .nil)))
theorem k42 : CO 24 [.int .i64 11, .str []] (.ret (.agg [.int .i64 11, .bool false, .str [], .str [], .str []])) := cK (.nil)
theorem k43 : CO 35 [.sl [.int .i64 5, .str [105, 110, 99, 111, 109, 101], .bool false, .int .i64 1, .int .i64 0, .int .i64 5, .str [115, 116, 97, 121], .bool false, .int .i64 0, .int .i64 1, .int .i64 6, .str [112, 111, 111, 114], .bool true, .int .i64 0, .int .i64 0, .int .i64 24, .str [115, 99, 97, 108, 101], .bool false, .int .i64 1, .int .i64 0] 4 true, .sl [.int .i64 5, .bool false, .str [], .str [], .str [105, 110, 99, 111, 109, 101], .int .i64 3, .bool false, .str [1], .str [10], .str [], .int .i64 11, .bool false, .str [], .str [], .str []] 3 true] (.ret (.tup [.agg [.bool false, .int .i64 1, .int .i64 0], .int .i64 0])) := toK (ctype_ok saSg0 saNd1 true true (by decide) (sm_all (by kernel_rfl))) (by kernel_rfl)
theorem k44 : CO 17 [.sl [.int .i64 5, .str [105, 110, 99, 111, 109, 101], .bool false, .int .i64 1, .int .i64 0, .int .i64 5, .str [115, 116, 97, 121], .bool false, .int .i64 0, .int .i64 1, .int .i64 6, .str [112, 111, 111, 114], .bool true, .int .i64 0, .int .i64 0, .int .i64 24, .str [115, 99, 97, 108, 101], .bool false, .int .i64 1, .int .i64 0] 4 true, .sl [.int .i64 5, .bool false, .str [], .str [], .str [105, 110, 99, 111, 109, 101], .int .i64 3, .bool false, .str [1], .str [10], .str [], .int .i64 11, .bool false, .str [], .str [], .str []] 3 true, .agg [.bool false, .int .i64 1, .int .i64 0]] (.ret (.bool true)) := cK (.c k43 .nil)
theorem k45 : CO 24 [.int .i64 12, .str []] (.ret (.agg [.int .i64 12, .bool false, .str [], .str [], .str []])) := cK (.nil)
theorem k46 : CO 26 [.int .i64 1, .int .i64 (-1)] (.ret (.agg [.bool false, .int .i64 1, .int .i64 (-1)])) := cK (.nil)
theorem k47 : CO 35 [.sl [.int .i64 5, .str [105, 110, 99, 111, 109, 101], .bool false, .int .i64 1, .int .i64 0, .int .i64 5, .str [115, 116, 97, 121], .bool false, .int .i64 0, .int .i64 1, .int .i64 6, .str [112, 111, 111, 114], .bool true, .int .i64 0, .int .i64 0, .int .i64 24, .str [115, 99, 97, 108, 101], .bool false, .int .i64 1, .int .i64 0] 4 true, .sl [.int .i64 5, .bool false, .str [], .str [], .str [105, 110, 99, 111, 109, 101], .int .i64 5, .bool false, .str [], .str [], .str [115, 116, 97, 121], .int .i64 12, .bool false, .str [], .str [], .str []] 3 true] (.ret (.tup [.agg [.bool false, .int .i64 1, .int .i64 (-1)], .int .i64 0])) := toK (ctype_ok saSg0 saNd2 true true (by decide) (sm_all (by kernel_rfl))) (by kernel_rfl)
theorem k48 : CO 17 [.sl [.int .i64 5, .str [105, 110, 99, 111, 109, 101], .bool false, .int .i64 1, .int .i64 0, .int .i64 5, .str [115, 116, 97, 121], .bool false, .int .i64 0, .int .i64 1, .int .i64 6, .str [112, 111, 111, 114], .bool true, .int .i64 0, .int .i64 0, .int .i64 24, .str [115, 99, 97, 108, 101], .bool false, .int .i64 1, .int .i64 0] 4 true, .sl [.int .i64 5, .bool false, .str [], .str [], .str [105, 110, 99, 111, 109, 101], .int .i64 5, .bool false, .str [], .str [], .str [115, 116, 97, 121], .int .i64 12, .bool false, .str [], .str [], .str []] 3 true, .agg [.bool false, .int .i64 1, .int .i64 (-1)]] (.ret (.bool true)) := cK (.c k47 .nil)
theorem k49 : CO 19 [.int .i64 0] (.ret (.agg [.bool false, .str [], .str [1]])) := cK (.c k8 (.c k18 .nil))
theorem k50 : CO 102 [.str []] (.ret (.bool true)) := cK (.nil)
theorem k51 : CO 69 [.agg [.bool false, .str [], .str [1]]] (.ret (.bool true)) := cK (.c k21 (.c k8 (.c k13 (.c k50 .nil))))
theorem k52 : CO 71 [.agg [.bool false, .str [], .str [1]]] (.ret (.agg [.bool false, .str [], .str [1]])) := cK (.c k51 .nil)
theorem k53 : CO 94 [.str []] (.ret (.tup [.int .i64 0, .bool true])) := cK (.c k17 .nil)
theorem k54 : CO 62 [.str [], .int .i64 3] (.ret (.tup [.int .i64 0, .bool true])) := cK (.c k53 (.c k17 .nil))
theorem k55 : CO 73 [.str [], .str [1]] (.ret (.str [])) := cK (.c k18 (.c k33 (.c k54 .nil)))
theorem k56 : CO 72 [.bool false, .str [], .str [1]] (.ret (.agg [.bool false, .str [], .str [1]])) := cK (.c k8 .nil)
theorem k57 : CO 46 [.agg [.bool false, .str [], .str [1]], .agg [.bool false, .str [1], .str [1]]] (.ret (.tup [.agg [.bool false, .str [], .str [1]], .bool true])) := cK (.c k56 (.c k34 (.c k55 (.c k23 (.c k52 .nil)))))
theorem k58 : CO 27 [.int .i64 1, .int .i64 0, .int .i64 1] (.ret (.agg [.int .i64 1, .bool false, .str [], .str [1], .str []])) := cK (.c k57 (.c k9 (.c k49 .nil)))
theorem k59 : CO 24 [.int .i64 15, .str []] (.ret (.agg [.int .i64 15, .bool false, .str [], .str [], .str []])) := cK (.nil)
theorem k60 : CO 35 [.sl [.int .i64 5, .str [105, 110, 99, 111, 109, 101], .bool false, .int .i64 1, .int .i64 0, .int .i64 5, .str [115, 116, 97, 121], .bool false, .int .i64 0, .int .i64 1, .int .i64 6, .str [112, 111, 111, 114], .bool true, .int .i64 0, .int .i64 0, .int .i64 24, .str [115, 99, 97, 108, 101], .bool false, .int .i64 1, .int .i64 0] 4 true, .sl [.int .i64 6, .bool false, .str [], .str [], .str [112, 111, 111, 114], .int .i64 1, .bool false, .str [], .str [1], .str [], .int .i64 5, .bool false, .str [], .str [], .str [105, 110, 99, 111, 109, 101], .int .i64 24, .bool false, .str [], .str [], .str [115, 99, 97, 108, 101], .int .i64 15, .bool false, .str [], .str [], .str []] 5 true] (.ret (.tup [.agg [.bool false, .int .i64 1, .int .i64 0], .int .i64 0])) := toK (ctype_ok saSg0 saNd3 true true (by decide) (sm_all (by kernel_rfl))) (by kernel_rfl)
theorem k61 : CO 17 [.sl [.int .i64 5, .str [105, 110, 99, 111, 109, 101], .bool false, .int .i64 1, .int .i64 0, .int .i64 5, .str [115, 116, 97, 121], .bool false, .int .i64 0, .int .i64 1, .int .i64 6, .str [112, 111, 111, 114], .bool true, .int .i64 0, .int .i64 0, .int .i64 24, .str [115, 99, 97, 108, 101], .bool false, .int .i64 1, .int .i64 0] 4 true, .sl [.int .i64 6, .bool false, .str [], .str [], .str [112, 111, 111, 114], .int .i64 1, .bool false, .str [], .str [1], .str [], .int .i64 5, .bool false, .str [], .str [], .str [105, 110, 99, 111, 109, 101], .int .i64 24, .bool false, .str [], .str [], .str [115, 99, 97, 108, 101], .int .i64 15, .bool false, .str [], .str [], .str []] 5 true, .agg [.bool false, .int .i64 1, .int .i64 0]] (.ret (.bool true)) := cK (.c k60 .nil)
theorem k62 : CO 61 [.str [0, 0, 0, 0, 0, 0, 0, 5]] (.ret (.str [5])) := cK (.nil)
theorem k63 : CO 39 [.int .i64 5] (.ret (.str [5])) := cK (.c k62 .nil)
theorem k64 : CO 19 [.int .i64 5] (.ret (.agg [.bool false, .str [5], .str [1]])) := cK (.c k8 (.c k63 .nil))
theorem k65 : CO 102 [.str [5]] (.ret (.bool true)) := cK (.nil)
theorem k66 : CO 61 [.str [5]] (.ret (.str [5])) := cK (.nil)
theorem k67 : CO 94 [.str [5]] (.ret (.tup [.int .i64 5, .bool true])) := cK (.c k66 .nil)
theorem k68 : CO 62 [.str [5], .int .i64 7] (.ret (.tup [.int .i64 5, .bool true])) := cK (.c k67 (.c k66 .nil))
theorem k69 : CO 105 [.str [5], .str [1]] (.ret (.tup [.str [5], .str [], .bool true])) := cK (.c k18 (.c k63 (.c k16 (.c k68 (.c k14 .nil)))))
theorem k70 : CO 104 [.str [5], .str [1]] (.ret (.str [1])) := cK (.c k69 (.c k14 (.c k66 .nil)))
theorem k71 : CO 69 [.agg [.bool false, .str [5], .str [1]]] (.ret (.bool true)) := cK (.c k21 (.c k8 (.c k70 (.c k13 (.c k65 .nil)))))
theorem k72 : CO 71 [.agg [.bool false, .str [5], .str [1]]] (.ret (.agg [.bool false, .str [5], .str [1]])) := cK (.c k71 .nil)
theorem k73 : CO 62 [.str [5], .int .i64 3] (.ret (.tup [.int .i64 5, .bool true])) := cK (.c k67 (.c k66 .nil))
theorem k74 : CO 73 [.str [5], .str [1]] (.ret (.str [5])) := cK (.c k63 (.c k33 (.c k73 .nil)))
theorem k75 : CO 72 [.bool false, .str [5], .str [1]] (.ret (.agg [.bool false, .str [5], .str [1]])) := cK (.c k19 (.c k69 (.c k70 .nil)))
theorem k76 : CO 46 [.agg [.bool false, .str [5], .str [1]], .agg [.bool false, .str [1], .str [1]]] (.ret (.tup [.agg [.bool false, .str [5], .str [1]], .bool true])) := cK (.c k75 (.c k34 (.c k74 (.c k23 (.c k72 .nil)))))
theorem k77 : CO 27 [.int .i64 3, .int .i64 5, .int .i64 1] (.ret (.agg [.int .i64 3, .bool false, .str [5], .str [1], .str []])) := cK (.c k76 (.c k9 (.c k64 .nil)))
theorem k78 : CO 24 [.int .i64 9, .str []] (.ret (.agg [.int .i64 9, .bool false, .str [], .str [], .str []])) := cK (.nil)
theorem k79 : CO 30 [.sl [.int .i64 5, .str [105, 110, 99, 111, 109, 101], .bool false, .int .i64 1, .int .i64 0, .int .i64 5, .str [115, 116, 97, 121], .bool false, .int .i64 0, .int .i64 1, .int .i64 6, .str [112, 111, 111, 114], .bool true, .int .i64 0, .int .i64 0, .int .i64 24, .str [115, 99, 97, 108, 101], .bool false, .int .i64 1, .int .i64 0] 4 true, .sl [.int .i64 5, .bool false, .str [], .str [], .str [105, 110, 99, 111, 109, 101], .int .i64 3, .bool false, .str [5], .str [1], .str [], .int .i64 9, .bool false, .str [], .str [], .str []] 3 true] (.ret (.tup [.nilS, .int .i64 13])) := toK (ctypes_ok saSg0 saNd4 true true (by decide) (sm_all (by kernel_rfl))) (by kernel_rfl)
theorem k80 : CO 28 [.sl [.int .i64 5, .str [105, 110, 99, 111, 109, 101], .bool false, .int .i64 1, .int .i64 0, .int .i64 5, .str [115, 116, 97, 121], .bool false, .int .i64 0, .int .i64 1, .int .i64 6, .str [112, 111, 111, 114], .bool true, .int .i64 0, .int .i64 0, .int .i64 24, .str [115, 99, 97, 108, 101], .bool false, .int .i64 1, .int .i64 0] 4 true, .sl [.int .i64 5, .bool false, .str [], .str [], .str [105, 110, 99, 111, 109, 101], .int .i64 3, .bool false, .str [5], .str [1], .str [], .int .i64 9, .bool false, .str [], .str [], .str []] 3 true, .int .i64 13] (.ret (.bool true)) := cK (.c k79 .nil)
theorem k81 : CO 72 [.bool false, .str [1], .str [1]] (.ret (.agg [.bool false, .str [1], .str [1]])) := cK (.c k19 (.c k19 (.c k20 .nil)))
theorem k82 : CO 46 [.agg [.bool false, .str [1], .str [1]], .agg [.bool false, .str [1], .str [1]]] (.ret (.tup [.agg [.bool false, .str [1], .str [1]], .bool true])) := cK (.c k81 (.c k34 (.c k34 (.c k23 (.c k23 .nil)))))
theorem k83 : CO 27 [.int .i64 3, .int .i64 1, .int .i64 1] (.ret (.agg [.int .i64 3, .bool false, .str [1], .str [1], .str []])) := cK (.c k82 (.c k9 (.c k9 .nil)))
theorem k84 : CO 24 [.int .i64 18, .str []] (.ret (.agg [.int .i64 18, .bool false, .str [], .str [], .str []])) := cK (.nil)
theorem k85 : CO 30 [.sl [.int .i64 5, .str [105, 110, 99, 111, 109, 101], .bool false, .int .i64 1, .int .i64 0, .int .i64 5, .str [115, 116, 97, 121], .bool false, .int .i64 0, .int .i64 1, .int .i64 6, .str [112, 111, 111, 114], .bool true, .int .i64 0, .int .i64 0, .int .i64 24, .str [115, 99, 97, 108, 101], .bool false, .int .i64 1, .int .i64 0] 4 true, .sl [.int .i64 6, .bool false, .str [], .str [], .str [112, 111, 111, 114], .int .i64 3, .bool false, .str [1], .str [1], .str [], .int .i64 18, .bool false, .str [], .str [], .str []] 3 true] (.ret (.tup [.nilS, .int .i64 13])) := toK (ctypes_ok saSg0 saNd5 true true (by decide) (sm_all (by kernel_rfl))) (by kernel_rfl)
theorem k86 : CO 28 [.sl [.int .i64 5, .str [105, 110, 99, 111, 109, 101], .bool false, .int .i64 1, .int .i64 0, .int .i64 5, .str [115, 116, 97, 121], .bool false, .int .i64 0, .int .i64 1, .int .i64 6, .str [112, 111, 111, 114], .bool true, .int .i64 0, .int .i64 0, .int .i64 24, .str [115, 99, 97, 108, 101], .bool false, .int .i64 1, .int .i64 0] 4 true, .sl [.int .i64 6, .bool false, .str [], .str [], .str [112, 111, 111, 114], .int .i64 3, .bool false, .str [1], .str [1], .str [], .int .i64 18, .bool false, .str [], .str [], .str []] 3 true, .int .i64 13] (.ret (.bool true)) := cK (.c k85 .nil)
theorem k87 : CO 30 [.sl [.int .i64 5, .str [105, 110, 99, 111, 109, 101], .bool false, .int .i64 1, .int .i64 0, .int .i64 5, .str [115, 116, 97, 121], .bool false, .int .i64 0, .int .i64 1, .int .i64 6, .str [112, 111, 111, 114], .bool true, .int .i64 0, .int .i64 0, .int .i64 24, .str [115, 99, 97, 108, 101], .bool false, .int .i64 1, .int .i64 0] 4 true, .sl [.int .i64 5, .bool false, .str [], .str [], .str [115, 116, 97, 121], .int .i64 24, .bool false, .str [], .str [], .str [115, 99, 97, 108, 101]] 2 true] (.ret (.tup [.nilS, .int .i64 13])) := toK (ctypes_ok saSg0 saNd6 true true (by decide) (sm_all (by kernel_rfl))) (by kernel_rfl)
theorem k88 : CO 28 [.sl [.int .i64 5, .str [105, 110, 99, 111, 109, 101], .bool false, .int .i64 1, .int .i64 0, .int .i64 5, .str [115, 116, 97, 121], .bool false, .int .i64 0, .int .i64 1, .int .i64 6, .str [112, 111, 111, 114], .bool true, .int .i64 0, .int .i64 0, .int .i64 24, .str [115, 99, 97, 108, 101], .bool false, .int .i64 1, .int .i64 0] 4 true, .sl [.int .i64 5, .bool false, .str [], .str [], .str [115, 116, 97, 121], .int .i64 24, .bool false, .str [], .str [], .str [115, 99, 97, 108, 101]] 2 true, .int .i64 13] (.ret (.bool true)) := cK (.c k87 .nil)
theorem k89 : CO 24 [.int .i64 5, .str [112, 111, 111, 114]] (.ret (.agg [.int .i64 5, .bool false, .str [], .str [], .str [112, 111, 111, 114]])) := cK (.nil)
theorem k90 : CO 30 [.sl [.int .i64 5, .str [105, 110, 99, 111, 109, 101], .bool false, .int .i64 1, .int .i64 0, .int .i64 5, .str [115, 116, 97, 121], .bool false, .int .i64 0, .int .i64 1, .int .i64 6, .str [112, 111, 111, 114], .bool true, .int .i64 0, .int .i64 0, .int .i64 24, .str [115, 99, 97, 108, 101], .bool false, .int .i64 1, .int .i64 0] 4 true, .sl [.int .i64 5, .bool false, .str [], .str [], .str [112, 111, 111, 114]] 1 true] (.ret (.tup [.nilS, .int .i64 12])) := toK (ctypes_ok saSg0 saNd7 true true (by decide) (sm_all (by kernel_rfl))) (by kernel_rfl)
theorem k91 : CO 28 [.sl [.int .i64 5, .str [105, 110, 99, 111, 109, 101], .bool false, .int .i64 1, .int .i64 0, .int .i64 5, .str [115, 116, 97, 121], .bool false, .int .i64 0, .int .i64 1, .int .i64 6, .str [112, 111, 111, 114], .bool true, .int .i64 0, .int .i64 0, .int .i64 24, .str [115, 99, 97, 108, 101], .bool false, .int .i64 1, .int .i64 0] 4 true, .sl [.int .i64 5, .bool false, .str [], .str [], .str [112, 111, 111, 114]] 1 true, .int .i64 12] (.ret (.bool true)) := cK (.c k90 .nil)
theorem k92 : CO 24 [.int .i64 5, .str [110, 111, 110, 101]] (.ret (.agg [.int .i64 5, .bool false, .str [], .str [], .str [110, 111, 110, 101]])) := cK (.nil)
theorem k93 : CO 30 [.sl [.int .i64 5, .str [105, 110, 99, 111, 109, 101], .bool false, .int .i64 1, .int .i64 0, .int .i64 5, .str [115, 116, 97, 121], .bool false, .int .i64 0, .int .i64 1, .int .i64 6, .str [112, 111, 111, 114], .bool true, .int .i64 0, .int .i64 0, .int .i64 24, .str [115, 99, 97, 108, 101], .bool false, .int .i64 1, .int .i64 0] 4 true, .sl [.int .i64 5, .bool false, .str [], .str [], .str [110, 111, 110, 101], .int .i64 5, .bool false, .str [], .str [], .str [115, 116, 97, 121], .int .i64 9, .bool false, .str [], .str [], .str []] 3 true] (.ret (.tup [.nilS, .int .i64 12])) := toK (ctypes_ok saSg0 saNd8 true true (by decide) (sm_all (by kernel_rfl))) (by kernel_rfl)
theorem k94 : CO 28 [.sl [.int .i64 5, .str [105, 110, 99, 111, 109, 101], .bool false, .int .i64 1, .int .i64 0, .int .i64 5, .str [115, 116, 97, 121], .bool false, .int .i64 0, .int .i64 1, .int .i64 6, .str [112, 111, 111, 114], .bool true, .int .i64 0, .int .i64 0, .int .i64 24, .str [115, 99, 97, 108, 101], .bool false, .int .i64 1, .int .i64 0] 4 true, .sl [.int .i64 5, .bool false, .str [], .str [], .str [110, 111, 110, 101], .int .i64 5, .bool false, .str [], .str [], .str [115, 116, 97, 121], .int .i64 9, .bool false, .str [], .str [], .str []] 3 true, .int .i64 12] (.ret (.bool true)) := cK (.c k93 .nil)
theorem k95 : CO 27 [.int .i64 4, .int .i64 1, .int .i64 1] (.ret (.agg [.int .i64 4, .bool false, .str [1], .str [1], .str []])) := cK (.c k82 (.c k9 (.c k9 .nil)))
theorem k96 : CO 24 [.int .i64 17, .str []] (.ret (.agg [.int .i64 17, .bool false, .str [], .str [], .str []])) := cK (.nil)
theorem k97 : CO 35 [.sl [.int .i64 5, .str [105, 110, 99, 111, 109, 101], .bool false, .int .i64 1, .int .i64 0, .int .i64 5, .str [115, 116, 97, 121], .bool false, .int .i64 0, .int .i64 1, .int .i64 6, .str [112, 111, 111, 114], .bool true, .int .i64 0, .int .i64 0, .int .i64 24, .str [115, 99, 97, 108, 101], .bool false, .int .i64 1, .int .i64 0] 4 true, .sl [.int .i64 6, .bool false, .str [], .str [], .str [112, 111, 111, 114], .int .i64 4, .bool false, .str [1], .str [1], .str [], .int .i64 17, .bool false, .str [], .str [], .str []] 3 true] (.ret (.tup [.agg [.bool true, .int .i64 0, .int .i64 0], .int .i64 0])) := toK (ctype_ok saSg0 saNd9 true true (by decide) (sm_all (by kernel_rfl))) (by kernel_rfl)
theorem k98 : CO 17 [.sl [.int .i64 5, .str [105, 110, 99, 111, 109, 101], .bool false, .int .i64 1, .int .i64 0, .int .i64 5, .str [115, 116, 97, 121], .bool false, .int .i64 0, .int .i64 1, .int .i64 6, .str [112, 111, 111, 114], .bool true, .int .i64 0, .int .i64 0, .int .i64 24, .str [115, 99, 97, 108, 101], .bool false, .int .i64 1, .int .i64 0] 4 true, .sl [.int .i64 6, .bool false, .str [], .str [], .str [112, 111, 111, 114], .int .i64 4, .bool false, .str [1], .str [1], .str [], .int .i64 17, .bool false, .str [], .str [], .str []] 3 true, .agg [.bool true, .int .i64 0, .int .i64 0]] (.ret (.bool true)) := cK (.c k97 .nil)
theorem k99 : CO 27 [.int .i64 2, .int .i64 1, .int .i64 1] (.ret (.agg [.int .i64 2, .bool false, .str [1], .str [1], .str []])) := cK (.c k82 (.c k9 (.c k9 .nil)))
theorem k100 : CO 61 [.str [0, 0, 0, 0, 0, 0, 0, 2]] (.ret (.str [2])) := cK (.nil)
theorem k101 : CO 39 [.int .i64 2] (.ret (.str [2])) := cK (.c k100 .nil)
theorem k102 : CO 19 [.int .i64 2] (.ret (.agg [.bool false, .str [2], .str [1]])) := cK (.c k8 (.c k101 .nil))
theorem k103 : CO 102 [.str [2]] (.ret (.bool true)) := cK (.nil)
theorem k104 : CO 61 [.str [2]] (.ret (.str [2])) := cK (.nil)
theorem k105 : CO 94 [.str [2]] (.ret (.tup [.int .i64 2, .bool true])) := cK (.c k104 .nil)
theorem k106 : CO 62 [.str [2], .int .i64 7] (.ret (.tup [.int .i64 2, .bool true])) := cK (.c k105 (.c k104 .nil))
theorem k107 : CO 105 [.str [2], .str [1]] (.ret (.tup [.str [2], .str [], .bool true])) := cK (.c k18 (.c k101 (.c k16 (.c k106 (.c k14 .nil)))))
theorem k108 : CO 104 [.str [2], .str [1]] (.ret (.str [1])) := cK (.c k107 (.c k14 (.c k104 .nil)))
theorem k109 : CO 69 [.agg [.bool false, .str [2], .str [1]]] (.ret (.bool true)) := cK (.c k21 (.c k8 (.c k108 (.c k13 (.c k103 .nil)))))
theorem k110 : CO 71 [.agg [.bool false, .str [2], .str [1]]] (.ret (.agg [.bool false, .str [2], .str [1]])) := cK (.c k109 .nil)
theorem k111 : CO 62 [.str [2], .int .i64 3] (.ret (.tup [.int .i64 2, .bool true])) := cK (.c k105 (.c k104 .nil))
theorem k112 : CO 73 [.str [2], .str [1]] (.ret (.str [2])) := cK (.c k101 (.c k33 (.c k111 .nil)))
theorem k113 : CO 72 [.bool false, .str [2], .str [1]] (.ret (.agg [.bool false, .str [2], .str [1]])) := cK (.c k19 (.c k107 (.c k108 .nil)))
theorem k114 : CO 46 [.agg [.bool false, .str [2], .str [1]], .agg [.bool false, .str [1], .str [1]]] (.ret (.tup [.agg [.bool false, .str [2], .str [1]], .bool true])) := cK (.c k113 (.c k34 (.c k112 (.c k23 (.c k110 .nil)))))
theorem k115 : CO 27 [.int .i64 2, .int .i64 2, .int .i64 1] (.ret (.agg [.int .i64 2, .bool false, .str [2], .str [1], .str []])) := cK (.c k114 (.c k9 (.c k102 .nil)))
theorem k116 : CO 24 [.int .i64 16, .str []] (.ret (.agg [.int .i64 16, .bool false, .str [], .str [], .str []])) := cK (.nil)
theorem k117 : CO 35 [.sl [.int .i64 5, .str [105, 110, 99, 111, 109, 101], .bool false, .int .i64 1, .int .i64 0, .int .i64 5, .str [115, 116, 97, 121], .bool false, .int .i64 0, .int .i64 1, .int .i64 6, .str [112, 111, 111, 114], .bool true, .int .i64 0, .int .i64 0, .int .i64 24, .str [115, 99, 97, 108, 101], .bool false, .int .i64 1, .int .i64 0] 4 true, .sl [.int .i64 2, .bool false, .str [1], .str [1], .str [], .int .i64 2, .bool false, .str [2], .str [1], .str [], .int .i64 16, .bool false, .str [], .str [], .str []] 3 true] (.ret (.tup [.agg [.bool true, .int .i64 0, .int .i64 0], .int .i64 0])) := toK (ctype_ok saSg0 saNd10 true true (by decide) (sm_all (by kernel_rfl))) (by kernel_rfl)
theorem k118 : CO 17 [.sl [.int .i64 5, .str [105, 110, 99, 111, 109, 101], .bool false, .int .i64 1, .int .i64 0, .int .i64 5, .str [115, 116, 97, 121], .bool false, .int .i64 0, .int .i64 1, .int .i64 6, .str [112, 111, 111, 114], .bool true, .int .i64 0, .int .i64 0, .int .i64 24, .str [115, 99, 97, 108, 101], .bool false, .int .i64 1, .int .i64 0] 4 true, .sl [.int .i64 2, .bool false, .str [1], .str [1], .str [], .int .i64 2, .bool false, .str [2], .str [1], .str [], .int .i64 16, .bool false, .str [], .str [], .str []] 3 true, .agg [.bool true, .int .i64 0, .int .i64 0]] (.ret (.bool true)) := cK (.c k117 .nil)
theorem k119 : CO 22 [.agg [.bool true, .int .i64 0, .int .i64 0], .agg [.bool false, .str [2], .str [1]]] (.ret (.bool false)) := toK (value_ok ⟨true, 0, 0⟩ false [2] [1] (by decide) (by decide)) (by kernel_rfl)
theorem k120 : CO 22 [.agg [.bool true, .int .i64 0, .int .i64 0], .agg [.bool false, .str [1], .str [1]]] (.ret (.bool true)) := toK (value_ok ⟨true, 0, 0⟩ false [1] [1] (by decide) (by decide)) (by kernel_rfl)
theorem k121 : CO 62 [.str [], .int .i64 7] (.ret (.tup [.int .i64 0, .bool true])) := cK (.c k53 (.c k17 .nil))
theorem k122 : CO 40 [.str [], .str [1]] (.ret (.str [1])) := cK (.c k8 (.c k16 (.c k121 .nil)))
theorem k123 : CO 19 [.int .i64 (-1)] (.ret (.agg [.bool true, .str [1], .str [1]])) := cK (.c k8 (.c k122 (.c k8 (.c k18 .nil))))
theorem k124 : CO 61 [.str [0, 0, 0, 0, 0, 0, 0, 3]] (.ret (.str [3])) := cK (.nil)
theorem k125 : CO 39 [.int .i64 3] (.ret (.str [3])) := cK (.c k124 .nil)
theorem k126 : CO 19 [.int .i64 3] (.ret (.agg [.bool false, .str [3], .str [1]])) := cK (.c k8 (.c k125 .nil))
theorem k127 : CO 69 [.agg [.bool true, .str [1], .str [1]]] (.ret (.bool true)) := cK (.c k21 (.c k8 (.c k20 (.c k13 (.c k13 .nil)))))
theorem k128 : CO 71 [.agg [.bool true, .str [1], .str [1]]] (.ret (.agg [.bool true, .str [1], .str [1]])) := cK (.c k127 .nil)
theorem k129 : CO 102 [.str [3]] (.ret (.bool true)) := cK (.nil)
theorem k130 : CO 61 [.str [3]] (.ret (.str [3])) := cK (.nil)
theorem k131 : CO 94 [.str [3]] (.ret (.tup [.int .i64 3, .bool true])) := cK (.c k130 .nil)
theorem k132 : CO 62 [.str [3], .int .i64 7] (.ret (.tup [.int .i64 3, .bool true])) := cK (.c k131 (.c k130 .nil))
theorem k133 : CO 105 [.str [3], .str [1]] (.ret (.tup [.str [3], .str [], .bool true])) := cK (.c k18 (.c k125 (.c k16 (.c k132 (.c k14 .nil)))))
theorem k134 : CO 104 [.str [3], .str [1]] (.ret (.str [1])) := cK (.c k133 (.c k14 (.c k130 .nil)))
theorem k135 : CO 69 [.agg [.bool false, .str [3], .str [1]]] (.ret (.bool true)) := cK (.c k21 (.c k8 (.c k134 (.c k13 (.c k129 .nil)))))
theorem k136 : CO 71 [.agg [.bool false, .str [3], .str [1]]] (.ret (.agg [.bool false, .str [3], .str [1]])) := cK (.c k135 .nil)
theorem k137 : CO 62 [.str [3], .int .i64 4] (.ret (.tup [.int .i64 3, .bool true])) := cK (.c k131 (.c k130 .nil))
theorem k138 : CO 73 [.str [1], .str [3]] (.ret (.str [3])) := cK (.c k125 (.c k137 (.c k32 .nil)))
theorem k139 : CO 105 [.str [1], .str [3]] (.ret (.tup [.str [], .str [1], .bool true])) := cK (.c k8 (.c k18 (.c k132 (.c k16 (.c k130 .nil)))))
theorem k140 : CO 104 [.str [1], .str [3]] (.ret (.str [1])) := cK (.c k133 (.c k139 (.c k130 (.c k14 .nil))))
theorem k141 : CO 72 [.bool true, .str [1], .str [3]] (.ret (.agg [.bool true, .str [1], .str [3]])) := cK (.c k133 (.c k19 (.c k140 .nil)))
theorem k142 : CO 46 [.agg [.bool true, .str [1], .str [1]], .agg [.bool false, .str [3], .str [1]]] (.ret (.tup [.agg [.bool true, .str [1], .str [3]], .bool true])) := cK (.c k141 (.c k138 (.c k34 (.c k136 (.c k128 .nil)))))
theorem k143 : CO 27 [.int .i64 1, .int .i64 (-1), .int .i64 3] (.ret (.agg [.int .i64 1, .bool true, .str [1], .str [3], .str []])) := cK (.c k142 (.c k126 (.c k123 .nil)))
theorem k144 : CO 22 [.agg [.bool false, .int .i64 1, .int .i64 0], .agg [.bool true, .str [1], .str [3]]] (.ret (.bool true)) := toK (value_ok ⟨false, 1, 0⟩ true [1] [3] (by decide) (by decide)) (by kernel_rfl)
theorem k145 : CO 20 [.agg [.int .i64 (-3), .int .i64 3]] (.ret (.bool true)) := toK (unit_ok ⟨false, (-3), 3⟩) (by kernel_rfl)
theorem k146 : CO 20 [.agg [.int .i64 4, .int .i64 0]] (.ret (.bool false)) := toK (unit_ok ⟨false, 4, 0⟩) (by kernel_rfl)
theorem k147 : CO 11 [] (.ret (.bool true)) := cK (.c k146 (.c k145 (.c k144 (.c k143 (.c k120 (.c k9 (.c k119 (.c k102 (.c k118 (.c k116 (.c k115 (.c k99 (.c k98 (.c k96 (.c k95 (.c k94 (.c k78 (.c k92 (.c k91 (.c k89 (.c k88 (.c k86 (.c k84 (.c k83 (.c k80 (.c k78 (.c k77 (.c k61 (.c k59 (.c k58 (.c k48 (.c k46 (.c k45 (.c k44 (.c k42 (.c k41 (.c k6 (.c k5 (.c k4 (.c k3 (.c k2 (.c k1 (.c k0 .nil)))))))))))))))))))))))))))))))))))))))))))
theorem sanity_ok : CO 11 [] (.ret (.bool true)) := k147
def cutL (ns : List Nd) : List Nd := (ns.take 62).map cutN
def cutG (l : List Sg) : List Sg := (l.take 30).map cutSg
theorem split_take {α : Type} {ns p r : List α} {x : α} {n : Nat} (h : ns.take n = p ++ x :: r) : ns = p ++ x :: (r ++ ns.drop n) ∧ p.length < n ∧ p.length < ns.length := by
 have h1 := List.take_append_drop n ns
 rw [h] at h1
 have h2 : (ns.take n).length = p.length + (r.length + 1) := by rw [h]; simp
 rw [List.length_take] at h2
 exact ⟨by have h3 := h1.symm; simpa using h3, by omega, by omega⟩
def cvSt (ns : List Nd) (nn : Bool) (p : Nat × List Nd) : St := match p.2 with
 | [] => ⟨[(0, .sl (ndL ns) ns.length nn), (3, .nilS), (4, .int .i64 (p.1 : Int))], [], .dead, []⟩
 | x :: r => ⟨[(0, .sl (ndL ns) ns.length nn), (3, .ref 0 0 0 (x :: r).length), (4, .int .i64 (p.1 : Int))], [(0, ⟨(ndL (x :: r)), 0, false, 0, 5, true⟩)], .dead, []⟩
def cvOut : List Nd → St
 | [] => ⟨[(3, .nilS)], [], .dead, []⟩
 | x :: r => ⟨[(3, .ref 0 0 0 (x :: r).length)], [(0, ⟨(ndL (x :: r)), 0, false, 0, 5, true⟩)], .dead, []⟩
theorem cvSt_ne {ns : List Nd} {nn : Bool} {k : Nat} {cs : List Nd} (h : cs ≠ []) : cvSt ns nn (k, cs) = ⟨[(0, .sl (ndL ns) ns.length nn), (3, .ref 0 0 0 cs.length), (4, .int .i64 (k : Int))], [(0, ⟨(ndL cs), 0, false, 0, 5, true⟩)], .dead, []⟩ := by cases cs with | nil => exact absurd rfl h | cons _ _ => rfl
theorem cv_loop {nt : Nat} (hn : 55 ≤ nt) (ns : List Nd) (nn : Bool) : LoopR prog ap [] nt (loopBody 0 (bodyOf f13)) (fun _ => .exit 0) (cvSt ns nn) cvOut (0, []) (cutL ns) := by
  refine LoopR.mapL cutN (ns.take 62) ?_ ?_
  · intro p x r h
    obtain ⟨h1, h2, h3⟩ := split_take h
    have hdr : List.drop (Int.toNat (p.length : Int) * 5) (ndL ns) = ndC x ++ ndL (r ++ ns.drop 62) := by
      have := nd_drop (p := p) (r := r ++ ns.drop 62) (x := x) rfl
      rwa [← h1] at this
    have b1 : decide (((0 : Nat) : Int) ≤ ((min 60 x.den.length : Nat) : Int)) = true := decide_eq_true (by omega)
    have b2 : decide (((min 60 x.den.length : Nat) : Int) ≤ ((List.length x.den : Nat) : Int)) = true := decide_eq_true (by omega)
    have b3 : decide (((0 : Nat) : Int) ≤ ((min 60 x.num.length : Nat) : Int)) = true := decide_eq_true (by omega)
    have b4 : decide (((min 60 x.num.length : Nat) : Int) ≤ ((List.length x.num : Nat) : Int)) = true := decide_eq_true (by omega)
    have b5 : decide (((0 : Nat) : Int) ≤ ((min 25 x.name.length : Nat) : Int)) = true := decide_eq_true (by omega)
    have b6 : decide (((min 25 x.name.length : Nat) : Int) ≤ ((List.length x.name : Nat) : Int)) = true := decide_eq_true (by omega)
    have b7 : decide (((0 : Nat) : Int) ≤ (p.length : Int)) = true := decide_eq_true (by omega)
    have b8 : decide ((p.length : Int) < (ns.length : Int)) = true := decide_eq_true (by omega)
    have b9 : lit true (decide ((p.length : Int) < ((62 : Nat) : Int))) = true := decide_eq_true (by omega)
    have hL : List.map cutN p ++ [cutN x] ≠ [] := by simp
    rw [cvSt_ne hL]
    have hw := wk1 (i := p.length) (by omega)
    cases hp : p with
    | nil => subst hp; exact cvZ_0 hn ns nn 0 x _ hw hdr b1 b2 b3 b4 b5 b6 b7 b8 b9 b8
    | cons y q =>
      rw [← hp, cvSt_ne (by rw [hp]; simp), List.length_append, List.length_singleton]
      have hlm : (List.map cutN p).length = p.length := List.length_map ..
      exact cvC_0 hn ns (List.map cutN p) nn p.length x _ hw hdr (by simp; omega) (by rw [ndL_len]; simp) b1 b2 b3 b4 b5 b6 b7 b8 b9 b8
  · have hl : (ns.take 62).length = min 62 ns.length := List.length_take
    generalize hk : (ns.take 62).length = k at *
    have hx : (lit false (decide ((k : Int) < (ns.length : Int))) = true) ∨ (lit false (decide ((k : Int) < ((62 : Nat) : Int))) = true ∧ lit true (decide ((k : Int) < (ns.length : Int))) = true) := by
      by_cases h : k < ns.length
      · right
        refine ⟨?_, decide_eq_true (by omega)⟩
        simp only [lit, Bool.not_eq_true']
        exact decide_eq_false (by omega)
      · left
        simp only [lit, Bool.not_eq_true']
        exact decide_eq_false (by omega)
    show ExecOk _ _ _ _ _ (cvSt ns nn (k, cutL ns)) _ (cvOut (cutL ns))
    generalize cutL ns = cs
    cases cs with
    | nil => rcases hx with hx | ⟨hx, hy⟩
             · exact cvZ_2 hn ns nn k hx
             · exact cvZ_1 hn ns nn k hx hy
    | cons y q => rcases hx with hx | ⟨hx, hy⟩
                  · exact cvC_2 hn ns (y :: q) nn k hx
                  · exact cvC_1 hn ns (y :: q) nn k hx hy
theorem cut_ok (ns : List Nd) (nn : Bool) : CO 13 [.sl (ndL ns) ns.length nn] (.ret (.sl (ndL (cutL ns)) (cutL ns).length false)) := by
 have hloop := fun nt (hn : 55 ≤ nt) => cv_loop hn ns nn
 have l0 := LoopR.blk (id := 0) (e' := .normal) (s := cvSt ns nn (0, [])) (s' := cvOut (cutL ns)) hloop (by simp) rfl (Less.refl _) (Less.refl _)
 generalize cutL ns = cs at *
 cases cs with
 | nil =>
  have h := cvF_0 ns nn (fun nt hnt => (l0 nt hnt).weak (Less.of ⟨rfl, rfl, rfl, trivial⟩) (Less.refl _))
  exact h.out (OutLe.ret rfl rfl (Fits.nilS false rfl))
 | cons y q =>
  have htk : List.take ((y :: q).length * 5) (ndL (y :: q)) = ndL (y :: q) := List.take_of_length_le (by rw [ndL_len]; omega)
  have h := cvG_0 ns (y :: q) nn (fun nt hnt => (l0 nt hnt).weak (Less.of ⟨rfl, rfl, rfl, trivial⟩) (Less.refl _))
  have h := h.thaw (by simp)
  simp only [thawO, thaw] at h
  rw [List.take_of_length_le (by rw [List.length_take]; exact Nat.min_le_left _ _), htk] at h
  exact h.out (OutLe.ret rfl rfl (Fits.sl _ _ _))
theorem cut_sm (ns : List Nd) : ∀ x ∈ cutL ns, x.sm := by
 intro x hx
 obtain ⟨y, _, rfl⟩ := List.mem_map.1 hx
 refine ⟨?_, ?_⟩ <;> simp only [cutN, List.length_take] <;> omega
def cgSt (l : List Sg) (ns : List Nd) (nl nn : Bool) (p : Nat × List Sg) : St := match p.2 with
 | [] => ⟨[(0, .sl (sgL l) l.length nl), (1, .sl (ndL ns) ns.length nn), (5, .bool true), (6, .nilS), (7, .int .i64 (p.1 : Int))], [], .dead, []⟩
 | x :: r => ⟨[(0, .sl (sgL l) l.length nl), (1, .sl (ndL ns) ns.length nn), (5, .bool true), (6, .ref 0 0 0 (x :: r).length), (7, .int .i64 (p.1 : Int))], [(0, ⟨(sgL (x :: r)), 0, false, 0, 5, true⟩)], .dead, []⟩
def cgOut (ns : List Nd) (nn : Bool) : List Sg → St
 | [] => ⟨[(1, .sl (ndL ns) ns.length nn), (5, .bool true), (6, .nilS)], [], .dead, []⟩
 | x :: r => ⟨[(1, .sl (ndL ns) ns.length nn), (5, .bool true), (6, .ref 0 0 0 (x :: r).length)], [(0, ⟨(sgL (x :: r)), 0, false, 0, 5, true⟩)], .dead, []⟩
theorem cgSt_ne {l : List Sg} {ns : List Nd} {nl nn : Bool} {k : Nat} {cs : List Sg} (h : cs ≠ []) : cgSt l ns nl nn (k, cs) = ⟨[(0, .sl (sgL l) l.length nl), (1, .sl (ndL ns) ns.length nn), (5, .bool true), (6, .ref 0 0 0 cs.length), (7, .int .i64 (k : Int))], [(0, ⟨(sgL cs), 0, false, 0, 5, true⟩)], .dead, []⟩ := by cases cs with | nil => exact absurd rfl h | cons _ _ => rfl
theorem cg_loop {nt : Nat} (hn : 51 ≤ nt) (l : List Sg) (ns : List Nd) (nl nn : Bool) : LoopR prog ap [] nt (loopBody 0 (bodyOf f3)) (fun _ => .exit 0) (cgSt l ns nl nn) (cgOut ns nn) (0, []) (cutG l) := by
  refine LoopR.mapL cutSg (l.take 30) ?_ ?_
  · intro p x r h
    obtain ⟨h1, h2, h3⟩ := split_take h
    have hdr : List.drop (Int.toNat (p.length : Int) * 5) (sgL l) = sgC x ++ sgL (r ++ l.drop 30) := by
      have := sg_drop (p := p) (r := r ++ l.drop 30) (x := x) rfl
      rwa [← h1] at this
    have b5 : decide (((0 : Nat) : Int) ≤ ((min 25 x.name.length : Nat) : Int)) = true := decide_eq_true (by omega)
    have b6 : decide (((min 25 x.name.length : Nat) : Int) ≤ ((List.length x.name : Nat) : Int)) = true := decide_eq_true (by omega)
    have b7 : decide (((0 : Nat) : Int) ≤ (p.length : Int)) = true := decide_eq_true (by omega)
    have b8 : decide ((p.length : Int) < (l.length : Int)) = true := decide_eq_true (by omega)
    have b9 : lit true (decide ((p.length : Int) < ((30 : Nat) : Int))) = true := decide_eq_true (by omega)
    have hL : List.map cutSg p ++ [cutSg x] ≠ [] := by simp
    rw [cgSt_ne hL]
    have hw := wk1 (i := p.length) (by omega)
    cases hp : p with
    | nil => subst hp; exact cgZ_0 hn l ns nl nn 0 x _ hw hdr b5 b6 b7 b8 b9 b8
    | cons y q =>
      rw [← hp, cgSt_ne (by rw [hp]; simp), List.length_append, List.length_singleton]
      have hlm : (List.map cutSg p).length = p.length := List.length_map ..
      exact cgC_0 hn l (List.map cutSg p) ns nl nn p.length x _ hw hdr (by simp; omega) (by rw [sgL_len]; simp) b5 b6 b7 b8 b9 b8
  · have hl : (l.take 30).length = min 30 l.length := List.length_take
    generalize hk : (l.take 30).length = k at *
    have hx : (lit false (decide ((k : Int) < (l.length : Int))) = true) ∨ (lit false (decide ((k : Int) < ((30 : Nat) : Int))) = true ∧ lit true (decide ((k : Int) < (l.length : Int))) = true) := by
      by_cases h : k < l.length
      · right
        refine ⟨?_, decide_eq_true (by omega)⟩
        simp only [lit, Bool.not_eq_true']
        exact decide_eq_false (by omega)
      · left
        simp only [lit, Bool.not_eq_true']
        exact decide_eq_false (by omega)
    show ExecOk _ _ _ _ _ (cgSt l ns nl nn (k, cutG l)) _ (cgOut ns nn (cutG l))
    generalize cutG l = cs
    cases cs with
    | nil => rcases hx with hx | ⟨hx, hy⟩
             · exact cgZ_2 hn l ns nl nn k hx
             · exact cgZ_1 hn l ns nl nn k hx hy
    | cons y q => rcases hx with hx | ⟨hx, hy⟩
                  · exact cgC_2 hn l (y :: q) ns nl nn k hx
                  · exact cgC_1 hn l (y :: q) ns nl nn k hx hy
theorem sq0 : CO 26 [.int .i64 1, .int .i64 0] (.ret (.agg [.bool false, .int .i64 1, .int .i64 0])) := cK (.nil)
theorem sq1 : CO 26 [.int .i64 0, .int .i64 0] (.ret (.agg [.bool false, .int .i64 0, .int .i64 0])) := cK (.nil)
theorem sq2 : CO 25 [] (.ret (.agg [.bool true, .int .i64 0, .int .i64 0])) := cK (.nil)
theorem sq3 : CO 26 [.int .i64 0, .int .i64 1] (.ret (.agg [.bool false, .int .i64 0, .int .i64 1])) := cK (.nil)
theorem sq4 : CO 14 [] (.ret (.own [.int .i64 5, .str [105, 110, 99, 111, 109, 101], .bool false, .int .i64 1, .int .i64 0, .int .i64 5, .str [107, 105, 100, 115], .bool false, .int .i64 0, .int .i64 0, .int .i64 5, .str [115, 105, 110, 103, 108, 101], .bool true, .int .i64 0, .int .i64 0, .int .i64 5, .str [115, 116, 97, 121], .bool false, .int .i64 0, .int .i64 1, .int .i64 6, .str [112, 111, 111, 114], .bool true, .int .i64 0, .int .i64 0, .int .i64 6, .str [116, 97, 120], .bool false, .int .i64 1, .int .i64 0, .int .i64 7, .str [112, 111, 111, 114], .bool true, .int .i64 0, .int .i64 0, .int .i64 7, .str [116, 97, 120], .bool false, .int .i64 1, .int .i64 0, .int .i64 8, .str [112, 111, 111, 114], .bool true, .int .i64 0, .int .i64 0, .int .i64 8, .str [116, 97, 120], .bool false, .int .i64 1, .int .i64 0, .int .i64 24, .str [115, 99, 97, 108, 101], .bool false, .int .i64 1, .int .i64 0, .int .i64 24, .str [116, 101, 114, 109], .bool false, .int .i64 0, .int .i64 1] 12 5)) := cK (.c sq3 (.c sq2 (.c sq2 (.c sq2 (.c sq3 (.c sq2 (.c sq1 (.c sq0 .nil))))))))
theorem sigs_ok : CO 14 [] (.ret (.own (sgL sigsQ) 12 5)) := sq4
theorem raw_ok (l : List Sg) (ns : List Nd) (nl nn : Bool) : CO 3 [.sl (sgL l) l.length nl, .sl (ndL ns) ns.length nn] (.ret (.bool true)) := by
 have hloop := fun nt (hn : 51 ≤ nt) => cg_loop hn l ns nl nn
 have l0 := LoopR.blk (id := 0) (e' := .normal) (s := cgSt l ns nl nn (0, [])) (s' := cgOut ns nn (cutG l)) hloop (by simp) rfl (Less.refl _) (Less.refl _)
 have hcl : (cutG l).length ≤ 30 := by simp only [cutG, List.length_map, List.length_take]; omega
 have hc := cut_ok ns nn
 have hsm := cut_sm ns
 generalize cutG l = cl at *
 generalize cutL ns = cs at *
 have e60 : List.take 60 (List.take 60 (sgL sigsQ)) = sgL sigsQ := by rfl
 cases cl with
 | nil =>
  have h2 := (same_ok [] cs false false (by simp) hsm).args (FitsL.cons (Fits.nilS false rfl) (FitsL.refl _))
  have h5 := same_ok sigsQ cs true false (by decide) hsm
  exact rwZ_0 l [] ns cs nl nn rfl sanity_ok (fun nt hnt => (l0 nt hnt).weak (Less.of ⟨rfl, rfl, rfl, rfl, rfl, trivial⟩) (Less.refl _)) hc h2 sigs_ok hc (e60 ▸ h5)
 | cons y q =>
  have htk : List.take ((y :: q).length * 5) (sgL (y :: q)) = sgL (y :: q) := List.take_of_length_le (by rw [sgL_len]; omega)
  have h2 := same_ok (y :: q) cs true false (by omega) hsm
  have h5 := same_ok (y :: q ++ sigsQ) cs true false (by rw [List.length_append]; have : sigsQ.length = 12 := rfl; omega) hsm
  have hlen : (y :: q ++ sigsQ).length = (y :: q).length + 12 := List.length_append
  rw [hlen] at h5
  have htk2 : List.take (((y :: q).length + 12) * 5) (sgL (y :: q ++ sigsQ)) = sgL (y :: q ++ sigsQ) := List.take_of_length_le (by rw [sgL_len, hlen]; omega)
  generalize hcl2 : y :: q = cl at *
  refine rwC_0 l cl ns cs nl nn rfl (by simp; omega) (by rw [sgL_len]; simp) (by rw [sgL_len]; simp) sanity_ok (fun nt hnt => (l0 nt hnt).weak (Less.of ⟨rfl, rfl, rfl, rfl, rfl, trivial⟩) (by subst hcl2; exact Less.refl _)) hc ?_ sigs_ok hc ?_
  ·rw [htk]; exact h2
  ·rw [htk2]; exact h5
theorem sg_of {x : List Value} (h : FlatV [.int .i64, .str, .bool, .int .i64, .int .i64] x) : ∃ s : Sg, x.map avLeaf = sgC s := by
 rcases h with _ | @⟨_, op, _, _, h⟩ | _ | _
 rcases h with _ | _ | _ | @⟨nm, _, _, h⟩
 rcases h with _ | _ | @⟨tr, _, _, h⟩ | _
 rcases h with _ | @⟨_, m, _, _, h⟩ | _ | _
 rcases h with _ | @⟨_, d, _, _, h⟩ | _ | _
 cases h
 exact ⟨⟨op, nm.data.toList, ⟨tr, m, d⟩⟩, rfl⟩
theorem nd_of {x : List Value} (h : FlatV [.int .i64, .bool, .str, .str, .str] x) : ∃ s : Nd, x.map avLeaf = ndC s := by
 rcases h with _ | @⟨_, op, _, _, h⟩ | _ | _
 rcases h with _ | _ | @⟨neg, _, _, h⟩ | _
 rcases h with _ | _ | _ | @⟨a, _, _, h⟩
 rcases h with _ | _ | _ | @⟨b, _, _, h⟩
 rcases h with _ | _ | _ | @⟨c, _, _, h⟩
 cases h
 exact ⟨⟨op, neg, a.data.toList, b.data.toList, c.data.toList⟩, rfl⟩
end Go.Proofs.Tryz
set_option maxRecDepth 100000
open Go AM Go.ChangeShapes Go.WideShapes Go.ChangeAt Go.RowKit
namespace Go.Proofs.Tryz
noncomputable def litsOf (t : TypeId) (d : DataW Unit) : List Lit := ((litCells prog 6 t d 0).getD []).map (·.2)
open Go.Proofs.YtpjkeigmiooooaaGreatDoor
def laidL : List (String × DataW Unit) := [("unicode/utf8.acceptRanges", Rows.laid_unicode_utf8_acceptRanges), ("tithing/expr.table", Rows.laid_tithing_expr_table), ("tithing/check.truth", Rows.laid_tithing_check_truth), ("tithing/check.cash", Rows.laid_tithing_check_cash), ("tithing/check.days", Rows.laid_tithing_check_days), ("tithing/check.plain", Rows.laid_tithing_check_plain), ("unicode/utf8.first", Rows.laid_unicode_utf8_first)]
theorem noHandles : laidL.filter (fun x => x.2.handleName?.isSome) = [] := by kernel_rfl
theorem globW_of {W : World} (h : laidMetH prog laidL W) : GlobW ap W := by
 have c (i : Nat) (n : String) (d : DataW Unit) (hm : laidL[i]? = some (n, d)) (g : Nat) (t : TypeId) (hg : prog.globalNamed n = some g) (ht : (prog.globals[g]?).map (·.type) = some t)
   (hl : litCells prog 6 t d 0 = some ((litsOf t d).zipIdx.map fun (l, i) => (i, l))) := laid_cells h noHandles (List.mem_of_getElem? hm) hg ht hl
 have c0 := c 1 _ _ rfl 0 105 (by kernel_rfl) (by kernel_rfl) (by kernel_rfl)
 have c1 := c 2 _ _ rfl 1 28 (by kernel_rfl) (by kernel_rfl) (by kernel_rfl)
 have c2 := c 3 _ _ rfl 2 28 (by kernel_rfl) (by kernel_rfl) (by kernel_rfl)
 have c3 := c 4 _ _ rfl 3 28 (by kernel_rfl) (by kernel_rfl) (by kernel_rfl)
 have c4 := c 5 _ _ rfl 4 28 (by kernel_rfl) (by kernel_rfl) (by kernel_rfl)
 have c6 := c 0 _ _ rfl 6 184 (by kernel_rfl) (by kernel_rfl) (by kernel_rfl)
 have key (k : Nat) (t : TypeId) (d : DataW Unit) (hx : (ap.gl[k]?).join = some ((litsOf t d).map litAV)) (ho : (litsOf t d).all litOk = true) (hc : ∀ (j : Nat) (l : Lit), (litsOf t d)[j]? = some l → W.cell? ⟨k, j, none⟩ = some (litVal l)) :
   ∀ xs, (ap.gl[k]?).join = some xs → ∃ ls : List Lit, xs = ls.map litAV ∧ ls.all litOk = true ∧ ∀ (j : Nat) (l : Lit), ls[j]? = some l → W.cell? ⟨k, j, none⟩ = some (litVal l) := by
  intro xs hxs
  rw [hx] at hxs
  cases hxs
  exact ⟨_, rfl, ho, hc⟩
 intro k
 match k with
 | 0 => exact key 0 _ _ (by kernel_rfl) (by kernel_rfl) c0
 | 1 => exact key 1 _ _ (by kernel_rfl) (by kernel_rfl) c1
 | 2 => exact key 2 _ _ (by kernel_rfl) (by kernel_rfl) c2
 | 3 => exact key 3 _ _ (by kernel_rfl) (by kernel_rfl) c3
 | 4 => exact key 4 _ _ (by kernel_rfl) (by kernel_rfl) c4
 | 5 => intro xs hxs; exact absurd (show (none : Option (List AV)) = some xs from hxs) (by simp)
 | 6 => exact key 6 _ _ (by kernel_rfl) (by kernel_rfl) c6
 | 7 => intro xs hxs; exact absurd (show (none : Option (List AV)) = some xs from hxs) (by simp)
 | k + 8 =>
  intro xs hxs
  have : ap.gl.length = 8 := by kernel_rfl
  rw [List.getElem?_eq_none (by omega)] at hxs
  cases hxs
theorem own : ownKnob prog.godebug = none := by kernel_rfl
theorem laidOut : laidOutB prog = true := by kernel_rfl
noncomputable def setG (t : TypeId) (d : DataW Unit) : Obj → Obj
 | .cells _ t' fr => .cells ((litsOf t d).map litVal).toArray t' fr
 | o => o
noncomputable def laidWorld (os : Os) : World :=
 let w := World.holding prog os ⟨#[], #[], []⟩
 {w with heap := ((((((w.heap.modify 0 (setG 105 Rows.laid_tithing_expr_table)).modify 1 (setG 28 Rows.laid_tithing_check_truth)).modify 2 (setG 28 Rows.laid_tithing_check_cash)).modify 3 (setG 28 Rows.laid_tithing_check_days)).modify 4 (setG 28 Rows.laid_tithing_check_plain)).modify 5 (setG 181 Rows.laid_unicode_utf8_first)).modify 6 (setG 184 Rows.laid_unicode_utf8_acceptRanges) }
end Go.Proofs.Tryz
set_option maxRecDepth 100000
open Go AM Go.ChangeShapes Go.WideShapes Go.ChangeAt Go.RowKit
namespace Go.Proofs.YtpjkeigmiooooaaGreatDoor.raw
open Go.Proofs.Tryz
theorem laid_met (os : Os) : laidMet Tryz.prog Rows.checkRawRow.laid ((laidWorld os).forCall (fun _ _ => 0) ⟨#[], #[.slice none 0 0, .slice none 0 0], []⟩).memory :=
 laidMet_of_run' 8 (by kernel_rfl) (by kernel_rfl)
theorem reads (os : Os) {H : Type} (enc : TypeId × Value → H) : ∃ places, DataW.whole enc Tryz.prog ((laidWorld os).forCall (fun _ _ => 0) ⟨#[], #[.slice none 0 0, .slice none 0 0], []⟩).memory Tryz.f3.params.toList Rows.checkRawSpec.vars false [.slice none 0 0, .slice none 0 0] 8 = some ([.nil, .nil], [], places) :=
 ⟨[], by kernel_rfl⟩
theorem contract (H : Type) (enc : TypeId × Value → H) (W : World) (base : Nat) (args : Array Value) (ds gs : List (DataW H)) (before : List MemPlace)
  (hval : ∀ (j : Nat) t v, Tryz.f3.params[j]? = some t → args[j]? = some v → Value.okWide Tryz.prog W .any base t v)
  (hW : DataW.Whole enc Tryz.prog Tryz.f3.params.toList Rows.checkRawSpec.vars false W args.toList ds gs before) (hL : laidMetH Tryz.prog Rows.checkRawRow.laid W) :
  Calls Tryz.prog 3 args W fun e W' => ∃ v, e = .returned v ∧ Rows.checkRawSpec.post enc Tryz.prog Tryz.f3 false true false false W args v W' := by
 have hW' := hW
 obtain ⟨pp, qq, hA0, hV, rfl, hfz, hnd⟩ := hW
 have hA : DataW.TrodAll enc Tryz.prog W 0 (fun _ => true) true Tryz.f3.params.toList args.toList ds pp := hA0
 obtain ⟨al⟩ := args
 simp only at hA hW' hval ⊢
 rw [Tryz.params3] at hA hval
 obtain ⟨v0, vs0, d0, ds0, p0, q0, rfl, rfl, rfl, h0, hA0⟩ := trodAll_cons hA
 obtain ⟨v1, vs1, d1, ds1, p1, q1, rfl, rfl, rfl, h1, hA1⟩ := trodAll_cons hA0
 obtain ⟨rfl, rfl, rfl⟩ := trodAll_nil hA1
 obtain ⟨rfl, rfl⟩ := trodVars_none hV
 obtain ⟨L0, f0, pr0⟩ := open_slF (t := 22) (e := 30) (n := 4) (ks := [.int .i64, .str, .bool, .int .i64, .int .i64]) (by kernel_rfl) (by kernel_rfl) (by kernel_rfl) (hval 0 22 v0 rfl rfl) h0
 obtain ⟨l, e0, n0⟩ := flat_list sgC (L := L0) (fun x hx => sg_of (f0 x hx))
 obtain ⟨L1, f1, pr1⟩ := open_slF (t := 23) (e := 44) (n := 4) (ks := [.int .i64, .bool, .str, .str, .str]) (by kernel_rfl) (by kernel_rfl) (by kernel_rfl) (hval 1 23 v1 rfl rfl) h1
 obtain ⟨ns, e1, n1⟩ := flat_list ndC (L := L1) (fun x hx => nd_of (f1 x hx))
 rw [e0, n0] at pr0
 rw [e1, n1] at pr1
 have hv : PRL (worldS W) [.sl (sgL l) l.length false, .sl (ndL ns) ns.length false] [v0, v1] := by
  simp only [PRL, and_true]
  exact ⟨pr0, pr1⟩
 refine (call_entry (raw_ok l ns false false) (globW_of hL) hv).mono fun e W' ⟨he, hb⟩ => ?_
 subst he
 exact ⟨_, rfl, law_post laidOut (by kernel_rfl) hW' rfl (tb := 4) rfl (by kernel_rfl) rfl hb⟩
theorem lifted (os : Os) (started : os.Started) (H : Type) (enc : TypeId × Value → H) (F : Stop.Interp) :
  ReturnsInHanded {} Tryz.checked os 3 .any ((OpenSpec.ofChange Rows.checkRawSpec).preRow enc Tryz.prog Tryz.f3 Rows.checkRawRow.domain false Rows.checkRawRow.laid) (((OpenSpec.ofChange Rows.checkRawSpec).at F).post enc Tryz.prog Tryz.f3 false true false false) := by
 obtain ⟨places, hx⟩ := reads os enc
 refine returnsInHanded_of_row (C := Tryz.checked) (s := OpenSpec.ofChange Rows.checkRawSpec) own started (by kernel_rfl) Tryz.func3
  (witness_row_at (enc := enc) (C := Tryz.checked) false (laidWorld os) #[.slice none 0 0, .slice none 0 0] rfl (by kernel_rfl) (by kernel_rfl) (by kernel_rfl)
   (OpenSpec.preRow_of_cond 8 hx (by kernel_rfl) (fun k hk => by cases hk) (by kernel_rfl) (laid_met os))) ?_
 intro W base args ds gs before hval hW _ _ _ hL _ _
 exact contract H enc W base args ds gs before hval hW hL
theorem said : Rows.CheckRawSaid :=
 OpenClaim.holds_of_cond 3 Tryz.f3 rfl rfl rfl rfl rfl rfl rfl ⟨rfl, rfl, rfl, rfl, rfl⟩ rfl rfl rfl rfl rfl (by kernel_rfl) Tryz.func3 (by kernel_rfl)
  (of_decide_eq_true (by kernel_rfl)) (by unfold Func.isWrapper; first | (rw [if_pos (by decide +kernel)]; kernel_rfl) | (rw [if_neg (by decide +kernel)]; exact ⟨rfl, rfl⟩))
  (fun os started H enc _ F => by rw [OpenClaim.pre_eq_preRow]; exact lifted os started H enc F)
theorem plain (f : FuncId) (fn : Func) (hf : Tryz.pinned.checked.prog.funcNamed Rows.checkRawRow.func = some f) (hfn : Tryz.pinned.checked.prog.funcs[f]? = some fn) :
  true = Tryz.pinned.checked.prog.looks [] ∧ ∀ (j : Nat) t, fn.params[j]? = some t → Tryz.pinned.checked.prog.wantsStandIn t = false := by
 obtain rfl : f = 3 := Option.some.inj ((show Tryz.prog.funcNamed Rows.checkRawRow.func = some 3 by kernel_rfl).symm.trans hf) |>.symm
 obtain rfl : fn = Tryz.f3 := (Option.some.inj (Tryz.func3.symm.trans hfn)).symm
 refine ⟨by kernel_rfl, fun j t ht => ?_⟩
 have hall : Tryz.f3.params.toList.all (fun t => !Tryz.prog.wantsStandIn t) = true := by kernel_rfl
 have := List.all_eq_true.1 hall t (by simpa using Array.mem_of_getElem? ht)
 show Tryz.prog.wantsStandIn t = false
 simpa using this
theorem card : Rows.CheckRawCardSaid :=
 Claim7.holds_tied_plain_at .later [] _ _ _ _ said (fun _ h => by cases h) (by kernel_rfl) (fun _ h => by cases h) checkRaw_row_tie rfl ⟨rfl, rfl⟩ (by kernel_rfl) rfl plain (by kernel_rfl)
end Go.Proofs.YtpjkeigmiooooaaGreatDoor.raw
