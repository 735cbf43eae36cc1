/- The law CheckOperators returns true for every input, and leaves it as it was. No conditions beyond the given row's. -/
import Derived.Test.YtpjkeigmiooooaaGreatDoorTz
import Derived.Test.YtpjkeigmiooooaaGreatDoorOpA
import Derived.Test.YtpjkeigmiooooaaGreatDoorOpB

set_option maxRecDepth 100000
open Go AM
namespace Go.Proofs.Tryz
theorem wrap_id {x : Int} (h : -2 ^ 63 ≤ x) (h' : x < 2 ^ 63) : IntKind.wrap .i64 x = x := by
  show (if (true && decide (x % 2 ^ 64 ≥ 2 ^ 63)) = true then x % 2 ^ 64 - 2 ^ 64 else x % 2 ^ 64) = x
  rw [Bool.true_and]
  by_cases hx : x % 2 ^ 64 ≥ 2 ^ 63
  · rw [if_pos (by simpa using hx)]; omega
  · rw [if_neg (by simpa using hx)]; omega
/-- A numeral of the type int. -/
abbrev ci (n : Int) : AV := .int .i64 n
theorem mod_p0 (a n : Int) (h0 : lit true (decide ((Int.tmod a n) < (0 : Int))) = true) (h1 : (!(n == (0 : Int))) = true) : CO 18 [.int .i64 a, .int .i64 n] (.ret (.int .i64 (IntKind.wrap .i64 ((Int.tmod a n) + n)))) := path_ok good (lf := 3000) (n := 4) (ls := []) (orc := [true]) (ans := []) (lps := []) (.c h0 (.c h1 .nil) : AllB _) (.nil : AllP _) (by kernel_rfl)
theorem mod_p1 (a n : Int) (h0 : lit false (decide ((Int.tmod a n) < (0 : Int))) = true) (h1 : (!(n == (0 : Int))) = true) : CO 18 [.int .i64 a, .int .i64 n] (.ret (.int .i64 (Int.tmod a n))) := path_ok good (lf := 3000) (n := 4) (ls := []) (orc := [false]) (ans := []) (lps := []) (.c h0 (.c h1 .nil) : AllB _) (.nil : AllP _) (by kernel_rfl)
theorem kk0 : CO 26 [.int .i64 1, .int .i64 0] (.ret (.agg [.bool false, .int .i64 1, .int .i64 0])) := closed_ok good (lf := 3000) (n := 4) (ans := []) (.nil : AllP _) (by kernel_rfl)
theorem kk1 : CO 26 [.int .i64 0, .int .i64 1] (.ret (.agg [.bool false, .int .i64 0, .int .i64 1])) := closed_ok good (lf := 3000) (n := 4) (ans := []) (.nil : AllP _) (by kernel_rfl)
theorem kk2 : CO 26 [.int .i64 0, .int .i64 0] (.ret (.agg [.bool false, .int .i64 0, .int .i64 0])) := closed_ok good (lf := 3000) (n := 4) (ans := []) (.nil : AllP _) (by kernel_rfl)
theorem kk3 : CO 25 [] (.ret (.agg [.bool true, .int .i64 0, .int .i64 0])) := closed_ok good (lf := 3000) (n := 4) (ans := []) (.nil : AllP _) (by kernel_rfl)
theorem kk4 : CO 26 [.int .i64 1, .int .i64 (-1)] (.ret (.agg [.bool false, .int .i64 1, .int .i64 (-1)])) := closed_ok good (lf := 3000) (n := 4) (ans := []) (.nil : AllP _) (by kernel_rfl)
def HK0 (_q : Int) : Prop := True
theorem kind0_0 (q : Int) (_h : HK0 q) (hM : CO 18 [.int .i64 q, .int .i64 5] (.ret (.int .i64 0))) : CO 15 [.int .i64 q] (.ret (.agg [.bool false, .int .i64 1, .int .i64 0])) := path_ok good (lf := 3000) (n := 4) (ls := []) (orc := []) (ans := [(.ret (.agg [.bool false, .int .i64 1, .int .i64 0]), []), (.ret (.agg [.bool false, .int .i64 0, .int .i64 1]), []), (.ret (.agg [.bool false, .int .i64 0, .int .i64 0]), []), (.ret (.agg [.bool true, .int .i64 0, .int .i64 0]), []), (.ret (.agg [.bool false, .int .i64 1, .int .i64 (-1)]), []), (.ret (.int .i64 0), [])]) (lps := []) (.t (.t (.t (.t (.t (.t (.t (.t (.t .nil)))))))) : AllB _) (.cons hM (.cons kk4 (.cons kk3 (.cons kk2 (.cons kk1 (.cons kk0 .nil))))) : AllP _) (by kernel_rfl)
def HK1 (_q : Int) : Prop := True
theorem kind1_0 (q : Int) (_h : HK1 q) (hM : CO 18 [.int .i64 q, .int .i64 5] (.ret (.int .i64 1))) : CO 15 [.int .i64 q] (.ret (.agg [.bool false, .int .i64 0, .int .i64 1])) := path_ok good (lf := 3000) (n := 4) (ls := []) (orc := []) (ans := [(.ret (.agg [.bool false, .int .i64 1, .int .i64 0]), []), (.ret (.agg [.bool false, .int .i64 0, .int .i64 1]), []), (.ret (.agg [.bool false, .int .i64 0, .int .i64 0]), []), (.ret (.agg [.bool true, .int .i64 0, .int .i64 0]), []), (.ret (.agg [.bool false, .int .i64 1, .int .i64 (-1)]), []), (.ret (.int .i64 1), [])]) (lps := []) (.t (.t (.t (.t (.t (.t (.t (.t (.t .nil)))))))) : AllB _) (.cons hM (.cons kk4 (.cons kk3 (.cons kk2 (.cons kk1 (.cons kk0 .nil))))) : AllP _) (by kernel_rfl)
def HK2 (_q : Int) : Prop := True
theorem kind2_0 (q : Int) (_h : HK2 q) (hM : CO 18 [.int .i64 q, .int .i64 5] (.ret (.int .i64 2))) : CO 15 [.int .i64 q] (.ret (.agg [.bool false, .int .i64 0, .int .i64 0])) := path_ok good (lf := 3000) (n := 4) (ls := []) (orc := []) (ans := [(.ret (.agg [.bool false, .int .i64 1, .int .i64 0]), []), (.ret (.agg [.bool false, .int .i64 0, .int .i64 1]), []), (.ret (.agg [.bool false, .int .i64 0, .int .i64 0]), []), (.ret (.agg [.bool true, .int .i64 0, .int .i64 0]), []), (.ret (.agg [.bool false, .int .i64 1, .int .i64 (-1)]), []), (.ret (.int .i64 2), [])]) (lps := []) (.t (.t (.t (.t (.t (.t (.t (.t (.t .nil)))))))) : AllB _) (.cons hM (.cons kk4 (.cons kk3 (.cons kk2 (.cons kk1 (.cons kk0 .nil))))) : AllP _) (by kernel_rfl)
def HK3 (_q : Int) : Prop := True
theorem kind3_0 (q : Int) (_h : HK3 q) (hM : CO 18 [.int .i64 q, .int .i64 5] (.ret (.int .i64 3))) : CO 15 [.int .i64 q] (.ret (.agg [.bool true, .int .i64 0, .int .i64 0])) := path_ok good (lf := 3000) (n := 4) (ls := []) (orc := []) (ans := [(.ret (.agg [.bool false, .int .i64 1, .int .i64 0]), []), (.ret (.agg [.bool false, .int .i64 0, .int .i64 1]), []), (.ret (.agg [.bool false, .int .i64 0, .int .i64 0]), []), (.ret (.agg [.bool true, .int .i64 0, .int .i64 0]), []), (.ret (.agg [.bool false, .int .i64 1, .int .i64 (-1)]), []), (.ret (.int .i64 3), [])]) (lps := []) (.t (.t (.t (.t (.t (.t (.t (.t (.t .nil)))))))) : AllB _) (.cons hM (.cons kk4 (.cons kk3 (.cons kk2 (.cons kk1 (.cons kk0 .nil))))) : AllP _) (by kernel_rfl)
def HK4 (_q : Int) : Prop := True
theorem kind4_0 (q : Int) (_h : HK4 q) (hM : CO 18 [.int .i64 q, .int .i64 5] (.ret (.int .i64 4))) : CO 15 [.int .i64 q] (.ret (.agg [.bool false, .int .i64 1, .int .i64 (-1)])) := path_ok good (lf := 3000) (n := 4) (ls := []) (orc := []) (ans := [(.ret (.agg [.bool false, .int .i64 1, .int .i64 0]), []), (.ret (.agg [.bool false, .int .i64 0, .int .i64 1]), []), (.ret (.agg [.bool false, .int .i64 0, .int .i64 0]), []), (.ret (.agg [.bool true, .int .i64 0, .int .i64 0]), []), (.ret (.agg [.bool false, .int .i64 1, .int .i64 (-1)]), []), (.ret (.int .i64 4), [])]) (lps := []) (.t (.t (.t (.t (.t (.t (.t (.t (.t .nil)))))))) : AllB _) (.cons hM (.cons kk4 (.cons kk3 (.cons kk2 (.cons kk1 (.cons kk0 .nil))))) : AllP _) (by kernel_rfl)
/-- The types by their numbers. -/
def kindAV : Nat → AV
  | 0 => .agg [.bool false, .int .i64 1, .int .i64 0]
  | 1 => .agg [.bool false, .int .i64 0, .int .i64 1]
  | 2 => .agg [.bool false, .int .i64 0, .int .i64 0]
  | 3 => .agg [.bool true, .int .i64 0, .int .i64 0]
  | _ => .agg [.bool false, .int .i64 1, .int .i64 (-1)]
/-- 'Mod': the remainder that is not negative. -/
theorem mod_ok (a : Int) (n : Nat) (hn : 0 < n) (hn2 : n < 1000) : ∃ k : Nat, k < n ∧ CO 18 [.int .i64 a, .int .i64 n] (.ret (.int .i64 k)) := by
  have hn0 : (!((n : Int) == (0 : Int))) = true := by
    simp; omega
  have h1 := Int.tmod_lt_of_pos a (b := (n : Int)) (by omega)
  have h2 : -(n : Int) < Int.tmod a n := by
    have := Int.tmod_lt_of_pos (-a) (b := (n : Int)) (by omega)
    rw [Int.neg_tmod] at this
    omega
  by_cases h : Int.tmod a n < 0
  · have hp := mod_p0 a n (by simpa [lit] using h) hn0
    rw [wrap_id (by omega) (by omega)] at hp
    refine ⟨(Int.tmod a n + n).toNat, by omega, ?_⟩
    rw [Int.toNat_of_nonneg (by omega)]
    exact hp
  · have hp := mod_p1 a n (by simpa [lit] using h) hn0
    refine ⟨(Int.tmod a n).toNat, by omega, ?_⟩
    rw [Int.toNat_of_nonneg (by omega)]
    exact hp
/-- 'Kind' gives one of five types. -/
theorem kind_ok (q : Int) : ∃ k : Nat, k < 5 ∧ CO 15 [.int .i64 q] (.ret (kindAV k)) := by
  obtain ⟨k, hk, hM⟩ := mod_ok q 5 (by omega) (by omega)
  refine ⟨k, hk, ?_⟩
  match k, hk, hM with
  | 0, _, hM => exact kind0_0 q trivial hM
  | 1, _, hM => exact kind1_0 q trivial hM
  | 2, _, hM => exact kind2_0 q trivial hM
  | 3, _, hM => exact kind3_0 q trivial hM
  | 4, _, hM => exact kind4_0 q trivial hM
end Go.Proofs.Tryz

set_option maxRecDepth 100000
open Go AM
namespace Go.Proofs.Tryz
theorem kind_agg : ∀ c : Nat, ∃ T m d, kindAV c = .agg [.bool T, .int .i64 m, .int .i64 d]
  | 0 => ⟨_, _, _, rfl⟩
  | 1 => ⟨_, _, _, rfl⟩
  | 2 => ⟨_, _, _, rfl⟩
  | 3 => ⟨_, _, _, rfl⟩
  | _ + 4 => ⟨_, _, _, rfl⟩
theorem ops0 (q0 q1 q2 which : Int) (c : Nat) (T2 : Bool) (m2 d2 : Int) (hM : CO 18 [.int .i64 which, .int .i64 10] (.ret (.int .i64 0))) : ∀ (a b : Nat), a < 5 → b < 5 → c < 5 → CO 15 [.int .i64 q0] (.ret (kindAV a)) → CO 15 [.int .i64 q1] (.ret (kindAV b)) → CO 15 [.int .i64 q2] (.ret (.agg [.bool T2, .int .i64 m2, .int .i64 d2])) → CO 7 [.agg [.int .i64 q0, .int .i64 q1, .int .i64 q2], .int .i64 which] (.ret (.bool true)) := by
  intro a b ha hb hc h0 h1 h2
  match a, b, ha, hb, h0, h1 with
  | 0, 0, _, _, h0, h1 => exact o0_13 (1) (0) (1) (0) T2 m2 d2 ⟨rfl, rfl, rfl, rfl, rfl, rfl, trivial⟩ q0 q1 q2 which h0 h1 h2 hM
  | 0, 1, _, _, h0, h1 => exact o1_12 (1) (0) (0) (1) T2 m2 d2 ⟨rfl, rfl, rfl, rfl, rfl, trivial⟩ q0 q1 q2 which h0 h1 h2 hM
  | 0, 2, _, _, h0, h1 => exact o1_12 (1) (0) (0) (0) T2 m2 d2 ⟨rfl, rfl, rfl, rfl, rfl, trivial⟩ q0 q1 q2 which h0 h1 h2 hM
  | 0, 3, _, _, h0, h1 => exact o2_9 (1) (0) T2 m2 d2 ⟨rfl, rfl, trivial⟩ q0 q1 q2 which h0 h1 h2 hM
  | 0, 4, _, _, h0, h1 => exact o1_12 (1) (0) (1) (-1) T2 m2 d2 ⟨rfl, rfl, rfl, rfl, rfl, trivial⟩ q0 q1 q2 which h0 h1 h2 hM
  | 1, 0, _, _, h0, h1 => exact o1_12 (0) (1) (1) (0) T2 m2 d2 ⟨rfl, rfl, rfl, rfl, rfl, trivial⟩ q0 q1 q2 which h0 h1 h2 hM
  | 1, 1, _, _, h0, h1 => exact o0_13 (0) (1) (0) (1) T2 m2 d2 ⟨rfl, rfl, rfl, rfl, rfl, rfl, trivial⟩ q0 q1 q2 which h0 h1 h2 hM
  | 1, 2, _, _, h0, h1 => exact o1_12 (0) (1) (0) (0) T2 m2 d2 ⟨rfl, rfl, rfl, rfl, rfl, trivial⟩ q0 q1 q2 which h0 h1 h2 hM
  | 1, 3, _, _, h0, h1 => exact o2_9 (0) (1) T2 m2 d2 ⟨rfl, rfl, trivial⟩ q0 q1 q2 which h0 h1 h2 hM
  | 1, 4, _, _, h0, h1 => exact o1_12 (0) (1) (1) (-1) T2 m2 d2 ⟨rfl, rfl, rfl, rfl, rfl, trivial⟩ q0 q1 q2 which h0 h1 h2 hM
  | 2, 0, _, _, h0, h1 => exact o1_12 (0) (0) (1) (0) T2 m2 d2 ⟨rfl, rfl, rfl, rfl, rfl, trivial⟩ q0 q1 q2 which h0 h1 h2 hM
  | 2, 1, _, _, h0, h1 => exact o1_12 (0) (0) (0) (1) T2 m2 d2 ⟨rfl, rfl, rfl, rfl, rfl, trivial⟩ q0 q1 q2 which h0 h1 h2 hM
  | 2, 2, _, _, h0, h1 => exact o0_13 (0) (0) (0) (0) T2 m2 d2 ⟨rfl, rfl, rfl, rfl, rfl, rfl, trivial⟩ q0 q1 q2 which h0 h1 h2 hM
  | 2, 3, _, _, h0, h1 => exact o2_9 (0) (0) T2 m2 d2 ⟨rfl, rfl, trivial⟩ q0 q1 q2 which h0 h1 h2 hM
  | 2, 4, _, _, h0, h1 => exact o1_12 (0) (0) (1) (-1) T2 m2 d2 ⟨rfl, rfl, rfl, rfl, rfl, trivial⟩ q0 q1 q2 which h0 h1 h2 hM
  | 3, 0, _, _, h0, h1 => exact o3_8 (1) (0) T2 m2 d2 ⟨rfl, rfl, trivial⟩ q0 q1 q2 which h0 h1 h2 hM
  | 3, 1, _, _, h0, h1 => exact o3_8 (0) (1) T2 m2 d2 ⟨rfl, rfl, trivial⟩ q0 q1 q2 which h0 h1 h2 hM
  | 3, 2, _, _, h0, h1 => exact o3_8 (0) (0) T2 m2 d2 ⟨rfl, rfl, trivial⟩ q0 q1 q2 which h0 h1 h2 hM
  | 3, 3, _, _, h0, h1 => exact o4_4 T2 m2 d2 trivial q0 q1 q2 which h0 h1 h2 hM
  | 3, 4, _, _, h0, h1 => exact o3_8 (1) (-1) T2 m2 d2 ⟨rfl, rfl, trivial⟩ q0 q1 q2 which h0 h1 h2 hM
  | 4, 0, _, _, h0, h1 => exact o1_12 (1) (-1) (1) (0) T2 m2 d2 ⟨rfl, rfl, rfl, rfl, rfl, trivial⟩ q0 q1 q2 which h0 h1 h2 hM
  | 4, 1, _, _, h0, h1 => exact o1_12 (1) (-1) (0) (1) T2 m2 d2 ⟨rfl, rfl, rfl, rfl, rfl, trivial⟩ q0 q1 q2 which h0 h1 h2 hM
  | 4, 2, _, _, h0, h1 => exact o1_12 (1) (-1) (0) (0) T2 m2 d2 ⟨rfl, rfl, rfl, rfl, rfl, trivial⟩ q0 q1 q2 which h0 h1 h2 hM
  | 4, 3, _, _, h0, h1 => exact o2_9 (1) (-1) T2 m2 d2 ⟨rfl, rfl, trivial⟩ q0 q1 q2 which h0 h1 h2 hM
  | 4, 4, _, _, h0, h1 => exact o0_13 (1) (-1) (1) (-1) T2 m2 d2 ⟨rfl, rfl, rfl, rfl, rfl, rfl, trivial⟩ q0 q1 q2 which h0 h1 h2 hM
theorem ops1 (q0 q1 q2 which : Int) (c : Nat) (T2 : Bool) (m2 d2 : Int) (hM : CO 18 [.int .i64 which, .int .i64 10] (.ret (.int .i64 1))) : ∀ (a b : Nat), a < 5 → b < 5 → c < 5 → CO 15 [.int .i64 q0] (.ret (kindAV a)) → CO 15 [.int .i64 q1] (.ret (kindAV b)) → CO 15 [.int .i64 q2] (.ret (.agg [.bool T2, .int .i64 m2, .int .i64 d2])) → CO 7 [.agg [.int .i64 q0, .int .i64 q1, .int .i64 q2], .int .i64 which] (.ret (.bool true)) := by
  intro a b ha hb hc h0 h1 h2
  match a, b, ha, hb, h0, h1 with
  | 0, 0, _, _, h0, h1 => exact o5_13 (1) (0) (1) (0) T2 m2 d2 ⟨rfl, rfl, rfl, rfl, rfl, rfl, trivial⟩ q0 q1 q2 which h0 h1 h2 hM
  | 0, 1, _, _, h0, h1 => exact o6_12 (1) (0) (0) (1) T2 m2 d2 ⟨rfl, rfl, rfl, rfl, rfl, trivial⟩ q0 q1 q2 which h0 h1 h2 hM
  | 0, 2, _, _, h0, h1 => exact o6_12 (1) (0) (0) (0) T2 m2 d2 ⟨rfl, rfl, rfl, rfl, rfl, trivial⟩ q0 q1 q2 which h0 h1 h2 hM
  | 0, 3, _, _, h0, h1 => exact o7_9 (1) (0) T2 m2 d2 ⟨rfl, rfl, trivial⟩ q0 q1 q2 which h0 h1 h2 hM
  | 0, 4, _, _, h0, h1 => exact o6_12 (1) (0) (1) (-1) T2 m2 d2 ⟨rfl, rfl, rfl, rfl, rfl, trivial⟩ q0 q1 q2 which h0 h1 h2 hM
  | 1, 0, _, _, h0, h1 => exact o6_12 (0) (1) (1) (0) T2 m2 d2 ⟨rfl, rfl, rfl, rfl, rfl, trivial⟩ q0 q1 q2 which h0 h1 h2 hM
  | 1, 1, _, _, h0, h1 => exact o5_13 (0) (1) (0) (1) T2 m2 d2 ⟨rfl, rfl, rfl, rfl, rfl, rfl, trivial⟩ q0 q1 q2 which h0 h1 h2 hM
  | 1, 2, _, _, h0, h1 => exact o6_12 (0) (1) (0) (0) T2 m2 d2 ⟨rfl, rfl, rfl, rfl, rfl, trivial⟩ q0 q1 q2 which h0 h1 h2 hM
  | 1, 3, _, _, h0, h1 => exact o7_9 (0) (1) T2 m2 d2 ⟨rfl, rfl, trivial⟩ q0 q1 q2 which h0 h1 h2 hM
  | 1, 4, _, _, h0, h1 => exact o6_12 (0) (1) (1) (-1) T2 m2 d2 ⟨rfl, rfl, rfl, rfl, rfl, trivial⟩ q0 q1 q2 which h0 h1 h2 hM
  | 2, 0, _, _, h0, h1 => exact o6_12 (0) (0) (1) (0) T2 m2 d2 ⟨rfl, rfl, rfl, rfl, rfl, trivial⟩ q0 q1 q2 which h0 h1 h2 hM
  | 2, 1, _, _, h0, h1 => exact o6_12 (0) (0) (0) (1) T2 m2 d2 ⟨rfl, rfl, rfl, rfl, rfl, trivial⟩ q0 q1 q2 which h0 h1 h2 hM
  | 2, 2, _, _, h0, h1 => exact o5_13 (0) (0) (0) (0) T2 m2 d2 ⟨rfl, rfl, rfl, rfl, rfl, rfl, trivial⟩ q0 q1 q2 which h0 h1 h2 hM
  | 2, 3, _, _, h0, h1 => exact o7_9 (0) (0) T2 m2 d2 ⟨rfl, rfl, trivial⟩ q0 q1 q2 which h0 h1 h2 hM
  | 2, 4, _, _, h0, h1 => exact o6_12 (0) (0) (1) (-1) T2 m2 d2 ⟨rfl, rfl, rfl, rfl, rfl, trivial⟩ q0 q1 q2 which h0 h1 h2 hM
  | 3, 0, _, _, h0, h1 => exact o8_8 (1) (0) T2 m2 d2 ⟨rfl, rfl, trivial⟩ q0 q1 q2 which h0 h1 h2 hM
  | 3, 1, _, _, h0, h1 => exact o8_8 (0) (1) T2 m2 d2 ⟨rfl, rfl, trivial⟩ q0 q1 q2 which h0 h1 h2 hM
  | 3, 2, _, _, h0, h1 => exact o8_8 (0) (0) T2 m2 d2 ⟨rfl, rfl, trivial⟩ q0 q1 q2 which h0 h1 h2 hM
  | 3, 3, _, _, h0, h1 => exact o9_4 T2 m2 d2 trivial q0 q1 q2 which h0 h1 h2 hM
  | 3, 4, _, _, h0, h1 => exact o8_8 (1) (-1) T2 m2 d2 ⟨rfl, rfl, trivial⟩ q0 q1 q2 which h0 h1 h2 hM
  | 4, 0, _, _, h0, h1 => exact o6_12 (1) (-1) (1) (0) T2 m2 d2 ⟨rfl, rfl, rfl, rfl, rfl, trivial⟩ q0 q1 q2 which h0 h1 h2 hM
  | 4, 1, _, _, h0, h1 => exact o6_12 (1) (-1) (0) (1) T2 m2 d2 ⟨rfl, rfl, rfl, rfl, rfl, trivial⟩ q0 q1 q2 which h0 h1 h2 hM
  | 4, 2, _, _, h0, h1 => exact o6_12 (1) (-1) (0) (0) T2 m2 d2 ⟨rfl, rfl, rfl, rfl, rfl, trivial⟩ q0 q1 q2 which h0 h1 h2 hM
  | 4, 3, _, _, h0, h1 => exact o7_9 (1) (-1) T2 m2 d2 ⟨rfl, rfl, trivial⟩ q0 q1 q2 which h0 h1 h2 hM
  | 4, 4, _, _, h0, h1 => exact o5_13 (1) (-1) (1) (-1) T2 m2 d2 ⟨rfl, rfl, rfl, rfl, rfl, rfl, trivial⟩ q0 q1 q2 which h0 h1 h2 hM
theorem ops2 (q0 q1 q2 which : Int) (c : Nat) (T2 : Bool) (m2 d2 : Int) (hM : CO 18 [.int .i64 which, .int .i64 10] (.ret (.int .i64 2))) : ∀ (a b : Nat), a < 5 → b < 5 → c < 5 → CO 15 [.int .i64 q0] (.ret (kindAV a)) → CO 15 [.int .i64 q1] (.ret (kindAV b)) → CO 15 [.int .i64 q2] (.ret (.agg [.bool T2, .int .i64 m2, .int .i64 d2])) → CO 7 [.agg [.int .i64 q0, .int .i64 q1, .int .i64 q2], .int .i64 which] (.ret (.bool true)) := by
  intro a b ha hb hc h0 h1 h2
  match a, b, ha, hb, h0, h1 with
  | 0, 0, _, _, h0, h1 => exact o10_14 (1) (0) (1) (0) T2 m2 d2 ⟨rfl, rfl, rfl, rfl, rfl, rfl, rfl, trivial⟩ q0 q1 q2 which h0 h1 h2 hM
  | 0, 1, _, _, h0, h1 => exact o10_14 (1) (0) (0) (1) T2 m2 d2 ⟨rfl, rfl, rfl, rfl, rfl, rfl, rfl, trivial⟩ q0 q1 q2 which h0 h1 h2 hM
  | 0, 2, _, _, h0, h1 => exact o10_14 (1) (0) (0) (0) T2 m2 d2 ⟨rfl, rfl, rfl, rfl, rfl, rfl, rfl, trivial⟩ q0 q1 q2 which h0 h1 h2 hM
  | 0, 3, _, _, h0, h1 => exact o11_9 (1) (0) T2 m2 d2 ⟨rfl, rfl, trivial⟩ q0 q1 q2 which h0 h1 h2 hM
  | 0, 4, _, _, h0, h1 => exact o10_14 (1) (0) (1) (-1) T2 m2 d2 ⟨rfl, rfl, rfl, rfl, rfl, rfl, rfl, trivial⟩ q0 q1 q2 which h0 h1 h2 hM
  | 1, 0, _, _, h0, h1 => exact o10_14 (0) (1) (1) (0) T2 m2 d2 ⟨rfl, rfl, rfl, rfl, rfl, rfl, rfl, trivial⟩ q0 q1 q2 which h0 h1 h2 hM
  | 1, 1, _, _, h0, h1 => exact o10_14 (0) (1) (0) (1) T2 m2 d2 ⟨rfl, rfl, rfl, rfl, rfl, rfl, rfl, trivial⟩ q0 q1 q2 which h0 h1 h2 hM
  | 1, 2, _, _, h0, h1 => exact o10_14 (0) (1) (0) (0) T2 m2 d2 ⟨rfl, rfl, rfl, rfl, rfl, rfl, rfl, trivial⟩ q0 q1 q2 which h0 h1 h2 hM
  | 1, 3, _, _, h0, h1 => exact o11_9 (0) (1) T2 m2 d2 ⟨rfl, rfl, trivial⟩ q0 q1 q2 which h0 h1 h2 hM
  | 1, 4, _, _, h0, h1 => exact o10_14 (0) (1) (1) (-1) T2 m2 d2 ⟨rfl, rfl, rfl, rfl, rfl, rfl, rfl, trivial⟩ q0 q1 q2 which h0 h1 h2 hM
  | 2, 0, _, _, h0, h1 => exact o10_14 (0) (0) (1) (0) T2 m2 d2 ⟨rfl, rfl, rfl, rfl, rfl, rfl, rfl, trivial⟩ q0 q1 q2 which h0 h1 h2 hM
  | 2, 1, _, _, h0, h1 => exact o10_14 (0) (0) (0) (1) T2 m2 d2 ⟨rfl, rfl, rfl, rfl, rfl, rfl, rfl, trivial⟩ q0 q1 q2 which h0 h1 h2 hM
  | 2, 2, _, _, h0, h1 => exact o10_14 (0) (0) (0) (0) T2 m2 d2 ⟨rfl, rfl, rfl, rfl, rfl, rfl, rfl, trivial⟩ q0 q1 q2 which h0 h1 h2 hM
  | 2, 3, _, _, h0, h1 => exact o11_9 (0) (0) T2 m2 d2 ⟨rfl, rfl, trivial⟩ q0 q1 q2 which h0 h1 h2 hM
  | 2, 4, _, _, h0, h1 => exact o10_14 (0) (0) (1) (-1) T2 m2 d2 ⟨rfl, rfl, rfl, rfl, rfl, rfl, rfl, trivial⟩ q0 q1 q2 which h0 h1 h2 hM
  | 3, 0, _, _, h0, h1 => exact o12_9 (1) (0) T2 m2 d2 ⟨rfl, rfl, trivial⟩ q0 q1 q2 which h0 h1 h2 hM
  | 3, 1, _, _, h0, h1 => exact o12_9 (0) (1) T2 m2 d2 ⟨rfl, rfl, trivial⟩ q0 q1 q2 which h0 h1 h2 hM
  | 3, 2, _, _, h0, h1 => exact o12_9 (0) (0) T2 m2 d2 ⟨rfl, rfl, trivial⟩ q0 q1 q2 which h0 h1 h2 hM
  | 3, 3, _, _, h0, h1 => exact o13_4 T2 m2 d2 trivial q0 q1 q2 which h0 h1 h2 hM
  | 3, 4, _, _, h0, h1 => exact o12_9 (1) (-1) T2 m2 d2 ⟨rfl, rfl, trivial⟩ q0 q1 q2 which h0 h1 h2 hM
  | 4, 0, _, _, h0, h1 => exact o10_14 (1) (-1) (1) (0) T2 m2 d2 ⟨rfl, rfl, rfl, rfl, rfl, rfl, rfl, trivial⟩ q0 q1 q2 which h0 h1 h2 hM
  | 4, 1, _, _, h0, h1 => exact o10_14 (1) (-1) (0) (1) T2 m2 d2 ⟨rfl, rfl, rfl, rfl, rfl, rfl, rfl, trivial⟩ q0 q1 q2 which h0 h1 h2 hM
  | 4, 2, _, _, h0, h1 => exact o10_14 (1) (-1) (0) (0) T2 m2 d2 ⟨rfl, rfl, rfl, rfl, rfl, rfl, rfl, trivial⟩ q0 q1 q2 which h0 h1 h2 hM
  | 4, 3, _, _, h0, h1 => exact o11_9 (1) (-1) T2 m2 d2 ⟨rfl, rfl, trivial⟩ q0 q1 q2 which h0 h1 h2 hM
  | 4, 4, _, _, h0, h1 => exact o10_14 (1) (-1) (1) (-1) T2 m2 d2 ⟨rfl, rfl, rfl, rfl, rfl, rfl, rfl, trivial⟩ q0 q1 q2 which h0 h1 h2 hM
theorem ops3 (q0 q1 q2 which : Int) (c : Nat) (T2 : Bool) (m2 d2 : Int) (hM : CO 18 [.int .i64 which, .int .i64 10] (.ret (.int .i64 3))) : ∀ (a b : Nat), a < 5 → b < 5 → c < 5 → CO 15 [.int .i64 q0] (.ret (kindAV a)) → CO 15 [.int .i64 q1] (.ret (kindAV b)) → CO 15 [.int .i64 q2] (.ret (.agg [.bool T2, .int .i64 m2, .int .i64 d2])) → CO 7 [.agg [.int .i64 q0, .int .i64 q1, .int .i64 q2], .int .i64 which] (.ret (.bool true)) := by
  intro a b ha hb hc h0 h1 h2
  match a, b, ha, hb, h0, h1 with
  | 0, 0, _, _, h0, h1 => exact o14_14 (1) (0) (1) (0) T2 m2 d2 ⟨rfl, rfl, rfl, rfl, rfl, rfl, rfl, trivial⟩ q0 q1 q2 which h0 h1 h2 hM
  | 0, 1, _, _, h0, h1 => exact o14_14 (1) (0) (0) (1) T2 m2 d2 ⟨rfl, rfl, rfl, rfl, rfl, rfl, rfl, trivial⟩ q0 q1 q2 which h0 h1 h2 hM
  | 0, 2, _, _, h0, h1 => exact o14_14 (1) (0) (0) (0) T2 m2 d2 ⟨rfl, rfl, rfl, rfl, rfl, rfl, rfl, trivial⟩ q0 q1 q2 which h0 h1 h2 hM
  | 0, 3, _, _, h0, h1 => exact o15_9 (1) (0) T2 m2 d2 ⟨rfl, rfl, trivial⟩ q0 q1 q2 which h0 h1 h2 hM
  | 0, 4, _, _, h0, h1 => exact o14_14 (1) (0) (1) (-1) T2 m2 d2 ⟨rfl, rfl, rfl, rfl, rfl, rfl, rfl, trivial⟩ q0 q1 q2 which h0 h1 h2 hM
  | 1, 0, _, _, h0, h1 => exact o14_14 (0) (1) (1) (0) T2 m2 d2 ⟨rfl, rfl, rfl, rfl, rfl, rfl, rfl, trivial⟩ q0 q1 q2 which h0 h1 h2 hM
  | 1, 1, _, _, h0, h1 => exact o14_14 (0) (1) (0) (1) T2 m2 d2 ⟨rfl, rfl, rfl, rfl, rfl, rfl, rfl, trivial⟩ q0 q1 q2 which h0 h1 h2 hM
  | 1, 2, _, _, h0, h1 => exact o14_14 (0) (1) (0) (0) T2 m2 d2 ⟨rfl, rfl, rfl, rfl, rfl, rfl, rfl, trivial⟩ q0 q1 q2 which h0 h1 h2 hM
  | 1, 3, _, _, h0, h1 => exact o15_9 (0) (1) T2 m2 d2 ⟨rfl, rfl, trivial⟩ q0 q1 q2 which h0 h1 h2 hM
  | 1, 4, _, _, h0, h1 => exact o14_14 (0) (1) (1) (-1) T2 m2 d2 ⟨rfl, rfl, rfl, rfl, rfl, rfl, rfl, trivial⟩ q0 q1 q2 which h0 h1 h2 hM
  | 2, 0, _, _, h0, h1 => exact o14_14 (0) (0) (1) (0) T2 m2 d2 ⟨rfl, rfl, rfl, rfl, rfl, rfl, rfl, trivial⟩ q0 q1 q2 which h0 h1 h2 hM
  | 2, 1, _, _, h0, h1 => exact o14_14 (0) (0) (0) (1) T2 m2 d2 ⟨rfl, rfl, rfl, rfl, rfl, rfl, rfl, trivial⟩ q0 q1 q2 which h0 h1 h2 hM
  | 2, 2, _, _, h0, h1 => exact o14_14 (0) (0) (0) (0) T2 m2 d2 ⟨rfl, rfl, rfl, rfl, rfl, rfl, rfl, trivial⟩ q0 q1 q2 which h0 h1 h2 hM
  | 2, 3, _, _, h0, h1 => exact o15_9 (0) (0) T2 m2 d2 ⟨rfl, rfl, trivial⟩ q0 q1 q2 which h0 h1 h2 hM
  | 2, 4, _, _, h0, h1 => exact o14_14 (0) (0) (1) (-1) T2 m2 d2 ⟨rfl, rfl, rfl, rfl, rfl, rfl, rfl, trivial⟩ q0 q1 q2 which h0 h1 h2 hM
  | 3, 0, _, _, h0, h1 => exact o16_9 (1) (0) T2 m2 d2 ⟨rfl, rfl, trivial⟩ q0 q1 q2 which h0 h1 h2 hM
  | 3, 1, _, _, h0, h1 => exact o16_9 (0) (1) T2 m2 d2 ⟨rfl, rfl, trivial⟩ q0 q1 q2 which h0 h1 h2 hM
  | 3, 2, _, _, h0, h1 => exact o16_9 (0) (0) T2 m2 d2 ⟨rfl, rfl, trivial⟩ q0 q1 q2 which h0 h1 h2 hM
  | 3, 3, _, _, h0, h1 => exact o17_4 T2 m2 d2 trivial q0 q1 q2 which h0 h1 h2 hM
  | 3, 4, _, _, h0, h1 => exact o16_9 (1) (-1) T2 m2 d2 ⟨rfl, rfl, trivial⟩ q0 q1 q2 which h0 h1 h2 hM
  | 4, 0, _, _, h0, h1 => exact o14_14 (1) (-1) (1) (0) T2 m2 d2 ⟨rfl, rfl, rfl, rfl, rfl, rfl, rfl, trivial⟩ q0 q1 q2 which h0 h1 h2 hM
  | 4, 1, _, _, h0, h1 => exact o14_14 (1) (-1) (0) (1) T2 m2 d2 ⟨rfl, rfl, rfl, rfl, rfl, rfl, rfl, trivial⟩ q0 q1 q2 which h0 h1 h2 hM
  | 4, 2, _, _, h0, h1 => exact o14_14 (1) (-1) (0) (0) T2 m2 d2 ⟨rfl, rfl, rfl, rfl, rfl, rfl, rfl, trivial⟩ q0 q1 q2 which h0 h1 h2 hM
  | 4, 3, _, _, h0, h1 => exact o15_9 (1) (-1) T2 m2 d2 ⟨rfl, rfl, trivial⟩ q0 q1 q2 which h0 h1 h2 hM
  | 4, 4, _, _, h0, h1 => exact o14_14 (1) (-1) (1) (-1) T2 m2 d2 ⟨rfl, rfl, rfl, rfl, rfl, rfl, rfl, trivial⟩ q0 q1 q2 which h0 h1 h2 hM
theorem ops4 (q0 q1 q2 which : Int) (c : Nat) (_T2 : Bool) (_m2 _d2 : Int) (hM : CO 18 [.int .i64 which, .int .i64 10] (.ret (.int .i64 4))) : ∀ (a b : Nat), a < 5 → b < 5 → c < 5 → CO 15 [.int .i64 q0] (.ret (kindAV a)) → CO 15 [.int .i64 q1] (.ret (kindAV b)) → CO 15 [.int .i64 q2] (.ret (kindAV c)) → CO 7 [.agg [.int .i64 q0, .int .i64 q1, .int .i64 q2], .int .i64 which] (.ret (.bool true)) := by
  intro a b ha hb hc h0 h1 h2
  match a, b, c, ha, hb, hc, h0, h1, h2 with
  | 0, 0, 0, _, _, _, h0, h1, h2 => exact o18_15 (1) (0) (1) (0) (1) (0) ⟨rfl, rfl, rfl, rfl, rfl, rfl, trivial⟩ q0 q1 q2 which h0 h1 h2 hM
  | 0, 0, 1, _, _, _, h0, h1, h2 => exact o18_15 (1) (0) (1) (0) (0) (1) ⟨rfl, rfl, rfl, rfl, rfl, rfl, trivial⟩ q0 q1 q2 which h0 h1 h2 hM
  | 0, 0, 2, _, _, _, h0, h1, h2 => exact o18_15 (1) (0) (1) (0) (0) (0) ⟨rfl, rfl, rfl, rfl, rfl, rfl, trivial⟩ q0 q1 q2 which h0 h1 h2 hM
  | 0, 0, 3, _, _, _, h0, h1, h2 => exact o19_12 (1) (0) (1) (0) ⟨rfl, rfl, rfl, rfl, trivial⟩ q0 q1 q2 which h0 h1 h2 hM
  | 0, 0, 4, _, _, _, h0, h1, h2 => exact o18_15 (1) (0) (1) (0) (1) (-1) ⟨rfl, rfl, rfl, rfl, rfl, rfl, trivial⟩ q0 q1 q2 which h0 h1 h2 hM
  | 0, 1, 0, _, _, _, h0, h1, h2 => exact o18_15 (1) (0) (0) (1) (1) (0) ⟨rfl, rfl, rfl, rfl, rfl, rfl, trivial⟩ q0 q1 q2 which h0 h1 h2 hM
  | 0, 1, 1, _, _, _, h0, h1, h2 => exact o18_15 (1) (0) (0) (1) (0) (1) ⟨rfl, rfl, rfl, rfl, rfl, rfl, trivial⟩ q0 q1 q2 which h0 h1 h2 hM
  | 0, 1, 2, _, _, _, h0, h1, h2 => exact o18_15 (1) (0) (0) (1) (0) (0) ⟨rfl, rfl, rfl, rfl, rfl, rfl, trivial⟩ q0 q1 q2 which h0 h1 h2 hM
  | 0, 1, 3, _, _, _, h0, h1, h2 => exact o19_12 (1) (0) (0) (1) ⟨rfl, rfl, rfl, rfl, trivial⟩ q0 q1 q2 which h0 h1 h2 hM
  | 0, 1, 4, _, _, _, h0, h1, h2 => exact o18_15 (1) (0) (0) (1) (1) (-1) ⟨rfl, rfl, rfl, rfl, rfl, rfl, trivial⟩ q0 q1 q2 which h0 h1 h2 hM
  | 0, 2, 0, _, _, _, h0, h1, h2 => exact o18_15 (1) (0) (0) (0) (1) (0) ⟨rfl, rfl, rfl, rfl, rfl, rfl, trivial⟩ q0 q1 q2 which h0 h1 h2 hM
  | 0, 2, 1, _, _, _, h0, h1, h2 => exact o18_15 (1) (0) (0) (0) (0) (1) ⟨rfl, rfl, rfl, rfl, rfl, rfl, trivial⟩ q0 q1 q2 which h0 h1 h2 hM
  | 0, 2, 2, _, _, _, h0, h1, h2 => exact o18_15 (1) (0) (0) (0) (0) (0) ⟨rfl, rfl, rfl, rfl, rfl, rfl, trivial⟩ q0 q1 q2 which h0 h1 h2 hM
  | 0, 2, 3, _, _, _, h0, h1, h2 => exact o19_12 (1) (0) (0) (0) ⟨rfl, rfl, rfl, rfl, trivial⟩ q0 q1 q2 which h0 h1 h2 hM
  | 0, 2, 4, _, _, _, h0, h1, h2 => exact o18_15 (1) (0) (0) (0) (1) (-1) ⟨rfl, rfl, rfl, rfl, rfl, rfl, trivial⟩ q0 q1 q2 which h0 h1 h2 hM
  | 0, 3, 0, _, _, _, h0, h1, h2 => exact o20_12 (1) (0) (1) (0) ⟨rfl, rfl, rfl, rfl, trivial⟩ q0 q1 q2 which h0 h1 h2 hM
  | 0, 3, 1, _, _, _, h0, h1, h2 => exact o20_12 (1) (0) (0) (1) ⟨rfl, rfl, rfl, rfl, trivial⟩ q0 q1 q2 which h0 h1 h2 hM
  | 0, 3, 2, _, _, _, h0, h1, h2 => exact o20_12 (1) (0) (0) (0) ⟨rfl, rfl, rfl, rfl, trivial⟩ q0 q1 q2 which h0 h1 h2 hM
  | 0, 3, 3, _, _, _, h0, h1, h2 => exact o21_9 (1) (0) ⟨rfl, rfl, trivial⟩ q0 q1 q2 which h0 h1 h2 hM
  | 0, 3, 4, _, _, _, h0, h1, h2 => exact o20_12 (1) (0) (1) (-1) ⟨rfl, rfl, rfl, rfl, trivial⟩ q0 q1 q2 which h0 h1 h2 hM
  | 0, 4, 0, _, _, _, h0, h1, h2 => exact o18_15 (1) (0) (1) (-1) (1) (0) ⟨rfl, rfl, rfl, rfl, rfl, rfl, trivial⟩ q0 q1 q2 which h0 h1 h2 hM
  | 0, 4, 1, _, _, _, h0, h1, h2 => exact o18_15 (1) (0) (1) (-1) (0) (1) ⟨rfl, rfl, rfl, rfl, rfl, rfl, trivial⟩ q0 q1 q2 which h0 h1 h2 hM
  | 0, 4, 2, _, _, _, h0, h1, h2 => exact o18_15 (1) (0) (1) (-1) (0) (0) ⟨rfl, rfl, rfl, rfl, rfl, rfl, trivial⟩ q0 q1 q2 which h0 h1 h2 hM
  | 0, 4, 3, _, _, _, h0, h1, h2 => exact o19_12 (1) (0) (1) (-1) ⟨rfl, rfl, rfl, rfl, trivial⟩ q0 q1 q2 which h0 h1 h2 hM
  | 0, 4, 4, _, _, _, h0, h1, h2 => exact o18_15 (1) (0) (1) (-1) (1) (-1) ⟨rfl, rfl, rfl, rfl, rfl, rfl, trivial⟩ q0 q1 q2 which h0 h1 h2 hM
  | 1, 0, 0, _, _, _, h0, h1, h2 => exact o18_15 (0) (1) (1) (0) (1) (0) ⟨rfl, rfl, rfl, rfl, rfl, rfl, trivial⟩ q0 q1 q2 which h0 h1 h2 hM
  | 1, 0, 1, _, _, _, h0, h1, h2 => exact o18_15 (0) (1) (1) (0) (0) (1) ⟨rfl, rfl, rfl, rfl, rfl, rfl, trivial⟩ q0 q1 q2 which h0 h1 h2 hM
  | 1, 0, 2, _, _, _, h0, h1, h2 => exact o18_15 (0) (1) (1) (0) (0) (0) ⟨rfl, rfl, rfl, rfl, rfl, rfl, trivial⟩ q0 q1 q2 which h0 h1 h2 hM
  | 1, 0, 3, _, _, _, h0, h1, h2 => exact o19_12 (0) (1) (1) (0) ⟨rfl, rfl, rfl, rfl, trivial⟩ q0 q1 q2 which h0 h1 h2 hM
  | 1, 0, 4, _, _, _, h0, h1, h2 => exact o18_15 (0) (1) (1) (0) (1) (-1) ⟨rfl, rfl, rfl, rfl, rfl, rfl, trivial⟩ q0 q1 q2 which h0 h1 h2 hM
  | 1, 1, 0, _, _, _, h0, h1, h2 => exact o18_15 (0) (1) (0) (1) (1) (0) ⟨rfl, rfl, rfl, rfl, rfl, rfl, trivial⟩ q0 q1 q2 which h0 h1 h2 hM
  | 1, 1, 1, _, _, _, h0, h1, h2 => exact o18_15 (0) (1) (0) (1) (0) (1) ⟨rfl, rfl, rfl, rfl, rfl, rfl, trivial⟩ q0 q1 q2 which h0 h1 h2 hM
  | 1, 1, 2, _, _, _, h0, h1, h2 => exact o18_15 (0) (1) (0) (1) (0) (0) ⟨rfl, rfl, rfl, rfl, rfl, rfl, trivial⟩ q0 q1 q2 which h0 h1 h2 hM
  | 1, 1, 3, _, _, _, h0, h1, h2 => exact o19_12 (0) (1) (0) (1) ⟨rfl, rfl, rfl, rfl, trivial⟩ q0 q1 q2 which h0 h1 h2 hM
  | 1, 1, 4, _, _, _, h0, h1, h2 => exact o18_15 (0) (1) (0) (1) (1) (-1) ⟨rfl, rfl, rfl, rfl, rfl, rfl, trivial⟩ q0 q1 q2 which h0 h1 h2 hM
  | 1, 2, 0, _, _, _, h0, h1, h2 => exact o18_15 (0) (1) (0) (0) (1) (0) ⟨rfl, rfl, rfl, rfl, rfl, rfl, trivial⟩ q0 q1 q2 which h0 h1 h2 hM
  | 1, 2, 1, _, _, _, h0, h1, h2 => exact o18_15 (0) (1) (0) (0) (0) (1) ⟨rfl, rfl, rfl, rfl, rfl, rfl, trivial⟩ q0 q1 q2 which h0 h1 h2 hM
  | 1, 2, 2, _, _, _, h0, h1, h2 => exact o18_15 (0) (1) (0) (0) (0) (0) ⟨rfl, rfl, rfl, rfl, rfl, rfl, trivial⟩ q0 q1 q2 which h0 h1 h2 hM
  | 1, 2, 3, _, _, _, h0, h1, h2 => exact o19_12 (0) (1) (0) (0) ⟨rfl, rfl, rfl, rfl, trivial⟩ q0 q1 q2 which h0 h1 h2 hM
  | 1, 2, 4, _, _, _, h0, h1, h2 => exact o18_15 (0) (1) (0) (0) (1) (-1) ⟨rfl, rfl, rfl, rfl, rfl, rfl, trivial⟩ q0 q1 q2 which h0 h1 h2 hM
  | 1, 3, 0, _, _, _, h0, h1, h2 => exact o20_12 (0) (1) (1) (0) ⟨rfl, rfl, rfl, rfl, trivial⟩ q0 q1 q2 which h0 h1 h2 hM
  | 1, 3, 1, _, _, _, h0, h1, h2 => exact o20_12 (0) (1) (0) (1) ⟨rfl, rfl, rfl, rfl, trivial⟩ q0 q1 q2 which h0 h1 h2 hM
  | 1, 3, 2, _, _, _, h0, h1, h2 => exact o20_12 (0) (1) (0) (0) ⟨rfl, rfl, rfl, rfl, trivial⟩ q0 q1 q2 which h0 h1 h2 hM
  | 1, 3, 3, _, _, _, h0, h1, h2 => exact o21_9 (0) (1) ⟨rfl, rfl, trivial⟩ q0 q1 q2 which h0 h1 h2 hM
  | 1, 3, 4, _, _, _, h0, h1, h2 => exact o20_12 (0) (1) (1) (-1) ⟨rfl, rfl, rfl, rfl, trivial⟩ q0 q1 q2 which h0 h1 h2 hM
  | 1, 4, 0, _, _, _, h0, h1, h2 => exact o18_15 (0) (1) (1) (-1) (1) (0) ⟨rfl, rfl, rfl, rfl, rfl, rfl, trivial⟩ q0 q1 q2 which h0 h1 h2 hM
  | 1, 4, 1, _, _, _, h0, h1, h2 => exact o18_15 (0) (1) (1) (-1) (0) (1) ⟨rfl, rfl, rfl, rfl, rfl, rfl, trivial⟩ q0 q1 q2 which h0 h1 h2 hM
  | 1, 4, 2, _, _, _, h0, h1, h2 => exact o18_15 (0) (1) (1) (-1) (0) (0) ⟨rfl, rfl, rfl, rfl, rfl, rfl, trivial⟩ q0 q1 q2 which h0 h1 h2 hM
  | 1, 4, 3, _, _, _, h0, h1, h2 => exact o19_12 (0) (1) (1) (-1) ⟨rfl, rfl, rfl, rfl, trivial⟩ q0 q1 q2 which h0 h1 h2 hM
  | 1, 4, 4, _, _, _, h0, h1, h2 => exact o18_15 (0) (1) (1) (-1) (1) (-1) ⟨rfl, rfl, rfl, rfl, rfl, rfl, trivial⟩ q0 q1 q2 which h0 h1 h2 hM
  | 2, 0, 0, _, _, _, h0, h1, h2 => exact o18_15 (0) (0) (1) (0) (1) (0) ⟨rfl, rfl, rfl, rfl, rfl, rfl, trivial⟩ q0 q1 q2 which h0 h1 h2 hM
  | 2, 0, 1, _, _, _, h0, h1, h2 => exact o18_15 (0) (0) (1) (0) (0) (1) ⟨rfl, rfl, rfl, rfl, rfl, rfl, trivial⟩ q0 q1 q2 which h0 h1 h2 hM
  | 2, 0, 2, _, _, _, h0, h1, h2 => exact o18_15 (0) (0) (1) (0) (0) (0) ⟨rfl, rfl, rfl, rfl, rfl, rfl, trivial⟩ q0 q1 q2 which h0 h1 h2 hM
  | 2, 0, 3, _, _, _, h0, h1, h2 => exact o19_12 (0) (0) (1) (0) ⟨rfl, rfl, rfl, rfl, trivial⟩ q0 q1 q2 which h0 h1 h2 hM
  | 2, 0, 4, _, _, _, h0, h1, h2 => exact o18_15 (0) (0) (1) (0) (1) (-1) ⟨rfl, rfl, rfl, rfl, rfl, rfl, trivial⟩ q0 q1 q2 which h0 h1 h2 hM
  | 2, 1, 0, _, _, _, h0, h1, h2 => exact o18_15 (0) (0) (0) (1) (1) (0) ⟨rfl, rfl, rfl, rfl, rfl, rfl, trivial⟩ q0 q1 q2 which h0 h1 h2 hM
  | 2, 1, 1, _, _, _, h0, h1, h2 => exact o18_15 (0) (0) (0) (1) (0) (1) ⟨rfl, rfl, rfl, rfl, rfl, rfl, trivial⟩ q0 q1 q2 which h0 h1 h2 hM
  | 2, 1, 2, _, _, _, h0, h1, h2 => exact o18_15 (0) (0) (0) (1) (0) (0) ⟨rfl, rfl, rfl, rfl, rfl, rfl, trivial⟩ q0 q1 q2 which h0 h1 h2 hM
  | 2, 1, 3, _, _, _, h0, h1, h2 => exact o19_12 (0) (0) (0) (1) ⟨rfl, rfl, rfl, rfl, trivial⟩ q0 q1 q2 which h0 h1 h2 hM
  | 2, 1, 4, _, _, _, h0, h1, h2 => exact o18_15 (0) (0) (0) (1) (1) (-1) ⟨rfl, rfl, rfl, rfl, rfl, rfl, trivial⟩ q0 q1 q2 which h0 h1 h2 hM
  | 2, 2, 0, _, _, _, h0, h1, h2 => exact o18_15 (0) (0) (0) (0) (1) (0) ⟨rfl, rfl, rfl, rfl, rfl, rfl, trivial⟩ q0 q1 q2 which h0 h1 h2 hM
  | 2, 2, 1, _, _, _, h0, h1, h2 => exact o18_15 (0) (0) (0) (0) (0) (1) ⟨rfl, rfl, rfl, rfl, rfl, rfl, trivial⟩ q0 q1 q2 which h0 h1 h2 hM
  | 2, 2, 2, _, _, _, h0, h1, h2 => exact o18_15 (0) (0) (0) (0) (0) (0) ⟨rfl, rfl, rfl, rfl, rfl, rfl, trivial⟩ q0 q1 q2 which h0 h1 h2 hM
  | 2, 2, 3, _, _, _, h0, h1, h2 => exact o19_12 (0) (0) (0) (0) ⟨rfl, rfl, rfl, rfl, trivial⟩ q0 q1 q2 which h0 h1 h2 hM
  | 2, 2, 4, _, _, _, h0, h1, h2 => exact o18_15 (0) (0) (0) (0) (1) (-1) ⟨rfl, rfl, rfl, rfl, rfl, rfl, trivial⟩ q0 q1 q2 which h0 h1 h2 hM
  | 2, 3, 0, _, _, _, h0, h1, h2 => exact o20_12 (0) (0) (1) (0) ⟨rfl, rfl, rfl, rfl, trivial⟩ q0 q1 q2 which h0 h1 h2 hM
  | 2, 3, 1, _, _, _, h0, h1, h2 => exact o20_12 (0) (0) (0) (1) ⟨rfl, rfl, rfl, rfl, trivial⟩ q0 q1 q2 which h0 h1 h2 hM
  | 2, 3, 2, _, _, _, h0, h1, h2 => exact o20_12 (0) (0) (0) (0) ⟨rfl, rfl, rfl, rfl, trivial⟩ q0 q1 q2 which h0 h1 h2 hM
  | 2, 3, 3, _, _, _, h0, h1, h2 => exact o21_9 (0) (0) ⟨rfl, rfl, trivial⟩ q0 q1 q2 which h0 h1 h2 hM
  | 2, 3, 4, _, _, _, h0, h1, h2 => exact o20_12 (0) (0) (1) (-1) ⟨rfl, rfl, rfl, rfl, trivial⟩ q0 q1 q2 which h0 h1 h2 hM
  | 2, 4, 0, _, _, _, h0, h1, h2 => exact o18_15 (0) (0) (1) (-1) (1) (0) ⟨rfl, rfl, rfl, rfl, rfl, rfl, trivial⟩ q0 q1 q2 which h0 h1 h2 hM
  | 2, 4, 1, _, _, _, h0, h1, h2 => exact o18_15 (0) (0) (1) (-1) (0) (1) ⟨rfl, rfl, rfl, rfl, rfl, rfl, trivial⟩ q0 q1 q2 which h0 h1 h2 hM
  | 2, 4, 2, _, _, _, h0, h1, h2 => exact o18_15 (0) (0) (1) (-1) (0) (0) ⟨rfl, rfl, rfl, rfl, rfl, rfl, trivial⟩ q0 q1 q2 which h0 h1 h2 hM
  | 2, 4, 3, _, _, _, h0, h1, h2 => exact o19_12 (0) (0) (1) (-1) ⟨rfl, rfl, rfl, rfl, trivial⟩ q0 q1 q2 which h0 h1 h2 hM
  | 2, 4, 4, _, _, _, h0, h1, h2 => exact o18_15 (0) (0) (1) (-1) (1) (-1) ⟨rfl, rfl, rfl, rfl, rfl, rfl, trivial⟩ q0 q1 q2 which h0 h1 h2 hM
  | 3, 0, 0, _, _, _, h0, h1, h2 => exact o22_13 (1) (0) (1) (0) ⟨rfl, rfl, rfl, rfl, rfl, rfl, rfl, trivial⟩ q0 q1 q2 which h0 h1 h2 hM
  | 3, 0, 1, _, _, _, h0, h1, h2 => exact o23_12 (1) (0) (0) (1) ⟨rfl, rfl, rfl, rfl, rfl, rfl, trivial⟩ q0 q1 q2 which h0 h1 h2 hM
  | 3, 0, 2, _, _, _, h0, h1, h2 => exact o23_12 (1) (0) (0) (0) ⟨rfl, rfl, rfl, rfl, rfl, rfl, trivial⟩ q0 q1 q2 which h0 h1 h2 hM
  | 3, 0, 3, _, _, _, h0, h1, h2 => exact o24_9 (1) (0) ⟨rfl, rfl, trivial⟩ q0 q1 q2 which h0 h1 h2 hM
  | 3, 0, 4, _, _, _, h0, h1, h2 => exact o23_12 (1) (0) (1) (-1) ⟨rfl, rfl, rfl, rfl, rfl, rfl, trivial⟩ q0 q1 q2 which h0 h1 h2 hM
  | 3, 1, 0, _, _, _, h0, h1, h2 => exact o23_12 (0) (1) (1) (0) ⟨rfl, rfl, rfl, rfl, rfl, rfl, trivial⟩ q0 q1 q2 which h0 h1 h2 hM
  | 3, 1, 1, _, _, _, h0, h1, h2 => exact o22_13 (0) (1) (0) (1) ⟨rfl, rfl, rfl, rfl, rfl, rfl, rfl, trivial⟩ q0 q1 q2 which h0 h1 h2 hM
  | 3, 1, 2, _, _, _, h0, h1, h2 => exact o23_12 (0) (1) (0) (0) ⟨rfl, rfl, rfl, rfl, rfl, rfl, trivial⟩ q0 q1 q2 which h0 h1 h2 hM
  | 3, 1, 3, _, _, _, h0, h1, h2 => exact o24_9 (0) (1) ⟨rfl, rfl, trivial⟩ q0 q1 q2 which h0 h1 h2 hM
  | 3, 1, 4, _, _, _, h0, h1, h2 => exact o23_12 (0) (1) (1) (-1) ⟨rfl, rfl, rfl, rfl, rfl, rfl, trivial⟩ q0 q1 q2 which h0 h1 h2 hM
  | 3, 2, 0, _, _, _, h0, h1, h2 => exact o23_12 (0) (0) (1) (0) ⟨rfl, rfl, rfl, rfl, rfl, rfl, trivial⟩ q0 q1 q2 which h0 h1 h2 hM
  | 3, 2, 1, _, _, _, h0, h1, h2 => exact o23_12 (0) (0) (0) (1) ⟨rfl, rfl, rfl, rfl, rfl, rfl, trivial⟩ q0 q1 q2 which h0 h1 h2 hM
  | 3, 2, 2, _, _, _, h0, h1, h2 => exact o22_13 (0) (0) (0) (0) ⟨rfl, rfl, rfl, rfl, rfl, rfl, rfl, trivial⟩ q0 q1 q2 which h0 h1 h2 hM
  | 3, 2, 3, _, _, _, h0, h1, h2 => exact o24_9 (0) (0) ⟨rfl, rfl, trivial⟩ q0 q1 q2 which h0 h1 h2 hM
  | 3, 2, 4, _, _, _, h0, h1, h2 => exact o23_12 (0) (0) (1) (-1) ⟨rfl, rfl, rfl, rfl, rfl, rfl, trivial⟩ q0 q1 q2 which h0 h1 h2 hM
  | 3, 3, 0, _, _, _, h0, h1, h2 => exact o25_9 (1) (0) ⟨rfl, rfl, trivial⟩ q0 q1 q2 which h0 h1 h2 hM
  | 3, 3, 1, _, _, _, h0, h1, h2 => exact o25_9 (0) (1) ⟨rfl, rfl, trivial⟩ q0 q1 q2 which h0 h1 h2 hM
  | 3, 3, 2, _, _, _, h0, h1, h2 => exact o25_9 (0) (0) ⟨rfl, rfl, trivial⟩ q0 q1 q2 which h0 h1 h2 hM
  | 3, 3, 3, _, _, _, h0, h1, h2 => exact o26_0  trivial q0 q1 q2 which h0 h1 h2 hM
  | 3, 3, 4, _, _, _, h0, h1, h2 => exact o25_9 (1) (-1) ⟨rfl, rfl, trivial⟩ q0 q1 q2 which h0 h1 h2 hM
  | 3, 4, 0, _, _, _, h0, h1, h2 => exact o23_12 (1) (-1) (1) (0) ⟨rfl, rfl, rfl, rfl, rfl, rfl, trivial⟩ q0 q1 q2 which h0 h1 h2 hM
  | 3, 4, 1, _, _, _, h0, h1, h2 => exact o23_12 (1) (-1) (0) (1) ⟨rfl, rfl, rfl, rfl, rfl, rfl, trivial⟩ q0 q1 q2 which h0 h1 h2 hM
  | 3, 4, 2, _, _, _, h0, h1, h2 => exact o23_12 (1) (-1) (0) (0) ⟨rfl, rfl, rfl, rfl, rfl, rfl, trivial⟩ q0 q1 q2 which h0 h1 h2 hM
  | 3, 4, 3, _, _, _, h0, h1, h2 => exact o24_9 (1) (-1) ⟨rfl, rfl, trivial⟩ q0 q1 q2 which h0 h1 h2 hM
  | 3, 4, 4, _, _, _, h0, h1, h2 => exact o22_13 (1) (-1) (1) (-1) ⟨rfl, rfl, rfl, rfl, rfl, rfl, rfl, trivial⟩ q0 q1 q2 which h0 h1 h2 hM
  | 4, 0, 0, _, _, _, h0, h1, h2 => exact o18_15 (1) (-1) (1) (0) (1) (0) ⟨rfl, rfl, rfl, rfl, rfl, rfl, trivial⟩ q0 q1 q2 which h0 h1 h2 hM
  | 4, 0, 1, _, _, _, h0, h1, h2 => exact o18_15 (1) (-1) (1) (0) (0) (1) ⟨rfl, rfl, rfl, rfl, rfl, rfl, trivial⟩ q0 q1 q2 which h0 h1 h2 hM
  | 4, 0, 2, _, _, _, h0, h1, h2 => exact o18_15 (1) (-1) (1) (0) (0) (0) ⟨rfl, rfl, rfl, rfl, rfl, rfl, trivial⟩ q0 q1 q2 which h0 h1 h2 hM
  | 4, 0, 3, _, _, _, h0, h1, h2 => exact o19_12 (1) (-1) (1) (0) ⟨rfl, rfl, rfl, rfl, trivial⟩ q0 q1 q2 which h0 h1 h2 hM
  | 4, 0, 4, _, _, _, h0, h1, h2 => exact o18_15 (1) (-1) (1) (0) (1) (-1) ⟨rfl, rfl, rfl, rfl, rfl, rfl, trivial⟩ q0 q1 q2 which h0 h1 h2 hM
  | 4, 1, 0, _, _, _, h0, h1, h2 => exact o18_15 (1) (-1) (0) (1) (1) (0) ⟨rfl, rfl, rfl, rfl, rfl, rfl, trivial⟩ q0 q1 q2 which h0 h1 h2 hM
  | 4, 1, 1, _, _, _, h0, h1, h2 => exact o18_15 (1) (-1) (0) (1) (0) (1) ⟨rfl, rfl, rfl, rfl, rfl, rfl, trivial⟩ q0 q1 q2 which h0 h1 h2 hM
  | 4, 1, 2, _, _, _, h0, h1, h2 => exact o18_15 (1) (-1) (0) (1) (0) (0) ⟨rfl, rfl, rfl, rfl, rfl, rfl, trivial⟩ q0 q1 q2 which h0 h1 h2 hM
  | 4, 1, 3, _, _, _, h0, h1, h2 => exact o19_12 (1) (-1) (0) (1) ⟨rfl, rfl, rfl, rfl, trivial⟩ q0 q1 q2 which h0 h1 h2 hM
  | 4, 1, 4, _, _, _, h0, h1, h2 => exact o18_15 (1) (-1) (0) (1) (1) (-1) ⟨rfl, rfl, rfl, rfl, rfl, rfl, trivial⟩ q0 q1 q2 which h0 h1 h2 hM
  | 4, 2, 0, _, _, _, h0, h1, h2 => exact o18_15 (1) (-1) (0) (0) (1) (0) ⟨rfl, rfl, rfl, rfl, rfl, rfl, trivial⟩ q0 q1 q2 which h0 h1 h2 hM
  | 4, 2, 1, _, _, _, h0, h1, h2 => exact o18_15 (1) (-1) (0) (0) (0) (1) ⟨rfl, rfl, rfl, rfl, rfl, rfl, trivial⟩ q0 q1 q2 which h0 h1 h2 hM
  | 4, 2, 2, _, _, _, h0, h1, h2 => exact o18_15 (1) (-1) (0) (0) (0) (0) ⟨rfl, rfl, rfl, rfl, rfl, rfl, trivial⟩ q0 q1 q2 which h0 h1 h2 hM
  | 4, 2, 3, _, _, _, h0, h1, h2 => exact o19_12 (1) (-1) (0) (0) ⟨rfl, rfl, rfl, rfl, trivial⟩ q0 q1 q2 which h0 h1 h2 hM
  | 4, 2, 4, _, _, _, h0, h1, h2 => exact o18_15 (1) (-1) (0) (0) (1) (-1) ⟨rfl, rfl, rfl, rfl, rfl, rfl, trivial⟩ q0 q1 q2 which h0 h1 h2 hM
  | 4, 3, 0, _, _, _, h0, h1, h2 => exact o20_12 (1) (-1) (1) (0) ⟨rfl, rfl, rfl, rfl, trivial⟩ q0 q1 q2 which h0 h1 h2 hM
  | 4, 3, 1, _, _, _, h0, h1, h2 => exact o20_12 (1) (-1) (0) (1) ⟨rfl, rfl, rfl, rfl, trivial⟩ q0 q1 q2 which h0 h1 h2 hM
  | 4, 3, 2, _, _, _, h0, h1, h2 => exact o20_12 (1) (-1) (0) (0) ⟨rfl, rfl, rfl, rfl, trivial⟩ q0 q1 q2 which h0 h1 h2 hM
  | 4, 3, 3, _, _, _, h0, h1, h2 => exact o21_9 (1) (-1) ⟨rfl, rfl, trivial⟩ q0 q1 q2 which h0 h1 h2 hM
  | 4, 3, 4, _, _, _, h0, h1, h2 => exact o20_12 (1) (-1) (1) (-1) ⟨rfl, rfl, rfl, rfl, trivial⟩ q0 q1 q2 which h0 h1 h2 hM
  | 4, 4, 0, _, _, _, h0, h1, h2 => exact o18_15 (1) (-1) (1) (-1) (1) (0) ⟨rfl, rfl, rfl, rfl, rfl, rfl, trivial⟩ q0 q1 q2 which h0 h1 h2 hM
  | 4, 4, 1, _, _, _, h0, h1, h2 => exact o18_15 (1) (-1) (1) (-1) (0) (1) ⟨rfl, rfl, rfl, rfl, rfl, rfl, trivial⟩ q0 q1 q2 which h0 h1 h2 hM
  | 4, 4, 2, _, _, _, h0, h1, h2 => exact o18_15 (1) (-1) (1) (-1) (0) (0) ⟨rfl, rfl, rfl, rfl, rfl, rfl, trivial⟩ q0 q1 q2 which h0 h1 h2 hM
  | 4, 4, 3, _, _, _, h0, h1, h2 => exact o19_12 (1) (-1) (1) (-1) ⟨rfl, rfl, rfl, rfl, trivial⟩ q0 q1 q2 which h0 h1 h2 hM
  | 4, 4, 4, _, _, _, h0, h1, h2 => exact o18_15 (1) (-1) (1) (-1) (1) (-1) ⟨rfl, rfl, rfl, rfl, rfl, rfl, trivial⟩ q0 q1 q2 which h0 h1 h2 hM
theorem ops5 (q0 q1 q2 which : Int) (c : Nat) (T2 : Bool) (m2 d2 : Int) (hM : CO 18 [.int .i64 which, .int .i64 10] (.ret (.int .i64 5))) : ∀ (a b : Nat), a < 5 → b < 5 → c < 5 → CO 15 [.int .i64 q0] (.ret (kindAV a)) → CO 15 [.int .i64 q1] (.ret (kindAV b)) → CO 15 [.int .i64 q2] (.ret (.agg [.bool T2, .int .i64 m2, .int .i64 d2])) → CO 7 [.agg [.int .i64 q0, .int .i64 q1, .int .i64 q2], .int .i64 which] (.ret (.bool true)) := by
  intro a b ha hb hc h0 h1 h2
  match a, b, ha, hb, h0, h1 with
  | 0, 0, _, _, h0, h1 => exact o27_13 (1) (0) (1) (0) T2 m2 d2 ⟨rfl, rfl, rfl, rfl, rfl, trivial⟩ q0 q1 q2 which h0 h1 h2 hM
  | 0, 1, _, _, h0, h1 => exact o28_12 (1) (0) (0) (1) T2 m2 d2 ⟨rfl, rfl, rfl, rfl, rfl, trivial⟩ q0 q1 q2 which h0 h1 h2 hM
  | 0, 2, _, _, h0, h1 => exact o28_12 (1) (0) (0) (0) T2 m2 d2 ⟨rfl, rfl, rfl, rfl, rfl, trivial⟩ q0 q1 q2 which h0 h1 h2 hM
  | 0, 3, _, _, h0, h1 => exact o29_9 (1) (0) T2 m2 d2 ⟨rfl, rfl, trivial⟩ q0 q1 q2 which h0 h1 h2 hM
  | 0, 4, _, _, h0, h1 => exact o28_12 (1) (0) (1) (-1) T2 m2 d2 ⟨rfl, rfl, rfl, rfl, rfl, trivial⟩ q0 q1 q2 which h0 h1 h2 hM
  | 1, 0, _, _, h0, h1 => exact o28_12 (0) (1) (1) (0) T2 m2 d2 ⟨rfl, rfl, rfl, rfl, rfl, trivial⟩ q0 q1 q2 which h0 h1 h2 hM
  | 1, 1, _, _, h0, h1 => exact o27_13 (0) (1) (0) (1) T2 m2 d2 ⟨rfl, rfl, rfl, rfl, rfl, trivial⟩ q0 q1 q2 which h0 h1 h2 hM
  | 1, 2, _, _, h0, h1 => exact o28_12 (0) (1) (0) (0) T2 m2 d2 ⟨rfl, rfl, rfl, rfl, rfl, trivial⟩ q0 q1 q2 which h0 h1 h2 hM
  | 1, 3, _, _, h0, h1 => exact o29_9 (0) (1) T2 m2 d2 ⟨rfl, rfl, trivial⟩ q0 q1 q2 which h0 h1 h2 hM
  | 1, 4, _, _, h0, h1 => exact o28_12 (0) (1) (1) (-1) T2 m2 d2 ⟨rfl, rfl, rfl, rfl, rfl, trivial⟩ q0 q1 q2 which h0 h1 h2 hM
  | 2, 0, _, _, h0, h1 => exact o28_12 (0) (0) (1) (0) T2 m2 d2 ⟨rfl, rfl, rfl, rfl, rfl, trivial⟩ q0 q1 q2 which h0 h1 h2 hM
  | 2, 1, _, _, h0, h1 => exact o28_12 (0) (0) (0) (1) T2 m2 d2 ⟨rfl, rfl, rfl, rfl, rfl, trivial⟩ q0 q1 q2 which h0 h1 h2 hM
  | 2, 2, _, _, h0, h1 => exact o27_13 (0) (0) (0) (0) T2 m2 d2 ⟨rfl, rfl, rfl, rfl, rfl, trivial⟩ q0 q1 q2 which h0 h1 h2 hM
  | 2, 3, _, _, h0, h1 => exact o29_9 (0) (0) T2 m2 d2 ⟨rfl, rfl, trivial⟩ q0 q1 q2 which h0 h1 h2 hM
  | 2, 4, _, _, h0, h1 => exact o28_12 (0) (0) (1) (-1) T2 m2 d2 ⟨rfl, rfl, rfl, rfl, rfl, trivial⟩ q0 q1 q2 which h0 h1 h2 hM
  | 3, 0, _, _, h0, h1 => exact o30_8 (1) (0) T2 m2 d2 ⟨rfl, rfl, trivial⟩ q0 q1 q2 which h0 h1 h2 hM
  | 3, 1, _, _, h0, h1 => exact o30_8 (0) (1) T2 m2 d2 ⟨rfl, rfl, trivial⟩ q0 q1 q2 which h0 h1 h2 hM
  | 3, 2, _, _, h0, h1 => exact o30_8 (0) (0) T2 m2 d2 ⟨rfl, rfl, trivial⟩ q0 q1 q2 which h0 h1 h2 hM
  | 3, 3, _, _, h0, h1 => exact o31_4 T2 m2 d2 trivial q0 q1 q2 which h0 h1 h2 hM
  | 3, 4, _, _, h0, h1 => exact o30_8 (1) (-1) T2 m2 d2 ⟨rfl, rfl, trivial⟩ q0 q1 q2 which h0 h1 h2 hM
  | 4, 0, _, _, h0, h1 => exact o28_12 (1) (-1) (1) (0) T2 m2 d2 ⟨rfl, rfl, rfl, rfl, rfl, trivial⟩ q0 q1 q2 which h0 h1 h2 hM
  | 4, 1, _, _, h0, h1 => exact o28_12 (1) (-1) (0) (1) T2 m2 d2 ⟨rfl, rfl, rfl, rfl, rfl, trivial⟩ q0 q1 q2 which h0 h1 h2 hM
  | 4, 2, _, _, h0, h1 => exact o28_12 (1) (-1) (0) (0) T2 m2 d2 ⟨rfl, rfl, rfl, rfl, rfl, trivial⟩ q0 q1 q2 which h0 h1 h2 hM
  | 4, 3, _, _, h0, h1 => exact o29_9 (1) (-1) T2 m2 d2 ⟨rfl, rfl, trivial⟩ q0 q1 q2 which h0 h1 h2 hM
  | 4, 4, _, _, h0, h1 => exact o27_13 (1) (-1) (1) (-1) T2 m2 d2 ⟨rfl, rfl, rfl, rfl, rfl, trivial⟩ q0 q1 q2 which h0 h1 h2 hM
theorem ops6 (q0 q1 q2 which : Int) (c : Nat) (T2 : Bool) (m2 d2 : Int) (hM : CO 18 [.int .i64 which, .int .i64 10] (.ret (.int .i64 6))) : ∀ (a b : Nat), a < 5 → b < 5 → c < 5 → CO 15 [.int .i64 q0] (.ret (kindAV a)) → CO 15 [.int .i64 q1] (.ret (kindAV b)) → CO 15 [.int .i64 q2] (.ret (.agg [.bool T2, .int .i64 m2, .int .i64 d2])) → CO 7 [.agg [.int .i64 q0, .int .i64 q1, .int .i64 q2], .int .i64 which] (.ret (.bool true)) := by
  intro a b ha hb hc h0 h1 h2
  match a, b, ha, hb, h0, h1 with
  | 0, 0, _, _, h0, h1 => exact o32_12 (1) (0) (1) (0) T2 m2 d2 ⟨rfl, rfl, rfl, rfl, rfl, rfl, trivial⟩ q0 q1 q2 which h0 h1 h2 hM
  | 0, 1, _, _, h0, h1 => exact o33_11 (1) (0) (0) (1) T2 m2 d2 ⟨rfl, rfl, rfl, rfl, rfl, rfl, trivial⟩ q0 q1 q2 which h0 h1 h2 hM
  | 0, 2, _, _, h0, h1 => exact o33_11 (1) (0) (0) (0) T2 m2 d2 ⟨rfl, rfl, rfl, rfl, rfl, rfl, trivial⟩ q0 q1 q2 which h0 h1 h2 hM
  | 0, 3, _, _, h0, h1 => exact o34_8 (1) (0) T2 m2 d2 ⟨rfl, rfl, trivial⟩ q0 q1 q2 which h0 h1 h2 hM
  | 0, 4, _, _, h0, h1 => exact o33_11 (1) (0) (1) (-1) T2 m2 d2 ⟨rfl, rfl, rfl, rfl, rfl, rfl, trivial⟩ q0 q1 q2 which h0 h1 h2 hM
  | 1, 0, _, _, h0, h1 => exact o33_11 (0) (1) (1) (0) T2 m2 d2 ⟨rfl, rfl, rfl, rfl, rfl, rfl, trivial⟩ q0 q1 q2 which h0 h1 h2 hM
  | 1, 1, _, _, h0, h1 => exact o32_12 (0) (1) (0) (1) T2 m2 d2 ⟨rfl, rfl, rfl, rfl, rfl, rfl, trivial⟩ q0 q1 q2 which h0 h1 h2 hM
  | 1, 2, _, _, h0, h1 => exact o33_11 (0) (1) (0) (0) T2 m2 d2 ⟨rfl, rfl, rfl, rfl, rfl, rfl, trivial⟩ q0 q1 q2 which h0 h1 h2 hM
  | 1, 3, _, _, h0, h1 => exact o34_8 (0) (1) T2 m2 d2 ⟨rfl, rfl, trivial⟩ q0 q1 q2 which h0 h1 h2 hM
  | 1, 4, _, _, h0, h1 => exact o33_11 (0) (1) (1) (-1) T2 m2 d2 ⟨rfl, rfl, rfl, rfl, rfl, rfl, trivial⟩ q0 q1 q2 which h0 h1 h2 hM
  | 2, 0, _, _, h0, h1 => exact o33_11 (0) (0) (1) (0) T2 m2 d2 ⟨rfl, rfl, rfl, rfl, rfl, rfl, trivial⟩ q0 q1 q2 which h0 h1 h2 hM
  | 2, 1, _, _, h0, h1 => exact o33_11 (0) (0) (0) (1) T2 m2 d2 ⟨rfl, rfl, rfl, rfl, rfl, rfl, trivial⟩ q0 q1 q2 which h0 h1 h2 hM
  | 2, 2, _, _, h0, h1 => exact o32_12 (0) (0) (0) (0) T2 m2 d2 ⟨rfl, rfl, rfl, rfl, rfl, rfl, trivial⟩ q0 q1 q2 which h0 h1 h2 hM
  | 2, 3, _, _, h0, h1 => exact o34_8 (0) (0) T2 m2 d2 ⟨rfl, rfl, trivial⟩ q0 q1 q2 which h0 h1 h2 hM
  | 2, 4, _, _, h0, h1 => exact o33_11 (0) (0) (1) (-1) T2 m2 d2 ⟨rfl, rfl, rfl, rfl, rfl, rfl, trivial⟩ q0 q1 q2 which h0 h1 h2 hM
  | 3, 0, _, _, h0, h1 => exact o35_8 (1) (0) T2 m2 d2 ⟨rfl, rfl, trivial⟩ q0 q1 q2 which h0 h1 h2 hM
  | 3, 1, _, _, h0, h1 => exact o35_8 (0) (1) T2 m2 d2 ⟨rfl, rfl, trivial⟩ q0 q1 q2 which h0 h1 h2 hM
  | 3, 2, _, _, h0, h1 => exact o35_8 (0) (0) T2 m2 d2 ⟨rfl, rfl, trivial⟩ q0 q1 q2 which h0 h1 h2 hM
  | 3, 3, _, _, h0, h1 => exact o36_5 T2 m2 d2 trivial q0 q1 q2 which h0 h1 h2 hM
  | 3, 4, _, _, h0, h1 => exact o35_8 (1) (-1) T2 m2 d2 ⟨rfl, rfl, trivial⟩ q0 q1 q2 which h0 h1 h2 hM
  | 4, 0, _, _, h0, h1 => exact o33_11 (1) (-1) (1) (0) T2 m2 d2 ⟨rfl, rfl, rfl, rfl, rfl, rfl, trivial⟩ q0 q1 q2 which h0 h1 h2 hM
  | 4, 1, _, _, h0, h1 => exact o33_11 (1) (-1) (0) (1) T2 m2 d2 ⟨rfl, rfl, rfl, rfl, rfl, rfl, trivial⟩ q0 q1 q2 which h0 h1 h2 hM
  | 4, 2, _, _, h0, h1 => exact o33_11 (1) (-1) (0) (0) T2 m2 d2 ⟨rfl, rfl, rfl, rfl, rfl, rfl, trivial⟩ q0 q1 q2 which h0 h1 h2 hM
  | 4, 3, _, _, h0, h1 => exact o34_8 (1) (-1) T2 m2 d2 ⟨rfl, rfl, trivial⟩ q0 q1 q2 which h0 h1 h2 hM
  | 4, 4, _, _, h0, h1 => exact o32_12 (1) (-1) (1) (-1) T2 m2 d2 ⟨rfl, rfl, rfl, rfl, rfl, rfl, trivial⟩ q0 q1 q2 which h0 h1 h2 hM
theorem ops7 (q0 q1 q2 which : Int) (c : Nat) (T2 : Bool) (m2 d2 : Int) (hM : CO 18 [.int .i64 which, .int .i64 10] (.ret (.int .i64 7))) : ∀ (a b : Nat), a < 5 → b < 5 → c < 5 → CO 15 [.int .i64 q0] (.ret (kindAV a)) → CO 15 [.int .i64 q1] (.ret (kindAV b)) → CO 15 [.int .i64 q2] (.ret (.agg [.bool T2, .int .i64 m2, .int .i64 d2])) → CO 7 [.agg [.int .i64 q0, .int .i64 q1, .int .i64 q2], .int .i64 which] (.ret (.bool true)) := by
  intro a b ha hb hc h0 h1 h2
  match a, b, ha, hb, h0, h1 with
  | 0, 0, _, _, h0, h1 => exact o37_11 (1) (0) (1) (0) T2 m2 d2 ⟨rfl, rfl, rfl, rfl, trivial⟩ q0 q1 q2 which h0 h1 h2 hM
  | 0, 1, _, _, h0, h1 => exact o37_11 (1) (0) (0) (1) T2 m2 d2 ⟨rfl, rfl, rfl, rfl, trivial⟩ q0 q1 q2 which h0 h1 h2 hM
  | 0, 2, _, _, h0, h1 => exact o37_11 (1) (0) (0) (0) T2 m2 d2 ⟨rfl, rfl, rfl, rfl, trivial⟩ q0 q1 q2 which h0 h1 h2 hM
  | 0, 3, _, _, h0, h1 => exact o38_8 (1) (0) T2 m2 d2 ⟨rfl, rfl, trivial⟩ q0 q1 q2 which h0 h1 h2 hM
  | 0, 4, _, _, h0, h1 => exact o37_11 (1) (0) (1) (-1) T2 m2 d2 ⟨rfl, rfl, rfl, rfl, trivial⟩ q0 q1 q2 which h0 h1 h2 hM
  | 1, 0, _, _, h0, h1 => exact o37_11 (0) (1) (1) (0) T2 m2 d2 ⟨rfl, rfl, rfl, rfl, trivial⟩ q0 q1 q2 which h0 h1 h2 hM
  | 1, 1, _, _, h0, h1 => exact o37_11 (0) (1) (0) (1) T2 m2 d2 ⟨rfl, rfl, rfl, rfl, trivial⟩ q0 q1 q2 which h0 h1 h2 hM
  | 1, 2, _, _, h0, h1 => exact o37_11 (0) (1) (0) (0) T2 m2 d2 ⟨rfl, rfl, rfl, rfl, trivial⟩ q0 q1 q2 which h0 h1 h2 hM
  | 1, 3, _, _, h0, h1 => exact o38_8 (0) (1) T2 m2 d2 ⟨rfl, rfl, trivial⟩ q0 q1 q2 which h0 h1 h2 hM
  | 1, 4, _, _, h0, h1 => exact o37_11 (0) (1) (1) (-1) T2 m2 d2 ⟨rfl, rfl, rfl, rfl, trivial⟩ q0 q1 q2 which h0 h1 h2 hM
  | 2, 0, _, _, h0, h1 => exact o37_11 (0) (0) (1) (0) T2 m2 d2 ⟨rfl, rfl, rfl, rfl, trivial⟩ q0 q1 q2 which h0 h1 h2 hM
  | 2, 1, _, _, h0, h1 => exact o37_11 (0) (0) (0) (1) T2 m2 d2 ⟨rfl, rfl, rfl, rfl, trivial⟩ q0 q1 q2 which h0 h1 h2 hM
  | 2, 2, _, _, h0, h1 => exact o37_11 (0) (0) (0) (0) T2 m2 d2 ⟨rfl, rfl, rfl, rfl, trivial⟩ q0 q1 q2 which h0 h1 h2 hM
  | 2, 3, _, _, h0, h1 => exact o38_8 (0) (0) T2 m2 d2 ⟨rfl, rfl, trivial⟩ q0 q1 q2 which h0 h1 h2 hM
  | 2, 4, _, _, h0, h1 => exact o37_11 (0) (0) (1) (-1) T2 m2 d2 ⟨rfl, rfl, rfl, rfl, trivial⟩ q0 q1 q2 which h0 h1 h2 hM
  | 3, 0, _, _, h0, h1 => exact o39_8 (1) (0) T2 m2 d2 ⟨rfl, rfl, trivial⟩ q0 q1 q2 which h0 h1 h2 hM
  | 3, 1, _, _, h0, h1 => exact o39_8 (0) (1) T2 m2 d2 ⟨rfl, rfl, trivial⟩ q0 q1 q2 which h0 h1 h2 hM
  | 3, 2, _, _, h0, h1 => exact o39_8 (0) (0) T2 m2 d2 ⟨rfl, rfl, trivial⟩ q0 q1 q2 which h0 h1 h2 hM
  | 3, 3, _, _, h0, h1 => exact o40_5 T2 m2 d2 trivial q0 q1 q2 which h0 h1 h2 hM
  | 3, 4, _, _, h0, h1 => exact o39_8 (1) (-1) T2 m2 d2 ⟨rfl, rfl, trivial⟩ q0 q1 q2 which h0 h1 h2 hM
  | 4, 0, _, _, h0, h1 => exact o37_11 (1) (-1) (1) (0) T2 m2 d2 ⟨rfl, rfl, rfl, rfl, trivial⟩ q0 q1 q2 which h0 h1 h2 hM
  | 4, 1, _, _, h0, h1 => exact o37_11 (1) (-1) (0) (1) T2 m2 d2 ⟨rfl, rfl, rfl, rfl, trivial⟩ q0 q1 q2 which h0 h1 h2 hM
  | 4, 2, _, _, h0, h1 => exact o37_11 (1) (-1) (0) (0) T2 m2 d2 ⟨rfl, rfl, rfl, rfl, trivial⟩ q0 q1 q2 which h0 h1 h2 hM
  | 4, 3, _, _, h0, h1 => exact o38_8 (1) (-1) T2 m2 d2 ⟨rfl, rfl, trivial⟩ q0 q1 q2 which h0 h1 h2 hM
  | 4, 4, _, _, h0, h1 => exact o37_11 (1) (-1) (1) (-1) T2 m2 d2 ⟨rfl, rfl, rfl, rfl, trivial⟩ q0 q1 q2 which h0 h1 h2 hM
theorem ops8 (q0 q1 q2 which : Int) (c : Nat) (T2 : Bool) (m2 d2 : Int) (hM : CO 18 [.int .i64 which, .int .i64 10] (.ret (.int .i64 8))) : ∀ (a b : Nat), a < 5 → b < 5 → c < 5 → CO 15 [.int .i64 q0] (.ret (kindAV a)) → CO 15 [.int .i64 q1] (.ret (kindAV b)) → CO 15 [.int .i64 q2] (.ret (.agg [.bool T2, .int .i64 m2, .int .i64 d2])) → CO 7 [.agg [.int .i64 q0, .int .i64 q1, .int .i64 q2], .int .i64 which] (.ret (.bool true)) := by
  intro a b ha hb hc h0 h1 h2
  match a, b, ha, hb, h0, h1 with
  | 0, 0, _, _, h0, h1 => exact o41_7 (1) (0) (1) (0) T2 m2 d2 ⟨rfl, rfl, trivial⟩ q0 q1 q2 which h0 h1 h2 hM
  | 0, 1, _, _, h0, h1 => exact o41_7 (1) (0) (0) (1) T2 m2 d2 ⟨rfl, rfl, trivial⟩ q0 q1 q2 which h0 h1 h2 hM
  | 0, 2, _, _, h0, h1 => exact o41_7 (1) (0) (0) (0) T2 m2 d2 ⟨rfl, rfl, trivial⟩ q0 q1 q2 which h0 h1 h2 hM
  | 0, 3, _, _, h0, h1 => exact o42_7 (1) (0) T2 m2 d2 ⟨rfl, rfl, trivial⟩ q0 q1 q2 which h0 h1 h2 hM
  | 0, 4, _, _, h0, h1 => exact o41_7 (1) (0) (1) (-1) T2 m2 d2 ⟨rfl, rfl, trivial⟩ q0 q1 q2 which h0 h1 h2 hM
  | 1, 0, _, _, h0, h1 => exact o41_7 (0) (1) (1) (0) T2 m2 d2 ⟨rfl, rfl, trivial⟩ q0 q1 q2 which h0 h1 h2 hM
  | 1, 1, _, _, h0, h1 => exact o41_7 (0) (1) (0) (1) T2 m2 d2 ⟨rfl, rfl, trivial⟩ q0 q1 q2 which h0 h1 h2 hM
  | 1, 2, _, _, h0, h1 => exact o41_7 (0) (1) (0) (0) T2 m2 d2 ⟨rfl, rfl, trivial⟩ q0 q1 q2 which h0 h1 h2 hM
  | 1, 3, _, _, h0, h1 => exact o42_7 (0) (1) T2 m2 d2 ⟨rfl, rfl, trivial⟩ q0 q1 q2 which h0 h1 h2 hM
  | 1, 4, _, _, h0, h1 => exact o41_7 (0) (1) (1) (-1) T2 m2 d2 ⟨rfl, rfl, trivial⟩ q0 q1 q2 which h0 h1 h2 hM
  | 2, 0, _, _, h0, h1 => exact o41_7 (0) (0) (1) (0) T2 m2 d2 ⟨rfl, rfl, trivial⟩ q0 q1 q2 which h0 h1 h2 hM
  | 2, 1, _, _, h0, h1 => exact o41_7 (0) (0) (0) (1) T2 m2 d2 ⟨rfl, rfl, trivial⟩ q0 q1 q2 which h0 h1 h2 hM
  | 2, 2, _, _, h0, h1 => exact o41_7 (0) (0) (0) (0) T2 m2 d2 ⟨rfl, rfl, trivial⟩ q0 q1 q2 which h0 h1 h2 hM
  | 2, 3, _, _, h0, h1 => exact o42_7 (0) (0) T2 m2 d2 ⟨rfl, rfl, trivial⟩ q0 q1 q2 which h0 h1 h2 hM
  | 2, 4, _, _, h0, h1 => exact o41_7 (0) (0) (1) (-1) T2 m2 d2 ⟨rfl, rfl, trivial⟩ q0 q1 q2 which h0 h1 h2 hM
  | 3, 0, _, _, h0, h1 => exact o43_4 (1) (0) T2 m2 d2 trivial q0 q1 q2 which h0 h1 h2 hM
  | 3, 1, _, _, h0, h1 => exact o43_4 (0) (1) T2 m2 d2 trivial q0 q1 q2 which h0 h1 h2 hM
  | 3, 2, _, _, h0, h1 => exact o43_4 (0) (0) T2 m2 d2 trivial q0 q1 q2 which h0 h1 h2 hM
  | 3, 3, _, _, h0, h1 => exact o44_4 T2 m2 d2 trivial q0 q1 q2 which h0 h1 h2 hM
  | 3, 4, _, _, h0, h1 => exact o43_4 (1) (-1) T2 m2 d2 trivial q0 q1 q2 which h0 h1 h2 hM
  | 4, 0, _, _, h0, h1 => exact o41_7 (1) (-1) (1) (0) T2 m2 d2 ⟨rfl, rfl, trivial⟩ q0 q1 q2 which h0 h1 h2 hM
  | 4, 1, _, _, h0, h1 => exact o41_7 (1) (-1) (0) (1) T2 m2 d2 ⟨rfl, rfl, trivial⟩ q0 q1 q2 which h0 h1 h2 hM
  | 4, 2, _, _, h0, h1 => exact o41_7 (1) (-1) (0) (0) T2 m2 d2 ⟨rfl, rfl, trivial⟩ q0 q1 q2 which h0 h1 h2 hM
  | 4, 3, _, _, h0, h1 => exact o42_7 (1) (-1) T2 m2 d2 ⟨rfl, rfl, trivial⟩ q0 q1 q2 which h0 h1 h2 hM
  | 4, 4, _, _, h0, h1 => exact o41_7 (1) (-1) (1) (-1) T2 m2 d2 ⟨rfl, rfl, trivial⟩ q0 q1 q2 which h0 h1 h2 hM
theorem ops9 (q0 q1 q2 which : Int) (c : Nat) (T2 : Bool) (m2 d2 : Int) (hM : CO 18 [.int .i64 which, .int .i64 10] (.ret (.int .i64 9))) : ∀ (a b : Nat), a < 5 → b < 5 → c < 5 → CO 15 [.int .i64 q0] (.ret (kindAV a)) → CO 15 [.int .i64 q1] (.ret (kindAV b)) → CO 15 [.int .i64 q2] (.ret (.agg [.bool T2, .int .i64 m2, .int .i64 d2])) → CO 7 [.agg [.int .i64 q0, .int .i64 q1, .int .i64 q2], .int .i64 which] (.ret (.bool true)) := by
  intro a b ha hb hc h0 h1 h2
  match a, b, ha, hb, h0, h1 with
  | 0, 0, _, _, h0, h1 => exact o45_8 (1) (0) (1) (0) T2 m2 d2 ⟨rfl, rfl, rfl, trivial⟩ q0 q1 q2 which h0 h1 h2 hM
  | 0, 1, _, _, h0, h1 => exact o45_8 (1) (0) (0) (1) T2 m2 d2 ⟨rfl, rfl, rfl, trivial⟩ q0 q1 q2 which h0 h1 h2 hM
  | 0, 2, _, _, h0, h1 => exact o45_8 (1) (0) (0) (0) T2 m2 d2 ⟨rfl, rfl, rfl, trivial⟩ q0 q1 q2 which h0 h1 h2 hM
  | 0, 3, _, _, h0, h1 => exact o46_8 (1) (0) T2 m2 d2 ⟨rfl, rfl, rfl, trivial⟩ q0 q1 q2 which h0 h1 h2 hM
  | 0, 4, _, _, h0, h1 => exact o45_8 (1) (0) (1) (-1) T2 m2 d2 ⟨rfl, rfl, rfl, trivial⟩ q0 q1 q2 which h0 h1 h2 hM
  | 1, 0, _, _, h0, h1 => exact o45_8 (0) (1) (1) (0) T2 m2 d2 ⟨rfl, rfl, rfl, trivial⟩ q0 q1 q2 which h0 h1 h2 hM
  | 1, 1, _, _, h0, h1 => exact o45_8 (0) (1) (0) (1) T2 m2 d2 ⟨rfl, rfl, rfl, trivial⟩ q0 q1 q2 which h0 h1 h2 hM
  | 1, 2, _, _, h0, h1 => exact o45_8 (0) (1) (0) (0) T2 m2 d2 ⟨rfl, rfl, rfl, trivial⟩ q0 q1 q2 which h0 h1 h2 hM
  | 1, 3, _, _, h0, h1 => exact o46_8 (0) (1) T2 m2 d2 ⟨rfl, rfl, rfl, trivial⟩ q0 q1 q2 which h0 h1 h2 hM
  | 1, 4, _, _, h0, h1 => exact o45_8 (0) (1) (1) (-1) T2 m2 d2 ⟨rfl, rfl, rfl, trivial⟩ q0 q1 q2 which h0 h1 h2 hM
  | 2, 0, _, _, h0, h1 => exact o45_8 (0) (0) (1) (0) T2 m2 d2 ⟨rfl, rfl, rfl, trivial⟩ q0 q1 q2 which h0 h1 h2 hM
  | 2, 1, _, _, h0, h1 => exact o45_8 (0) (0) (0) (1) T2 m2 d2 ⟨rfl, rfl, rfl, trivial⟩ q0 q1 q2 which h0 h1 h2 hM
  | 2, 2, _, _, h0, h1 => exact o45_8 (0) (0) (0) (0) T2 m2 d2 ⟨rfl, rfl, rfl, trivial⟩ q0 q1 q2 which h0 h1 h2 hM
  | 2, 3, _, _, h0, h1 => exact o46_8 (0) (0) T2 m2 d2 ⟨rfl, rfl, rfl, trivial⟩ q0 q1 q2 which h0 h1 h2 hM
  | 2, 4, _, _, h0, h1 => exact o45_8 (0) (0) (1) (-1) T2 m2 d2 ⟨rfl, rfl, rfl, trivial⟩ q0 q1 q2 which h0 h1 h2 hM
  | 3, 0, _, _, h0, h1 => exact o47_3 (1) (0) T2 m2 d2 trivial q0 q1 q2 which h0 h1 h2 hM
  | 3, 1, _, _, h0, h1 => exact o47_3 (0) (1) T2 m2 d2 trivial q0 q1 q2 which h0 h1 h2 hM
  | 3, 2, _, _, h0, h1 => exact o47_3 (0) (0) T2 m2 d2 trivial q0 q1 q2 which h0 h1 h2 hM
  | 3, 3, _, _, h0, h1 => exact o48_3 T2 m2 d2 trivial q0 q1 q2 which h0 h1 h2 hM
  | 3, 4, _, _, h0, h1 => exact o47_3 (1) (-1) T2 m2 d2 trivial q0 q1 q2 which h0 h1 h2 hM
  | 4, 0, _, _, h0, h1 => exact o45_8 (1) (-1) (1) (0) T2 m2 d2 ⟨rfl, rfl, rfl, trivial⟩ q0 q1 q2 which h0 h1 h2 hM
  | 4, 1, _, _, h0, h1 => exact o45_8 (1) (-1) (0) (1) T2 m2 d2 ⟨rfl, rfl, rfl, trivial⟩ q0 q1 q2 which h0 h1 h2 hM
  | 4, 2, _, _, h0, h1 => exact o45_8 (1) (-1) (0) (0) T2 m2 d2 ⟨rfl, rfl, rfl, trivial⟩ q0 q1 q2 which h0 h1 h2 hM
  | 4, 3, _, _, h0, h1 => exact o46_8 (1) (-1) T2 m2 d2 ⟨rfl, rfl, rfl, trivial⟩ q0 q1 q2 which h0 h1 h2 hM
  | 4, 4, _, _, h0, h1 => exact o45_8 (1) (-1) (1) (-1) T2 m2 d2 ⟨rfl, rfl, rfl, trivial⟩ q0 q1 q2 which h0 h1 h2 hM
/-- 'CheckOperators' returns true. -/
theorem operators_ok (q0 q1 q2 which : Int) : CO 7 [.agg [.int .i64 q0, .int .i64 q1, .int .i64 q2], .int .i64 which] (.ret (.bool true)) := by
  obtain ⟨a, ha, h0⟩ := kind_ok q0
  obtain ⟨b, hb, h1⟩ := kind_ok q1
  obtain ⟨c, hc, h2⟩ := kind_ok q2
  obtain ⟨w, hw, hM⟩ := mod_ok which 10 (by omega) (by omega)
  obtain ⟨T2, m2, d2, e⟩ := kind_agg c
  have h2' := h2
  rw [e] at h2'
  match w, hw, hM with
  | 0, _, hM => exact ops0 q0 q1 q2 which c T2 m2 d2 hM a b ha hb hc h0 h1 h2'
  | 1, _, hM => exact ops1 q0 q1 q2 which c T2 m2 d2 hM a b ha hb hc h0 h1 h2'
  | 2, _, hM => exact ops2 q0 q1 q2 which c T2 m2 d2 hM a b ha hb hc h0 h1 h2'
  | 3, _, hM => exact ops3 q0 q1 q2 which c T2 m2 d2 hM a b ha hb hc h0 h1 h2'
  | 4, _, hM => exact ops4 q0 q1 q2 which c T2 m2 d2 hM a b ha hb hc h0 h1 h2
  | 5, _, hM => exact ops5 q0 q1 q2 which c T2 m2 d2 hM a b ha hb hc h0 h1 h2'
  | 6, _, hM => exact ops6 q0 q1 q2 which c T2 m2 d2 hM a b ha hb hc h0 h1 h2'
  | 7, _, hM => exact ops7 q0 q1 q2 which c T2 m2 d2 hM a b ha hb hc h0 h1 h2'
  | 8, _, hM => exact ops8 q0 q1 q2 which c T2 m2 d2 hM a b ha hb hc h0 h1 h2'
  | 9, _, hM => exact ops9 q0 q1 q2 which c T2 m2 d2 hM a b ha hb hc h0 h1 h2'
end Go.Proofs.Tryz

set_option maxRecDepth 100000
open Go AM Go.ChangeShapes Go.WideShapes Go.ChangeAt Go.RowKit
namespace Go.Proofs.YtpjkeigmiooooaaGreatDoor.operators
open Go.Proofs.Tryz

theorem laid_met (os : Os) : laidMet Tryz.prog Rows.checkOperatorsRow.laid ((laidWorld os).forCall (fun _ _ => 0) ⟨#[], #[.agg #[.int .i64 0, .int .i64 0, .int .i64 0], .int .i64 0], []⟩).memory :=
  laidMet_of_run' 8 (by kernel_rfl) (by kernel_rfl)
theorem reads (os : Os) {H : Type} (enc : TypeId × Value → H) : ∃ places, DataW.whole enc Tryz.prog ((laidWorld os).forCall (fun _ _ => 0) ⟨#[], #[.agg #[.int .i64 0, .int .i64 0, .int .i64 0], .int .i64 0], []⟩).memory Tryz.f7.params.toList Rows.checkOperatorsSpec.vars false #[Value.agg #[.int .i64 0, .int .i64 0, .int .i64 0], .int .i64 0].toList 8 = some ([.agg [.lit (.int .i64 0), .lit (.int .i64 0), .lit (.int .i64 0)], .lit (.int .i64 0)], [], places) :=
  ⟨[], by kernel_rfl⟩

/-- Three numbers, opened. -/
theorem open_three {H : Type} {enc : TypeId × Value → H} {W : World} {v : Value} {d : DataW H} {p : List MemPlace} (h : DataW.Trod enc Tryz.prog W 0 (fun _ => true) true 54 v d p) : ∃ a b c : Int, v = .agg #[.int .i64 a, .int .i64 b, .int .i64 c] := by
  obtain ⟨fuel, h⟩ := h
  obtain ⟨xs, m, rfl, hx, hl, hn, hi⟩ := DataW.trod_array (n := 3) (e := 3) (by kernel_rfl) h
  have hc1 : Tryz.prog.cellsOf 3 = 1 := by kernel_rfl
  have hc3 : Tryz.prog.cellsOf 54 = 3 := by kernel_rfl
  rw [hc3] at hl
  have hint : Tryz.prog.underlying 3 = some (.int .i64) := by kernel_rfl
  have get : ∀ i, i < 3 → ∃ n, v.cells.toList[i]? = some (.int .i64 n) := by
    intro i hi3
    have h1 := hi i hi3
    rw [hc1, Nat.mul_one] at h1
    rw [List.getElem?_eq_getElem (by omega)] at h1
    obtain ⟨n, h2, _⟩ := DataW.trod_int hint h1
    refine ⟨n, ?_⟩
    have h3 : ((v.cells.toList.drop i).take 1)[0]? = some (.int .i64 n) := by rw [h2]; rfl
    simpa using h3
  obtain ⟨a, ha⟩ := get 0 (by omega)
  obtain ⟨b, hb⟩ := get 1 (by omega)
  obtain ⟨c, hc⟩ := get 2 (by omega)
  have hcells : v.cells.toList = [.int .i64 a, .int .i64 b, .int .i64 c] := by
    match hv : v.cells.toList, hl, ha, hb, hc with
    | [x, y, z], _, ha, hb, hc => simp at ha hb hc; rw [ha, hb, hc]
  refine ⟨a, b, c, ?_⟩
  cases v with
  | agg cs =>
    have : cs.toList = [.int .i64 a, .int .i64 b, .int .i64 c] := hcells
    congr 1
    apply Array.toList_inj.1
    rw [this]
  | _ => exact absurd hcells (by simp [Value.cells])

/-- What the contract gives, for every argument and every world that holds the variables. -/
theorem contract (H : Type) (enc : TypeId × Value → H) (W : World) (base : Nat) (args : Array Value) (ds gs : List (DataW H)) (before : List MemPlace)
    (hval : ∀ (j : Nat) t v, Tryz.f7.params[j]? = some t → args[j]? = some v → Value.okWide Tryz.prog W .any base t v)
    (hW : DataW.Whole enc Tryz.prog Tryz.f7.params.toList Rows.checkOperatorsSpec.vars false W args.toList ds gs before) (hL : laidMetH Tryz.prog Rows.checkOperatorsRow.laid W) :
    Calls Tryz.prog 7 args W fun e W' => ∃ v, e = .returned v ∧ Rows.checkOperatorsSpec.post enc Tryz.prog Tryz.f7 false true false false W args v W' := by
  have hW' := hW
  obtain ⟨p, q, hA0, hV, rfl, hfz, hnd⟩ := hW
  have hA : DataW.TrodAll enc Tryz.prog W 0 (fun _ => true) true Tryz.f7.params.toList args.toList ds p := hA0
  rw [Tryz.params7] at hA hval
  obtain ⟨v0, v1, d0, d1, p0, p1, rfl, rfl, rfl, h0, h1⟩ := trodAll_two hA
  obtain ⟨rfl, rfl⟩ := trodVars_none hV
  obtain ⟨a, b, c, rfl⟩ := open_three h0
  obtain ⟨w, rfl, _, _, _⟩ := open_int (k := .i64) (by kernel_rfl) (hval 1 3 v1 rfl rfl) h1
  have hv : PRL (worldS W) [.agg [.int .i64 a, .int .i64 b, .int .i64 c], .int .i64 w] [.agg #[.int .i64 a, .int .i64 b, .int .i64 c], .int .i64 w] := by
    simp only [PRL, PR, and_true]
    exact ⟨[.int .i64 a, .int .i64 b, .int .i64 c], rfl, by simp [PRL, PR]⟩
  refine (call_entry (operators_ok a b c w) (globW_of hL) hv).mono fun e W' ⟨he, hb⟩ => ?_
  subst he
  exact ⟨_, rfl, law_post laidOut (by kernel_rfl) hW' rfl (tb := 4) rfl (by kernel_rfl) rfl hb⟩

/-- The first form's step. -/
theorem lifted (os : Os) (started : os.Started) (H : Type) (enc : TypeId × Value → H) (F : Stop.Interp) :
    ReturnsInHanded {} Tryz.checked os 7 .any ((OpenSpec.ofChange Rows.checkOperatorsSpec).preRow enc Tryz.prog Tryz.f7 Rows.checkOperatorsRow.domain false Rows.checkOperatorsRow.laid) (((OpenSpec.ofChange Rows.checkOperatorsSpec).at F).post enc Tryz.prog Tryz.f7 false true false false) := by
  obtain ⟨places, hx⟩ := reads os enc
  refine returnsInHanded_of_row (C := Tryz.checked) (s := OpenSpec.ofChange Rows.checkOperatorsSpec) own started (by kernel_rfl) Tryz.func7
    (witness_row_at (enc := enc) (C := Tryz.checked) false (laidWorld os) #[.agg #[.int .i64 0, .int .i64 0, .int .i64 0], .int .i64 0] rfl (by kernel_rfl) (by kernel_rfl) (by kernel_rfl)
      (OpenSpec.preRow_of_cond 8 hx (by kernel_rfl) (fun k hk => by cases hk) (by kernel_rfl) (laid_met os))) ?_
  intro W base args ds gs before hval hW _ _ _ hL _ _
  exact contract H enc W base args ds gs before hval hW hL

theorem said : Rows.CheckOperatorsSaid :=
  OpenClaim.holds_of_cond 7 Tryz.f7 rfl rfl rfl rfl rfl rfl rfl ⟨rfl, rfl, rfl, rfl, rfl⟩ rfl rfl rfl rfl rfl (by kernel_rfl) Tryz.func7 (by kernel_rfl)
    (of_decide_eq_true (by kernel_rfl)) (by unfold Func.isWrapper; first | (rw [if_pos (by decide +kernel)]; kernel_rfl) | (rw [if_neg (by decide +kernel)]; exact ⟨rfl, rfl⟩))
    (fun os started H enc _ F => by rw [OpenClaim.pre_eq_preRow]; exact lifted os started H enc F)

/-- No parameter wants a stand-in. -/
theorem plain (f : FuncId) (fn : Func) (hf : Tryz.pinned.checked.prog.funcNamed "tithing/tithinglaw08.CheckOperators" = some f) (hfn : Tryz.pinned.checked.prog.funcs[f]? = some fn) :
    true = Tryz.pinned.checked.prog.looks [] ∧ ∀ (j : Nat) t, fn.params[j]? = some t → Tryz.pinned.checked.prog.wantsStandIn t = false := by
  obtain rfl : f = 7 := Option.some.inj ((show Tryz.prog.funcNamed "tithing/tithinglaw08.CheckOperators" = some 7 by kernel_rfl).symm.trans hf) |>.symm
  obtain rfl : fn = Tryz.f7 := (Option.some.inj (Tryz.func7.symm.trans hfn)).symm
  refine ⟨by kernel_rfl, fun j t ht => ?_⟩
  have hall : Tryz.f7.params.toList.all (fun t => !Tryz.prog.wantsStandIn t) = true := by kernel_rfl
  have := List.all_eq_true.1 hall t (by simpa using Array.mem_of_getElem? ht)
  show Tryz.prog.wantsStandIn t = false
  simpa using this

/-- The card. -/
theorem card : Rows.CheckOperatorsCardSaid :=
  Claim7.holds_tied_plain_at .later [] _ _ _ _ said (fun _ h => by cases h) (by kernel_rfl) (fun _ h => by cases h) checkOperators_row_tie rfl ⟨rfl, rfl⟩ (by kernel_rfl) rfl plain (by kernel_rfl)

end Go.Proofs.YtpjkeigmiooooaaGreatDoor.operators
