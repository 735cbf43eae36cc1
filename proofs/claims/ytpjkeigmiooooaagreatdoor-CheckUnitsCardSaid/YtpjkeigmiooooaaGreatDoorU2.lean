/- Contracts of functions that the law reaches, each by its own hypotheses; joined by a program of mine. -/
import Derived.Test.YtpjkeigmiooooaaGreatDoorU1
import Derived.Test.YtpjkeigmiooooaaGreatDoorM5
set_option linter.unusedSimpArgs false
set_option linter.unusedVariables false

set_option maxRecDepth 100000
open Go AM
namespace Go.Proofs.Tryz
theorem take_0 (U W v : List Nat) (nv : Bool) (j M q c b : Nat) (hloop : ∀ nt, 66 ≤ nt → LoopR Tryz.prog ap (base1 U) nt (loopBody 0 (bodyOf Tryz.f142)) (fun _ => .exit 0) (fun (x : Nat × List Nat × Nat × Nat) => tkSt v nv j M q x.1 x.2.1 x.2.2.1 x.2.2.2) (fun (x : List Nat × Nat × Nat) => tkOut v nv j M x.1 x.2.1 x.2.2) (0, U, 0, 0) (W, c, b)) (h0 : (Nat.ble (((j + (Int.toNat ((v.length : Nat) : Int))) * 1) + 1) (List.length (u32L W))) = true) (h1 : (decide (((0 : Nat) : Int) ≤ ((v.length : Nat) : Int))) = true) (h2 : (decide (((v.length : Nat) : Int) < ((M : Nat) : Int))) = true) (h3 : (chk (.int .u32) (List.headD (List.drop ((j + (Int.toNat ((v.length : Nat) : Int))) * 1) (u32L W)) .dead)) = true) : CallOk Tryz.prog ap 142 [.ref 0 0 j M, .sl (u32L v) v.length nv, .int .u64 ((q : Nat) : Int)] [{ cells := (u32L U), ver := 0, fro := false, fz := 0, esz := 1, pr := true }] (.ret (.bool (!((Int.fdiv (IntKind.wrap .u64 ((IntKind.wrap .u64 ((IntKind.wrap .u64 (AV.toInt (List.headD (List.drop ((j + (Int.toNat ((v.length : Nat) : Int))) * 1) (u32L W)) .dead))) - ((c : Nat) : Int))) - ((b : Nat) : Int))) (2 ^ (min 63 64))) == ((0 : Nat) : Int))))) [{ cells := (List.take ((j + (Int.toNat ((v.length : Nat) : Int))) * 1) (u32L W) ++ [.int .u32 (IntKind.wrap .u32 (IntKind.wrap .u64 ((IntKind.wrap .u64 ((IntKind.wrap .u64 (AV.toInt (List.headD (List.drop ((j + (Int.toNat ((v.length : Nat) : Int))) * 1) (u32L W)) .dead))) - ((c : Nat) : Int))) - ((b : Nat) : Int))))] ++ List.drop (((j + (Int.toNat ((v.length : Nat) : Int))) * 1) + 1) (u32L W)), ver := 0, fro := false, fz := 0, esz := 1, pr := true }] := path_ok good (lf := 3000) (n := 4) (ls := [0]) (orc := []) (ans := []) (lps := [(.normal, { env := [(0, .ref 0 0 j M), (1, .sl (u32L v) v.length nv), (7, .int .u64 ((c : Nat) : Int)), (8, .int .u64 ((b : Nat) : Int))], hp := [(0, { cells := (u32L W), ver := 0, fro := false, fz := 0, esz := 1, pr := true })], md := .dead, dfs := [] })]) (.t (.c h0 (.c h1 (.c h2 (.c h3 (.c h1 (.c h2 .nil)))))) : AllB _) (.cons (by exact LoopR.blk hloop (by simp) rfl (Less.of ⟨rfl, rfl, rfl, rfl, rfl, rfl, rfl, trivial⟩) (Less.of ⟨rfl, rfl, rfl, rfl, trivial⟩) : LoopOk Tryz.prog ap [{ cells := (u32L U), ver := 0, fro := false, fz := 0, esz := 1, pr := true }] 66 (.block 0 (.loop (loopBody 0 (bodyOf Tryz.f142)))) { env := [(0, .ref 0 0 j M), (1, .sl (u32L v) v.length nv), (2, .int .u64 ((q : Nat) : Int)), (6, .bool false), (7, .int .u64 0), (8, .int .u64 0), (9, .dead), (10, .dead), (11, .dead), (12, .dead), (14, .int .i64 ((v.length : Nat) : Int)), (15, .int .i64 0), (16, .dead)], hp := [(0, { cells := (u32L U), ver := 0, fro := false, fz := 0, esz := 1, pr := true })], md := .dead, dfs := [] } (.normal) { env := [(0, .ref 0 0 j M), (1, .sl (u32L v) v.length nv), (7, .int .u64 ((c : Nat) : Int)), (8, .int .u64 ((b : Nat) : Int))], hp := [(0, { cells := (u32L W), ver := 0, fro := false, fz := 0, esz := 1, pr := true })], md := .dead, dfs := [] }) .nil : AllP _) (by kernel_rfl)
theorem give_0 (U W v : List Nat) (nv : Bool) (j M c : Nat) (hloop : ∀ nt, 42 ≤ nt → LoopR Tryz.prog ap (base1 U) nt (loopBody 0 (bodyOf Tryz.f143)) (fun _ => .exit 0) (fun (x : Nat × List Nat × Nat) => gvSt v nv j M x.1 x.2.1 x.2.2) (fun (x : List Nat × Nat) => gvOut v nv j M x.1 x.2) (0, U, 0) (W, c)) (h0 : (Nat.ble (((j + (Int.toNat ((v.length : Nat) : Int))) * 1) + 1) (List.length (u32L W))) = true) (h1 : (decide (((0 : Nat) : Int) ≤ ((v.length : Nat) : Int))) = true) (h2 : (decide (((v.length : Nat) : Int) < ((M : Nat) : Int))) = true) (h3 : (chk (.int .u32) (List.headD (List.drop ((j + (Int.toNat ((v.length : Nat) : Int))) * 1) (u32L W)) .dead)) = true) : CallOk Tryz.prog ap 143 [.ref 0 0 j M, .sl (u32L v) v.length nv] [{ cells := (u32L U), ver := 0, fro := false, fz := 0, esz := 1, pr := true }] (.ret (.tup [])) [{ cells := (List.take ((j + (Int.toNat ((v.length : Nat) : Int))) * 1) (u32L W) ++ [.int .u32 (IntKind.wrap .u32 ((AV.toInt (List.headD (List.drop ((j + (Int.toNat ((v.length : Nat) : Int))) * 1) (u32L W)) .dead)) + (IntKind.wrap .u32 ((c : Nat) : Int))))] ++ List.drop (((j + (Int.toNat ((v.length : Nat) : Int))) * 1) + 1) (u32L W)), ver := 0, fro := false, fz := 0, esz := 1, pr := true }] := path_ok good (lf := 3000) (n := 4) (ls := [0]) (orc := []) (ans := []) (lps := [(.normal, { env := [(0, .ref 0 0 j M), (1, .sl (u32L v) v.length nv), (4, .int .u64 ((c : Nat) : Int))], hp := [(0, { cells := (u32L W), ver := 0, fro := false, fz := 0, esz := 1, pr := true })], md := .dead, dfs := [] })]) (.c h0 (.c h1 (.c h2 (.c h3 (.c h1 (.c h2 .nil))))) : AllB _) (.cons (by exact LoopR.blk hloop (by simp) rfl (Less.of ⟨rfl, rfl, rfl, rfl, rfl, trivial⟩) (Less.of ⟨rfl, rfl, rfl, trivial⟩) : LoopOk Tryz.prog ap [{ cells := (u32L U), ver := 0, fro := false, fz := 0, esz := 1, pr := true }] 42 (.block 0 (.loop (loopBody 0 (bodyOf Tryz.f143)))) { env := [(0, .ref 0 0 j M), (1, .sl (u32L v) v.length nv), (4, .int .u64 0), (5, .dead), (6, .dead), (8, .int .i64 ((v.length : Nat) : Int)), (9, .int .i64 0), (10, .dead)], hp := [(0, { cells := (u32L U), ver := 0, fro := false, fz := 0, esz := 1, pr := true })], md := .dead, dfs := [] } (.normal) { env := [(0, .ref 0 0 j M), (1, .sl (u32L v) v.length nv), (4, .int .u64 ((c : Nat) : Int))], hp := [(0, { cells := (u32L W), ver := 0, fro := false, fz := 0, esz := 1, pr := true })], md := .dead, dfs := [] }) .nil : AllP _) (by kernel_rfl)

theorem window_take (n W : Nat) (post : List Nat) : List.take n (padL (n + 1) W ++ post) = padL n W := by
  rw [pad_succ, List.append_assoc, List.take_append_of_le_length (by rw [padL_length]; exact Nat.le_refl _), List.take_of_length_le (by rw [padL_length]; exact Nat.le_refl _)]
theorem window_drop (n W : Nat) (post : List Nat) : List.drop n (padL (n + 1) W ++ post) = W / 2 ^ (32 * n) % 2 ^ 32 :: post := by
  rw [pad_succ, List.append_assoc, List.drop_append_of_le_length (by rw [padL_length]; exact Nat.le_refl _), List.drop_of_length_le (by rw [padL_length]; exact Nat.le_refl _)]
  rfl
/-- A list of digits is what it is worth. -/
theorem pad_of {l : List Nat} {m : Nat} (h : Lim l) (hm : l.length = m) : l = padL m (valL l) := by subst hm; exact (padL_val h).symm

/-- 'take': a window less q times v. -/
theorem take_ok (pre post v : List Nat) (nv : Bool) (n W q : Nat) (hn : v.length = n) (hv : Lim v) (hq : q < 4294967296) (hW : W < 4294967296 ^ (n + 1)) (hpost : Lim post) (hl : pre.length + n < 2 ^ 40) :
    CallOk Tryz.prog ap 142 [.ref 0 0 pre.length (n + 1), .sl (u32L v) n nv, .int .u64 ((q : Nat) : Int)] (base1 (pre ++ padL (n + 1) W ++ post)) (.ret (.bool (decide (W < q * valL v)))) (base1 (pre ++ padL (n + 1) (if W < q * valL v then W + 4294967296 ^ (n + 1) - q * valL v else W - q * valL v) ++ post)) := by
  have hus : Lim (padL (n + 1) W ++ post) := Lim.app (Lim.pad _ _) hpost
  obtain ⟨t1, t2, t3, t4, t5⟩ := takeL_val hq v (padL (n + 1) W ++ post) 0 0 (by omega) (by omega) hv hus (by simp [padL_length]; omega)
  have hloop := fun nt (hnt : 66 ≤ nt) => tk_loop hnt (pre ++ padL (n + 1) W ++ post) v nv pre.length (n + 1) q hq hv (by omega) (by omega) v [] (padL (n + 1) W ++ post) pre 0 0 rfl rfl (by simp [padL_length]; omega) (by omega) (by omega) hus
  rw [hn, window_take, valL_padL, pow32] at t5
  rw [hn, window_drop, pow32, p_32] at hloop
  generalize hr : takeL q v (padL (n + 1) W ++ post) 0 0 = r at *
  obtain ⟨y, c, b⟩ := r
  simp only [Nat.add_zero, List.length_nil, ← List.append_assoc] at t1 t2 t3 t4 t5 hloop
  have hx : W / 4294967296 ^ n < 4294967296 := by
    rw [Nat.div_lt_iff_lt_mul (pow32_pos n), Nat.mul_comm, ← Nat.pow_succ]; exact hW
  rw [Nat.mod_eq_of_lt hx] at hloop
  have hdm := Nat.div_add_mod W (4294967296 ^ n)
  generalize hxg : W / 4294967296 ^ n = x at *
  obtain ⟨d1, d2, d3⟩ := dN_spec (u := x) (s := c) (b := b) hx t1 t2
  have htake := take_0 (pre ++ padL (n + 1) W ++ post) (pre ++ y ++ x :: post) v nv pre.length (n + 1) q c b hloop
  have hlen : pre.length + n = (pre ++ y).length := by simp [t4, hn]
  have hdn : ((x + (18446744073709551616 - c)) % 18446744073709551616 + (18446744073709551616 - b)) % 18446744073709551616 = dN x c b := rfl
  rw [hn] at htake t4
  have hgo : List.headD (List.drop (pre.length + n) (u32L (pre ++ y ++ x :: post))) .dead = .int .u32 (x : Int) := u32_mid hlen
  have hset : ∀ z : Nat, List.take (pre.length + n) (u32L (pre ++ y ++ x :: post)) ++ [AV.int .u32 (z : Int)] ++ List.drop (pre.length + n + 1) (u32L (pre ++ y ++ x :: post)) = u32L (pre ++ y ++ z :: post) := fun z => set_mid hlen
  simp (disch := first | omega | (simp only [List.length_append, List.length_replicate, List.length_cons, List.length_nil, List.length_reverse, u32L_length, List.length_take, List.length_drop] <;> omega)) only [c_add, c_mul, c_tdiv, c_tmod, c_shl, c_shr, c_toNat, w64_nat, w64_sub, w8u, w32u, w64u, w64u_sub, w32u_sub, or64, or32, and64, and_mask32, andI, orI, min_b64, min_b32, min_bi, min_l, p_32, p_63, Nat.mod_eq_of_lt, chk_u32, toInt_int, d_le, d_lt, b_eq, d_eq, nble_d, nbeq_d, lit_t, lit_f, not_t, dec_t, dec_f, Nat.zero_add, Nat.mul_one, u32L_length, List.length_append, List.length_replicate, List.length_cons, List.length_set, List.length_nil, u32_mid, set_mid, hgo, hset, hdn] at htake
  have htake := htake (by omega) (by omega) (by omega) trivial
  generalize hf : dN x c b / 9223372036854775808 = f at *
  generalize hz : dN x c b % 4294967296 = z at *
  have hz' : z < 4294967296 := by omega
  have hly : Lim (y ++ [z]) := Lim.app t3 (Lim.cons hz' Lim.nil)
  have hval : valL (y ++ [z]) + q * valL v = W + 4294967296 ^ (n + 1) * f := by
    rw [valL_app, t4]
    simp only [valL, Nat.mul_zero, Nat.add_zero]
    have e1 : 4294967296 ^ n * (z + c + b) = 4294967296 ^ n * (x + 4294967296 * f) := by rw [d1]
    rw [Nat.pow_succ, Nat.mul_assoc]
    rw [Nat.mul_add, Nat.mul_add, Nat.mul_add] at e1
    rw [Nat.mul_add] at t5
    omega
  have hlt := valL_lt hly
  have hlen2 : (y ++ [z]).length = n + 1 := by simp [t4]
  rw [hlen2] at hlt
  have hlist : pre ++ y ++ z :: post = pre ++ (y ++ [z]) ++ post := by simp
  have hfl : (!decide (f = 0)) = decide (W < q * valL v) := by
    rcases Nat.eq_zero_or_pos f with h0 | h0
    · rw [h0, Nat.mul_zero, Nat.add_zero] at hval
      rw [h0, decide_eq_true rfl, decide_eq_false (by omega)]; rfl
    · rw [show f = 1 by omega, Nat.mul_one] at hval
      rw [decide_eq_false (by omega), decide_eq_true (by omega)]; rfl
  have hw : valL (y ++ [z]) = if W < q * valL v then W + 4294967296 ^ (n + 1) - q * valL v else W - q * valL v := by
    rcases Nat.eq_zero_or_pos f with h0 | h0
    · rw [h0, Nat.mul_zero, Nat.add_zero] at hval
      rw [if_neg (by omega)]; omega
    · rw [show f = 1 by omega, Nat.mul_one] at hval
      rw [if_pos (by omega)]; omega
  rw [hlist, pad_of hly hlen2, hw, hfl] at htake
  exact htake

/-- 'give': a window and v. -/
theorem give_ok (pre post v : List Nat) (nv : Bool) (n W : Nat) (hn : v.length = n) (hv : Lim v) (hW : W < 4294967296 ^ (n + 1)) (hpost : Lim post) (hl : pre.length + n < 2 ^ 40) :
    CallOk Tryz.prog ap 143 [.ref 0 0 pre.length (n + 1), .sl (u32L v) n nv] (base1 (pre ++ padL (n + 1) W ++ post)) (.ret (.tup [])) (base1 (pre ++ padL (n + 1) ((W + valL v) % 4294967296 ^ (n + 1)) ++ post)) := by
  have hus : Lim (padL (n + 1) W ++ post) := Lim.app (Lim.pad _ _) hpost
  obtain ⟨t1, t3, t4, t5⟩ := giveL_val v (padL (n + 1) W ++ post) 0 (by omega) hv hus (by simp [padL_length]; omega)
  have hloop := fun nt (hnt : 42 ≤ nt) => gv_loop hnt (pre ++ padL (n + 1) W ++ post) v nv pre.length (n + 1) hv (by omega) (by omega) v [] (padL (n + 1) W ++ post) pre 0 rfl rfl (by simp [padL_length]; omega) (by omega) hus
  rw [hn, window_take, valL_padL, pow32] at t5
  rw [hn, window_drop, pow32, p_32] at hloop
  generalize hr : giveL v (padL (n + 1) W ++ post) 0 = r at *
  obtain ⟨y, c⟩ := r
  simp only [Nat.add_zero, List.length_nil, ← List.append_assoc] at t1 t3 t4 t5 hloop
  have hx : W / 4294967296 ^ n < 4294967296 := by
    rw [Nat.div_lt_iff_lt_mul (pow32_pos n), Nat.mul_comm, ← Nat.pow_succ]; exact hW
  rw [Nat.mod_eq_of_lt hx] at hloop
  have hdm := Nat.div_add_mod W (4294967296 ^ n)
  generalize hxg : W / 4294967296 ^ n = x at *
  have hgive := give_0 (pre ++ padL (n + 1) W ++ post) (pre ++ y ++ x :: post) v nv pre.length (n + 1) c hloop
  have hlen : pre.length + n = (pre ++ y).length := by simp [t4, hn]
  rw [hn] at hgive t4
  have hgo : List.headD (List.drop (pre.length + n) (u32L (pre ++ y ++ x :: post))) .dead = .int .u32 (x : Int) := u32_mid hlen
  have hset : ∀ z : Nat, List.take (pre.length + n) (u32L (pre ++ y ++ x :: post)) ++ [AV.int .u32 (z : Int)] ++ List.drop (pre.length + n + 1) (u32L (pre ++ y ++ x :: post)) = u32L (pre ++ y ++ z :: post) := fun z => set_mid hlen
  rw [w32u, Nat.mod_eq_of_lt (show c < 4294967296 by omega)] at hgive
  have hw32 : IntKind.wrap .u32 ((x : Int) + (c : Int)) = (((x + c) % 4294967296 : Nat) : Int) := by rw [c_add, w32u]
  simp (disch := first | omega | (simp only [List.length_append, List.length_replicate, List.length_cons, List.length_nil, List.length_reverse, u32L_length, List.length_take, List.length_drop] <;> omega)) only [c_add, c_mul, c_tdiv, c_tmod, c_shl, c_shr, c_toNat, w64_nat, w64_sub, w8u, w32u, w64u, w64u_sub, w32u_sub, or64, or32, and64, and_mask32, andI, orI, min_b64, min_b32, min_bi, min_l, p_32, p_63, Nat.mod_eq_of_lt, chk_u32, toInt_int, d_le, d_lt, b_eq, d_eq, nble_d, nbeq_d, lit_t, lit_f, not_t, dec_t, dec_f, Nat.zero_add, Nat.mul_one, u32L_length, List.length_append, List.length_replicate, List.length_cons, List.length_set, List.length_nil, u32_mid, set_mid, hgo, hset, hw32] at hgive
  have hgive := hgive (by omega) (by omega) (by omega) trivial
  have hly : Lim (y ++ [(x + c) % 4294967296]) := Lim.app t3 (Lim.cons (Nat.mod_lt _ (by omega)) Lim.nil)
  have hval : valL (y ++ [(x + c) % 4294967296]) + 4294967296 ^ (n + 1) * ((x + c) / 4294967296) = W + valL v := by
    rw [valL_app, t4]
    simp only [valL, Nat.mul_zero, Nat.add_zero]
    have e1 : 4294967296 ^ n * (x + c) = 4294967296 ^ n * (4294967296 * ((x + c) / 4294967296) + (x + c) % 4294967296) := by rw [Nat.div_add_mod]
    rw [Nat.pow_succ, Nat.mul_assoc]
    rw [Nat.mul_add, Nat.mul_add] at e1
    omega
  have hlt := valL_lt hly
  have hlen2 : (y ++ [(x + c) % 4294967296]).length = n + 1 := by simp [t4]
  rw [hlen2] at hlt
  have hlist : pre ++ y ++ (x + c) % 4294967296 :: post = pre ++ (y ++ [(x + c) % 4294967296]) ++ post := by simp
  have hw : valL (y ++ [(x + c) % 4294967296]) = (W + valL v) % 4294967296 ^ (n + 1) := by
    rw [← hval, Nat.add_mul_mod_self_left, Nat.mod_eq_of_lt hlt]
  rw [hlist, pad_of hly hlen2, hw] at hgive
  exact hgive
end Go.Proofs.Tryz

set_option maxRecDepth 100000
open Go AM
namespace Go.Proofs.Tryz
theorem dvT_0 {nt : Nat} (hn : 130 ≤ nt) (Q U U1 U2 v : List Nat) (mq sh M n j q : Nat) (h0 : (Nat.ble (((0 + (Int.toNat ((j : Nat) : Int))) * 1) + 1) (List.length (u32L Q))) = true) (h1 : (decide (((0 : Nat) : Int) ≤ ((j : Nat) : Int))) = true) (h2 : (decide (((j : Nat) : Int) < ((mq : Nat) : Int))) = true) (h3 : (decide (((j : Nat) : Int) ≤ (IntKind.wrap .i64 ((IntKind.wrap .i64 (((j : Nat) : Int) + ((n : Nat) : Int))) + ((1 : Nat) : Int))))) = true) (h4 : (decide ((IntKind.wrap .i64 ((IntKind.wrap .i64 (((j : Nat) : Int) + ((n : Nat) : Int))) + ((1 : Nat) : Int))) ≤ ((M : Nat) : Int))) = true) (h5 : (chk (.int .u32) (List.headD (List.drop ((Int.toNat (IntKind.wrap .i64 (((n : Nat) : Int) - ((2 : Nat) : Int)))) * 1) (u32L v)) .dead)) = true) (h6 : (decide (((0 : Nat) : Int) ≤ (IntKind.wrap .i64 (((n : Nat) : Int) - ((2 : Nat) : Int))))) = true) (h7 : (decide ((IntKind.wrap .i64 (((n : Nat) : Int) - ((2 : Nat) : Int))) < ((v.length : Nat) : Int))) = true) (h8 : (chk (.int .u32) (List.headD (List.drop ((Int.toNat (IntKind.wrap .i64 (((n : Nat) : Int) - ((1 : Nat) : Int)))) * 1) (u32L v)) .dead)) = true) (h9 : (decide (((0 : Nat) : Int) ≤ (IntKind.wrap .i64 (((n : Nat) : Int) - ((1 : Nat) : Int))))) = true) (h10 : (decide ((IntKind.wrap .i64 (((n : Nat) : Int) - ((1 : Nat) : Int))) < ((v.length : Nat) : Int))) = true) (h11 : (chk (.int .u32) (List.headD (List.drop ((0 + (Int.toNat (IntKind.wrap .i64 ((IntKind.wrap .i64 (((j : Nat) : Int) + ((n : Nat) : Int))) - ((2 : Nat) : Int))))) * 1) (u32L U)) .dead)) = true) (h12 : (decide (((0 : Nat) : Int) ≤ (IntKind.wrap .i64 ((IntKind.wrap .i64 (((j : Nat) : Int) + ((n : Nat) : Int))) - ((2 : Nat) : Int))))) = true) (h13 : (decide ((IntKind.wrap .i64 ((IntKind.wrap .i64 (((j : Nat) : Int) + ((n : Nat) : Int))) - ((2 : Nat) : Int))) < ((M : Nat) : Int))) = true) (h14 : (chk (.int .u32) (List.headD (List.drop ((0 + (Int.toNat (IntKind.wrap .i64 ((IntKind.wrap .i64 (((j : Nat) : Int) + ((n : Nat) : Int))) - ((1 : Nat) : Int))))) * 1) (u32L U)) .dead)) = true) (h15 : (decide (((0 : Nat) : Int) ≤ (IntKind.wrap .i64 ((IntKind.wrap .i64 (((j : Nat) : Int) + ((n : Nat) : Int))) - ((1 : Nat) : Int))))) = true) (h16 : (decide ((IntKind.wrap .i64 ((IntKind.wrap .i64 (((j : Nat) : Int) + ((n : Nat) : Int))) - ((1 : Nat) : Int))) < ((M : Nat) : Int))) = true) (h17 : (chk (.int .u32) (List.headD (List.drop ((0 + (Int.toNat (IntKind.wrap .i64 (((j : Nat) : Int) + ((n : Nat) : Int))))) * 1) (u32L U)) .dead)) = true) (h18 : (decide (((0 : Nat) : Int) ≤ (IntKind.wrap .i64 (((j : Nat) : Int) + ((n : Nat) : Int))))) = true) (h19 : (decide ((IntKind.wrap .i64 (((j : Nat) : Int) + ((n : Nat) : Int))) < ((M : Nat) : Int))) = true) (h20 : lit true (decide (((0 : Nat) : Int) ≤ ((j : Nat) : Int))) = true) (c0 : CallOk Tryz.prog ap 141 [.agg [.int .u32 (AV.toInt (List.headD (List.drop ((0 + (Int.toNat (IntKind.wrap .i64 (((j : Nat) : Int) + ((n : Nat) : Int))))) * 1) (u32L U)) .dead)), .int .u32 (AV.toInt (List.headD (List.drop ((0 + (Int.toNat (IntKind.wrap .i64 ((IntKind.wrap .i64 (((j : Nat) : Int) + ((n : Nat) : Int))) - ((1 : Nat) : Int))))) * 1) (u32L U)) .dead)), .int .u32 (AV.toInt (List.headD (List.drop ((0 + (Int.toNat (IntKind.wrap .i64 ((IntKind.wrap .i64 (((j : Nat) : Int) + ((n : Nat) : Int))) - ((2 : Nat) : Int))))) * 1) (u32L U)) .dead))], .agg [.int .u32 (AV.toInt (List.headD (List.drop ((Int.toNat (IntKind.wrap .i64 (((n : Nat) : Int) - ((1 : Nat) : Int)))) * 1) (u32L v)) .dead)), .int .u32 (AV.toInt (List.headD (List.drop ((Int.toNat (IntKind.wrap .i64 (((n : Nat) : Int) - ((2 : Nat) : Int)))) * 1) (u32L v)) .dead)), .int .u32 0]] [] (.ret (.int .u64 ((q : Nat) : Int))) []) (c1 : CallOk Tryz.prog ap 142 [.ref 0 0 (0 + (Int.toNat ((j : Nat) : Int))) ((Int.toNat (IntKind.wrap .i64 ((IntKind.wrap .i64 (((j : Nat) : Int) + ((n : Nat) : Int))) + ((1 : Nat) : Int)))) - (Int.toNat ((j : Nat) : Int))), .sl (u32L v) v.length true, .int .u64 ((q : Nat) : Int)] [{ cells := (u32L U), ver := 0, fro := false, fz := 0, esz := 1, pr := true }] (.ret (.bool true)) [{ cells := (u32L U1), ver := 0, fro := false, fz := 0, esz := 1, pr := true }]) (c2 : CallOk Tryz.prog ap 143 [.ref 0 0 (0 + (Int.toNat ((j : Nat) : Int))) ((Int.toNat (IntKind.wrap .i64 ((IntKind.wrap .i64 (((j : Nat) : Int) + ((n : Nat) : Int))) + ((1 : Nat) : Int)))) - (Int.toNat ((j : Nat) : Int))), .sl (u32L v) v.length true] [{ cells := (u32L U1), ver := 0, fro := false, fz := 0, esz := 1, pr := true }] (.ret (.tup [])) [{ cells := (u32L U2), ver := 0, fro := false, fz := 0, esz := 1, pr := true }]) : ExecOk Tryz.prog ap [] nt (loopBody 1 (bodyOf Tryz.f130)) { env := [(4, .ref 0 0 0 mq), (8, .int .i64 ((sh : Nat) : Int)), (9, .ref 1 0 0 M), (10, .sl (u32L v) v.length true), (11, .int .i64 ((n : Nat) : Int)), (12, .int .i64 ((j : Nat) : Int))], hp := [(0, { cells := (u32L Q), ver := 0, fro := false, fz := 0, esz := 1, pr := true }), (1, { cells := (u32L U), ver := 0, fro := false, fz := 0, esz := 1, pr := true })], md := .dead, dfs := [] } (.normal) { env := [(4, .ref 0 0 0 mq), (8, .int .i64 ((sh : Nat) : Int)), (9, .ref 1 0 0 M), (10, .sl (u32L v) v.length true), (11, .int .i64 ((n : Nat) : Int)), (12, .int .i64 (IntKind.wrap .i64 (((j : Nat) : Int) - ((1 : Nat) : Int))))], hp := [(0, { cells := (List.take ((0 + (Int.toNat ((j : Nat) : Int))) * 1) (u32L Q) ++ [.int .u32 (IntKind.wrap .u32 (IntKind.wrap .u64 (((q : Nat) : Int) - ((1 : Nat) : Int))))] ++ List.drop (((0 + (Int.toNat ((j : Nat) : Int))) * 1) + 1) (u32L Q)), ver := 0, fro := false, fz := 0, esz := 1, pr := true }), (1, { cells := (u32L U2), ver := 0, fro := false, fz := 0, esz := 1, pr := true })], md := .dead, dfs := [] } :=
  ExecOk.weak (piece_ok good (lf := 3000) (n := 4) (keep := [0, 1, 4, 5, 6, 7, 8, 9, 10, 11, 12, 13, 14, 20, 61, 106]) (ls := []) (orc := [true, true]) (ans := [(.ret (.int .u64 ((q : Nat) : Int)), []), (.ret (.bool true), [{ cells := (u32L U1), ver := 0, fro := false, fz := 0, esz := 1, pr := true }]), (.ret (.tup []), [{ cells := (u32L U2), ver := 0, fro := false, fz := 0, esz := 1, pr := true }])]) (lps := []) (nt0 := 130) (s' := { env := [(0, .dead), (1, .dead), (4, .ref 0 0 0 mq), (5, .dead), (6, .dead), (7, .dead), (8, .int .i64 ((sh : Nat) : Int)), (9, .ref 1 0 0 M), (10, .sl (u32L v) v.length true), (11, .int .i64 ((n : Nat) : Int)), (12, .int .i64 (IntKind.wrap .i64 (((j : Nat) : Int) - ((1 : Nat) : Int)))), (13, .int .u64 (IntKind.wrap .u64 (((q : Nat) : Int) - ((1 : Nat) : Int)))), (14, .dead), (20, .dead), (61, .bool (decide (((0 : Nat) : Int) ≤ ((j : Nat) : Int)))), (106, .bool true)], hp := [(0, { cells := (List.take ((0 + (Int.toNat ((j : Nat) : Int))) * 1) (u32L Q) ++ [.int .u32 (IntKind.wrap .u32 (IntKind.wrap .u64 (((q : Nat) : Int) - ((1 : Nat) : Int))))] ++ List.drop (((0 + (Int.toNat ((j : Nat) : Int))) * 1) + 1) (u32L Q)), ver := 0, fro := false, fz := 0, esz := 1, pr := true }), (1, { cells := (u32L U2), ver := 0, fro := false, fz := 0, esz := 1, pr := true })], md := .dead, dfs := [] }) (by kernel_rfl) hn (.c h0 (.c h1 (.c h2 (.c h1 (.c h3 (.c h4 (.t (.c h1 (.c h3 (.c h4 (.c h5 (.c h6 (.c h7 (.c h8 (.c h9 (.c h10 (.c h11 (.c h12 (.c h13 (.c h14 (.c h15 (.c h16 (.c h17 (.c h18 (.c h19 (.c h20 .nil))))))))))))))))))))))))) : AllB _) (.cons c2 (.cons c1 (.cons c0 .nil)) : AllP _) (by kernel_rfl)) (Less.refl _) (Less.of ⟨rfl, rfl, rfl, rfl, rfl, rfl, trivial⟩)
theorem dvT_1 {nt : Nat} (hn : 130 ≤ nt) (Q U U1 U2 v : List Nat) (mq sh M n j q : Nat) (h0 : lit false (decide (((0 : Nat) : Int) ≤ ((j : Nat) : Int))) = true)  : ExecOk Tryz.prog ap [] nt (loopBody 1 (bodyOf Tryz.f130)) { env := [(4, .ref 0 0 0 mq), (8, .int .i64 ((sh : Nat) : Int)), (9, .ref 1 0 0 M), (10, .sl (u32L v) v.length true), (11, .int .i64 ((n : Nat) : Int)), (12, .int .i64 ((j : Nat) : Int))], hp := [(0, { cells := (u32L Q), ver := 0, fro := false, fz := 0, esz := 1, pr := true }), (1, { cells := (u32L U), ver := 0, fro := false, fz := 0, esz := 1, pr := true })], md := .dead, dfs := [] } (.exit 1) { env := [(4, .ref 0 0 0 mq), (8, .int .i64 ((sh : Nat) : Int)), (9, .ref 1 0 0 M), (10, .sl (u32L v) v.length true), (11, .int .i64 ((n : Nat) : Int)), (12, .int .i64 ((j : Nat) : Int))], hp := [(0, { cells := (u32L Q), ver := 0, fro := false, fz := 0, esz := 1, pr := true }), (1, { cells := (u32L U), ver := 0, fro := false, fz := 0, esz := 1, pr := true })], md := .dead, dfs := [] } :=
  ExecOk.weak (piece_ok good (lf := 3000) (n := 4) (keep := [0, 1, 4, 5, 6, 7, 8, 9, 10, 11, 12, 13, 14, 20, 61, 106]) (ls := []) (orc := [false]) (ans := []) (lps := []) (nt0 := 130) (s' := { env := [(0, .dead), (1, .dead), (4, .ref 0 0 0 mq), (5, .dead), (6, .dead), (7, .dead), (8, .int .i64 ((sh : Nat) : Int)), (9, .ref 1 0 0 M), (10, .sl (u32L v) v.length true), (11, .int .i64 ((n : Nat) : Int)), (12, .int .i64 ((j : Nat) : Int)), (13, .dead), (14, .dead), (20, .dead), (61, .bool (decide (((0 : Nat) : Int) ≤ ((j : Nat) : Int)))), (106, .dead)], hp := [(0, { cells := (u32L Q), ver := 0, fro := false, fz := 0, esz := 1, pr := true }), (1, { cells := (u32L U), ver := 0, fro := false, fz := 0, esz := 1, pr := true })], md := .dead, dfs := [] }) (by kernel_rfl) hn (.c h0 .nil : AllB _) (.nil : AllP _) (by kernel_rfl)) (Less.refl _) (Less.of ⟨rfl, rfl, rfl, rfl, rfl, rfl, trivial⟩)
theorem dvF_0 {nt : Nat} (hn : 130 ≤ nt) (Q U U1 U2 v : List Nat) (mq sh M n j q : Nat) (h0 : (Nat.ble (((0 + (Int.toNat ((j : Nat) : Int))) * 1) + 1) (List.length (u32L Q))) = true) (h1 : (decide (((0 : Nat) : Int) ≤ ((j : Nat) : Int))) = true) (h2 : (decide (((j : Nat) : Int) < ((mq : Nat) : Int))) = true) (h3 : (decide (((j : Nat) : Int) ≤ (IntKind.wrap .i64 ((IntKind.wrap .i64 (((j : Nat) : Int) + ((n : Nat) : Int))) + ((1 : Nat) : Int))))) = true) (h4 : (decide ((IntKind.wrap .i64 ((IntKind.wrap .i64 (((j : Nat) : Int) + ((n : Nat) : Int))) + ((1 : Nat) : Int))) ≤ ((M : Nat) : Int))) = true) (h5 : (chk (.int .u32) (List.headD (List.drop ((Int.toNat (IntKind.wrap .i64 (((n : Nat) : Int) - ((2 : Nat) : Int)))) * 1) (u32L v)) .dead)) = true) (h6 : (decide (((0 : Nat) : Int) ≤ (IntKind.wrap .i64 (((n : Nat) : Int) - ((2 : Nat) : Int))))) = true) (h7 : (decide ((IntKind.wrap .i64 (((n : Nat) : Int) - ((2 : Nat) : Int))) < ((v.length : Nat) : Int))) = true) (h8 : (chk (.int .u32) (List.headD (List.drop ((Int.toNat (IntKind.wrap .i64 (((n : Nat) : Int) - ((1 : Nat) : Int)))) * 1) (u32L v)) .dead)) = true) (h9 : (decide (((0 : Nat) : Int) ≤ (IntKind.wrap .i64 (((n : Nat) : Int) - ((1 : Nat) : Int))))) = true) (h10 : (decide ((IntKind.wrap .i64 (((n : Nat) : Int) - ((1 : Nat) : Int))) < ((v.length : Nat) : Int))) = true) (h11 : (chk (.int .u32) (List.headD (List.drop ((0 + (Int.toNat (IntKind.wrap .i64 ((IntKind.wrap .i64 (((j : Nat) : Int) + ((n : Nat) : Int))) - ((2 : Nat) : Int))))) * 1) (u32L U)) .dead)) = true) (h12 : (decide (((0 : Nat) : Int) ≤ (IntKind.wrap .i64 ((IntKind.wrap .i64 (((j : Nat) : Int) + ((n : Nat) : Int))) - ((2 : Nat) : Int))))) = true) (h13 : (decide ((IntKind.wrap .i64 ((IntKind.wrap .i64 (((j : Nat) : Int) + ((n : Nat) : Int))) - ((2 : Nat) : Int))) < ((M : Nat) : Int))) = true) (h14 : (chk (.int .u32) (List.headD (List.drop ((0 + (Int.toNat (IntKind.wrap .i64 ((IntKind.wrap .i64 (((j : Nat) : Int) + ((n : Nat) : Int))) - ((1 : Nat) : Int))))) * 1) (u32L U)) .dead)) = true) (h15 : (decide (((0 : Nat) : Int) ≤ (IntKind.wrap .i64 ((IntKind.wrap .i64 (((j : Nat) : Int) + ((n : Nat) : Int))) - ((1 : Nat) : Int))))) = true) (h16 : (decide ((IntKind.wrap .i64 ((IntKind.wrap .i64 (((j : Nat) : Int) + ((n : Nat) : Int))) - ((1 : Nat) : Int))) < ((M : Nat) : Int))) = true) (h17 : (chk (.int .u32) (List.headD (List.drop ((0 + (Int.toNat (IntKind.wrap .i64 (((j : Nat) : Int) + ((n : Nat) : Int))))) * 1) (u32L U)) .dead)) = true) (h18 : (decide (((0 : Nat) : Int) ≤ (IntKind.wrap .i64 (((j : Nat) : Int) + ((n : Nat) : Int))))) = true) (h19 : (decide ((IntKind.wrap .i64 (((j : Nat) : Int) + ((n : Nat) : Int))) < ((M : Nat) : Int))) = true) (h20 : lit true (decide (((0 : Nat) : Int) ≤ ((j : Nat) : Int))) = true) (c0 : CallOk Tryz.prog ap 141 [.agg [.int .u32 (AV.toInt (List.headD (List.drop ((0 + (Int.toNat (IntKind.wrap .i64 (((j : Nat) : Int) + ((n : Nat) : Int))))) * 1) (u32L U)) .dead)), .int .u32 (AV.toInt (List.headD (List.drop ((0 + (Int.toNat (IntKind.wrap .i64 ((IntKind.wrap .i64 (((j : Nat) : Int) + ((n : Nat) : Int))) - ((1 : Nat) : Int))))) * 1) (u32L U)) .dead)), .int .u32 (AV.toInt (List.headD (List.drop ((0 + (Int.toNat (IntKind.wrap .i64 ((IntKind.wrap .i64 (((j : Nat) : Int) + ((n : Nat) : Int))) - ((2 : Nat) : Int))))) * 1) (u32L U)) .dead))], .agg [.int .u32 (AV.toInt (List.headD (List.drop ((Int.toNat (IntKind.wrap .i64 (((n : Nat) : Int) - ((1 : Nat) : Int)))) * 1) (u32L v)) .dead)), .int .u32 (AV.toInt (List.headD (List.drop ((Int.toNat (IntKind.wrap .i64 (((n : Nat) : Int) - ((2 : Nat) : Int)))) * 1) (u32L v)) .dead)), .int .u32 0]] [] (.ret (.int .u64 ((q : Nat) : Int))) []) (c1 : CallOk Tryz.prog ap 142 [.ref 0 0 (0 + (Int.toNat ((j : Nat) : Int))) ((Int.toNat (IntKind.wrap .i64 ((IntKind.wrap .i64 (((j : Nat) : Int) + ((n : Nat) : Int))) + ((1 : Nat) : Int)))) - (Int.toNat ((j : Nat) : Int))), .sl (u32L v) v.length true, .int .u64 ((q : Nat) : Int)] [{ cells := (u32L U), ver := 0, fro := false, fz := 0, esz := 1, pr := true }] (.ret (.bool false)) [{ cells := (u32L U1), ver := 0, fro := false, fz := 0, esz := 1, pr := true }]) : ExecOk Tryz.prog ap [] nt (loopBody 1 (bodyOf Tryz.f130)) { env := [(4, .ref 0 0 0 mq), (8, .int .i64 ((sh : Nat) : Int)), (9, .ref 1 0 0 M), (10, .sl (u32L v) v.length true), (11, .int .i64 ((n : Nat) : Int)), (12, .int .i64 ((j : Nat) : Int))], hp := [(0, { cells := (u32L Q), ver := 0, fro := false, fz := 0, esz := 1, pr := true }), (1, { cells := (u32L U), ver := 0, fro := false, fz := 0, esz := 1, pr := true })], md := .dead, dfs := [] } (.normal) { env := [(4, .ref 0 0 0 mq), (8, .int .i64 ((sh : Nat) : Int)), (9, .ref 1 0 0 M), (10, .sl (u32L v) v.length true), (11, .int .i64 ((n : Nat) : Int)), (12, .int .i64 (IntKind.wrap .i64 (((j : Nat) : Int) - ((1 : Nat) : Int))))], hp := [(0, { cells := (List.take ((0 + (Int.toNat ((j : Nat) : Int))) * 1) (u32L Q) ++ [.int .u32 (IntKind.wrap .u32 ((q : Nat) : Int))] ++ List.drop (((0 + (Int.toNat ((j : Nat) : Int))) * 1) + 1) (u32L Q)), ver := 0, fro := false, fz := 0, esz := 1, pr := true }), (1, { cells := (u32L U1), ver := 0, fro := false, fz := 0, esz := 1, pr := true })], md := .dead, dfs := [] } :=
  ExecOk.weak (piece_ok good (lf := 3000) (n := 4) (keep := [0, 1, 4, 5, 6, 7, 8, 9, 10, 11, 12, 13, 14, 20, 61, 106]) (ls := []) (orc := [true, false]) (ans := [(.ret (.int .u64 ((q : Nat) : Int)), []), (.ret (.bool false), [{ cells := (u32L U1), ver := 0, fro := false, fz := 0, esz := 1, pr := true }])]) (lps := []) (nt0 := 130) (s' := { env := [(0, .dead), (1, .dead), (4, .ref 0 0 0 mq), (5, .dead), (6, .dead), (7, .dead), (8, .int .i64 ((sh : Nat) : Int)), (9, .ref 1 0 0 M), (10, .sl (u32L v) v.length true), (11, .int .i64 ((n : Nat) : Int)), (12, .int .i64 (IntKind.wrap .i64 (((j : Nat) : Int) - ((1 : Nat) : Int)))), (13, .int .u64 ((q : Nat) : Int)), (14, .dead), (20, .dead), (61, .bool (decide (((0 : Nat) : Int) ≤ ((j : Nat) : Int)))), (106, .bool false)], hp := [(0, { cells := (List.take ((0 + (Int.toNat ((j : Nat) : Int))) * 1) (u32L Q) ++ [.int .u32 (IntKind.wrap .u32 ((q : Nat) : Int))] ++ List.drop (((0 + (Int.toNat ((j : Nat) : Int))) * 1) + 1) (u32L Q)), ver := 0, fro := false, fz := 0, esz := 1, pr := true }), (1, { cells := (u32L U1), ver := 0, fro := false, fz := 0, esz := 1, pr := true })], md := .dead, dfs := [] }) (by kernel_rfl) hn (.c h0 (.c h1 (.c h2 (.t (.c h1 (.c h3 (.c h4 (.c h5 (.c h6 (.c h7 (.c h8 (.c h9 (.c h10 (.c h11 (.c h12 (.c h13 (.c h14 (.c h15 (.c h16 (.c h17 (.c h18 (.c h19 (.c h20 .nil)))))))))))))))))))))) : AllB _) (.cons c1 (.cons c0 .nil) : AllP _) (by kernel_rfl)) (Less.refl _) (Less.of ⟨rfl, rfl, rfl, rfl, rfl, rfl, trivial⟩)
theorem dvF_1 {nt : Nat} (hn : 130 ≤ nt) (Q U U1 U2 v : List Nat) (mq sh M n j q : Nat) (h0 : lit false (decide (((0 : Nat) : Int) ≤ ((j : Nat) : Int))) = true)  : ExecOk Tryz.prog ap [] nt (loopBody 1 (bodyOf Tryz.f130)) { env := [(4, .ref 0 0 0 mq), (8, .int .i64 ((sh : Nat) : Int)), (9, .ref 1 0 0 M), (10, .sl (u32L v) v.length true), (11, .int .i64 ((n : Nat) : Int)), (12, .int .i64 ((j : Nat) : Int))], hp := [(0, { cells := (u32L Q), ver := 0, fro := false, fz := 0, esz := 1, pr := true }), (1, { cells := (u32L U), ver := 0, fro := false, fz := 0, esz := 1, pr := true })], md := .dead, dfs := [] } (.exit 1) { env := [(4, .ref 0 0 0 mq), (8, .int .i64 ((sh : Nat) : Int)), (9, .ref 1 0 0 M), (10, .sl (u32L v) v.length true), (11, .int .i64 ((n : Nat) : Int)), (12, .int .i64 ((j : Nat) : Int))], hp := [(0, { cells := (u32L Q), ver := 0, fro := false, fz := 0, esz := 1, pr := true }), (1, { cells := (u32L U), ver := 0, fro := false, fz := 0, esz := 1, pr := true })], md := .dead, dfs := [] } :=
  ExecOk.weak (piece_ok good (lf := 3000) (n := 4) (keep := [0, 1, 4, 5, 6, 7, 8, 9, 10, 11, 12, 13, 14, 20, 61, 106]) (ls := []) (orc := [false]) (ans := []) (lps := []) (nt0 := 130) (s' := { env := [(0, .dead), (1, .dead), (4, .ref 0 0 0 mq), (5, .dead), (6, .dead), (7, .dead), (8, .int .i64 ((sh : Nat) : Int)), (9, .ref 1 0 0 M), (10, .sl (u32L v) v.length true), (11, .int .i64 ((n : Nat) : Int)), (12, .int .i64 ((j : Nat) : Int)), (13, .dead), (14, .dead), (20, .dead), (61, .bool (decide (((0 : Nat) : Int) ≤ ((j : Nat) : Int)))), (106, .dead)], hp := [(0, { cells := (u32L Q), ver := 0, fro := false, fz := 0, esz := 1, pr := true }), (1, { cells := (u32L U), ver := 0, fro := false, fz := 0, esz := 1, pr := true })], md := .dead, dfs := [] }) (by kernel_rfl) hn (.c h0 .nil : AllB _) (.nil : AllP _) (by kernel_rfl)) (Less.refl _) (Less.of ⟨rfl, rfl, rfl, rfl, rfl, rfl, trivial⟩)
theorem dvE_0 {nt : Nat} (hn : 130 ≤ nt) (Q U U1 U2 v : List Nat) (mq sh M n j q : Nat)   : ExecOk Tryz.prog ap [] nt (loopBody 1 (bodyOf Tryz.f130)) { env := [(4, .ref 0 0 0 mq), (8, .int .i64 ((sh : Nat) : Int)), (9, .ref 1 0 0 M), (10, .sl (u32L v) v.length true), (11, .int .i64 ((n : Nat) : Int)), (12, .int .i64 (-1))], hp := [(0, { cells := (u32L Q), ver := 0, fro := false, fz := 0, esz := 1, pr := true }), (1, { cells := (u32L U), ver := 0, fro := false, fz := 0, esz := 1, pr := true })], md := .dead, dfs := [] } (.exit 1) { env := [(4, .ref 0 0 0 mq), (8, .int .i64 ((sh : Nat) : Int)), (9, .ref 1 0 0 M), (10, .sl (u32L v) v.length true), (11, .int .i64 ((n : Nat) : Int)), (12, .int .i64 (-1))], hp := [(0, { cells := (u32L Q), ver := 0, fro := false, fz := 0, esz := 1, pr := true }), (1, { cells := (u32L U), ver := 0, fro := false, fz := 0, esz := 1, pr := true })], md := .dead, dfs := [] } :=
  ExecOk.weak (piece_ok good (lf := 3000) (n := 4) (keep := [0, 1, 4, 5, 6, 7, 8, 9, 10, 11, 12, 13, 14, 20, 61, 106]) (ls := []) (orc := [false]) (ans := []) (lps := []) (nt0 := 130) (s' := { env := [(0, .dead), (1, .dead), (4, .ref 0 0 0 mq), (5, .dead), (6, .dead), (7, .dead), (8, .int .i64 ((sh : Nat) : Int)), (9, .ref 1 0 0 M), (10, .sl (u32L v) v.length true), (11, .int .i64 ((n : Nat) : Int)), (12, .int .i64 (-1)), (13, .dead), (14, .dead), (20, .dead), (61, .bool false), (106, .dead)], hp := [(0, { cells := (u32L Q), ver := 0, fro := false, fz := 0, esz := 1, pr := true }), (1, { cells := (u32L U), ver := 0, fro := false, fz := 0, esz := 1, pr := true })], md := .dead, dfs := [] }) (by kernel_rfl) hn (.t .nil : AllB _) (.nil : AllP _) (by kernel_rfl)) (Less.refl _) (Less.of ⟨rfl, rfl, rfl, rfl, rfl, rfl, trivial⟩)
end Go.Proofs.Tryz

set_option maxRecDepth 100000
open Go AM
namespace Go.Proofs.Tryz
theorem pad_cons {q Q k : Nat} (hq : q < 4294967296) : padL (k + 1) (4294967296 * Q + q) = q :: padL k Q := by
  unfold padL
  rw [List.range_succ_eq_map, List.map_cons, List.map_map]
  congr 1
  · simp only [Nat.mul_zero, Nat.pow_zero, Nat.div_one, p_32]; omega
  · apply List.map_congr_left
    intro i _
    simp only [Function.comp, Nat.succ_eq_add_one]
    rw [show 32 * (i + 1) = 32 + 32 * i by omega, Nat.pow_add, ← Nat.div_div_eq_div_mul, p_32, show (4294967296 * Q + q) / 4294967296 = Q by omega]
theorem est_bounds {k W V : Nat} (hV : V < 4294967296 ^ (k + 2)) (hV1 : 2147483648 * 4294967296 ^ (k + 1) ≤ V) (hW : W < V * 4294967296) :
    W / V ≤ estN (W / 4294967296 ^ (k + 2) % 4294967296) (W / 4294967296 ^ (k + 1) % 4294967296) (W / 4294967296 ^ k % 4294967296) (V / 4294967296 ^ (k + 1) % 4294967296) (V / 4294967296 ^ k % 4294967296) ∧
    estN (W / 4294967296 ^ (k + 2) % 4294967296) (W / 4294967296 ^ (k + 1) % 4294967296) (W / 4294967296 ^ k % 4294967296) (V / 4294967296 ^ (k + 1) % 4294967296) (V / 4294967296 ^ k % 4294967296) ≤ W / V + 1 ∧
    W / 4294967296 ^ (k + 2) % 4294967296 ≤ V / 4294967296 ^ (k + 1) % 4294967296 ∧ 2147483648 ≤ V / 4294967296 ^ (k + 1) % 4294967296 := by
  have hP : 0 < 4294967296 ^ k := pow32_pos k
  have e1 : 4294967296 ^ (k + 1) = 4294967296 ^ k * 4294967296 := Nat.pow_succ ..
  have e2 : 4294967296 ^ (k + 2) = 4294967296 ^ k * 4294967296 * 4294967296 := by rw [Nat.pow_succ, Nat.pow_succ]
  rw [e2] at hV ⊢
  rw [e1] at hV1 ⊢
  generalize 4294967296 ^ k = P at *
  simp only [← Nat.div_div_eq_div_mul]
  have hT := Nat.div_add_mod W P
  have hTl := Nat.mod_lt W hP
  have hD := Nat.div_add_mod V P
  have hDl := Nat.mod_lt V hP
  have hVpos : 0 < V := by
    have := Nat.mul_pos (show 0 < 2147483648 by omega) (Nat.mul_pos hP (show 0 < 4294967296 by omega)); omega
  generalize hTe : W / P = T at *
  generalize hDe : V / P = D at *
  generalize hw : W % P = w at *
  generalize hd : V % P = d at *
  -- bounds of D
  have hD1 : 2147483648 * 4294967296 ≤ D := by
    rw [← hDe, Nat.le_div_iff_mul_le hP]
    calc 2147483648 * 4294967296 * P = 2147483648 * (P * 4294967296) := by rw [Nat.mul_assoc, Nat.mul_comm 4294967296 P]
      _ ≤ V := hV1
  have hD2 : D < 4294967296 * 4294967296 := by
    rw [← hDe, Nat.div_lt_iff_lt_mul hP]
    calc V < P * 4294967296 * 4294967296 := hV
      _ = 4294967296 * 4294967296 * P := by rw [Nat.mul_assoc, Nat.mul_comm P]
  have hTD : T < (D + 1) * 4294967296 := by
    rw [← hTe, Nat.div_lt_iff_lt_mul hP]
    calc W < V * 4294967296 := hW
      _ ≤ (D + 1) * P * 4294967296 := Nat.mul_le_mul_right _ (by rw [Nat.add_mul, Nat.mul_comm D]; omega)
      _ = (D + 1) * 4294967296 * P := by rw [Nat.mul_assoc, Nat.mul_assoc, Nat.mul_comm P]
  have hle : W / V ≤ 4294967295 := by
    have : W / V < 4294967296 := by rw [Nat.div_lt_iff_lt_mul hVpos, Nat.mul_comm]; exact hW
    omega
  have hqm := Nat.div_add_mod W V
  have hql := Nat.mod_lt W hVpos
  have hT2 : T / 4294967296 / 4294967296 < 4294967296 := by omega
  have hT3 : 4294967296 * (4294967296 * (T / 4294967296 / 4294967296 % 4294967296) + T / 4294967296 % 4294967296) + T % 4294967296 = T := by omega
  have hD3 : 4294967296 * (D / 4294967296 % 4294967296) + D % 4294967296 = D := by omega
  have h1 : 0 < D / 4294967296 % 4294967296 := by omega
  refine ⟨?_, ?_, by omega, by omega⟩
  · rw [le_est h1, hT3, hD3]
    refine ⟨hle, ?_⟩
    have h2 : W / V * D * P < (T + 1) * P := by
      have h3 : W / V * D * P = W / V * (P * D) := by rw [Nat.mul_assoc, Nat.mul_comm D]
      have h4 : W / V * (P * D) ≤ W / V * V := Nat.mul_le_mul_left _ (by omega)
      rw [Nat.mul_comm (W / V) V] at h4
      rw [Nat.add_mul, Nat.mul_comm T P]; omega
    have := Nat.lt_of_mul_lt_mul_right h2
    omega
  · generalize he : estN _ _ _ _ _ = e
    have h2 := (le_est (x := e) h1).1 (by rw [he]; exact Nat.le_refl _)
    rw [hT3, hD3] at h2
    obtain ⟨h3, h4⟩ := h2
    have h5 : e * V < W + V := by
      have a1 : e * V = e * (P * D) + e * d := by rw [← Nat.mul_add, hD]
      have a2 : e * (P * D) = e * D * P := by rw [Nat.mul_comm P, Nat.mul_assoc]
      have a3 : e * D * P ≤ T * P := Nat.mul_le_mul_right _ h4
      have a4 : e * d ≤ e * P := Nat.mul_le_mul_left _ (by omega)
      have a5 : e * P ≤ 4294967295 * P := Nat.mul_le_mul_right _ h3
      have a6 : 2147483648 * 4294967296 * P ≤ D * P := Nat.mul_le_mul_right _ hD1
      rw [Nat.mul_comm D] at a6
      rw [Nat.mul_comm T] at a3
      omega
    have h6 : e * V < (W / V + 2) * V := by
      rw [Nat.add_mul, Nat.mul_comm (W / V)]; omega
    have := Nat.lt_of_mul_lt_mul_right h6
    omega
end Go.Proofs.Tryz

set_option maxRecDepth 100000
open Go AM
namespace Go.Proofs.Tryz
def dvQ (a v : List Nat) (m j : Nat) : List Nat := List.replicate j 0 ++ padL (m - j) (valL (a.drop j) / valL v)
def dvU (a v : List Nat) (m j : Nat) : List Nat := a.take j ++ padL v.length (valL (a.drop j) % valL v) ++ List.replicate (m - j) 0
def dvSt (a v : List Nat) (sh m j : Nat) : St := { env := [(4, .ref 0 0 0 m), (8, .int .i64 ((sh : Nat) : Int)), (9, .ref 1 0 0 (m + v.length)), (10, .sl (u32L v) v.length true), (11, .int .i64 ((v.length : Nat) : Int)), (12, .int .i64 (((j : Nat) : Int) - 1))], hp := [(0, { cells := u32L (dvQ a v m j), ver := 0, fro := false, fz := 0, esz := 1, pr := true }), (1, { cells := u32L (dvU a v m j), ver := 0, fro := false, fz := 0, esz := 1, pr := true })], md := .dead, dfs := [] }
theorem pad_top {n r : Nat} (h : r < 4294967296 ^ n) : padL (n + 1) r = padL n r ++ [0] := by
  rw [pad_succ, pow32, Nat.div_eq_of_lt h]
/-- A window that moves down by a digit. -/
theorem dvU_win {a v : List Nat} {m j : Nat} (hj : j < m) (ha : a.length = m + v.length) (hv : Lim v) (hla : Lim a) (hV : 0 < valL v) : dvU a v m (j + 1) = a.take j ++ padL (v.length + 1) (4294967296 * (valL (a.drop (j + 1)) % valL v) + a.getD j 0) ++ List.replicate (m - j - 1) 0 := by
  unfold dvU
  rw [pad_cons (hla.getD j), List.take_add_one, show m - (j + 1) = m - j - 1 by omega]
  have : a[j]? = some (a.getD j 0) := by rw [List.getD_eq_getElem?_getD, List.getElem?_eq_getElem (by omega)]; rfl
  rw [this]
  simp
theorem dvU_end {a v : List Nat} {m j : Nat} (hj : j < m) (hv : Lim v) (hV : 0 < valL v) : dvU a v m j = a.take j ++ padL (v.length + 1) (valL (a.drop j) % valL v) ++ List.replicate (m - j - 1) 0 := by
  unfold dvU
  rw [pad_top (Nat.lt_trans (Nat.mod_lt _ hV) (valL_lt hv)), show m - j = (m - j - 1) + 1 by omega, List.replicate_succ]
  simp
theorem dvQ_win {a v : List Nat} {m j : Nat} : dvQ a v m (j + 1) = List.replicate j 0 ++ 0 :: padL (m - j - 1) (valL (a.drop (j + 1)) / valL v) := by
  unfold dvQ
  rw [List.replicate_succ', show m - (j + 1) = m - j - 1 by omega]
  simp
theorem dv_div {V R' Q' x H : Nat} (hV : 0 < V) (h : H = V * Q' + R') : (x + 4294967296 * H) / V = 4294967296 * Q' + (4294967296 * R' + x) / V ∧ (x + 4294967296 * H) % V = (4294967296 * R' + x) % V := by
  subst h
  have e : x + 4294967296 * (V * Q' + R') = 4294967296 * R' + x + V * (4294967296 * Q') := by
    rw [Nat.mul_add, Nat.mul_left_comm]; omega
  rw [e]
  constructor
  · rw [Nat.add_mul_div_left _ _ hV, Nat.add_comm]
  · rw [Nat.add_mul_mod_self_left]
theorem win_get {pre post : List Nat} {n W i : Nat} (h : i ≤ n) : (pre ++ padL (n + 1) W ++ post).getD (pre.length + i) 0 = W / 4294967296 ^ i % 4294967296 := by
  rw [List.getD_eq_getElem?_getD, List.getElem?_append_left (by simp [padL_length]; omega), List.getElem?_append_right (by omega), Nat.add_sub_cancel_left, padL_get (by omega), pow32, p_32]
  rfl
theorem lim_get {v : List Nat} (hv : Lim v) {i : Nat} (h : i < v.length) : v.getD i 0 = valL v / 4294967296 ^ i % 4294967296 := by
  have e := padL_get (n := valL v) h
  rw [padL_val hv, pow32, p_32] at e
  rw [List.getD_eq_getElem?_getD, e]; rfl
/-- The code of a round, its terms put in order. -/
def dvS (sh m M n : Nat) (v Q U : List Nat) (j : Int) : St := { env := [(4, .ref 0 0 0 m), (8, .int .i64 ((sh : Nat) : Int)), (9, .ref 1 0 0 M), (10, .sl (u32L v) v.length true), (11, .int .i64 ((n : Nat) : Int)), (12, .int .i64 j)], hp := [(0, { cells := u32L Q, ver := 0, fro := false, fz := 0, esz := 1, pr := true }), (1, { cells := u32L U, ver := 0, fro := false, fz := 0, esz := 1, pr := true })], md := .dead, dfs := [] }
abbrev estA (x2 x1 x0 y1 y0 : Nat) : List AV := [.agg [.int .u32 ((x2 : Nat) : Int), .int .u32 ((x1 : Nat) : Int), .int .u32 ((x0 : Nat) : Int)], .agg [.int .u32 ((y1 : Nat) : Int), .int .u32 ((y0 : Nat) : Int), .int .u32 0]]
theorem dvT_n {nt : Nat} (hn : 130 ≤ nt) (Q R U U1 U2 v : List Nat) (sh m n j q : Nat) (hv : v.length = n) (h2 : 2 ≤ n) (hU : U.length = m + n) (hj : j < m) (hl : m + n < 2 ^ 40) (hq : q < 4294967296) (hq0 : 0 < q) (hQ : Q.length = m) (hset : ∀ y : Nat, List.take j (u32L Q) ++ [AV.int .u32 (y : Int)] ++ List.drop (j + 1) (u32L Q) = u32L (Q.set j y)) (hR : Q.set j (q - 1) = R)
    (c0 : CO 141 (estA (U.getD (j + n) 0) (U.getD (j + n - 1) 0) (U.getD (j + n - 2) 0) (v.getD (n - 1) 0) (v.getD (n - 2) 0)) (.ret (.int .u64 ((q : Nat) : Int))))
    (c1 : CallOk Tryz.prog ap 142 [.ref 0 0 j (n + 1), .sl (u32L v) v.length true, .int .u64 ((q : Nat) : Int)] (base1 U) (.ret (.bool true)) (base1 U1))
    (c2 : CallOk Tryz.prog ap 143 [.ref 0 0 j (n + 1), .sl (u32L v) v.length true] (base1 U1) (.ret (.tup [])) (base1 U2)) :
    ExecOk Tryz.prog ap [] nt (loopBody 1 (bodyOf Tryz.f130)) (dvS sh m (m + n) n v Q U (j : Int)) .normal (dvS sh m (m + n) n v R U2 ((j : Int) - 1)) := by
  have hbody := dvT_0 hn Q U U1 U2 v m sh (m + n) n j q
  have ew : IntKind.wrap .i64 ((j : Int) - ((1 : Nat) : Int)) = (j : Int) - 1 := w64_id (by omega) (by omega)
  have eq1 : (q + (18446744073709551616 - 1)) % 18446744073709551616 = q - 1 := by omega
  have en : j + n + 1 - j = n + 1 := by omega
  simp (disch := first | omega | (simp only [List.length_append, List.length_replicate, List.length_cons, List.length_nil, List.length_reverse, List.length_map, u32L_length, u8L_length, List.length_take, List.length_drop, List.length_set] <;> omega)) only [c_add, c_mul, c_tdiv, c_tmod, c_shl, c_shr, c_toNat, w64_nat, w64_sub, w8u, w32u, w64u, w64u_sub, w32u_sub, or64, or32, and64, and_mask32, andI, orI, min_b64, min_b32, min_bi, min_l, p_32, p_63, Nat.mod_eq_of_lt, chk_u32, toInt_int, d_le, d_lt, b_eq, d_eq, nble_d, nbeq_d, lit_t, lit_f, not_t, dec_t, dec_f, Nat.zero_add, Nat.mul_one, u32L_length, List.length_append, List.length_replicate, List.length_cons, List.length_set, List.length_nil, u32_get, u32_mid, set_mid, hset, ew, eq1, en] at hbody
  rw [hR] at hbody
  unfold dvS
  apply hbody <;> first | exact True.intro | omega | assumption
theorem dvF_n {nt : Nat} (hn : 130 ≤ nt) (Q R U U1 v : List Nat) (sh m n j q : Nat) (hv : v.length = n) (h2 : 2 ≤ n) (hU : U.length = m + n) (hj : j < m) (hl : m + n < 2 ^ 40) (hq : q < 4294967296) (hQ : Q.length = m) (hset : ∀ y : Nat, List.take j (u32L Q) ++ [AV.int .u32 (y : Int)] ++ List.drop (j + 1) (u32L Q) = u32L (Q.set j y)) (hR : Q.set j q = R)
    (c0 : CO 141 (estA (U.getD (j + n) 0) (U.getD (j + n - 1) 0) (U.getD (j + n - 2) 0) (v.getD (n - 1) 0) (v.getD (n - 2) 0)) (.ret (.int .u64 ((q : Nat) : Int))))
    (c1 : CallOk Tryz.prog ap 142 [.ref 0 0 j (n + 1), .sl (u32L v) v.length true, .int .u64 ((q : Nat) : Int)] (base1 U) (.ret (.bool false)) (base1 U1)) :
    ExecOk Tryz.prog ap [] nt (loopBody 1 (bodyOf Tryz.f130)) (dvS sh m (m + n) n v Q U (j : Int)) .normal (dvS sh m (m + n) n v R U1 ((j : Int) - 1)) := by
  have hbody := dvF_0 hn Q U U1 U v m sh (m + n) n j q
  have ew : IntKind.wrap .i64 ((j : Int) - ((1 : Nat) : Int)) = (j : Int) - 1 := w64_id (by omega) (by omega)
  have en : j + n + 1 - j = n + 1 := by omega
  simp (disch := first | omega | (simp only [List.length_append, List.length_replicate, List.length_cons, List.length_nil, List.length_reverse, List.length_map, u32L_length, u8L_length, List.length_take, List.length_drop, List.length_set] <;> omega)) only [c_add, c_mul, c_tdiv, c_tmod, c_shl, c_shr, c_toNat, w64_nat, w64_sub, w8u, w32u, w64u, w64u_sub, w32u_sub, or64, or32, and64, and_mask32, andI, orI, min_b64, min_b32, min_bi, min_l, p_32, p_63, Nat.mod_eq_of_lt, chk_u32, toInt_int, d_le, d_lt, b_eq, d_eq, nble_d, nbeq_d, lit_t, lit_f, not_t, dec_t, dec_f, Nat.zero_add, Nat.mul_one, u32L_length, List.length_append, List.length_replicate, List.length_cons, List.length_set, List.length_nil, u32_get, u32_mid, set_mid, hset, ew, en] at hbody
  rw [hR] at hbody
  unfold dvS
  apply hbody <;> first | exact True.intro | omega | assumption
theorem u32_set {l : List Nat} {j : Nat} (h : j < l.length) (y : Nat) : List.take j (u32L l) ++ [AV.int .u32 (y : Int)] ++ List.drop (j + 1) (u32L l) = u32L (l.set j y) := by
  rw [take_u32, drop_u32, List.set_eq_take_append_cons_drop, if_pos h]; simp [u32L]
theorem estN_lt (a b c d e : Nat) : estN a b c d e < 4294967296 := Nat.lt_of_le_of_lt (Nat.min_le_left _ _) (by omega)
theorem dv_step {nt : Nat} (hn : 130 ≤ nt) (a v : List Nat) (sh m j k : Nat) (hvk : v.length = k + 2) (hj : j < m) (ha : a.length = m + v.length) (hv : Lim v) (hla : Lim a) (hlen : a.length < 2 ^ 40) (htop : 2147483648 * 4294967296 ^ (k + 1) ≤ valL v) :
    ExecOk Tryz.prog ap [] nt (loopBody 1 (bodyOf Tryz.f130)) (dvSt a v sh m (j + 1)) .normal (dvSt a v sh m j) := by
  have hVlt := valL_lt hv
  have hVpos : 0 < valL v := by have := Nat.mul_pos (show 0 < 2147483648 by omega) (pow32_pos (k + 1)); omega
  have hx := hla.getD j
  have hRlt := Nat.mod_lt (valL (a.drop (j + 1))) hVpos
  have hdm := Nat.div_add_mod (valL (a.drop (j + 1))) (valL v)
  have hsp : valL (a.drop j) = a.getD j 0 + 4294967296 * valL (a.drop (j + 1)) := valL_drop (by omega)
  obtain ⟨hd1, hd2⟩ := dv_div (x := a.getD j 0) hVpos hdm.symm
  rw [← hsp] at hd1 hd2
  unfold dvSt
  rw [show (((j + 1 : Nat) : Int) - 1) = (j : Int) by omega]
  rw [dvU_win hj ha hv hla hVpos, dvU_end hj hv hVpos, dvQ_win, hd2]
  have hQ : dvQ a v m j = List.replicate j 0 ++ (4294967296 * (valL (a.drop (j + 1)) % valL v) + a.getD j 0) / valL v :: padL (m - j - 1) (valL (a.drop (j + 1)) / valL v) := by
    unfold dvQ
    rw [hd1, show m - j = (m - j - 1) + 1 by omega, pad_cons]
    · rfl
    · rw [Nat.div_lt_iff_lt_mul hVpos]; omega
  rw [hQ]
  have hW : 4294967296 * (valL (a.drop (j + 1)) % valL v) + a.getD j 0 < valL v * 4294967296 := by omega
  generalize valL (a.drop (j + 1)) / valL v = Q' at *
  generalize 4294967296 * (valL (a.drop (j + 1)) % valL v) + a.getD j 0 = W at *
  have hpl : (a.take j).length = j := by simp; omega
  generalize a.take j = pre at *
  obtain ⟨b1, b2, b3, b4⟩ := est_bounds (k := k) (W := W) (by rw [← hvk]; exact hVlt) htop hW
  have hpost : Lim (List.replicate (m - j - 1) 0) := Lim.zeros _
  have hWn : W < 4294967296 ^ (v.length + 1) := by
    rw [Nat.pow_succ]; exact Nat.lt_of_lt_of_le hW (Nat.mul_le_mul_right _ (Nat.le_of_lt hVlt))
  have g2 := win_get (pre := pre) (post := List.replicate (m - j - 1) 0) (n := v.length) (W := W) (i := k + 2) (by omega)
  have g1 := win_get (pre := pre) (post := List.replicate (m - j - 1) 0) (n := v.length) (W := W) (i := k + 1) (by omega)
  have g0 := win_get (pre := pre) (post := List.replicate (m - j - 1) 0) (n := v.length) (W := W) (i := k) (by omega)
  have v1 := lim_get hv (i := k + 1) (by omega)
  have v0 := lim_get hv (i := k) (by omega)
  rw [hpl] at g2 g1 g0
  have i0 : j + v.length = j + (k + 2) := by rw [hvk]
  have i1 : j + v.length - 1 = j + (k + 1) := by omega
  have i2 : j + v.length - 2 = j + k := by omega
  have i3 : v.length - 1 = k + 1 := by omega
  have i4 : v.length - 2 = k := by omega
  have hm := Nat.mod_lt (W / 4294967296 ^ (k + 1)) (show 0 < 4294967296 by omega)
  have hm0 := Nat.mod_lt (W / 4294967296 ^ k) (show 0 < 4294967296 by omega)
  have hmv := Nat.mod_lt (valL v / 4294967296 ^ (k + 1)) (show 0 < 4294967296 by omega)
  have hmv0 := Nat.mod_lt (valL v / 4294967296 ^ k) (show 0 < 4294967296 by omega)
  have hest := est_ok _ _ _ _ _ b3 hm hm0 hmv hmv0 b4
  generalize hE : estN _ _ _ _ _ = q at b1 b2 hest
  have hqlt : q < 4294967296 := by rw [← hE]; exact estN_lt ..
  have hUl : (pre ++ padL (v.length + 1) W ++ List.replicate (m - j - 1) 0).length = m + v.length := by simp [padL_length, hpl]; omega
  have htake := take_ok pre (List.replicate (m - j - 1) 0) v true v.length W q rfl hv hqlt hWn hpost (by omega)
  have hqm := Nat.div_add_mod W (valL v)
  have hql := Nat.mod_lt W hVpos
  rw [hpl] at htake
  rcases Nat.lt_or_ge (W / valL v) q with hlt | hge
  · have hq : q = W / valL v + 1 := by omega
    have hlt' : W < q * valL v := by rw [hq, Nat.add_mul, Nat.mul_comm (W / valL v)]; omega
    rw [if_pos hlt', decide_eq_true hlt'] at htake
    have hgive := give_ok pre (List.replicate (m - j - 1) 0) v true v.length (W + 4294967296 ^ (v.length + 1) - q * valL v) rfl hv (by omega) hpost (by omega)
    rw [hpl] at hgive
    have hres : (W + 4294967296 ^ (v.length + 1) - q * valL v + valL v) % 4294967296 ^ (v.length + 1) = W % valL v := by
      have e : W + 4294967296 ^ (v.length + 1) - q * valL v + valL v = W % valL v + 4294967296 ^ (v.length + 1) := by
        have : q * valL v = valL v * (W / valL v) + valL v := by rw [hq, Nat.add_mul, Nat.mul_comm (W / valL v)]; omega
        omega
      rw [e, Nat.add_mod_right, Nat.mod_eq_of_lt]
      have := Nat.pow_le_pow_right (show 0 < 4294967296 by omega) (show v.length ≤ v.length + 1 by omega)
      omega
    rw [hres] at hgive
    have hset := u32_set (l := List.replicate j 0 ++ 0 :: padL (m - j - 1) Q') (j := j) (by simp)
    have hR : (List.replicate j 0 ++ 0 :: padL (m - j - 1) Q').set j (q - 1) = List.replicate j 0 ++ W / valL v :: padL (m - j - 1) Q' := by
      rw [List.set_append_right _ _ (by simp), show q - 1 = W / valL v by rw [hq, Nat.add_sub_cancel]]; simp
    have := dvT_n hn _ _ _ _ _ v sh m v.length j q rfl (by omega) hUl hj (by omega) hqlt (by rw [hq]; exact Nat.succ_pos _) (by simp [padL_length]; omega) hset hR (by rw [i1, i2, i3, i4, i0, g2, g1, g0, v1, v0]; exact hest) htake hgive
    exact this
  · have hq : q = W / valL v := by omega
    have hlt' : ¬ W < q * valL v := by rw [hq, Nat.mul_comm]; omega
    rw [if_neg hlt', decide_eq_false hlt'] at htake
    have hres : W - q * valL v = W % valL v := by rw [hq, Nat.mul_comm]; omega
    rw [hres] at htake
    have hset := u32_set (l := List.replicate j 0 ++ 0 :: padL (m - j - 1) Q') (j := j) (by simp)
    have hR : (List.replicate j 0 ++ 0 :: padL (m - j - 1) Q').set j q = List.replicate j 0 ++ W / valL v :: padL (m - j - 1) Q' := by
      rw [List.set_append_right _ _ (by simp), hq]; simp
    have := dvF_n hn _ _ _ _ v sh m v.length j q rfl (by omega) hUl hj (by omega) hqlt (by simp [padL_length]; omega) hset hR (by rw [i1, i2, i3, i4, i0, g2, g1, g0, v1, v0]; exact hest) htake
    exact this
theorem dv_loop {nt : Nat} (hn : 130 ≤ nt) (a v : List Nat) (sh m k : Nat) (hvk : v.length = k + 2) (ha : a.length = m + v.length) (hv : Lim v) (hla : Lim a) (hlen : a.length < 2 ^ 40) (htop : 2147483648 * 4294967296 ^ (k + 1) ≤ valL v) :
    ∀ j, j ≤ m → LoopR Tryz.prog ap [] nt (loopBody 1 (bodyOf Tryz.f130)) (fun _ => .exit 1) (dvSt a v sh m) (dvSt a v sh m) j 0 := by
  intro j
  induction j with
  | zero => exact fun _ => .done (dvE_0 hn (dvQ a v m 0) (dvU a v m 0) [] [] v m sh (m + v.length) v.length 0 0)
  | succ j ih => exact fun hj => .next (dv_step hn a v sh m j k hvk (by omega) ha hv hla hlen htop) (ih (by omega))
end Go.Proofs.Tryz

set_option maxRecDepth 100000
open Go AM
namespace Go.Proofs.Tryz
theorem div_0 (x y s r X1 mq : Nat) (A Y Q U v : List Nat) (h0 : lit true (decide ((sgn x y) < ((0 : Nat) : Int))) = true) (c0 : CallOk Tryz.prog ap 129 [.sl (u32L (digs x)) (digs x).length false, .sl (u32L (digs y)) (digs y).length false] [] (.ret (.int .i64 (sgn x y))) []) : CallOk Tryz.prog ap 130 [.sl (u32L (digs x)) (digs x).length false, .sl (u32L (digs y)) (digs y).length false] [] (.ret (.tup [.nilS, .sl (u32L (digs x)) (digs x).length false])) [] := path_ok good (lf := 3000) (n := 4) (ls := [1]) (orc := [true]) (ans := [(.ret (.int .i64 (sgn x y)), [])]) (lps := []) (.c h0 .nil : AllB _) (.cons c0 .nil : AllP _) (by kernel_rfl)
theorem div_1 (x y s r X1 mq : Nat) (A Y Q U v : List Nat) (h0 : (chk (.int .u32) (List.headD (u32L (digs y)) .dead)) = true) (h1 : (decide (((0 : Nat) : Int) < (((digs y).length : Nat) : Int))) = true) (h2 : lit true ((((digs y).length : Nat) : Int) == ((1 : Nat) : Int)) = true) (h3 : lit false (decide ((sgn x y) < ((0 : Nat) : Int))) = true) (c0 : CallOk Tryz.prog ap 129 [.sl (u32L (digs x)) (digs x).length false, .sl (u32L (digs y)) (digs y).length false] [] (.ret (.int .i64 (sgn x y))) []) (c1 : CallOk Tryz.prog ap 138 [.sl (u32L (digs x)) (digs x).length false, .int .u32 (AV.toInt (List.headD (u32L (digs y)) .dead))] [] (.ret (.tup [.sl (u32L (digs X1)) (digs X1).length false, .int .u32 ((r : Nat) : Int)])) []) (c2 : CallOk Tryz.prog ap 121 [.sl [.int .u32 ((r : Nat) : Int)] 1 true] [] (.ret (.sl (u32L (digs r)) (digs r).length false)) []) : CallOk Tryz.prog ap 130 [.sl (u32L (digs x)) (digs x).length false, .sl (u32L (digs y)) (digs y).length false] [] (.ret (.tup [.sl (u32L (digs X1)) (digs X1).length false, .sl (u32L (digs r)) (digs r).length false])) [] := path_ok good (lf := 3000) (n := 4) (ls := [1]) (orc := [false, true]) (ans := [(.ret (.int .i64 (sgn x y)), []), (.ret (.tup [.sl (u32L (digs X1)) (digs X1).length false, .int .u32 ((r : Nat) : Int)]), []), (.ret (.sl (u32L (digs r)) (digs r).length false), [])]) (lps := []) (.c h0 (.t (.c h1 (.c h2 (.c h3 .nil)))) : AllB _) (.cons c2 (.cons c1 (.cons c0 .nil)) : AllP _) (by kernel_rfl)
theorem div_2 (x y s r X1 mq : Nat) (A Y Q U v : List Nat) (h0 : (decide (((0 : Nat) : Int) ≤ ((v.length : Nat) : Int))) = true) (h1 : (decide (((v.length : Nat) : Int) ≤ ((A.length : Nat) : Int))) = true) (h2 : (decide (((0 : Nat) : Int) ≤ (IntKind.wrap .i64 (((A.length : Nat) : Int) - ((v.length : Nat) : Int))))) = true) (h3 : (decide ((IntKind.wrap .i64 (((A.length : Nat) : Int) - ((v.length : Nat) : Int))) = (IntKind.wrap .i64 (((A.length : Nat) : Int) - ((v.length : Nat) : Int))))) = true) (h4 : (decide ((IntKind.wrap .i64 (((A.length : Nat) : Int) - ((v.length : Nat) : Int))) ≤ ((1099511627776 : Nat) : Int))) = true) (h5 : (chk (.int .u32) (List.headD (List.drop ((Int.toNat (IntKind.wrap .i64 ((((digs y).length : Nat) : Int) - ((1 : Nat) : Int)))) * 1) (u32L (digs y))) .dead)) = true) (h6 : (decide (((0 : Nat) : Int) ≤ (IntKind.wrap .i64 ((((digs y).length : Nat) : Int) - ((1 : Nat) : Int))))) = true) (h7 : (decide ((IntKind.wrap .i64 ((((digs y).length : Nat) : Int) - ((1 : Nat) : Int))) < (((digs y).length : Nat) : Int))) = true) (h8 : lit false ((((digs y).length : Nat) : Int) == ((1 : Nat) : Int)) = true) (h9 : lit false (decide ((sgn x y) < ((0 : Nat) : Int))) = true) (c0 : CallOk Tryz.prog ap 129 [.sl (u32L (digs x)) (digs x).length false, .sl (u32L (digs y)) (digs y).length false] [] (.ret (.int .i64 (sgn x y))) []) (c1 : CallOk Tryz.prog ap 139 [.int .u32 (AV.toInt (List.headD (List.drop ((Int.toNat (IntKind.wrap .i64 ((((digs y).length : Nat) : Int) - ((1 : Nat) : Int)))) * 1) (u32L (digs y))) .dead))] [] (.ret (.int .i64 ((s : Nat) : Int))) []) (c2 : CallOk Tryz.prog ap 140 [.sl (u32L (digs x)) (digs x).length false, .int .i64 ((s : Nat) : Int)] [] (.ret (.own (u32L A) A.length 1)) []) (c3 : CallOk Tryz.prog ap 140 [.sl (u32L (digs y)) (digs y).length false, .int .i64 ((s : Nat) : Int)] [] (.ret (.own (u32L Y) Y.length 1)) []) (c4 : CallOk Tryz.prog ap 121 [.sl (List.take (Y.length * 1) (u32L Y)) Y.length true] [] (.ret (.sl (u32L v) v.length true)) []) (l0 : LoopOk Tryz.prog ap [] 130 (.block 1 (.loop (loopBody 1 (bodyOf Tryz.f130)))) { env := [(0, .sl (u32L (digs x)) (digs x).length false), (1, .sl (u32L (digs y)) (digs y).length false), (4, .ref 0 0 0 (Int.toNat (IntKind.wrap .i64 (((A.length : Nat) : Int) - ((v.length : Nat) : Int))))), (5, .nilS), (6, .dead), (7, .dead), (8, .int .i64 ((s : Nat) : Int)), (9, .ref 1 0 0 A.length), (10, .sl (u32L v) v.length true), (11, .int .i64 ((v.length : Nat) : Int)), (12, .int .i64 (IntKind.wrap .i64 ((((Int.toNat (IntKind.wrap .i64 (((A.length : Nat) : Int) - ((v.length : Nat) : Int)))) : Nat) : Int) - ((1 : Nat) : Int)))), (13, .dead), (14, .bool (decide ((sgn x y) < ((0 : Nat) : Int)))), (20, .bool ((((digs y).length : Nat) : Int) == ((1 : Nat) : Int))), (61, .dead), (106, .dead)], hp := [(0, { cells := (repL (Int.toNat (IntKind.wrap .i64 (((A.length : Nat) : Int) - ((v.length : Nat) : Int)))) [.int .u32 0]), ver := 0, fro := false, fz := 0, esz := 1, pr := true }), (1, { cells := (u32L A), ver := 0, fro := false, fz := 0, esz := 1, pr := true })], md := .dead, dfs := [] } (.normal) { env := [(4, .ref 0 0 0 mq), (8, .int .i64 ((s : Nat) : Int)), (9, .ref 1 0 0 A.length), (11, .int .i64 ((v.length : Nat) : Int))], hp := [(0, { cells := (u32L Q), ver := 0, fro := false, fz := 0, esz := 1, pr := true }), (1, { cells := (u32L U), ver := 0, fro := false, fz := 0, esz := 1, pr := true })], md := .dead, dfs := [] }) (c5 : CallOk Tryz.prog ap 121 [.sl (List.take (mq * 1) (u32L Q)) mq true] [] (.ret (.sl (u32L (digs X1)) (digs X1).length false)) []) (c6 : CallOk Tryz.prog ap 144 [.sl (List.take (((Int.toNat ((v.length : Nat) : Int)) - 0) * 1) (u32L U)) ((Int.toNat ((v.length : Nat) : Int)) - 0) true, .int .i64 ((s : Nat) : Int)] [] (.ret (.sl (u32L (digs r)) (digs r).length false)) []) : CallOk Tryz.prog ap 130 [.sl (u32L (digs x)) (digs x).length false, .sl (u32L (digs y)) (digs y).length false] [] (.ret (.tup [.sl (u32L (digs X1)) (digs X1).length false, .sl (u32L (digs r)) (digs r).length false])) [] := path_ok good (lf := 3000) (n := 4) (ls := [1]) (orc := [false, false]) (ans := [(.ret (.int .i64 (sgn x y)), []), (.ret (.int .i64 ((s : Nat) : Int)), []), (.ret (.own (u32L A) A.length 1), []), (.ret (.own (u32L Y) Y.length 1), []), (.ret (.sl (u32L v) v.length true), []), (.ret (.sl (u32L (digs X1)) (digs X1).length false), []), (.ret (.sl (u32L (digs r)) (digs r).length false), [])]) (lps := [(.normal, { env := [(4, .ref 0 0 0 mq), (8, .int .i64 ((s : Nat) : Int)), (9, .ref 1 0 0 A.length), (11, .int .i64 ((v.length : Nat) : Int))], hp := [(0, { cells := (u32L Q), ver := 0, fro := false, fz := 0, esz := 1, pr := true }), (1, { cells := (u32L U), ver := 0, fro := false, fz := 0, esz := 1, pr := true })], md := .dead, dfs := [] })]) (.t (.c h0 (.c h1 (.c h2 (.c h3 (.c h4 (.c h5 (.c h6 (.c h7 (.c h8 (.c h9 .nil)))))))))) : AllB _) (.cons c6 (.cons c5 (.cons l0 (.cons c4 (.cons c3 (.cons c2 (.cons c1 (.cons c0 .nil))))))) : AllP _) (by kernel_rfl)
end Go.Proofs.Tryz

set_option maxRecDepth 100000
open Go AM
namespace Go.Proofs.Tryz
/-- The loop's block: before and after. -/
abbrev dvB (x y s m : Nat) (A v : List Nat) : St := { env := [(0, .sl (u32L (digs x)) (digs x).length false), (1, .sl (u32L (digs y)) (digs y).length false), (4, .ref 0 0 0 m), (5, .nilS), (6, .dead), (7, .dead), (8, .int .i64 ((s : Nat) : Int)), (9, .ref 1 0 0 A.length), (10, .sl (u32L v) v.length true), (11, .int .i64 ((v.length : Nat) : Int)), (12, .int .i64 ((m : Int) - 1)), (13, .dead), (14, .bool (decide (sgn x y < ((0 : Nat) : Int)))), (20, .bool (decide ((digs y).length = 1))), (61, .dead), (106, .dead)], hp := [(0, { cells := u32L (List.replicate m 0), ver := 0, fro := false, fz := 0, esz := 1, pr := true }), (1, { cells := u32L A, ver := 0, fro := false, fz := 0, esz := 1, pr := true })], md := .dead, dfs := [] }
abbrev dvC (s m : Nat) (A v Q U : List Nat) : St := { env := [(4, .ref 0 0 0 m), (8, .int .i64 ((s : Nat) : Int)), (9, .ref 1 0 0 A.length), (11, .int .i64 ((v.length : Nat) : Int))], hp := [(0, { cells := u32L Q, ver := 0, fro := false, fz := 0, esz := 1, pr := true }), (1, { cells := u32L U, ver := 0, fro := false, fz := 0, esz := 1, pr := true })], md := .dead, dfs := [] }
theorem div_n (x y s r z m : Nat) (A Y Q U v : List Nat) (hA : A.length = m + v.length) (hAl : A.length < 2 ^ 40) (hy2 : 2 ≤ (digs y).length) (hyl : (digs y).length < 2 ^ 40) (hm : 0 < m) (hU : v.length ≤ U.length) (hlt : ¬ sgn x y < ((0 : Nat) : Int)) (c0 : CO 129 [.sl (u32L (digs x)) (digs x).length false, .sl (u32L (digs y)) (digs y).length false] (.ret (.int .i64 (sgn x y))))
    (c1 : CO 139 [.int .u32 (((digs y).getD ((digs y).length - 1) 0 : Nat) : Int)] (.ret (.int .i64 ((s : Nat) : Int))))
    (c2 : CO 140 [.sl (u32L (digs x)) (digs x).length false, .int .i64 ((s : Nat) : Int)] (.ret (.own (u32L A) A.length 1)))
    (c3 : CO 140 [.sl (u32L (digs y)) (digs y).length false, .int .i64 ((s : Nat) : Int)] (.ret (.own (u32L Y) Y.length 1)))
    (c4 : CO 121 [.sl (u32L (List.take Y.length Y)) Y.length true] (.ret (.sl (u32L v) v.length true)))
    (l0 : LoopOk Tryz.prog ap [] 130 (.block 1 (.loop (loopBody 1 (bodyOf Tryz.f130)))) (dvB x y s m A v) .normal (dvC s m A v Q U))
    (c5 : CO 121 [.sl (u32L (List.take m Q)) m true] (.ret (.sl (u32L (digs z)) (digs z).length false)))
    (c6 : CO 144 [.sl (u32L (List.take v.length U)) v.length true, .int .i64 ((s : Nat) : Int)] (.ret (.sl (u32L (digs r)) (digs r).length false))) : CO 130 [.sl (u32L (digs x)) (digs x).length false, .sl (u32L (digs y)) (digs y).length false] (.ret (.tup [.sl (u32L (digs z)) (digs z).length false, .sl (u32L (digs r)) (digs r).length false])) := by
  have h := div_2 x y s r z m A Y Q U v
  have hmw : IntKind.wrap .i64 (((m : Nat) : Int) - ((1 : Nat) : Int)) = (m : Int) - 1 := len_pr (by omega)
  have hAm : A.length - v.length = m := by omega
  simp (disch := first | omega | (simp only [List.length_append, List.length_replicate, List.length_cons, List.length_nil, List.length_reverse, List.length_map, u32L_length, u8L_length, List.length_take, List.length_drop, List.length_set] <;> omega)) only [c_add, c_mul, c_tdiv, c_tmod, c_shl, c_shr, c_toNat, w64_nat, w64_sub, w8u, w32u, w64u, w64u_sub, w32u_sub, or64, or32, and64, and_mask32, andI, orI, min_b64, min_b32, min_bi, min_l, p_32, p_63, Nat.mod_eq_of_lt, chk_u32, toInt_int, d_le, d_lt, b_eq, d_eq, nble_d, nbeq_d, lit_t, lit_f, not_t, dec_t, dec_f, Nat.zero_add, Nat.mul_one, u32L_length, List.length_append, List.length_replicate, List.length_cons, List.length_set, List.length_nil, u32_get, u32_mid, set_mid, hmw, hAm, rep_u32, Nat.sub_zero, take_u32] at h
  apply h <;> first | exact True.intro | omega | assumption
end Go.Proofs.Tryz

set_option maxRecDepth 100000
open Go AM
namespace Go.Proofs.Tryz
/-- The digits of a number, as a slice that may be nil. -/
abbrev dS (x : Nat) : AV := .sl (u32L (digs x)) (digs x).length false
theorem OutLe.sl1 (xs : List AV) (n : Nat) (nn : Bool) : OutLe (.ret (.sl xs n nn)) (.ret (.sl xs n false)) := OutLe.ret rfl rfl (Fits.sl xs n nn)
theorem digs_zero : digs 0 = [] := rfl
theorem digs_pos {x : Nat} (h : 0 < x) : 0 < (digs x).length := by
  rcases Nat.eq_zero_or_pos (digs x).length with h0 | h0
  · have := lt_of_digs (n := x) (m := 0) (by omega)
    simp at this; omega
  · exact h0
theorem digs_one {x : Nat} (h : (digs x).length = 1) : digs x = [x] ∧ x < 4294967296 := by
  have h1 := lt_of_digs (n := x) (m := 1) (by omega)
  rw [Nat.mul_one, p_32] at h1
  have h2 := valL_digs x
  match hd : digs x, h with
  | [d], _ => rw [hd] at h2; simp [valL] at h2; subst h2; exact ⟨rfl, h1⟩
theorem digs_lt (x : Nat) : x < 4294967296 ^ (digs x).length := by
  have := lt_of_digs (n := x) (Nat.le_refl _)
  rwa [pow32] at this
theorem digs_ge {x k : Nat} (h : (digs x).length = k + 1) : 4294967296 ^ k ≤ x := by
  rcases Nat.lt_or_ge x (4294967296 ^ k) with h1 | h1
  · have := digs_len (n := x) (m := k) (by rw [pow32]; exact h1)
    omega
  · exact h1
theorem digs_le {x k : Nat} (h : x < 4294967296 ^ k) : (digs x).length ≤ k := digs_len (by rw [pow32]; exact h)
theorem digs_eq {x k : Nat} (h : 4294967296 ^ k ≤ x) (h' : x < 4294967296 ^ (k + 1)) : (digs x).length = k + 1 := by
  have h1 := digs_le h'
  have h2 := digs_lt x
  rcases Nat.lt_or_ge (digs x).length (k + 1) with h3 | h3
  · have := Nat.pow_le_pow_right (show 0 < 4294967296 by omega) (show (digs x).length ≤ k by omega)
    omega
  · omega
theorem digs_mono {x y : Nat} (h : x ≤ y) : (digs x).length ≤ (digs y).length := digs_le (Nat.lt_of_le_of_lt h (digs_lt y))
/-- The top digit. -/
theorem top_digit {y k : Nat} (h : (digs y).length = k + 1) : (digs y).getD k 0 = y / 4294967296 ^ k ∧ 0 < y / 4294967296 ^ k ∧ y / 4294967296 ^ k < 4294967296 := by
  have h1 := digs_get y k
  have h2 := digs_ge h
  have h3 := digs_lt y
  rw [h] at h3
  have h4 : y / 4294967296 ^ k < 4294967296 := by
    rw [Nat.div_lt_iff_lt_mul (pow32_pos k), Nat.mul_comm, ← Nat.pow_succ]; exact h3
  rw [pow32, p_32, Nat.mod_eq_of_lt h4] at h1
  exact ⟨h1, Nat.div_pos h2 (pow32_pos k), h4⟩
/-- A number shifted so that its top digit is great. -/
theorem norm_top {y k : Nat} (h : (digs y).length = k + 1) : let s := 32 - lenN (y / 4294967296 ^ k)
    s ≤ 31 ∧ 2147483648 * 4294967296 ^ k ≤ 2 ^ s * y ∧ 2 ^ s * y < 4294967296 ^ (k + 1) := by
  obtain ⟨_, h1, h2⟩ := top_digit h
  obtain ⟨e, h3, h4, h5⟩ := lenN_spec h1
  have h6 : e + 1 ≤ 32 := by rw [← h3]; exact lenN_le h2
  intro s
  have hs : s = 31 - e := by show 32 - lenN (y / 4294967296 ^ k) = _; rw [h3]; omega
  rw [hs]
  refine ⟨by omega, ?_, ?_⟩
  · have h7 : 2147483648 = 2 ^ (31 - e) * 2 ^ e := by rw [← Nat.pow_add, show 31 - e + e = 31 by omega]
    rw [h7, Nat.mul_assoc]
    refine Nat.mul_le_mul_left _ ?_
    exact (Nat.le_div_iff_mul_le (pow32_pos k)).1 h4
  · have h8 : y < 2 ^ (e + 1) * 4294967296 ^ k := (Nat.div_lt_iff_lt_mul (pow32_pos k)).1 h5
    have h9 : 4294967296 ^ (k + 1) = 2 ^ (31 - e) * (2 ^ (e + 1) * 4294967296 ^ k) := by
      rw [← Nat.mul_assoc, ← Nat.pow_add, show 31 - e + (e + 1) = 32 by omega, p_32, Nat.pow_succ, Nat.mul_comm]
    rw [h9]
    exact Nat.mul_lt_mul_of_pos_left h8 (Nat.two_pow_pos _)
theorem valL_high {a : List Nat} {m : Nat} (ha : Lim a) (h : m ≤ a.length) : valL (a.drop m) = valL a / 4294967296 ^ m := by
  have h1 := valL_split a m h
  have h2 := valL_lt (ha.take m)
  rw [List.length_take, Nat.min_eq_left h] at h2
  rw [h1, Nat.add_mul_div_left _ _ (pow32_pos m), Nat.div_eq_of_lt h2, Nat.zero_add]
theorem dvQ_start (a v : List Nat) (m : Nat) : dvQ a v m m = List.replicate m 0 := by unfold dvQ; rw [Nat.sub_self]; simp [padL]
theorem dvU_start {a v : List Nat} {m : Nat} (ha : a.length = m + v.length) (hla : Lim a) (h : valL (a.drop m) < valL v) : dvU a v m m = a := by
  unfold dvU
  rw [Nat.sub_self, Nat.mod_eq_of_lt h, ← pad_of (hla.drop m) (by rw [List.length_drop]; omega)]
  simp
/-- 'divide'. -/
theorem divide_ok (x y : Nat) (hy : 0 < y) (hx : (digs x).length < 2 ^ 39) (hyl : (digs y).length < 2 ^ 39) : CO 130 [dS x, dS y] (.ret (.tup [dS (x / y), dS (x % y)])) := by
  have hc0 := compare_ok (digs x) (digs y) false false (by omega)
  rw [cmpL_digs] at hc0
  rcases Nat.lt_or_ge x y with hlt | hge
  · have hs : sgn x y = -1 := by unfold sgn; rw [if_pos hlt]
    have h := div_0 x y 0 0 0 0 [] [] [] [] [] (by rw [hs]; rfl) hc0
    rw [Nat.div_eq_of_lt hlt, Nat.mod_eq_of_lt hlt]
    exact h.out (OutLe.tup (.fit rfl rfl (Fits.nilS false rfl) (.same .nil)))
  · have hs : lit false (decide (sgn x y < ((0 : Nat) : Int))) = true := by
      unfold sgn; rw [if_neg (by omega)]; split <;> rfl
    rcases Nat.lt_or_ge (digs y).length 2 with h1 | h1
    · have h1' : (digs y).length = 1 := by have := digs_pos hy; omega
      obtain ⟨h2, h3⟩ := digs_one h1'
      have hsh := short_ok (digs x) false y hy h3 (by omega) (Lim.digs x)
      rw [valL_digs] at hsh
      have hr : x % y < y := Nat.mod_lt _ hy
      have ht := trimL [x % y] true (x % y) (by
        have h4 := trim_val (l := [x % y]) (Lim.cons (by omega) Lim.nil)
        simpa [valL] using h4) (by simp)
      have h := div_1 x y 0 (x % y) (x / y) 0 [] [] [] [] []
      have e0 : dS y = .sl (u32L [y]) [y].length false := by unfold dS; rw [h2]
      rw [h2] at h hc0
      rw [e0]
      refine h ?_ ?_ ?_ hs hc0 (hsh.out (OutLe.tup (.fit rfl rfl (Fits.sl _ _ _) (.same .nil)))) (ht.out (OutLe.sl1 _ _ _))
      all_goals rfl
    · obtain ⟨k, hk⟩ : ∃ k, (digs y).length = k + 2 := ⟨(digs y).length - 2, by omega⟩
      obtain ⟨n1, n2, n3⟩ := norm_top hk
      generalize hst : 32 - lenN (y / 4294967296 ^ (k + 1)) = s at *
      obtain ⟨t1, t2, t3⟩ := top_digit hk
      have hlz := lz32_ok _ t3
      rw [hst, ← t1] at hlz
      have hupA := up_ok (digs x) false s n1 hx (Lim.digs x)
      have hupY := up_ok (digs y) false s n1 hyl (Lim.digs y)
      have hvd : (digs (2 ^ s * y)).length = k + 2 := digs_eq (Nat.le_trans (by have := pow32_pos (k + 1); omega) n2) n3
      have lY : Lim (upL s 0 (digs y)) := upL_lim n1 _ _ (Nat.two_pow_pos _) (Lim.digs y)
      have lA : Lim (upL s 0 (digs x)) := upL_lim n1 _ _ (Nat.two_pow_pos _) (Lim.digs x)
      have vY : valL (upL s 0 (digs y)) = 2 ^ s * y := by rw [upL_val, valL_digs, Nat.zero_add]
      have vA : valL (upL s 0 (digs x)) = 2 ^ s * x := by rw [upL_val, valL_digs, Nat.zero_add]
      have tY := trimC (upL s 0 (digs y)) _ (2 ^ s * y) rfl (by rw [trim_val lY, vY]) (by rw [upL_length]; omega)
      have hmono := digs_mono hge
      have lenA := upL_length s (digs x) 0
      have lenY := upL_length s (digs y) 0
      rw [← lenA] at hupA
      rw [← lenY] at hupY
      generalize upL s 0 (digs x) = A at *
      generalize upL s 0 (digs y) = Y at *
      have vv : valL (digs (2 ^ s * y)) = 2 ^ s * y := valL_digs _
      have lv : Lim (digs (2 ^ s * y)) := Lim.digs _
      have hV : 0 < 2 ^ s * y := Nat.mul_pos (Nat.two_pow_pos _) hy
      generalize hve : digs (2 ^ s * y) = v at *
      obtain ⟨m, hm⟩ : ∃ m, A.length = m + v.length := ⟨A.length - v.length, by omega⟩
      have hH : valL (A.drop m) < valL v := by
        rw [valL_high lA (by omega), vA, vv]
        refine Nat.lt_of_lt_of_le ?_ n2
        rw [Nat.div_lt_iff_lt_mul (pow32_pos m), Nat.mul_assoc, ← Nat.pow_add]
        have e1 : 2 ^ s * x < 2 ^ s * 4294967296 ^ (digs x).length := Nat.mul_lt_mul_of_pos_left (digs_lt x) (Nat.two_pow_pos _)
        have e2 : 2 ^ s ≤ 2 ^ 31 := Nat.pow_le_pow_right (by omega) n1
        have e3 : 2 ^ s * 4294967296 ^ (digs x).length ≤ 2147483648 * 4294967296 ^ (digs x).length := Nat.mul_le_mul_right _ (Nat.le_trans e2 (by decide))
        have e4 : (digs x).length = k + 1 + m := by omega
        rw [e4] at e1 e3
        omega
      have hloop := fun nt hn => dv_loop (nt := nt) hn A v s m k hvd hm lv lA (by omega) (by rw [vv]; exact n2) m (Nat.le_refl _)
      have hQ0 : dvQ A v m 0 = padL m (x / y) := by
        unfold dvQ
        rw [List.drop_zero, Nat.sub_zero, vA, vv, Nat.mul_div_mul_left _ _ (Nat.two_pow_pos s), List.replicate_zero, List.nil_append]
      have hU0 : dvU A v m 0 = padL v.length (2 ^ s * (x % y)) ++ List.replicate m 0 := by
        unfold dvU
        rw [List.drop_zero, Nat.sub_zero, vA, vv, Nat.mul_mod_mul_left, List.take_zero, List.nil_append]
      have hqlt : x / y < 4294967296 ^ m := by
        have e0 := valL_split A m (by omega)
        have e1 := valL_lt (lA.take m)
        rw [List.length_take, Nat.min_eq_left (by omega)] at e1
        rw [← Nat.mul_div_mul_left x y (Nat.two_pow_pos s), ← vA, Nat.div_lt_iff_lt_mul hV, e0, ← vv]
        have e2 : 4294967296 ^ m * (valL (A.drop m) + 1) ≤ 4294967296 ^ m * valL v := Nat.mul_le_mul_left _ hH
        rw [Nat.mul_add, Nat.mul_one] at e2
        omega
      have tQ := trimC (padL m (x / y)) m (x / y) (padL_length ..) (digs_of (by rw [pow32]; exact hqlt)) (by omega)
      have hrlt : 2 ^ s * (x % y) < 4294967296 ^ v.length := by
        rw [hvd]
        refine Nat.lt_trans ?_ n3
        exact Nat.mul_lt_mul_of_pos_left (Nat.mod_lt _ hy) (Nat.two_pow_pos _)
      have hdn := down_ok (padL v.length (2 ^ s * (x % y))) true s n1 (by rw [padL_length]; omega) (Lim.pad _ _)
      rw [valL_padL, pow32, Nat.mod_eq_of_lt hrlt, Nat.mul_div_cancel_left _ (Nat.two_pow_pos s), padL_length] at hdn
      have htk : List.take v.length (u32L (padL v.length (2 ^ s * (x % y)) ++ List.replicate m 0)) = u32L (padL v.length (2 ^ s * (x % y))) := by
        rw [take_u32, List.take_append_of_le_length (by rw [padL_length]; exact Nat.le_refl _), List.take_of_length_le (by rw [padL_length]; exact Nat.le_refl _)]
      have hyl1 : (digs y).length - 1 = k + 1 := by omega
      rw [← hyl1] at hlz
      refine div_n x y s (x % y) (x / y) m A Y (padL m (x / y)) (padL v.length (2 ^ s * (x % y)) ++ List.replicate m 0) v hm (by omega) (by omega) (by omega) (by omega) (by rw [List.length_append, padL_length]; omega) (by simpa [lit] using hs) hc0 hlz hupA hupY ?_ ?_ ?_ ?_
      · rw [List.take_length]; rw [Nat.mul_one, take_u32, List.take_length] at tY; exact tY
      · refine LoopR.blk hloop (by simp) rfl ?_ ?_
        · unfold dvSt
          rw [dvQ_start, dvU_start hm lA hH, ← hm]
          exact Less.of ⟨rfl, rfl, rfl, rfl, rfl, rfl, trivial⟩
        · unfold dvSt
          rw [hQ0, hU0, ← hm]
          exact Less.of ⟨rfl, rfl, rfl, rfl, trivial⟩
      · rw [Nat.mul_one, take_u32] at tQ; exact tQ.out (OutLe.sl1 _ _ _)
      · rw [← take_u32, htk]; exact hdn.out (OutLe.sl1 _ _ _)
end Go.Proofs.Tryz

set_option maxRecDepth 100000
open Go AM
namespace Go.Proofs.Tryz
theorem quo_0 (s t : List UInt8) (h0 : lit true ((((digs (valS t)).length : Nat) : Int) == ((0 : Nat) : Int)) = true) (c0 : CallOk Tryz.prog ap 98 [.str t] [] (.ret (.sl (u32L (digs (valS t))) (digs (valS t)).length false)) []) : CallOk Tryz.prog ap 120 [.str s, .str t] [] (.ret (.tup [.str [], .str [], .bool false])) [] := path_ok good (lf := 3000) (n := 4) (ls := []) (orc := [true]) (ans := [(.ret (.sl (u32L (digs (valS t))) (digs (valS t)).length false), [])]) (lps := []) (.c h0 .nil : AllB _) (.cons c0 .nil : AllP _) (by kernel_rfl)
theorem quo_1 (s t : List UInt8) (h0 : lit false ((((digs (valS t)).length : Nat) : Int) == ((0 : Nat) : Int)) = true) (c0 : CallOk Tryz.prog ap 98 [.str t] [] (.ret (.sl (u32L (digs (valS t))) (digs (valS t)).length false)) []) (c1 : CallOk Tryz.prog ap 98 [.str s] [] (.ret (.sl (u32L (digs (valS s))) (digs (valS s)).length false)) []) (c2 : CallOk Tryz.prog ap 130 [.sl (u32L (digs (valS s))) (digs (valS s)).length false, .sl (u32L (digs (valS t))) (digs (valS t)).length false] [] (.ret (.tup [.sl (u32L (digs ((valS s) / (valS t)))) (digs ((valS s) / (valS t))).length false, .sl (u32L (digs ((valS s) % (valS t)))) (digs ((valS s) % (valS t))).length false])) []) (c3 : CallOk Tryz.prog ap 100 [.sl (u32L (digs ((valS s) / (valS t)))) (digs ((valS s) / (valS t))).length false] [] (.ret (.str (natS ((valS s) / (valS t))))) []) (c4 : CallOk Tryz.prog ap 100 [.sl (u32L (digs ((valS s) % (valS t)))) (digs ((valS s) % (valS t))).length false] [] (.ret (.str (natS ((valS s) % (valS t))))) []) : CallOk Tryz.prog ap 120 [.str s, .str t] [] (.ret (.tup [.str (natS ((valS s) / (valS t))), .str (natS ((valS s) % (valS t))), .bool true])) [] := path_ok good (lf := 3000) (n := 4) (ls := []) (orc := [false]) (ans := [(.ret (.sl (u32L (digs (valS t))) (digs (valS t)).length false), []), (.ret (.sl (u32L (digs (valS s))) (digs (valS s)).length false), []), (.ret (.tup [.sl (u32L (digs ((valS s) / (valS t)))) (digs ((valS s) / (valS t))).length false, .sl (u32L (digs ((valS s) % (valS t)))) (digs ((valS s) % (valS t))).length false]), []), (.ret (.str (natS ((valS s) / (valS t)))), []), (.ret (.str (natS ((valS s) % (valS t)))), [])]) (lps := []) (.c h0 .nil : AllB _) (.cons c4 (.cons c3 (.cons c2 (.cons c1 (.cons c0 .nil)))) : AllP _) (by kernel_rfl)
theorem gcd_0 (s t : List UInt8) (g : Nat)  (c0 : CallOk Tryz.prog ap 98 [.str s] [] (.ret (.sl (u32L (digs (valS s))) (digs (valS s)).length false)) []) (c1 : CallOk Tryz.prog ap 98 [.str t] [] (.ret (.sl (u32L (digs (valS t))) (digs (valS t)).length false)) []) (l0 : LoopOk Tryz.prog ap [] 26 (.block 0 (.loop (loopBody 0 (bodyOf Tryz.f119)))) { env := [(0, .str s), (1, .str t), (4, .str []), (5, .sl (u32L (digs (valS s))) (digs (valS s)).length false), (6, .sl (u32L (digs (valS t))) (digs (valS t)).length false), (8, .dead), (15, .dead)], hp := [], md := .dead, dfs := [] } (.normal) { env := [(5, .sl (u32L (digs g)) (digs g).length false)], hp := [], md := .dead, dfs := [] }) (c2 : CallOk Tryz.prog ap 100 [.sl (u32L (digs g)) (digs g).length false] [] (.ret (.str (natS g))) []) : CallOk Tryz.prog ap 119 [.str s, .str t] [] (.ret (.str (natS g))) [] := path_ok good (lf := 3000) (n := 4) (ls := [0]) (orc := []) (ans := [(.ret (.sl (u32L (digs (valS s))) (digs (valS s)).length false), []), (.ret (.sl (u32L (digs (valS t))) (digs (valS t)).length false), []), (.ret (.str (natS g)), [])]) (lps := [(.normal, { env := [(5, .sl (u32L (digs g)) (digs g).length false)], hp := [], md := .dead, dfs := [] })]) (.nil : AllB _) (.cons c2 (.cons l0 (.cons c1 (.cons c0 .nil))) : AllP _) (by kernel_rfl)
theorem gcb_0 {nt : Nat} (hn : 26 ≤ nt) (x y : Nat) (h0 : lit true (decide (((0 : Nat) : Int) < (((digs y).length : Nat) : Int))) = true) (c0 : CallOk Tryz.prog ap 130 [.sl (u32L (digs x)) (digs x).length false, .sl (u32L (digs y)) (digs y).length false] [] (.ret (.tup [.sl (u32L (digs (x / y))) (digs (x / y)).length false, .sl (u32L (digs (x % y))) (digs (x % y)).length false])) []) : ExecOk Tryz.prog ap [] nt (loopBody 0 (bodyOf Tryz.f119)) { env := [(5, .sl (u32L (digs x)) (digs x).length false), (6, .sl (u32L (digs y)) (digs y).length false)], hp := [], md := .dead, dfs := [] } (.normal) { env := [(5, .sl (u32L (digs y)) (digs y).length false), (6, .sl (u32L (digs (x % y))) (digs (x % y)).length false)], hp := [], md := .dead, dfs := [] } :=
  ExecOk.weak (piece_ok good (lf := 3000) (n := 4) (keep := [0, 1, 4, 5, 6, 8, 15]) (ls := []) (orc := [true]) (ans := [(.ret (.tup [.sl (u32L (digs (x / y))) (digs (x / y)).length false, .sl (u32L (digs (x % y))) (digs (x % y)).length false]), [])]) (lps := []) (nt0 := 26) (s' := { env := [(0, .dead), (1, .dead), (4, .dead), (5, .sl (u32L (digs y)) (digs y).length false), (6, .sl (u32L (digs (x % y))) (digs (x % y)).length false), (8, .sl (u32L (digs (x % y))) (digs (x % y)).length false), (15, .bool (decide (((0 : Nat) : Int) < (((digs y).length : Nat) : Int))))], hp := [], md := .dead, dfs := [] }) (by kernel_rfl) hn (.c h0 .nil : AllB _) (.cons c0 .nil : AllP _) (by kernel_rfl)) (Less.refl _) (Less.of ⟨rfl, rfl, trivial⟩)
theorem gcb_1 {nt : Nat} (hn : 26 ≤ nt) (x y : Nat) (h0 : lit false (decide (((0 : Nat) : Int) < (((digs y).length : Nat) : Int))) = true)  : ExecOk Tryz.prog ap [] nt (loopBody 0 (bodyOf Tryz.f119)) { env := [(5, .sl (u32L (digs x)) (digs x).length false), (6, .sl (u32L (digs y)) (digs y).length false)], hp := [], md := .dead, dfs := [] } (.exit 0) { env := [(5, .sl (u32L (digs x)) (digs x).length false)], hp := [], md := .dead, dfs := [] } :=
  ExecOk.weak (piece_ok good (lf := 3000) (n := 4) (keep := [0, 1, 4, 5, 6, 8, 15]) (ls := []) (orc := [false]) (ans := []) (lps := []) (nt0 := 26) (s' := { env := [(0, .dead), (1, .dead), (4, .dead), (5, .sl (u32L (digs x)) (digs x).length false), (6, .sl (u32L (digs y)) (digs y).length false), (8, .dead), (15, .bool (decide (((0 : Nat) : Int) < (((digs y).length : Nat) : Int))))], hp := [], md := .dead, dfs := [] }) (by kernel_rfl) hn (.c h0 .nil : AllB _) (.nil : AllP _) (by kernel_rfl)) (Less.refl _) (Less.of ⟨rfl, trivial⟩)
theorem bits_0 (s : List UInt8) (k : Nat) (h0 : lit true ((((digs (valS s)).length : Nat) : Int) == ((0 : Nat) : Int)) = true) (c0 : CallOk Tryz.prog ap 98 [.str s] [] (.ret (.sl (u32L (digs (valS s))) (digs (valS s)).length false)) []) : CallOk Tryz.prog ap 66 [.str s] [] (.ret (.int .i64 0)) [] := path_ok good (lf := 3000) (n := 4) (ls := []) (orc := [true]) (ans := [(.ret (.sl (u32L (digs (valS s))) (digs (valS s)).length false), [])]) (lps := []) (.c h0 .nil : AllB _) (.cons c0 .nil : AllP _) (by kernel_rfl)
theorem bits_1 (s : List UInt8) (k : Nat) (h0 : (chk (.int .u32) (List.headD (List.drop ((Int.toNat (IntKind.wrap .i64 ((((digs (valS s)).length : Nat) : Int) - ((1 : Nat) : Int)))) * 1) (u32L (digs (valS s)))) .dead)) = true) (h1 : (decide (((0 : Nat) : Int) ≤ (IntKind.wrap .i64 ((((digs (valS s)).length : Nat) : Int) - ((1 : Nat) : Int))))) = true) (h2 : (decide ((IntKind.wrap .i64 ((((digs (valS s)).length : Nat) : Int) - ((1 : Nat) : Int))) < (((digs (valS s)).length : Nat) : Int))) = true) (h3 : lit false ((((digs (valS s)).length : Nat) : Int) == ((0 : Nat) : Int)) = true) (c0 : CallOk Tryz.prog ap 98 [.str s] [] (.ret (.sl (u32L (digs (valS s))) (digs (valS s)).length false)) []) (c1 : CallOk Tryz.prog ap 99 [.int .u32 (AV.toInt (List.headD (List.drop ((Int.toNat (IntKind.wrap .i64 ((((digs (valS s)).length : Nat) : Int) - ((1 : Nat) : Int)))) * 1) (u32L (digs (valS s)))) .dead))] [] (.ret (.int .i64 ((k : Nat) : Int))) []) : CallOk Tryz.prog ap 66 [.str s] [] (.ret (.int .i64 (IntKind.wrap .i64 ((IntKind.wrap .i64 (((32 : Nat) : Int) * (IntKind.wrap .i64 ((((digs (valS s)).length : Nat) : Int) - ((1 : Nat) : Int))))) + ((k : Nat) : Int))))) [] := path_ok good (lf := 3000) (n := 4) (ls := []) (orc := [false]) (ans := [(.ret (.sl (u32L (digs (valS s))) (digs (valS s)).length false), []), (.ret (.int .i64 ((k : Nat) : Int)), [])]) (lps := []) (.c h0 (.c h1 (.c h2 (.c h3 .nil))) : AllB _) (.cons c1 (.cons c0 .nil) : AllP _) (by kernel_rfl)
end Go.Proofs.Tryz

set_option maxRecDepth 100000
open Go AM
namespace Go.Proofs.Tryz
theorem digs_valS {s : List UInt8} {n : Nat} (h : s.length ≤ 4 * n) : (digs (valS s)).length ≤ n := by
  have := digs_len (valS_lt32 s)
  omega
theorem of_w (s : List UInt8) (hs : s.length < 2 ^ 38) : CO 98 [.str s] (.ret (dS (valS s))) := (of_ok s (by omega)).out (OutLe.sl1 _ _ _)
theorem trim_digs (x : Nat) : trimN (digs x) = digs x := by
  have := trim_val (Lim.digs x)
  rwa [valL_digs] at this
theorem num_w (x : Nat) (h : (digs x).length < 2 ^ 36) : CO 100 [dS x] (.ret (.str (natS x))) := number_ok (digs x) x false (trim_digs x) (by omega) h
theorem digs_nz {x : Nat} : (digs x).length = 0 ↔ x = 0 := by
  constructor
  · intro h
    rcases Nat.eq_zero_or_pos x with h0 | h0
    · exact h0
    · have := digs_pos h0; omega
  · intro h; subst h; rfl
theorem quo_ok (s t : List UInt8) (hs : s.length < 2 ^ 37) (ht : t.length < 2 ^ 37) (h0 : 0 < valS t) : CO 120 [.str s, .str t] (.ret (.tup [.str (natS (valS s / valS t)), .str (natS (valS s % valS t)), .bool true])) := by
  have hsl := digs_valS (s := s) (n := 2 ^ 35) (by omega)
  have htl := digs_valS (s := t) (n := 2 ^ 35) (by omega)
  have hp := digs_pos h0
  have q1 := digs_mono (Nat.div_le_self (valS s) (valS t))
  have q2 := digs_mono (Nat.le_of_lt (Nat.mod_lt (valS s) h0))
  have h := quo_1 s t
  simp (disch := first | omega | (simp only [List.length_append, List.length_replicate, List.length_cons, List.length_nil, List.length_reverse, List.length_map, u32L_length, u8L_length, List.length_take, List.length_drop, List.length_set] <;> omega)) only [c_add, c_mul, c_tdiv, c_tmod, c_shl, c_shr, c_toNat, w64_nat, w64_sub, w8u, w32u, w64u, w64u_sub, w32u_sub, or64, or32, and64, and_mask32, andI, orI, min_b64, min_b32, min_bi, min_l, p_32, p_63, Nat.mod_eq_of_lt, chk_u32, toInt_int, d_le, d_lt, b_eq, d_eq, nble_d, nbeq_d, lit_t, lit_f, not_t, dec_t, dec_f, Nat.zero_add, Nat.mul_one, u32L_length, List.length_append, List.length_replicate, List.length_cons, List.length_set, List.length_nil, u32_get, u32_mid, set_mid] at h
  exact h (by omega) (of_w t (by omega)) (of_w s (by omega)) (divide_ok _ _ h0 (by omega) (by omega)) (num_w _ (by omega)) (num_w _ (by omega))
theorem quo_zero (s t : List UInt8) (ht : t.length < 2 ^ 37) (h0 : valS t = 0) : CO 120 [.str s, .str t] (.ret (.tup [.str [], .str [], .bool false])) := by
  have hp := digs_nz.2 h0
  exact quo_0 s t (by rw [hp]; rfl) (of_w t (by omega))
def gcSt (p : Nat × Nat) : St := { env := [(5, dS p.1), (6, dS p.2)], hp := [], md := .dead, dfs := [] }
def gcOut (x : Nat) : St := { env := [(5, dS x)], hp := [], md := .dead, dfs := [] }
theorem gcd_loop {nt : Nat} (hn : 26 ≤ nt) : ∀ (n y x : Nat), y < n → (digs x).length < 2 ^ 36 → (digs y).length < 2 ^ 36 → LoopR Tryz.prog ap [] nt (loopBody 0 (bodyOf Tryz.f119)) (fun _ => .exit 0) gcSt gcOut (x, y) (Nat.gcd x y) := by
  intro n
  induction n with
  | zero => intro y x h; omega
  | succ n ih =>
    intro y x h hx hy
    rcases Nat.eq_zero_or_pos y with rfl | h0
    · rw [Nat.gcd_zero_right]
      exact .done (gcb_1 hn x 0 rfl)
    · have hm := Nat.mod_lt x h0
      have q2 := digs_mono (Nat.le_of_lt hm)
      have hnext := ih (x % y) y (by omega) hy (by omega)
      rw [show Nat.gcd y (x % y) = Nat.gcd x y by rw [Nat.gcd_comm y, ← Nat.gcd_rec, Nat.gcd_comm]] at hnext
      refine .next ?_ hnext
      have hp := digs_pos h0
      exact gcb_0 hn x y (by rw [d_lt, lit_t]; exact decide_eq_true hp) (divide_ok _ _ h0 (by omega) (by omega))
theorem gcd_ok (s t : List UInt8) (hs : s.length < 2 ^ 37) (ht : t.length < 2 ^ 37) : CO 119 [.str s, .str t] (.ret (.str (natS (Nat.gcd (valS s) (valS t))))) := by
  have hsl := digs_valS (s := s) (n := 2 ^ 35) (by omega)
  have htl := digs_valS (s := t) (n := 2 ^ 35) (by omega)
  have hg : (digs (Nat.gcd (valS s) (valS t))).length < 2 ^ 36 := by
    rcases Nat.eq_zero_or_pos (valS s) with h | h
    · rw [h, Nat.gcd_zero_left]; omega
    · have := digs_mono (Nat.gcd_le_left (valS t) h); omega
  exact gcd_0 s t _ (of_w s (by omega)) (of_w t (by omega)) (LoopR.blk (fun nt hn => gcd_loop hn (valS t + 1) (valS t) (valS s) (by omega) (by omega) (by omega)) (by simp) rfl (Less.of ⟨rfl, rfl, trivial⟩) (Less.of ⟨rfl, trivial⟩)) (num_w _ hg)
theorem lenN_top {y k : Nat} (h : (digs y).length = k + 1) : lenN y = 32 * k + lenN ((digs y).getD k 0) := by
  obtain ⟨h1, _, _⟩ := top_digit h
  have h2 := digs_ge h
  rw [← pow32] at h2
  rw [h1, lenN_div h2, pow32]
theorem bits_ok (s : List UInt8) (hs : s.length < 2 ^ 37) : CO 66 [.str s] (.ret (.int .i64 ((lenN (valS s) : Nat) : Int))) := by
  have hsl := digs_valS (s := s) (n := 2 ^ 35) (by omega)
  rcases Nat.eq_zero_or_pos (valS s) with h0 | h0
  · have hp := digs_nz.2 h0
    have h := bits_0 s 0 (by rw [hp]; rfl) (of_w s (by omega))
    rw [h0]; exact h
  · have hp := digs_pos h0
    obtain ⟨k, hk⟩ : ∃ k, (digs (valS s)).length = k + 1 := ⟨(digs (valS s)).length - 1, by omega⟩
    have hlt : (digs (valS s)).getD k 0 < 4294967296 := Lim.getD (Lim.digs _) k
    have hl := len32_ok _ hlt
    have hb : lenN ((digs (valS s)).getD k 0) ≤ 32 := lenN_le hlt
    rw [lenN_top hk]
    have h := bits_1 s (lenN ((digs (valS s)).getD k 0))
    rw [hk] at h
    have hk1 : k + 1 - 1 = k := rfl
    have hk2 : k < (digs (valS s)).length := by omega
    generalize lenN ((digs (valS s)).getD k 0) = b at *
    simp (disch := first | omega | (simp only [List.length_append, List.length_replicate, List.length_cons, List.length_nil, List.length_reverse, List.length_map, u32L_length, u8L_length, List.length_take, List.length_drop, List.length_set] <;> omega)) only [c_add, c_mul, c_tdiv, c_tmod, c_shl, c_shr, c_toNat, w64_nat, w64_sub, w8u, w32u, w64u, w64u_sub, w32u_sub, or64, or32, and64, and_mask32, andI, orI, min_b64, min_b32, min_bi, min_l, p_32, p_63, Nat.mod_eq_of_lt, chk_u32, toInt_int, d_le, d_lt, b_eq, d_eq, nble_d, nbeq_d, lit_t, lit_f, not_t, dec_t, dec_f, Nat.zero_add, Nat.mul_one, u32L_length, List.length_append, List.length_replicate, List.length_cons, List.length_set, List.length_nil, u32_get, u32_mid, set_mid, hk1, w64_mul] at h
    have hof := of_w s (by omega)
    unfold dS at hof
    rw [hk] at hof
    apply h <;> first | exact True.intro | omega | assumption
end Go.Proofs.Tryz

set_option maxRecDepth 100000
open Go AM
namespace Go.Proofs.Tryz
/-- Has a number no zero in front? -/
def nR (s : List UInt8) : Bool := match s with | [] => true | c :: _ => !(c == 0)
def posN (s : List UInt8) : Bool := nR s && decide (0 < valS s)
/-- Is a fraction in lowest terms? -/
def isQ (neg : Bool) (n d : List UInt8) : Bool := nR n && nR d && decide (0 < valS d) && decide (Nat.gcd (valS n) (valS d) = 1) && (!neg || decide (0 < valS n))
theorem pos_0 (s : List UInt8) (h0 : lit true (nR s) = true) (c0 : CallOk Tryz.prog ap 96 [.str s] [] (.ret (.bool (nR s))) []) (c1 : CallOk Tryz.prog ap 118 [.str s, .str []] [] (.ret (.int .i64 (sgn (valS s) (valS [])))) []) : CallOk Tryz.prog ap 95 [.agg [.str []], .str s] [] (.ret (.bool (decide (((0 : Nat) : Int) < (sgn (valS s) (valS [])))))) [] := path_ok good (lf := 3000) (n := 4) (ls := []) (orc := [true]) (ans := [(.ret (.bool (nR s)), []), (.ret (.int .i64 (sgn (valS s) (valS []))), [])]) (lps := []) (.t (.c h0 .nil) : AllB _) (.cons c1 (.cons c0 .nil) : AllP _) (by kernel_rfl)
theorem pos_1 (s : List UInt8) (h0 : lit false (nR s) = true) (c0 : CallOk Tryz.prog ap 96 [.str s] [] (.ret (.bool (nR s))) []) : CallOk Tryz.prog ap 95 [.agg [.str []], .str s] [] (.ret (.bool false)) [] := path_ok good (lf := 3000) (n := 4) (ls := []) (orc := [false]) (ans := [(.ret (.bool (nR s)), [])]) (lps := []) (.c h0 .nil : AllB _) (.cons c0 .nil : AllP _) (by kernel_rfl)
theorem low_0 (neg : Bool) (n d : List UInt8) (g : Nat) (h0 : lit true neg = true) (c0 : CallOk Tryz.prog ap 119 [.str n, .str d] [] (.ret (.str (natS g))) []) (c1 : CallOk Tryz.prog ap 120 [.str n, .str (natS g)] [] (.ret (.tup [.str (natS (valS n / g)), .str (natS (valS n % g)), .bool true])) []) (c2 : CallOk Tryz.prog ap 120 [.str d, .str (natS g)] [] (.ret (.tup [.str (natS (valS d / g)), .str (natS (valS d % g)), .bool true])) []) : CallOk Tryz.prog ap 97 [.bool neg, .str n, .str d] [] (.ret (.agg [.bool (!((natS (valS n / g)) == [])), .str (natS (valS n / g)), .str (natS (valS d / g))])) [] := path_ok good (lf := 3000) (n := 4) (ls := []) (orc := [true]) (ans := [(.ret (.str (natS g)), []), (.ret (.tup [.str (natS (valS n / g)), .str (natS (valS n % g)), .bool true]), []), (.ret (.tup [.str (natS (valS d / g)), .str (natS (valS d % g)), .bool true]), [])]) (lps := []) (.t (.t (.t (.t (.c h0 .nil)))) : AllB _) (.cons c2 (.cons c1 (.cons c0 .nil)) : AllP _) (by kernel_rfl)
theorem low_1 (neg : Bool) (n d : List UInt8) (g : Nat) (h0 : lit false neg = true) (c0 : CallOk Tryz.prog ap 119 [.str n, .str d] [] (.ret (.str (natS g))) []) (c1 : CallOk Tryz.prog ap 120 [.str n, .str (natS g)] [] (.ret (.tup [.str (natS (valS n / g)), .str (natS (valS n % g)), .bool true])) []) (c2 : CallOk Tryz.prog ap 120 [.str d, .str (natS g)] [] (.ret (.tup [.str (natS (valS d / g)), .str (natS (valS d % g)), .bool true])) []) : CallOk Tryz.prog ap 97 [.bool neg, .str n, .str d] [] (.ret (.agg [.bool false, .str (natS (valS n / g)), .str (natS (valS d / g))])) [] := path_ok good (lf := 3000) (n := 4) (ls := []) (orc := [false]) (ans := [(.ret (.str (natS g)), []), (.ret (.tup [.str (natS (valS n / g)), .str (natS (valS n % g)), .bool true]), []), (.ret (.tup [.str (natS (valS d / g)), .str (natS (valS d % g)), .bool true]), [])]) (lps := []) (.t (.t (.t (.t (.c h0 .nil)))) : AllB _) (.cons c2 (.cons c1 (.cons c0 .nil)) : AllP _) (by kernel_rfl)
theorem rright_0 (neg neg1 : Bool) (n d n1 d1 : List UInt8) (h0 : lit true (nR n) = true) (h1 : lit true (posN d) = true) (c0 : CallOk Tryz.prog ap 95 [.agg [.str []], .str d] [] (.ret (.bool (posN d))) []) (c1 : CallOk Tryz.prog ap 96 [.str n] [] (.ret (.bool (nR n))) []) (c2 : CallOk Tryz.prog ap 97 [.bool neg, .str n, .str d] [] (.ret (.agg [.bool neg1, .str n1, .str d1])) []) : CallOk Tryz.prog ap 65 [.agg [.bool neg, .str n, .str d]] [] (.ret (.bool ((neg1 == neg) && ((n1 == n) && ((d1 == d) && true))))) [] := path_ok good (lf := 3000) (n := 4) (ls := []) (orc := [true, true]) (ans := [(.ret (.bool (posN d)), []), (.ret (.bool (nR n)), []), (.ret (.agg [.bool neg1, .str n1, .str d1]), [])]) (lps := []) (.t (.t (.t (.t (.t (.t (.c h0 (.t (.c h1 (.t .nil))))))))) : AllB _) (.cons c2 (.cons c1 (.cons c0 .nil)) : AllP _) (by kernel_rfl)
theorem rright_1 (neg neg1 : Bool) (n d n1 d1 : List UInt8) (h0 : lit false (nR n) = true) (h1 : lit true (posN d) = true) (c0 : CallOk Tryz.prog ap 95 [.agg [.str []], .str d] [] (.ret (.bool (posN d))) []) (c1 : CallOk Tryz.prog ap 96 [.str n] [] (.ret (.bool (nR n))) []) : CallOk Tryz.prog ap 65 [.agg [.bool neg, .str n, .str d]] [] (.ret (.bool false)) [] := path_ok good (lf := 3000) (n := 4) (ls := []) (orc := [true, false]) (ans := [(.ret (.bool (posN d)), []), (.ret (.bool (nR n)), [])]) (lps := []) (.c h0 (.t (.c h1 (.t .nil))) : AllB _) (.cons c1 (.cons c0 .nil) : AllP _) (by kernel_rfl)
theorem rright_2 (neg neg1 : Bool) (n d n1 d1 : List UInt8) (h0 : lit false (posN d) = true) (c0 : CallOk Tryz.prog ap 95 [.agg [.str []], .str d] [] (.ret (.bool (posN d))) []) : CallOk Tryz.prog ap 65 [.agg [.bool neg, .str n, .str d]] [] (.ret (.bool false)) [] := path_ok good (lf := 3000) (n := 4) (ls := []) (orc := [false, false]) (ans := [(.ret (.bool (posN d)), [])]) (lps := []) (.t (.c h0 (.t .nil)) : AllB _) (.cons c0 .nil : AllP _) (by kernel_rfl)
theorem fits_0 (neg : Bool) (n d : List UInt8) (h0 : lit true (decide ((((lenN (valS n)) : Nat) : Int) ≤ ((400 : Nat) : Int))) = true) (h1 : lit true (isQ neg n d) = true) (c0 : CallOk Tryz.prog ap 65 [.agg [.bool neg, .str n, .str d]] [] (.ret (.bool (isQ neg n d))) []) (c1 : CallOk Tryz.prog ap 66 [.str n] [] (.ret (.int .i64 (((lenN (valS n)) : Nat) : Int))) []) (c2 : CallOk Tryz.prog ap 66 [.str d] [] (.ret (.int .i64 (((lenN (valS d)) : Nat) : Int))) []) : CallOk Tryz.prog ap 42 [.agg [.bool neg, .str n, .str d]] [] (.ret (.bool (decide ((((lenN (valS d)) : Nat) : Int) ≤ ((400 : Nat) : Int))))) [] := path_ok good (lf := 3000) (n := 4) (ls := []) (orc := [true, true]) (ans := [(.ret (.bool (isQ neg n d)), []), (.ret (.int .i64 (((lenN (valS n)) : Nat) : Int)), []), (.ret (.int .i64 (((lenN (valS d)) : Nat) : Int)), [])]) (lps := []) (.t (.c h0 (.t (.c h1 (.t (.t (.t .nil)))))) : AllB _) (.cons c2 (.cons c1 (.cons c0 .nil)) : AllP _) (by kernel_rfl)
theorem fits_1 (neg : Bool) (n d : List UInt8) (h0 : lit false (decide ((((lenN (valS n)) : Nat) : Int) ≤ ((400 : Nat) : Int))) = true) (h1 : lit true (isQ neg n d) = true) (c0 : CallOk Tryz.prog ap 65 [.agg [.bool neg, .str n, .str d]] [] (.ret (.bool (isQ neg n d))) []) (c1 : CallOk Tryz.prog ap 66 [.str n] [] (.ret (.int .i64 (((lenN (valS n)) : Nat) : Int))) []) : CallOk Tryz.prog ap 42 [.agg [.bool neg, .str n, .str d]] [] (.ret (.bool false)) [] := path_ok good (lf := 3000) (n := 4) (ls := []) (orc := [true, false]) (ans := [(.ret (.bool (isQ neg n d)), []), (.ret (.int .i64 (((lenN (valS n)) : Nat) : Int)), [])]) (lps := []) (.c h0 (.t (.c h1 (.t (.t (.t .nil))))) : AllB _) (.cons c1 (.cons c0 .nil) : AllP _) (by kernel_rfl)
theorem fits_2 (neg : Bool) (n d : List UInt8) (h0 : lit false (isQ neg n d) = true) (c0 : CallOk Tryz.prog ap 65 [.agg [.bool neg, .str n, .str d]] [] (.ret (.bool (isQ neg n d))) []) : CallOk Tryz.prog ap 42 [.agg [.bool neg, .str n, .str d]] [] (.ret (.bool false)) [] := path_ok good (lf := 3000) (n := 4) (ls := []) (orc := [false, false]) (ans := [(.ret (.bool (isQ neg n d)), [])]) (lps := []) (.t (.c h0 (.t (.t (.t .nil)))) : AllB _) (.cons c0 .nil : AllP _) (by kernel_rfl)
end Go.Proofs.Tryz

set_option maxRecDepth 100000
open Go AM
namespace Go.Proofs.Tryz
theorem natS_zero : natS 0 = [] := natS_val []
theorem natS_len {x k : Nat} (h : x < 2 ^ (8 * k)) : (natS x).length ≤ k := by
  rw [← natS_of h]
  have h1 := (List.dropWhile_sublist (· == 0) (l := byteL k x)).length_le
  have h2 : (byteL k x).length = k := by
    have : ∀ m, (byteL m x).length = m := by
      intro m
      induction m with
      | zero => rfl
      | succ m ih => rw [byteL_succ, List.length_cons, ih]
    exact this k
  omega
theorem valS_lt8 (s : List UInt8) : valS s < 2 ^ (8 * s.length) := by
  have h := valS_lt s
  rwa [show (256 : Nat) = 2 ^ 8 from rfl, ← Nat.pow_mul] at h
theorem natS_le {x : Nat} {s : List UInt8} (h : x ≤ valS s) : (natS x).length ≤ s.length := natS_len (Nat.lt_of_le_of_lt h (valS_lt8 s))
theorem natS_eq_nil {x : Nat} : natS x = [] ↔ x = 0 := by
  constructor
  · intro h
    have := val_natS x
    rw [h] at this
    exact this.symm
  · intro h; subst h; exact natS_zero
theorem natS_inj {x y : Nat} (h : natS x = natS y) : x = y := by rw [← val_natS x, h, val_natS]
theorem nR_iff (s : List UInt8) : nR s = true ↔ natS (valS s) = s := by
  rw [natS_val]
  cases s with
  | nil => simp [nR]
  | cons c r =>
    simp only [nR, List.dropWhile_cons]
    by_cases h : c = 0
    · subst h
      simp only [beq_self_eq_true, Bool.not_true, Bool.false_eq_true, if_true, false_iff]
      intro h1
      have := (List.dropWhile_sublist (· == (0 : UInt8)) (l := r)).length_le
      rw [h1] at this
      simp at this
      omega
    · simp [h]
theorem nR_natS (x : Nat) : nR (natS x) = true := (nR_iff _).2 (by rw [val_natS])
theorem nRight_ok (s : List UInt8) : CO 96 [.str s] (.ret (.bool (nR s))) := by
  cases s with
  | nil => exact nRight_0 [] rfl
  | cons c r =>
    have h := nRight_1 (c :: r) (by simp) rfl
    have e : (!((((c :: r).getD 0 0).toNat : Int) == (0 : Int))) = nR (c :: r) := by
      simp only [List.getD_cons_zero, nR]
      by_cases hc : c = 0
      · subst hc; rfl
      · have : c.toNat ≠ 0 := fun h => hc (by apply UInt8.toNat_inj.1; simpa using h)
        have h1 : ((c.toNat : Int) == (0 : Int)) = false := by simp; omega
        rw [h1]; simp [hc]
    rw [e] at h
    exact h
theorem sgn_zero (x : Nat) : decide (((0 : Nat) : Int) < sgn x (valS [])) = decide (0 < x) := by
  have : valS [] = 0 := rfl
  rw [this]
  unfold sgn
  rcases Nat.eq_zero_or_pos x with rfl | h
  · rfl
  · rw [if_neg (by omega), if_pos h, decide_eq_true h]; rfl
theorem pos_ok (s : List UInt8) (hs : s.length < 2 ^ 37) : CO 95 [.agg [.str []], .str s] (.ret (.bool (posN s))) := by
  have hr := nRight_ok s
  unfold posN
  cases hb : nR s with
  | true =>
    have h := pos_0 s (by rw [hb]; rfl) hr (Cmp_0 s [] (by omega) (by simp))
    rw [sgn_zero] at h
    exact h
  | false =>
    exact pos_1 s (by rw [hb]; rfl) hr
/-- A fraction in lowest terms. -/
abbrev ratA (neg : Bool) (n d : Nat) : AV := .agg [.bool neg, .str (natS n), .str (natS d)]
abbrev lowA (neg : Bool) (n d : Nat) : AV := ratA (neg && decide (0 < n)) (n / Nat.gcd n d) (d / Nat.gcd n d)
theorem div_gcd_pos {n d : Nat} (h : 0 < n) : 0 < n / Nat.gcd n d := Nat.div_pos (Nat.gcd_le_left d h) (Nat.gcd_pos_of_pos_left d h)
theorem low_ok (neg : Bool) (n d : List UInt8) (hn : n.length < 2 ^ 36) (hd : d.length < 2 ^ 36) (h0 : 0 < valS d) : CO 97 [.bool neg, .str n, .str d] (.ret (lowA neg (valS n) (valS d))) := by
  have hg := gcd_ok n d (by omega) (by omega)
  have hgp : 0 < Nat.gcd (valS n) (valS d) := Nat.gcd_pos_of_pos_right _ h0
  have hgl : (natS (Nat.gcd (valS n) (valS d))).length ≤ d.length := natS_le (Nat.gcd_le_right _ h0)
  have q1 := quo_ok n (natS (Nat.gcd (valS n) (valS d))) (by omega) (by omega) (by rw [val_natS]; exact hgp)
  have q2 := quo_ok d (natS (Nat.gcd (valS n) (valS d))) (by omega) (by omega) (by rw [val_natS]; exact hgp)
  rw [val_natS] at q1 q2
  cases neg with
  | true =>
    have h := low_0 true n d (Nat.gcd (valS n) (valS d)) rfl hg q1 q2
    have e : (!(natS (valS n / Nat.gcd (valS n) (valS d)) == [])) = (true && decide (0 < valS n)) := by
      rcases Nat.eq_zero_or_pos (valS n) with h1 | h1
      · rw [h1, Nat.zero_div, natS_zero]; rfl
      · have h2 := div_gcd_pos (d := valS d) h1
        have h3 : natS (valS n / Nat.gcd (valS n) (valS d)) ≠ [] := fun h => by have := natS_eq_nil.1 h; omega
        simp [h3, h1]
    rw [e] at h
    exact h
  | false => exact low_1 false n d (Nat.gcd (valS n) (valS d)) rfl hg q1 q2
theorem isQ_iff {neg : Bool} {n d : List UInt8} : isQ neg n d = true ↔ nR n = true ∧ nR d = true ∧ 0 < valS d ∧ Nat.gcd (valS n) (valS d) = 1 ∧ (neg = true → 0 < valS n) := by
  unfold isQ
  cases neg <;> simp [and_assoc]
theorem rright_eq {neg : Bool} {n d : List UInt8} (h1 : nR n = true) (h2 : nR d = true) (h3 : 0 < valS d) : (((neg && decide (0 < valS n)) == neg) && ((natS (valS n / Nat.gcd (valS n) (valS d)) == n) && ((natS (valS d / Nat.gcd (valS n) (valS d)) == d) && true))) = isQ neg n d := by
  rw [Bool.eq_iff_iff, isQ_iff]
  simp only [Bool.and_eq_true, beq_iff_eq, and_true]
  have hgp : 0 < Nat.gcd (valS n) (valS d) := Nat.gcd_pos_of_pos_right _ h3
  constructor
  · rintro ⟨a, b, c⟩
    refine ⟨h1, h2, h3, ?_, ?_⟩
    · have e := congrArg valS c
      rw [val_natS] at e
      have h4 := Nat.div_mul_cancel (Nat.gcd_dvd_right (valS n) (valS d))
      rw [e] at h4
      exact Nat.eq_of_mul_eq_mul_left h3 (by rw [h4, Nat.mul_one])
    · intro hn; subst hn; simpa using a
  · rintro ⟨_, _, _, hg, hn⟩
    rw [hg, Nat.div_one, Nat.div_one]
    refine ⟨?_, (nR_iff n).1 h1, (nR_iff d).1 h2⟩
    cases neg with
    | false => rfl
    | true => simp [hn rfl]
theorem right_ok (neg : Bool) (n d : List UInt8) (hn : n.length < 2 ^ 36) (hd : d.length < 2 ^ 36) : CO 65 [.agg [.bool neg, .str n, .str d]] (.ret (.bool (isQ neg n d))) := by
  have hp := pos_ok d (by omega)
  have hr := nRight_ok n
  cases hb : posN d with
  | false =>
    have h := rright_2 neg neg n d n d (by rw [hb]; rfl) hp
    have e : isQ neg n d = false := by
      rw [Bool.eq_false_iff]; intro h1
      obtain ⟨_, h2, h3, _⟩ := isQ_iff.1 h1
      simp [posN, h2, h3] at hb
    rw [e]; exact h
  | true =>
    have hb2 : nR d = true ∧ 0 < valS d := by simpa [posN] using hb
    cases hc : nR n with
    | false =>
      have h := rright_1 neg neg n d n d (by rw [hc]; rfl) (by rw [hb]; rfl) hp hr
      have e : isQ neg n d = false := by
        rw [Bool.eq_false_iff]; intro h1
        have := (isQ_iff.1 h1).1
        rw [hc] at this; cases this
      rw [e]; exact h
    | true =>
      have h := rright_0 neg (neg && decide (0 < valS n)) n d (natS (valS n / Nat.gcd (valS n) (valS d))) (natS (valS d / Nat.gcd (valS n) (valS d))) (by rw [hc]; rfl) (by rw [hb]; rfl) hp hr (low_ok neg n d hn hd hb2.2)
      rw [rright_eq hc hb2.1 hb2.2] at h
      exact h
/-- Is an amount right, with at most 400 bits in each part? -/
def fitsQ (neg : Bool) (n d : List UInt8) : Bool := isQ neg n d && decide (lenN (valS n) ≤ 400) && decide (lenN (valS d) ≤ 400)
theorem fits_ok (neg : Bool) (n d : List UInt8) (hn : n.length < 2 ^ 36) (hd : d.length < 2 ^ 36) : CO 42 [.agg [.bool neg, .str n, .str d]] (.ret (.bool (fitsQ neg n d))) := by
  have hr := right_ok neg n d hn hd
  have h1 := bits_ok n (by omega)
  have h2 := bits_ok d (by omega)
  unfold fitsQ
  cases hb : isQ neg n d with
  | false => exact fits_2 neg n d (by rw [hb]; rfl) hr
  | true =>
    by_cases h3 : lenN (valS n) ≤ 400
    · have h := fits_0 neg n d (by rw [d_le, decide_eq_true h3]; rfl) (by rw [hb]; rfl) hr h1 h2
      rw [d_le] at h
      rw [decide_eq_true h3]
      exact h
    · have h := fits_1 neg n d (by rw [d_le, decide_eq_false h3]; rfl) (by rw [hb]; rfl) hr h1
      rw [decide_eq_false h3]
      exact h
end Go.Proofs.Tryz

set_option maxRecDepth 100000
open Go AM
namespace Go.Proofs.Tryz
theorem natof_0 (x : Nat) (h0 : lit true (decide (((x : Nat) : Int) ≤ ((0 : Nat) : Int))) = true)  : CallOk Tryz.prog ap 68 [.int .i64 ((x : Nat) : Int)] [] (.ret (.str [])) [] := path_ok good (lf := 3000) (n := 4) (ls := []) (orc := [true]) (ans := []) (lps := []) (.c h0 .nil : AllB _) (.nil : AllP _) (by kernel_rfl)
theorem natof_1 (x : Nat) (h0 : lit false (decide (((x : Nat) : Int) ≤ ((0 : Nat) : Int))) = true) (c0 : CallOk Tryz.prog ap 100 [.sl [.int .u32 (IntKind.wrap .u32 (IntKind.wrap .i64 (BitVec.toNat (BitVec.ofInt (IntKind.bits .i64) ((x : Nat) : Int) &&& BitVec.ofInt (IntKind.bits .i64) ((4294967295 : Nat) : Int))))), .int .u32 (IntKind.wrap .u32 (Int.fdiv ((x : Nat) : Int) (2 ^ (min 32 64))))] 2 true] [] (.ret (.str (natS x))) []) : CallOk Tryz.prog ap 68 [.int .i64 ((x : Nat) : Int)] [] (.ret (.str (natS x))) [] := path_ok good (lf := 3000) (n := 4) (ls := []) (orc := [false]) (ans := [(.ret (.str (natS x)), [])]) (lps := []) (.t (.c h0 .nil) : AllB _) (.cons c0 .nil : AllP _) (by kernel_rfl)
theorem ratof_1 (x : Nat) (h0 : lit false (decide (((x : Nat) : Int) < ((0 : Nat) : Int))) = true) (c0 : CallOk Tryz.prog ap 68 [.int .i64 ((x : Nat) : Int)] [] (.ret (.str (natS x))) []) (c1 : CallOk Tryz.prog ap 68 [.int .i64 1] [] (.ret (.str (natS 1))) []) : CallOk Tryz.prog ap 43 [.int .i64 ((x : Nat) : Int)] [] (.ret (.agg [.bool false, .str (natS x), .str (natS 1)])) [] := path_ok good (lf := 3000) (n := 4) (ls := []) (orc := [false]) (ans := [(.ret (.str (natS x)), []), (.ret (.str (natS 1)), [])]) (lps := []) (.t (.t (.t (.t (.c h0 .nil)))) : AllB _) (.cons c1 (.cons c0 .nil) : AllP _) (by kernel_rfl)
theorem rsign_0 (neg : Bool) (n d : List UInt8) (h0 : lit true (!(isQ neg n d)) = true) (c0 : CallOk Tryz.prog ap 65 [.agg [.bool neg, .str n, .str d]] [] (.ret (.bool (isQ neg n d))) []) : CallOk Tryz.prog ap 110 [.agg [.bool neg, .str n, .str d]] [] (.ret (.int .i64 0)) [] := path_ok good (lf := 3000) (n := 4) (ls := []) (orc := [true, true]) (ans := [(.ret (.bool (isQ neg n d)), [])]) (lps := []) (.t (.c h0 (.t (.t (.t .nil)))) : AllB _) (.cons c0 .nil : AllP _) (by kernel_rfl)
theorem rsign_1 (neg : Bool) (n d : List UInt8) (h0 : lit true ((neg == false) && ((n == (natS 0)) && ((d == (natS 1)) && true))) = true) (h1 : lit false (!(isQ neg n d)) = true) (c0 : CallOk Tryz.prog ap 65 [.agg [.bool neg, .str n, .str d]] [] (.ret (.bool (isQ neg n d))) []) (c1 : CallOk Tryz.prog ap 43 [.int .i64 0] [] (.ret (.agg [.bool false, .str (natS 0), .str (natS 1)])) []) : CallOk Tryz.prog ap 110 [.agg [.bool neg, .str n, .str d]] [] (.ret (.int .i64 0)) [] := path_ok good (lf := 3000) (n := 4) (ls := []) (orc := [false, true]) (ans := [(.ret (.bool (isQ neg n d)), []), (.ret (.agg [.bool false, .str (natS 0), .str (natS 1)]), [])]) (lps := []) (.c h0 (.t (.t (.t (.c h1 (.t (.t (.t .nil))))))) : AllB _) (.cons c1 (.cons c0 .nil) : AllP _) (by kernel_rfl)
theorem rsign_2 (neg : Bool) (n d : List UInt8) (h0 : lit true neg = true) (h1 : lit false ((neg == false) && ((n == (natS 0)) && ((d == (natS 1)) && true))) = true) (h2 : lit false (!(isQ neg n d)) = true) (c0 : CallOk Tryz.prog ap 65 [.agg [.bool neg, .str n, .str d]] [] (.ret (.bool (isQ neg n d))) []) (c1 : CallOk Tryz.prog ap 43 [.int .i64 0] [] (.ret (.agg [.bool false, .str (natS 0), .str (natS 1)])) []) : CallOk Tryz.prog ap 110 [.agg [.bool neg, .str n, .str d]] [] (.ret (.int .i64 (-1))) [] := path_ok good (lf := 3000) (n := 4) (ls := []) (orc := [false, false, true]) (ans := [(.ret (.bool (isQ neg n d)), []), (.ret (.agg [.bool false, .str (natS 0), .str (natS 1)]), [])]) (lps := []) (.c h0 (.t (.c h1 (.t (.t (.t (.c h2 (.t (.t (.t .nil))))))))) : AllB _) (.cons c1 (.cons c0 .nil) : AllP _) (by kernel_rfl)
theorem rsign_3 (neg : Bool) (n d : List UInt8) (h0 : lit false neg = true) (h1 : lit false ((neg == false) && ((n == (natS 0)) && ((d == (natS 1)) && true))) = true) (h2 : lit false (!(isQ neg n d)) = true) (c0 : CallOk Tryz.prog ap 65 [.agg [.bool neg, .str n, .str d]] [] (.ret (.bool (isQ neg n d))) []) (c1 : CallOk Tryz.prog ap 43 [.int .i64 0] [] (.ret (.agg [.bool false, .str (natS 0), .str (natS 1)])) []) : CallOk Tryz.prog ap 110 [.agg [.bool neg, .str n, .str d]] [] (.ret (.int .i64 1)) [] := path_ok good (lf := 3000) (n := 4) (ls := []) (orc := [false, false, false]) (ans := [(.ret (.bool (isQ neg n d)), []), (.ret (.agg [.bool false, .str (natS 0), .str (natS 1)]), [])]) (lps := []) (.c h0 (.t (.c h1 (.t (.t (.t (.c h2 (.t (.t (.t .nil))))))))) : AllB _) (.cons c1 (.cons c0 .nil) : AllP _) (by kernel_rfl)
end Go.Proofs.Tryz

set_option maxRecDepth 100000
open Go AM
namespace Go.Proofs.Tryz
theorem two_digs {x : Nat} (hx : x < 9223372036854775808) : trimN [x % 4294967296, x / 4294967296] = digs x := by
  have h := trim_val (l := [x % 4294967296, x / 4294967296]) (Lim.cons (Nat.mod_lt _ (by omega)) (Lim.cons (by omega) Lim.nil))
  rw [h]
  congr 1
  simp only [valL, Nat.mul_zero, Nat.add_zero]
  omega
theorem digs_small {x : Nat} (hx : x < 9223372036854775808) : (digs x).length ≤ 2 := digs_le (Nat.lt_of_lt_of_le hx (by decide))
theorem natof_ok (x : Nat) (hx : x < 9223372036854775808) : CO 68 [.int .i64 ((x : Nat) : Int)] (.ret (.str (natS x))) := by
  rcases Nat.eq_zero_or_pos x with rfl | h0
  · rw [natS_zero]; exact natof_0 0 rfl
  · have hd := digs_small hx
    have hnum := number_ok [x % 4294967296, x / 4294967296] x true (two_digs hx) (by simp) (by omega)
    have h := natof_1 x
    have e1 : (4294967295 : Nat) < 18446744073709551616 := by omega
    simp (disch := first | omega | (simp only [List.length_append, List.length_replicate, List.length_cons, List.length_nil, List.length_reverse, List.length_map, u32L_length, u8L_length, List.length_take, List.length_drop, List.length_set] <;> omega)) only [c_add, c_mul, c_tdiv, c_tmod, c_shl, c_shr, c_toNat, w64_nat, w64_sub, w8u, w32u, w64u, w64u_sub, w32u_sub, or64, or32, and64, and_mask32, andI, orI, min_b64, min_b32, min_bi, min_l, p_32, p_63, Nat.mod_eq_of_lt, chk_u32, toInt_int, d_le, d_lt, b_eq, d_eq, nble_d, nbeq_d, lit_t, lit_f, not_t, dec_t, dec_f, Nat.zero_add, Nat.mul_one, u32L_length, List.length_append, List.length_replicate, List.length_cons, List.length_set, List.length_nil, u32_get, u32_mid, set_mid, min_64] at h
    have hnot : ¬ x ≤ 0 := by omega
    apply h
    · exact hnot
    · exact hnum
theorem ratof_ok (x : Nat) (hx : x < 9223372036854775808) : CO 43 [.int .i64 ((x : Nat) : Int)] (.ret (ratA false x 1)) :=
  ratof_1 x (by rw [d_lt]; exact (by simp [lit])) (natof_ok x hx) (natof_ok 1 (by omega))
theorem ratof0 : CO 43 [.int .i64 0] (.ret (ratA false 0 1)) := ratof_ok 0 (by omega)
theorem ratof1 : CO 43 [.int .i64 1] (.ret (ratA false 1 1)) := ratof_ok 1 (by omega)
def sgnQ (neg : Bool) (n d : List UInt8) : Int := if isQ neg n d = true ∧ 0 < valS n then (if neg then -1 else 1) else 0
/-- Is it a small number? -/
theorem isQ_zero {neg : Bool} {n d : List UInt8} (h : isQ neg n d = true) : ((neg == false) && ((n == natS 0) && ((d == natS 1) && true))) = decide (valS n = 0) := by
  obtain ⟨h1, h2, h3, h4, h5⟩ := isQ_iff.1 h
  have e1 := (nR_iff n).1 h1
  have e2 := (nR_iff d).1 h2
  rw [Bool.eq_iff_iff]
  simp only [Bool.and_eq_true, beq_iff_eq, and_true, decide_eq_true_eq]
  constructor
  · rintro ⟨_, hn, _⟩
    rw [hn, val_natS]
  · intro h0
    rw [h0] at e1 h4
    rw [Nat.gcd_zero_left] at h4
    rw [h4] at e2
    refine ⟨?_, e1.symm, e2.symm⟩
    cases neg with
    | false => rfl
    | true => have := h5 rfl; omega
theorem rsign_ok (neg : Bool) (n d : List UInt8) (hn : n.length < 2 ^ 36) (hd : d.length < 2 ^ 36) : CO 110 [.agg [.bool neg, .str n, .str d]] (.ret (.int .i64 (sgnQ neg n d))) := by
  have hr := right_ok neg n d hn hd
  unfold sgnQ
  cases hb : isQ neg n d with
  | false =>
    have h := rsign_0 neg n d (by rw [hb]; rfl) hr
    rw [if_neg (by simp)]; exact h
  | true =>
    by_cases h0 : valS n = 0
    · have h := rsign_1 neg n d (by rw [isQ_zero hb, decide_eq_true h0]; rfl) (by rw [hb]; rfl) hr ratof0
      rw [if_neg (by omega)]; exact h
    · rw [if_pos ⟨rfl, by omega⟩]
      cases neg with
      | true => exact rsign_2 true n d rfl (by rw [isQ_zero hb, decide_eq_false h0]; rfl) (by rw [hb]; rfl) hr ratof0
      | false => exact rsign_3 false n d rfl (by rw [isQ_zero hb, decide_eq_false h0]; rfl) (by rw [hb]; rfl) hr ratof0
end Go.Proofs.Tryz

set_option maxRecDepth 100000
open Go AM
namespace Go.Proofs.Tryz
def i64L (l : List Nat) : List AV := l.map fun (d : Nat) => AV.int .i64 (d : Int)
theorem i64L_length (l : List Nat) : (i64L l).length = l.length := by simp [i64L]
theorem i64L_append (a b : List Nat) : i64L (a ++ b) = i64L a ++ i64L b := by simp [i64L]
theorem i64_get {l : List Nat} {k : Nat} (h : k < l.length) : List.headD (List.drop k (i64L l)) .dead = .int .i64 ((l.getD k 0 : Nat) : Int) := by
  unfold i64L
  rw [← List.map_drop, List.drop_eq_getElem_cons h, List.map_cons, List.headD_cons, List.getD_eq_getElem?_getD, List.getElem?_eq_getElem h]
  rfl
theorem take_i64 (l : List Nat) (k : Nat) : List.take k (i64L l) = i64L (l.take k) := by unfold i64L; rw [List.map_take]
theorem drop_i64 (l : List Nat) (k : Nat) : List.drop k (i64L l) = i64L (l.drop k) := by unfold i64L; rw [List.map_drop]
theorem chk_i64 (x : Int) : chk (.int .i64) (.int .i64 x) = true := rfl
theorem i64_set {l : List Nat} {j : Nat} (h : j < l.length) (y : Nat) : List.take j (i64L l) ++ [AV.int .i64 (y : Int)] ++ List.drop (j + 1) (i64L l) = i64L (l.set j y) := by
  rw [take_i64, drop_i64, List.set_eq_take_append_cons_drop, if_pos h]; simp [i64L]
theorem rep_i64 (m : Nat) : repL m [AV.int .i64 0] = i64L (List.replicate m 0) := by
  unfold repL i64L
  induction m with
  | zero => rfl
  | succ m ih => rw [List.replicate_succ, List.flatten_cons, ih, List.replicate_succ]; rfl
theorem i64_one (x : Nat) : [AV.int .i64 (x : Int)] = i64L [x] := rfl
theorem i64_snoc (l : List Nat) (x : Nat) : i64L l ++ [AV.int .i64 (x : Int)] = i64L (l ++ [x]) := by rw [i64L_append]; rfl
theorem i64_cons (l : List Nat) (x : Nat) : [AV.int .i64 (x : Int)] ++ i64L l = i64L (x :: l) := rfl

theorem trimN_cons (x : Nat) (l : List Nat) : trimN (x :: l) = if trimN l = [] ∧ x = 0 then [] else x :: trimN l := by
  unfold trimN
  rw [List.reverse_cons, List.dropWhile_append]
  by_cases h : (List.dropWhile (· == 0) l.reverse) = []
  · simp only [h, List.isEmpty_nil, if_true, List.reverse_nil]
    by_cases hx : x = 0
    · subst hx; simp
    · simp [hx]
  · have : (List.dropWhile (· == 0) l.reverse).isEmpty = false := by simpa using h
    simp only [this, Bool.false_eq_true, if_false]
    rw [if_neg (by simp only [List.reverse_eq_nil_iff]; exact fun ⟨h1, _⟩ => h h1)]
    simp

/-- The number that digits are. -/
def valQ : List Nat → Nat
  | [] => 0
  | d :: l => d + 16777216 * valQ l
def LimQ (l : List Nat) : Prop := ∀ d ∈ l, d < 16777216
theorem LimQ.nil : LimQ [] := fun _ h => (by cases h)
theorem LimQ.cons {d : Nat} {l : List Nat} (h : d < 16777216) (hl : LimQ l) : LimQ (d :: l) := by
  intro x hx
  rcases List.mem_cons.1 hx with rfl | hx
  · exact h
  · exact hl x hx
theorem LimQ.head {d : Nat} {l : List Nat} (h : LimQ (d :: l)) : d < 16777216 := h d (List.mem_cons_self ..)
theorem LimQ.tail {d : Nat} {l : List Nat} (h : LimQ (d :: l)) : LimQ l := fun x hx => h x (List.mem_cons_of_mem _ hx)
theorem LimQ.app {a b : List Nat} (h : LimQ a) (h' : LimQ b) : LimQ (a ++ b) := fun x hx => (List.mem_append.1 hx).elim (h x) (h' x)
theorem LimQ.take {a : List Nat} (h : LimQ a) (n : Nat) : LimQ (a.take n) := fun x hx => h x (List.mem_of_mem_take hx)
theorem LimQ.drop {a : List Nat} (h : LimQ a) (n : Nat) : LimQ (a.drop n) := fun x hx => h x (List.mem_of_mem_drop hx)
theorem LimQ.getD {a : List Nat} (h : LimQ a) (n : Nat) : a.getD n 0 < 16777216 := by
  rw [List.getD_eq_getElem?_getD]
  rcases Nat.lt_or_ge n a.length with hn | hn
  · rw [List.getElem?_eq_getElem hn]; exact h _ (List.getElem_mem hn)
  · rw [List.getElem?_eq_none hn]; show 0 < 16777216; omega
theorem LimQ.zeros (n : Nat) : LimQ (List.replicate n 0) := fun x hx => by rw [(List.mem_replicate.1 hx).2]; omega
theorem valQ_app (a b : List Nat) : valQ (a ++ b) = valQ a + 16777216 ^ a.length * valQ b := by
  induction a with
  | nil => simp [valQ]
  | cons x a ih =>
    simp only [List.cons_append, valQ, ih, List.length_cons, Nat.pow_succ, Nat.mul_add]
    rw [Nat.mul_comm (16777216 ^ a.length) 16777216, Nat.mul_assoc]; omega
theorem powQ_pos (k : Nat) : 0 < 16777216 ^ k := Nat.pow_pos (by omega)
theorem valQ_lt {l : List Nat} (h : LimQ l) : valQ l < 16777216 ^ l.length := by
  induction l with
  | nil => simp [valQ]
  | cons d l ih =>
    have h1 := ih h.tail
    have h2 := h.head
    simp only [valQ, List.length_cons, Nat.pow_succ]
    omega
theorem valQ_zeros (n : Nat) : valQ (List.replicate n 0) = 0 := by
  induction n with
  | zero => rfl
  | succ n ih => rw [List.replicate_succ]; simp only [valQ, ih]
/-- The digits of a number. -/
def digQ (n : Nat) : List Nat := if n = 0 then [] else n % 16777216 :: digQ (n / 16777216)
termination_by n
decreasing_by omega
theorem digQ_zero : digQ 0 = [] := by rw [digQ, if_pos rfl]
theorem digQ_pos {n : Nat} (h : 0 < n) : digQ n = n % 16777216 :: digQ (n / 16777216) := by rw [digQ, if_neg (by omega)]
theorem valQ_digQ (n : Nat) : valQ (digQ n) = n := by
  induction n using Nat.strongRecOn with
  | _ n ih =>
    rcases Nat.eq_zero_or_pos n with rfl | h
    · rw [digQ_zero]; rfl
    · rw [digQ_pos h]
      simp only [valQ]
      rw [ih (n / 16777216) (by omega)]; omega
theorem LimQ.dig (n : Nat) : LimQ (digQ n) := by
  induction n using Nat.strongRecOn with
  | _ n ih =>
    rcases Nat.eq_zero_or_pos n with rfl | h
    · rw [digQ_zero]; exact LimQ.nil
    · rw [digQ_pos h]
      exact LimQ.cons (Nat.mod_lt _ (by omega)) (ih (n / 16777216) (by omega))
theorem digQ_nil {n : Nat} : digQ n = [] ↔ n = 0 := by
  constructor
  · intro h
    have := valQ_digQ n
    rw [h] at this; exact this.symm
  · intro h; subst h; exact digQ_zero
theorem trimQ {l : List Nat} (h : LimQ l) : trimN l = digQ (valQ l) := by
  induction l with
  | nil => rw [show valQ [] = 0 from rfl, digQ_zero]; rfl
  | cons d l ih =>
    have hd := h.head
    rw [trimN_cons, ih h.tail]
    simp only [valQ]
    by_cases hz : valQ l = 0 ∧ d = 0
    · rw [if_pos ⟨digQ_nil.2 hz.1, hz.2⟩, hz.1, hz.2, digQ_zero]
    · rw [if_neg (fun h => hz ⟨digQ_nil.1 h.1, h.2⟩), digQ_pos (n := d + 16777216 * valQ l) (by omega)]
      rw [show (d + 16777216 * valQ l) % 16777216 = d by omega, show (d + 16777216 * valQ l) / 16777216 = valQ l by omega]
theorem digQ_lt (n : Nat) : n < 16777216 ^ (digQ n).length := by
  have := valQ_lt (LimQ.dig n)
  rwa [valQ_digQ] at this
theorem digQ_ge {n k : Nat} (h : (digQ n).length = k + 1) : 16777216 ^ k ≤ n := by
  induction k generalizing n with
  | zero =>
    rcases Nat.eq_zero_or_pos n with rfl | h0
    · rw [digQ_zero] at h; simp at h
    · rw [Nat.pow_zero]; exact h0
  | succ k ih =>
    rcases Nat.eq_zero_or_pos n with rfl | h0
    · rw [digQ_zero] at h; simp at h
    · rw [digQ_pos h0, List.length_cons] at h
      have := ih (n := n / 16777216) (by omega)
      rw [Nat.pow_succ]
      omega
theorem digQ_le {n k : Nat} (h : n < 16777216 ^ k) : (digQ n).length ≤ k := by
  rcases Nat.lt_or_ge k (digQ n).length with h1 | h1
  · obtain ⟨j, hj⟩ : ∃ j, (digQ n).length = j + 1 := ⟨(digQ n).length - 1, by omega⟩
    have h2 := digQ_ge hj
    have h3 := Nat.pow_le_pow_right (show 0 < 16777216 by omega) (show k ≤ j by omega)
    omega
  · exact h1
theorem digQ_mono {x y : Nat} (h : x ≤ y) : (digQ x).length ≤ (digQ y).length := digQ_le (Nat.lt_of_le_of_lt h (digQ_lt y))
end Go.Proofs.Tryz

set_option maxRecDepth 100000
open Go AM
namespace Go.Proofs.Tryz
theorem can_0 {nt : Nat} (hn : 19 ≤ nt) (s : List UInt8) (k : Nat) (h0 : lit true (((UInt8.toNat (List.getD s (Int.toNat ((k : Nat) : Int)) 0) : Nat) : Int) == ((0 : Nat) : Int)) = true) (h1 : (decide (((0 : Nat) : Int) ≤ ((k : Nat) : Int))) = true) (h2 : (decide (((k : Nat) : Int) < (((List.length s) : Nat) : Int))) = true) (h3 : lit true (decide (((k : Nat) : Int) < (((List.length s) : Nat) : Int))) = true)  : ExecOk Tryz.prog ap [] nt (loopBody 0 (bodyOf Tryz.f61)) { env := [(0, .str s), (3, .int .i64 ((k : Nat) : Int))], hp := [], md := .dead, dfs := [] } (.normal) { env := [(0, .str s), (3, .int .i64 (IntKind.wrap .i64 (((k : Nat) : Int) + ((1 : Nat) : Int))))], hp := [], md := .dead, dfs := [] } :=
  ExecOk.weak (piece_ok good (lf := 3000) (n := 4) (keep := [0, 2, 3, 13]) (ls := []) (orc := [true, true]) (ans := []) (lps := []) (nt0 := 19) (s' := { env := [(0, .str s), (2, .dead), (3, .int .i64 (IntKind.wrap .i64 (((k : Nat) : Int) + ((1 : Nat) : Int)))), (13, .bool (((UInt8.toNat (List.getD s (Int.toNat ((k : Nat) : Int)) 0) : Nat) : Int) == ((0 : Nat) : Int)))], hp := [], md := .dead, dfs := [] }) (by kernel_rfl) hn (.c h0 (.c h1 (.c h2 (.c h3 .nil))) : AllB _) (.nil : AllP _) (by kernel_rfl)) (Less.refl _) (Less.of ⟨rfl, rfl, trivial⟩)
theorem can_1 {nt : Nat} (hn : 19 ≤ nt) (s : List UInt8) (k : Nat) (h0 : lit false (((UInt8.toNat (List.getD s (Int.toNat ((k : Nat) : Int)) 0) : Nat) : Int) == ((0 : Nat) : Int)) = true) (h1 : (decide (((0 : Nat) : Int) ≤ ((k : Nat) : Int))) = true) (h2 : (decide (((k : Nat) : Int) < (((List.length s) : Nat) : Int))) = true) (h3 : lit true (decide (((k : Nat) : Int) < (((List.length s) : Nat) : Int))) = true)  : ExecOk Tryz.prog ap [] nt (loopBody 0 (bodyOf Tryz.f61)) { env := [(0, .str s), (3, .int .i64 ((k : Nat) : Int))], hp := [], md := .dead, dfs := [] } (.exit 0) { env := [(0, .str s), (3, .int .i64 ((k : Nat) : Int))], hp := [], md := .dead, dfs := [] } :=
  ExecOk.weak (piece_ok good (lf := 3000) (n := 4) (keep := [0, 2, 3, 13]) (ls := []) (orc := [true, false]) (ans := []) (lps := []) (nt0 := 19) (s' := { env := [(0, .str s), (2, .dead), (3, .int .i64 ((k : Nat) : Int)), (13, .bool (((UInt8.toNat (List.getD s (Int.toNat ((k : Nat) : Int)) 0) : Nat) : Int) == ((0 : Nat) : Int)))], hp := [], md := .dead, dfs := [] }) (by kernel_rfl) hn (.c h0 (.c h1 (.c h2 (.c h3 .nil))) : AllB _) (.nil : AllP _) (by kernel_rfl)) (Less.refl _) (Less.of ⟨rfl, rfl, trivial⟩)
theorem can_2 {nt : Nat} (hn : 19 ≤ nt) (s : List UInt8) (k : Nat) (h0 : lit false (decide (((k : Nat) : Int) < (((List.length s) : Nat) : Int))) = true)  : ExecOk Tryz.prog ap [] nt (loopBody 0 (bodyOf Tryz.f61)) { env := [(0, .str s), (3, .int .i64 ((k : Nat) : Int))], hp := [], md := .dead, dfs := [] } (.exit 0) { env := [(0, .str s), (3, .int .i64 ((k : Nat) : Int))], hp := [], md := .dead, dfs := [] } :=
  ExecOk.weak (piece_ok good (lf := 3000) (n := 4) (keep := [0, 2, 3, 13]) (ls := []) (orc := [false, false]) (ans := []) (lps := []) (nt0 := 19) (s' := { env := [(0, .str s), (2, .dead), (3, .int .i64 ((k : Nat) : Int)), (13, .bool false)], hp := [], md := .dead, dfs := [] }) (by kernel_rfl) hn (.t (.c h0 .nil) : AllB _) (.nil : AllP _) (by kernel_rfl)) (Less.refl _) (Less.of ⟨rfl, rfl, trivial⟩)
theorem canF_0 (s : List UInt8) (k : Nat) (h0 : (decide (((0 : Nat) : Int) ≤ ((k : Nat) : Int))) = true) (h1 : (decide (((k : Nat) : Int) ≤ (((List.length s) : Nat) : Int))) = true) (h2 : (decide ((((List.length s) : Nat) : Int) ≤ (((List.length s) : Nat) : Int))) = true) (l0 : LoopOk Tryz.prog ap [] 19 (.block 0 (.loop (loopBody 0 (bodyOf Tryz.f61)))) { env := [(0, .str s), (2, .str []), (3, .int .i64 0), (13, .dead)], hp := [], md := .dead, dfs := [] } (.normal) { env := [(0, .str s), (3, .int .i64 ((k : Nat) : Int))], hp := [], md := .dead, dfs := [] }) : CallOk Tryz.prog ap 61 [.str s] [] (.ret (.str (List.drop (Int.toNat ((k : Nat) : Int)) (List.take (Int.toNat (((List.length s) : Nat) : Int)) s)))) [] := path_ok good (lf := 3000) (n := 4) (ls := [0]) (orc := []) (ans := []) (lps := [(.normal, { env := [(0, .str s), (3, .int .i64 ((k : Nat) : Int))], hp := [], md := .dead, dfs := [] })]) (.c h0 (.c h1 (.c h2 .nil)) : AllB _) (.cons l0 .nil : AllP _) (by kernel_rfl)
theorem rtr_0 {nt : Nat} (hn : 21 ≤ nt) (l : List Nat) (nn : Bool) (h0 : (decide (((0 : Nat) : Int) ≤ (IntKind.wrap .i64 (((l.length : Nat) : Int) - ((1 : Nat) : Int))))) = true) (h1 : (decide ((IntKind.wrap .i64 (((l.length : Nat) : Int) - ((1 : Nat) : Int))) ≤ ((l.length : Nat) : Int))) = true) (h2 : lit true ((AV.toInt (List.headD (List.drop ((Int.toNat (IntKind.wrap .i64 (((l.length : Nat) : Int) - ((1 : Nat) : Int)))) * 1) (i64L l)) .dead)) == ((0 : Nat) : Int)) = true) (h3 : (chk (.int .i64) (List.headD (List.drop ((Int.toNat (IntKind.wrap .i64 (((l.length : Nat) : Int) - ((1 : Nat) : Int)))) * 1) (i64L l)) .dead)) = true) (h4 : (decide ((IntKind.wrap .i64 (((l.length : Nat) : Int) - ((1 : Nat) : Int))) < ((l.length : Nat) : Int))) = true) (h5 : lit true (decide (((0 : Nat) : Int) < ((l.length : Nat) : Int))) = true)  : ExecOk Tryz.prog ap [] nt (loopBody 0 (bodyOf Tryz.f123)) { env := [(0, .sl (i64L l) l.length nn)], hp := [], md := .dead, dfs := [] } (.normal) { env := [(0, .sl (List.take ((Int.toNat (IntKind.wrap .i64 (((l.length : Nat) : Int) - ((1 : Nat) : Int)))) * 1) (i64L l)) ((Int.toNat (IntKind.wrap .i64 (((l.length : Nat) : Int) - ((1 : Nat) : Int)))) - 0) nn)], hp := [], md := .dead, dfs := [] } :=
  ExecOk.weak (piece_ok good (lf := 3000) (n := 4) (keep := [0, 2, 14]) (ls := []) (orc := [true, true]) (ans := []) (lps := []) (nt0 := 21) (s' := { env := [(0, .sl (List.take ((Int.toNat (IntKind.wrap .i64 (((l.length : Nat) : Int) - ((1 : Nat) : Int)))) * 1) (i64L l)) ((Int.toNat (IntKind.wrap .i64 (((l.length : Nat) : Int) - ((1 : Nat) : Int)))) - 0) nn), (2, .dead), (14, .bool ((AV.toInt (List.headD (List.drop ((Int.toNat (IntKind.wrap .i64 (((l.length : Nat) : Int) - ((1 : Nat) : Int)))) * 1) (i64L l)) .dead)) == ((0 : Nat) : Int)))], hp := [], md := .dead, dfs := [] }) (by kernel_rfl) hn (.t (.c h0 (.c h1 (.c h2 (.c h3 (.c h0 (.c h4 (.c h5 .nil))))))) : AllB _) (.nil : AllP _) (by kernel_rfl)) (Less.refl _) (Less.of ⟨rfl, trivial⟩)
theorem rtr_1 {nt : Nat} (hn : 21 ≤ nt) (l : List Nat) (nn : Bool) (h0 : lit false ((AV.toInt (List.headD (List.drop ((Int.toNat (IntKind.wrap .i64 (((l.length : Nat) : Int) - ((1 : Nat) : Int)))) * 1) (i64L l)) .dead)) == ((0 : Nat) : Int)) = true) (h1 : (chk (.int .i64) (List.headD (List.drop ((Int.toNat (IntKind.wrap .i64 (((l.length : Nat) : Int) - ((1 : Nat) : Int)))) * 1) (i64L l)) .dead)) = true) (h2 : (decide (((0 : Nat) : Int) ≤ (IntKind.wrap .i64 (((l.length : Nat) : Int) - ((1 : Nat) : Int))))) = true) (h3 : (decide ((IntKind.wrap .i64 (((l.length : Nat) : Int) - ((1 : Nat) : Int))) < ((l.length : Nat) : Int))) = true) (h4 : lit true (decide (((0 : Nat) : Int) < ((l.length : Nat) : Int))) = true)  : ExecOk Tryz.prog ap [] nt (loopBody 0 (bodyOf Tryz.f123)) { env := [(0, .sl (i64L l) l.length nn)], hp := [], md := .dead, dfs := [] } (.exit 0) { env := [(0, .sl (i64L l) l.length nn)], hp := [], md := .dead, dfs := [] } :=
  ExecOk.weak (piece_ok good (lf := 3000) (n := 4) (keep := [0, 2, 14]) (ls := []) (orc := [true, false]) (ans := []) (lps := []) (nt0 := 21) (s' := { env := [(0, .sl (i64L l) l.length nn), (2, .dead), (14, .bool ((AV.toInt (List.headD (List.drop ((Int.toNat (IntKind.wrap .i64 (((l.length : Nat) : Int) - ((1 : Nat) : Int)))) * 1) (i64L l)) .dead)) == ((0 : Nat) : Int)))], hp := [], md := .dead, dfs := [] }) (by kernel_rfl) hn (.c h0 (.c h1 (.c h2 (.c h3 (.c h4 .nil)))) : AllB _) (.nil : AllP _) (by kernel_rfl)) (Less.refl _) (Less.of ⟨rfl, trivial⟩)
theorem rtr_2 {nt : Nat} (hn : 21 ≤ nt) (l : List Nat) (nn : Bool) (h0 : lit false (decide (((0 : Nat) : Int) < ((l.length : Nat) : Int))) = true)  : ExecOk Tryz.prog ap [] nt (loopBody 0 (bodyOf Tryz.f123)) { env := [(0, .sl (i64L l) l.length nn)], hp := [], md := .dead, dfs := [] } (.exit 0) { env := [(0, .sl (i64L l) l.length nn)], hp := [], md := .dead, dfs := [] } :=
  ExecOk.weak (piece_ok good (lf := 3000) (n := 4) (keep := [0, 2, 14]) (ls := []) (orc := [false, false]) (ans := []) (lps := []) (nt0 := 21) (s' := { env := [(0, .sl (i64L l) l.length nn), (2, .dead), (14, .bool false)], hp := [], md := .dead, dfs := [] }) (by kernel_rfl) hn (.t (.c h0 .nil) : AllB _) (.nil : AllP _) (by kernel_rfl)) (Less.refl _) (Less.of ⟨rfl, trivial⟩)
theorem rtrF_0 (l r : List Nat) (nn : Bool)  (l0 : LoopOk Tryz.prog ap [] 21 (.block 0 (.loop (loopBody 0 (bodyOf Tryz.f123)))) { env := [(0, .sl (i64L l) l.length nn), (2, .nilS), (14, .dead)], hp := [], md := .dead, dfs := [] } (.normal) { env := [(0, .sl (i64L r) r.length nn)], hp := [], md := .dead, dfs := [] }) : CallOk Tryz.prog ap 123 [.sl (i64L l) l.length nn] [] (.ret (.sl (i64L r) r.length nn)) [] := path_ok good (lf := 3000) (n := 4) (ls := [0]) (orc := []) (ans := []) (lps := [(.normal, { env := [(0, .sl (i64L r) r.length nn)], hp := [], md := .dead, dfs := [] })]) (.nil : AllB _) (.cons l0 .nil : AllP _) (by kernel_rfl)
theorem rcm_0 {nt : Nat} (hn : 41 ≤ nt) (a b : List Nat) (na nb : Bool) (k : Nat) (h0 : (chk (.int .i64) (List.headD (List.drop ((Int.toNat ((k : Nat) : Int)) * 1) (i64L b)) .dead)) = true) (h1 : (decide (((0 : Nat) : Int) ≤ ((k : Nat) : Int))) = true) (h2 : (decide (((k : Nat) : Int) < ((b.length : Nat) : Int))) = true) (h3 : (chk (.int .i64) (List.headD (List.drop ((Int.toNat ((k : Nat) : Int)) * 1) (i64L a)) .dead)) = true) (h4 : (decide (((k : Nat) : Int) < ((a.length : Nat) : Int))) = true) (h5 : lit true (!((AV.toInt (List.headD (List.drop ((Int.toNat ((k : Nat) : Int)) * 1) (i64L a)) .dead)) == (AV.toInt (List.headD (List.drop ((Int.toNat ((k : Nat) : Int)) * 1) (i64L b)) .dead)))) = true) (h6 : lit true (decide (((0 : Nat) : Int) ≤ ((k : Nat) : Int))) = true)  : ExecOk Tryz.prog ap [] nt (loopBody 0 (bodyOf Tryz.f124)) { env := [(0, .sl (i64L a) a.length na), (1, .sl (i64L b) b.length nb), (5, .int .i64 ((k : Nat) : Int))], hp := [], md := .dead, dfs := [] } (.ret) { env := [(4, .int .i64 (IntKind.wrap .i64 ((AV.toInt (List.headD (List.drop ((Int.toNat ((k : Nat) : Int)) * 1) (i64L a)) .dead)) - (AV.toInt (List.headD (List.drop ((Int.toNat ((k : Nat) : Int)) * 1) (i64L b)) .dead)))))], hp := [], md := .dead, dfs := [] } :=
  ExecOk.weak (piece_ok good (lf := 3000) (n := 4) (keep := [0, 1, 4, 5, 10, 20, 31]) (ls := []) (orc := [true, true]) (ans := []) (lps := []) (nt0 := 41) (s' := { env := [(0, .sl (i64L a) a.length na), (1, .sl (i64L b) b.length nb), (4, .int .i64 (IntKind.wrap .i64 ((AV.toInt (List.headD (List.drop ((Int.toNat ((k : Nat) : Int)) * 1) (i64L a)) .dead)) - (AV.toInt (List.headD (List.drop ((Int.toNat ((k : Nat) : Int)) * 1) (i64L b)) .dead))))), (5, .int .i64 ((k : Nat) : Int)), (10, .dead), (20, .bool (decide (((0 : Nat) : Int) ≤ ((k : Nat) : Int)))), (31, .bool (!((AV.toInt (List.headD (List.drop ((Int.toNat ((k : Nat) : Int)) * 1) (i64L a)) .dead)) == (AV.toInt (List.headD (List.drop ((Int.toNat ((k : Nat) : Int)) * 1) (i64L b)) .dead)))))], hp := [], md := .dead, dfs := [] }) (by kernel_rfl) hn (.c h0 (.c h1 (.c h2 (.c h3 (.c h1 (.c h4 (.c h5 (.c h0 (.c h1 (.c h2 (.c h3 (.c h1 (.c h4 (.c h6 .nil))))))))))))) : AllB _) (.nil : AllP _) (by kernel_rfl)) (Less.refl _) (Less.of ⟨rfl, trivial⟩)
theorem rcm_1 {nt : Nat} (hn : 41 ≤ nt) (a b : List Nat) (na nb : Bool) (k : Nat) (h0 : lit false (!((AV.toInt (List.headD (List.drop ((Int.toNat ((k : Nat) : Int)) * 1) (i64L a)) .dead)) == (AV.toInt (List.headD (List.drop ((Int.toNat ((k : Nat) : Int)) * 1) (i64L b)) .dead)))) = true) (h1 : (chk (.int .i64) (List.headD (List.drop ((Int.toNat ((k : Nat) : Int)) * 1) (i64L b)) .dead)) = true) (h2 : (decide (((0 : Nat) : Int) ≤ ((k : Nat) : Int))) = true) (h3 : (decide (((k : Nat) : Int) < ((b.length : Nat) : Int))) = true) (h4 : (chk (.int .i64) (List.headD (List.drop ((Int.toNat ((k : Nat) : Int)) * 1) (i64L a)) .dead)) = true) (h5 : (decide (((k : Nat) : Int) < ((a.length : Nat) : Int))) = true) (h6 : lit true (decide (((0 : Nat) : Int) ≤ ((k : Nat) : Int))) = true)  : ExecOk Tryz.prog ap [] nt (loopBody 0 (bodyOf Tryz.f124)) { env := [(0, .sl (i64L a) a.length na), (1, .sl (i64L b) b.length nb), (5, .int .i64 ((k : Nat) : Int))], hp := [], md := .dead, dfs := [] } (.normal) { env := [(0, .sl (i64L a) a.length na), (1, .sl (i64L b) b.length nb), (5, .int .i64 (IntKind.wrap .i64 (((k : Nat) : Int) - ((1 : Nat) : Int))))], hp := [], md := .dead, dfs := [] } :=
  ExecOk.weak (piece_ok good (lf := 3000) (n := 4) (keep := [0, 1, 4, 5, 10, 20, 31]) (ls := []) (orc := [true, false]) (ans := []) (lps := []) (nt0 := 41) (s' := { env := [(0, .sl (i64L a) a.length na), (1, .sl (i64L b) b.length nb), (4, .dead), (5, .int .i64 (IntKind.wrap .i64 (((k : Nat) : Int) - ((1 : Nat) : Int)))), (10, .dead), (20, .bool (decide (((0 : Nat) : Int) ≤ ((k : Nat) : Int)))), (31, .bool (!((AV.toInt (List.headD (List.drop ((Int.toNat ((k : Nat) : Int)) * 1) (i64L a)) .dead)) == (AV.toInt (List.headD (List.drop ((Int.toNat ((k : Nat) : Int)) * 1) (i64L b)) .dead)))))], hp := [], md := .dead, dfs := [] }) (by kernel_rfl) hn (.c h0 (.c h1 (.c h2 (.c h3 (.c h4 (.c h2 (.c h5 (.c h6 .nil))))))) : AllB _) (.nil : AllP _) (by kernel_rfl)) (Less.refl _) (Less.of ⟨rfl, rfl, rfl, trivial⟩)
theorem rcm_2 {nt : Nat} (hn : 41 ≤ nt) (a b : List Nat) (na nb : Bool) (k : Nat) (h0 : lit false (decide (((0 : Nat) : Int) ≤ ((k : Nat) : Int))) = true)  : ExecOk Tryz.prog ap [] nt (loopBody 0 (bodyOf Tryz.f124)) { env := [(0, .sl (i64L a) a.length na), (1, .sl (i64L b) b.length nb), (5, .int .i64 ((k : Nat) : Int))], hp := [], md := .dead, dfs := [] } (.exit 0) { env := [], hp := [], md := .dead, dfs := [] } :=
  ExecOk.weak (piece_ok good (lf := 3000) (n := 4) (keep := [0, 1, 4, 5, 10, 20, 31]) (ls := []) (orc := [false]) (ans := []) (lps := []) (nt0 := 41) (s' := { env := [(0, .sl (i64L a) a.length na), (1, .sl (i64L b) b.length nb), (4, .dead), (5, .int .i64 ((k : Nat) : Int)), (10, .dead), (20, .bool (decide (((0 : Nat) : Int) ≤ ((k : Nat) : Int)))), (31, .dead)], hp := [], md := .dead, dfs := [] }) (by kernel_rfl) hn (.c h0 .nil : AllB _) (.nil : AllP _) (by kernel_rfl)) (Less.refl _) (Less.of trivial)
theorem rcmE_0 {nt : Nat} (hn : 41 ≤ nt) (a b : List Nat) (na nb : Bool)   : ExecOk Tryz.prog ap [] nt (loopBody 0 (bodyOf Tryz.f124)) { env := [(0, .sl (i64L a) a.length na), (1, .sl (i64L b) b.length nb), (5, .int .i64 (-1))], hp := [], md := .dead, dfs := [] } (.exit 0) { env := [], hp := [], md := .dead, dfs := [] } :=
  ExecOk.weak (piece_ok good (lf := 3000) (n := 4) (keep := [0, 1, 4, 5, 10, 20, 31]) (ls := []) (orc := [false]) (ans := []) (lps := []) (nt0 := 41) (s' := { env := [(0, .sl (i64L a) a.length na), (1, .sl (i64L b) b.length nb), (4, .dead), (5, .int .i64 (-1)), (10, .dead), (20, .bool false), (31, .dead)], hp := [], md := .dead, dfs := [] }) (by kernel_rfl) hn (.t .nil : AllB _) (.nil : AllP _) (by kernel_rfl)) (Less.refl _) (Less.of trivial)
theorem rcmF_0 (a b : List Nat) (na nb : Bool) (h0 : lit true (!(((a.length : Nat) : Int) == ((b.length : Nat) : Int))) = true)  : CallOk Tryz.prog ap 124 [.sl (i64L a) a.length na, .sl (i64L b) b.length nb] [] (.ret (.int .i64 (IntKind.wrap .i64 (((a.length : Nat) : Int) - ((b.length : Nat) : Int))))) [] := path_ok good (lf := 3000) (n := 4) (ls := [0]) (orc := [true]) (ans := []) (lps := []) (.c h0 .nil : AllB _) (.nil : AllP _) (by kernel_rfl)
theorem rcmF_1 (a b : List Nat) (na nb : Bool) (h0 : lit false (!(((a.length : Nat) : Int) == ((b.length : Nat) : Int))) = true) (l0 : LoopOk Tryz.prog ap [] 41 (.block 0 (.loop (loopBody 0 (bodyOf Tryz.f124)))) { env := [(0, .sl (i64L a) a.length na), (1, .sl (i64L b) b.length nb), (4, .int .i64 0), (5, .int .i64 (IntKind.wrap .i64 (((a.length : Nat) : Int) - ((1 : Nat) : Int)))), (10, .bool (!(((a.length : Nat) : Int) == ((b.length : Nat) : Int)))), (20, .dead), (31, .dead)], hp := [], md := .dead, dfs := [] } (.normal) { env := [], hp := [], md := .dead, dfs := [] }) : CallOk Tryz.prog ap 124 [.sl (i64L a) a.length na, .sl (i64L b) b.length nb] [] (.ret (.int .i64 0)) [] := path_ok good (lf := 3000) (n := 4) (ls := [0]) (orc := [false]) (ans := []) (lps := [(.normal, { env := [], hp := [], md := .dead, dfs := [] })]) (.c h0 .nil : AllB _) (.cons l0 .nil : AllP _) (by kernel_rfl)
theorem rcmR_0 (a b : List Nat) (na nb : Bool) (c : Int) (h0 : lit true (!(((a.length : Nat) : Int) == ((b.length : Nat) : Int))) = true)  : CallOk Tryz.prog ap 124 [.sl (i64L a) a.length na, .sl (i64L b) b.length nb] [] (.ret (.int .i64 (IntKind.wrap .i64 (((a.length : Nat) : Int) - ((b.length : Nat) : Int))))) [] := path_ok good (lf := 3000) (n := 4) (ls := [0]) (orc := [true]) (ans := []) (lps := []) (.c h0 .nil : AllB _) (.nil : AllP _) (by kernel_rfl)
theorem rcmR_1 (a b : List Nat) (na nb : Bool) (c : Int) (h0 : lit false (!(((a.length : Nat) : Int) == ((b.length : Nat) : Int))) = true) (l0 : LoopOk Tryz.prog ap [] 41 (.block 0 (.loop (loopBody 0 (bodyOf Tryz.f124)))) { env := [(0, .sl (i64L a) a.length na), (1, .sl (i64L b) b.length nb), (4, .int .i64 0), (5, .int .i64 (IntKind.wrap .i64 (((a.length : Nat) : Int) - ((1 : Nat) : Int)))), (10, .bool (!(((a.length : Nat) : Int) == ((b.length : Nat) : Int)))), (20, .dead), (31, .dead)], hp := [], md := .dead, dfs := [] } (.ret) { env := [(4, .int .i64 c)], hp := [], md := .dead, dfs := [] }) : CallOk Tryz.prog ap 124 [.sl (i64L a) a.length na, .sl (i64L b) b.length nb] [] (.ret (.int .i64 c)) [] := path_ok good (lf := 3000) (n := 4) (ls := [0]) (orc := [false]) (ans := []) (lps := [(.ret, { env := [(4, .int .i64 c)], hp := [], md := .dead, dfs := [] })]) (.c h0 .nil : AllB _) (.cons l0 .nil : AllP _) (by kernel_rfl)
theorem rtmN_0 {nt : Nat} (hn : 35 ≤ nt) (a o : List Nat) (na : Bool) (d c k : Nat) (h0 : (chk (.int .i64) (List.headD (List.drop ((Int.toNat ((k : Nat) : Int)) * 1) (i64L a)) .dead)) = true) (h1 : (decide (((0 : Nat) : Int) ≤ ((k : Nat) : Int))) = true) (h2 : (decide (((k : Nat) : Int) < ((a.length : Nat) : Int))) = true) (h3 : lit true (decide (((k : Nat) : Int) < ((a.length : Nat) : Int))) = true)  : ExecOk Tryz.prog ap [] nt (loopBody 0 (bodyOf Tryz.f127)) { env := [(0, .sl (i64L a) a.length na), (1, .int .i64 ((d : Nat) : Int)), (6, .int .i64 ((c : Nat) : Int)), (7, .int .i64 ((k : Nat) : Int)), (5, .nilS)], hp := [], md := .dead, dfs := [] } (.normal) { env := [(0, .sl (i64L a) a.length na), (1, .int .i64 ((d : Nat) : Int)), (6, .int .i64 (IntKind.wrap .i64 (Int.tdiv (IntKind.wrap .i64 ((IntKind.wrap .i64 ((AV.toInt (List.headD (List.drop ((Int.toNat ((k : Nat) : Int)) * 1) (i64L a)) .dead)) * ((d : Nat) : Int))) + ((c : Nat) : Int))) ((16777216 : Nat) : Int)))), (7, .int .i64 (IntKind.wrap .i64 (((k : Nat) : Int) + ((1 : Nat) : Int)))), (5, .ref 0 0 0 1)], hp := [(0, { cells := [.int .i64 (Int.tmod (IntKind.wrap .i64 ((IntKind.wrap .i64 ((AV.toInt (List.headD (List.drop ((Int.toNat ((k : Nat) : Int)) * 1) (i64L a)) .dead)) * ((d : Nat) : Int))) + ((c : Nat) : Int))) ((16777216 : Nat) : Int))], ver := 0, fro := false, fz := 0, esz := 1, pr := true })], md := .dead, dfs := [] } :=
  ExecOk.weak (piece_ok good (lf := 3000) (n := 4) (keep := [0, 1, 4, 5, 6, 7, 8, 12]) (ls := []) (orc := [true, false]) (ans := []) (lps := []) (nt0 := 35) (s' := { env := [(0, .sl (i64L a) a.length na), (1, .int .i64 ((d : Nat) : Int)), (4, .dead), (5, .ref 0 0 0 1), (6, .int .i64 (IntKind.wrap .i64 (Int.tdiv (IntKind.wrap .i64 ((IntKind.wrap .i64 ((AV.toInt (List.headD (List.drop ((Int.toNat ((k : Nat) : Int)) * 1) (i64L a)) .dead)) * ((d : Nat) : Int))) + ((c : Nat) : Int))) ((16777216 : Nat) : Int)))), (7, .int .i64 (IntKind.wrap .i64 (((k : Nat) : Int) + ((1 : Nat) : Int)))), (8, .int .i64 (IntKind.wrap .i64 ((IntKind.wrap .i64 ((AV.toInt (List.headD (List.drop ((Int.toNat ((k : Nat) : Int)) * 1) (i64L a)) .dead)) * ((d : Nat) : Int))) + ((c : Nat) : Int)))), (12, .bool (decide (((k : Nat) : Int) < ((a.length : Nat) : Int))))], hp := [(0, { cells := [.int .i64 (Int.tmod (IntKind.wrap .i64 ((IntKind.wrap .i64 ((AV.toInt (List.headD (List.drop ((Int.toNat ((k : Nat) : Int)) * 1) (i64L a)) .dead)) * ((d : Nat) : Int))) + ((c : Nat) : Int))) ((16777216 : Nat) : Int))], ver := 0, fro := false, fz := 0, esz := 1, pr := true })], md := .dead, dfs := [] }) (by kernel_rfl) hn (.t (.t (.t (.t (.t (.c h0 (.c h1 (.c h2 (.c h3 .nil)))))))) : AllB _) (.nil : AllP _) (by kernel_rfl)) (Less.refl _) (Less.of ⟨rfl, rfl, rfl, rfl, rfl, trivial⟩)
theorem rtmN_1 {nt : Nat} (hn : 35 ≤ nt) (a o : List Nat) (na : Bool) (d c k : Nat) (h0 : lit false (decide (((k : Nat) : Int) < ((a.length : Nat) : Int))) = true)  : ExecOk Tryz.prog ap [] nt (loopBody 0 (bodyOf Tryz.f127)) { env := [(0, .sl (i64L a) a.length na), (1, .int .i64 ((d : Nat) : Int)), (6, .int .i64 ((c : Nat) : Int)), (7, .int .i64 ((k : Nat) : Int)), (5, .nilS)], hp := [], md := .dead, dfs := [] } (.exit 0) { env := [(5, .nilS), (6, .int .i64 ((c : Nat) : Int))], hp := [], md := .dead, dfs := [] } :=
  ExecOk.weak (piece_ok good (lf := 3000) (n := 4) (keep := [0, 1, 4, 5, 6, 7, 8, 12]) (ls := []) (orc := [false]) (ans := []) (lps := []) (nt0 := 35) (s' := { env := [(0, .sl (i64L a) a.length na), (1, .int .i64 ((d : Nat) : Int)), (4, .dead), (5, .nilS), (6, .int .i64 ((c : Nat) : Int)), (7, .int .i64 ((k : Nat) : Int)), (8, .dead), (12, .bool (decide (((k : Nat) : Int) < ((a.length : Nat) : Int))))], hp := [], md := .dead, dfs := [] }) (by kernel_rfl) hn (.c h0 .nil : AllB _) (.nil : AllP _) (by kernel_rfl)) (Less.refl _) (Less.of ⟨rfl, rfl, trivial⟩)
theorem rtmNF_0 (a o r : List Nat) (na : Bool) (d c : Nat)  (l0 : LoopOk Tryz.prog ap [] 35 (.block 0 (.loop (loopBody 0 (bodyOf Tryz.f127)))) { env := [(0, .sl (i64L a) a.length na), (1, .int .i64 ((d : Nat) : Int)), (4, .nilS), (5, .nilS), (6, .int .i64 0), (7, .int .i64 0), (8, .dead), (12, .dead)], hp := [], md := .dead, dfs := [] } (.normal) { env := [(5, .nilS), (6, .int .i64 ((c : Nat) : Int))], hp := [], md := .dead, dfs := [] }) (c0 : CallOk Tryz.prog ap 123 [.sl [.int .i64 ((c : Nat) : Int)] 1 true] [] (.ret (.sl (i64L r) r.length true)) []) : CallOk Tryz.prog ap 127 [.sl (i64L a) a.length na, .int .i64 ((d : Nat) : Int)] [] (.ret (.sl (i64L r) r.length true)) [] := path_ok good (lf := 3000) (n := 4) (ls := [0]) (orc := [false]) (ans := [(.ret (.sl (i64L r) r.length true), [])]) (lps := [(.normal, { env := [(5, .nilS), (6, .int .i64 ((c : Nat) : Int))], hp := [], md := .dead, dfs := [] })]) (.t (.t (.t .nil)) : AllB _) (.cons c0 (.cons l0 .nil) : AllP _) (by kernel_rfl)
theorem rtmC_0 {nt : Nat} (hn : 35 ≤ nt) (a o : List Nat) (na : Bool) (d c k : Nat) (h0 : (Nat.ble (o.length + 1) 1099511627776) = true) (h1 : (Nat.ble (o.length * 1) (List.length (i64L o))) = true) (h2 : (chk (.int .i64) (List.headD (List.drop ((Int.toNat ((k : Nat) : Int)) * 1) (i64L a)) .dead)) = true) (h3 : (decide (((0 : Nat) : Int) ≤ ((k : Nat) : Int))) = true) (h4 : (decide (((k : Nat) : Int) < ((a.length : Nat) : Int))) = true) (h5 : lit true (decide (((k : Nat) : Int) < ((a.length : Nat) : Int))) = true)  : ExecOk Tryz.prog ap [] nt (loopBody 0 (bodyOf Tryz.f127)) { env := [(0, .sl (i64L a) a.length na), (1, .int .i64 ((d : Nat) : Int)), (6, .int .i64 ((c : Nat) : Int)), (7, .int .i64 ((k : Nat) : Int)), (5, .ref 0 0 0 o.length)], hp := [(0, { cells := (i64L o), ver := 0, fro := false, fz := 0, esz := 1, pr := true })], md := .dead, dfs := [] } (.normal) { env := [(0, .sl (i64L a) a.length na), (1, .int .i64 ((d : Nat) : Int)), (6, .int .i64 (IntKind.wrap .i64 (Int.tdiv (IntKind.wrap .i64 ((IntKind.wrap .i64 ((AV.toInt (List.headD (List.drop ((Int.toNat ((k : Nat) : Int)) * 1) (i64L a)) .dead)) * ((d : Nat) : Int))) + ((c : Nat) : Int))) ((16777216 : Nat) : Int)))), (7, .int .i64 (IntKind.wrap .i64 (((k : Nat) : Int) + ((1 : Nat) : Int)))), (5, .ref 0 0 0 (o.length + 1))], hp := [(0, { cells := ((List.take (o.length * 1) (i64L o)) ++ [.int .i64 (Int.tmod (IntKind.wrap .i64 ((IntKind.wrap .i64 ((AV.toInt (List.headD (List.drop ((Int.toNat ((k : Nat) : Int)) * 1) (i64L a)) .dead)) * ((d : Nat) : Int))) + ((c : Nat) : Int))) ((16777216 : Nat) : Int))]), ver := 0, fro := false, fz := 0, esz := 1, pr := true })], md := .dead, dfs := [] } :=
  ExecOk.weak (piece_ok good (lf := 3000) (n := 4) (keep := [0, 1, 4, 5, 6, 7, 8, 12]) (ls := []) (orc := [true]) (ans := []) (lps := []) (nt0 := 35) (s' := { env := [(0, .sl (i64L a) a.length na), (1, .int .i64 ((d : Nat) : Int)), (4, .dead), (5, .ref 0 0 0 (o.length + 1)), (6, .int .i64 (IntKind.wrap .i64 (Int.tdiv (IntKind.wrap .i64 ((IntKind.wrap .i64 ((AV.toInt (List.headD (List.drop ((Int.toNat ((k : Nat) : Int)) * 1) (i64L a)) .dead)) * ((d : Nat) : Int))) + ((c : Nat) : Int))) ((16777216 : Nat) : Int)))), (7, .int .i64 (IntKind.wrap .i64 (((k : Nat) : Int) + ((1 : Nat) : Int)))), (8, .int .i64 (IntKind.wrap .i64 ((IntKind.wrap .i64 ((AV.toInt (List.headD (List.drop ((Int.toNat ((k : Nat) : Int)) * 1) (i64L a)) .dead)) * ((d : Nat) : Int))) + ((c : Nat) : Int)))), (12, .bool (decide (((k : Nat) : Int) < ((a.length : Nat) : Int))))], hp := [(0, { cells := ((List.take (o.length * 1) (i64L o)) ++ [.int .i64 (Int.tmod (IntKind.wrap .i64 ((IntKind.wrap .i64 ((AV.toInt (List.headD (List.drop ((Int.toNat ((k : Nat) : Int)) * 1) (i64L a)) .dead)) * ((d : Nat) : Int))) + ((c : Nat) : Int))) ((16777216 : Nat) : Int))]), ver := 0, fro := false, fz := 0, esz := 1, pr := true })], md := .dead, dfs := [] }) (by kernel_rfl) hn (.t (.t (.c h0 (.c h1 (.t (.t (.c h2 (.c h3 (.c h4 (.c h5 .nil))))))))) : AllB _) (.nil : AllP _) (by kernel_rfl)) (Less.refl _) (Less.of ⟨rfl, rfl, rfl, rfl, rfl, trivial⟩)
theorem rtmC_1 {nt : Nat} (hn : 35 ≤ nt) (a o : List Nat) (na : Bool) (d c k : Nat) (h0 : lit false (decide (((k : Nat) : Int) < ((a.length : Nat) : Int))) = true)  : ExecOk Tryz.prog ap [] nt (loopBody 0 (bodyOf Tryz.f127)) { env := [(0, .sl (i64L a) a.length na), (1, .int .i64 ((d : Nat) : Int)), (6, .int .i64 ((c : Nat) : Int)), (7, .int .i64 ((k : Nat) : Int)), (5, .ref 0 0 0 o.length)], hp := [(0, { cells := (i64L o), ver := 0, fro := false, fz := 0, esz := 1, pr := true })], md := .dead, dfs := [] } (.exit 0) { env := [(5, .ref 0 0 0 o.length), (6, .int .i64 ((c : Nat) : Int))], hp := [(0, { cells := (i64L o), ver := 0, fro := false, fz := 0, esz := 1, pr := true })], md := .dead, dfs := [] } :=
  ExecOk.weak (piece_ok good (lf := 3000) (n := 4) (keep := [0, 1, 4, 5, 6, 7, 8, 12]) (ls := []) (orc := [false]) (ans := []) (lps := []) (nt0 := 35) (s' := { env := [(0, .sl (i64L a) a.length na), (1, .int .i64 ((d : Nat) : Int)), (4, .dead), (5, .ref 0 0 0 o.length), (6, .int .i64 ((c : Nat) : Int)), (7, .int .i64 ((k : Nat) : Int)), (8, .dead), (12, .bool (decide (((k : Nat) : Int) < ((a.length : Nat) : Int))))], hp := [(0, { cells := (i64L o), ver := 0, fro := false, fz := 0, esz := 1, pr := true })], md := .dead, dfs := [] }) (by kernel_rfl) hn (.c h0 .nil : AllB _) (.nil : AllP _) (by kernel_rfl)) (Less.refl _) (Less.of ⟨rfl, rfl, trivial⟩)
theorem rtmCF_0 (a o r : List Nat) (na : Bool) (d c : Nat) (h0 : (Nat.ble (o.length + 1) 1099511627776) = true) (h1 : (Nat.ble (o.length * 1) (List.length (i64L o))) = true) (l0 : LoopOk Tryz.prog ap [] 35 (.block 0 (.loop (loopBody 0 (bodyOf Tryz.f127)))) { env := [(0, .sl (i64L a) a.length na), (1, .int .i64 ((d : Nat) : Int)), (4, .nilS), (5, .nilS), (6, .int .i64 0), (7, .int .i64 0), (8, .dead), (12, .dead)], hp := [], md := .dead, dfs := [] } (.normal) { env := [(5, .ref 0 0 0 o.length), (6, .int .i64 ((c : Nat) : Int))], hp := [(0, { cells := (i64L o), ver := 0, fro := false, fz := 0, esz := 1, pr := true })], md := .dead, dfs := [] }) (c0 : CallOk Tryz.prog ap 123 [.sl (List.take ((o.length + 1) * 1) ((List.take (o.length * 1) (i64L o)) ++ [.int .i64 ((c : Nat) : Int)])) (o.length + 1) true] [] (.ret (.sl (i64L r) r.length true)) []) : CallOk Tryz.prog ap 127 [.sl (i64L a) a.length na, .int .i64 ((d : Nat) : Int)] [] (.ret (.sl (i64L r) r.length true)) [] := path_ok good (lf := 3000) (n := 4) (ls := [0]) (orc := []) (ans := [(.ret (.sl (i64L r) r.length true), [])]) (lps := [(.normal, { env := [(5, .ref 0 0 0 o.length), (6, .int .i64 ((c : Nat) : Int))], hp := [(0, { cells := (i64L o), ver := 0, fro := false, fz := 0, esz := 1, pr := true })], md := .dead, dfs := [] })]) (.t (.c h0 (.c h1 (.t .nil))) : AllB _) (.cons c0 (.cons l0 .nil) : AllP _) (by kernel_rfl)
theorem rmiN_0 {nt : Nat} (hn : 41 ≤ nt) (a b o : List Nat) (na nb : Bool) (c k : Nat) (h0 : lit true (decide ((IntKind.wrap .i64 ((IntKind.wrap .i64 ((AV.toInt (List.headD (List.drop ((Int.toNat ((k : Nat) : Int)) * 1) (i64L a)) .dead)) - ((c : Nat) : Int))) - (AV.toInt (List.headD (List.drop ((Int.toNat ((k : Nat) : Int)) * 1) (i64L b)) .dead)))) < ((0 : Nat) : Int))) = true) (h1 : (chk (.int .i64) (List.headD (List.drop ((Int.toNat ((k : Nat) : Int)) * 1) (i64L b)) .dead)) = true) (h2 : (decide (((0 : Nat) : Int) ≤ ((k : Nat) : Int))) = true) (h3 : (decide (((k : Nat) : Int) < ((b.length : Nat) : Int))) = true) (h4 : lit true (decide (((k : Nat) : Int) < ((b.length : Nat) : Int))) = true) (h5 : (chk (.int .i64) (List.headD (List.drop ((Int.toNat ((k : Nat) : Int)) * 1) (i64L a)) .dead)) = true) (h6 : (decide (((k : Nat) : Int) < ((a.length : Nat) : Int))) = true) (h7 : lit true (decide (((k : Nat) : Int) < ((a.length : Nat) : Int))) = true)  : ExecOk Tryz.prog ap [] nt (loopBody 0 (bodyOf Tryz.f126)) { env := [(0, .sl (i64L a) a.length na), (1, .sl (i64L b) b.length nb), (6, .int .i64 ((c : Nat) : Int)), (7, .int .i64 ((k : Nat) : Int)), (5, .nilS)], hp := [], md := .dead, dfs := [] } (.normal) { env := [(0, .sl (i64L a) a.length na), (1, .sl (i64L b) b.length nb), (6, .int .i64 1), (7, .int .i64 (IntKind.wrap .i64 (((k : Nat) : Int) + ((1 : Nat) : Int)))), (5, .ref 0 0 0 1)], hp := [(0, { cells := [.int .i64 (IntKind.wrap .i64 ((IntKind.wrap .i64 ((IntKind.wrap .i64 ((AV.toInt (List.headD (List.drop ((Int.toNat ((k : Nat) : Int)) * 1) (i64L a)) .dead)) - ((c : Nat) : Int))) - (AV.toInt (List.headD (List.drop ((Int.toNat ((k : Nat) : Int)) * 1) (i64L b)) .dead)))) + ((16777216 : Nat) : Int)))], ver := 0, fro := false, fz := 0, esz := 1, pr := true })], md := .dead, dfs := [] } :=
  ExecOk.weak (piece_ok good (lf := 3000) (n := 4) (keep := [0, 1, 4, 5, 6, 7, 8, 12, 24, 32]) (ls := []) (orc := [true, true, true, false]) (ans := []) (lps := []) (nt0 := 41) (s' := { env := [(0, .sl (i64L a) a.length na), (1, .sl (i64L b) b.length nb), (4, .dead), (5, .ref 0 0 0 1), (6, .int .i64 1), (7, .int .i64 (IntKind.wrap .i64 (((k : Nat) : Int) + ((1 : Nat) : Int)))), (8, .int .i64 (IntKind.wrap .i64 ((IntKind.wrap .i64 ((IntKind.wrap .i64 ((AV.toInt (List.headD (List.drop ((Int.toNat ((k : Nat) : Int)) * 1) (i64L a)) .dead)) - ((c : Nat) : Int))) - (AV.toInt (List.headD (List.drop ((Int.toNat ((k : Nat) : Int)) * 1) (i64L b)) .dead)))) + ((16777216 : Nat) : Int)))), (12, .bool (decide (((k : Nat) : Int) < ((a.length : Nat) : Int)))), (24, .bool (decide (((k : Nat) : Int) < ((b.length : Nat) : Int)))), (32, .bool (decide ((IntKind.wrap .i64 ((IntKind.wrap .i64 ((AV.toInt (List.headD (List.drop ((Int.toNat ((k : Nat) : Int)) * 1) (i64L a)) .dead)) - ((c : Nat) : Int))) - (AV.toInt (List.headD (List.drop ((Int.toNat ((k : Nat) : Int)) * 1) (i64L b)) .dead)))) < ((0 : Nat) : Int))))], hp := [(0, { cells := [.int .i64 (IntKind.wrap .i64 ((IntKind.wrap .i64 ((IntKind.wrap .i64 ((AV.toInt (List.headD (List.drop ((Int.toNat ((k : Nat) : Int)) * 1) (i64L a)) .dead)) - ((c : Nat) : Int))) - (AV.toInt (List.headD (List.drop ((Int.toNat ((k : Nat) : Int)) * 1) (i64L b)) .dead)))) + ((16777216 : Nat) : Int)))], ver := 0, fro := false, fz := 0, esz := 1, pr := true })], md := .dead, dfs := [] }) (by kernel_rfl) hn (.t (.t (.t (.c h0 (.c h1 (.c h2 (.c h3 (.c h4 (.c h5 (.c h2 (.c h6 (.c h7 .nil))))))))))) : AllB _) (.nil : AllP _) (by kernel_rfl)) (Less.refl _) (Less.of ⟨rfl, rfl, rfl, rfl, rfl, trivial⟩)
theorem rmiN_1 {nt : Nat} (hn : 41 ≤ nt) (a b o : List Nat) (na nb : Bool) (c k : Nat) (h0 : lit false (decide ((IntKind.wrap .i64 ((IntKind.wrap .i64 ((AV.toInt (List.headD (List.drop ((Int.toNat ((k : Nat) : Int)) * 1) (i64L a)) .dead)) - ((c : Nat) : Int))) - (AV.toInt (List.headD (List.drop ((Int.toNat ((k : Nat) : Int)) * 1) (i64L b)) .dead)))) < ((0 : Nat) : Int))) = true) (h1 : (chk (.int .i64) (List.headD (List.drop ((Int.toNat ((k : Nat) : Int)) * 1) (i64L b)) .dead)) = true) (h2 : (decide (((0 : Nat) : Int) ≤ ((k : Nat) : Int))) = true) (h3 : (decide (((k : Nat) : Int) < ((b.length : Nat) : Int))) = true) (h4 : lit true (decide (((k : Nat) : Int) < ((b.length : Nat) : Int))) = true) (h5 : (chk (.int .i64) (List.headD (List.drop ((Int.toNat ((k : Nat) : Int)) * 1) (i64L a)) .dead)) = true) (h6 : (decide (((k : Nat) : Int) < ((a.length : Nat) : Int))) = true) (h7 : lit true (decide (((k : Nat) : Int) < ((a.length : Nat) : Int))) = true)  : ExecOk Tryz.prog ap [] nt (loopBody 0 (bodyOf Tryz.f126)) { env := [(0, .sl (i64L a) a.length na), (1, .sl (i64L b) b.length nb), (6, .int .i64 ((c : Nat) : Int)), (7, .int .i64 ((k : Nat) : Int)), (5, .nilS)], hp := [], md := .dead, dfs := [] } (.normal) { env := [(0, .sl (i64L a) a.length na), (1, .sl (i64L b) b.length nb), (6, .int .i64 0), (7, .int .i64 (IntKind.wrap .i64 (((k : Nat) : Int) + ((1 : Nat) : Int)))), (5, .ref 0 0 0 1)], hp := [(0, { cells := [.int .i64 (IntKind.wrap .i64 ((IntKind.wrap .i64 ((AV.toInt (List.headD (List.drop ((Int.toNat ((k : Nat) : Int)) * 1) (i64L a)) .dead)) - ((c : Nat) : Int))) - (AV.toInt (List.headD (List.drop ((Int.toNat ((k : Nat) : Int)) * 1) (i64L b)) .dead))))], ver := 0, fro := false, fz := 0, esz := 1, pr := true })], md := .dead, dfs := [] } :=
  ExecOk.weak (piece_ok good (lf := 3000) (n := 4) (keep := [0, 1, 4, 5, 6, 7, 8, 12, 24, 32]) (ls := []) (orc := [true, true, false, false]) (ans := []) (lps := []) (nt0 := 41) (s' := { env := [(0, .sl (i64L a) a.length na), (1, .sl (i64L b) b.length nb), (4, .dead), (5, .ref 0 0 0 1), (6, .int .i64 0), (7, .int .i64 (IntKind.wrap .i64 (((k : Nat) : Int) + ((1 : Nat) : Int)))), (8, .int .i64 (IntKind.wrap .i64 ((IntKind.wrap .i64 ((AV.toInt (List.headD (List.drop ((Int.toNat ((k : Nat) : Int)) * 1) (i64L a)) .dead)) - ((c : Nat) : Int))) - (AV.toInt (List.headD (List.drop ((Int.toNat ((k : Nat) : Int)) * 1) (i64L b)) .dead))))), (12, .bool (decide (((k : Nat) : Int) < ((a.length : Nat) : Int)))), (24, .bool (decide (((k : Nat) : Int) < ((b.length : Nat) : Int)))), (32, .bool (decide ((IntKind.wrap .i64 ((IntKind.wrap .i64 ((AV.toInt (List.headD (List.drop ((Int.toNat ((k : Nat) : Int)) * 1) (i64L a)) .dead)) - ((c : Nat) : Int))) - (AV.toInt (List.headD (List.drop ((Int.toNat ((k : Nat) : Int)) * 1) (i64L b)) .dead)))) < ((0 : Nat) : Int))))], hp := [(0, { cells := [.int .i64 (IntKind.wrap .i64 ((IntKind.wrap .i64 ((AV.toInt (List.headD (List.drop ((Int.toNat ((k : Nat) : Int)) * 1) (i64L a)) .dead)) - ((c : Nat) : Int))) - (AV.toInt (List.headD (List.drop ((Int.toNat ((k : Nat) : Int)) * 1) (i64L b)) .dead))))], ver := 0, fro := false, fz := 0, esz := 1, pr := true })], md := .dead, dfs := [] }) (by kernel_rfl) hn (.t (.t (.t (.c h0 (.c h1 (.c h2 (.c h3 (.c h4 (.c h5 (.c h2 (.c h6 (.c h7 .nil))))))))))) : AllB _) (.nil : AllP _) (by kernel_rfl)) (Less.refl _) (Less.of ⟨rfl, rfl, rfl, rfl, rfl, trivial⟩)
theorem rmiN_2 {nt : Nat} (hn : 41 ≤ nt) (a b o : List Nat) (na nb : Bool) (c k : Nat) (h0 : lit true (decide ((IntKind.wrap .i64 ((AV.toInt (List.headD (List.drop ((Int.toNat ((k : Nat) : Int)) * 1) (i64L a)) .dead)) - ((c : Nat) : Int))) < ((0 : Nat) : Int))) = true) (h1 : lit false (decide (((k : Nat) : Int) < ((b.length : Nat) : Int))) = true) (h2 : (chk (.int .i64) (List.headD (List.drop ((Int.toNat ((k : Nat) : Int)) * 1) (i64L a)) .dead)) = true) (h3 : (decide (((0 : Nat) : Int) ≤ ((k : Nat) : Int))) = true) (h4 : (decide (((k : Nat) : Int) < ((a.length : Nat) : Int))) = true) (h5 : lit true (decide (((k : Nat) : Int) < ((a.length : Nat) : Int))) = true)  : ExecOk Tryz.prog ap [] nt (loopBody 0 (bodyOf Tryz.f126)) { env := [(0, .sl (i64L a) a.length na), (1, .sl (i64L b) b.length nb), (6, .int .i64 ((c : Nat) : Int)), (7, .int .i64 ((k : Nat) : Int)), (5, .nilS)], hp := [], md := .dead, dfs := [] } (.normal) { env := [(0, .sl (i64L a) a.length na), (1, .sl (i64L b) b.length nb), (6, .int .i64 1), (7, .int .i64 (IntKind.wrap .i64 (((k : Nat) : Int) + ((1 : Nat) : Int)))), (5, .ref 0 0 0 1)], hp := [(0, { cells := [.int .i64 (IntKind.wrap .i64 ((IntKind.wrap .i64 ((AV.toInt (List.headD (List.drop ((Int.toNat ((k : Nat) : Int)) * 1) (i64L a)) .dead)) - ((c : Nat) : Int))) + ((16777216 : Nat) : Int)))], ver := 0, fro := false, fz := 0, esz := 1, pr := true })], md := .dead, dfs := [] } :=
  ExecOk.weak (piece_ok good (lf := 3000) (n := 4) (keep := [0, 1, 4, 5, 6, 7, 8, 12, 24, 32]) (ls := []) (orc := [true, false, true, false]) (ans := []) (lps := []) (nt0 := 41) (s' := { env := [(0, .sl (i64L a) a.length na), (1, .sl (i64L b) b.length nb), (4, .dead), (5, .ref 0 0 0 1), (6, .int .i64 1), (7, .int .i64 (IntKind.wrap .i64 (((k : Nat) : Int) + ((1 : Nat) : Int)))), (8, .int .i64 (IntKind.wrap .i64 ((IntKind.wrap .i64 ((AV.toInt (List.headD (List.drop ((Int.toNat ((k : Nat) : Int)) * 1) (i64L a)) .dead)) - ((c : Nat) : Int))) + ((16777216 : Nat) : Int)))), (12, .bool (decide (((k : Nat) : Int) < ((a.length : Nat) : Int)))), (24, .bool (decide (((k : Nat) : Int) < ((b.length : Nat) : Int)))), (32, .bool (decide ((IntKind.wrap .i64 ((AV.toInt (List.headD (List.drop ((Int.toNat ((k : Nat) : Int)) * 1) (i64L a)) .dead)) - ((c : Nat) : Int))) < ((0 : Nat) : Int))))], hp := [(0, { cells := [.int .i64 (IntKind.wrap .i64 ((IntKind.wrap .i64 ((AV.toInt (List.headD (List.drop ((Int.toNat ((k : Nat) : Int)) * 1) (i64L a)) .dead)) - ((c : Nat) : Int))) + ((16777216 : Nat) : Int)))], ver := 0, fro := false, fz := 0, esz := 1, pr := true })], md := .dead, dfs := [] }) (by kernel_rfl) hn (.t (.t (.t (.c h0 (.c h1 (.c h2 (.c h3 (.c h4 (.c h5 .nil)))))))) : AllB _) (.nil : AllP _) (by kernel_rfl)) (Less.refl _) (Less.of ⟨rfl, rfl, rfl, rfl, rfl, trivial⟩)
theorem rmiN_3 {nt : Nat} (hn : 41 ≤ nt) (a b o : List Nat) (na nb : Bool) (c k : Nat) (h0 : lit false (decide ((IntKind.wrap .i64 ((AV.toInt (List.headD (List.drop ((Int.toNat ((k : Nat) : Int)) * 1) (i64L a)) .dead)) - ((c : Nat) : Int))) < ((0 : Nat) : Int))) = true) (h1 : lit false (decide (((k : Nat) : Int) < ((b.length : Nat) : Int))) = true) (h2 : (chk (.int .i64) (List.headD (List.drop ((Int.toNat ((k : Nat) : Int)) * 1) (i64L a)) .dead)) = true) (h3 : (decide (((0 : Nat) : Int) ≤ ((k : Nat) : Int))) = true) (h4 : (decide (((k : Nat) : Int) < ((a.length : Nat) : Int))) = true) (h5 : lit true (decide (((k : Nat) : Int) < ((a.length : Nat) : Int))) = true)  : ExecOk Tryz.prog ap [] nt (loopBody 0 (bodyOf Tryz.f126)) { env := [(0, .sl (i64L a) a.length na), (1, .sl (i64L b) b.length nb), (6, .int .i64 ((c : Nat) : Int)), (7, .int .i64 ((k : Nat) : Int)), (5, .nilS)], hp := [], md := .dead, dfs := [] } (.normal) { env := [(0, .sl (i64L a) a.length na), (1, .sl (i64L b) b.length nb), (6, .int .i64 0), (7, .int .i64 (IntKind.wrap .i64 (((k : Nat) : Int) + ((1 : Nat) : Int)))), (5, .ref 0 0 0 1)], hp := [(0, { cells := [.int .i64 (IntKind.wrap .i64 ((AV.toInt (List.headD (List.drop ((Int.toNat ((k : Nat) : Int)) * 1) (i64L a)) .dead)) - ((c : Nat) : Int)))], ver := 0, fro := false, fz := 0, esz := 1, pr := true })], md := .dead, dfs := [] } :=
  ExecOk.weak (piece_ok good (lf := 3000) (n := 4) (keep := [0, 1, 4, 5, 6, 7, 8, 12, 24, 32]) (ls := []) (orc := [true, false, false, false]) (ans := []) (lps := []) (nt0 := 41) (s' := { env := [(0, .sl (i64L a) a.length na), (1, .sl (i64L b) b.length nb), (4, .dead), (5, .ref 0 0 0 1), (6, .int .i64 0), (7, .int .i64 (IntKind.wrap .i64 (((k : Nat) : Int) + ((1 : Nat) : Int)))), (8, .int .i64 (IntKind.wrap .i64 ((AV.toInt (List.headD (List.drop ((Int.toNat ((k : Nat) : Int)) * 1) (i64L a)) .dead)) - ((c : Nat) : Int)))), (12, .bool (decide (((k : Nat) : Int) < ((a.length : Nat) : Int)))), (24, .bool (decide (((k : Nat) : Int) < ((b.length : Nat) : Int)))), (32, .bool (decide ((IntKind.wrap .i64 ((AV.toInt (List.headD (List.drop ((Int.toNat ((k : Nat) : Int)) * 1) (i64L a)) .dead)) - ((c : Nat) : Int))) < ((0 : Nat) : Int))))], hp := [(0, { cells := [.int .i64 (IntKind.wrap .i64 ((AV.toInt (List.headD (List.drop ((Int.toNat ((k : Nat) : Int)) * 1) (i64L a)) .dead)) - ((c : Nat) : Int)))], ver := 0, fro := false, fz := 0, esz := 1, pr := true })], md := .dead, dfs := [] }) (by kernel_rfl) hn (.t (.t (.t (.c h0 (.c h1 (.c h2 (.c h3 (.c h4 (.c h5 .nil)))))))) : AllB _) (.nil : AllP _) (by kernel_rfl)) (Less.refl _) (Less.of ⟨rfl, rfl, rfl, rfl, rfl, trivial⟩)
theorem rmiN_4 {nt : Nat} (hn : 41 ≤ nt) (a b o : List Nat) (na nb : Bool) (c k : Nat) (h0 : lit false (decide (((k : Nat) : Int) < ((a.length : Nat) : Int))) = true)  : ExecOk Tryz.prog ap [] nt (loopBody 0 (bodyOf Tryz.f126)) { env := [(0, .sl (i64L a) a.length na), (1, .sl (i64L b) b.length nb), (6, .int .i64 ((c : Nat) : Int)), (7, .int .i64 ((k : Nat) : Int)), (5, .nilS)], hp := [], md := .dead, dfs := [] } (.exit 0) { env := [(5, .nilS)], hp := [], md := .dead, dfs := [] } :=
  ExecOk.weak (piece_ok good (lf := 3000) (n := 4) (keep := [0, 1, 4, 5, 6, 7, 8, 12, 24, 32]) (ls := []) (orc := [false]) (ans := []) (lps := []) (nt0 := 41) (s' := { env := [(0, .sl (i64L a) a.length na), (1, .sl (i64L b) b.length nb), (4, .dead), (5, .nilS), (6, .int .i64 ((c : Nat) : Int)), (7, .int .i64 ((k : Nat) : Int)), (8, .dead), (12, .bool (decide (((k : Nat) : Int) < ((a.length : Nat) : Int)))), (24, .dead), (32, .dead)], hp := [], md := .dead, dfs := [] }) (by kernel_rfl) hn (.c h0 .nil : AllB _) (.nil : AllP _) (by kernel_rfl)) (Less.refl _) (Less.of ⟨rfl, trivial⟩)
theorem rmiNF_0 (a b o r : List Nat) (na nb : Bool)  (l0 : LoopOk Tryz.prog ap [] 41 (.block 0 (.loop (loopBody 0 (bodyOf Tryz.f126)))) { env := [(0, .sl (i64L a) a.length na), (1, .sl (i64L b) b.length nb), (4, .nilS), (5, .nilS), (6, .int .i64 0), (7, .int .i64 0), (8, .dead), (12, .dead), (24, .dead), (32, .dead)], hp := [], md := .dead, dfs := [] } (.normal) { env := [(5, .nilS)], hp := [], md := .dead, dfs := [] }) (c0 : CallOk Tryz.prog ap 123 [.nilS] [] (.ret (.sl (i64L r) r.length false)) []) : CallOk Tryz.prog ap 126 [.sl (i64L a) a.length na, .sl (i64L b) b.length nb] [] (.ret (.sl (i64L r) r.length false)) [] := path_ok good (lf := 3000) (n := 4) (ls := [0]) (orc := []) (ans := [(.ret (.sl (i64L r) r.length false), [])]) (lps := [(.normal, { env := [(5, .nilS)], hp := [], md := .dead, dfs := [] })]) (.nil : AllB _) (.cons c0 (.cons l0 .nil) : AllP _) (by kernel_rfl)
theorem rmiC_0 {nt : Nat} (hn : 41 ≤ nt) (a b o : List Nat) (na nb : Bool) (c k : Nat) (h0 : (Nat.ble (o.length + 1) 1099511627776) = true) (h1 : (Nat.ble (o.length * 1) (List.length (i64L o))) = true) (h2 : lit true (decide ((IntKind.wrap .i64 ((IntKind.wrap .i64 ((AV.toInt (List.headD (List.drop ((Int.toNat ((k : Nat) : Int)) * 1) (i64L a)) .dead)) - ((c : Nat) : Int))) - (AV.toInt (List.headD (List.drop ((Int.toNat ((k : Nat) : Int)) * 1) (i64L b)) .dead)))) < ((0 : Nat) : Int))) = true) (h3 : (chk (.int .i64) (List.headD (List.drop ((Int.toNat ((k : Nat) : Int)) * 1) (i64L b)) .dead)) = true) (h4 : (decide (((0 : Nat) : Int) ≤ ((k : Nat) : Int))) = true) (h5 : (decide (((k : Nat) : Int) < ((b.length : Nat) : Int))) = true) (h6 : lit true (decide (((k : Nat) : Int) < ((b.length : Nat) : Int))) = true) (h7 : (chk (.int .i64) (List.headD (List.drop ((Int.toNat ((k : Nat) : Int)) * 1) (i64L a)) .dead)) = true) (h8 : (decide (((k : Nat) : Int) < ((a.length : Nat) : Int))) = true) (h9 : lit true (decide (((k : Nat) : Int) < ((a.length : Nat) : Int))) = true)  : ExecOk Tryz.prog ap [] nt (loopBody 0 (bodyOf Tryz.f126)) { env := [(0, .sl (i64L a) a.length na), (1, .sl (i64L b) b.length nb), (6, .int .i64 ((c : Nat) : Int)), (7, .int .i64 ((k : Nat) : Int)), (5, .ref 0 0 0 o.length)], hp := [(0, { cells := (i64L o), ver := 0, fro := false, fz := 0, esz := 1, pr := true })], md := .dead, dfs := [] } (.normal) { env := [(0, .sl (i64L a) a.length na), (1, .sl (i64L b) b.length nb), (6, .int .i64 1), (7, .int .i64 (IntKind.wrap .i64 (((k : Nat) : Int) + ((1 : Nat) : Int)))), (5, .ref 0 0 0 (o.length + 1))], hp := [(0, { cells := ((List.take (o.length * 1) (i64L o)) ++ [.int .i64 (IntKind.wrap .i64 ((IntKind.wrap .i64 ((IntKind.wrap .i64 ((AV.toInt (List.headD (List.drop ((Int.toNat ((k : Nat) : Int)) * 1) (i64L a)) .dead)) - ((c : Nat) : Int))) - (AV.toInt (List.headD (List.drop ((Int.toNat ((k : Nat) : Int)) * 1) (i64L b)) .dead)))) + ((16777216 : Nat) : Int)))]), ver := 0, fro := false, fz := 0, esz := 1, pr := true })], md := .dead, dfs := [] } :=
  ExecOk.weak (piece_ok good (lf := 3000) (n := 4) (keep := [0, 1, 4, 5, 6, 7, 8, 12, 24, 32]) (ls := []) (orc := [true, true, true]) (ans := []) (lps := []) (nt0 := 41) (s' := { env := [(0, .sl (i64L a) a.length na), (1, .sl (i64L b) b.length nb), (4, .dead), (5, .ref 0 0 0 (o.length + 1)), (6, .int .i64 1), (7, .int .i64 (IntKind.wrap .i64 (((k : Nat) : Int) + ((1 : Nat) : Int)))), (8, .int .i64 (IntKind.wrap .i64 ((IntKind.wrap .i64 ((IntKind.wrap .i64 ((AV.toInt (List.headD (List.drop ((Int.toNat ((k : Nat) : Int)) * 1) (i64L a)) .dead)) - ((c : Nat) : Int))) - (AV.toInt (List.headD (List.drop ((Int.toNat ((k : Nat) : Int)) * 1) (i64L b)) .dead)))) + ((16777216 : Nat) : Int)))), (12, .bool (decide (((k : Nat) : Int) < ((a.length : Nat) : Int)))), (24, .bool (decide (((k : Nat) : Int) < ((b.length : Nat) : Int)))), (32, .bool (decide ((IntKind.wrap .i64 ((IntKind.wrap .i64 ((AV.toInt (List.headD (List.drop ((Int.toNat ((k : Nat) : Int)) * 1) (i64L a)) .dead)) - ((c : Nat) : Int))) - (AV.toInt (List.headD (List.drop ((Int.toNat ((k : Nat) : Int)) * 1) (i64L b)) .dead)))) < ((0 : Nat) : Int))))], hp := [(0, { cells := ((List.take (o.length * 1) (i64L o)) ++ [.int .i64 (IntKind.wrap .i64 ((IntKind.wrap .i64 ((IntKind.wrap .i64 ((AV.toInt (List.headD (List.drop ((Int.toNat ((k : Nat) : Int)) * 1) (i64L a)) .dead)) - ((c : Nat) : Int))) - (AV.toInt (List.headD (List.drop ((Int.toNat ((k : Nat) : Int)) * 1) (i64L b)) .dead)))) + ((16777216 : Nat) : Int)))]), ver := 0, fro := false, fz := 0, esz := 1, pr := true })], md := .dead, dfs := [] }) (by kernel_rfl) hn (.t (.c h0 (.c h1 (.t (.c h2 (.c h3 (.c h4 (.c h5 (.c h6 (.c h7 (.c h4 (.c h8 (.c h9 .nil)))))))))))) : AllB _) (.nil : AllP _) (by kernel_rfl)) (Less.refl _) (Less.of ⟨rfl, rfl, rfl, rfl, rfl, trivial⟩)
theorem rmiC_1 {nt : Nat} (hn : 41 ≤ nt) (a b o : List Nat) (na nb : Bool) (c k : Nat) (h0 : (Nat.ble (o.length + 1) 1099511627776) = true) (h1 : (Nat.ble (o.length * 1) (List.length (i64L o))) = true) (h2 : lit false (decide ((IntKind.wrap .i64 ((IntKind.wrap .i64 ((AV.toInt (List.headD (List.drop ((Int.toNat ((k : Nat) : Int)) * 1) (i64L a)) .dead)) - ((c : Nat) : Int))) - (AV.toInt (List.headD (List.drop ((Int.toNat ((k : Nat) : Int)) * 1) (i64L b)) .dead)))) < ((0 : Nat) : Int))) = true) (h3 : (chk (.int .i64) (List.headD (List.drop ((Int.toNat ((k : Nat) : Int)) * 1) (i64L b)) .dead)) = true) (h4 : (decide (((0 : Nat) : Int) ≤ ((k : Nat) : Int))) = true) (h5 : (decide (((k : Nat) : Int) < ((b.length : Nat) : Int))) = true) (h6 : lit true (decide (((k : Nat) : Int) < ((b.length : Nat) : Int))) = true) (h7 : (chk (.int .i64) (List.headD (List.drop ((Int.toNat ((k : Nat) : Int)) * 1) (i64L a)) .dead)) = true) (h8 : (decide (((k : Nat) : Int) < ((a.length : Nat) : Int))) = true) (h9 : lit true (decide (((k : Nat) : Int) < ((a.length : Nat) : Int))) = true)  : ExecOk Tryz.prog ap [] nt (loopBody 0 (bodyOf Tryz.f126)) { env := [(0, .sl (i64L a) a.length na), (1, .sl (i64L b) b.length nb), (6, .int .i64 ((c : Nat) : Int)), (7, .int .i64 ((k : Nat) : Int)), (5, .ref 0 0 0 o.length)], hp := [(0, { cells := (i64L o), ver := 0, fro := false, fz := 0, esz := 1, pr := true })], md := .dead, dfs := [] } (.normal) { env := [(0, .sl (i64L a) a.length na), (1, .sl (i64L b) b.length nb), (6, .int .i64 0), (7, .int .i64 (IntKind.wrap .i64 (((k : Nat) : Int) + ((1 : Nat) : Int)))), (5, .ref 0 0 0 (o.length + 1))], hp := [(0, { cells := ((List.take (o.length * 1) (i64L o)) ++ [.int .i64 (IntKind.wrap .i64 ((IntKind.wrap .i64 ((AV.toInt (List.headD (List.drop ((Int.toNat ((k : Nat) : Int)) * 1) (i64L a)) .dead)) - ((c : Nat) : Int))) - (AV.toInt (List.headD (List.drop ((Int.toNat ((k : Nat) : Int)) * 1) (i64L b)) .dead))))]), ver := 0, fro := false, fz := 0, esz := 1, pr := true })], md := .dead, dfs := [] } :=
  ExecOk.weak (piece_ok good (lf := 3000) (n := 4) (keep := [0, 1, 4, 5, 6, 7, 8, 12, 24, 32]) (ls := []) (orc := [true, true, false]) (ans := []) (lps := []) (nt0 := 41) (s' := { env := [(0, .sl (i64L a) a.length na), (1, .sl (i64L b) b.length nb), (4, .dead), (5, .ref 0 0 0 (o.length + 1)), (6, .int .i64 0), (7, .int .i64 (IntKind.wrap .i64 (((k : Nat) : Int) + ((1 : Nat) : Int)))), (8, .int .i64 (IntKind.wrap .i64 ((IntKind.wrap .i64 ((AV.toInt (List.headD (List.drop ((Int.toNat ((k : Nat) : Int)) * 1) (i64L a)) .dead)) - ((c : Nat) : Int))) - (AV.toInt (List.headD (List.drop ((Int.toNat ((k : Nat) : Int)) * 1) (i64L b)) .dead))))), (12, .bool (decide (((k : Nat) : Int) < ((a.length : Nat) : Int)))), (24, .bool (decide (((k : Nat) : Int) < ((b.length : Nat) : Int)))), (32, .bool (decide ((IntKind.wrap .i64 ((IntKind.wrap .i64 ((AV.toInt (List.headD (List.drop ((Int.toNat ((k : Nat) : Int)) * 1) (i64L a)) .dead)) - ((c : Nat) : Int))) - (AV.toInt (List.headD (List.drop ((Int.toNat ((k : Nat) : Int)) * 1) (i64L b)) .dead)))) < ((0 : Nat) : Int))))], hp := [(0, { cells := ((List.take (o.length * 1) (i64L o)) ++ [.int .i64 (IntKind.wrap .i64 ((IntKind.wrap .i64 ((AV.toInt (List.headD (List.drop ((Int.toNat ((k : Nat) : Int)) * 1) (i64L a)) .dead)) - ((c : Nat) : Int))) - (AV.toInt (List.headD (List.drop ((Int.toNat ((k : Nat) : Int)) * 1) (i64L b)) .dead))))]), ver := 0, fro := false, fz := 0, esz := 1, pr := true })], md := .dead, dfs := [] }) (by kernel_rfl) hn (.t (.c h0 (.c h1 (.t (.c h2 (.c h3 (.c h4 (.c h5 (.c h6 (.c h7 (.c h4 (.c h8 (.c h9 .nil)))))))))))) : AllB _) (.nil : AllP _) (by kernel_rfl)) (Less.refl _) (Less.of ⟨rfl, rfl, rfl, rfl, rfl, trivial⟩)
theorem rmiC_2 {nt : Nat} (hn : 41 ≤ nt) (a b o : List Nat) (na nb : Bool) (c k : Nat) (h0 : (Nat.ble (o.length + 1) 1099511627776) = true) (h1 : (Nat.ble (o.length * 1) (List.length (i64L o))) = true) (h2 : lit true (decide ((IntKind.wrap .i64 ((AV.toInt (List.headD (List.drop ((Int.toNat ((k : Nat) : Int)) * 1) (i64L a)) .dead)) - ((c : Nat) : Int))) < ((0 : Nat) : Int))) = true) (h3 : lit false (decide (((k : Nat) : Int) < ((b.length : Nat) : Int))) = true) (h4 : (chk (.int .i64) (List.headD (List.drop ((Int.toNat ((k : Nat) : Int)) * 1) (i64L a)) .dead)) = true) (h5 : (decide (((0 : Nat) : Int) ≤ ((k : Nat) : Int))) = true) (h6 : (decide (((k : Nat) : Int) < ((a.length : Nat) : Int))) = true) (h7 : lit true (decide (((k : Nat) : Int) < ((a.length : Nat) : Int))) = true)  : ExecOk Tryz.prog ap [] nt (loopBody 0 (bodyOf Tryz.f126)) { env := [(0, .sl (i64L a) a.length na), (1, .sl (i64L b) b.length nb), (6, .int .i64 ((c : Nat) : Int)), (7, .int .i64 ((k : Nat) : Int)), (5, .ref 0 0 0 o.length)], hp := [(0, { cells := (i64L o), ver := 0, fro := false, fz := 0, esz := 1, pr := true })], md := .dead, dfs := [] } (.normal) { env := [(0, .sl (i64L a) a.length na), (1, .sl (i64L b) b.length nb), (6, .int .i64 1), (7, .int .i64 (IntKind.wrap .i64 (((k : Nat) : Int) + ((1 : Nat) : Int)))), (5, .ref 0 0 0 (o.length + 1))], hp := [(0, { cells := ((List.take (o.length * 1) (i64L o)) ++ [.int .i64 (IntKind.wrap .i64 ((IntKind.wrap .i64 ((AV.toInt (List.headD (List.drop ((Int.toNat ((k : Nat) : Int)) * 1) (i64L a)) .dead)) - ((c : Nat) : Int))) + ((16777216 : Nat) : Int)))]), ver := 0, fro := false, fz := 0, esz := 1, pr := true })], md := .dead, dfs := [] } :=
  ExecOk.weak (piece_ok good (lf := 3000) (n := 4) (keep := [0, 1, 4, 5, 6, 7, 8, 12, 24, 32]) (ls := []) (orc := [true, false, true]) (ans := []) (lps := []) (nt0 := 41) (s' := { env := [(0, .sl (i64L a) a.length na), (1, .sl (i64L b) b.length nb), (4, .dead), (5, .ref 0 0 0 (o.length + 1)), (6, .int .i64 1), (7, .int .i64 (IntKind.wrap .i64 (((k : Nat) : Int) + ((1 : Nat) : Int)))), (8, .int .i64 (IntKind.wrap .i64 ((IntKind.wrap .i64 ((AV.toInt (List.headD (List.drop ((Int.toNat ((k : Nat) : Int)) * 1) (i64L a)) .dead)) - ((c : Nat) : Int))) + ((16777216 : Nat) : Int)))), (12, .bool (decide (((k : Nat) : Int) < ((a.length : Nat) : Int)))), (24, .bool (decide (((k : Nat) : Int) < ((b.length : Nat) : Int)))), (32, .bool (decide ((IntKind.wrap .i64 ((AV.toInt (List.headD (List.drop ((Int.toNat ((k : Nat) : Int)) * 1) (i64L a)) .dead)) - ((c : Nat) : Int))) < ((0 : Nat) : Int))))], hp := [(0, { cells := ((List.take (o.length * 1) (i64L o)) ++ [.int .i64 (IntKind.wrap .i64 ((IntKind.wrap .i64 ((AV.toInt (List.headD (List.drop ((Int.toNat ((k : Nat) : Int)) * 1) (i64L a)) .dead)) - ((c : Nat) : Int))) + ((16777216 : Nat) : Int)))]), ver := 0, fro := false, fz := 0, esz := 1, pr := true })], md := .dead, dfs := [] }) (by kernel_rfl) hn (.t (.c h0 (.c h1 (.t (.c h2 (.c h3 (.c h4 (.c h5 (.c h6 (.c h7 .nil))))))))) : AllB _) (.nil : AllP _) (by kernel_rfl)) (Less.refl _) (Less.of ⟨rfl, rfl, rfl, rfl, rfl, trivial⟩)
theorem rmiC_3 {nt : Nat} (hn : 41 ≤ nt) (a b o : List Nat) (na nb : Bool) (c k : Nat) (h0 : (Nat.ble (o.length + 1) 1099511627776) = true) (h1 : (Nat.ble (o.length * 1) (List.length (i64L o))) = true) (h2 : lit false (decide ((IntKind.wrap .i64 ((AV.toInt (List.headD (List.drop ((Int.toNat ((k : Nat) : Int)) * 1) (i64L a)) .dead)) - ((c : Nat) : Int))) < ((0 : Nat) : Int))) = true) (h3 : lit false (decide (((k : Nat) : Int) < ((b.length : Nat) : Int))) = true) (h4 : (chk (.int .i64) (List.headD (List.drop ((Int.toNat ((k : Nat) : Int)) * 1) (i64L a)) .dead)) = true) (h5 : (decide (((0 : Nat) : Int) ≤ ((k : Nat) : Int))) = true) (h6 : (decide (((k : Nat) : Int) < ((a.length : Nat) : Int))) = true) (h7 : lit true (decide (((k : Nat) : Int) < ((a.length : Nat) : Int))) = true)  : ExecOk Tryz.prog ap [] nt (loopBody 0 (bodyOf Tryz.f126)) { env := [(0, .sl (i64L a) a.length na), (1, .sl (i64L b) b.length nb), (6, .int .i64 ((c : Nat) : Int)), (7, .int .i64 ((k : Nat) : Int)), (5, .ref 0 0 0 o.length)], hp := [(0, { cells := (i64L o), ver := 0, fro := false, fz := 0, esz := 1, pr := true })], md := .dead, dfs := [] } (.normal) { env := [(0, .sl (i64L a) a.length na), (1, .sl (i64L b) b.length nb), (6, .int .i64 0), (7, .int .i64 (IntKind.wrap .i64 (((k : Nat) : Int) + ((1 : Nat) : Int)))), (5, .ref 0 0 0 (o.length + 1))], hp := [(0, { cells := ((List.take (o.length * 1) (i64L o)) ++ [.int .i64 (IntKind.wrap .i64 ((AV.toInt (List.headD (List.drop ((Int.toNat ((k : Nat) : Int)) * 1) (i64L a)) .dead)) - ((c : Nat) : Int)))]), ver := 0, fro := false, fz := 0, esz := 1, pr := true })], md := .dead, dfs := [] } :=
  ExecOk.weak (piece_ok good (lf := 3000) (n := 4) (keep := [0, 1, 4, 5, 6, 7, 8, 12, 24, 32]) (ls := []) (orc := [true, false, false]) (ans := []) (lps := []) (nt0 := 41) (s' := { env := [(0, .sl (i64L a) a.length na), (1, .sl (i64L b) b.length nb), (4, .dead), (5, .ref 0 0 0 (o.length + 1)), (6, .int .i64 0), (7, .int .i64 (IntKind.wrap .i64 (((k : Nat) : Int) + ((1 : Nat) : Int)))), (8, .int .i64 (IntKind.wrap .i64 ((AV.toInt (List.headD (List.drop ((Int.toNat ((k : Nat) : Int)) * 1) (i64L a)) .dead)) - ((c : Nat) : Int)))), (12, .bool (decide (((k : Nat) : Int) < ((a.length : Nat) : Int)))), (24, .bool (decide (((k : Nat) : Int) < ((b.length : Nat) : Int)))), (32, .bool (decide ((IntKind.wrap .i64 ((AV.toInt (List.headD (List.drop ((Int.toNat ((k : Nat) : Int)) * 1) (i64L a)) .dead)) - ((c : Nat) : Int))) < ((0 : Nat) : Int))))], hp := [(0, { cells := ((List.take (o.length * 1) (i64L o)) ++ [.int .i64 (IntKind.wrap .i64 ((AV.toInt (List.headD (List.drop ((Int.toNat ((k : Nat) : Int)) * 1) (i64L a)) .dead)) - ((c : Nat) : Int)))]), ver := 0, fro := false, fz := 0, esz := 1, pr := true })], md := .dead, dfs := [] }) (by kernel_rfl) hn (.t (.c h0 (.c h1 (.t (.c h2 (.c h3 (.c h4 (.c h5 (.c h6 (.c h7 .nil))))))))) : AllB _) (.nil : AllP _) (by kernel_rfl)) (Less.refl _) (Less.of ⟨rfl, rfl, rfl, rfl, rfl, trivial⟩)
theorem rmiC_4 {nt : Nat} (hn : 41 ≤ nt) (a b o : List Nat) (na nb : Bool) (c k : Nat) (h0 : lit false (decide (((k : Nat) : Int) < ((a.length : Nat) : Int))) = true)  : ExecOk Tryz.prog ap [] nt (loopBody 0 (bodyOf Tryz.f126)) { env := [(0, .sl (i64L a) a.length na), (1, .sl (i64L b) b.length nb), (6, .int .i64 ((c : Nat) : Int)), (7, .int .i64 ((k : Nat) : Int)), (5, .ref 0 0 0 o.length)], hp := [(0, { cells := (i64L o), ver := 0, fro := false, fz := 0, esz := 1, pr := true })], md := .dead, dfs := [] } (.exit 0) { env := [(5, .ref 0 0 0 o.length)], hp := [(0, { cells := (i64L o), ver := 0, fro := false, fz := 0, esz := 1, pr := true })], md := .dead, dfs := [] } :=
  ExecOk.weak (piece_ok good (lf := 3000) (n := 4) (keep := [0, 1, 4, 5, 6, 7, 8, 12, 24, 32]) (ls := []) (orc := [false]) (ans := []) (lps := []) (nt0 := 41) (s' := { env := [(0, .sl (i64L a) a.length na), (1, .sl (i64L b) b.length nb), (4, .dead), (5, .ref 0 0 0 o.length), (6, .int .i64 ((c : Nat) : Int)), (7, .int .i64 ((k : Nat) : Int)), (8, .dead), (12, .bool (decide (((k : Nat) : Int) < ((a.length : Nat) : Int)))), (24, .dead), (32, .dead)], hp := [(0, { cells := (i64L o), ver := 0, fro := false, fz := 0, esz := 1, pr := true })], md := .dead, dfs := [] }) (by kernel_rfl) hn (.c h0 .nil : AllB _) (.nil : AllP _) (by kernel_rfl)) (Less.refl _) (Less.of ⟨rfl, trivial⟩)
theorem rmiCF_0 (a b o r : List Nat) (na nb : Bool)  (l0 : LoopOk Tryz.prog ap [] 41 (.block 0 (.loop (loopBody 0 (bodyOf Tryz.f126)))) { env := [(0, .sl (i64L a) a.length na), (1, .sl (i64L b) b.length nb), (4, .nilS), (5, .nilS), (6, .int .i64 0), (7, .int .i64 0), (8, .dead), (12, .dead), (24, .dead), (32, .dead)], hp := [], md := .dead, dfs := [] } (.normal) { env := [(5, .ref 0 0 0 o.length)], hp := [(0, { cells := (i64L o), ver := 0, fro := false, fz := 0, esz := 1, pr := true })], md := .dead, dfs := [] }) (c0 : CallOk Tryz.prog ap 123 [.sl (List.take (o.length * 1) (i64L o)) o.length true] [] (.ret (.sl (i64L r) r.length false)) []) : CallOk Tryz.prog ap 126 [.sl (i64L a) a.length na, .sl (i64L b) b.length nb] [] (.ret (.sl (i64L r) r.length false)) [] := path_ok good (lf := 3000) (n := 4) (ls := [0]) (orc := []) (ans := [(.ret (.sl (i64L r) r.length false), [])]) (lps := [(.normal, { env := [(5, .ref 0 0 0 o.length)], hp := [(0, { cells := (i64L o), ver := 0, fro := false, fz := 0, esz := 1, pr := true })], md := .dead, dfs := [] })]) (.nil : AllB _) (.cons c0 (.cons l0 .nil) : AllP _) (by kernel_rfl)
end Go.Proofs.Tryz

set_option maxRecDepth 100000
open Go AM
namespace Go.Proofs.Tryz
/-- How many zeros stand in front. -/
def nz : List UInt8 → Nat
  | [] => 0
  | c :: r => if c = 0 then nz r + 1 else 0
theorem drop_nz (s : List UInt8) : s.drop (nz s) = s.dropWhile (· == 0) := by
  induction s with
  | nil => rfl
  | cons c r ih =>
    simp only [nz, List.dropWhile_cons]
    by_cases h : c = 0
    · subst h; simpa using ih
    · simp [h]
theorem nz_le (s : List UInt8) : nz s ≤ s.length := by
  induction s with
  | nil => exact Nat.le_refl _
  | cons c r ih => simp only [nz, List.length_cons]; split <;> omega
def canSt (s : List UInt8) (k : Nat) : St := { env := [(0, .str s), (3, .int .i64 ((k : Nat) : Int))], hp := [], md := .dead, dfs := [] }
theorem str_mid {p r : List UInt8} {c : UInt8} {k : Nat} (h : k = p.length) : (p ++ c :: r).getD k 0 = c := by subst h; simp
theorem u8_zero (c : UInt8) : (c.toNat = 0) = (c = 0) := by
  apply propext
  constructor
  · intro h; apply UInt8.toNat_inj.1; simpa using h
  · intro h; subst h; rfl
theorem can_loop {nt : Nat} (hn : 19 ≤ nt) (s : List UInt8) (hs : s.length < 2 ^ 40) : ∀ (r p : List UInt8), p ++ r = s → LoopR Tryz.prog ap [] nt (loopBody 0 (bodyOf Tryz.f61)) (fun _ => .exit 0) (canSt s) (canSt s) p.length (p.length + nz r) := by
  intro r
  induction r with
  | nil =>
    intro p h
    have hp : p.length = s.length := by rw [← h]; simp
    refine .done (can_2 hn s p.length ?_)
    rw [hp, d_lt]; simp [lit]
  | cons c r ih =>
    intro p h
    have hl : p.length + (r.length + 1) = s.length := by rw [← h]; simp
    have hg : s.getD p.length 0 = c := by rw [← h]; exact str_mid rfl
    by_cases hc : c = 0
    · have hnext := ih (p ++ [c]) (by simp [h])
      rw [List.length_append, List.length_singleton] at hnext
      simp only [nz, if_pos hc]
      rw [show p.length + (nz r + 1) = p.length + 1 + nz r by omega]
      refine .next ?_ hnext
      have hb := can_0 hn s p.length
      have h2 : c.toNat = 0 := by subst hc; rfl
      simp (disch := first | omega | (simp only [List.length_append, List.length_replicate, List.length_cons, List.length_nil, List.length_reverse, List.length_map, u32L_length, u8L_length, List.length_take, List.length_drop, List.length_set] <;> omega)) only [c_add, c_mul, c_tdiv, c_tmod, c_shl, c_shr, c_toNat, w64_nat, w64_sub, w8u, w32u, w64u, w64u_sub, w32u_sub, or64, or32, and64, and_mask32, andI, orI, min_b64, min_b32, min_bi, min_l, p_32, p_63, Nat.mod_eq_of_lt, chk_u32, toInt_int, d_le, d_lt, b_eq, d_eq, nble_d, nbeq_d, lit_t, lit_f, not_t, dec_t, dec_f, Nat.zero_add, Nat.mul_one, u32L_length, List.length_append, List.length_replicate, List.length_cons, List.length_set, List.length_nil, u32_get, u32_mid, set_mid, hg, h2] at hb
      apply hb <;> first | exact True.intro | omega | assumption
    · simp only [nz, if_neg hc, Nat.add_zero]
      refine .done ?_
      have hb := can_1 hn s p.length
      have h2 : ¬ c.toNat = 0 := by rw [u8_zero]; exact hc
      simp (disch := first | omega | (simp only [List.length_append, List.length_replicate, List.length_cons, List.length_nil, List.length_reverse, List.length_map, u32L_length, u8L_length, List.length_take, List.length_drop, List.length_set] <;> omega)) only [c_add, c_mul, c_tdiv, c_tmod, c_shl, c_shr, c_toNat, w64_nat, w64_sub, w8u, w32u, w64u, w64u_sub, w32u_sub, or64, or32, and64, and_mask32, andI, orI, min_b64, min_b32, min_bi, min_l, p_32, p_63, Nat.mod_eq_of_lt, chk_u32, toInt_int, d_le, d_lt, b_eq, d_eq, nble_d, nbeq_d, lit_t, lit_f, not_t, dec_t, dec_f, Nat.zero_add, Nat.mul_one, u32L_length, List.length_append, List.length_replicate, List.length_cons, List.length_set, List.length_nil, u32_get, u32_mid, set_mid, hg] at hb
      apply hb <;> first | exact True.intro | omega | assumption
theorem canon_ok (s : List UInt8) (hs : s.length < 2 ^ 40) : CO 61 [.str s] (.ret (.str (natS (valS s)))) := by
  have hl := nz_le s
  have h := canF_0 s (nz s)
  simp (disch := first | omega | (simp only [List.length_append, List.length_replicate, List.length_cons, List.length_nil, List.length_reverse, List.length_map, u32L_length, u8L_length, List.length_take, List.length_drop, List.length_set] <;> omega)) only [c_add, c_mul, c_tdiv, c_tmod, c_shl, c_shr, c_toNat, w64_nat, w64_sub, w8u, w32u, w64u, w64u_sub, w32u_sub, or64, or32, and64, and_mask32, andI, orI, min_b64, min_b32, min_bi, min_l, p_32, p_63, Nat.mod_eq_of_lt, chk_u32, toInt_int, d_le, d_lt, b_eq, d_eq, nble_d, nbeq_d, lit_t, lit_f, not_t, dec_t, dec_f, Nat.zero_add, Nat.mul_one, u32L_length, List.length_append, List.length_replicate, List.length_cons, List.length_set, List.length_nil, u32_get, u32_mid, set_mid, List.take_length, drop_nz] at h
  rw [natS_val]
  apply h <;> first | exact True.intro | omega | assumption | skip
  · refine LoopR.blk (fun nt hn => can_loop hn s hs s [] rfl) (by simp) rfl (Less.of ⟨rfl, rfl, trivial⟩) ?_
    rw [List.length_nil, Nat.zero_add]; exact Less.refl _
/-! ### trim -/
theorem take_snocI (l : List Nat) (d : Nat) : List.take l.length (i64L (l ++ [d])) = i64L l := by
  rw [take_i64]; simp
theorem drop_snocI (l : List Nat) (d : Nat) : List.headD (List.drop l.length (i64L (l ++ [d]))) .dead = .int .i64 (d : Int) := by
  rw [i64_get (by simp)]; simp
def rtrSt (nn : Bool) (l : List Nat) : St := { env := [(0, .sl (i64L l) l.length nn)], hp := [], md := .dead, dfs := [] }
theorem rtr_loop {nt : Nat} (hn : 21 ≤ nt) (nn : Bool) : ∀ (k : Nat) (l : List Nat), l.length = k → k < 2 ^ 40 → LoopR Tryz.prog ap [] nt (loopBody 0 (bodyOf Tryz.f123)) (fun _ => .exit 0) (rtrSt nn) (rtrSt nn) l (trimN l) := by
  intro k
  induction k with
  | zero =>
    intro l hl _
    have : l = [] := List.eq_nil_of_length_eq_zero hl
    subst this
    exact .done (rtr_2 hn [] nn rfl)
  | succ k ih =>
    intro l hl hk
    rcases List.eq_nil_or_concat l with rfl | ⟨l', d, rfl⟩
    · simp at hl
    · rw [List.concat_eq_append] at hl ⊢
      have hl' : l'.length = k := by simpa using hl
      have e1 : l'.length + 1 - 1 = l'.length := by omega
      rw [trimN_snoc]
      by_cases hd : d = 0
      · rw [if_pos hd]
        refine .next ?_ (ih l' hl' (by omega))
        have hb := rtr_0 hn (l' ++ [d]) nn
        simp (disch := first | omega | (simp only [List.length_append, List.length_replicate, List.length_cons, List.length_nil, List.length_reverse, List.length_map, u32L_length, u8L_length, List.length_take, List.length_drop, List.length_set] <;> omega)) only [c_add, c_mul, c_tdiv, c_tmod, c_shl, c_shr, c_toNat, w64_nat, w64_sub, w8u, w32u, w64u, w64u_sub, w32u_sub, or64, or32, and64, and_mask32, andI, orI, min_b64, min_b32, min_bi, min_l, p_32, p_63, Nat.mod_eq_of_lt, chk_u32, toInt_int, d_le, d_lt, b_eq, d_eq, nble_d, nbeq_d, lit_t, lit_f, not_t, dec_t, dec_f, Nat.zero_add, Nat.mul_one, u32L_length, List.length_append, List.length_replicate, List.length_cons, List.length_set, List.length_nil, u32_get, u32_mid, set_mid, e1, take_snocI, drop_snocI, chk_i64, Nat.sub_zero] at hb
        simp only [rtrSt, List.length_append, List.length_singleton]
        apply hb <;> first | exact True.intro | omega | assumption
      · rw [if_neg hd]
        refine .done ?_
        have hb := rtr_1 hn (l' ++ [d]) nn
        simp (disch := first | omega | (simp only [List.length_append, List.length_replicate, List.length_cons, List.length_nil, List.length_reverse, List.length_map, u32L_length, u8L_length, List.length_take, List.length_drop, List.length_set] <;> omega)) only [c_add, c_mul, c_tdiv, c_tmod, c_shl, c_shr, c_toNat, w64_nat, w64_sub, w8u, w32u, w64u, w64u_sub, w32u_sub, or64, or32, and64, and_mask32, andI, orI, min_b64, min_b32, min_bi, min_l, p_32, p_63, Nat.mod_eq_of_lt, chk_u32, toInt_int, d_le, d_lt, b_eq, d_eq, nble_d, nbeq_d, lit_t, lit_f, not_t, dec_t, dec_f, Nat.zero_add, Nat.mul_one, u32L_length, List.length_append, List.length_replicate, List.length_cons, List.length_set, List.length_nil, u32_get, u32_mid, set_mid, e1, take_snocI, drop_snocI, chk_i64, Nat.sub_zero] at hb
        simp only [rtrSt, List.length_append, List.length_singleton]
        apply hb <;> first | exact True.intro | omega | assumption
theorem rtrim_ok (l : List Nat) (nn : Bool) (hl : l.length < 2 ^ 40) : CO 123 [.sl (i64L l) l.length nn] (.ret (.sl (i64L (trimN l)) (trimN l).length nn)) :=
  rtrF_0 l (trimN l) nn (LoopR.blk (fun nt hn => rtr_loop hn nn _ l rfl hl) (by simp) rfl (Less.of ⟨rfl, trivial⟩) (Less.of ⟨rfl, trivial⟩))
end Go.Proofs.Tryz

set_option maxRecDepth 100000
open Go AM
namespace Go.Proofs.Tryz
/-- A list that is appended to: nil at first. -/
def apE (l : List Nat) : AV := match l with | [] => .nilS | x :: l => .ref 0 0 0 (x :: l).length
def apH (l : List Nat) : Hp := match l with | [] => [] | x :: l => [(0, { cells := i64L (x :: l), ver := 0, fro := false, fz := 0, esz := 1, pr := true })]
theorem apE_ne {l : List Nat} (h : l ≠ []) : apE l = .ref 0 0 0 l.length := by cases l with | nil => exact absurd rfl h | cons _ _ => rfl
theorem apH_ne {l : List Nat} (h : l ≠ []) : apH l = [(0, { cells := i64L l, ver := 0, fro := false, fz := 0, esz := 1, pr := true })] := by cases l with | nil => exact absurd rfl h | cons _ _ => rfl
theorem snoc_ne (l : List Nat) (y : Nat) : l ++ [y] ≠ [] := by simp
theorem i64_mid {p s : List Nat} {x k : Nat} (h : k = p.length) : List.headD (List.drop k (i64L (p ++ x :: s))) .dead = .int .i64 (x : Int) := by
  rw [i64_get (by subst h; simp)]; subst h; simp
/-! ### times -/
def tmL (d : Nat) : List Nat → Nat → List Nat × Nat
  | [], c => ([], c)
  | x :: l, c => ((x * d + c) % 16777216 :: (tmL d l ((x * d + c) / 16777216)).1, (tmL d l ((x * d + c) / 16777216)).2)
theorem tm_bound {d x c : Nat} (hd : d < 16777216) (hx : x < 16777216) (hc : c < 16777216) : x * d + c < 281474976710656 ∧ (x * d + c) / 16777216 < 16777216 ∧ x * d < 281474976710656 := by
  have h1 : x * d ≤ 16777215 * 16777215 := Nat.mul_le_mul (by omega) (by omega)
  omega
theorem tmL_val {d : Nat} (hd : d < 16777216) (l : List Nat) : ∀ c, c < 16777216 → LimQ l → (tmL d l c).2 < 16777216 ∧ LimQ (tmL d l c).1 ∧ (tmL d l c).1.length = l.length ∧ valQ (tmL d l c).1 + 16777216 ^ l.length * (tmL d l c).2 = valQ l * d + c := by
  induction l with
  | nil => intro c hc _; exact ⟨hc, LimQ.nil, rfl, by simp [tmL, valQ]⟩
  | cons x l ih =>
    intro c hc hl
    obtain ⟨_, h2, _⟩ := tm_bound hd hl.head hc
    obtain ⟨i1, i2, i3, i4⟩ := ih _ h2 hl.tail
    simp only [tmL]
    refine ⟨i1, LimQ.cons (Nat.mod_lt _ (by omega)) i2, by simp [i3], ?_⟩
    simp only [valQ, List.length_cons, Nat.pow_succ]
    rw [Nat.mul_comm (16777216 ^ l.length), Nat.mul_assoc, Nat.add_mul, Nat.mul_assoc 16777216 (valQ l)]
    omega
def tmSt (a : List Nat) (na : Bool) (d : Nat) (p : Nat × Nat × List Nat) : St := { env := [(0, .sl (i64L a) a.length na), (1, .int .i64 ((d : Nat) : Int)), (6, .int .i64 ((p.2.1 : Nat) : Int)), (7, .int .i64 ((p.1 : Nat) : Int)), (5, apE p.2.2)], hp := apH p.2.2, md := .dead, dfs := [] }
def tmOut (p : Nat × List Nat) : St := { env := [(5, apE p.2), (6, .int .i64 ((p.1 : Nat) : Int))], hp := apH p.2, md := .dead, dfs := [] }
theorem tm_step {nt : Nat} (hn : 35 ≤ nt) (a o : List Nat) (na : Bool) (d c k x : Nat) (ha : a.length < 2 ^ 40) (hk : k < a.length) (ho : o.length = k) (hx : a.getD k 0 = x) (hb1 : x * d + c < 281474976710656) (hb2 : x * d < 281474976710656) :
    ExecOk Tryz.prog ap [] nt (loopBody 0 (bodyOf Tryz.f127)) (tmSt a na d (k, c, o)) .normal (tmSt a na d (k + 1, (x * d + c) / 16777216, o ++ [(x * d + c) % 16777216])) := by
  unfold tmSt
  have hlt : (x * d + c) / 16777216 < 9223372036854775808 := by omega
  have hlm : (x * d + c) % 16777216 < 9223372036854775808 := by omega
  have hc1 : (((x * d : Nat) : Int)) + ((c : Nat) : Int) = ((x * d + c : Nat) : Int) := by omega
  rcases Decidable.em (o = []) with rfl | hne
  · have hb := rtmN_0 hn a [] na d c k
    simp (disch := first | omega | (simp only [List.length_append, List.length_replicate, List.length_cons, List.length_nil, List.length_reverse, List.length_map, u32L_length, u8L_length, List.length_take, List.length_drop, List.length_set] <;> omega)) only [c_add, c_mul, c_tdiv, c_tmod, c_shl, c_shr, c_toNat, w64_nat, w64_sub, w8u, w32u, w64u, w64u_sub, w32u_sub, or64, or32, and64, and_mask32, andI, orI, min_b64, min_b32, min_bi, min_l, p_32, p_63, Nat.mod_eq_of_lt, chk_u32, toInt_int, d_le, d_lt, b_eq, d_eq, nble_d, nbeq_d, lit_t, lit_f, not_t, dec_t, dec_f, Nat.zero_add, Nat.mul_one, u32L_length, List.length_append, List.length_replicate, List.length_cons, List.length_set, List.length_nil, u32_get, u32_mid, set_mid, i64_get, chk_i64, hx, w64_mul, hc1] at hb
    simp only [List.nil_append, apE, apH, i64L, List.map_cons, List.map_nil, List.length_cons, List.length_nil] at hb ⊢
    apply hb <;> first | exact True.intro | omega | assumption
  · have hb := rtmC_0 hn a o na d c k
    rw [apE_ne hne, apH_ne hne, apE_ne (snoc_ne _ _), apH_ne (snoc_ne _ _)]
    simp (disch := first | omega | (simp only [List.length_append, List.length_replicate, List.length_cons, List.length_nil, List.length_reverse, List.length_map, u32L_length, u8L_length, List.length_take, List.length_drop, List.length_set] <;> omega)) only [c_add, c_mul, c_tdiv, c_tmod, c_shl, c_shr, c_toNat, w64_nat, w64_sub, w8u, w32u, w64u, w64u_sub, w32u_sub, or64, or32, and64, and_mask32, andI, orI, min_b64, min_b32, min_bi, min_l, p_32, p_63, Nat.mod_eq_of_lt, chk_u32, toInt_int, d_le, d_lt, b_eq, d_eq, nble_d, nbeq_d, lit_t, lit_f, not_t, dec_t, dec_f, Nat.zero_add, Nat.mul_one, u32L_length, List.length_append, List.length_replicate, List.length_cons, List.length_set, List.length_nil, u32_get, u32_mid, set_mid, i64_get, chk_i64, hx, w64_mul, hc1, take_i64, List.take_length, i64_snoc, i64L_length] at hb
    simp only [List.length_append, List.length_singleton]
    apply hb <;> first | exact True.intro | omega | assumption
theorem tm_done {nt : Nat} (hn : 35 ≤ nt) (a o : List Nat) (na : Bool) (d c : Nat) : ExecOk Tryz.prog ap [] nt (loopBody 0 (bodyOf Tryz.f127)) (tmSt a na d (a.length, c, o)) (.exit 0) (tmOut (c, o)) := by
  unfold tmSt tmOut
  rcases Decidable.em (o = []) with rfl | hne
  · have hb := rtmN_1 hn a [] na d c a.length (by rw [d_lt]; simp [lit])
    exact hb
  · have hb := rtmC_1 hn a o na d c a.length (by rw [d_lt]; simp [lit])
    rw [apE_ne hne, apH_ne hne]
    exact hb
theorem tm_loop {nt : Nat} (hn : 35 ≤ nt) (a : List Nat) (na : Bool) (d : Nat) (hd : d < 16777216) (ha : a.length < 2 ^ 40) (hla : LimQ a) : ∀ (l p o : List Nat) (c : Nat), p ++ l = a → o.length = p.length → c < 16777216 →
    LoopR Tryz.prog ap [] nt (loopBody 0 (bodyOf Tryz.f127)) (fun _ => .exit 0) (tmSt a na d) tmOut (p.length, c, o) ((tmL d l c).2, o ++ (tmL d l c).1) := by
  intro l
  induction l with
  | nil =>
    intro p o c h ho hc
    have hp : p = a := by simpa using h
    rw [hp]
    simp only [tmL, List.append_nil]
    exact .done (tm_done hn a o na d c)
  | cons x l ih =>
    intro p o c h ho hc
    have hl : p.length + (l.length + 1) = a.length := by rw [← h]; simp
    have hx : x < 16777216 := hla x (by rw [← h]; simp)
    have hg : a.getD p.length 0 = x := by rw [← h]; simp
    obtain ⟨b1, b2, b3⟩ := tm_bound hd hx hc
    have hnext := ih (p ++ [x]) (o ++ [(x * d + c) % 16777216]) ((x * d + c) / 16777216) (by simp [h]) (by simp [ho]) b2
    rw [List.length_append, List.length_singleton, List.append_assoc] at hnext
    exact .next (tm_step hn a o na d c p.length x ha (by omega) ho hg b1 b3) hnext
theorem times_ok (x d : Nat) (na : Bool) (hd : d < 16777216) (hx : (digQ x).length < 2 ^ 36) : CO 127 [.sl (i64L (digQ x)) (digQ x).length na, .int .i64 ((d : Nat) : Int)] (.ret (.sl (i64L (digQ (x * d))) (digQ (x * d)).length true)) := by
  obtain ⟨t1, t2, t3, t4⟩ := tmL_val hd (digQ x) 0 (by omega) (LimQ.dig x)
  have hloop := fun nt (hn : 35 ≤ nt) => tm_loop hn (digQ x) na d hd (by omega) (LimQ.dig x) (digQ x) [] [] 0 rfl rfl (by omega)
  generalize hr : tmL d (digQ x) 0 = r at *
  obtain ⟨o, c⟩ := r
  simp only [List.nil_append, List.length_nil] at hloop t1 t2 t3 t4
  rw [valQ_digQ, Nat.add_zero] at t4
  have hv : valQ (o ++ [c]) = x * d := by rw [valQ_app, t3]; simp only [valQ]; omega
  have ht := rtrim_ok (o ++ [c]) true (by simp; omega)
  rw [trimQ (LimQ.app t2 (LimQ.cons t1 LimQ.nil)), hv] at ht
  rcases Decidable.em (o = []) with rfl | hne
  · have h := rtmNF_0 (digQ x) [] (digQ (x * d)) na d c
    apply h
    · exact LoopR.blk hloop (by simp) rfl (Less.of ⟨rfl, rfl, rfl, rfl, rfl, trivial⟩) (Less.of ⟨rfl, rfl, trivial⟩)
    · exact ht
  · have h := rtmCF_0 (digQ x) o (digQ (x * d)) na d c
    have hol : o.length < 2 ^ 37 := by omega
    have htk : List.take (o.length + 1) (i64L (o ++ [c])) = i64L (o ++ [c]) := by
      rw [take_i64, List.take_of_length_le (by simp)]
    simp (disch := first | omega | (simp only [List.length_append, List.length_replicate, List.length_cons, List.length_nil, List.length_reverse, List.length_map, u32L_length, u8L_length, List.length_take, List.length_drop, List.length_set] <;> omega)) only [c_add, c_mul, c_tdiv, c_tmod, c_shl, c_shr, c_toNat, w64_nat, w64_sub, w8u, w32u, w64u, w64u_sub, w32u_sub, or64, or32, and64, and_mask32, andI, orI, min_b64, min_b32, min_bi, min_l, p_32, p_63, Nat.mod_eq_of_lt, chk_u32, toInt_int, d_le, d_lt, b_eq, d_eq, nble_d, nbeq_d, lit_t, lit_f, not_t, dec_t, dec_f, Nat.zero_add, Nat.mul_one, u32L_length, List.length_append, List.length_replicate, List.length_cons, List.length_set, List.length_nil, u32_get, u32_mid, set_mid, take_i64, List.take_length, i64_snoc, i64L_length] at h
    rw [List.length_append, List.length_singleton] at ht
    rw [← take_i64] at h
    rw [htk] at h
    apply h <;> first | exact True.intro | omega | assumption | skip
    · exact LoopR.blk hloop (by simp) rfl (Less.of ⟨rfl, rfl, rfl, rfl, rfl, trivial⟩) (by unfold tmOut; rw [apE_ne hne, apH_ne hne]; exact Less.of ⟨rfl, rfl, trivial⟩)
end Go.Proofs.Tryz

set_option maxRecDepth 100000
open Go AM
namespace Go.Proofs.Tryz
def miL : List Nat → List Nat → Nat → List Nat × Nat
  | [], _, c => ([], c)
  | x :: u, v, c => ((if x < v.headD 0 + c then x + 16777216 - (v.headD 0 + c) else x - (v.headD 0 + c)) :: (miL u v.tail (if x < v.headD 0 + c then 1 else 0)).1, (miL u v.tail (if x < v.headD 0 + c then 1 else 0)).2)
theorem headQ {v : List Nat} (h : LimQ v) : v.headD 0 < 16777216 := by cases v with | nil => show 0 < 16777216; omega | cons d l => exact h.head
theorem tailQ {v : List Nat} (h : LimQ v) : LimQ v.tail := by cases v with | nil => exact h | cons d l => exact h.tail
theorem valQ_head (v : List Nat) : valQ v = v.headD 0 + 16777216 * valQ v.tail := by cases v with | nil => rfl | cons d l => rfl
theorem miL_val (u : List Nat) : ∀ (v : List Nat) (c : Nat), c ≤ 1 → LimQ u → LimQ v → v.length ≤ u.length → (miL u v c).2 ≤ 1 ∧ LimQ (miL u v c).1 ∧ (miL u v c).1.length = u.length ∧ valQ (miL u v c).1 + valQ v + c = valQ u + 16777216 ^ u.length * (miL u v c).2 := by
  induction u with
  | nil =>
    intro v c hc _ _ hl
    have : v = [] := List.eq_nil_of_length_eq_zero (by simpa using hl)
    subst this
    exact ⟨hc, LimQ.nil, rfl, by simp [miL, valQ]⟩
  | cons x u ih =>
    intro v c hc hu hv hl
    have hx := hu.head
    have hy := headQ hv
    have hvl : v.tail.length ≤ u.length := by simp at hl ⊢; omega
    obtain ⟨i1, i2, i3, i4⟩ := ih v.tail (if x < v.headD 0 + c then 1 else 0) (by split <;> omega) hu.tail (tailQ hv) hvl
    simp only [miL]
    refine ⟨i1, LimQ.cons (by split <;> omega) i2, by rw [List.length_cons, i3, List.length_cons], ?_⟩
    rw [valQ_head v]
    simp only [valQ, List.length_cons, Nat.pow_succ]
    rw [Nat.mul_comm (16777216 ^ u.length), Nat.mul_assoc]
    generalize miL u v.tail (if x < v.headD 0 + c then 1 else 0) = r at *
    split at i4 <;> rename_i h1
    · rw [if_pos h1]; omega
    · rw [if_neg h1]; omega
def miSt (a b : List Nat) (na nb : Bool) (p : Nat × Nat × List Nat) : St := { env := [(0, .sl (i64L a) a.length na), (1, .sl (i64L b) b.length nb), (6, .int .i64 ((p.2.1 : Nat) : Int)), (7, .int .i64 ((p.1 : Nat) : Int)), (5, apE p.2.2)], hp := apH p.2.2, md := .dead, dfs := [] }
def miOut (p : Nat × List Nat) : St := { env := [(5, apE p.2)], hp := apH p.2, md := .dead, dfs := [] }
theorem mi_step {nt : Nat} (hn : 41 ≤ nt) (a b o : List Nat) (na nb : Bool) (c k x y : Nat) (ha : a.length < 2 ^ 40) (hbl : b.length < 2 ^ 40) (hk : k < a.length) (ho : o.length = k) (hx : a.getD k 0 = x) (hy : b.getD k 0 = y) (hxl : x < 16777216) (hyl : y < 16777216) (hc : c ≤ 1) :
    ExecOk Tryz.prog ap [] nt (loopBody 0 (bodyOf Tryz.f126)) (miSt a b na nb (k, c, o)) .normal (miSt a b na nb (k + 1, if x < y + c then 1 else 0, o ++ [if x < y + c then x + 16777216 - (y + c) else x - (y + c)])) := by
  unfold miSt
  by_cases hkb : k < b.length <;> by_cases hlt : x < y + c <;> simp only [hlt, if_true, if_false]
  · have e1 : ((x : Int) - (c : Int) - (y : Int) + ((16777216 : Nat) : Int)) = ((x + 16777216 - (y + c) : Nat) : Int) := by omega
    rcases Decidable.em (o = []) with rfl | hne
    · have hb := rmiN_0 hn a b [] na nb c k
      simp (disch := first | omega | (simp only [List.length_append, List.length_replicate, List.length_cons, List.length_nil, List.length_reverse, List.length_map, u32L_length, u8L_length, List.length_take, List.length_drop, List.length_set] <;> omega)) only [c_add, c_mul, c_tdiv, c_tmod, c_shl, c_shr, c_toNat, w64_nat, w64_sub, w8u, w32u, w64u, w64u_sub, w32u_sub, or64, or32, and64, and_mask32, andI, orI, min_b64, min_b32, min_bi, min_l, p_32, p_63, Nat.mod_eq_of_lt, chk_u32, toInt_int, d_le, d_lt, b_eq, d_eq, nble_d, nbeq_d, lit_t, lit_f, not_t, dec_t, dec_f, Nat.zero_add, Nat.mul_one, u32L_length, List.length_append, List.length_replicate, List.length_cons, List.length_set, List.length_nil, u32_get, u32_mid, set_mid, i64_get, chk_i64, hx, hy, w64_id, Nat.not_lt] at hb
      rw [e1] at hb
      simp only [List.nil_append, apE, apH, i64L, List.map_cons, List.map_nil, List.length_cons, List.length_nil] at hb ⊢
      apply hb <;> first | exact True.intro | omega | assumption
    · have hb := rmiC_0 hn a b o na nb c k
      rw [apE_ne hne, apH_ne hne, apE_ne (snoc_ne _ _), apH_ne (snoc_ne _ _)]
      simp (disch := first | omega | (simp only [List.length_append, List.length_replicate, List.length_cons, List.length_nil, List.length_reverse, List.length_map, u32L_length, u8L_length, List.length_take, List.length_drop, List.length_set] <;> omega)) only [c_add, c_mul, c_tdiv, c_tmod, c_shl, c_shr, c_toNat, w64_nat, w64_sub, w8u, w32u, w64u, w64u_sub, w32u_sub, or64, or32, and64, and_mask32, andI, orI, min_b64, min_b32, min_bi, min_l, p_32, p_63, Nat.mod_eq_of_lt, chk_u32, toInt_int, d_le, d_lt, b_eq, d_eq, nble_d, nbeq_d, lit_t, lit_f, not_t, dec_t, dec_f, Nat.zero_add, Nat.mul_one, u32L_length, List.length_append, List.length_replicate, List.length_cons, List.length_set, List.length_nil, u32_get, u32_mid, set_mid, i64_get, chk_i64, hx, hy, w64_id, Nat.not_lt] at hb
      rw [e1] at hb
      simp (disch := first | omega | (simp only [List.length_append, List.length_replicate, List.length_cons, List.length_nil, List.length_reverse, List.length_map, u32L_length, u8L_length, List.length_take, List.length_drop, List.length_set] <;> omega)) only [c_add, c_mul, c_tdiv, c_tmod, c_shl, c_shr, c_toNat, w64_nat, w64_sub, w8u, w32u, w64u, w64u_sub, w32u_sub, or64, or32, and64, and_mask32, andI, orI, min_b64, min_b32, min_bi, min_l, p_32, p_63, Nat.mod_eq_of_lt, chk_u32, toInt_int, d_le, d_lt, b_eq, d_eq, nble_d, nbeq_d, lit_t, lit_f, not_t, dec_t, dec_f, Nat.zero_add, Nat.mul_one, u32L_length, List.length_append, List.length_replicate, List.length_cons, List.length_set, List.length_nil, u32_get, u32_mid, set_mid, take_i64, List.take_length, i64_snoc, i64L_length] at hb
      simp only [List.length_append, List.length_singleton]
      apply hb <;> first | exact True.intro | omega | assumption
  · have e1 : ((x : Int) - (c : Int) - (y : Int)) = ((x - (y + c) : Nat) : Int) := by omega
    rcases Decidable.em (o = []) with rfl | hne
    · have hb := rmiN_1 hn a b [] na nb c k
      simp (disch := first | omega | (simp only [List.length_append, List.length_replicate, List.length_cons, List.length_nil, List.length_reverse, List.length_map, u32L_length, u8L_length, List.length_take, List.length_drop, List.length_set] <;> omega)) only [c_add, c_mul, c_tdiv, c_tmod, c_shl, c_shr, c_toNat, w64_nat, w64_sub, w8u, w32u, w64u, w64u_sub, w32u_sub, or64, or32, and64, and_mask32, andI, orI, min_b64, min_b32, min_bi, min_l, p_32, p_63, Nat.mod_eq_of_lt, chk_u32, toInt_int, d_le, d_lt, b_eq, d_eq, nble_d, nbeq_d, lit_t, lit_f, not_t, dec_t, dec_f, Nat.zero_add, Nat.mul_one, u32L_length, List.length_append, List.length_replicate, List.length_cons, List.length_set, List.length_nil, u32_get, u32_mid, set_mid, i64_get, chk_i64, hx, hy, w64_id, Nat.not_lt] at hb
      rw [e1] at hb
      simp only [List.nil_append, apE, apH, i64L, List.map_cons, List.map_nil, List.length_cons, List.length_nil] at hb ⊢
      apply hb <;> first | exact True.intro | omega | assumption
    · have hb := rmiC_1 hn a b o na nb c k
      rw [apE_ne hne, apH_ne hne, apE_ne (snoc_ne _ _), apH_ne (snoc_ne _ _)]
      simp (disch := first | omega | (simp only [List.length_append, List.length_replicate, List.length_cons, List.length_nil, List.length_reverse, List.length_map, u32L_length, u8L_length, List.length_take, List.length_drop, List.length_set] <;> omega)) only [c_add, c_mul, c_tdiv, c_tmod, c_shl, c_shr, c_toNat, w64_nat, w64_sub, w8u, w32u, w64u, w64u_sub, w32u_sub, or64, or32, and64, and_mask32, andI, orI, min_b64, min_b32, min_bi, min_l, p_32, p_63, Nat.mod_eq_of_lt, chk_u32, toInt_int, d_le, d_lt, b_eq, d_eq, nble_d, nbeq_d, lit_t, lit_f, not_t, dec_t, dec_f, Nat.zero_add, Nat.mul_one, u32L_length, List.length_append, List.length_replicate, List.length_cons, List.length_set, List.length_nil, u32_get, u32_mid, set_mid, i64_get, chk_i64, hx, hy, w64_id, Nat.not_lt] at hb
      rw [e1] at hb
      simp (disch := first | omega | (simp only [List.length_append, List.length_replicate, List.length_cons, List.length_nil, List.length_reverse, List.length_map, u32L_length, u8L_length, List.length_take, List.length_drop, List.length_set] <;> omega)) only [c_add, c_mul, c_tdiv, c_tmod, c_shl, c_shr, c_toNat, w64_nat, w64_sub, w8u, w32u, w64u, w64u_sub, w32u_sub, or64, or32, and64, and_mask32, andI, orI, min_b64, min_b32, min_bi, min_l, p_32, p_63, Nat.mod_eq_of_lt, chk_u32, toInt_int, d_le, d_lt, b_eq, d_eq, nble_d, nbeq_d, lit_t, lit_f, not_t, dec_t, dec_f, Nat.zero_add, Nat.mul_one, u32L_length, List.length_append, List.length_replicate, List.length_cons, List.length_set, List.length_nil, u32_get, u32_mid, set_mid, take_i64, List.take_length, i64_snoc, i64L_length] at hb
      simp only [List.length_append, List.length_singleton]
      apply hb <;> first | exact True.intro | omega | assumption
  · have hy0 : y = 0 := by rw [← hy, List.getD_eq_getElem?_getD, List.getElem?_eq_none (by omega)]; rfl
    have e1 : ((x : Int) - (c : Int) + ((16777216 : Nat) : Int)) = ((x + 16777216 - (y + c) : Nat) : Int) := by omega
    rcases Decidable.em (o = []) with rfl | hne
    · have hb := rmiN_2 hn a b [] na nb c k
      simp (disch := first | omega | (simp only [List.length_append, List.length_replicate, List.length_cons, List.length_nil, List.length_reverse, List.length_map, u32L_length, u8L_length, List.length_take, List.length_drop, List.length_set] <;> omega)) only [c_add, c_mul, c_tdiv, c_tmod, c_shl, c_shr, c_toNat, w64_nat, w64_sub, w8u, w32u, w64u, w64u_sub, w32u_sub, or64, or32, and64, and_mask32, andI, orI, min_b64, min_b32, min_bi, min_l, p_32, p_63, Nat.mod_eq_of_lt, chk_u32, toInt_int, d_le, d_lt, b_eq, d_eq, nble_d, nbeq_d, lit_t, lit_f, not_t, dec_t, dec_f, Nat.zero_add, Nat.mul_one, u32L_length, List.length_append, List.length_replicate, List.length_cons, List.length_set, List.length_nil, u32_get, u32_mid, set_mid, i64_get, chk_i64, hx, hy, w64_id, Nat.not_lt] at hb
      rw [e1] at hb
      simp only [List.nil_append, apE, apH, i64L, List.map_cons, List.map_nil, List.length_cons, List.length_nil] at hb ⊢
      apply hb <;> first | exact True.intro | omega | assumption
    · have hb := rmiC_2 hn a b o na nb c k
      rw [apE_ne hne, apH_ne hne, apE_ne (snoc_ne _ _), apH_ne (snoc_ne _ _)]
      simp (disch := first | omega | (simp only [List.length_append, List.length_replicate, List.length_cons, List.length_nil, List.length_reverse, List.length_map, u32L_length, u8L_length, List.length_take, List.length_drop, List.length_set] <;> omega)) only [c_add, c_mul, c_tdiv, c_tmod, c_shl, c_shr, c_toNat, w64_nat, w64_sub, w8u, w32u, w64u, w64u_sub, w32u_sub, or64, or32, and64, and_mask32, andI, orI, min_b64, min_b32, min_bi, min_l, p_32, p_63, Nat.mod_eq_of_lt, chk_u32, toInt_int, d_le, d_lt, b_eq, d_eq, nble_d, nbeq_d, lit_t, lit_f, not_t, dec_t, dec_f, Nat.zero_add, Nat.mul_one, u32L_length, List.length_append, List.length_replicate, List.length_cons, List.length_set, List.length_nil, u32_get, u32_mid, set_mid, i64_get, chk_i64, hx, hy, w64_id, Nat.not_lt] at hb
      rw [e1] at hb
      simp (disch := first | omega | (simp only [List.length_append, List.length_replicate, List.length_cons, List.length_nil, List.length_reverse, List.length_map, u32L_length, u8L_length, List.length_take, List.length_drop, List.length_set] <;> omega)) only [c_add, c_mul, c_tdiv, c_tmod, c_shl, c_shr, c_toNat, w64_nat, w64_sub, w8u, w32u, w64u, w64u_sub, w32u_sub, or64, or32, and64, and_mask32, andI, orI, min_b64, min_b32, min_bi, min_l, p_32, p_63, Nat.mod_eq_of_lt, chk_u32, toInt_int, d_le, d_lt, b_eq, d_eq, nble_d, nbeq_d, lit_t, lit_f, not_t, dec_t, dec_f, Nat.zero_add, Nat.mul_one, u32L_length, List.length_append, List.length_replicate, List.length_cons, List.length_set, List.length_nil, u32_get, u32_mid, set_mid, take_i64, List.take_length, i64_snoc, i64L_length] at hb
      simp only [List.length_append, List.length_singleton]
      apply hb <;> first | exact True.intro | omega | assumption
  · have hy0 : y = 0 := by rw [← hy, List.getD_eq_getElem?_getD, List.getElem?_eq_none (by omega)]; rfl
    have e1 : ((x : Int) - (c : Int)) = ((x - (y + c) : Nat) : Int) := by omega
    rcases Decidable.em (o = []) with rfl | hne
    · have hb := rmiN_3 hn a b [] na nb c k
      simp (disch := first | omega | (simp only [List.length_append, List.length_replicate, List.length_cons, List.length_nil, List.length_reverse, List.length_map, u32L_length, u8L_length, List.length_take, List.length_drop, List.length_set] <;> omega)) only [c_add, c_mul, c_tdiv, c_tmod, c_shl, c_shr, c_toNat, w64_nat, w64_sub, w8u, w32u, w64u, w64u_sub, w32u_sub, or64, or32, and64, and_mask32, andI, orI, min_b64, min_b32, min_bi, min_l, p_32, p_63, Nat.mod_eq_of_lt, chk_u32, toInt_int, d_le, d_lt, b_eq, d_eq, nble_d, nbeq_d, lit_t, lit_f, not_t, dec_t, dec_f, Nat.zero_add, Nat.mul_one, u32L_length, List.length_append, List.length_replicate, List.length_cons, List.length_set, List.length_nil, u32_get, u32_mid, set_mid, i64_get, chk_i64, hx, hy, w64_id, Nat.not_lt] at hb
      rw [e1] at hb
      simp only [List.nil_append, apE, apH, i64L, List.map_cons, List.map_nil, List.length_cons, List.length_nil] at hb ⊢
      apply hb <;> first | exact True.intro | omega | assumption
    · have hb := rmiC_3 hn a b o na nb c k
      rw [apE_ne hne, apH_ne hne, apE_ne (snoc_ne _ _), apH_ne (snoc_ne _ _)]
      simp (disch := first | omega | (simp only [List.length_append, List.length_replicate, List.length_cons, List.length_nil, List.length_reverse, List.length_map, u32L_length, u8L_length, List.length_take, List.length_drop, List.length_set] <;> omega)) only [c_add, c_mul, c_tdiv, c_tmod, c_shl, c_shr, c_toNat, w64_nat, w64_sub, w8u, w32u, w64u, w64u_sub, w32u_sub, or64, or32, and64, and_mask32, andI, orI, min_b64, min_b32, min_bi, min_l, p_32, p_63, Nat.mod_eq_of_lt, chk_u32, toInt_int, d_le, d_lt, b_eq, d_eq, nble_d, nbeq_d, lit_t, lit_f, not_t, dec_t, dec_f, Nat.zero_add, Nat.mul_one, u32L_length, List.length_append, List.length_replicate, List.length_cons, List.length_set, List.length_nil, u32_get, u32_mid, set_mid, i64_get, chk_i64, hx, hy, w64_id, Nat.not_lt] at hb
      rw [e1] at hb
      simp (disch := first | omega | (simp only [List.length_append, List.length_replicate, List.length_cons, List.length_nil, List.length_reverse, List.length_map, u32L_length, u8L_length, List.length_take, List.length_drop, List.length_set] <;> omega)) only [c_add, c_mul, c_tdiv, c_tmod, c_shl, c_shr, c_toNat, w64_nat, w64_sub, w8u, w32u, w64u, w64u_sub, w32u_sub, or64, or32, and64, and_mask32, andI, orI, min_b64, min_b32, min_bi, min_l, p_32, p_63, Nat.mod_eq_of_lt, chk_u32, toInt_int, d_le, d_lt, b_eq, d_eq, nble_d, nbeq_d, lit_t, lit_f, not_t, dec_t, dec_f, Nat.zero_add, Nat.mul_one, u32L_length, List.length_append, List.length_replicate, List.length_cons, List.length_set, List.length_nil, u32_get, u32_mid, set_mid, take_i64, List.take_length, i64_snoc, i64L_length] at hb
      simp only [List.length_append, List.length_singleton]
      apply hb <;> first | exact True.intro | omega | assumption
theorem mi_done {nt : Nat} (hn : 41 ≤ nt) (a b o : List Nat) (na nb : Bool) (c : Nat) : ExecOk Tryz.prog ap [] nt (loopBody 0 (bodyOf Tryz.f126)) (miSt a b na nb (a.length, c, o)) (.exit 0) (miOut (c, o)) := by
  unfold miSt miOut
  rcases Decidable.em (o = []) with rfl | hne
  · exact rmiN_4 hn a b [] na nb c a.length (by rw [d_lt]; simp [lit])
  · have hb := rmiC_4 hn a b o na nb c a.length (by rw [d_lt]; simp [lit])
    rw [apE_ne hne, apH_ne hne]
    exact hb
theorem mi_loop {nt : Nat} (hn : 41 ≤ nt) (a b : List Nat) (na nb : Bool) (ha : a.length < 2 ^ 40) (hbl : b.length < 2 ^ 40) (hla : LimQ a) (hlb : LimQ b) : ∀ (l p o : List Nat) (c : Nat), p ++ l = a → o.length = p.length → c ≤ 1 →
    LoopR Tryz.prog ap [] nt (loopBody 0 (bodyOf Tryz.f126)) (fun _ => .exit 0) (miSt a b na nb) miOut (p.length, c, o) ((miL l (b.drop p.length) c).2, o ++ (miL l (b.drop p.length) c).1) := by
  intro l
  induction l with
  | nil =>
    intro p o c h ho hc
    have hp : p = a := by simpa using h
    rw [hp]
    simp only [miL, List.append_nil]
    exact .done (mi_done hn a b o na nb c)
  | cons x l ih =>
    intro p o c h ho hc
    have hl : p.length + (l.length + 1) = a.length := by rw [← h]; simp
    have hx : x < 16777216 := hla x (by rw [← h]; simp)
    have hg : a.getD p.length 0 = x := by rw [← h]; simp
    have hy : (b.drop p.length).headD 0 = b.getD p.length 0 := by
      rw [List.headD_eq_head?_getD, List.head?_drop, List.getD_eq_getElem?_getD]
    have htl : (b.drop p.length).tail = b.drop (p.length + 1) := by rw [List.tail_drop]
    have hnext := ih (p ++ [x]) (o ++ [if x < b.getD p.length 0 + c then x + 16777216 - (b.getD p.length 0 + c) else x - (b.getD p.length 0 + c)]) (if x < b.getD p.length 0 + c then 1 else 0) (by simp [h]) (by simp [ho]) (by split <;> omega)
    rw [List.length_append, List.length_singleton, List.append_assoc] at hnext
    simp only [miL]
    rw [hy, htl]
    exact .next (mi_step hn a b o na nb c p.length x _ ha hbl (by omega) ho hg rfl hx (hlb.getD _) hc) hnext
theorem minus_ok (x y : Nat) (na nb : Bool) (h : y ≤ x) (hx : (digQ x).length < 2 ^ 36) : CO 126 [.sl (i64L (digQ x)) (digQ x).length na, .sl (i64L (digQ y)) (digQ y).length nb] (.ret (.sl (i64L (digQ (x - y))) (digQ (x - y)).length false)) := by
  have hm := digQ_mono h
  obtain ⟨t1, t2, t3, t4⟩ := miL_val (digQ x) (digQ y) 0 (by omega) (LimQ.dig x) (LimQ.dig y) hm
  have hloop := fun nt (hn : 41 ≤ nt) => mi_loop hn (digQ x) (digQ y) na nb (by omega) (by omega) (LimQ.dig x) (LimQ.dig y) (digQ x) [] [] 0 rfl rfl (by omega)
  rw [List.length_nil, List.drop_zero] at hloop
  generalize hr : miL (digQ x) (digQ y) 0 = r at *
  obtain ⟨o, c⟩ := r
  simp only [List.nil_append] at hloop t1 t2 t3 t4
  rw [valQ_digQ, valQ_digQ, Nat.add_zero] at t4
  have hlt := valQ_lt t2
  have hc : c = 0 := by
    rcases Nat.eq_zero_or_pos c with h0 | h0
    · exact h0
    · have h1 : c = 1 := by omega
      have h2 := digQ_lt y
      have h3 := Nat.pow_le_pow_right (show 0 < 16777216 by omega) hm
      rw [h1, Nat.mul_one] at t4
      rw [t3] at hlt
      omega
  subst hc
  have hv : valQ o = x - y := by rw [Nat.mul_zero] at t4; omega
  have ht := rtrim_ok o true (by omega)
  rw [trimQ t2, hv] at ht
  rcases Decidable.em (o = []) with rfl | hne
  · have h := rmiNF_0 (digQ x) (digQ y) [] (digQ (x - y)) na nb
    have ht0 := rtrim_ok [] false (by simp)
    rw [trimQ LimQ.nil, hv] at ht0
    apply h
    · exact LoopR.blk hloop (by simp) rfl (Less.of ⟨rfl, rfl, rfl, rfl, rfl, trivial⟩) (Less.of ⟨rfl, trivial⟩)
    · exact ht0.args (FitsL.cons (Fits.nilS false rfl) FitsL.nil)
  · have h := rmiCF_0 (digQ x) (digQ y) o (digQ (x - y)) na nb
    rw [Nat.mul_one, take_i64, List.take_length] at h
    apply h
    · exact LoopR.blk hloop (by simp) rfl (Less.of ⟨rfl, rfl, rfl, rfl, rfl, trivial⟩) (by unfold miOut; rw [apE_ne hne, apH_ne hne]; exact Less.of ⟨rfl, trivial⟩)
    · exact ht.out (OutLe.sl1 _ _ _)
end Go.Proofs.Tryz

set_option maxRecDepth 100000
open Go AM
namespace Go.Proofs.Tryz
/-- Where two lists of digits differ first, from above: the difference. -/
def cqO (a b : List Nat) : Nat → Option Int
  | 0 => none
  | k + 1 => if a.getD k 0 = b.getD k 0 then cqO a b k else some ((a.getD k 0 : Int) - (b.getD k 0 : Int))
def cmpQ (a b : List Nat) : Int := if a.length = b.length then (cqO a b a.length).getD 0 else (a.length : Int) - (b.length : Int)
theorem valQ_take_succ {l : List Nat} {k : Nat} (h : k < l.length) : valQ (l.take (k + 1)) = valQ (l.take k) + 16777216 ^ k * l.getD k 0 := by
  rw [List.take_add_one, valQ_app, List.getElem?_eq_getElem h, List.length_take, Nat.min_eq_left (by omega), List.getD_eq_getElem?_getD, List.getElem?_eq_getElem h]
  simp [valQ]
theorem cqO_spec {a b : List Nat} (hl : a.length = b.length) (ha : LimQ a) (hb : LimQ b) : ∀ k, k ≤ a.length → (0 ≤ (cqO a b k).getD 0 ↔ valQ (b.take k) ≤ valQ (a.take k)) ∧ ((cqO a b k).getD 0 ≤ 0 ↔ valQ (a.take k) ≤ valQ (b.take k))
  | 0, _ => by simp [cqO]
  | k + 1, h => by
    obtain ⟨h1, h2⟩ := cqO_spec hl ha hb k (by omega)
    rw [valQ_take_succ (l := a) (by omega), valQ_take_succ (l := b) (by omega)]
    have ta := valQ_lt (ha.take k)
    have tb := valQ_lt (hb.take k)
    rw [List.length_take, Nat.min_eq_left (by omega)] at ta tb
    simp only [cqO]
    by_cases he : a.getD k 0 = b.getD k 0
    · rw [if_pos he, he]
      exact ⟨h1.trans (by omega), h2.trans (by omega)⟩
    · rw [if_neg he]
      simp only [Option.getD_some]
      generalize a.getD k 0 = x at *
      generalize b.getD k 0 = y at *
      generalize valQ (List.take k a) = u at *
      generalize valQ (List.take k b) = v at *
      generalize 16777216 ^ k = M at *
      rcases Nat.lt_or_ge x y with hlt | hge
      · have h3 : M * (x + 1) ≤ M * y := Nat.mul_le_mul_left _ hlt
        rw [Nat.mul_add, Nat.mul_one] at h3
        constructor <;> constructor <;> intro <;> omega
      · have h3 : M * (y + 1) ≤ M * x := Nat.mul_le_mul_left _ (by omega)
        rw [Nat.mul_add, Nat.mul_one] at h3
        constructor <;> constructor <;> intro <;> omega
theorem cmpQ_spec (x y : Nat) : (0 ≤ cmpQ (digQ x) (digQ y) ↔ y ≤ x) ∧ (cmpQ (digQ x) (digQ y) ≤ 0 ↔ x ≤ y) := by
  unfold cmpQ
  by_cases h : (digQ x).length = (digQ y).length
  · rw [if_pos h]
    have := cqO_spec h (LimQ.dig x) (LimQ.dig y) _ (Nat.le_refl _)
    rw [List.take_length, h, List.take_length, valQ_digQ, valQ_digQ] at this
    rw [h]; exact this
  · rw [if_neg h]
    rcases Nat.lt_or_ge (digQ x).length (digQ y).length with h1 | h1
    · have h2 : ¬ y ≤ x := fun hle => by have := digQ_mono hle; omega
      constructor <;> constructor <;> intro <;> omega
    · have h2 : ¬ x ≤ y := fun hle => by have := digQ_mono hle; omega
      constructor <;> constructor <;> intro <;> omega
def cqSt (a b : List Nat) (na nb : Bool) (k : Nat) : St := { env := [(0, .sl (i64L a) a.length na), (1, .sl (i64L b) b.length nb), (5, .int .i64 (((k : Nat) : Int) - 1))], hp := [], md := .dead, dfs := [] }
def cqOut : Option Int → St
  | none => { env := [], hp := [], md := .dead, dfs := [] }
  | some c => { env := [(4, .int .i64 c)], hp := [], md := .dead, dfs := [] }
def cqE : Option Int → AExit
  | none => .exit 0
  | some _ => .ret
theorem cq_loop {nt : Nat} (hn : 41 ≤ nt) (a b : List Nat) (na nb : Bool) (hl : a.length = b.length) (hla : LimQ a) (hlb : LimQ b) (ha : a.length < 2 ^ 40) : ∀ k, k ≤ a.length → LoopR Tryz.prog ap [] nt (loopBody 0 (bodyOf Tryz.f124)) cqE (cqSt a b na nb) cqOut k (cqO a b k) := by
  intro k
  induction k with
  | zero => exact fun _ => .done (rcmE_0 hn a b na nb)
  | succ k ih =>
    intro hk
    have hxa := hla.getD k
    have hxb := hlb.getD k
    have ek : (((k + 1 : Nat) : Int) - 1) = (k : Int) := by omega
    have ew : IntKind.wrap .i64 ((k : Int) - ((1 : Nat) : Int)) = (k : Int) - 1 := w64_id (by omega) (by omega)
    have ed : IntKind.wrap .i64 (((a.getD k 0 : Nat) : Int) - ((b.getD k 0 : Nat) : Int)) = ((a.getD k 0 : Nat) : Int) - ((b.getD k 0 : Nat) : Int) := w64_id (by omega) (by omega)
    simp only [cqO]
    by_cases he : a.getD k 0 = b.getD k 0
    · rw [if_pos he]
      refine .next ?_ (ih (by omega))
      unfold cqSt
      rw [ek]
      first
        | (have hb := rcm_1 hn a b na nb k
           simp (disch := first | omega | (simp only [List.length_append, List.length_replicate, List.length_cons, List.length_nil, List.length_reverse, List.length_map, u32L_length, u8L_length, List.length_take, List.length_drop, List.length_set] <;> omega)) only [c_add, c_mul, c_tdiv, c_tmod, c_shl, c_shr, c_toNat, w64_nat, w64_sub, w8u, w32u, w64u, w64u_sub, w32u_sub, or64, or32, and64, and_mask32, andI, orI, min_b64, min_b32, min_bi, min_l, p_32, p_63, Nat.mod_eq_of_lt, chk_u32, toInt_int, d_le, d_lt, b_eq, d_eq, nble_d, nbeq_d, lit_t, lit_f, not_t, dec_t, dec_f, Nat.zero_add, Nat.mul_one, u32L_length, List.length_append, List.length_replicate, List.length_cons, List.length_set, List.length_nil, u32_get, u32_mid, set_mid, decide_true, decide_false, Bool.not_true, Bool.not_false, not_false_eq_true, not_true_eq_false, i64_get, chk_i64, ew, he] at hb
           apply hb <;> first | exact True.intro | omega | assumption)
    · rw [if_neg he]
      refine .done ?_
      unfold cqSt
      rw [ek]
      have hb := rcm_0 hn a b na nb k
      simp (disch := first | omega | (simp only [List.length_append, List.length_replicate, List.length_cons, List.length_nil, List.length_reverse, List.length_map, u32L_length, u8L_length, List.length_take, List.length_drop, List.length_set] <;> omega)) only [c_add, c_mul, c_tdiv, c_tmod, c_shl, c_shr, c_toNat, w64_nat, w64_sub, w8u, w32u, w64u, w64u_sub, w32u_sub, or64, or32, and64, and_mask32, andI, orI, min_b64, min_b32, min_bi, min_l, p_32, p_63, Nat.mod_eq_of_lt, chk_u32, toInt_int, d_le, d_lt, b_eq, d_eq, nble_d, nbeq_d, lit_t, lit_f, not_t, dec_t, dec_f, Nat.zero_add, Nat.mul_one, u32L_length, List.length_append, List.length_replicate, List.length_cons, List.length_set, List.length_nil, u32_get, u32_mid, set_mid, decide_true, decide_false, Bool.not_true, Bool.not_false, not_false_eq_true, not_true_eq_false, i64_get, chk_i64, ed, he] at hb
      apply hb <;> first | exact True.intro | omega | assumption
theorem rcmp_ok (a b : List Nat) (na nb : Bool) (hla : LimQ a) (hlb : LimQ b) (ha : a.length < 2 ^ 40) (hbl : b.length < 2 ^ 40) : CO 124 [.sl (i64L a) a.length na, .sl (i64L b) b.length nb] (.ret (.int .i64 (cmpQ a b))) := by
  unfold cmpQ
  by_cases hl : a.length = b.length
  · rw [if_pos hl]
    have hloop := fun nt (hn : 41 ≤ nt) => cq_loop hn a b na nb hl hla hlb ha a.length (Nat.le_refl _)
    have ew : IntKind.wrap .i64 (((a.length : Nat) : Int) - ((1 : Nat) : Int)) = (a.length : Int) - 1 := len_pr ha
    cases hc : cqO a b a.length with
    | none =>
      rw [hc] at hloop
      exact rcmF_1 a b na nb (by rw [hl]; simp [lit]) (LoopR.blk hloop (by simp [cqE]) rfl (Less.of ⟨rfl, rfl, congrArg _ ew, trivial⟩) (Less.of trivial))
    | some c =>
      rw [hc] at hloop
      exact rcmR_1 a b na nb c (by rw [hl]; simp [lit]) (LoopR.blk hloop (by simp [cqE]) rfl (Less.of ⟨rfl, rfl, congrArg _ ew, trivial⟩) (Less.of ⟨rfl, trivial⟩))
  · rw [if_neg hl]
    have h := rcmF_0 a b na nb
    have ed : IntKind.wrap .i64 (((a.length : Nat) : Int) - ((b.length : Nat) : Int)) = ((a.length : Nat) : Int) - ((b.length : Nat) : Int) := w64_id (by omega) (by omega)
    simp (disch := first | omega | (simp only [List.length_append, List.length_replicate, List.length_cons, List.length_nil, List.length_reverse, List.length_map, u32L_length, u8L_length, List.length_take, List.length_drop, List.length_set] <;> omega)) only [c_add, c_mul, c_tdiv, c_tmod, c_shl, c_shr, c_toNat, w64_nat, w64_sub, w8u, w32u, w64u, w64u_sub, w32u_sub, or64, or32, and64, and_mask32, andI, orI, min_b64, min_b32, min_bi, min_l, p_32, p_63, Nat.mod_eq_of_lt, chk_u32, toInt_int, d_le, d_lt, b_eq, d_eq, nble_d, nbeq_d, lit_t, lit_f, not_t, dec_t, dec_f, Nat.zero_add, Nat.mul_one, u32L_length, List.length_append, List.length_replicate, List.length_cons, List.length_set, List.length_nil, u32_get, u32_mid, set_mid, decide_true, decide_false, Bool.not_true, Bool.not_false, not_false_eq_true, not_true_eq_false, ed] at h
    apply h <;> first | exact True.intro | omega | assumption
end Go.Proofs.Tryz
