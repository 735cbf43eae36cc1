/- Contracts of functions that the law reaches, each by its own hypotheses; joined by a program of mine. -/
import Derived.Test.YtpjkeigmiooooaaGreatDoorU2
import Derived.Test.YtpjkeigmiooooaaGreatDoorM5
import Derived.Test.YtpjkeigmiooooaaGreatDoorU1
set_option linter.unusedSimpArgs false
set_option linter.unusedVariables false

set_option maxRecDepth 100000
open Go AM
namespace Go.Proofs.Tryz
theorem dig_0 {nt : Nat} (hn : 26 ≤ nt) (x y w lo hi : Nat) (c : Int) (na nb : Bool) (h0 : lit true (decide (c ≤ ((0 : Nat) : Int))) = true) (h1 : lit true (decide (((lo : Nat) : Int) < ((hi : Nat) : Int))) = true) (c0 : CallOk Tryz.prog ap 127 [.sl (i64L (digQ y)) (digQ y).length nb, .int .i64 (IntKind.wrap .i64 (Int.tdiv (IntKind.wrap .i64 ((IntKind.wrap .i64 (((lo : Nat) : Int) + ((hi : Nat) : Int))) + ((1 : Nat) : Int))) ((2 : Nat) : Int)))] [] (.ret (.sl (i64L (digQ w)) (digQ w).length true)) []) (c1 : CallOk Tryz.prog ap 124 [.sl (i64L (digQ w)) (digQ w).length true, .sl (i64L (digQ x)) (digQ x).length na] [] (.ret (.int .i64 c)) []) : ExecOk Tryz.prog ap [] nt (loopBody 0 (bodyOf Tryz.f125)) { env := [(0, .sl (i64L (digQ x)) (digQ x).length na), (1, .sl (i64L (digQ y)) (digQ y).length nb), (5, .int .i64 ((lo : Nat) : Int)), (6, .int .i64 ((hi : Nat) : Int))], hp := [], md := .dead, dfs := [] } (.normal) { env := [(0, .sl (i64L (digQ x)) (digQ x).length na), (1, .sl (i64L (digQ y)) (digQ y).length nb), (5, .int .i64 (IntKind.wrap .i64 (Int.tdiv (IntKind.wrap .i64 ((IntKind.wrap .i64 (((lo : Nat) : Int) + ((hi : Nat) : Int))) + ((1 : Nat) : Int))) ((2 : Nat) : Int)))), (6, .int .i64 ((hi : Nat) : Int))], hp := [], md := .dead, dfs := [] } :=
  ExecOk.weak (piece_ok good (lf := 3000) (n := 4) (keep := [0, 1, 4, 5, 6, 7, 10, 21]) (ls := []) (orc := [true, true]) (ans := [(.ret (.sl (i64L (digQ w)) (digQ w).length true), []), (.ret (.int .i64 c), [])]) (lps := []) (nt0 := 26) (s' := { env := [(0, .sl (i64L (digQ x)) (digQ x).length na), (1, .sl (i64L (digQ y)) (digQ y).length nb), (4, .dead), (5, .int .i64 (IntKind.wrap .i64 (Int.tdiv (IntKind.wrap .i64 ((IntKind.wrap .i64 (((lo : Nat) : Int) + ((hi : Nat) : Int))) + ((1 : Nat) : Int))) ((2 : Nat) : Int)))), (6, .int .i64 ((hi : Nat) : Int)), (7, .int .i64 (IntKind.wrap .i64 (Int.tdiv (IntKind.wrap .i64 ((IntKind.wrap .i64 (((lo : Nat) : Int) + ((hi : Nat) : Int))) + ((1 : Nat) : Int))) ((2 : Nat) : Int)))), (10, .bool (decide (((lo : Nat) : Int) < ((hi : Nat) : Int)))), (21, .bool (decide (c ≤ ((0 : Nat) : Int))))], hp := [], md := .dead, dfs := [] }) (by kernel_rfl) hn (.c h0 (.t (.c h1 .nil)) : AllB _) (.cons c1 (.cons c0 .nil) : AllP _) (by kernel_rfl)) (Less.refl _) (Less.of ⟨rfl, rfl, rfl, rfl, trivial⟩)
theorem dig_1 {nt : Nat} (hn : 26 ≤ nt) (x y w lo hi : Nat) (c : Int) (na nb : Bool) (h0 : lit false (decide (c ≤ ((0 : Nat) : Int))) = true) (h1 : lit true (decide (((lo : Nat) : Int) < ((hi : Nat) : Int))) = true) (c0 : CallOk Tryz.prog ap 127 [.sl (i64L (digQ y)) (digQ y).length nb, .int .i64 (IntKind.wrap .i64 (Int.tdiv (IntKind.wrap .i64 ((IntKind.wrap .i64 (((lo : Nat) : Int) + ((hi : Nat) : Int))) + ((1 : Nat) : Int))) ((2 : Nat) : Int)))] [] (.ret (.sl (i64L (digQ w)) (digQ w).length true)) []) (c1 : CallOk Tryz.prog ap 124 [.sl (i64L (digQ w)) (digQ w).length true, .sl (i64L (digQ x)) (digQ x).length na] [] (.ret (.int .i64 c)) []) : ExecOk Tryz.prog ap [] nt (loopBody 0 (bodyOf Tryz.f125)) { env := [(0, .sl (i64L (digQ x)) (digQ x).length na), (1, .sl (i64L (digQ y)) (digQ y).length nb), (5, .int .i64 ((lo : Nat) : Int)), (6, .int .i64 ((hi : Nat) : Int))], hp := [], md := .dead, dfs := [] } (.normal) { env := [(0, .sl (i64L (digQ x)) (digQ x).length na), (1, .sl (i64L (digQ y)) (digQ y).length nb), (5, .int .i64 ((lo : Nat) : Int)), (6, .int .i64 (IntKind.wrap .i64 ((IntKind.wrap .i64 (Int.tdiv (IntKind.wrap .i64 ((IntKind.wrap .i64 (((lo : Nat) : Int) + ((hi : Nat) : Int))) + ((1 : Nat) : Int))) ((2 : Nat) : Int))) - ((1 : Nat) : Int))))], hp := [], md := .dead, dfs := [] } :=
  ExecOk.weak (piece_ok good (lf := 3000) (n := 4) (keep := [0, 1, 4, 5, 6, 7, 10, 21]) (ls := []) (orc := [true, false]) (ans := [(.ret (.sl (i64L (digQ w)) (digQ w).length true), []), (.ret (.int .i64 c), [])]) (lps := []) (nt0 := 26) (s' := { env := [(0, .sl (i64L (digQ x)) (digQ x).length na), (1, .sl (i64L (digQ y)) (digQ y).length nb), (4, .dead), (5, .int .i64 ((lo : Nat) : Int)), (6, .int .i64 (IntKind.wrap .i64 ((IntKind.wrap .i64 (Int.tdiv (IntKind.wrap .i64 ((IntKind.wrap .i64 (((lo : Nat) : Int) + ((hi : Nat) : Int))) + ((1 : Nat) : Int))) ((2 : Nat) : Int))) - ((1 : Nat) : Int)))), (7, .int .i64 (IntKind.wrap .i64 (Int.tdiv (IntKind.wrap .i64 ((IntKind.wrap .i64 (((lo : Nat) : Int) + ((hi : Nat) : Int))) + ((1 : Nat) : Int))) ((2 : Nat) : Int)))), (10, .bool (decide (((lo : Nat) : Int) < ((hi : Nat) : Int)))), (21, .bool (decide (c ≤ ((0 : Nat) : Int))))], hp := [], md := .dead, dfs := [] }) (by kernel_rfl) hn (.c h0 (.t (.c h1 .nil)) : AllB _) (.cons c1 (.cons c0 .nil) : AllP _) (by kernel_rfl)) (Less.refl _) (Less.of ⟨rfl, rfl, rfl, rfl, trivial⟩)
theorem dig_2 {nt : Nat} (hn : 26 ≤ nt) (x y w lo hi : Nat) (c : Int) (na nb : Bool) (h0 : lit false (decide (((lo : Nat) : Int) < ((hi : Nat) : Int))) = true)  : ExecOk Tryz.prog ap [] nt (loopBody 0 (bodyOf Tryz.f125)) { env := [(0, .sl (i64L (digQ x)) (digQ x).length na), (1, .sl (i64L (digQ y)) (digQ y).length nb), (5, .int .i64 ((lo : Nat) : Int)), (6, .int .i64 ((hi : Nat) : Int))], hp := [], md := .dead, dfs := [] } (.exit 0) { env := [(5, .int .i64 ((lo : Nat) : Int))], hp := [], md := .dead, dfs := [] } :=
  ExecOk.weak (piece_ok good (lf := 3000) (n := 4) (keep := [0, 1, 4, 5, 6, 7, 10, 21]) (ls := []) (orc := [false]) (ans := []) (lps := []) (nt0 := 26) (s' := { env := [(0, .sl (i64L (digQ x)) (digQ x).length na), (1, .sl (i64L (digQ y)) (digQ y).length nb), (4, .dead), (5, .int .i64 ((lo : Nat) : Int)), (6, .int .i64 ((hi : Nat) : Int)), (7, .dead), (10, .bool (decide (((lo : Nat) : Int) < ((hi : Nat) : Int)))), (21, .dead)], hp := [], md := .dead, dfs := [] }) (by kernel_rfl) hn (.c h0 .nil : AllB _) (.nil : AllP _) (by kernel_rfl)) (Less.refl _) (Less.of ⟨rfl, trivial⟩)
theorem digF_0 (x y q : Nat) (na nb : Bool)  (l0 : LoopOk Tryz.prog ap [] 26 (.block 0 (.loop (loopBody 0 (bodyOf Tryz.f125)))) { env := [(0, .sl (i64L (digQ x)) (digQ x).length na), (1, .sl (i64L (digQ y)) (digQ y).length nb), (4, .int .i64 0), (5, .int .i64 0), (6, .int .i64 16777215), (7, .dead), (10, .dead), (21, .dead)], hp := [], md := .dead, dfs := [] } (.normal) { env := [(5, .int .i64 ((q : Nat) : Int))], hp := [], md := .dead, dfs := [] }) : CallOk Tryz.prog ap 125 [.sl (i64L (digQ x)) (digQ x).length na, .sl (i64L (digQ y)) (digQ y).length nb] [] (.ret (.int .i64 ((q : Nat) : Int))) [] := path_ok good (lf := 3000) (n := 4) (ls := [0]) (orc := []) (ans := []) (lps := [(.normal, { env := [(5, .int .i64 ((q : Nat) : Int))], hp := [], md := .dead, dfs := [] })]) (.nil : AllB _) (.cons l0 .nil : AllP _) (by kernel_rfl)
theorem numN_0 {nt : Nat} (hn : 35 ≤ nt) (l o : List Nat) (k : Nat) (nn : Bool) (h0 : (chk (.int .i64) (List.headD (List.drop ((Int.toNat ((k : Nat) : Int)) * 1) (i64L l)) .dead)) = true) (h1 : (decide (((0 : Nat) : Int) ≤ ((k : Nat) : Int))) = true) (h2 : (decide (((k : Nat) : Int) < ((l.length : Nat) : Int))) = true) (h3 : lit true (decide (((0 : Nat) : Int) ≤ ((k : Nat) : Int))) = true)  : ExecOk Tryz.prog ap [] nt (loopBody 0 (bodyOf Tryz.f64)) { env := [(0, .sl (i64L l) l.length nn), (3, .nilS), (4, .int .i64 ((k : Nat) : Int))], hp := [], md := .dead, dfs := [] } (.normal) { env := [(0, .sl (i64L l) l.length nn), (3, .ref 0 0 0 3), (4, .int .i64 (IntKind.wrap .i64 (((k : Nat) : Int) - ((1 : Nat) : Int))))], hp := [(0, { cells := [.int .u8 (IntKind.wrap .u8 (Int.fdiv (AV.toInt (List.headD (List.drop ((Int.toNat ((k : Nat) : Int)) * 1) (i64L l)) .dead)) (2 ^ (min 16 64)))), .int .u8 (IntKind.wrap .u8 (Int.fdiv (AV.toInt (List.headD (List.drop ((Int.toNat ((k : Nat) : Int)) * 1) (i64L l)) .dead)) (2 ^ (min 8 64)))), .int .u8 (IntKind.wrap .u8 (AV.toInt (List.headD (List.drop ((Int.toNat ((k : Nat) : Int)) * 1) (i64L l)) .dead)))], ver := 0, fro := false, fz := 0, esz := 1, pr := true })], md := .dead, dfs := [] } :=
  ExecOk.weak (piece_ok good (lf := 3000) (n := 4) (keep := [0, 2, 3, 4, 9]) (ls := []) (orc := [true, false]) (ans := []) (lps := []) (nt0 := 35) (s' := { env := [(0, .sl (i64L l) l.length nn), (2, .dead), (3, .ref 0 0 0 3), (4, .int .i64 (IntKind.wrap .i64 (((k : Nat) : Int) - ((1 : Nat) : Int)))), (9, .bool (decide (((0 : Nat) : Int) ≤ ((k : Nat) : Int))))], hp := [(0, { cells := [.int .u8 (IntKind.wrap .u8 (Int.fdiv (AV.toInt (List.headD (List.drop ((Int.toNat ((k : Nat) : Int)) * 1) (i64L l)) .dead)) (2 ^ (min 16 64)))), .int .u8 (IntKind.wrap .u8 (Int.fdiv (AV.toInt (List.headD (List.drop ((Int.toNat ((k : Nat) : Int)) * 1) (i64L l)) .dead)) (2 ^ (min 8 64)))), .int .u8 (IntKind.wrap .u8 (AV.toInt (List.headD (List.drop ((Int.toNat ((k : Nat) : Int)) * 1) (i64L l)) .dead)))], ver := 0, fro := false, fz := 0, esz := 1, pr := true })], md := .dead, dfs := [] }) (by kernel_rfl) hn (.t (.t (.t (.c h0 (.c h1 (.c h2 (.t (.c h0 (.c h1 (.c h2 (.t (.c h0 (.c h1 (.c h2 (.c h3 .nil)))))))))))))) : AllB _) (.nil : AllP _) (by kernel_rfl)) (Less.refl _) (Less.of ⟨rfl, rfl, rfl, trivial⟩)
theorem numN_1 {nt : Nat} (hn : 35 ≤ nt) (l o : List Nat) (k : Nat) (nn : Bool) (h0 : lit false (decide (((0 : Nat) : Int) ≤ ((k : Nat) : Int))) = true)  : ExecOk Tryz.prog ap [] nt (loopBody 0 (bodyOf Tryz.f64)) { env := [(0, .sl (i64L l) l.length nn), (3, .nilS), (4, .int .i64 ((k : Nat) : Int))], hp := [], md := .dead, dfs := [] } (.exit 0) { env := [(3, .nilS)], hp := [], md := .dead, dfs := [] } :=
  ExecOk.weak (piece_ok good (lf := 3000) (n := 4) (keep := [0, 2, 3, 4, 9]) (ls := []) (orc := [false]) (ans := []) (lps := []) (nt0 := 35) (s' := { env := [(0, .sl (i64L l) l.length nn), (2, .dead), (3, .nilS), (4, .int .i64 ((k : Nat) : Int)), (9, .bool (decide (((0 : Nat) : Int) ≤ ((k : Nat) : Int))))], hp := [], md := .dead, dfs := [] }) (by kernel_rfl) hn (.c h0 .nil : AllB _) (.nil : AllP _) (by kernel_rfl)) (Less.refl _) (Less.of ⟨rfl, trivial⟩)
theorem numNE_0 {nt : Nat} (hn : 35 ≤ nt) (l o : List Nat) (nn : Bool)   : ExecOk Tryz.prog ap [] nt (loopBody 0 (bodyOf Tryz.f64)) { env := [(0, .sl (i64L l) l.length nn), (3, .nilS), (4, .int .i64 (-1))], hp := [], md := .dead, dfs := [] } (.exit 0) { env := [(3, .nilS)], hp := [], md := .dead, dfs := [] } :=
  ExecOk.weak (piece_ok good (lf := 3000) (n := 4) (keep := [0, 2, 3, 4, 9]) (ls := []) (orc := [false]) (ans := []) (lps := []) (nt0 := 35) (s' := { env := [(0, .sl (i64L l) l.length nn), (2, .dead), (3, .nilS), (4, .int .i64 (-1)), (9, .bool false)], hp := [], md := .dead, dfs := [] }) (by kernel_rfl) hn (.t .nil : AllB _) (.nil : AllP _) (by kernel_rfl)) (Less.refl _) (Less.of ⟨rfl, trivial⟩)
theorem numNF_0 (l o : List Nat) (nn : Bool)  (l0 : LoopOk Tryz.prog ap [] 35 (.block 0 (.loop (loopBody 0 (bodyOf Tryz.f64)))) { env := [(0, .sl (i64L l) l.length nn), (2, .str []), (3, .nilS), (4, .int .i64 (IntKind.wrap .i64 (((l.length : Nat) : Int) - ((1 : Nat) : Int)))), (9, .dead)], hp := [], md := .dead, dfs := [] } (.normal) { env := [(3, .nilS)], hp := [], md := .dead, dfs := [] }) (c0 : CallOk Tryz.prog ap 61 [.str []] [] (.ret (.str (natS (valS [])))) []) : CallOk Tryz.prog ap 64 [.sl (i64L l) l.length nn] [] (.ret (.str (natS (valS [])))) [] := path_ok good (lf := 3000) (n := 4) (ls := [0]) (orc := []) (ans := [(.ret (.str (natS (valS []))), [])]) (lps := [(.normal, { env := [(3, .nilS)], hp := [], md := .dead, dfs := [] })]) (.t (.t .nil) : AllB _) (.cons c0 (.cons l0 .nil) : AllP _) (by kernel_rfl)
theorem numC_0 {nt : Nat} (hn : 35 ≤ nt) (l o : List Nat) (k : Nat) (nn : Bool) (h0 : (Nat.ble (o.length + 3) 1099511627776) = true) (h1 : (Nat.ble (o.length * 1) (List.length (u8L o))) = true) (h2 : (chk (.int .i64) (List.headD (List.drop ((Int.toNat ((k : Nat) : Int)) * 1) (i64L l)) .dead)) = true) (h3 : (decide (((0 : Nat) : Int) ≤ ((k : Nat) : Int))) = true) (h4 : (decide (((k : Nat) : Int) < ((l.length : Nat) : Int))) = true) (h5 : lit true (decide (((0 : Nat) : Int) ≤ ((k : Nat) : Int))) = true)  : ExecOk Tryz.prog ap [] nt (loopBody 0 (bodyOf Tryz.f64)) { env := [(0, .sl (i64L l) l.length nn), (3, .ref 0 0 0 o.length), (4, .int .i64 ((k : Nat) : Int))], hp := [(0, { cells := (u8L o), ver := 0, fro := false, fz := 0, esz := 1, pr := true })], md := .dead, dfs := [] } (.normal) { env := [(0, .sl (i64L l) l.length nn), (3, .ref 0 0 0 (o.length + 3)), (4, .int .i64 (IntKind.wrap .i64 (((k : Nat) : Int) - ((1 : Nat) : Int))))], hp := [(0, { cells := ((List.take (o.length * 1) (u8L o)) ++ [.int .u8 (IntKind.wrap .u8 (Int.fdiv (AV.toInt (List.headD (List.drop ((Int.toNat ((k : Nat) : Int)) * 1) (i64L l)) .dead)) (2 ^ (min 16 64)))), .int .u8 (IntKind.wrap .u8 (Int.fdiv (AV.toInt (List.headD (List.drop ((Int.toNat ((k : Nat) : Int)) * 1) (i64L l)) .dead)) (2 ^ (min 8 64)))), .int .u8 (IntKind.wrap .u8 (AV.toInt (List.headD (List.drop ((Int.toNat ((k : Nat) : Int)) * 1) (i64L l)) .dead)))]), ver := 0, fro := false, fz := 0, esz := 1, pr := true })], md := .dead, dfs := [] } :=
  ExecOk.weak (piece_ok good (lf := 3000) (n := 4) (keep := [0, 2, 3, 4, 9]) (ls := []) (orc := [true]) (ans := []) (lps := []) (nt0 := 35) (s' := { env := [(0, .sl (i64L l) l.length nn), (2, .dead), (3, .ref 0 0 0 (o.length + 3)), (4, .int .i64 (IntKind.wrap .i64 (((k : Nat) : Int) - ((1 : Nat) : Int)))), (9, .bool (decide (((0 : Nat) : Int) ≤ ((k : Nat) : Int))))], hp := [(0, { cells := ((List.take (o.length * 1) (u8L o)) ++ [.int .u8 (IntKind.wrap .u8 (Int.fdiv (AV.toInt (List.headD (List.drop ((Int.toNat ((k : Nat) : Int)) * 1) (i64L l)) .dead)) (2 ^ (min 16 64)))), .int .u8 (IntKind.wrap .u8 (Int.fdiv (AV.toInt (List.headD (List.drop ((Int.toNat ((k : Nat) : Int)) * 1) (i64L l)) .dead)) (2 ^ (min 8 64)))), .int .u8 (IntKind.wrap .u8 (AV.toInt (List.headD (List.drop ((Int.toNat ((k : Nat) : Int)) * 1) (i64L l)) .dead)))]), ver := 0, fro := false, fz := 0, esz := 1, pr := true })], md := .dead, dfs := [] }) (by kernel_rfl) hn (.t (.c h0 (.c h1 (.t (.c h2 (.c h3 (.c h4 (.t (.c h2 (.c h3 (.c h4 (.t (.c h2 (.c h3 (.c h4 (.c h5 .nil))))))))))))))) : AllB _) (.nil : AllP _) (by kernel_rfl)) (Less.refl _) (Less.of ⟨rfl, rfl, rfl, trivial⟩)
theorem numC_1 {nt : Nat} (hn : 35 ≤ nt) (l o : List Nat) (k : Nat) (nn : Bool) (h0 : lit false (decide (((0 : Nat) : Int) ≤ ((k : Nat) : Int))) = true)  : ExecOk Tryz.prog ap [] nt (loopBody 0 (bodyOf Tryz.f64)) { env := [(0, .sl (i64L l) l.length nn), (3, .ref 0 0 0 o.length), (4, .int .i64 ((k : Nat) : Int))], hp := [(0, { cells := (u8L o), ver := 0, fro := false, fz := 0, esz := 1, pr := true })], md := .dead, dfs := [] } (.exit 0) { env := [(3, .ref 0 0 0 o.length)], hp := [(0, { cells := (u8L o), ver := 0, fro := false, fz := 0, esz := 1, pr := true })], md := .dead, dfs := [] } :=
  ExecOk.weak (piece_ok good (lf := 3000) (n := 4) (keep := [0, 2, 3, 4, 9]) (ls := []) (orc := [false]) (ans := []) (lps := []) (nt0 := 35) (s' := { env := [(0, .sl (i64L l) l.length nn), (2, .dead), (3, .ref 0 0 0 o.length), (4, .int .i64 ((k : Nat) : Int)), (9, .bool (decide (((0 : Nat) : Int) ≤ ((k : Nat) : Int))))], hp := [(0, { cells := (u8L o), ver := 0, fro := false, fz := 0, esz := 1, pr := true })], md := .dead, dfs := [] }) (by kernel_rfl) hn (.c h0 .nil : AllB _) (.nil : AllP _) (by kernel_rfl)) (Less.refl _) (Less.of ⟨rfl, trivial⟩)
theorem numCE_0 {nt : Nat} (hn : 35 ≤ nt) (l o : List Nat) (nn : Bool)   : ExecOk Tryz.prog ap [] nt (loopBody 0 (bodyOf Tryz.f64)) { env := [(0, .sl (i64L l) l.length nn), (3, .ref 0 0 0 o.length), (4, .int .i64 (-1))], hp := [(0, { cells := (u8L o), ver := 0, fro := false, fz := 0, esz := 1, pr := true })], md := .dead, dfs := [] } (.exit 0) { env := [(3, .ref 0 0 0 o.length)], hp := [(0, { cells := (u8L o), ver := 0, fro := false, fz := 0, esz := 1, pr := true })], md := .dead, dfs := [] } :=
  ExecOk.weak (piece_ok good (lf := 3000) (n := 4) (keep := [0, 2, 3, 4, 9]) (ls := []) (orc := [false]) (ans := []) (lps := []) (nt0 := 35) (s' := { env := [(0, .sl (i64L l) l.length nn), (2, .dead), (3, .ref 0 0 0 o.length), (4, .int .i64 (-1)), (9, .bool false)], hp := [(0, { cells := (u8L o), ver := 0, fro := false, fz := 0, esz := 1, pr := true })], md := .dead, dfs := [] }) (by kernel_rfl) hn (.t .nil : AllB _) (.nil : AllP _) (by kernel_rfl)) (Less.refl _) (Less.of ⟨rfl, trivial⟩)
theorem numCF_0 (l o : List Nat) (nn : Bool) (h0 : (Nat.beq (List.length (List.take (o.length * 1) (u8L o))) o.length) = true) (h1 : (List.all (List.take (o.length * 1) (u8L o)) (chk (.int .u8))) = true) (l0 : LoopOk Tryz.prog ap [] 35 (.block 0 (.loop (loopBody 0 (bodyOf Tryz.f64)))) { env := [(0, .sl (i64L l) l.length nn), (2, .str []), (3, .nilS), (4, .int .i64 (IntKind.wrap .i64 (((l.length : Nat) : Int) - ((1 : Nat) : Int)))), (9, .dead)], hp := [], md := .dead, dfs := [] } (.normal) { env := [(3, .ref 0 0 0 o.length)], hp := [(0, { cells := (u8L o), ver := 0, fro := false, fz := 0, esz := 1, pr := true })], md := .dead, dfs := [] }) (c0 : CallOk Tryz.prog ap 61 [.str (List.map (fun c => UInt8.ofNat (Int.toNat (AV.toInt c))) (List.take (o.length * 1) (u8L o)))] [] (.ret (.str (natS (valS (List.map (fun c => UInt8.ofNat (Int.toNat (AV.toInt c))) (List.take (o.length * 1) (u8L o))))))) []) : CallOk Tryz.prog ap 64 [.sl (i64L l) l.length nn] [] (.ret (.str (natS (valS (List.map (fun c => UInt8.ofNat (Int.toNat (AV.toInt c))) (List.take (o.length * 1) (u8L o))))))) [] := path_ok good (lf := 3000) (n := 4) (ls := [0]) (orc := []) (ans := [(.ret (.str (natS (valS (List.map (fun c => UInt8.ofNat (Int.toNat (AV.toInt c))) (List.take (o.length * 1) (u8L o)))))), [])]) (lps := [(.normal, { env := [(3, .ref 0 0 0 o.length)], hp := [(0, { cells := (u8L o), ver := 0, fro := false, fz := 0, esz := 1, pr := true })], md := .dead, dfs := [] })]) (.c h0 (.c h1 .nil) : AllB _) (.cons c0 (.cons l0 .nil) : AllP _) (by kernel_rfl)
theorem rofF_0 (x : Nat) (h0 : lit true (decide (((0 : Nat) : Int) < ((x : Nat) : Int))) = true) (c0 : CallOk Tryz.prog ap 61 [.str [UInt8.ofNat (Int.toNat (IntKind.wrap .u8 (Int.fdiv ((x : Nat) : Int) (2 ^ (min 56 64))))), UInt8.ofNat (Int.toNat (IntKind.wrap .u8 (Int.fdiv ((x : Nat) : Int) (2 ^ (min 48 64))))), UInt8.ofNat (Int.toNat (IntKind.wrap .u8 (Int.fdiv ((x : Nat) : Int) (2 ^ (min 40 64))))), UInt8.ofNat (Int.toNat (IntKind.wrap .u8 (Int.fdiv ((x : Nat) : Int) (2 ^ (min 32 64))))), UInt8.ofNat (Int.toNat (IntKind.wrap .u8 (Int.fdiv ((x : Nat) : Int) (2 ^ (min 24 64))))), UInt8.ofNat (Int.toNat (IntKind.wrap .u8 (Int.fdiv ((x : Nat) : Int) (2 ^ (min 16 64))))), UInt8.ofNat (Int.toNat (IntKind.wrap .u8 (Int.fdiv ((x : Nat) : Int) (2 ^ (min 8 64))))), UInt8.ofNat (Int.toNat (IntKind.wrap .u8 (Int.fdiv ((x : Nat) : Int) (2 ^ (min 0 64)))))]] [] (.ret (.str (natS (valS [UInt8.ofNat (Int.toNat (IntKind.wrap .u8 (Int.fdiv ((x : Nat) : Int) (2 ^ (min 56 64))))), UInt8.ofNat (Int.toNat (IntKind.wrap .u8 (Int.fdiv ((x : Nat) : Int) (2 ^ (min 48 64))))), UInt8.ofNat (Int.toNat (IntKind.wrap .u8 (Int.fdiv ((x : Nat) : Int) (2 ^ (min 40 64))))), UInt8.ofNat (Int.toNat (IntKind.wrap .u8 (Int.fdiv ((x : Nat) : Int) (2 ^ (min 32 64))))), UInt8.ofNat (Int.toNat (IntKind.wrap .u8 (Int.fdiv ((x : Nat) : Int) (2 ^ (min 24 64))))), UInt8.ofNat (Int.toNat (IntKind.wrap .u8 (Int.fdiv ((x : Nat) : Int) (2 ^ (min 16 64))))), UInt8.ofNat (Int.toNat (IntKind.wrap .u8 (Int.fdiv ((x : Nat) : Int) (2 ^ (min 8 64))))), UInt8.ofNat (Int.toNat (IntKind.wrap .u8 (Int.fdiv ((x : Nat) : Int) (2 ^ (min 0 64)))))])))) []) : CallOk Tryz.prog ap 39 [.int .i64 ((x : Nat) : Int)] [] (.ret (.str (natS (valS [UInt8.ofNat (Int.toNat (IntKind.wrap .u8 (Int.fdiv ((x : Nat) : Int) (2 ^ (min 56 64))))), UInt8.ofNat (Int.toNat (IntKind.wrap .u8 (Int.fdiv ((x : Nat) : Int) (2 ^ (min 48 64))))), UInt8.ofNat (Int.toNat (IntKind.wrap .u8 (Int.fdiv ((x : Nat) : Int) (2 ^ (min 40 64))))), UInt8.ofNat (Int.toNat (IntKind.wrap .u8 (Int.fdiv ((x : Nat) : Int) (2 ^ (min 32 64))))), UInt8.ofNat (Int.toNat (IntKind.wrap .u8 (Int.fdiv ((x : Nat) : Int) (2 ^ (min 24 64))))), UInt8.ofNat (Int.toNat (IntKind.wrap .u8 (Int.fdiv ((x : Nat) : Int) (2 ^ (min 16 64))))), UInt8.ofNat (Int.toNat (IntKind.wrap .u8 (Int.fdiv ((x : Nat) : Int) (2 ^ (min 8 64))))), UInt8.ofNat (Int.toNat (IntKind.wrap .u8 (Int.fdiv ((x : Nat) : Int) (2 ^ (min 0 64)))))])))) [] := path_ok good (lf := 3000) (n := 4) (ls := []) (orc := [true, true, false, true, true, true, true, true, true, true, true, true, true, true, true, true, true, false, false]) (ans := [(.ret (.str (natS (valS [UInt8.ofNat (Int.toNat (IntKind.wrap .u8 (Int.fdiv ((x : Nat) : Int) (2 ^ (min 56 64))))), UInt8.ofNat (Int.toNat (IntKind.wrap .u8 (Int.fdiv ((x : Nat) : Int) (2 ^ (min 48 64))))), UInt8.ofNat (Int.toNat (IntKind.wrap .u8 (Int.fdiv ((x : Nat) : Int) (2 ^ (min 40 64))))), UInt8.ofNat (Int.toNat (IntKind.wrap .u8 (Int.fdiv ((x : Nat) : Int) (2 ^ (min 32 64))))), UInt8.ofNat (Int.toNat (IntKind.wrap .u8 (Int.fdiv ((x : Nat) : Int) (2 ^ (min 24 64))))), UInt8.ofNat (Int.toNat (IntKind.wrap .u8 (Int.fdiv ((x : Nat) : Int) (2 ^ (min 16 64))))), UInt8.ofNat (Int.toNat (IntKind.wrap .u8 (Int.fdiv ((x : Nat) : Int) (2 ^ (min 8 64))))), UInt8.ofNat (Int.toNat (IntKind.wrap .u8 (Int.fdiv ((x : Nat) : Int) (2 ^ (min 0 64)))))]))), [])]) (lps := []) (.t (.t (.t (.t (.t (.t (.t (.t (.t (.c h0 (.t (.t (.t (.t (.t (.t (.c h0 (.t (.t (.t (.t (.t (.t (.c h0 (.t (.t (.t (.t (.t (.t (.c h0 (.t (.t (.t (.t (.t (.t (.c h0 (.t (.t (.t (.t (.t (.t (.c h0 (.t (.t (.t (.t (.t (.t (.c h0 (.t (.t (.t (.t (.t (.c h0 (.t .nil)))))))))))))))))))))))))))))))))))))))))))))))))))))))))) : AllB _) (.cons c0 .nil : AllP _) (by kernel_rfl)
theorem rofF_1 (x : Nat) (h0 : lit false (decide (((0 : Nat) : Int) < ((x : Nat) : Int))) = true) (c0 : CallOk Tryz.prog ap 61 [.str []] [] (.ret (.str (natS (valS [])))) []) : CallOk Tryz.prog ap 39 [.int .i64 ((x : Nat) : Int)] [] (.ret (.str (natS (valS [])))) [] := path_ok good (lf := 3000) (n := 4) (ls := []) (orc := [true, false]) (ans := [(.ret (.str (natS (valS []))), [])]) (lps := []) (.t (.t (.c h0 (.t .nil))) : AllB _) (.cons c0 .nil : AllP _) (by kernel_rfl)
theorem rint_0 {nt : Nat} (hn : 35 ≤ nt) (s : List UInt8) (n k : Nat) (h0 : (decide (((0 : Nat) : Int) ≤ ((k : Nat) : Int))) = true) (h1 : (decide (((k : Nat) : Int) < (((List.length s) : Nat) : Int))) = true) (h2 : lit true (decide (((k : Nat) : Int) < (((List.length s) : Nat) : Int))) = true)  : ExecOk Tryz.prog ap [] nt (loopBody 0 (bodyOf Tryz.f94)) { env := [(0, .str s), (4, .int .i64 ((n : Nat) : Int)), (5, .int .i64 ((k : Nat) : Int))], hp := [], md := .dead, dfs := [] } (.normal) { env := [(0, .str s), (4, .int .i64 (IntKind.wrap .i64 ((IntKind.wrap .i64 (((n : Nat) : Int) * 2 ^ (min 8 64))) + (IntKind.wrap .i64 ((UInt8.toNat (List.getD s (Int.toNat ((k : Nat) : Int)) 0) : Nat) : Int))))), (5, .int .i64 (IntKind.wrap .i64 (((k : Nat) : Int) + ((1 : Nat) : Int))))], hp := [], md := .dead, dfs := [] } :=
  ExecOk.weak (piece_ok good (lf := 3000) (n := 4) (keep := [0, 2, 3, 4, 5, 20, 24]) (ls := []) (orc := [true]) (ans := []) (lps := []) (nt0 := 35) (s' := { env := [(0, .str s), (2, .dead), (3, .dead), (4, .int .i64 (IntKind.wrap .i64 ((IntKind.wrap .i64 (((n : Nat) : Int) * 2 ^ (min 8 64))) + (IntKind.wrap .i64 ((UInt8.toNat (List.getD s (Int.toNat ((k : Nat) : Int)) 0) : Nat) : Int))))), (5, .int .i64 (IntKind.wrap .i64 (((k : Nat) : Int) + ((1 : Nat) : Int)))), (20, .dead), (24, .bool (decide (((k : Nat) : Int) < (((List.length s) : Nat) : Int))))], hp := [], md := .dead, dfs := [] }) (by kernel_rfl) hn (.c h0 (.c h1 (.t (.c h2 .nil))) : AllB _) (.nil : AllP _) (by kernel_rfl)) (Less.refl _) (Less.of ⟨rfl, rfl, rfl, trivial⟩)
theorem rint_1 {nt : Nat} (hn : 35 ≤ nt) (s : List UInt8) (n k : Nat) (h0 : lit false (decide (((k : Nat) : Int) < (((List.length s) : Nat) : Int))) = true)  : ExecOk Tryz.prog ap [] nt (loopBody 0 (bodyOf Tryz.f94)) { env := [(0, .str s), (4, .int .i64 ((n : Nat) : Int)), (5, .int .i64 ((k : Nat) : Int))], hp := [], md := .dead, dfs := [] } (.exit 0) { env := [(4, .int .i64 ((n : Nat) : Int))], hp := [], md := .dead, dfs := [] } :=
  ExecOk.weak (piece_ok good (lf := 3000) (n := 4) (keep := [0, 2, 3, 4, 5, 20, 24]) (ls := []) (orc := [false]) (ans := []) (lps := []) (nt0 := 35) (s' := { env := [(0, .str s), (2, .dead), (3, .dead), (4, .int .i64 ((n : Nat) : Int)), (5, .int .i64 ((k : Nat) : Int)), (20, .dead), (24, .bool (decide (((k : Nat) : Int) < (((List.length s) : Nat) : Int))))], hp := [], md := .dead, dfs := [] }) (by kernel_rfl) hn (.c h0 .nil : AllB _) (.nil : AllP _) (by kernel_rfl)) (Less.refl _) (Less.of ⟨rfl, trivial⟩)
theorem rintF_0 (s : List UInt8) (n : Nat) (h0 : lit true (decide (((8 : Nat) : Int) < (((List.length (natS (valS s))) : Nat) : Int))) = true) (c0 : CallOk Tryz.prog ap 61 [.str s] [] (.ret (.str (natS (valS s)))) []) : CallOk Tryz.prog ap 94 [.str s] [] (.ret (.tup [.int .i64 0, .bool false])) [] := path_ok good (lf := 3000) (n := 4) (ls := [0]) (orc := [true, true]) (ans := [(.ret (.str (natS (valS s))), [])]) (lps := []) (.t (.c h0 .nil) : AllB _) (.cons c0 .nil : AllP _) (by kernel_rfl)
theorem rintF_1 (s : List UInt8) (n : Nat) (h0 : lit true (decide (((127 : Nat) : Int) < ((UInt8.toNat (List.getD (natS (valS s)) 0 0) : Nat) : Int))) = true) (h1 : (decide (((0 : Nat) : Int) < (((List.length (natS (valS s))) : Nat) : Int))) = true) (h2 : lit true ((((List.length (natS (valS s))) : Nat) : Int) == ((8 : Nat) : Int)) = true) (h3 : lit false (decide (((8 : Nat) : Int) < (((List.length (natS (valS s))) : Nat) : Int))) = true) (c0 : CallOk Tryz.prog ap 61 [.str s] [] (.ret (.str (natS (valS s)))) []) : CallOk Tryz.prog ap 94 [.str s] [] (.ret (.tup [.int .i64 0, .bool false])) [] := path_ok good (lf := 3000) (n := 4) (ls := [0]) (orc := [false, true, true]) (ans := [(.ret (.str (natS (valS s))), [])]) (lps := []) (.c h0 (.t (.c h1 (.c h2 (.c h3 .nil)))) : AllB _) (.cons c0 .nil : AllP _) (by kernel_rfl)
theorem rintF_2 (s : List UInt8) (n : Nat) (h0 : lit false (decide (((127 : Nat) : Int) < ((UInt8.toNat (List.getD (natS (valS s)) 0 0) : Nat) : Int))) = true) (h1 : (decide (((0 : Nat) : Int) < (((List.length (natS (valS s))) : Nat) : Int))) = true) (h2 : lit true ((((List.length (natS (valS s))) : Nat) : Int) == ((8 : Nat) : Int)) = true) (h3 : lit false (decide (((8 : Nat) : Int) < (((List.length (natS (valS s))) : Nat) : Int))) = true) (c0 : CallOk Tryz.prog ap 61 [.str s] [] (.ret (.str (natS (valS s)))) []) (l0 : LoopOk Tryz.prog ap [] 35 (.block 0 (.loop (loopBody 0 (bodyOf Tryz.f94)))) { env := [(0, .str (natS (valS s))), (2, .int .i64 0), (3, .bool false), (4, .int .i64 0), (5, .int .i64 0), (20, .bool (decide (((127 : Nat) : Int) < ((UInt8.toNat (List.getD (natS (valS s)) 0 0) : Nat) : Int)))), (24, .dead)], hp := [], md := .dead, dfs := [] } (.normal) { env := [(4, .int .i64 ((n : Nat) : Int))], hp := [], md := .dead, dfs := [] }) : CallOk Tryz.prog ap 94 [.str s] [] (.ret (.tup [.int .i64 ((n : Nat) : Int), .bool true])) [] := path_ok good (lf := 3000) (n := 4) (ls := [0]) (orc := [false, true, false]) (ans := [(.ret (.str (natS (valS s))), [])]) (lps := [(.normal, { env := [(4, .int .i64 ((n : Nat) : Int))], hp := [], md := .dead, dfs := [] })]) (.c h0 (.t (.c h1 (.c h2 (.c h3 .nil)))) : AllB _) (.cons l0 (.cons c0 .nil) : AllP _) (by kernel_rfl)
theorem rintF_3 (s : List UInt8) (n : Nat) (h0 : lit false ((((List.length (natS (valS s))) : Nat) : Int) == ((8 : Nat) : Int)) = true) (h1 : lit false (decide (((8 : Nat) : Int) < (((List.length (natS (valS s))) : Nat) : Int))) = true) (c0 : CallOk Tryz.prog ap 61 [.str s] [] (.ret (.str (natS (valS s)))) []) (l0 : LoopOk Tryz.prog ap [] 35 (.block 0 (.loop (loopBody 0 (bodyOf Tryz.f94)))) { env := [(0, .str (natS (valS s))), (2, .int .i64 0), (3, .bool false), (4, .int .i64 0), (5, .int .i64 0), (20, .bool false), (24, .dead)], hp := [], md := .dead, dfs := [] } (.normal) { env := [(4, .int .i64 ((n : Nat) : Int))], hp := [], md := .dead, dfs := [] }) : CallOk Tryz.prog ap 94 [.str s] [] (.ret (.tup [.int .i64 ((n : Nat) : Int), .bool true])) [] := path_ok good (lf := 3000) (n := 4) (ls := [0]) (orc := [false, false, false]) (ans := [(.ret (.str (natS (valS s))), [])]) (lps := [(.normal, { env := [(4, .int .i64 ((n : Nat) : Int))], hp := [], md := .dead, dfs := [] })]) (.t (.c h0 (.c h1 .nil)) : AllB _) (.cons l0 (.cons c0 .nil) : AllP _) (by kernel_rfl)
theorem sma_0 (s : List UInt8) (n b : Nat) (h0 : lit true (decide (((b : Nat) : Int) < (((List.length (natS (valS s))) : Nat) : Int))) = true) (c0 : CallOk Tryz.prog ap 61 [.str s] [] (.ret (.str (natS (valS s)))) []) : CallOk Tryz.prog ap 62 [.str s, .int .i64 ((b : Nat) : Int)] [] (.ret (.tup [.int .i64 0, .bool false])) [] := path_ok good (lf := 3000) (n := 4) (ls := []) (orc := [true]) (ans := [(.ret (.str (natS (valS s))), [])]) (lps := []) (.c h0 .nil : AllB _) (.cons c0 .nil : AllP _) (by kernel_rfl)
theorem sma_1 (s : List UInt8) (n b : Nat) (h0 : lit false (decide (((b : Nat) : Int) < (((List.length (natS (valS s))) : Nat) : Int))) = true) (c0 : CallOk Tryz.prog ap 61 [.str s] [] (.ret (.str (natS (valS s)))) []) (c1 : CallOk Tryz.prog ap 94 [.str s] [] (.ret (.tup [.int .i64 ((n : Nat) : Int), .bool true])) []) : CallOk Tryz.prog ap 62 [.str s, .int .i64 ((b : Nat) : Int)] [] (.ret (.tup [.int .i64 ((n : Nat) : Int), .bool true])) [] := path_ok good (lf := 3000) (n := 4) (ls := []) (orc := [false]) (ans := [(.ret (.str (natS (valS s))), []), (.ret (.tup [.int .i64 ((n : Nat) : Int), .bool true]), [])]) (lps := []) (.c h0 .nil : AllB _) (.cons c1 (.cons c0 .nil) : AllP _) (by kernel_rfl)
theorem rbi_0 {nt : Nat} (hn : 24 ≤ nt) (n d : Nat) (h0 : lit true (decide (((0 : Nat) : Int) < ((d : Nat) : Int))) = true)  : ExecOk Tryz.prog ap [] nt (loopBody 0 (bodyOf Tryz.f70)) { env := [(3, .int .i64 ((n : Nat) : Int)), (4, .int .i64 ((d : Nat) : Int))], hp := [], md := .dead, dfs := [] } (.normal) { env := [(3, .int .i64 (IntKind.wrap .i64 (((n : Nat) : Int) + ((1 : Nat) : Int)))), (4, .int .i64 (IntKind.wrap .i64 (Int.tdiv ((d : Nat) : Int) ((2 : Nat) : Int))))], hp := [], md := .dead, dfs := [] } :=
  ExecOk.weak (piece_ok good (lf := 3000) (n := 4) (keep := [0, 2, 3, 4, 9, 18]) (ls := []) (orc := [true]) (ans := []) (lps := []) (nt0 := 24) (s' := { env := [(0, .dead), (2, .dead), (3, .int .i64 (IntKind.wrap .i64 (((n : Nat) : Int) + ((1 : Nat) : Int)))), (4, .int .i64 (IntKind.wrap .i64 (Int.tdiv ((d : Nat) : Int) ((2 : Nat) : Int)))), (9, .dead), (18, .bool (decide (((0 : Nat) : Int) < ((d : Nat) : Int))))], hp := [], md := .dead, dfs := [] }) (by kernel_rfl) hn (.t (.c h0 .nil) : AllB _) (.nil : AllP _) (by kernel_rfl)) (Less.refl _) (Less.of ⟨rfl, rfl, trivial⟩)
theorem rbi_1 {nt : Nat} (hn : 24 ≤ nt) (n d : Nat) (h0 : lit false (decide (((0 : Nat) : Int) < ((d : Nat) : Int))) = true)  : ExecOk Tryz.prog ap [] nt (loopBody 0 (bodyOf Tryz.f70)) { env := [(3, .int .i64 ((n : Nat) : Int)), (4, .int .i64 ((d : Nat) : Int))], hp := [], md := .dead, dfs := [] } (.exit 0) { env := [(3, .int .i64 ((n : Nat) : Int))], hp := [], md := .dead, dfs := [] } :=
  ExecOk.weak (piece_ok good (lf := 3000) (n := 4) (keep := [0, 2, 3, 4, 9, 18]) (ls := []) (orc := [false]) (ans := []) (lps := []) (nt0 := 24) (s' := { env := [(0, .dead), (2, .dead), (3, .int .i64 ((n : Nat) : Int)), (4, .int .i64 ((d : Nat) : Int)), (9, .dead), (18, .bool (decide (((0 : Nat) : Int) < ((d : Nat) : Int))))], hp := [], md := .dead, dfs := [] }) (by kernel_rfl) hn (.c h0 .nil : AllB _) (.nil : AllP _) (by kernel_rfl)) (Less.refl _) (Less.of ⟨rfl, trivial⟩)
theorem rbiF_0 (s : List UInt8) (n : Nat) (h0 : lit true ((((List.length (natS (valS s))) : Nat) : Int) == ((0 : Nat) : Int)) = true) (c0 : CallOk Tryz.prog ap 61 [.str s] [] (.ret (.str (natS (valS s)))) []) : CallOk Tryz.prog ap 70 [.str s] [] (.ret (.int .i64 0)) [] := path_ok good (lf := 3000) (n := 4) (ls := [0]) (orc := [true]) (ans := [(.ret (.str (natS (valS s))), [])]) (lps := []) (.c h0 .nil : AllB _) (.cons c0 .nil : AllP _) (by kernel_rfl)
theorem rbiF_1 (s : List UInt8) (n : Nat) (h0 : (decide (((0 : Nat) : Int) < (((List.length (natS (valS s))) : Nat) : Int))) = true) (h1 : lit false ((((List.length (natS (valS s))) : Nat) : Int) == ((0 : Nat) : Int)) = true) (c0 : CallOk Tryz.prog ap 61 [.str s] [] (.ret (.str (natS (valS s)))) []) (l0 : LoopOk Tryz.prog ap [] 24 (.block 0 (.loop (loopBody 0 (bodyOf Tryz.f70)))) { env := [(0, .str (natS (valS s))), (2, .int .i64 0), (3, .int .i64 (IntKind.wrap .i64 (((8 : Nat) : Int) * (IntKind.wrap .i64 ((((List.length (natS (valS s))) : Nat) : Int) - ((1 : Nat) : Int)))))), (4, .int .i64 (IntKind.wrap .i64 ((UInt8.toNat (List.getD (natS (valS s)) 0 0) : Nat) : Int))), (9, .bool ((((List.length (natS (valS s))) : Nat) : Int) == ((0 : Nat) : Int))), (18, .dead)], hp := [], md := .dead, dfs := [] } (.normal) { env := [(3, .int .i64 ((n : Nat) : Int))], hp := [], md := .dead, dfs := [] }) : CallOk Tryz.prog ap 70 [.str s] [] (.ret (.int .i64 ((n : Nat) : Int))) [] := path_ok good (lf := 3000) (n := 4) (ls := [0]) (orc := [false]) (ans := [(.ret (.str (natS (valS s))), [])]) (lps := [(.normal, { env := [(3, .int .i64 ((n : Nat) : Int))], hp := [], md := .dead, dfs := [] })]) (.t (.c h0 (.c h1 .nil)) : AllB _) (.cons l0 (.cons c0 .nil) : AllP _) (by kernel_rfl)
theorem rri_0 (s : List UInt8) (h0 : lit true ((((List.length s) : Nat) : Int) == ((0 : Nat) : Int)) = true)  : CallOk Tryz.prog ap 102 [.str s] [] (.ret (.bool true)) [] := path_ok good (lf := 3000) (n := 4) (ls := []) (orc := [true]) (ans := []) (lps := []) (.c h0 .nil : AllB _) (.nil : AllP _) (by kernel_rfl)
theorem rri_1 (s : List UInt8) (h0 : (decide (((0 : Nat) : Int) < (((List.length s) : Nat) : Int))) = true) (h1 : lit false ((((List.length s) : Nat) : Int) == ((0 : Nat) : Int)) = true)  : CallOk Tryz.prog ap 102 [.str s] [] (.ret (.bool (!(((UInt8.toNat (List.getD s 0 0) : Nat) : Int) == ((0 : Nat) : Int))))) [] := path_ok good (lf := 3000) (n := 4) (ls := []) (orc := [false]) (ans := []) (lps := []) (.t (.c h0 (.c h1 .nil)) : AllB _) (.nil : AllP _) (by kernel_rfl)
theorem rcmpS_0 (s t : List UInt8) (h0 : lit true (decide ((((List.length (natS (valS s))) : Nat) : Int) < (((List.length (natS (valS t))) : Nat) : Int))) = true) (h1 : lit true (!((((List.length (natS (valS s))) : Nat) : Int) == (((List.length (natS (valS t))) : Nat) : Int))) = true) (c0 : CallOk Tryz.prog ap 61 [.str s] [] (.ret (.str (natS (valS s)))) []) (c1 : CallOk Tryz.prog ap 61 [.str t] [] (.ret (.str (natS (valS t)))) []) : CallOk Tryz.prog ap 103 [.str s, .str t] [] (.ret (.int .i64 (-1))) [] := path_ok good (lf := 3000) (n := 4) (ls := []) (orc := [true, true]) (ans := [(.ret (.str (natS (valS s))), []), (.ret (.str (natS (valS t))), [])]) (lps := []) (.c h0 (.c h1 .nil) : AllB _) (.cons c1 (.cons c0 .nil) : AllP _) (by kernel_rfl)
theorem rcmpS_1 (s t : List UInt8) (h0 : lit false (decide ((((List.length (natS (valS s))) : Nat) : Int) < (((List.length (natS (valS t))) : Nat) : Int))) = true) (h1 : lit true (!((((List.length (natS (valS s))) : Nat) : Int) == (((List.length (natS (valS t))) : Nat) : Int))) = true) (c0 : CallOk Tryz.prog ap 61 [.str s] [] (.ret (.str (natS (valS s)))) []) (c1 : CallOk Tryz.prog ap 61 [.str t] [] (.ret (.str (natS (valS t)))) []) : CallOk Tryz.prog ap 103 [.str s, .str t] [] (.ret (.int .i64 1)) [] := path_ok good (lf := 3000) (n := 4) (ls := []) (orc := [true, false]) (ans := [(.ret (.str (natS (valS s))), []), (.ret (.str (natS (valS t))), [])]) (lps := []) (.c h0 (.c h1 .nil) : AllB _) (.cons c1 (.cons c0 .nil) : AllP _) (by kernel_rfl)
theorem rcmpS_2 (s t : List UInt8) (h0 : lit true (bytesLt (natS (valS s)) (natS (valS t))) = true) (h1 : lit false (!((((List.length (natS (valS s))) : Nat) : Int) == (((List.length (natS (valS t))) : Nat) : Int))) = true) (c0 : CallOk Tryz.prog ap 61 [.str s] [] (.ret (.str (natS (valS s)))) []) (c1 : CallOk Tryz.prog ap 61 [.str t] [] (.ret (.str (natS (valS t)))) []) : CallOk Tryz.prog ap 103 [.str s, .str t] [] (.ret (.int .i64 (-1))) [] := path_ok good (lf := 3000) (n := 4) (ls := []) (orc := [false, true]) (ans := [(.ret (.str (natS (valS s))), []), (.ret (.str (natS (valS t))), [])]) (lps := []) (.c h0 (.c h1 .nil) : AllB _) (.cons c1 (.cons c0 .nil) : AllP _) (by kernel_rfl)
theorem rcmpS_3 (s t : List UInt8) (h0 : lit true (!(bytesLt (natS (valS s)) (natS (valS t)) || (natS (valS s)) == (natS (valS t)))) = true) (h1 : lit false (bytesLt (natS (valS s)) (natS (valS t))) = true) (h2 : lit false (!((((List.length (natS (valS s))) : Nat) : Int) == (((List.length (natS (valS t))) : Nat) : Int))) = true) (c0 : CallOk Tryz.prog ap 61 [.str s] [] (.ret (.str (natS (valS s)))) []) (c1 : CallOk Tryz.prog ap 61 [.str t] [] (.ret (.str (natS (valS t)))) []) : CallOk Tryz.prog ap 103 [.str s, .str t] [] (.ret (.int .i64 1)) [] := path_ok good (lf := 3000) (n := 4) (ls := []) (orc := [false, false, true]) (ans := [(.ret (.str (natS (valS s))), []), (.ret (.str (natS (valS t))), [])]) (lps := []) (.c h0 (.c h1 (.c h2 .nil)) : AllB _) (.cons c1 (.cons c0 .nil) : AllP _) (by kernel_rfl)
theorem rcmpS_4 (s t : List UInt8) (h0 : lit false (!(bytesLt (natS (valS s)) (natS (valS t)) || (natS (valS s)) == (natS (valS t)))) = true) (h1 : lit false (bytesLt (natS (valS s)) (natS (valS t))) = true) (h2 : lit false (!((((List.length (natS (valS s))) : Nat) : Int) == (((List.length (natS (valS t))) : Nat) : Int))) = true) (c0 : CallOk Tryz.prog ap 61 [.str s] [] (.ret (.str (natS (valS s)))) []) (c1 : CallOk Tryz.prog ap 61 [.str t] [] (.ret (.str (natS (valS t)))) []) : CallOk Tryz.prog ap 103 [.str s, .str t] [] (.ret (.int .i64 0)) [] := path_ok good (lf := 3000) (n := 4) (ls := []) (orc := [false, false, false]) (ans := [(.ret (.str (natS (valS s))), []), (.ret (.str (natS (valS t))), [])]) (lps := []) (.c h0 (.c h1 (.c h2 .nil)) : AllB _) (.cons c1 (.cons c0 .nil) : AllP _) (by kernel_rfl)
end Go.Proofs.Tryz

set_option maxRecDepth 100000
open Go AM
namespace Go.Proofs.Tryz
/-! ### digit -/
def diSt (x y : Nat) (na nb : Bool) (p : Nat × Nat) : St := { env := [(0, .sl (i64L (digQ x)) (digQ x).length na), (1, .sl (i64L (digQ y)) (digQ y).length nb), (5, .int .i64 ((p.1 : Nat) : Int)), (6, .int .i64 ((p.2 : Nat) : Int))], hp := [], md := .dead, dfs := [] }
def diOut (q : Nat) : St := { env := [(5, .int .i64 ((q : Nat) : Int))], hp := [], md := .dead, dfs := [] }
theorem digQ_mul {x d : Nat} (hd : d < 16777216) : (digQ (x * d)).length ≤ (digQ x).length + 1 := by
  apply digQ_le
  have h1 := digQ_lt x
  have hp := powQ_pos (digQ x).length
  rw [Nat.pow_succ]
  rcases Nat.eq_zero_or_pos d with rfl | h0
  · rw [Nat.mul_zero]; exact Nat.mul_pos hp (by omega)
  · exact Nat.lt_of_lt_of_le (Nat.mul_lt_mul_of_pos_right h1 h0) (Nat.mul_le_mul_left _ (by omega))
theorem di_loop {nt : Nat} (hn : 26 ≤ nt) (x y : Nat) (na nb : Bool) (hy : 0 < y) (hxl : (digQ x).length < 2 ^ 36) (hyl : (digQ y).length < 2 ^ 35) : ∀ (n lo hi : Nat), hi - lo < n → lo ≤ x / y → x / y ≤ hi → hi < 16777216 → LoopR Tryz.prog ap [] nt (loopBody 0 (bodyOf Tryz.f125)) (fun _ => .exit 0) (diSt x y na nb) diOut (lo, hi) (x / y) := by
  intro n
  induction n with
  | zero => intro lo hi h; omega
  | succ n ih =>
    intro lo hi h h1 h2 h3
    rcases Nat.lt_or_ge lo hi with hlt | hge
    · have hm1 : (lo + hi + 1) / 2 < 16777216 := by omega
      have hc := cmpQ_spec (y * ((lo + hi + 1) / 2)) x
      have ht := times_ok y ((lo + hi + 1) / 2) nb hm1 (by omega)
      have hml := digQ_mul (x := y) hm1
      have hcm := rcmp_ok (digQ (y * ((lo + hi + 1) / 2))) (digQ x) true na (LimQ.dig _) (LimQ.dig _) (by omega) (by omega)
      have hdiv := Nat.le_div_iff_mul_le (x := (lo + hi + 1) / 2) (y := x) hy
      rw [Nat.mul_comm] at hdiv
      have hz : ((0 : Nat) : Int) = 0 := rfl
      by_cases hle : y * ((lo + hi + 1) / 2) ≤ x
      · have hmq := hdiv.2 hle
        refine .next ?_ (ih ((lo + hi + 1) / 2) hi (by omega) hmq h2 h3)
        have hb := dig_0 hn x y (y * ((lo + hi + 1) / 2)) lo hi (cmpQ (digQ (y * ((lo + hi + 1) / 2))) (digQ x)) na nb
        simp (disch := first | omega | (simp only [List.length_append, List.length_replicate, List.length_cons, List.length_nil, List.length_reverse, List.length_map, u32L_length, u8L_length, List.length_take, List.length_drop, List.length_set] <;> omega)) only [c_add, c_mul, c_tdiv, c_tmod, c_shl, c_shr, c_toNat, w64_nat, w64_sub, w8u, w32u, w64u, w64u_sub, w32u_sub, or64, or32, and64, and_mask32, andI, orI, min_b64, min_b32, min_bi, min_l, p_32, p_63, Nat.mod_eq_of_lt, chk_u32, toInt_int, d_le, d_lt, b_eq, d_eq, nble_d, nbeq_d, lit_t, lit_f, not_t, dec_t, dec_f, Nat.zero_add, Nat.mul_one, u32L_length, List.length_append, List.length_replicate, List.length_cons, List.length_set, List.length_nil, u32_get, u32_mid, set_mid, decide_true, decide_false, Bool.not_true, Bool.not_false, not_false_eq_true, not_true_eq_false] at hb
        exact hb (hc.2.2 hle) hlt ht hcm
      · have hmq : x / y < (lo + hi + 1) / 2 := Nat.lt_of_not_le (fun hq => hle (hdiv.1 hq))
        refine .next ?_ (ih lo ((lo + hi + 1) / 2 - 1) (by omega) h1 (by omega) (by omega))
        have hb := dig_1 hn x y (y * ((lo + hi + 1) / 2)) lo hi (cmpQ (digQ (y * ((lo + hi + 1) / 2))) (digQ x)) na nb
        simp (disch := first | omega | (simp only [List.length_append, List.length_replicate, List.length_cons, List.length_nil, List.length_reverse, List.length_map, u32L_length, u8L_length, List.length_take, List.length_drop, List.length_set] <;> omega)) only [c_add, c_mul, c_tdiv, c_tmod, c_shl, c_shr, c_toNat, w64_nat, w64_sub, w8u, w32u, w64u, w64u_sub, w32u_sub, or64, or32, and64, and_mask32, andI, orI, min_b64, min_b32, min_bi, min_l, p_32, p_63, Nat.mod_eq_of_lt, chk_u32, toInt_int, d_le, d_lt, b_eq, d_eq, nble_d, nbeq_d, lit_t, lit_f, not_t, dec_t, dec_f, Nat.zero_add, Nat.mul_one, u32L_length, List.length_append, List.length_replicate, List.length_cons, List.length_set, List.length_nil, u32_get, u32_mid, set_mid, decide_true, decide_false, Bool.not_true, Bool.not_false, not_false_eq_true, not_true_eq_false] at hb
        exact hb (fun hq => hle (hc.2.1 hq)) hlt ht hcm
    · have he : lo = x / y := by omega
      have hb := dig_2 hn x y 0 lo hi 0 na nb (by rw [d_lt]; simp [lit]; omega)
      rw [← he]
      exact .done hb
theorem digit_ok (x y : Nat) (na nb : Bool) (hy : 0 < y) (hxy : x < y * 16777216) (hxl : (digQ x).length < 2 ^ 36) (hyl : (digQ y).length < 2 ^ 35) : CO 125 [.sl (i64L (digQ x)) (digQ x).length na, .sl (i64L (digQ y)) (digQ y).length nb] (.ret (.int .i64 ((x / y : Nat) : Int))) := by
  have hq : x / y < 16777216 := by rw [Nat.div_lt_iff_lt_mul hy, Nat.mul_comm]; exact hxy
  exact digF_0 x y (x / y) na nb (LoopR.blk (fun nt hn => di_loop hn x y na nb hy hxl hyl 16777216 0 16777215 (by omega) (Nat.zero_le _) (Nat.le_of_lt_succ hq) (by omega)) (by simp) rfl (Less.of ⟨rfl, rfl, rfl, rfl, trivial⟩) (Less.of ⟨rfl, trivial⟩))
/-! ### bytes -/
theorem valS_snoc (l : List UInt8) (c : UInt8) : valS (l ++ [c]) = valS l * 256 + c.toNat := by
  unfold valS; rw [List.foldl_append]; rfl
theorem toNat_ofNat {x : Nat} (h : x < 256) : (UInt8.ofNat x).toNat = x := by
  rw [UInt8.toNat_ofNat']; exact Nat.mod_eq_of_lt h
/-- Bytes of numbers. -/
def bS (o : List Nat) : List UInt8 := o.map UInt8.ofNat
theorem bS_u8 (o : List Nat) : List.map (fun c => UInt8.ofNat (Int.toNat (AV.toInt c))) (u8L o) = bS o := by
  unfold u8L bS; rw [List.map_map]; rfl
theorem take_u8 (l : List Nat) (k : Nat) : List.take k (u8L l) = u8L (l.take k) := by unfold u8L; rw [List.map_take]
/-- The bytes of digits, those of the greatest first. -/
def byL (l : List Nat) : Nat → List Nat
  | 0 => []
  | k + 1 => [l.getD k 0 / 65536, l.getD k 0 / 256 % 256, l.getD k 0 % 256] ++ byL l k
theorem bS_app (a b : List Nat) : bS (a ++ b) = bS a ++ bS b := by unfold bS; rw [List.map_append]
theorem byL_val {l : List Nat} (hl : LimQ l) : ∀ (k : Nat) (o : List Nat), k ≤ l.length → valS (bS (o ++ byL l k)) = valS (bS o) * 16777216 ^ k + valQ (l.take k)
  | 0, o, _ => by simp [byL, valQ]
  | k + 1, o, h => by
    simp only [byL]
    rw [← List.append_assoc, byL_val hl k _ (by omega), valQ_take_succ (by omega)]
    have hd := hl.getD k
    generalize l.getD k 0 = d at *
    have e : valS (bS (o ++ [d / 65536, d / 256 % 256, d % 256])) = valS (bS o) * 16777216 + d := by
      rw [show o ++ [d / 65536, d / 256 % 256, d % 256] = ((o ++ [d / 65536]) ++ [d / 256 % 256]) ++ [d % 256] by simp, bS_app, bS_app, bS_app]
      simp only [bS, List.map_cons, List.map_nil]
      rw [valS_snoc, valS_snoc, valS_snoc, toNat_ofNat (show d / 65536 < 256 by omega), toNat_ofNat (Nat.mod_lt _ (by omega)), toNat_ofNat (Nat.mod_lt _ (by omega))]
      omega
    rw [e, Nat.add_mul, Nat.pow_succ, Nat.mul_comm (16777216 ^ k) 16777216, Nat.mul_assoc, Nat.mul_comm d]
    omega
def apE8 (l : List Nat) : AV := match l with | [] => .nilS | x :: l => .ref 0 0 0 (x :: l).length
def apH8 (l : List Nat) : Hp := match l with | [] => [] | x :: l => [(0, { cells := u8L (x :: l), ver := 0, fro := false, fz := 0, esz := 1, pr := true })]
theorem apE8_ne {l : List Nat} (h : l ≠ []) : apE8 l = .ref 0 0 0 l.length := by cases l with | nil => exact absurd rfl h | cons _ _ => rfl
theorem apH8_ne {l : List Nat} (h : l ≠ []) : apH8 l = [(0, { cells := u8L l, ver := 0, fro := false, fz := 0, esz := 1, pr := true })] := by cases l with | nil => exact absurd rfl h | cons _ _ => rfl
def nuSt (l : List Nat) (nn : Bool) (p : Nat × List Nat) : St := { env := [(0, .sl (i64L l) l.length nn), (3, apE8 p.2), (4, .int .i64 ((p.1 : Int) - 1))], hp := apH8 p.2, md := .dead, dfs := [] }
def nuOut (o : List Nat) : St := { env := [(3, apE8 o)], hp := apH8 o, md := .dead, dfs := [] }
theorem u8_app3 (o : List Nat) (a b c : Nat) : u8L o ++ [AV.int .u8 (a : Int), AV.int .u8 (b : Int), AV.int .u8 (c : Int)] = u8L (o ++ [a, b, c]) := by simp [u8L]
theorem p_16' : (2 : Nat) ^ 16 = 65536 := by decide
theorem p_8' : (2 : Nat) ^ 8 = 256 := by decide
theorem nu_loop {nt : Nat} (hn : 35 ≤ nt) (l : List Nat) (nn : Bool) (hl : l.length < 2 ^ 36) (hll : LimQ l) : ∀ (k : Nat) (o : List Nat), k ≤ l.length → o.length + 3 * k = 3 * l.length → LoopR Tryz.prog ap [] nt (loopBody 0 (bodyOf Tryz.f64)) (fun _ => .exit 0) (nuSt l nn) nuOut (k, o) (o ++ byL l k) := by
  intro k
  induction k with
  | zero =>
    intro o _ _
    simp only [byL, List.append_nil]
    refine .done ?_
    unfold nuSt nuOut
    rcases Decidable.em (o = []) with rfl | hne
    · exact numNE_0 hn l [] nn
    · rw [apE8_ne hne, apH8_ne hne]
      exact numCE_0 hn l o nn
  | succ k ih =>
    intro o hk ho
    have hd := hll.getD k
    have ek : (((k + 1 : Nat) : Int) - 1) = (k : Int) := by omega
    have ew : IntKind.wrap .i64 ((k : Int) - ((1 : Nat) : Int)) = (k : Int) - 1 := w64_id (by omega) (by omega)
    have hnext := ih (o ++ [l.getD k 0 / 65536, l.getD k 0 / 256 % 256, l.getD k 0 % 256]) (by omega) (by simp; omega)
    rw [List.append_assoc] at hnext
    simp only [byL]
    refine .next ?_ hnext
    unfold nuSt
    rw [ek]
    generalize hg : l.getD k 0 = d at *
    have hne' : o ++ [d / 65536, d / 256 % 256, d % 256] ≠ [] := by simp
    rcases Decidable.em (o = []) with rfl | hne
    · have hb := numN_0 hn l [] k nn
      simp (disch := first | omega | (simp only [List.length_append, List.length_replicate, List.length_cons, List.length_nil, List.length_reverse, List.length_map, u32L_length, u8L_length, List.length_take, List.length_drop, List.length_set] <;> omega)) only [c_add, c_mul, c_tdiv, c_tmod, c_shl, c_shr, c_toNat, w64_nat, w64_sub, w8u, w32u, w64u, w64u_sub, w32u_sub, or64, or32, and64, and_mask32, andI, orI, min_b64, min_b32, min_bi, min_l, p_32, p_63, Nat.mod_eq_of_lt, chk_u32, toInt_int, d_le, d_lt, b_eq, d_eq, nble_d, nbeq_d, lit_t, lit_f, not_t, dec_t, dec_f, Nat.zero_add, Nat.mul_one, u32L_length, List.length_append, List.length_replicate, List.length_cons, List.length_set, List.length_nil, u32_get, u32_mid, set_mid, decide_true, decide_false, Bool.not_true, Bool.not_false, not_false_eq_true, not_true_eq_false, i64_get, chk_i64, ew, hg, min_64, p_16', p_8', show min 16 64 = 16 from rfl, show min 8 64 = 8 from rfl] at hb
      simp only [List.nil_append, apE8, apH8, u8L, List.map_cons, List.map_nil, List.length_cons, List.length_nil] at hb ⊢
      apply hb <;> first | exact True.intro | omega | assumption
    · have hb := numC_0 hn l o k nn
      rw [apE8_ne hne, apH8_ne hne, apE8_ne hne', apH8_ne hne']
      simp (disch := first | omega | (simp only [List.length_append, List.length_replicate, List.length_cons, List.length_nil, List.length_reverse, List.length_map, u32L_length, u8L_length, List.length_take, List.length_drop, List.length_set] <;> omega)) only [c_add, c_mul, c_tdiv, c_tmod, c_shl, c_shr, c_toNat, w64_nat, w64_sub, w8u, w32u, w64u, w64u_sub, w32u_sub, or64, or32, and64, and_mask32, andI, orI, min_b64, min_b32, min_bi, min_l, p_32, p_63, Nat.mod_eq_of_lt, chk_u32, toInt_int, d_le, d_lt, b_eq, d_eq, nble_d, nbeq_d, lit_t, lit_f, not_t, dec_t, dec_f, Nat.zero_add, Nat.mul_one, u32L_length, List.length_append, List.length_replicate, List.length_cons, List.length_set, List.length_nil, u32_get, u32_mid, set_mid, decide_true, decide_false, Bool.not_true, Bool.not_false, not_false_eq_true, not_true_eq_false, i64_get, chk_i64, ew, hg, p_16', p_8', show min 16 64 = 16 from rfl, show min 8 64 = 8 from rfl, take_u8, List.take_length, u8_app3, u8L_length] at hb
      simp only [List.length_append, List.length_cons, List.length_nil]
      apply hb <;> first | exact True.intro | omega | assumption
theorem number_q (l : List Nat) (nn : Bool) (hl : l.length < 2 ^ 36) (hll : LimQ l) : CO 64 [.sl (i64L l) l.length nn] (.ret (.str (natS (valQ l)))) := by
  have hloop := fun nt (hn : 35 ≤ nt) => nu_loop hn l nn hl hll l.length [] (Nat.le_refl _) (by simp)
  have hv := byL_val hll l.length [] (Nat.le_refl _)
  have hbl : (byL l l.length).length = 3 * l.length := by
    have : ∀ k, (byL l k).length = 3 * k := by
      intro k
      induction k with
      | zero => rfl
      | succ k ih => simp only [byL, List.length_append, List.length_cons, List.length_nil, ih]; omega
    exact this _
  have ew : IntKind.wrap .i64 (((l.length : Nat) : Int) - ((1 : Nat) : Int)) = (l.length : Int) - 1 := len_pr (by omega)
  simp only [List.nil_append] at hloop hv
  rw [List.take_length, show valS (bS []) = 0 from rfl, Nat.zero_mul, Nat.zero_add] at hv
  generalize byL l l.length = o at *
  rcases Decidable.em (o = []) with rfl | hne
  · rw [← hv]
    exact numNF_0 l [] nn (LoopR.blk hloop (by simp) rfl (Less.of ⟨rfl, rfl, congrArg _ ew, trivial⟩) (Less.of ⟨rfl, trivial⟩)) (canon_ok [] (by simp))
  · have h := numCF_0 l o nn
    have hc := canon_ok (bS o) (by simp [bS]; omega)
    rw [hv] at hc
    have htk : List.take o.length (u8L o) = u8L o := by rw [take_u8, List.take_length]
    simp (disch := first | omega | (simp only [List.length_append, List.length_replicate, List.length_cons, List.length_nil, List.length_reverse, List.length_map, u32L_length, u8L_length, List.length_take, List.length_drop, List.length_set] <;> omega)) only [c_add, c_mul, c_tdiv, c_tmod, c_shl, c_shr, c_toNat, w64_nat, w64_sub, w8u, w32u, w64u, w64u_sub, w32u_sub, or64, or32, and64, and_mask32, andI, orI, min_b64, min_b32, min_bi, min_l, p_32, p_63, Nat.mod_eq_of_lt, chk_u32, toInt_int, d_le, d_lt, b_eq, d_eq, nble_d, nbeq_d, lit_t, lit_f, not_t, dec_t, dec_f, Nat.zero_add, Nat.mul_one, u32L_length, List.length_append, List.length_replicate, List.length_cons, List.length_set, List.length_nil, u32_get, u32_mid, set_mid, decide_true, decide_false, Bool.not_true, Bool.not_false, not_false_eq_true, not_true_eq_false, htk, bS_u8, hv] at h
    apply h <;> first | exact True.intro | omega | assumption | skip
    · exact u8L_length o
    · have : List.all (u8L o) (chk (.int .u8)) = true := by
        rw [List.all_eq_true]; intro x hx
        obtain ⟨d, _, rfl⟩ := List.mem_map.1 hx
        rfl
      exact this
    · exact LoopR.blk hloop (by simp) rfl (Less.of ⟨rfl, rfl, congrArg _ ew, trivial⟩) (by unfold nuOut; rw [apE8_ne hne, apH8_ne hne]; exact Less.of ⟨rfl, trivial⟩)
/-! ### Of, Int, small -/
theorem rof_ok (x : Nat) (hx : x < 9223372036854775808) : CO 39 [.int .i64 ((x : Nat) : Int)] (.ret (.str (natS x))) := by
  rcases Nat.eq_zero_or_pos x with rfl | h0
  · exact rofF_1 0 rfl (canon_ok [] (by simp))
  · have h := rofF_0 x
    have e : ∀ k, Int.toNat (IntKind.wrap .u8 (Int.fdiv ((x : Nat) : Int) (2 ^ k))) = x / 2 ^ k % 256 := by
      intro k; rw [c_shr, w8u, c_toNat]
    simp only [show min 56 64 = 56 from rfl, show min 48 64 = 48 from rfl, show min 40 64 = 40 from rfl, show min 32 64 = 32 from rfl, show min 24 64 = 24 from rfl, show min 16 64 = 16 from rfl, show min 8 64 = 8 from rfl, show min 0 64 = 0 from rfl, e] at h
    have hc := canon_ok [UInt8.ofNat (x / 2 ^ 56 % 256), UInt8.ofNat (x / 2 ^ 48 % 256), UInt8.ofNat (x / 2 ^ 40 % 256), UInt8.ofNat (x / 2 ^ 32 % 256), UInt8.ofNat (x / 2 ^ 24 % 256), UInt8.ofNat (x / 2 ^ 16 % 256), UInt8.ofNat (x / 2 ^ 8 % 256), UInt8.ofNat (x / 2 ^ 0 % 256)] (by simp)
    have hv : valS [UInt8.ofNat (x / 2 ^ 56 % 256), UInt8.ofNat (x / 2 ^ 48 % 256), UInt8.ofNat (x / 2 ^ 40 % 256), UInt8.ofNat (x / 2 ^ 32 % 256), UInt8.ofNat (x / 2 ^ 24 % 256), UInt8.ofNat (x / 2 ^ 16 % 256), UInt8.ofNat (x / 2 ^ 8 % 256), UInt8.ofNat (x / 2 ^ 0 % 256)] = x := by
      have t : ∀ y, (UInt8.ofNat (y % 256)).toNat = y % 256 := fun y => toNat_ofNat (Nat.mod_lt _ (by omega))
      simp only [valS, List.foldl_cons, List.foldl_nil, t]
      omega
    rw [hv] at hc h
    apply h
    · rw [d_lt]; exact decide_eq_true h0
    · exact hc
def intSt (s : List UInt8) (k : Nat) : St := { env := [(0, .str s), (4, .int .i64 ((valS (s.take k) : Nat) : Int)), (5, .int .i64 ((k : Nat) : Int))], hp := [], md := .dead, dfs := [] }
def intOut (s : List UInt8) (k : Nat) : St := { env := [(4, .int .i64 ((valS (s.take k) : Nat) : Int))], hp := [], md := .dead, dfs := [] }
theorem valS_take_succ {s : List UInt8} {k : Nat} (h : k < s.length) : valS (s.take (k + 1)) = valS (s.take k) * 256 + (s.getD k 0).toNat := by
  rw [List.take_add_one, List.getElem?_eq_getElem h, List.getD_eq_getElem?_getD, List.getElem?_eq_getElem h]
  exact valS_snoc _ _
theorem valS_take_le (s : List UInt8) (k : Nat) : valS (s.take k) ≤ valS s := by
  rcases Nat.lt_or_ge k s.length with h | h
  · have e : s = s.take k ++ s.drop k := (List.take_append_drop k s).symm
    have : ∀ (b a : List UInt8), valS a ≤ valS (a ++ b) := by
      intro b
      induction b with
      | nil => intro a; simp
      | cons c r ih =>
        intro a
        have h1 := ih (a ++ [c])
        rw [valS_snoc, List.append_assoc] at h1
        simp only [List.cons_append, List.nil_append] at h1
        omega
    calc valS (s.take k) ≤ valS (s.take k ++ s.drop k) := this _ _
      _ = valS s := by rw [← e]
  · rw [List.take_of_length_le h]; exact Nat.le_refl _
theorem int_loop {nt : Nat} (hn : 35 ≤ nt) (s : List UInt8) (hs : s.length < 2 ^ 40) (hv : valS s < 9223372036854775808) : ∀ (d k : Nat), k + d = s.length → LoopR Tryz.prog ap [] nt (loopBody 0 (bodyOf Tryz.f94)) (fun _ => .exit 0) (intSt s) (intOut s) k s.length := by
  intro d
  induction d with
  | zero =>
    intro k hk
    have hk' : k = s.length := by omega
    subst hk'
    exact .done (rint_1 hn s _ _ (by rw [d_lt]; simp [lit]))
  | succ d ih =>
    intro k hk
    have hks : k < s.length := by omega
    refine .next ?_ (ih (k + 1) (by omega))
    have hb := rint_0 hn s (valS (s.take k)) k
    rw [c_toNat] at hb
    have h1 := valS_take_le s (k + 1)
    have h2 := valS_take_succ hks
    have h3 : (s.getD k 0).toNat < 256 := UInt8.toNat_lt _
    unfold intSt
    rw [h2]
    rw [h2] at h1
    generalize (s.getD k 0).toNat = c at *
    generalize valS (s.take k) = v at *
    have e1 : IntKind.wrap .i64 (((v : Nat) : Int) * 2 ^ (min 8 64)) = ((v * 256 : Nat) : Int) := by
      rw [show min 8 64 = 8 from rfl, w64_id] <;> omega
    have e2 : (((v * 256 : Nat) : Int)) + ((c : Nat) : Int) = ((v * 256 + c : Nat) : Int) := by omega
    have e3 : IntKind.wrap .i64 ((c : Nat) : Int) = (c : Int) := w64_nat (by omega)
    rw [e3, e1, e2, w64_nat (by omega)] at hb
    simp (disch := first | omega | (simp only [List.length_append, List.length_replicate, List.length_cons, List.length_nil, List.length_reverse, List.length_map, u32L_length, u8L_length, List.length_take, List.length_drop, List.length_set] <;> omega)) only [c_add, c_mul, c_tdiv, c_tmod, c_shl, c_shr, c_toNat, w64_nat, w64_sub, w8u, w32u, w64u, w64u_sub, w32u_sub, or64, or32, and64, and_mask32, andI, orI, min_b64, min_b32, min_bi, min_l, p_32, p_63, Nat.mod_eq_of_lt, chk_u32, toInt_int, d_le, d_lt, b_eq, d_eq, nble_d, nbeq_d, lit_t, lit_f, not_t, dec_t, dec_f, Nat.zero_add, Nat.mul_one, u32L_length, List.length_append, List.length_replicate, List.length_cons, List.length_set, List.length_nil, u32_get, u32_mid, set_mid, decide_true, decide_false, Bool.not_true, Bool.not_false, not_false_eq_true, not_true_eq_false] at hb
    apply hb <;> first | exact True.intro | omega | assumption
end Go.Proofs.Tryz

set_option maxRecDepth 100000
open Go AM
namespace Go.Proofs.Tryz
theorem natS_len_iff {x k : Nat} : (natS x).length ≤ k ↔ x < 2 ^ (8 * k) := by
  constructor
  · intro h
    have h1 := valS_lt8 (natS x)
    rw [val_natS] at h1
    exact Nat.lt_of_lt_of_le h1 (Nat.pow_le_pow_right (by omega) (by omega))
  · exact natS_len
theorem int_ok (s : List UInt8) (hs : s.length < 2 ^ 40) (hv : valS s < 9223372036854775808) : CO 94 [.str s] (.ret (.tup [.int .i64 ((valS s : Nat) : Int), .bool true])) := by
  have hc := canon_ok s hs
  have hvn := val_natS (valS s)
  have hl : (natS (valS s)).length ≤ 8 := natS_len (Nat.lt_of_lt_of_le hv (by decide))
  have hloop := fun nt (hn : 35 ≤ nt) => int_loop hn (natS (valS s)) (by omega) (by rw [hvn]; exact hv) (natS (valS s)).length 0 (by omega)
  have hless : Less { env := [(4, .int .i64 ((valS s : Nat) : Int))], hp := [], md := .dead, dfs := [] } (intOut (natS (valS s)) (natS (valS s)).length) := by
    unfold intOut
    rw [List.take_length, hvn]
    exact Less.refl _
  have h2 := rintF_2 s (valS s)
  have h3 := rintF_3 s (valS s)
  have htop : (natS (valS s)).length = 8 → ((natS (valS s)).getD 0 0).toNat ≤ 127 := by
    intro h8
    cases hn : natS (valS s) with
    | nil => rw [hn] at h8; cases h8
    | cons c r =>
      rw [hn] at h8 hvn
      rw [valS_cons] at hvn
      have : r.length = 7 := by simpa using h8
      rw [this, show 256 ^ 7 = 72057594037927936 from rfl] at hvn
      simp only [List.getD_cons_zero]
      omega
  generalize natS (valS s) = t at *
  by_cases h8 : t.length = 8
  · have h127 := htop h8
    simp (disch := first | omega | (simp only [List.length_append, List.length_replicate, List.length_cons, List.length_nil, List.length_reverse, List.length_map, u32L_length, u8L_length, List.length_take, List.length_drop, List.length_set] <;> omega)) only [c_add, c_mul, c_tdiv, c_tmod, c_shl, c_shr, c_toNat, w64_nat, w64_sub, w8u, w32u, w64u, w64u_sub, w32u_sub, or64, or32, and64, and_mask32, andI, orI, min_b64, min_b32, min_bi, min_l, p_32, p_63, Nat.mod_eq_of_lt, chk_u32, toInt_int, d_le, d_lt, b_eq, d_eq, nble_d, nbeq_d, lit_t, lit_f, not_t, dec_t, dec_f, Nat.zero_add, Nat.mul_one, u32L_length, List.length_append, List.length_replicate, List.length_cons, List.length_set, List.length_nil, u32_get, u32_mid, set_mid, decide_true, decide_false, Bool.not_true, Bool.not_false, not_false_eq_true, not_true_eq_false, h8] at h2
    apply h2 <;> first | exact True.intro | omega | assumption | skip
    exact LoopR.blk hloop (by simp) rfl (Less.of ⟨rfl, rfl, rfl, trivial⟩) hless
  · simp (disch := first | omega | (simp only [List.length_append, List.length_replicate, List.length_cons, List.length_nil, List.length_reverse, List.length_map, u32L_length, u8L_length, List.length_take, List.length_drop, List.length_set] <;> omega)) only [c_add, c_mul, c_tdiv, c_tmod, c_shl, c_shr, c_toNat, w64_nat, w64_sub, w8u, w32u, w64u, w64u_sub, w32u_sub, or64, or32, and64, and_mask32, andI, orI, min_b64, min_b32, min_bi, min_l, p_32, p_63, Nat.mod_eq_of_lt, chk_u32, toInt_int, d_le, d_lt, b_eq, d_eq, nble_d, nbeq_d, lit_t, lit_f, not_t, dec_t, dec_f, Nat.zero_add, Nat.mul_one, u32L_length, List.length_append, List.length_replicate, List.length_cons, List.length_set, List.length_nil, u32_get, u32_mid, set_mid, decide_true, decide_false, Bool.not_true, Bool.not_false, not_false_eq_true, not_true_eq_false, h8] at h3
    apply h3 <;> first | exact True.intro | omega | assumption | skip
    exact LoopR.blk hloop (by simp) rfl (Less.of ⟨rfl, rfl, rfl, trivial⟩) hless
theorem small_ok (s : List UInt8) (b : Nat) (hs : s.length < 2 ^ 40) (hb : b ≤ 7) (hv : valS s < 2 ^ (8 * b)) : CO 62 [.str s, .int .i64 ((b : Nat) : Int)] (.ret (.tup [.int .i64 ((valS s : Nat) : Int), .bool true])) := by
  have h := sma_1 s (valS s) b
  have hlt : valS s < 9223372036854775808 := Nat.lt_of_lt_of_le hv (Nat.le_trans (Nat.pow_le_pow_right (by omega) (show 8 * b ≤ 63 by omega)) (by decide))
  have hl := natS_len_iff.2 hv
  simp (disch := first | omega | (simp only [List.length_append, List.length_replicate, List.length_cons, List.length_nil, List.length_reverse, List.length_map, u32L_length, u8L_length, List.length_take, List.length_drop, List.length_set] <;> omega)) only [c_add, c_mul, c_tdiv, c_tmod, c_shl, c_shr, c_toNat, w64_nat, w64_sub, w8u, w32u, w64u, w64u_sub, w32u_sub, or64, or32, and64, and_mask32, andI, orI, min_b64, min_b32, min_bi, min_l, p_32, p_63, Nat.mod_eq_of_lt, chk_u32, toInt_int, d_le, d_lt, b_eq, d_eq, nble_d, nbeq_d, lit_t, lit_f, not_t, dec_t, dec_f, Nat.zero_add, Nat.mul_one, u32L_length, List.length_append, List.length_replicate, List.length_cons, List.length_set, List.length_nil, u32_get, u32_mid, set_mid, decide_true, decide_false, Bool.not_true, Bool.not_false, not_false_eq_true, not_true_eq_false] at h
  exact h (by omega) (canon_ok s hs) (int_ok s hs hlt)
theorem small_no (s : List UInt8) (b : Nat) (hs : s.length < 2 ^ 40) (hv : 2 ^ (8 * b) ≤ valS s) : CO 62 [.str s, .int .i64 ((b : Nat) : Int)] (.ret (.tup [.int .i64 0, .bool false])) := by
  have h := sma_0 s 0 b
  have hl : ¬ (natS (valS s)).length ≤ b := fun h => by have := natS_len_iff.1 h; omega
  simp (disch := first | omega | (simp only [List.length_append, List.length_replicate, List.length_cons, List.length_nil, List.length_reverse, List.length_map, u32L_length, u8L_length, List.length_take, List.length_drop, List.length_set] <;> omega)) only [c_add, c_mul, c_tdiv, c_tmod, c_shl, c_shr, c_toNat, w64_nat, w64_sub, w8u, w32u, w64u, w64u_sub, w32u_sub, or64, or32, and64, and_mask32, andI, orI, min_b64, min_b32, min_bi, min_l, p_32, p_63, Nat.mod_eq_of_lt, chk_u32, toInt_int, d_le, d_lt, b_eq, d_eq, nble_d, nbeq_d, lit_t, lit_f, not_t, dec_t, dec_f, Nat.zero_add, Nat.mul_one, u32L_length, List.length_append, List.length_replicate, List.length_cons, List.length_set, List.length_nil, u32_get, u32_mid, set_mid, decide_true, decide_false, Bool.not_true, Bool.not_false, not_false_eq_true, not_true_eq_false] at h
  exact h (by omega) (canon_ok s hs)
/-! ### Bits -/
theorem lenN_half {d : Nat} (h : 0 < d) : lenN d = lenN (d / 2) + 1 := by
  rcases Nat.lt_or_ge d 2 with h1 | h1
  · have : d = 1 := by omega
    subst this; rfl
  · have := lenN_div (x := d) (k := 1) (by omega)
    rw [Nat.pow_one] at this; omega
def biSt (p : Nat × Nat) : St := { env := [(3, .int .i64 ((p.1 : Nat) : Int)), (4, .int .i64 ((p.2 : Nat) : Int))], hp := [], md := .dead, dfs := [] }
def biOut (n : Nat) : St := { env := [(3, .int .i64 ((n : Nat) : Int))], hp := [], md := .dead, dfs := [] }
theorem bi_loop {nt : Nat} (hn : 24 ≤ nt) : ∀ (b n d : Nat), d < b → d < 256 → n + lenN d < 2 ^ 45 → LoopR Tryz.prog ap [] nt (loopBody 0 (bodyOf Tryz.f70)) (fun _ => .exit 0) biSt biOut (n, d) (n + lenN d) := by
  intro b
  induction b with
  | zero => intro n d h; omega
  | succ b ih =>
    intro n d h hd hn1
    rcases Nat.eq_zero_or_pos d with rfl | h0
    · exact .done (rbi_1 hn n 0 rfl)
    · have hh := lenN_half h0
      rw [hh, show n + (lenN (d / 2) + 1) = n + 1 + lenN (d / 2) by omega]
      refine .next ?_ (ih (n + 1) (d / 2) (by omega) (by omega) (by omega))
      have hb := rbi_0 hn n d
      clear ih hh
      simp (disch := first | omega | (simp only [List.length_append, List.length_replicate, List.length_cons, List.length_nil, List.length_reverse, List.length_map, u32L_length, u8L_length, List.length_take, List.length_drop, List.length_set] <;> omega)) only [c_add, c_mul, c_tdiv, c_tmod, c_shl, c_shr, c_toNat, w64_nat, w64_sub, w8u, w32u, w64u, w64u_sub, w32u_sub, or64, or32, and64, and_mask32, andI, orI, min_b64, min_b32, min_bi, min_l, p_32, p_63, Nat.mod_eq_of_lt, chk_u32, toInt_int, d_le, d_lt, b_eq, d_eq, nble_d, nbeq_d, lit_t, lit_f, not_t, dec_t, dec_f, Nat.zero_add, Nat.mul_one, u32L_length, List.length_append, List.length_replicate, List.length_cons, List.length_set, List.length_nil, u32_get, u32_mid, set_mid, decide_true, decide_false, Bool.not_true, Bool.not_false, not_false_eq_true, not_true_eq_false] at hb
      apply hb <;> first | exact True.intro | omega | assumption
theorem rbits_ok (s : List UInt8) (hs : s.length < 2 ^ 40) : CO 70 [.str s] (.ret (.int .i64 ((lenN (valS s) : Nat) : Int))) := by
  have hc := canon_ok s hs
  have hvn := val_natS (valS s)
  have hR := nR_natS (valS s)
  have hlen : (natS (valS s)).length ≤ s.length := natS_le (Nat.le_refl _)
  have h0 := rbiF_0 s 0
  have h1 := rbiF_1 s (lenN (valS s))
  cases hn : natS (valS s) with
  | nil =>
    rw [hn] at h0 hvn hc
    rw [← hvn]
    exact h0 rfl hc
  | cons c r =>
    rw [hn] at h1 hvn hc hR hlen
    have hc0 : c ≠ 0 := by simpa [nR] using hR
    have hcp : 0 < c.toNat := by
      rcases Nat.eq_zero_or_pos c.toNat with h | h
      · exact absurd (by apply UInt8.toNat_inj.1; simpa using h) hc0
      · exact h
    have hc256 : c.toNat < 256 := UInt8.toNat_lt c
    have hl : lenN (valS s) = 8 * r.length + lenN c.toNat := by
      have e := lenN_shift (x := c.toNat) (y := valS r) (8 * r.length) hcp (valS_lt8 r)
      rw [← e, ← hvn, valS_cons, Nat.mul_comm, show (256 : Nat) = 2 ^ 8 from rfl, ← Nat.pow_mul]
    have hb8 : lenN c.toNat ≤ 8 := lenN_le (by omega)
    simp only [List.length_cons] at hlen
    have hloop := fun nt (hn : 24 ≤ nt) => bi_loop hn 256 (8 * r.length) c.toNat hc256 hc256 (by omega)
    rw [← hl] at hloop
    simp only [List.length_cons, List.getD_cons_zero] at h1
    have e1 : r.length + 1 - 1 = r.length := rfl
    have e2 : (((r.length + 1 : Nat) : Int)) - ((1 : Nat) : Int) = (r.length : Int) := by omega
    have e3 : IntKind.wrap .i64 (r.length : Int) = (r.length : Int) := w64_nat (by omega)
    have e4 : IntKind.wrap .i64 (((8 : Nat) : Int) * (r.length : Int)) = ((8 * r.length : Nat) : Int) := by rw [w64_id] <;> omega
    have e5 : IntKind.wrap .i64 ((c.toNat : Nat) : Int) = (c.toNat : Int) := w64_nat (by omega)
    rw [e2, e3, e4, e5] at h1
    refine h1 (by rw [d_lt]; exact decide_eq_true (by omega)) (by rw [b_eq]; simp [lit]) hc ?_
    exact LoopR.blk hloop (by simp) rfl (Less.of ⟨rfl, rfl, trivial⟩) (Less.of ⟨rfl, trivial⟩)
/-! ### Right, Cmp -/
theorem rnR_ok (s : List UInt8) : CO 102 [.str s] (.ret (.bool (nR s))) := by
  cases s with
  | nil => exact rri_0 [] rfl
  | cons c r =>
    have h := rri_1 (c :: r)
    have e : (!((((c :: r).getD 0 0).toNat : Int) == ((0 : Nat) : Int))) = nR (c :: r) := by
      simp only [List.getD_cons_zero, nR]
      by_cases hc : c = 0
      · subst hc; rfl
      · have : c.toNat ≠ 0 := fun h => hc (by apply UInt8.toNat_inj.1; simpa using h)
        have h1 : ((c.toNat : Int) == ((0 : Nat) : Int)) = false := by simp; omega
        rw [h1]; simp [hc]
    rw [e] at h
    apply h
    · simp
    · simp [lit]; omega
theorem bytesLt_val : ∀ (a b : List UInt8), a.length = b.length → bytesLt a b = decide (valS a < valS b)
  | [], [], _ => rfl
  | [], _ :: _, h => by simp at h
  | _ :: _, [], h => by simp at h
  | x :: a, y :: b, h => by
    have hl : a.length = b.length := by simpa using h
    have ih := bytesLt_val a b hl
    have h1 := valS_lt8 a
    have h2 := valS_lt8 b
    simp only [bytesLt, ih]
    rw [valS_cons, valS_cons, hl, show (256 : Nat) = 2 ^ 8 from rfl, ← Nat.pow_mul]
    rw [hl] at h1
    have hxy : decide (x < y) = decide (x.toNat < y.toNat) := by simp [UInt8.lt_iff_toNat_lt]
    have hxe : (x == y) = decide (x.toNat = y.toNat) := by
      by_cases h : x = y
      · subst h; simp
      · have : x.toNat ≠ y.toNat := fun h' => h (UInt8.toNat_inj.1 h')
        simp [h, this]
    rw [hxy, hxe]
    generalize 2 ^ (8 * b.length) = M at *
    generalize valS a = u at *
    generalize valS b = v at *
    generalize x.toNat = p at *
    generalize y.toNat = q at *
    rcases Nat.lt_trichotomy p q with h3 | h3 | h3
    · have h4 : (p + 1) * M ≤ q * M := Nat.mul_le_mul_right _ h3
      rw [Nat.add_mul, Nat.one_mul] at h4
      rw [decide_eq_true h3, decide_eq_true (show p * M + u < q * M + v by omega)]; rfl
    · subst h3
      rw [decide_eq_false (Nat.lt_irrefl _), decide_eq_true rfl]
      simp
    · have h4 : (q + 1) * M ≤ p * M := Nat.mul_le_mul_right _ h3
      rw [Nat.add_mul, Nat.one_mul] at h4
      rw [decide_eq_false (show ¬ p < q by omega), decide_eq_false (show ¬ p = q by omega), decide_eq_false (show ¬ p * M + u < q * M + v by omega)]; rfl
theorem natS_len_lt {x y : Nat} (h : (natS x).length < (natS y).length) : x < y := by
  rcases Nat.lt_or_ge x y with h1 | h1
  · exact h1
  · have h2 : y ≤ valS (natS x) := by rw [val_natS]; exact h1
    have := natS_le h2
    omega
theorem rcmp_s (s t : List UInt8) (hs : s.length < 2 ^ 40) (ht : t.length < 2 ^ 40) : CO 103 [.str s, .str t] (.ret (.int .i64 (sgn (valS s) (valS t)))) := by
  have c1 := canon_ok s hs
  have c2 := canon_ok t ht
  have hx := val_natS (valS s)
  have hy := val_natS (valS t)
  unfold sgn
  by_cases hl : (natS (valS s)).length = (natS (valS t)).length
  · have hb := bytesLt_val _ _ hl
    rw [hx, hy] at hb
    have he : (natS (valS s) == natS (valS t)) = decide (valS s = valS t) := by
      by_cases h : valS s = valS t
      · rw [h]; simp
      · have : natS (valS s) ≠ natS (valS t) := fun h' => h (natS_inj h')
        simp [h, this]
    have hq : lit false (!((((natS (valS s)).length : Nat) : Int) == (((natS (valS t)).length : Nat) : Int))) = true := by rw [hl]; simp [lit]
    by_cases h1 : valS s < valS t
    · rw [if_pos h1]
      exact rcmpS_2 s t (by rw [hb, decide_eq_true h1]; rfl) hq c1 c2
    · rw [if_neg h1]
      by_cases h2 : valS t < valS s
      · rw [if_pos h2]
        exact rcmpS_3 s t (by rw [hb, he, decide_eq_false h1, decide_eq_false (show ¬ valS s = valS t by omega)]; rfl) (by rw [hb, decide_eq_false h1]; rfl) hq c1 c2
      · rw [if_neg h2]
        exact rcmpS_4 s t (by rw [hb, he, decide_eq_false h1, decide_eq_true (show valS s = valS t by omega)]; rfl) (by rw [hb, decide_eq_false h1]; rfl) hq c1 c2
  · have hq : lit true (!((((natS (valS s)).length : Nat) : Int) == (((natS (valS t)).length : Nat) : Int))) = true := by rw [b_eq, decide_eq_false hl]; rfl
    by_cases h1 : (natS (valS s)).length < (natS (valS t)).length
    · rw [if_pos (natS_len_lt h1)]
      exact rcmpS_0 s t (by rw [d_lt, decide_eq_true h1]; rfl) hq c1 c2
    · have h2 := natS_len_lt (show (natS (valS t)).length < (natS (valS s)).length by omega)
      rw [if_neg (by omega), if_pos h2]
      exact rcmpS_1 s t (by rw [d_lt, decide_eq_false h1]; rfl) hq c1 c2
end Go.Proofs.Tryz

set_option maxRecDepth 100000
open Go AM
namespace Go.Proofs.Tryz
theorem oiN_0 {nt : Nat} (hn : 35 ≤ nt) (s : List UInt8) (o : List Nat) (e d k : Nat) (h0 : (decide (((0 : Nat) : Int) ≤ ((k : Nat) : Int))) = true) (h1 : (decide (((k : Nat) : Int) < (((List.length s) : Nat) : Int))) = true) (h2 : lit true (decide (((k : Nat) : Int) < ((e : Nat) : Int))) = true)  : ExecOk Tryz.prog ap [] nt (loopBody 2 (bodyOf Tryz.f63)) { env := [(0, .str s), (3, .nilS), (4, .int .i64 ((e : Nat) : Int)), (5, .int .i64 ((d : Nat) : Int)), (6, .int .i64 ((k : Nat) : Int))], hp := [], md := .dead, dfs := [] } (.normal) { env := [(0, .str s), (3, .nilS), (4, .int .i64 ((e : Nat) : Int)), (5, .int .i64 (IntKind.wrap .i64 ((IntKind.wrap .i64 (((d : Nat) : Int) * ((256 : Nat) : Int))) + (IntKind.wrap .i64 ((UInt8.toNat (List.getD s (Int.toNat ((k : Nat) : Int)) 0) : Nat) : Int))))), (6, .int .i64 (IntKind.wrap .i64 (((k : Nat) : Int) + ((1 : Nat) : Int))))], hp := [], md := .dead, dfs := [] } :=
  ExecOk.weak (piece_ok good (lf := 3000) (n := 4) (keep := [0, 2, 3, 4, 5, 6, 12, 20]) (ls := []) (orc := [true]) (ans := []) (lps := []) (nt0 := 35) (s' := { env := [(0, .str s), (2, .dead), (3, .nilS), (4, .int .i64 ((e : Nat) : Int)), (5, .int .i64 (IntKind.wrap .i64 ((IntKind.wrap .i64 (((d : Nat) : Int) * ((256 : Nat) : Int))) + (IntKind.wrap .i64 ((UInt8.toNat (List.getD s (Int.toNat ((k : Nat) : Int)) 0) : Nat) : Int))))), (6, .int .i64 (IntKind.wrap .i64 (((k : Nat) : Int) + ((1 : Nat) : Int)))), (12, .dead), (20, .bool (decide (((k : Nat) : Int) < ((e : Nat) : Int))))], hp := [], md := .dead, dfs := [] }) (by kernel_rfl) hn (.c h0 (.c h1 (.c h2 .nil)) : AllB _) (.nil : AllP _) (by kernel_rfl)) (Less.refl _) (Less.of ⟨rfl, rfl, rfl, rfl, rfl, trivial⟩)
theorem oiN_1 {nt : Nat} (hn : 35 ≤ nt) (s : List UInt8) (o : List Nat) (e d k : Nat) (h0 : lit false (decide (((k : Nat) : Int) < ((e : Nat) : Int))) = true)  : ExecOk Tryz.prog ap [] nt (loopBody 2 (bodyOf Tryz.f63)) { env := [(0, .str s), (3, .nilS), (4, .int .i64 ((e : Nat) : Int)), (5, .int .i64 ((d : Nat) : Int)), (6, .int .i64 ((k : Nat) : Int))], hp := [], md := .dead, dfs := [] } (.exit 2) { env := [(0, .str s), (3, .nilS), (4, .int .i64 ((e : Nat) : Int)), (5, .int .i64 ((d : Nat) : Int))], hp := [], md := .dead, dfs := [] } :=
  ExecOk.weak (piece_ok good (lf := 3000) (n := 4) (keep := [0, 2, 3, 4, 5, 6, 12, 20]) (ls := []) (orc := [false]) (ans := []) (lps := []) (nt0 := 35) (s' := { env := [(0, .str s), (2, .dead), (3, .nilS), (4, .int .i64 ((e : Nat) : Int)), (5, .int .i64 ((d : Nat) : Int)), (6, .int .i64 ((k : Nat) : Int)), (12, .dead), (20, .bool (decide (((k : Nat) : Int) < ((e : Nat) : Int))))], hp := [], md := .dead, dfs := [] }) (by kernel_rfl) hn (.c h0 .nil : AllB _) (.nil : AllP _) (by kernel_rfl)) (Less.refl _) (Less.of ⟨rfl, rfl, rfl, rfl, trivial⟩)
theorem oiC_0 {nt : Nat} (hn : 35 ≤ nt) (s : List UInt8) (o : List Nat) (e d k : Nat) (h0 : (decide (((0 : Nat) : Int) ≤ ((k : Nat) : Int))) = true) (h1 : (decide (((k : Nat) : Int) < (((List.length s) : Nat) : Int))) = true) (h2 : lit true (decide (((k : Nat) : Int) < ((e : Nat) : Int))) = true)  : ExecOk Tryz.prog ap [] nt (loopBody 2 (bodyOf Tryz.f63)) { env := [(0, .str s), (3, .ref 0 0 0 o.length), (4, .int .i64 ((e : Nat) : Int)), (5, .int .i64 ((d : Nat) : Int)), (6, .int .i64 ((k : Nat) : Int))], hp := [(0, { cells := (i64L o), ver := 0, fro := false, fz := 0, esz := 1, pr := true })], md := .dead, dfs := [] } (.normal) { env := [(0, .str s), (3, .ref 0 0 0 o.length), (4, .int .i64 ((e : Nat) : Int)), (5, .int .i64 (IntKind.wrap .i64 ((IntKind.wrap .i64 (((d : Nat) : Int) * ((256 : Nat) : Int))) + (IntKind.wrap .i64 ((UInt8.toNat (List.getD s (Int.toNat ((k : Nat) : Int)) 0) : Nat) : Int))))), (6, .int .i64 (IntKind.wrap .i64 (((k : Nat) : Int) + ((1 : Nat) : Int))))], hp := [(0, { cells := (i64L o), ver := 0, fro := false, fz := 0, esz := 1, pr := true })], md := .dead, dfs := [] } :=
  ExecOk.weak (piece_ok good (lf := 3000) (n := 4) (keep := [0, 2, 3, 4, 5, 6, 12, 20]) (ls := []) (orc := [true]) (ans := []) (lps := []) (nt0 := 35) (s' := { env := [(0, .str s), (2, .dead), (3, .ref 0 0 0 o.length), (4, .int .i64 ((e : Nat) : Int)), (5, .int .i64 (IntKind.wrap .i64 ((IntKind.wrap .i64 (((d : Nat) : Int) * ((256 : Nat) : Int))) + (IntKind.wrap .i64 ((UInt8.toNat (List.getD s (Int.toNat ((k : Nat) : Int)) 0) : Nat) : Int))))), (6, .int .i64 (IntKind.wrap .i64 (((k : Nat) : Int) + ((1 : Nat) : Int)))), (12, .dead), (20, .bool (decide (((k : Nat) : Int) < ((e : Nat) : Int))))], hp := [(0, { cells := (i64L o), ver := 0, fro := false, fz := 0, esz := 1, pr := true })], md := .dead, dfs := [] }) (by kernel_rfl) hn (.c h0 (.c h1 (.c h2 .nil)) : AllB _) (.nil : AllP _) (by kernel_rfl)) (Less.refl _) (Less.of ⟨rfl, rfl, rfl, rfl, rfl, trivial⟩)
theorem oiC_1 {nt : Nat} (hn : 35 ≤ nt) (s : List UInt8) (o : List Nat) (e d k : Nat) (h0 : lit false (decide (((k : Nat) : Int) < ((e : Nat) : Int))) = true)  : ExecOk Tryz.prog ap [] nt (loopBody 2 (bodyOf Tryz.f63)) { env := [(0, .str s), (3, .ref 0 0 0 o.length), (4, .int .i64 ((e : Nat) : Int)), (5, .int .i64 ((d : Nat) : Int)), (6, .int .i64 ((k : Nat) : Int))], hp := [(0, { cells := (i64L o), ver := 0, fro := false, fz := 0, esz := 1, pr := true })], md := .dead, dfs := [] } (.exit 2) { env := [(0, .str s), (3, .ref 0 0 0 o.length), (4, .int .i64 ((e : Nat) : Int)), (5, .int .i64 ((d : Nat) : Int))], hp := [(0, { cells := (i64L o), ver := 0, fro := false, fz := 0, esz := 1, pr := true })], md := .dead, dfs := [] } :=
  ExecOk.weak (piece_ok good (lf := 3000) (n := 4) (keep := [0, 2, 3, 4, 5, 6, 12, 20]) (ls := []) (orc := [false]) (ans := []) (lps := []) (nt0 := 35) (s' := { env := [(0, .str s), (2, .dead), (3, .ref 0 0 0 o.length), (4, .int .i64 ((e : Nat) : Int)), (5, .int .i64 ((d : Nat) : Int)), (6, .int .i64 ((k : Nat) : Int)), (12, .dead), (20, .bool (decide (((k : Nat) : Int) < ((e : Nat) : Int))))], hp := [(0, { cells := (i64L o), ver := 0, fro := false, fz := 0, esz := 1, pr := true })], md := .dead, dfs := [] }) (by kernel_rfl) hn (.c h0 .nil : AllB _) (.nil : AllP _) (by kernel_rfl)) (Less.refl _) (Less.of ⟨rfl, rfl, rfl, rfl, trivial⟩)
theorem ofN_0 {nt : Nat} (hn : 35 ≤ nt) (s : List UInt8) (o : List Nat) (z : Int) (d : Nat) (h0 : lit true (decide (((0 : Nat) : Int) < z)) = true) (l0 : LoopOk Tryz.prog ap [] 35 (.block 2 (.loop (loopBody 2 (bodyOf Tryz.f63)))) { env := [(0, .str s), (2, .dead), (3, .nilS), (4, .int .i64 z), (5, .int .i64 0), (6, .int .i64 (if ((0 : Nat) : Int) > (IntKind.wrap .i64 (z - ((3 : Nat) : Int))) then ((0 : Nat) : Int) else (IntKind.wrap .i64 (z - ((3 : Nat) : Int))))), (12, .bool (decide (((0 : Nat) : Int) < z))), (20, .dead)], hp := [], md := .dead, dfs := [] } (.normal) { env := [(0, .str s), (4, .int .i64 z), (5, .int .i64 ((d : Nat) : Int)), (3, .nilS)], hp := [], md := .dead, dfs := [] }) : ExecOk Tryz.prog ap [] nt (loopBody 0 (bodyOf Tryz.f63)) { env := [(0, .str s), (3, .nilS), (4, .int .i64 z)], hp := [], md := .dead, dfs := [] } (.normal) { env := [(0, .str s), (3, .ref 0 0 0 1), (4, .int .i64 (IntKind.wrap .i64 (z - ((3 : Nat) : Int))))], hp := [(0, { cells := [.int .i64 ((d : Nat) : Int)], ver := 0, fro := false, fz := 0, esz := 1, pr := true })], md := .dead, dfs := [] } :=
  ExecOk.weak (piece_ok good (lf := 3000) (n := 4) (keep := [0, 2, 3, 4, 5, 6, 12, 20]) (ls := [2]) (orc := [true, false]) (ans := []) (lps := [(.normal, { env := [(0, .str s), (4, .int .i64 z), (5, .int .i64 ((d : Nat) : Int)), (3, .nilS)], hp := [], md := .dead, dfs := [] })]) (nt0 := 35) (s' := { env := [(0, .str s), (2, .dead), (3, .ref 0 0 0 1), (4, .int .i64 (IntKind.wrap .i64 (z - ((3 : Nat) : Int)))), (5, .int .i64 ((d : Nat) : Int)), (6, .dead), (12, .dead), (20, .dead)], hp := [(0, { cells := [.int .i64 ((d : Nat) : Int)], ver := 0, fro := false, fz := 0, esz := 1, pr := true })], md := .dead, dfs := [] }) (by kernel_rfl) hn (.t (.t (.t (.c h0 .nil))) : AllB _) (.cons l0 .nil : AllP _) (by kernel_rfl)) (Less.refl _) (Less.of ⟨rfl, rfl, rfl, trivial⟩)
theorem ofN_1 {nt : Nat} (hn : 35 ≤ nt) (s : List UInt8) (o : List Nat) (z : Int) (d : Nat) (h0 : lit false (decide (((0 : Nat) : Int) < z)) = true)  : ExecOk Tryz.prog ap [] nt (loopBody 0 (bodyOf Tryz.f63)) { env := [(0, .str s), (3, .nilS), (4, .int .i64 z)], hp := [], md := .dead, dfs := [] } (.exit 0) { env := [(3, .nilS)], hp := [], md := .dead, dfs := [] } :=
  ExecOk.weak (piece_ok good (lf := 3000) (n := 4) (keep := [0, 2, 3, 4, 5, 6, 12, 20]) (ls := [2]) (orc := [false]) (ans := []) (lps := []) (nt0 := 35) (s' := { env := [(0, .str s), (2, .dead), (3, .nilS), (4, .int .i64 z), (5, .dead), (6, .dead), (12, .bool (decide (((0 : Nat) : Int) < z))), (20, .dead)], hp := [], md := .dead, dfs := [] }) (by kernel_rfl) hn (.c h0 .nil : AllB _) (.nil : AllP _) (by kernel_rfl)) (Less.refl _) (Less.of ⟨rfl, trivial⟩)
theorem ofNF_0 (s : List UInt8) (o : List Nat)  (c0 : CallOk Tryz.prog ap 61 [.str s] [] (.ret (.str (natS (valS s)))) []) (l0 : LoopOk Tryz.prog ap [] 35 (.block 0 (.loop (loopBody 0 (bodyOf Tryz.f63)))) { env := [(0, .str (natS (valS s))), (2, .nilS), (3, .nilS), (4, .int .i64 (((List.length (natS (valS s))) : Nat) : Int)), (5, .dead), (6, .dead), (12, .dead), (20, .dead)], hp := [], md := .dead, dfs := [] } (.normal) { env := [(3, .nilS)], hp := [], md := .dead, dfs := [] }) : CallOk Tryz.prog ap 63 [.str s] [] (.ret (.nilS)) [] := path_ok good (lf := 3000) (n := 4) (ls := [0]) (orc := []) (ans := [(.ret (.str (natS (valS s))), [])]) (lps := [(.normal, { env := [(3, .nilS)], hp := [], md := .dead, dfs := [] })]) (.nil : AllB _) (.cons l0 (.cons c0 .nil) : AllP _) (by kernel_rfl)
theorem ofC_0 {nt : Nat} (hn : 35 ≤ nt) (s : List UInt8) (o : List Nat) (z : Int) (d : Nat) (h0 : (Nat.ble (o.length + 1) 1099511627776) = true) (h1 : (Nat.ble (o.length * 1) (List.length (i64L o))) = true) (h2 : lit true (decide (((0 : Nat) : Int) < z)) = true) (l0 : LoopOk Tryz.prog ap [] 35 (.block 2 (.loop (loopBody 2 (bodyOf Tryz.f63)))) { env := [(0, .str s), (2, .dead), (3, .ref 0 0 0 o.length), (4, .int .i64 z), (5, .int .i64 0), (6, .int .i64 (if ((0 : Nat) : Int) > (IntKind.wrap .i64 (z - ((3 : Nat) : Int))) then ((0 : Nat) : Int) else (IntKind.wrap .i64 (z - ((3 : Nat) : Int))))), (12, .bool (decide (((0 : Nat) : Int) < z))), (20, .dead)], hp := [(0, { cells := (i64L o), ver := 0, fro := false, fz := 0, esz := 1, pr := true })], md := .dead, dfs := [] } (.normal) { env := [(0, .str s), (4, .int .i64 z), (5, .int .i64 ((d : Nat) : Int)), (3, .ref 0 0 0 o.length)], hp := [(0, { cells := (i64L o), ver := 0, fro := false, fz := 0, esz := 1, pr := true })], md := .dead, dfs := [] }) : ExecOk Tryz.prog ap [] nt (loopBody 0 (bodyOf Tryz.f63)) { env := [(0, .str s), (3, .ref 0 0 0 o.length), (4, .int .i64 z)], hp := [(0, { cells := (i64L o), ver := 0, fro := false, fz := 0, esz := 1, pr := true })], md := .dead, dfs := [] } (.normal) { env := [(0, .str s), (3, .ref 0 0 0 (o.length + 1)), (4, .int .i64 (IntKind.wrap .i64 (z - ((3 : Nat) : Int))))], hp := [(0, { cells := ((List.take (o.length * 1) (i64L o)) ++ [.int .i64 ((d : Nat) : Int)]), ver := 0, fro := false, fz := 0, esz := 1, pr := true })], md := .dead, dfs := [] } :=
  ExecOk.weak (piece_ok good (lf := 3000) (n := 4) (keep := [0, 2, 3, 4, 5, 6, 12, 20]) (ls := [2]) (orc := [true]) (ans := []) (lps := [(.normal, { env := [(0, .str s), (4, .int .i64 z), (5, .int .i64 ((d : Nat) : Int)), (3, .ref 0 0 0 o.length)], hp := [(0, { cells := (i64L o), ver := 0, fro := false, fz := 0, esz := 1, pr := true })], md := .dead, dfs := [] })]) (nt0 := 35) (s' := { env := [(0, .str s), (2, .dead), (3, .ref 0 0 0 (o.length + 1)), (4, .int .i64 (IntKind.wrap .i64 (z - ((3 : Nat) : Int)))), (5, .int .i64 ((d : Nat) : Int)), (6, .dead), (12, .dead), (20, .dead)], hp := [(0, { cells := ((List.take (o.length * 1) (i64L o)) ++ [.int .i64 ((d : Nat) : Int)]), ver := 0, fro := false, fz := 0, esz := 1, pr := true })], md := .dead, dfs := [] }) (by kernel_rfl) hn (.t (.c h0 (.c h1 (.t (.c h2 .nil)))) : AllB _) (.cons l0 .nil : AllP _) (by kernel_rfl)) (Less.refl _) (Less.of ⟨rfl, rfl, rfl, trivial⟩)
theorem ofC_1 {nt : Nat} (hn : 35 ≤ nt) (s : List UInt8) (o : List Nat) (z : Int) (d : Nat) (h0 : lit false (decide (((0 : Nat) : Int) < z)) = true)  : ExecOk Tryz.prog ap [] nt (loopBody 0 (bodyOf Tryz.f63)) { env := [(0, .str s), (3, .ref 0 0 0 o.length), (4, .int .i64 z)], hp := [(0, { cells := (i64L o), ver := 0, fro := false, fz := 0, esz := 1, pr := true })], md := .dead, dfs := [] } (.exit 0) { env := [(3, .ref 0 0 0 o.length)], hp := [(0, { cells := (i64L o), ver := 0, fro := false, fz := 0, esz := 1, pr := true })], md := .dead, dfs := [] } :=
  ExecOk.weak (piece_ok good (lf := 3000) (n := 4) (keep := [0, 2, 3, 4, 5, 6, 12, 20]) (ls := [2]) (orc := [false]) (ans := []) (lps := []) (nt0 := 35) (s' := { env := [(0, .str s), (2, .dead), (3, .ref 0 0 0 o.length), (4, .int .i64 z), (5, .dead), (6, .dead), (12, .bool (decide (((0 : Nat) : Int) < z))), (20, .dead)], hp := [(0, { cells := (i64L o), ver := 0, fro := false, fz := 0, esz := 1, pr := true })], md := .dead, dfs := [] }) (by kernel_rfl) hn (.c h0 .nil : AllB _) (.nil : AllP _) (by kernel_rfl)) (Less.refl _) (Less.of ⟨rfl, trivial⟩)
theorem ofCF_0 (s : List UInt8) (o : List Nat)  (c0 : CallOk Tryz.prog ap 61 [.str s] [] (.ret (.str (natS (valS s)))) []) (l0 : LoopOk Tryz.prog ap [] 35 (.block 0 (.loop (loopBody 0 (bodyOf Tryz.f63)))) { env := [(0, .str (natS (valS s))), (2, .nilS), (3, .nilS), (4, .int .i64 (((List.length (natS (valS s))) : Nat) : Int)), (5, .dead), (6, .dead), (12, .dead), (20, .dead)], hp := [], md := .dead, dfs := [] } (.normal) { env := [(3, .ref 0 0 0 o.length)], hp := [(0, { cells := (i64L o), ver := 0, fro := false, fz := 0, esz := 1, pr := true })], md := .dead, dfs := [] }) : CallOk Tryz.prog ap 63 [.str s] [] (.ret (.own (List.take (o.length * 1) (i64L o)) o.length 1)) [] := path_ok good (lf := 3000) (n := 4) (ls := [0]) (orc := []) (ans := [(.ret (.str (natS (valS s))), [])]) (lps := [(.normal, { env := [(3, .ref 0 0 0 o.length)], hp := [(0, { cells := (i64L o), ver := 0, fro := false, fz := 0, esz := 1, pr := true })], md := .dead, dfs := [] })]) (.nil : AllB _) (.cons l0 (.cons c0 .nil) : AllP _) (by kernel_rfl)
end Go.Proofs.Tryz

set_option maxRecDepth 100000
open Go AM
namespace Go.Proofs.Tryz
def oiSt (s : List UInt8) (o : List Nat) (e j k : Nat) : St := { env := [(0, .str s), (3, apE o), (4, .int .i64 ((e : Nat) : Int)), (5, .int .i64 ((valS ((s.take k).drop j) : Nat) : Int)), (6, .int .i64 ((k : Nat) : Int))], hp := apH o, md := .dead, dfs := [] }
def oiOut (s : List UInt8) (o : List Nat) (e d : Nat) : St := { env := [(0, .str s), (3, apE o), (4, .int .i64 ((e : Nat) : Int)), (5, .int .i64 ((d : Nat) : Int))], hp := apH o, md := .dead, dfs := [] }
theorem part_succ {s : List UInt8} {j k : Nat} (h : k < s.length) (hj : j ≤ k) : valS ((s.take (k + 1)).drop j) = valS ((s.take k).drop j) * 256 + (s.getD k 0).toNat := by
  rw [List.take_add_one, List.getElem?_eq_getElem h, List.drop_append_of_le_length (by simp; omega), List.getD_eq_getElem?_getD, List.getElem?_eq_getElem h]
  exact valS_snoc _ _
theorem part_lt {s : List UInt8} {j k : Nat} (h : k ≤ j + 3) : valS ((s.take k).drop j) < 16777216 := by
  have h1 := valS_lt8 ((s.take k).drop j)
  have h2 : ((s.take k).drop j).length ≤ 3 := by simp; omega
  exact Nat.lt_of_lt_of_le h1 (Nat.le_trans (Nat.pow_le_pow_right (by omega) (show 8 * ((s.take k).drop j).length ≤ 24 by omega)) (by decide))
theorem oi_loop {nt : Nat} (hn : 35 ≤ nt) (s : List UInt8) (o : List Nat) (e j : Nat) (hs : s.length < 2 ^ 40) (he : e ≤ s.length) (hj : e ≤ j + 3) : ∀ (n k : Nat), k + n = e → j ≤ k → LoopR Tryz.prog ap [] nt (loopBody 2 (bodyOf Tryz.f63)) (fun _ => .exit 2) (oiSt s o e j) (oiOut s o e) k (valS ((s.take e).drop j)) := by
  intro n
  induction n with
  | zero =>
    intro k hk hjk
    have hke : k = e := by omega
    subst hke
    refine .done ?_
    unfold oiSt oiOut
    rcases Decidable.em (o = []) with rfl | hne
    · exact oiN_1 hn s [] k _ k (by rw [d_lt]; simp [lit])
    · rw [apE_ne hne, apH_ne hne]
      exact oiC_1 hn s o k _ k (by rw [d_lt]; simp [lit])
  | succ n ih =>
    intro k hk hjk
    refine .next ?_ (ih (k + 1) (by omega) (by omega))
    have hks : k < s.length := by omega
    have h1 := part_lt (s := s) (j := j) (k := k) (by omega)
    have h3 : (s.getD k 0).toNat < 256 := UInt8.toNat_lt _
    have h2 := part_succ hks hjk
    unfold oiSt
    rw [h2]
    generalize hc : (s.getD k 0).toNat = c at *
    generalize valS ((s.take k).drop j) = d at *
    clear ih h2
    have e1 : IntKind.wrap .i64 (((d : Nat) : Int) * ((256 : Nat) : Int)) = ((d * 256 : Nat) : Int) := by rw [w64_id] <;> omega
    have e4 : (((d * 256 : Nat) : Int)) + ((c : Nat) : Int) = ((d * 256 + c : Nat) : Int) := by omega
    rcases Decidable.em (o = []) with rfl | hne
    · have hb := oiN_0 hn s [] e d k
      simp (disch := first | omega | (simp only [List.length_append, List.length_replicate, List.length_cons, List.length_nil, List.length_reverse, List.length_map, u32L_length, u8L_length, List.length_take, List.length_drop, List.length_set] <;> omega)) only [c_add, c_mul, c_tdiv, c_tmod, c_shl, c_shr, c_toNat, w64_nat, w64_sub, w8u, w32u, w64u, w64u_sub, w32u_sub, or64, or32, and64, and_mask32, andI, orI, min_b64, min_b32, min_bi, min_l, p_32, p_63, Nat.mod_eq_of_lt, chk_u32, toInt_int, d_le, d_lt, b_eq, d_eq, nble_d, nbeq_d, lit_t, lit_f, not_t, dec_t, dec_f, Nat.zero_add, Nat.mul_one, u32L_length, List.length_append, List.length_replicate, List.length_cons, List.length_set, List.length_nil, u32_get, u32_mid, set_mid, decide_true, decide_false, Bool.not_true, Bool.not_false, not_false_eq_true, not_true_eq_false, hc, e1, e4] at hb
      apply hb <;> first | exact True.intro | omega | assumption
    · have hb := oiC_0 hn s o e d k
      rw [apE_ne hne, apH_ne hne]
      simp (disch := first | omega | (simp only [List.length_append, List.length_replicate, List.length_cons, List.length_nil, List.length_reverse, List.length_map, u32L_length, u8L_length, List.length_take, List.length_drop, List.length_set] <;> omega)) only [c_add, c_mul, c_tdiv, c_tmod, c_shl, c_shr, c_toNat, w64_nat, w64_sub, w8u, w32u, w64u, w64u_sub, w32u_sub, or64, or32, and64, and_mask32, andI, orI, min_b64, min_b32, min_bi, min_l, p_32, p_63, Nat.mod_eq_of_lt, chk_u32, toInt_int, d_le, d_lt, b_eq, d_eq, nble_d, nbeq_d, lit_t, lit_f, not_t, dec_t, dec_f, Nat.zero_add, Nat.mul_one, u32L_length, List.length_append, List.length_replicate, List.length_cons, List.length_set, List.length_nil, u32_get, u32_mid, set_mid, decide_true, decide_false, Bool.not_true, Bool.not_false, not_false_eq_true, not_true_eq_false, hc, e1, e4] at hb
      apply hb <;> first | exact True.intro | omega | assumption
def oqSt (s : List UInt8) (p : Int × List Nat) : St := { env := [(0, .str s), (3, apE p.2), (4, .int .i64 p.1)], hp := apH p.2, md := .dead, dfs := [] }
def oqOut (o : List Nat) : St := { env := [(3, apE o)], hp := apH o, md := .dead, dfs := [] }
theorem of_step {nt : Nat} (hn : 35 ≤ nt) (s : List UInt8) (o : List Nat) (e : Nat) (hs : s.length < 2 ^ 38) (he : e ≤ s.length) (h0 : 0 < e) (ho : o.length < 2 ^ 39) :
    ExecOk Tryz.prog ap [] nt (loopBody 0 (bodyOf Tryz.f63)) (oqSt s ((e : Int), o)) .normal (oqSt s ((e : Int) - 3, o ++ [valS ((s.take e).drop (e - 3))])) := by
  have hloop := fun nt (hn : 35 ≤ nt) => oi_loop hn s o e (e - 3) (by omega) he (by omega) (e - (e - 3)) (e - 3) (by omega) (Nat.le_refl _)
  have hw : IntKind.wrap .i64 (((e : Nat) : Int) - ((3 : Nat) : Int)) = (e : Int) - 3 := w64_id (by omega) (by omega)
  have hj : (if ((0 : Nat) : Int) > (e : Int) - 3 then ((0 : Nat) : Int) else (e : Int) - 3) = ((e - 3 : Nat) : Int) := by
    split <;> omega
  have hd0 : valS ((s.take (e - 3)).drop (e - 3)) = 0 := by
    rw [List.drop_of_length_le (by simp; omega)]; rfl
  have hdl : (List.drop (e - 3) (List.take e s)).length ≤ 3 := by simp; omega
  unfold oqSt
  generalize valS ((s.take e).drop (e - 3)) = d at *
  rcases Decidable.em (o = []) with rfl | hne
  · have hb := ofN_0 hn s [] (e : Int) d
    rw [hw, hj] at hb
    simp (disch := first | omega | (simp only [List.length_append, List.length_replicate, List.length_cons, List.length_nil, List.length_reverse, List.length_map, u32L_length, u8L_length, List.length_take, List.length_drop, List.length_set] <;> omega)) only [c_add, c_mul, c_tdiv, c_tmod, c_shl, c_shr, c_toNat, w64_nat, w64_sub, w8u, w32u, w64u, w64u_sub, w32u_sub, or64, or32, and64, and_mask32, andI, orI, min_b64, min_b32, min_bi, min_l, p_32, p_63, Nat.mod_eq_of_lt, chk_u32, toInt_int, d_le, d_lt, b_eq, d_eq, nble_d, nbeq_d, lit_t, lit_f, not_t, dec_t, dec_f, Nat.zero_add, Nat.mul_one, u32L_length, List.length_append, List.length_replicate, List.length_cons, List.length_set, List.length_nil, u32_get, u32_mid, set_mid, decide_true, decide_false, Bool.not_true, Bool.not_false, not_false_eq_true, not_true_eq_false] at hb
    simp only [List.nil_append, apE, apH, i64L, List.map_cons, List.map_nil, List.length_cons, List.length_nil] at hb ⊢
    apply hb
    · omega
    · refine LoopR.blk hloop (by simp) rfl ?_ (Less.of ⟨rfl, rfl, rfl, rfl, trivial⟩)
      unfold oiSt
      rw [hd0]
      exact Less.of ⟨rfl, rfl, rfl, rfl, rfl, trivial⟩
  · have hb := ofC_0 hn s o (e : Int) d
    rw [hw, hj] at hb
    rw [apE_ne hne, apH_ne hne, apE_ne (snoc_ne _ _), apH_ne (snoc_ne _ _)]
    simp (disch := first | omega | (simp only [List.length_append, List.length_replicate, List.length_cons, List.length_nil, List.length_reverse, List.length_map, u32L_length, u8L_length, List.length_take, List.length_drop, List.length_set] <;> omega)) only [c_add, c_mul, c_tdiv, c_tmod, c_shl, c_shr, c_toNat, w64_nat, w64_sub, w8u, w32u, w64u, w64u_sub, w32u_sub, or64, or32, and64, and_mask32, andI, orI, min_b64, min_b32, min_bi, min_l, p_32, p_63, Nat.mod_eq_of_lt, chk_u32, toInt_int, d_le, d_lt, b_eq, d_eq, nble_d, nbeq_d, lit_t, lit_f, not_t, dec_t, dec_f, Nat.zero_add, Nat.mul_one, u32L_length, List.length_append, List.length_replicate, List.length_cons, List.length_set, List.length_nil, u32_get, u32_mid, set_mid, decide_true, decide_false, Bool.not_true, Bool.not_false, not_false_eq_true, not_true_eq_false, take_i64, List.take_length, i64_snoc, i64L_length] at hb
    simp only [List.length_append, List.length_singleton]
    apply hb <;> first | exact True.intro | omega | assumption | skip
    · refine LoopR.blk hloop (by simp) rfl ?_ ?_
      · unfold oiSt
        rw [hd0, apE_ne hne, apH_ne hne]
        exact Less.of ⟨rfl, rfl, rfl, rfl, rfl, trivial⟩
      · unfold oiOut
        rw [apE_ne hne, apH_ne hne]
        exact Less.of ⟨rfl, rfl, rfl, rfl, trivial⟩
theorem of_end {nt : Nat} (hn : 35 ≤ nt) (s : List UInt8) (o : List Nat) (z : Int) (hz : z ≤ 0) : ExecOk Tryz.prog ap [] nt (loopBody 0 (bodyOf Tryz.f63)) (oqSt s (z, o)) (.exit 0) (oqOut o) := by
  unfold oqSt oqOut
  have hc : lit false (decide (((0 : Nat) : Int) < z)) = true := by simp [lit]; exact hz
  rcases Decidable.em (o = []) with rfl | hne
  · exact ofN_1 hn s [] z 0 hc
  · rw [apE_ne hne, apH_ne hne]
    exact ofC_1 hn s o z 0 hc
theorem chunk {s : List UInt8} {e : Nat} (he : e ≤ s.length) : valS (s.take e) = 16777216 * valS (s.take (e - 3)) + valS ((s.take e).drop (e - 3)) := by
  have happ : ∀ (b a : List UInt8), valS (a ++ b) = valS a * 256 ^ b.length + valS b := by
    intro b a
    unfold valS
    rw [List.foldl_append, foldl_val]; rfl
  have hs : s.take e = s.take (e - 3) ++ (s.take e).drop (e - 3) := by
    have h1 := List.take_append_drop (e - 3) (s.take e)
    rw [List.take_take, Nat.min_eq_left (by omega)] at h1
    exact h1.symm
  have h2 := happ ((s.take e).drop (e - 3)) (s.take (e - 3))
  rw [← hs] at h2
  rw [h2]
  rcases Nat.lt_or_ge e 3 with h3 | h3
  · have : e - 3 = 0 := by omega
    rw [this]; simp [valS]
  · have : ((s.take e).drop (e - 3)).length = 3 := by simp; omega
    rw [this, Nat.mul_comm, show 256 ^ 3 = 16777216 from rfl]
theorem of_loopQ {nt : Nat} (hn : 35 ≤ nt) (s : List UInt8) (hs : s.length < 2 ^ 38) (hR : nR s = true) : ∀ (n e : Nat) (o : List Nat), e < n → e ≤ s.length → o.length + e < 2 ^ 39 → LoopR Tryz.prog ap [] nt (loopBody 0 (bodyOf Tryz.f63)) (fun _ => .exit 0) (oqSt s) oqOut ((e : Int), o) (o ++ digQ (valS (s.take e))) := by
  intro n
  induction n with
  | zero => intro e o h; omega
  | succ n ih =>
    intro e o h he ho
    rcases Nat.eq_zero_or_pos e with rfl | h0
    · have : valS (s.take 0) = 0 := rfl
      rw [this, digQ_zero, List.append_nil]
      exact .done (of_end hn s o _ (by omega))
    · have hv : 0 < valS (s.take e) := by
        cases s with
        | nil => simp at he; omega
        | cons c r =>
          have hc : c ≠ 0 := by simpa [nR] using hR
          have hcp : 0 < c.toNat := by
            rcases Nat.eq_zero_or_pos c.toNat with h | h
            · exact absurd (by apply UInt8.toNat_inj.1; simpa using h) hc
            · exact h
          obtain ⟨e', rfl⟩ : ∃ e', e = e' + 1 := ⟨e - 1, by omega⟩
          rw [List.take_succ_cons, valS_cons]
          have := Nat.mul_pos hcp (show 0 < 256 ^ (r.take e').length from Nat.pow_pos (by omega))
          omega
      have hch := chunk he
      have hd := part_lt (s := s) (j := e - 3) (k := e) (by omega)
      have hstep := of_step hn s o e hs he h0 (by omega)
      rw [digQ_pos hv, show valS (s.take e) % 16777216 = valS ((s.take e).drop (e - 3)) by omega, show valS (s.take e) / 16777216 = valS (s.take (e - 3)) by omega]
      rcases Nat.lt_or_ge e 3 with h3 | h3
      · have e3 : e - 3 = 0 := by omega
        have hz : valS (s.take (e - 3)) = 0 := by rw [e3]; rfl
        rw [hz, digQ_zero]
        exact .next hstep (.done (of_end hn s _ _ (by omega)))
      · have hnext := ih (e - 3) (o ++ [valS ((s.take e).drop (e - 3))]) (by omega) (by omega) (by simp; omega)
        rw [List.append_assoc] at hnext
        rw [show ((e : Int) - 3) = ((e - 3 : Nat) : Int) by omega] at hstep
        exact .next hstep hnext
theorem rof_q (s : List UInt8) (hs : s.length < 2 ^ 37) : CO 63 [.str s] (.ret (.sl (i64L (digQ (valS s))) (digQ (valS s)).length false)) := by
  have hc := canon_ok s (by omega)
  have hlen : (natS (valS s)).length ≤ s.length := natS_le (Nat.le_refl _)
  have hvn := val_natS (valS s)
  have hloop := fun nt (hn : 35 ≤ nt) => of_loopQ hn (natS (valS s)) (by omega) (nR_natS _) ((natS (valS s)).length + 1) (natS (valS s)).length [] (by omega) (Nat.le_refl _) (by simp; omega)
  rw [List.take_length, hvn, List.nil_append] at hloop
  generalize hd : digQ (valS s) = o at *
  rcases Decidable.em (o = []) with rfl | hne
  · have h := ofNF_0 s [] hc (LoopR.blk hloop (by simp) rfl (Less.of ⟨rfl, rfl, rfl, trivial⟩) (Less.of ⟨rfl, trivial⟩))
    exact h.out (OutLe.ret rfl rfl (Fits.nilS false rfl))
  · have h := (ofCF_0 s o hc (LoopR.blk hloop (by simp) rfl (Less.of ⟨rfl, rfl, rfl, trivial⟩) (by unfold oqOut; rw [apE_ne hne, apH_ne hne]; exact Less.of ⟨rfl, trivial⟩))).thaw (by simp)
    simp only [thawO, thaw, Nat.mul_one, take_i64, List.take_length] at h
    exact h.out (OutLe.sl1 _ _ _)
end Go.Proofs.Tryz

set_option maxRecDepth 100000
open Go AM
namespace Go.Proofs.Tryz
theorem qS_0 (s t : List UInt8) (x y q r : Nat) (h0 : lit true ((((List.length (natS (valS t))) : Nat) : Int) == ((0 : Nat) : Int)) = true) (c0 : CallOk Tryz.prog ap 61 [.str t] [] (.ret (.str (natS (valS t)))) []) : CallOk Tryz.prog ap 105 [.str s, .str t] [] (.ret (.tup [.str [], .str [], .bool false])) [] := path_ok good (lf := 3000) (n := 4) (ls := [0]) (orc := [true]) (ans := [(.ret (.str (natS (valS t))), [])]) (lps := []) (.c h0 .nil : AllB _) (.cons c0 .nil : AllP _) (by kernel_rfl)
theorem qS_1 (s t : List UInt8) (x y q r : Nat) (h0 : (!(((y : Nat) : Int) == ((0 : Nat) : Int))) = true) (h1 : lit false ((((List.length (natS (valS t))) : Nat) : Int) == ((0 : Nat) : Int)) = true) (c0 : CallOk Tryz.prog ap 61 [.str t] [] (.ret (.str (natS (valS t)))) []) (c1 : CallOk Tryz.prog ap 62 [.str s, .int .i64 7] [] (.ret (.tup [.int .i64 ((x : Nat) : Int), .bool true])) []) (c2 : CallOk Tryz.prog ap 62 [.str (natS (valS t)), .int .i64 7] [] (.ret (.tup [.int .i64 ((y : Nat) : Int), .bool true])) []) (c3 : CallOk Tryz.prog ap 39 [.int .i64 (IntKind.wrap .i64 (Int.tdiv ((x : Nat) : Int) ((y : Nat) : Int)))] [] (.ret (.str (natS q))) []) (c4 : CallOk Tryz.prog ap 39 [.int .i64 (Int.tmod ((x : Nat) : Int) ((y : Nat) : Int))] [] (.ret (.str (natS r))) []) : CallOk Tryz.prog ap 105 [.str s, .str t] [] (.ret (.tup [.str (natS q), .str (natS r), .bool true])) [] := path_ok good (lf := 3000) (n := 4) (ls := [0]) (orc := [false, true, true]) (ans := [(.ret (.str (natS (valS t))), []), (.ret (.tup [.int .i64 ((x : Nat) : Int), .bool true]), []), (.ret (.tup [.int .i64 ((y : Nat) : Int), .bool true]), []), (.ret (.str (natS q)), []), (.ret (.str (natS r)), [])]) (lps := []) (.c h0 (.c h0 (.t (.t (.c h1 .nil)))) : AllB _) (.cons c4 (.cons c3 (.cons c2 (.cons c1 (.cons c0 .nil)))) : AllP _) (by kernel_rfl)
theorem qA_1 (s t : List UInt8) (x y q r m : Nat) (Q : List Nat) (zy : Int) (b2 : Bool) (h0 : (decide (((0 : Nat) : Int) ≤ (((digQ (valS s)).length : Nat) : Int))) = true) (h1 : (decide ((((digQ (valS s)).length : Nat) : Int) = (((digQ (valS s)).length : Nat) : Int))) = true) (h2 : (decide ((((digQ (valS s)).length : Nat) : Int) ≤ ((1099511627776 : Nat) : Int))) = true) (h3 : lit false ((((List.length (natS (valS t))) : Nat) : Int) == ((0 : Nat) : Int)) = true) (c0 : CallOk Tryz.prog ap 61 [.str t] [] (.ret (.str (natS (valS t)))) []) (c1 : CallOk Tryz.prog ap 62 [.str s, .int .i64 7] [] (.ret (.tup [.int .i64 0, .bool false])) []) (c2 : CallOk Tryz.prog ap 62 [.str (natS (valS t)), .int .i64 7] [] (.ret (.tup [.int .i64 zy, .bool b2])) []) (c3 : CallOk Tryz.prog ap 63 [.str s] [] (.ret (.sl (i64L (digQ (valS s))) (digQ (valS s)).length false)) []) (c4 : CallOk Tryz.prog ap 63 [.str (natS (valS t))] [] (.ret (.sl (i64L (digQ (valS (natS (valS t))))) (digQ (valS (natS (valS t)))).length false)) []) (l0 : LoopOk Tryz.prog ap [] 87 (.block 0 (.loop (loopBody 0 (bodyOf Tryz.f105)))) { env := [(0, .str s), (1, .str (natS (valS t))), (4, .str []), (5, .str []), (6, .bool false), (7, .int .i64 0), (8, .bool false), (9, .int .i64 zy), (10, .bool b2), (11, .sl (i64L (digQ (valS s))) (digQ (valS s)).length false), (12, .sl (i64L (digQ (valS (natS (valS t))))) (digQ (valS (natS (valS t)))).length false), (13, .ref 0 0 0 (Int.toNat (((digQ (valS s)).length : Nat) : Int))), (14, .nilS), (15, .int .i64 (IntKind.wrap .i64 ((((digQ (valS s)).length : Nat) : Int) - ((1 : Nat) : Int)))), (20, .bool ((((List.length (natS (valS t))) : Nat) : Int) == ((0 : Nat) : Int))), (34, .bool false), (54, .dead), (68, .dead)], hp := [(0, { cells := (repL (Int.toNat (((digQ (valS s)).length : Nat) : Int)) [.int .i64 0]), ver := 0, fro := false, fz := 0, esz := 1, pr := true })], md := .dead, dfs := [] } (.normal) { env := [(13, .ref 0 0 0 m), (14, .sl (i64L (digQ r)) (digQ r).length false)], hp := [(0, { cells := (i64L Q), ver := 0, fro := false, fz := 0, esz := 1, pr := true })], md := .dead, dfs := [] }) (c5 : CallOk Tryz.prog ap 64 [.sl (List.take (m * 1) (i64L Q)) m true] [] (.ret (.str (natS q))) []) (c6 : CallOk Tryz.prog ap 64 [.sl (i64L (digQ r)) (digQ r).length false] [] (.ret (.str (natS r))) []) : CallOk Tryz.prog ap 105 [.str s, .str t] [] (.ret (.tup [.str (natS q), .str (natS r), .bool true])) [] := path_ok good (lf := 3000) (n := 4) (ls := [0]) (orc := [false, false, false]) (ans := [(.ret (.str (natS (valS t))), []), (.ret (.tup [.int .i64 0, .bool false]), []), (.ret (.tup [.int .i64 zy, .bool b2]), []), (.ret (.sl (i64L (digQ (valS s))) (digQ (valS s)).length false), []), (.ret (.sl (i64L (digQ (valS (natS (valS t))))) (digQ (valS (natS (valS t)))).length false), []), (.ret (.str (natS q)), []), (.ret (.str (natS r)), [])]) (lps := [(.normal, { env := [(13, .ref 0 0 0 m), (14, .sl (i64L (digQ r)) (digQ r).length false)], hp := [(0, { cells := (i64L Q), ver := 0, fro := false, fz := 0, esz := 1, pr := true })], md := .dead, dfs := [] })]) (.c h0 (.c h1 (.c h2 (.t (.t (.c h3 .nil))))) : AllB _) (.cons c6 (.cons c5 (.cons l0 (.cons c4 (.cons c3 (.cons c2 (.cons c1 (.cons c0 .nil))))))) : AllP _) (by kernel_rfl)
theorem qB_1 (s t : List UInt8) (x y q r m : Nat) (Q : List Nat) (zy : Int) (b2 : Bool) (h0 : (decide (((0 : Nat) : Int) ≤ (((digQ (valS s)).length : Nat) : Int))) = true) (h1 : (decide ((((digQ (valS s)).length : Nat) : Int) = (((digQ (valS s)).length : Nat) : Int))) = true) (h2 : (decide ((((digQ (valS s)).length : Nat) : Int) ≤ ((1099511627776 : Nat) : Int))) = true) (h3 : lit false ((((List.length (natS (valS t))) : Nat) : Int) == ((0 : Nat) : Int)) = true) (c0 : CallOk Tryz.prog ap 61 [.str t] [] (.ret (.str (natS (valS t)))) []) (c1 : CallOk Tryz.prog ap 62 [.str s, .int .i64 7] [] (.ret (.tup [.int .i64 ((x : Nat) : Int), .bool true])) []) (c2 : CallOk Tryz.prog ap 62 [.str (natS (valS t)), .int .i64 7] [] (.ret (.tup [.int .i64 0, .bool false])) []) (c3 : CallOk Tryz.prog ap 63 [.str s] [] (.ret (.sl (i64L (digQ (valS s))) (digQ (valS s)).length false)) []) (c4 : CallOk Tryz.prog ap 63 [.str (natS (valS t))] [] (.ret (.sl (i64L (digQ (valS (natS (valS t))))) (digQ (valS (natS (valS t)))).length false)) []) (l0 : LoopOk Tryz.prog ap [] 87 (.block 0 (.loop (loopBody 0 (bodyOf Tryz.f105)))) { env := [(0, .str s), (1, .str (natS (valS t))), (4, .str []), (5, .str []), (6, .bool false), (7, .int .i64 ((x : Nat) : Int)), (8, .bool true), (9, .int .i64 0), (10, .bool false), (11, .sl (i64L (digQ (valS s))) (digQ (valS s)).length false), (12, .sl (i64L (digQ (valS (natS (valS t))))) (digQ (valS (natS (valS t)))).length false), (13, .ref 0 0 0 (Int.toNat (((digQ (valS s)).length : Nat) : Int))), (14, .nilS), (15, .int .i64 (IntKind.wrap .i64 ((((digQ (valS s)).length : Nat) : Int) - ((1 : Nat) : Int)))), (20, .bool ((((List.length (natS (valS t))) : Nat) : Int) == ((0 : Nat) : Int))), (34, .bool false), (54, .dead), (68, .dead)], hp := [(0, { cells := (repL (Int.toNat (((digQ (valS s)).length : Nat) : Int)) [.int .i64 0]), ver := 0, fro := false, fz := 0, esz := 1, pr := true })], md := .dead, dfs := [] } (.normal) { env := [(13, .ref 0 0 0 m), (14, .sl (i64L (digQ r)) (digQ r).length false)], hp := [(0, { cells := (i64L Q), ver := 0, fro := false, fz := 0, esz := 1, pr := true })], md := .dead, dfs := [] }) (c5 : CallOk Tryz.prog ap 64 [.sl (List.take (m * 1) (i64L Q)) m true] [] (.ret (.str (natS q))) []) (c6 : CallOk Tryz.prog ap 64 [.sl (i64L (digQ r)) (digQ r).length false] [] (.ret (.str (natS r))) []) : CallOk Tryz.prog ap 105 [.str s, .str t] [] (.ret (.tup [.str (natS q), .str (natS r), .bool true])) [] := path_ok good (lf := 3000) (n := 4) (ls := [0]) (orc := [false, true, false]) (ans := [(.ret (.str (natS (valS t))), []), (.ret (.tup [.int .i64 ((x : Nat) : Int), .bool true]), []), (.ret (.tup [.int .i64 0, .bool false]), []), (.ret (.sl (i64L (digQ (valS s))) (digQ (valS s)).length false), []), (.ret (.sl (i64L (digQ (valS (natS (valS t))))) (digQ (valS (natS (valS t)))).length false), []), (.ret (.str (natS q)), []), (.ret (.str (natS r)), [])]) (lps := [(.normal, { env := [(13, .ref 0 0 0 m), (14, .sl (i64L (digQ r)) (digQ r).length false)], hp := [(0, { cells := (i64L Q), ver := 0, fro := false, fz := 0, esz := 1, pr := true })], md := .dead, dfs := [] })]) (.c h0 (.c h1 (.c h2 (.t (.t (.c h3 .nil))))) : AllB _) (.cons c6 (.cons c5 (.cons l0 (.cons c4 (.cons c3 (.cons c2 (.cons c1 (.cons c0 .nil))))))) : AllP _) (by kernel_rfl)
theorem ql_0 {nt : Nat} (hn : 87 ≤ nt) (x y r w q p r2 m k : Nat) (c : Int) (Q : List Nat) (h0 : (chk (.int .i64) (List.headD (List.drop ((0 + (Int.toNat ((k : Nat) : Int))) * 1) (List.take ((0 + (Int.toNat ((k : Nat) : Int))) * 1) (i64L Q) ++ [.int .i64 ((q : Nat) : Int)] ++ List.drop (((0 + (Int.toNat ((k : Nat) : Int))) * 1) + 1) (i64L Q))) .dead)) = true) (h1 : (decide (((0 : Nat) : Int) ≤ ((k : Nat) : Int))) = true) (h2 : (decide (((k : Nat) : Int) < ((m : Nat) : Int))) = true) (h3 : (Nat.ble (((0 + (Int.toNat ((k : Nat) : Int))) * 1) + 1) (List.length (i64L Q))) = true) (h4 : lit true (decide (((0 : Nat) : Int) ≤ c)) = true) (h5 : (Nat.beq (List.length (i64L (digQ r))) ((digQ r).length * 1)) = true) (h6 : (Nat.ble (1 + (digQ r).length) 1099511627776) = true) (h7 : (chk (.int .i64) (List.headD (List.drop ((Int.toNat ((k : Nat) : Int)) * 1) (i64L (digQ x))) .dead)) = true) (h8 : (decide (((k : Nat) : Int) < (((digQ x).length : Nat) : Int))) = true) (h9 : lit true (decide (((0 : Nat) : Int) ≤ ((k : Nat) : Int))) = true) (c0 : CallOk Tryz.prog ap 123 [.sl (List.take ((1 + (digQ r).length) * 1) ([.int .i64 (AV.toInt (List.headD (List.drop ((Int.toNat ((k : Nat) : Int)) * 1) (i64L (digQ x))) .dead))] ++ (i64L (digQ r)))) (1 + (digQ r).length) true] [] (.ret (.sl (i64L (digQ w)) (digQ w).length false)) []) (c1 : CallOk Tryz.prog ap 124 [.sl (i64L (digQ w)) (digQ w).length false, .sl (i64L (digQ y)) (digQ y).length false] [] (.ret (.int .i64 c)) []) (c2 : CallOk Tryz.prog ap 125 [.sl (i64L (digQ w)) (digQ w).length false, .sl (i64L (digQ y)) (digQ y).length false] [] (.ret (.int .i64 ((q : Nat) : Int))) []) (c3 : CallOk Tryz.prog ap 127 [.sl (i64L (digQ y)) (digQ y).length false, .int .i64 (AV.toInt (List.headD (List.drop ((0 + (Int.toNat ((k : Nat) : Int))) * 1) (List.take ((0 + (Int.toNat ((k : Nat) : Int))) * 1) (i64L Q) ++ [.int .i64 ((q : Nat) : Int)] ++ List.drop (((0 + (Int.toNat ((k : Nat) : Int))) * 1) + 1) (i64L Q))) .dead))] [] (.ret (.sl (i64L (digQ p)) (digQ p).length true)) []) (c4 : CallOk Tryz.prog ap 126 [.sl (i64L (digQ w)) (digQ w).length false, .sl (i64L (digQ p)) (digQ p).length true] [] (.ret (.sl (i64L (digQ r2)) (digQ r2).length false)) []) : ExecOk Tryz.prog ap [] nt (loopBody 0 (bodyOf Tryz.f105)) { env := [(11, .sl (i64L (digQ x)) (digQ x).length false), (12, .sl (i64L (digQ y)) (digQ y).length false), (13, .ref 0 0 0 m), (14, .sl (i64L (digQ r)) (digQ r).length false), (15, .int .i64 ((k : Nat) : Int))], hp := [(0, { cells := (i64L Q), ver := 0, fro := false, fz := 0, esz := 1, pr := true })], md := .dead, dfs := [] } (.normal) { env := [(11, .sl (i64L (digQ x)) (digQ x).length false), (12, .sl (i64L (digQ y)) (digQ y).length false), (13, .ref 0 0 0 m), (14, .sl (i64L (digQ r2)) (digQ r2).length false), (15, .int .i64 (IntKind.wrap .i64 (((k : Nat) : Int) - ((1 : Nat) : Int))))], hp := [(0, { cells := (List.take ((0 + (Int.toNat ((k : Nat) : Int))) * 1) (i64L Q) ++ [.int .i64 ((q : Nat) : Int)] ++ List.drop (((0 + (Int.toNat ((k : Nat) : Int))) * 1) + 1) (i64L Q)), ver := 0, fro := false, fz := 0, esz := 1, pr := true })], md := .dead, dfs := [] } :=
  ExecOk.weak (piece_ok good (lf := 3000) (n := 4) (keep := [0, 1, 4, 5, 6, 7, 8, 9, 10, 11, 12, 13, 14, 15, 20, 34, 54, 68]) (ls := []) (orc := [true, true]) (ans := [(.ret (.sl (i64L (digQ w)) (digQ w).length false), []), (.ret (.int .i64 c), []), (.ret (.int .i64 ((q : Nat) : Int)), []), (.ret (.sl (i64L (digQ p)) (digQ p).length true), []), (.ret (.sl (i64L (digQ r2)) (digQ r2).length false), [])]) (lps := []) (nt0 := 87) (s' := { env := [(0, .dead), (1, .dead), (4, .dead), (5, .dead), (6, .dead), (7, .dead), (8, .dead), (9, .dead), (10, .dead), (11, .sl (i64L (digQ x)) (digQ x).length false), (12, .sl (i64L (digQ y)) (digQ y).length false), (13, .ref 0 0 0 m), (14, .sl (i64L (digQ r2)) (digQ r2).length false), (15, .int .i64 (IntKind.wrap .i64 (((k : Nat) : Int) - ((1 : Nat) : Int)))), (20, .dead), (34, .dead), (54, .bool (decide (((0 : Nat) : Int) ≤ ((k : Nat) : Int)))), (68, .bool (decide (((0 : Nat) : Int) ≤ c)))], hp := [(0, { cells := (List.take ((0 + (Int.toNat ((k : Nat) : Int))) * 1) (i64L Q) ++ [.int .i64 ((q : Nat) : Int)] ++ List.drop (((0 + (Int.toNat ((k : Nat) : Int))) * 1) + 1) (i64L Q)), ver := 0, fro := false, fz := 0, esz := 1, pr := true })], md := .dead, dfs := [] }) (by kernel_rfl) hn (.c h0 (.c h1 (.c h2 (.c h3 (.c h1 (.c h2 (.c h4 (.c h5 (.c h6 (.t (.t (.c h7 (.c h1 (.c h8 (.c h9 .nil)))))))))))))) : AllB _) (.cons c4 (.cons c3 (.cons c2 (.cons c1 (.cons c0 .nil)))) : AllP _) (by kernel_rfl)) (Less.refl _) (Less.of ⟨rfl, rfl, rfl, rfl, rfl, trivial⟩)
theorem ql_1 {nt : Nat} (hn : 87 ≤ nt) (x y r w q p r2 m k : Nat) (c : Int) (Q : List Nat) (h0 : lit false (decide (((0 : Nat) : Int) ≤ c)) = true) (h1 : (Nat.beq (List.length (i64L (digQ r))) ((digQ r).length * 1)) = true) (h2 : (Nat.ble (1 + (digQ r).length) 1099511627776) = true) (h3 : (chk (.int .i64) (List.headD (List.drop ((Int.toNat ((k : Nat) : Int)) * 1) (i64L (digQ x))) .dead)) = true) (h4 : (decide (((0 : Nat) : Int) ≤ ((k : Nat) : Int))) = true) (h5 : (decide (((k : Nat) : Int) < (((digQ x).length : Nat) : Int))) = true) (h6 : lit true (decide (((0 : Nat) : Int) ≤ ((k : Nat) : Int))) = true) (c0 : CallOk Tryz.prog ap 123 [.sl (List.take ((1 + (digQ r).length) * 1) ([.int .i64 (AV.toInt (List.headD (List.drop ((Int.toNat ((k : Nat) : Int)) * 1) (i64L (digQ x))) .dead))] ++ (i64L (digQ r)))) (1 + (digQ r).length) true] [] (.ret (.sl (i64L (digQ w)) (digQ w).length false)) []) (c1 : CallOk Tryz.prog ap 124 [.sl (i64L (digQ w)) (digQ w).length false, .sl (i64L (digQ y)) (digQ y).length false] [] (.ret (.int .i64 c)) []) : ExecOk Tryz.prog ap [] nt (loopBody 0 (bodyOf Tryz.f105)) { env := [(11, .sl (i64L (digQ x)) (digQ x).length false), (12, .sl (i64L (digQ y)) (digQ y).length false), (13, .ref 0 0 0 m), (14, .sl (i64L (digQ r)) (digQ r).length false), (15, .int .i64 ((k : Nat) : Int))], hp := [(0, { cells := (i64L Q), ver := 0, fro := false, fz := 0, esz := 1, pr := true })], md := .dead, dfs := [] } (.normal) { env := [(11, .sl (i64L (digQ x)) (digQ x).length false), (12, .sl (i64L (digQ y)) (digQ y).length false), (13, .ref 0 0 0 m), (14, .sl (i64L (digQ w)) (digQ w).length false), (15, .int .i64 (IntKind.wrap .i64 (((k : Nat) : Int) - ((1 : Nat) : Int))))], hp := [(0, { cells := (i64L Q), ver := 0, fro := false, fz := 0, esz := 1, pr := true })], md := .dead, dfs := [] } :=
  ExecOk.weak (piece_ok good (lf := 3000) (n := 4) (keep := [0, 1, 4, 5, 6, 7, 8, 9, 10, 11, 12, 13, 14, 15, 20, 34, 54, 68]) (ls := []) (orc := [true, false]) (ans := [(.ret (.sl (i64L (digQ w)) (digQ w).length false), []), (.ret (.int .i64 c), [])]) (lps := []) (nt0 := 87) (s' := { env := [(0, .dead), (1, .dead), (4, .dead), (5, .dead), (6, .dead), (7, .dead), (8, .dead), (9, .dead), (10, .dead), (11, .sl (i64L (digQ x)) (digQ x).length false), (12, .sl (i64L (digQ y)) (digQ y).length false), (13, .ref 0 0 0 m), (14, .sl (i64L (digQ w)) (digQ w).length false), (15, .int .i64 (IntKind.wrap .i64 (((k : Nat) : Int) - ((1 : Nat) : Int)))), (20, .dead), (34, .dead), (54, .bool (decide (((0 : Nat) : Int) ≤ ((k : Nat) : Int)))), (68, .bool (decide (((0 : Nat) : Int) ≤ c)))], hp := [(0, { cells := (i64L Q), ver := 0, fro := false, fz := 0, esz := 1, pr := true })], md := .dead, dfs := [] }) (by kernel_rfl) hn (.c h0 (.c h1 (.c h2 (.t (.t (.c h3 (.c h4 (.c h5 (.c h6 .nil)))))))) : AllB _) (.cons c1 (.cons c0 .nil) : AllP _) (by kernel_rfl)) (Less.refl _) (Less.of ⟨rfl, rfl, rfl, rfl, rfl, trivial⟩)
theorem ql_2 {nt : Nat} (hn : 87 ≤ nt) (x y r w q p r2 m k : Nat) (c : Int) (Q : List Nat) (h0 : lit false (decide (((0 : Nat) : Int) ≤ ((k : Nat) : Int))) = true)  : ExecOk Tryz.prog ap [] nt (loopBody 0 (bodyOf Tryz.f105)) { env := [(11, .sl (i64L (digQ x)) (digQ x).length false), (12, .sl (i64L (digQ y)) (digQ y).length false), (13, .ref 0 0 0 m), (14, .sl (i64L (digQ r)) (digQ r).length false), (15, .int .i64 ((k : Nat) : Int))], hp := [(0, { cells := (i64L Q), ver := 0, fro := false, fz := 0, esz := 1, pr := true })], md := .dead, dfs := [] } (.exit 0) { env := [(13, .ref 0 0 0 m), (14, .sl (i64L (digQ r)) (digQ r).length false)], hp := [(0, { cells := (i64L Q), ver := 0, fro := false, fz := 0, esz := 1, pr := true })], md := .dead, dfs := [] } :=
  ExecOk.weak (piece_ok good (lf := 3000) (n := 4) (keep := [0, 1, 4, 5, 6, 7, 8, 9, 10, 11, 12, 13, 14, 15, 20, 34, 54, 68]) (ls := []) (orc := [false]) (ans := []) (lps := []) (nt0 := 87) (s' := { env := [(0, .dead), (1, .dead), (4, .dead), (5, .dead), (6, .dead), (7, .dead), (8, .dead), (9, .dead), (10, .dead), (11, .sl (i64L (digQ x)) (digQ x).length false), (12, .sl (i64L (digQ y)) (digQ y).length false), (13, .ref 0 0 0 m), (14, .sl (i64L (digQ r)) (digQ r).length false), (15, .int .i64 ((k : Nat) : Int)), (20, .dead), (34, .dead), (54, .bool (decide (((0 : Nat) : Int) ≤ ((k : Nat) : Int)))), (68, .dead)], hp := [(0, { cells := (i64L Q), ver := 0, fro := false, fz := 0, esz := 1, pr := true })], md := .dead, dfs := [] }) (by kernel_rfl) hn (.c h0 .nil : AllB _) (.nil : AllP _) (by kernel_rfl)) (Less.refl _) (Less.of ⟨rfl, rfl, trivial⟩)
theorem qlE_0 {nt : Nat} (hn : 87 ≤ nt) (x y r w q p r2 m k : Nat) (c : Int) (Q : List Nat)   : ExecOk Tryz.prog ap [] nt (loopBody 0 (bodyOf Tryz.f105)) { env := [(11, .sl (i64L (digQ x)) (digQ x).length false), (12, .sl (i64L (digQ y)) (digQ y).length false), (13, .ref 0 0 0 m), (14, .sl (i64L (digQ r)) (digQ r).length false), (15, .int .i64 (-1))], hp := [(0, { cells := (i64L Q), ver := 0, fro := false, fz := 0, esz := 1, pr := true })], md := .dead, dfs := [] } (.exit 0) { env := [(13, .ref 0 0 0 m), (14, .sl (i64L (digQ r)) (digQ r).length false)], hp := [(0, { cells := (i64L Q), ver := 0, fro := false, fz := 0, esz := 1, pr := true })], md := .dead, dfs := [] } :=
  ExecOk.weak (piece_ok good (lf := 3000) (n := 4) (keep := [0, 1, 4, 5, 6, 7, 8, 9, 10, 11, 12, 13, 14, 15, 20, 34, 54, 68]) (ls := []) (orc := [false]) (ans := []) (lps := []) (nt0 := 87) (s' := { env := [(0, .dead), (1, .dead), (4, .dead), (5, .dead), (6, .dead), (7, .dead), (8, .dead), (9, .dead), (10, .dead), (11, .sl (i64L (digQ x)) (digQ x).length false), (12, .sl (i64L (digQ y)) (digQ y).length false), (13, .ref 0 0 0 m), (14, .sl (i64L (digQ r)) (digQ r).length false), (15, .int .i64 (-1)), (20, .dead), (34, .dead), (54, .bool false), (68, .dead)], hp := [(0, { cells := (i64L Q), ver := 0, fro := false, fz := 0, esz := 1, pr := true })], md := .dead, dfs := [] }) (by kernel_rfl) hn (.t .nil : AllB _) (.nil : AllP _) (by kernel_rfl)) (Less.refl _) (Less.of ⟨rfl, rfl, trivial⟩)
end Go.Proofs.Tryz

set_option maxRecDepth 100000
open Go AM
namespace Go.Proofs.Tryz
def quL (x y m k : Nat) : List Nat := (List.range m).map fun i => if i < k then 0 else x / 16777216 ^ i / y % 16777216
theorem quL_length (x y m k : Nat) : (quL x y m k).length = m := by simp [quL]
theorem quL_set {x y m k : Nat} (hk : k < m) : (quL x y m (k + 1)).set k (x / 16777216 ^ k / y % 16777216) = quL x y m k := by
  apply List.ext_getElem?
  intro i
  rw [List.getElem?_set, quL_length]
  unfold quL
  by_cases hi : k = i
  · subst hi; simp [hk]
  · rw [if_neg hi]
    by_cases him : i < m
    · simp only [List.getElem?_map, List.getElem?_range him, Option.map_some]
      by_cases h1 : i < k
      · rw [if_pos (by omega), if_pos h1]
      · rw [if_neg (by omega), if_neg h1]
    · rw [List.getElem?_eq_none (by simp; omega), List.getElem?_eq_none (by simp; omega)]
theorem quL_start (x y m : Nat) : quL x y m m = List.replicate m 0 := by
  unfold quL
  apply List.ext_getElem?
  intro i
  by_cases him : i < m
  · simp [him]
  · rw [List.getElem?_eq_none (by simp; omega), List.getElem?_eq_none (by simp; omega)]
theorem quL_lim (x y m k : Nat) : LimQ (quL x y m k) := by
  intro d hd
  obtain ⟨i, _, rfl⟩ := List.mem_map.1 hd
  show (if i < k then 0 else _) < _
  split <;> omega
theorem valQ_map (z : Nat) : ∀ m, valQ ((List.range m).map fun i => z / 16777216 ^ i % 16777216) = z % 16777216 ^ m := by
  intro m
  induction m with
  | zero => simp [valQ, Nat.mod_one]
  | succ m ih =>
    rw [List.range_succ, List.map_append, valQ_app, ih, List.length_map, List.length_range, Nat.pow_succ, Nat.mod_mul]
    simp only [List.map_cons, List.map_nil, valQ, Nat.mul_zero, Nat.add_zero]
theorem quL_val {x y m : Nat} (h : x / y < 16777216 ^ m) : valQ (quL x y m 0) = x / y := by
  have e : quL x y m 0 = (List.range m).map fun i => x / y / 16777216 ^ i % 16777216 := by
    unfold quL
    apply List.map_congr_left
    intro i _
    rw [if_neg (by omega), Nat.div_div_eq_div_mul, Nat.div_div_eq_div_mul, Nat.mul_comm]
  rw [e, valQ_map, Nat.mod_eq_of_lt h]
theorem digQ_get : ∀ (k x : Nat), (digQ x).getD k 0 = x / 16777216 ^ k % 16777216 := by
  intro k
  induction k with
  | zero =>
    intro x
    rcases Nat.eq_zero_or_pos x with rfl | h
    · rw [digQ_zero]; rfl
    · rw [digQ_pos h]; simp
  | succ k ih =>
    intro x
    rcases Nat.eq_zero_or_pos x with rfl | h
    · rw [digQ_zero]; simp
    · rw [digQ_pos h, List.getD_cons_succ, ih, Nat.div_div_eq_div_mul, Nat.pow_succ, Nat.mul_comm]
theorem dv_divQ {V R' Q' x H : Nat} (hV : 0 < V) (h : H = V * Q' + R') : (x + 16777216 * H) / V = 16777216 * Q' + (x + 16777216 * R') / V ∧ (x + 16777216 * H) % V = (x + 16777216 * R') % V := by
  subst h
  have e : x + 16777216 * (V * Q' + R') = x + 16777216 * R' + V * (16777216 * Q') := by
    rw [Nat.mul_add, Nat.mul_left_comm]; omega
  rw [e]
  constructor
  · rw [Nat.add_mul_div_left _ _ hV, Nat.add_comm]
  · rw [Nat.add_mul_mod_self_left]
def qlSt (x y m k : Nat) : St := { env := [(11, .sl (i64L (digQ x)) (digQ x).length false), (12, .sl (i64L (digQ y)) (digQ y).length false), (13, .ref 0 0 0 m), (14, .sl (i64L (digQ (x / 16777216 ^ k % y))) (digQ (x / 16777216 ^ k % y)).length false), (15, .int .i64 (((k : Nat) : Int) - 1))], hp := [(0, { cells := i64L (quL x y m k), ver := 0, fro := false, fz := 0, esz := 1, pr := true })], md := .dead, dfs := [] }
/-- A round, its terms put in order. -/
theorem ql_t {nt : Nat} (hn : 87 ≤ nt) (x y r w q p r2 m k d : Nat) (c : Int) (Q Q2 : List Nat) (hk : k < (digQ x).length) (hd : (digQ x).getD k 0 = d) (hQ : Q.length = m) (hkm : k < m) (hm : m < 2 ^ 40) (hrl : (digQ r).length < 2 ^ 39) (hset : Q.set k q = Q2) (hc : 0 ≤ c)
    (c0 : CO 123 [.sl (i64L (d :: digQ r)) (1 + (digQ r).length) true] (.ret (.sl (i64L (digQ w)) (digQ w).length false)))
    (c1 : CO 124 [.sl (i64L (digQ w)) (digQ w).length false, .sl (i64L (digQ y)) (digQ y).length false] (.ret (.int .i64 c)))
    (c2 : CO 125 [.sl (i64L (digQ w)) (digQ w).length false, .sl (i64L (digQ y)) (digQ y).length false] (.ret (.int .i64 ((q : Nat) : Int))))
    (c3 : CO 127 [.sl (i64L (digQ y)) (digQ y).length false, .int .i64 ((q : Nat) : Int)] (.ret (.sl (i64L (digQ p)) (digQ p).length true)))
    (c4 : CO 126 [.sl (i64L (digQ w)) (digQ w).length false, .sl (i64L (digQ p)) (digQ p).length true] (.ret (.sl (i64L (digQ r2)) (digQ r2).length false))) :
    ExecOk Tryz.prog ap [] nt (loopBody 0 (bodyOf Tryz.f105)) { env := [(11, .sl (i64L (digQ x)) (digQ x).length false), (12, .sl (i64L (digQ y)) (digQ y).length false), (13, .ref 0 0 0 m), (14, .sl (i64L (digQ r)) (digQ r).length false), (15, .int .i64 ((k : Nat) : Int))], hp := [(0, { cells := i64L Q, ver := 0, fro := false, fz := 0, esz := 1, pr := true })], md := .dead, dfs := [] } .normal
      { env := [(11, .sl (i64L (digQ x)) (digQ x).length false), (12, .sl (i64L (digQ y)) (digQ y).length false), (13, .ref 0 0 0 m), (14, .sl (i64L (digQ r2)) (digQ r2).length false), (15, .int .i64 (((k : Nat) : Int) - 1))], hp := [(0, { cells := i64L Q2, ver := 0, fro := false, fz := 0, esz := 1, pr := true })], md := .dead, dfs := [] } := by
  have hb := ql_0 hn x y r w q p r2 m k c Q
  have ew : IntKind.wrap .i64 ((k : Int) - ((1 : Nat) : Int)) = (k : Int) - 1 := w64_id (by omega) (by omega)
  have hset' := i64_set (l := Q) (j := k) (by omega) q
  rw [hset] at hset'
  have hg2 : Q2.getD k 0 = q := by rw [← hset, List.getD_eq_getElem?_getD, List.getElem?_set_self (by omega)]; rfl
  have hl2 : Q2.length = m := by rw [← hset]; simp [hQ]
  have htk : List.take (1 + (digQ r).length) (i64L (d :: digQ r)) = i64L (d :: digQ r) := by rw [take_i64, List.take_of_length_le (by simp; omega)]
  have hz : (((0 : Nat) : Int) ≤ c) = True := by simp [hc]
  simp (disch := first | omega | (simp only [List.length_append, List.length_replicate, List.length_cons, List.length_nil, List.length_reverse, List.length_map, u32L_length, u8L_length, List.length_take, List.length_drop, List.length_set] <;> omega)) only [c_add, c_mul, c_tdiv, c_tmod, c_shl, c_shr, c_toNat, w64_nat, w64_sub, w8u, w32u, w64u, w64u_sub, w32u_sub, or64, or32, and64, and_mask32, andI, orI, min_b64, min_b32, min_bi, min_l, p_32, p_63, Nat.mod_eq_of_lt, chk_u32, toInt_int, d_le, d_lt, b_eq, d_eq, nble_d, nbeq_d, lit_t, lit_f, not_t, dec_t, dec_f, Nat.zero_add, Nat.mul_one, u32L_length, List.length_append, List.length_replicate, List.length_cons, List.length_set, List.length_nil, u32_get, u32_mid, set_mid, decide_true, decide_false, Bool.not_true, Bool.not_false, not_false_eq_true, not_true_eq_false, i64_get, hd, chk_i64, ew, i64_cons, htk, hset', hg2, hl2, i64L_length, hz] at hb
  apply hb <;> first | exact True.intro | omega | assumption
theorem ql_f {nt : Nat} (hn : 87 ≤ nt) (x y r w m k d : Nat) (c : Int) (Q : List Nat) (hk : k < (digQ x).length) (hd : (digQ x).getD k 0 = d) (hQ : Q.length = m) (hkm : k < m) (hm : m < 2 ^ 40) (hrl : (digQ r).length < 2 ^ 39) (hc : c < 0)
    (c0 : CO 123 [.sl (i64L (d :: digQ r)) (1 + (digQ r).length) true] (.ret (.sl (i64L (digQ w)) (digQ w).length false)))
    (c1 : CO 124 [.sl (i64L (digQ w)) (digQ w).length false, .sl (i64L (digQ y)) (digQ y).length false] (.ret (.int .i64 c))) :
    ExecOk Tryz.prog ap [] nt (loopBody 0 (bodyOf Tryz.f105)) { env := [(11, .sl (i64L (digQ x)) (digQ x).length false), (12, .sl (i64L (digQ y)) (digQ y).length false), (13, .ref 0 0 0 m), (14, .sl (i64L (digQ r)) (digQ r).length false), (15, .int .i64 ((k : Nat) : Int))], hp := [(0, { cells := i64L Q, ver := 0, fro := false, fz := 0, esz := 1, pr := true })], md := .dead, dfs := [] } .normal
      { env := [(11, .sl (i64L (digQ x)) (digQ x).length false), (12, .sl (i64L (digQ y)) (digQ y).length false), (13, .ref 0 0 0 m), (14, .sl (i64L (digQ w)) (digQ w).length false), (15, .int .i64 (((k : Nat) : Int) - 1))], hp := [(0, { cells := i64L Q, ver := 0, fro := false, fz := 0, esz := 1, pr := true })], md := .dead, dfs := [] } := by
  have hb := ql_1 hn x y r w 0 0 0 m k c Q
  have ew : IntKind.wrap .i64 ((k : Int) - ((1 : Nat) : Int)) = (k : Int) - 1 := w64_id (by omega) (by omega)
  have htk : List.take (1 + (digQ r).length) (i64L (d :: digQ r)) = i64L (d :: digQ r) := by rw [take_i64, List.take_of_length_le (by simp; omega)]
  have hz : (((0 : Nat) : Int) ≤ c) = False := by simp [hc]
  simp (disch := first | omega | (simp only [List.length_append, List.length_replicate, List.length_cons, List.length_nil, List.length_reverse, List.length_map, u32L_length, u8L_length, List.length_take, List.length_drop, List.length_set] <;> omega)) only [c_add, c_mul, c_tdiv, c_tmod, c_shl, c_shr, c_toNat, w64_nat, w64_sub, w8u, w32u, w64u, w64u_sub, w32u_sub, or64, or32, and64, and_mask32, andI, orI, min_b64, min_b32, min_bi, min_l, p_32, p_63, Nat.mod_eq_of_lt, chk_u32, toInt_int, d_le, d_lt, b_eq, d_eq, nble_d, nbeq_d, lit_t, lit_f, not_t, dec_t, dec_f, Nat.zero_add, Nat.mul_one, u32L_length, List.length_append, List.length_replicate, List.length_cons, List.length_set, List.length_nil, u32_get, u32_mid, set_mid, decide_true, decide_false, Bool.not_true, Bool.not_false, not_false_eq_true, not_true_eq_false, i64_get, hd, chk_i64, ew, i64_cons, htk, i64L_length, hz] at hb
  apply hb <;> first | exact True.intro | omega | assumption
theorem ql_pure (x y m k : Nat) (hy : 0 < y) (hk : k < m) : ∃ d r w : Nat, (digQ x).getD k 0 = d ∧ x / 16777216 ^ (k + 1) % y = r ∧ d + 16777216 * r = w ∧ d < 16777216 ∧ r < y ∧ x / 16777216 ^ k % y = w % y ∧ (quL x y m (k + 1)).set k (w / y) = quL x y m k ∧ (quL x y m (k + 1)).getD k 0 = 0 := by
  have hdl := Nat.mod_lt (x / 16777216 ^ k) (show 0 < 16777216 by omega)
  have hrl := Nat.mod_lt (x / 16777216 ^ (k + 1)) hy
  refine ⟨x / 16777216 ^ k % 16777216, x / 16777216 ^ (k + 1) % y, _, digQ_get k x, rfl, rfl, hdl, hrl, ?_, ?_, ?_⟩
  · have hdm := Nat.div_add_mod (x / 16777216 ^ (k + 1)) y
    obtain ⟨_, v2⟩ := dv_divQ (x := x / 16777216 ^ k % 16777216) hy hdm.symm
    have hH : x / 16777216 ^ k % 16777216 + 16777216 * (x / 16777216 ^ (k + 1)) = x / 16777216 ^ k := by
      rw [Nat.pow_succ, ← Nat.div_div_eq_div_mul]; omega
    rw [hH] at v2
    exact v2
  · have hdm := Nat.div_add_mod (x / 16777216 ^ (k + 1)) y
    obtain ⟨v1, _⟩ := dv_divQ (x := x / 16777216 ^ k % 16777216) hy hdm.symm
    have hH : x / 16777216 ^ k % 16777216 + 16777216 * (x / 16777216 ^ (k + 1)) = x / 16777216 ^ k := by
      rw [Nat.pow_succ, ← Nat.div_div_eq_div_mul]; omega
    rw [hH] at v1
    have hset := quL_set (x := x) (y := y) hk
    rw [v1] at hset
    have hwl : x / 16777216 ^ k % 16777216 + 16777216 * (x / 16777216 ^ (k + 1) % y) < y * 16777216 := by omega
    have hql : (x / 16777216 ^ k % 16777216 + 16777216 * (x / 16777216 ^ (k + 1) % y)) / y < 16777216 := by rw [Nat.div_lt_iff_lt_mul hy, Nat.mul_comm 16777216 y]; exact hwl
    rw [Nat.mul_add_mod, Nat.mod_eq_of_lt hql] at hset
    exact hset
  · unfold quL; rw [List.getD_eq_getElem?_getD]; simp [hk]
theorem digQ_mulB {w y : Nat} (h : w < y * 16777216) : (digQ w).length ≤ (digQ y).length + 1 := by
  apply digQ_le
  have h1 := digQ_lt y
  rw [Nat.pow_succ]
  exact Nat.lt_trans h (Nat.mul_lt_mul_of_pos_right h1 (by omega))
theorem ql_step {nt : Nat} (hn : 87 ≤ nt) (x y m k : Nat) (hy : 0 < y) (hm : (digQ x).length = m) (hk : k < m) (hxl : m < 2 ^ 35) (hyl : (digQ y).length < 2 ^ 34) : ExecOk Tryz.prog ap [] nt (loopBody 0 (bodyOf Tryz.f105)) (qlSt x y m (k + 1)) .normal (qlSt x y m k) := by
  obtain ⟨d, r, w, hd, hr, hw, hdl, hrl, hmod, hset, hq0⟩ := ql_pure x y m k hy hk
  have hQl := quL_length x y m (k + 1)
  unfold qlSt
  rw [show (((k + 1 : Nat) : Int) - 1) = (k : Int) by omega, hr, hmod]
  have hwl : w < y * 16777216 := by omega
  have hrm := digQ_mono (Nat.le_of_lt hrl)
  have htr := rtrim_ok (d :: digQ r) true (by simp; omega)
  rw [trimQ (LimQ.cons hdl (LimQ.dig r))] at htr
  simp only [valQ, valQ_digQ, hw, List.length_cons] at htr
  rw [Nat.add_comm (digQ r).length 1] at htr
  have htr2 := htr.out (OutLe.sl1 _ _ _)
  have hql : w / y < 16777216 := by rw [Nat.div_lt_iff_lt_mul hy, Nat.mul_comm]; exact hwl
  have hwd := digQ_mulB hwl
  have hcm := rcmp_ok (digQ w) (digQ y) false false (LimQ.dig _) (LimQ.dig _) (by omega) (by omega)
  have hcs := cmpQ_spec w y
  generalize quL x y m k = Q2 at *
  generalize quL x y m (k + 1) = Q1 at *
  by_cases hc : 0 ≤ cmpQ (digQ w) (digQ y)
  · have hyw := hcs.1.1 hc
    have hdig := digit_ok w y false false hy hwl (by omega) (by omega)
    have htm := times_ok y (w / y) false hql (by omega)
    have hle : y * (w / y) ≤ w := Nat.mul_div_le w y
    have hmi := minus_ok w (y * (w / y)) false true hle (by omega)
    have hmd : w - y * (w / y) = w % y := by have := Nat.div_add_mod w y; omega
    rw [hmd] at hmi
    exact ql_t hn x y r w (w / y) (y * (w / y)) (w % y) m k d _ Q1 Q2 (by omega) hd hQl hk (by omega) (by omega) hset hc htr2 hcm hdig htm hmi
  · have hyw : w < y := Nat.lt_of_not_le (fun h => hc (hcs.1.2 h))
    have hw0 : w / y = 0 := Nat.div_eq_of_lt hyw
    rw [Nat.mod_eq_of_lt hyw]
    rw [hw0] at hset
    have hsame : Q1.set k 0 = Q1 := by
      apply List.ext_getElem?
      intro i
      rw [List.getElem?_set]
      by_cases hi : k = i
      · subst hi
        rw [List.getD_eq_getElem?_getD, List.getElem?_eq_getElem (by omega)] at hq0
        rw [if_pos rfl, if_pos (by omega), List.getElem?_eq_getElem (by omega)]
        simpa using hq0.symm
      · rw [if_neg hi]
    rw [hsame] at hset
    subst hset
    exact ql_f hn x y r w m k d _ Q1 (by omega) hd hQl hk (by omega) (by omega) (by omega) htr2 hcm
end Go.Proofs.Tryz

set_option maxRecDepth 100000
open Go AM
namespace Go.Proofs.Tryz
theorem rquo_zero (s t : List UInt8) (ht : t.length < 2 ^ 38) (h0 : valS t = 0) : CO 105 [.str s, .str t] (.ret (.tup [.str [], .str [], .bool false])) := by
  have hc := canon_ok t (by omega)
  refine qS_0 s t 0 0 0 0 ?_ hc
  rw [h0, natS_zero]; rfl
def qlOut (x y m k : Nat) : St := { env := [(13, .ref 0 0 0 m), (14, .sl (i64L (digQ (x / 16777216 ^ k % y))) (digQ (x / 16777216 ^ k % y)).length false)], hp := [(0, { cells := i64L (quL x y m k), ver := 0, fro := false, fz := 0, esz := 1, pr := true })], md := .dead, dfs := [] }
theorem ql_loop {nt : Nat} (hn : 87 ≤ nt) (x y m : Nat) (hy : 0 < y) (hm : (digQ x).length = m) (hxl : m < 2 ^ 35) (hyl : (digQ y).length < 2 ^ 34) : ∀ k, k ≤ m → LoopR Tryz.prog ap [] nt (loopBody 0 (bodyOf Tryz.f105)) (fun _ => .exit 0) (qlSt x y m) (qlOut x y m) k 0 := by
  intro k
  induction k with
  | zero =>
    intro _
    refine .done ?_
    unfold qlOut
    have h := qlE_0 hn x y (x / 16777216 ^ 0 % y) 0 0 0 0 m 0 0 (quL x y m 0)
    exact h
  | succ k ih => exact fun hk => .next (ql_step hn x y m k hy hm (by omega) hxl hyl) (ih (by omega))
theorem valS_digQ {s : List UInt8} : (digQ (valS s)).length ≤ s.length := by
  apply digQ_le
  have h := valS_lt8 s
  refine Nat.lt_of_lt_of_le h ?_
  rw [show (16777216 : Nat) = 2 ^ 24 from rfl, ← Nat.pow_mul]
  exact Nat.pow_le_pow_right (by omega) (by omega)
theorem rquo_ok (s t : List UInt8) (hs : s.length < 2 ^ 33) (ht : t.length < 2 ^ 33) (h0 : 0 < valS t) : CO 105 [.str s, .str t] (.ret (.tup [.str (natS (valS s / valS t)), .str (natS (valS s % valS t)), .bool true])) := by
  have hc := canon_ok t (by omega)
  have hvn := val_natS (valS t)
  have htl : (natS (valS t)).length ≤ t.length := natS_le (Nat.le_refl _)
  have hne : natS (valS t) ≠ [] := fun h => by have := natS_eq_nil.1 h; omega
  have hnl : 0 < (natS (valS t)).length := by
    cases hq : natS (valS t) with
    | nil => exact absurd hq hne
    | cons _ _ => simp
  have hnz : ((natS (valS t)).length = 0) = False := by simp; exact hne
  have e7 : ((7 : Nat) : Int) = 7 := rfl
  by_cases hb : valS s < 2 ^ (8 * 7) ∧ valS t < 2 ^ (8 * 7)
  · have hsm1 := small_ok s 7 (by omega) (by omega) hb.1
    have hsm2 := small_ok (natS (valS t)) 7 (by omega) (by omega) (by rw [hvn]; exact hb.2)
    rw [hvn] at hsm2
    have hx63 : valS s < 9223372036854775808 := Nat.lt_of_lt_of_le hb.1 (by decide)
    have hy63 : valS t < 9223372036854775808 := Nat.lt_of_lt_of_le hb.2 (by decide)
    have q1 := Nat.div_le_self (valS s) (valS t)
    have q2 := Nat.mod_le (valS s) (valS t)
    have o1 := rof_ok (valS s / valS t) (by omega)
    have o2 := rof_ok (valS s % valS t) (by omega)
    have h := qS_1 s t (valS s) (valS t) (valS s / valS t) (valS s % valS t)
    have ht0 : (valS t = 0) = False := by simp; omega
    clear hb hs
    simp (disch := first | omega | (simp only [List.length_append, List.length_replicate, List.length_cons, List.length_nil, List.length_reverse, List.length_map, u32L_length, u8L_length, List.length_take, List.length_drop, List.length_set] <;> omega)) only [c_add, c_mul, c_tdiv, c_tmod, c_shl, c_shr, c_toNat, w64_nat, w64_sub, w8u, w32u, w64u, w64u_sub, w32u_sub, or64, or32, and64, and_mask32, andI, orI, min_b64, min_b32, min_bi, min_l, p_32, p_63, Nat.mod_eq_of_lt, chk_u32, toInt_int, d_le, d_lt, b_eq, d_eq, nble_d, nbeq_d, lit_t, lit_f, not_t, dec_t, dec_f, Nat.zero_add, Nat.mul_one, u32L_length, List.length_append, List.length_replicate, List.length_cons, List.length_set, List.length_nil, u32_get, u32_mid, set_mid, decide_true, decide_false, Bool.not_true, Bool.not_false, not_false_eq_true, not_true_eq_false, hnz, ht0] at h
    apply h <;> first | exact True.intro | omega | assumption
  · have hof1 := rof_q s (by omega)
    have hof2 := rof_q (natS (valS t)) (by omega)
    rw [hvn] at hof2
    have hxl := valS_digQ (s := s)
    have hyl := valS_digQ (s := t)
    have hloop := fun nt (hn : 87 ≤ nt) => ql_loop hn (valS s) (valS t) _ h0 rfl (by omega) (by omega) _ (Nat.le_refl _)
    have hQl := quL_length (valS s) (valS t) (digQ (valS s)).length 0
    have hqv : valQ (quL (valS s) (valS t) (digQ (valS s)).length 0) = valS s / valS t := quL_val (Nat.lt_of_le_of_lt (Nat.div_le_self _ _) (digQ_lt _))
    have hn1 := number_q (quL (valS s) (valS t) (digQ (valS s)).length 0) true (by omega) (quL_lim _ _ _ _)
    rw [hqv, hQl] at hn1
    have hr0 : valS s / 16777216 ^ 0 % valS t = valS s % valS t := by rw [Nat.pow_zero, Nat.div_one]
    have hrm := digQ_mono (Nat.le_of_lt (Nat.mod_lt (valS s) h0))
    have hn2 := number_q (digQ (valS s % valS t)) false (by omega) (LimQ.dig _)
    rw [valQ_digQ] at hn2
    have hz0 : valS s / 16777216 ^ (digQ (valS s)).length % valS t = 0 := by rw [Nat.div_eq_of_lt (digQ_lt _), Nat.zero_mod]
    have hwl : IntKind.wrap .i64 ((((digQ (valS s)).length : Nat) : Int) - ((1 : Nat) : Int)) = ((digQ (valS s)).length : Int) - 1 := len_pr (by omega)
    have hout : qlOut (valS s) (valS t) (digQ (valS s)).length 0 = { env := [(13, .ref 0 0 0 (digQ (valS s)).length), (14, .sl (i64L (digQ (valS s % valS t))) (digQ (valS s % valS t)).length false)], hp := [(0, { cells := i64L (quL (valS s) (valS t) (digQ (valS s)).length 0), ver := 0, fro := false, fz := 0, esz := 1, pr := true })], md := .dead, dfs := [] } := by unfold qlOut; rw [hr0]
    have hm40 : (digQ (valS s)).length < 2 ^ 35 := by omega
    have htk : List.take (digQ (valS s)).length (i64L (quL (valS s) (valS t) (digQ (valS s)).length 0)) = i64L (quL (valS s) (valS t) (digQ (valS s)).length 0) := by rw [take_i64, List.take_of_length_le (by omega)]
    by_cases hx : valS s < 2 ^ (8 * 7)
    · have hy : 2 ^ (8 * 7) ≤ valS t := by
        rcases Nat.lt_or_ge (valS t) (2 ^ (8 * 7)) with h | h
        · exact absurd ⟨hx, h⟩ hb
        · exact h
      have hsm1 := small_ok s 7 (by omega) (by omega) hx
      have hsm2 := small_no (natS (valS t)) 7 (by omega) (by rw [hvn]; exact hy)
      clear hb hx hy
      have h := qB_1 s t (valS s) 0 (valS s / valS t) (valS s % valS t) (digQ (valS s)).length (quL (valS s) (valS t) (digQ (valS s)).length 0) 0 true
      rw [hvn] at h
      simp (disch := first | omega | (simp only [List.length_append, List.length_replicate, List.length_cons, List.length_nil, List.length_reverse, List.length_map, u32L_length, u8L_length, List.length_take, List.length_drop, List.length_set] <;> omega)) only [c_add, c_mul, c_tdiv, c_tmod, c_shl, c_shr, c_toNat, w64_nat, w64_sub, w8u, w32u, w64u, w64u_sub, w32u_sub, or64, or32, and64, and_mask32, andI, orI, min_b64, min_b32, min_bi, min_l, p_32, p_63, Nat.mod_eq_of_lt, chk_u32, toInt_int, d_le, d_lt, b_eq, d_eq, nble_d, nbeq_d, lit_t, lit_f, not_t, dec_t, dec_f, Nat.zero_add, Nat.mul_one, u32L_length, List.length_append, List.length_replicate, List.length_cons, List.length_set, List.length_nil, u32_get, u32_mid, set_mid, decide_true, decide_false, Bool.not_true, Bool.not_false, not_false_eq_true, not_true_eq_false, hnz, htk, rep_i64, hwl] at h
      apply h <;> first | exact True.intro | omega | assumption | skip
      · refine LoopR.blkF hloop (by simp) rfl ?_ (by rw [hout]; exact LessF.refl _)
        unfold qlSt
        rw [quL_start, hz0, digQ_zero]
        exact LessF.of ⟨Fits.refl _, Fits.refl _, Fits.refl _, Fits.nilS false rfl, Fits.refl _, trivial⟩
    · have hsm1 := small_no s 7 (by omega) (Nat.le_of_not_lt hx)
      have hsm2 : ∃ zy b2, CO 62 [.str (natS (valS t)), .int .i64 7] (.ret (.tup [.int .i64 zy, .bool b2])) := by
        rcases Nat.lt_or_ge (valS t) (2 ^ (8 * 7)) with h | h
        · exact ⟨_, _, small_ok (natS (valS t)) 7 (by omega) (by omega) (by rw [hvn]; exact h)⟩
        · exact ⟨_, _, small_no (natS (valS t)) 7 (by omega) (by rw [hvn]; exact h)⟩
      obtain ⟨zy, b2, hsm2⟩ := hsm2
      clear hb hx
      have h := qA_1 s t 0 0 (valS s / valS t) (valS s % valS t) (digQ (valS s)).length (quL (valS s) (valS t) (digQ (valS s)).length 0) zy b2
      rw [hvn] at h
      simp (disch := first | omega | (simp only [List.length_append, List.length_replicate, List.length_cons, List.length_nil, List.length_reverse, List.length_map, u32L_length, u8L_length, List.length_take, List.length_drop, List.length_set] <;> omega)) only [c_add, c_mul, c_tdiv, c_tmod, c_shl, c_shr, c_toNat, w64_nat, w64_sub, w8u, w32u, w64u, w64u_sub, w32u_sub, or64, or32, and64, and_mask32, andI, orI, min_b64, min_b32, min_bi, min_l, p_32, p_63, Nat.mod_eq_of_lt, chk_u32, toInt_int, d_le, d_lt, b_eq, d_eq, nble_d, nbeq_d, lit_t, lit_f, not_t, dec_t, dec_f, Nat.zero_add, Nat.mul_one, u32L_length, List.length_append, List.length_replicate, List.length_cons, List.length_set, List.length_nil, u32_get, u32_mid, set_mid, decide_true, decide_false, Bool.not_true, Bool.not_false, not_false_eq_true, not_true_eq_false, hnz, htk, rep_i64, hwl] at h
      apply h <;> first | exact True.intro | omega | assumption | skip
      · refine LoopR.blkF hloop (by simp) rfl ?_ (by rw [hout]; exact LessF.refl _)
        unfold qlSt
        rw [quL_start, hz0, digQ_zero]
        exact LessF.of ⟨Fits.refl _, Fits.refl _, Fits.refl _, Fits.nilS false rfl, Fits.refl _, trivial⟩
end Go.Proofs.Tryz

set_option maxRecDepth 100000
open Go AM
namespace Go.Proofs.Tryz
theorem rgb_0 {nt : Nat} (hn : 25 ≤ nt) (s t q r : List UInt8) (h0 : lit true (decide (((0 : Nat) : Int) < (((List.length t) : Nat) : Int))) = true) (c0 : CallOk Tryz.prog ap 105 [.str s, .str t] [] (.ret (.tup [.str q, .str r, .bool true])) []) : ExecOk Tryz.prog ap [] nt (loopBody 0 (bodyOf Tryz.f104)) { env := [(0, .str s), (1, .str t)], hp := [], md := .dead, dfs := [] } (.normal) { env := [(0, .str t), (1, .str r)], hp := [], md := .dead, dfs := [] } :=
  ExecOk.weak (piece_ok good (lf := 3000) (n := 4) (keep := [0, 1, 4, 6, 14]) (ls := []) (orc := [true]) (ans := [(.ret (.tup [.str q, .str r, .bool true]), [])]) (lps := []) (nt0 := 25) (s' := { env := [(0, .str t), (1, .str r), (4, .dead), (6, .str r), (14, .bool (decide (((0 : Nat) : Int) < (((List.length t) : Nat) : Int))))], hp := [], md := .dead, dfs := [] }) (by kernel_rfl) hn (.c h0 .nil : AllB _) (.cons c0 .nil : AllP _) (by kernel_rfl)) (Less.refl _) (Less.of ⟨rfl, rfl, trivial⟩)
theorem rgb_1 {nt : Nat} (hn : 25 ≤ nt) (s t q r : List UInt8) (h0 : lit false (decide (((0 : Nat) : Int) < (((List.length t) : Nat) : Int))) = true)  : ExecOk Tryz.prog ap [] nt (loopBody 0 (bodyOf Tryz.f104)) { env := [(0, .str s), (1, .str t)], hp := [], md := .dead, dfs := [] } (.exit 0) { env := [(0, .str s)], hp := [], md := .dead, dfs := [] } :=
  ExecOk.weak (piece_ok good (lf := 3000) (n := 4) (keep := [0, 1, 4, 6, 14]) (ls := []) (orc := [false]) (ans := []) (lps := []) (nt0 := 25) (s' := { env := [(0, .str s), (1, .str t), (4, .dead), (6, .dead), (14, .bool (decide (((0 : Nat) : Int) < (((List.length t) : Nat) : Int))))], hp := [], md := .dead, dfs := [] }) (by kernel_rfl) hn (.c h0 .nil : AllB _) (.nil : AllP _) (by kernel_rfl)) (Less.refl _) (Less.of ⟨rfl, trivial⟩)
theorem rgF_0 (s t g : List UInt8)  (c0 : CallOk Tryz.prog ap 61 [.str s] [] (.ret (.str (natS (valS s)))) []) (c1 : CallOk Tryz.prog ap 61 [.str t] [] (.ret (.str (natS (valS t)))) []) (l0 : LoopOk Tryz.prog ap [] 25 (.block 0 (.loop (loopBody 0 (bodyOf Tryz.f104)))) { env := [(0, .str (natS (valS s))), (1, .str (natS (valS t))), (4, .str []), (6, .dead), (14, .dead)], hp := [], md := .dead, dfs := [] } (.normal) { env := [(0, .str g)], hp := [], md := .dead, dfs := [] }) : CallOk Tryz.prog ap 104 [.str s, .str t] [] (.ret (.str g)) [] := path_ok good (lf := 3000) (n := 4) (ls := [0]) (orc := []) (ans := [(.ret (.str (natS (valS s))), []), (.ret (.str (natS (valS t))), [])]) (lps := [(.normal, { env := [(0, .str g)], hp := [], md := .dead, dfs := [] })]) (.nil : AllB _) (.cons l0 (.cons c1 (.cons c0 .nil)) : AllP _) (by kernel_rfl)
def rgSt (p : Nat × Nat) : St := { env := [(0, .str (natS p.1)), (1, .str (natS p.2))], hp := [], md := .dead, dfs := [] }
def rgOut (x : Nat) : St := { env := [(0, .str (natS x))], hp := [], md := .dead, dfs := [] }
theorem rgcd_loop {nt : Nat} (hn : 25 ≤ nt) : ∀ (n y x : Nat), y < n → (natS x).length < 2 ^ 33 → (natS y).length < 2 ^ 33 → LoopR Tryz.prog ap [] nt (loopBody 0 (bodyOf Tryz.f104)) (fun _ => .exit 0) rgSt rgOut (x, y) (Nat.gcd x y) := by
  intro n
  induction n with
  | zero => intro y x h; omega
  | succ n ih =>
    intro y x h hx hy
    rcases Nat.eq_zero_or_pos y with rfl | h0
    · rw [Nat.gcd_zero_right]
      refine .done ?_
      unfold rgSt rgOut
      rw [natS_zero]
      exact rgb_1 hn (natS x) [] [] [] rfl
    · have hm := Nat.mod_lt x h0
      have hl : (natS (x % y)).length < 2 ^ 33 := by
        have : x % y ≤ valS (natS y) := by rw [val_natS]; omega
        have := natS_le this
        omega
      have hnext := ih (x % y) y (by omega) hy hl
      rw [show Nat.gcd y (x % y) = Nat.gcd x y by rw [Nat.gcd_comm y, ← Nat.gcd_rec, Nat.gcd_comm]] at hnext
      refine .next ?_ hnext
      have hq := rquo_ok (natS x) (natS y) hx hy (by rw [val_natS]; exact h0)
      rw [val_natS, val_natS] at hq
      have hne : natS y ≠ [] := fun h => by have := natS_eq_nil.1 h; omega
      have hpos : 0 < (natS y).length := by
        cases hq : natS y with
        | nil => exact absurd hq hne
        | cons _ _ => simp
      exact rgb_0 hn (natS x) (natS y) _ _ (by rw [d_lt, lit_t]; exact decide_eq_true hpos) hq
theorem rgcd_ok (s t : List UInt8) (hs : s.length < 2 ^ 33) (ht : t.length < 2 ^ 33) : CO 104 [.str s, .str t] (.ret (.str (natS (Nat.gcd (valS s) (valS t))))) := by
  have l1 : (natS (valS s)).length ≤ s.length := natS_le (Nat.le_refl _)
  have l2 : (natS (valS t)).length ≤ t.length := natS_le (Nat.le_refl _)
  exact rgF_0 s t _ (canon_ok s (by omega)) (canon_ok t (by omega)) (LoopR.blk (fun nt hn => rgcd_loop hn (valS t + 1) (valS t) (valS s) (by omega) (by omega) (by omega)) (by simp) rfl (Less.of ⟨rfl, rfl, trivial⟩) (Less.of ⟨rfl, trivial⟩))
end Go.Proofs.Tryz

set_option maxRecDepth 100000
open Go AM
namespace Go.Proofs.Tryz
theorem q2r_0 (neg : Bool) (n d : List UInt8) (g : Nat) (h0 : lit true (!(nR n)) = true) (c0 : CallOk Tryz.prog ap 102 [.str n] [] (.ret (.bool (nR n))) []) (c1 : CallOk Tryz.prog ap 102 [.str d] [] (.ret (.bool (nR d))) []) : CallOk Tryz.prog ap 69 [.agg [.bool neg, .str n, .str d]] [] (.ret (.bool false)) [] := path_ok good (lf := 3000) (n := 4) (ls := []) (orc := [true, true, true]) (ans := [(.ret (.bool (nR n)), []), (.ret (.bool (nR d)), [])]) (lps := []) (.t (.t (.c h0 (.t (.t .nil)))) : AllB _) (.cons c1 (.cons c0 .nil) : AllP _) (by kernel_rfl)
theorem q2r_1 (neg : Bool) (n d : List UInt8) (g : Nat) (h0 : lit true (!(nR d)) = true) (h1 : lit false (!(nR n)) = true) (c0 : CallOk Tryz.prog ap 102 [.str n] [] (.ret (.bool (nR n))) []) (c1 : CallOk Tryz.prog ap 102 [.str d] [] (.ret (.bool (nR d))) []) : CallOk Tryz.prog ap 69 [.agg [.bool neg, .str n, .str d]] [] (.ret (.bool false)) [] := path_ok good (lf := 3000) (n := 4) (ls := []) (orc := [false, true, true]) (ans := [(.ret (.bool (nR n)), []), (.ret (.bool (nR d)), [])]) (lps := []) (.t (.c h0 (.c h1 (.t (.t .nil)))) : AllB _) (.cons c1 (.cons c0 .nil) : AllP _) (by kernel_rfl)
theorem q2r_2 (neg : Bool) (n d : List UInt8) (g : Nat) (h0 : lit true (d == []) = true) (h1 : lit false (!(nR d)) = true) (h2 : lit false (!(nR n)) = true) (c0 : CallOk Tryz.prog ap 102 [.str n] [] (.ret (.bool (nR n))) []) (c1 : CallOk Tryz.prog ap 102 [.str d] [] (.ret (.bool (nR d))) []) : CallOk Tryz.prog ap 69 [.agg [.bool neg, .str n, .str d]] [] (.ret (.bool false)) [] := path_ok good (lf := 3000) (n := 4) (ls := []) (orc := [false, false, true]) (ans := [(.ret (.bool (nR n)), []), (.ret (.bool (nR d)), [])]) (lps := []) (.c h0 (.t (.c h1 (.c h2 (.t (.t .nil))))) : AllB _) (.cons c1 (.cons c0 .nil) : AllP _) (by kernel_rfl)
theorem q2r_3 (neg : Bool) (n d : List UInt8) (g : Nat) (h0 : lit true (!neg) = true) (h1 : lit true (n == []) = true) (h2 : lit false (d == []) = true) (h3 : lit false (!(nR d)) = true) (h4 : lit false (!(nR n)) = true) (c0 : CallOk Tryz.prog ap 102 [.str n] [] (.ret (.bool (nR n))) []) (c1 : CallOk Tryz.prog ap 102 [.str d] [] (.ret (.bool (nR d))) []) (c2 : CallOk Tryz.prog ap 39 [.int .i64 1] [] (.ret (.str (natS 1))) []) (c3 : CallOk Tryz.prog ap 103 [.str d, .str (natS 1)] [] (.ret (.int .i64 (sgn (valS d) (valS (natS 1))))) []) : CallOk Tryz.prog ap 69 [.agg [.bool neg, .str n, .str d]] [] (.ret (.bool ((sgn (valS d) (valS (natS 1))) == ((0 : Nat) : Int)))) [] := path_ok good (lf := 3000) (n := 4) (ls := []) (orc := [false, false, false, true, true]) (ans := [(.ret (.bool (nR n)), []), (.ret (.bool (nR d)), []), (.ret (.str (natS 1)), []), (.ret (.int .i64 (sgn (valS d) (valS (natS 1)))), [])]) (lps := []) (.t (.c h0 (.t (.c h1 (.t (.c h2 (.t (.c h3 (.c h4 (.t (.t .nil)))))))))) : AllB _) (.cons c3 (.cons c2 (.cons c1 (.cons c0 .nil))) : AllP _) (by kernel_rfl)
theorem q2r_4 (neg : Bool) (n d : List UInt8) (g : Nat) (h0 : lit false (!neg) = true) (h1 : lit true (n == []) = true) (h2 : lit false (d == []) = true) (h3 : lit false (!(nR d)) = true) (h4 : lit false (!(nR n)) = true) (c0 : CallOk Tryz.prog ap 102 [.str n] [] (.ret (.bool (nR n))) []) (c1 : CallOk Tryz.prog ap 102 [.str d] [] (.ret (.bool (nR d))) []) : CallOk Tryz.prog ap 69 [.agg [.bool neg, .str n, .str d]] [] (.ret (.bool false)) [] := path_ok good (lf := 3000) (n := 4) (ls := []) (orc := [false, false, false, true, false]) (ans := [(.ret (.bool (nR n)), []), (.ret (.bool (nR d)), [])]) (lps := []) (.c h0 (.t (.c h1 (.t (.c h2 (.t (.c h3 (.c h4 (.t (.t .nil))))))))) : AllB _) (.cons c1 (.cons c0 .nil) : AllP _) (by kernel_rfl)
theorem q2r_5 (neg : Bool) (n d : List UInt8) (g : Nat) (h0 : lit false (n == []) = true) (h1 : lit false (d == []) = true) (h2 : lit false (!(nR d)) = true) (h3 : lit false (!(nR n)) = true) (c0 : CallOk Tryz.prog ap 102 [.str n] [] (.ret (.bool (nR n))) []) (c1 : CallOk Tryz.prog ap 102 [.str d] [] (.ret (.bool (nR d))) []) (c2 : CallOk Tryz.prog ap 104 [.str n, .str d] [] (.ret (.str (natS g))) []) (c3 : CallOk Tryz.prog ap 39 [.int .i64 1] [] (.ret (.str (natS 1))) []) (c4 : CallOk Tryz.prog ap 103 [.str (natS g), .str (natS 1)] [] (.ret (.int .i64 (sgn (valS (natS g)) (valS (natS 1))))) []) : CallOk Tryz.prog ap 69 [.agg [.bool neg, .str n, .str d]] [] (.ret (.bool ((sgn (valS (natS g)) (valS (natS 1))) == ((0 : Nat) : Int)))) [] := path_ok good (lf := 3000) (n := 4) (ls := []) (orc := [false, false, false, false]) (ans := [(.ret (.bool (nR n)), []), (.ret (.bool (nR d)), []), (.ret (.str (natS g)), []), (.ret (.str (natS 1)), []), (.ret (.int .i64 (sgn (valS (natS g)) (valS (natS 1)))), [])]) (lps := []) (.t (.t (.c h0 (.t (.c h1 (.t (.c h2 (.c h3 (.t (.t .nil))))))))) : AllB _) (.cons c4 (.cons c3 (.cons c2 (.cons c1 (.cons c0 .nil)))) : AllP _) (by kernel_rfl)
theorem q2l_0 (neg : Bool) (n d : List UInt8) (g : Nat) (h0 : lit true (n == []) = true) (c0 : CallOk Tryz.prog ap 39 [.int .i64 1] [] (.ret (.str (natS 1))) []) : CallOk Tryz.prog ap 72 [.bool neg, .str n, .str d] [] (.ret (.agg [.bool false, .str [], .str (natS 1)])) [] := path_ok good (lf := 3000) (n := 4) (ls := []) (orc := [true]) (ans := [(.ret (.str (natS 1)), [])]) (lps := []) (.t (.t (.t (.t (.c h0 .nil)))) : AllB _) (.cons c0 .nil : AllP _) (by kernel_rfl)
theorem q2l_1 (neg : Bool) (n d : List UInt8) (g : Nat) (h0 : lit false (n == []) = true) (c0 : CallOk Tryz.prog ap 104 [.str n, .str d] [] (.ret (.str (natS g))) []) (c1 : CallOk Tryz.prog ap 105 [.str n, .str (natS g)] [] (.ret (.tup [.str (natS (valS n / g)), .str (natS (valS n % g)), .bool true])) []) (c2 : CallOk Tryz.prog ap 105 [.str d, .str (natS g)] [] (.ret (.tup [.str (natS (valS d / g)), .str (natS (valS d % g)), .bool true])) []) : CallOk Tryz.prog ap 72 [.bool neg, .str n, .str d] [] (.ret (.agg [.bool neg, .str (natS (valS n / g)), .str (natS (valS d / g))])) [] := path_ok good (lf := 3000) (n := 4) (ls := []) (orc := [false]) (ans := [(.ret (.str (natS g)), []), (.ret (.tup [.str (natS (valS n / g)), .str (natS (valS n % g)), .bool true]), []), (.ret (.tup [.str (natS (valS d / g)), .str (natS (valS d % g)), .bool true]), [])]) (lps := []) (.t (.t (.t (.t (.c h0 .nil)))) : AllB _) (.cons c2 (.cons c1 (.cons c0 .nil)) : AllP _) (by kernel_rfl)
theorem q2f_0 (neg : Bool) (n d : List UInt8) (h0 : lit true (decide ((((lenN (valS n)) : Nat) : Int) ≤ ((400 : Nat) : Int))) = true) (h1 : lit true (isQ neg n d) = true) (c0 : CallOk Tryz.prog ap 69 [.agg [.bool neg, .str n, .str d]] [] (.ret (.bool (isQ neg n d))) []) (c1 : CallOk Tryz.prog ap 70 [.str n] [] (.ret (.int .i64 (((lenN (valS n)) : Nat) : Int))) []) (c2 : CallOk Tryz.prog ap 70 [.str d] [] (.ret (.int .i64 (((lenN (valS d)) : Nat) : Int))) []) : CallOk Tryz.prog ap 45 [.agg [.bool neg, .str n, .str d]] [] (.ret (.bool (decide ((((lenN (valS d)) : Nat) : Int) ≤ ((400 : Nat) : Int))))) [] := path_ok good (lf := 3000) (n := 4) (ls := []) (orc := [true, true]) (ans := [(.ret (.bool (isQ neg n d)), []), (.ret (.int .i64 (((lenN (valS n)) : Nat) : Int)), []), (.ret (.int .i64 (((lenN (valS d)) : Nat) : Int)), [])]) (lps := []) (.t (.c h0 (.t (.c h1 (.t (.t (.t .nil)))))) : AllB _) (.cons c2 (.cons c1 (.cons c0 .nil)) : AllP _) (by kernel_rfl)
theorem q2f_1 (neg : Bool) (n d : List UInt8) (h0 : lit false (decide ((((lenN (valS n)) : Nat) : Int) ≤ ((400 : Nat) : Int))) = true) (h1 : lit true (isQ neg n d) = true) (c0 : CallOk Tryz.prog ap 69 [.agg [.bool neg, .str n, .str d]] [] (.ret (.bool (isQ neg n d))) []) (c1 : CallOk Tryz.prog ap 70 [.str n] [] (.ret (.int .i64 (((lenN (valS n)) : Nat) : Int))) []) : CallOk Tryz.prog ap 45 [.agg [.bool neg, .str n, .str d]] [] (.ret (.bool false)) [] := path_ok good (lf := 3000) (n := 4) (ls := []) (orc := [true, false]) (ans := [(.ret (.bool (isQ neg n d)), []), (.ret (.int .i64 (((lenN (valS n)) : Nat) : Int)), [])]) (lps := []) (.c h0 (.t (.c h1 (.t (.t (.t .nil))))) : AllB _) (.cons c1 (.cons c0 .nil) : AllP _) (by kernel_rfl)
theorem q2f_2 (neg : Bool) (n d : List UInt8) (h0 : lit false (isQ neg n d) = true) (c0 : CallOk Tryz.prog ap 69 [.agg [.bool neg, .str n, .str d]] [] (.ret (.bool (isQ neg n d))) []) : CallOk Tryz.prog ap 45 [.agg [.bool neg, .str n, .str d]] [] (.ret (.bool false)) [] := path_ok good (lf := 3000) (n := 4) (ls := []) (orc := [false, false]) (ans := [(.ret (.bool (isQ neg n d)), [])]) (lps := []) (.t (.c h0 (.t (.t (.t .nil)))) : AllB _) (.cons c0 .nil : AllP _) (by kernel_rfl)
theorem q2v_0 (neg : Bool) (n d : List UInt8) (h0 : lit true (!(isQ neg n d)) = true) (c0 : CallOk Tryz.prog ap 69 [.agg [.bool neg, .str n, .str d]] [] (.ret (.bool (isQ neg n d))) []) (c1 : CallOk Tryz.prog ap 39 [.int .i64 1] [] (.ret (.str (natS 1))) []) : CallOk Tryz.prog ap 71 [.agg [.bool neg, .str n, .str d]] [] (.ret (.agg [.bool false, .str [], .str (natS 1)])) [] := path_ok good (lf := 3000) (n := 4) (ls := []) (orc := [true]) (ans := [(.ret (.bool (isQ neg n d)), []), (.ret (.str (natS 1)), [])]) (lps := []) (.t (.t (.t (.t (.c h0 (.t (.t (.t .nil))))))) : AllB _) (.cons c1 (.cons c0 .nil) : AllP _) (by kernel_rfl)
theorem q2v_1 (neg : Bool) (n d : List UInt8) (h0 : lit false (!(isQ neg n d)) = true) (c0 : CallOk Tryz.prog ap 69 [.agg [.bool neg, .str n, .str d]] [] (.ret (.bool (isQ neg n d))) []) : CallOk Tryz.prog ap 71 [.agg [.bool neg, .str n, .str d]] [] (.ret (.agg [.bool neg, .str n, .str d])) [] := path_ok good (lf := 3000) (n := 4) (ls := []) (orc := [false]) (ans := [(.ret (.bool (isQ neg n d)), [])]) (lps := []) (.t (.t (.t (.t (.t (.t (.t (.c h0 (.t (.t (.t .nil)))))))))) : AllB _) (.cons c0 .nil : AllP _) (by kernel_rfl)
theorem q2o_0 (v : Int) (x z : Nat) (h0 : lit true (decide (((0 : Nat) : Int) ≤ v)) = true) (c0 : CallOk Tryz.prog ap 39 [.int .i64 v] [] (.ret (.str (natS z))) []) (c1 : CallOk Tryz.prog ap 39 [.int .i64 1] [] (.ret (.str (natS 1))) []) : CallOk Tryz.prog ap 19 [.int .i64 v] [] (.ret (.agg [.bool false, .str (natS z), .str (natS 1)])) [] := path_ok good (lf := 3000) (n := 4) (ls := []) (orc := [true]) (ans := [(.ret (.str (natS z)), []), (.ret (.str (natS 1)), [])]) (lps := []) (.t (.t (.t (.t (.c h0 .nil)))) : AllB _) (.cons c1 (.cons c0 .nil) : AllP _) (by kernel_rfl)
theorem q2o_1 (v : Int) (x z : Nat) (h0 : lit false (decide (((0 : Nat) : Int) ≤ v)) = true) (c0 : CallOk Tryz.prog ap 39 [.int .i64 (IntKind.wrap .i64 (0 - (IntKind.wrap .i64 (v + ((1 : Nat) : Int)))))] [] (.ret (.str (natS z))) []) (c1 : CallOk Tryz.prog ap 39 [.int .i64 1] [] (.ret (.str (natS 1))) []) (c2 : CallOk Tryz.prog ap 40 [.str (natS z), .str (natS 1)] [] (.ret (.str (natS x))) []) (c3 : CallOk Tryz.prog ap 39 [.int .i64 1] [] (.ret (.str (natS 1))) []) : CallOk Tryz.prog ap 19 [.int .i64 v] [] (.ret (.agg [.bool true, .str (natS x), .str (natS 1)])) [] := path_ok good (lf := 3000) (n := 4) (ls := []) (orc := [false]) (ans := [(.ret (.str (natS z)), []), (.ret (.str (natS 1)), []), (.ret (.str (natS x)), []), (.ret (.str (natS 1)), [])]) (lps := []) (.t (.t (.t (.t (.c h0 .nil)))) : AllB _) (.cons c3 (.cons c2 (.cons c1 (.cons c0 .nil))) : AllP _) (by kernel_rfl)
theorem q2s_0 (neg sg : Bool) (n d n1 d1 : List UInt8) (h0 : lit true (n1 == []) = true) (c0 : CallOk Tryz.prog ap 71 [.agg [.bool neg, .str n, .str d]] [] (.ret (.agg [.bool sg, .str n1, .str d1])) []) : CallOk Tryz.prog ap 108 [.agg [.bool neg, .str n, .str d]] [] (.ret (.int .i64 0)) [] := path_ok good (lf := 3000) (n := 4) (ls := []) (orc := [true]) (ans := [(.ret (.agg [.bool sg, .str n1, .str d1]), [])]) (lps := []) (.c h0 (.t (.t (.t (.t (.t .nil))))) : AllB _) (.cons c0 .nil : AllP _) (by kernel_rfl)
theorem q2s_1 (neg sg : Bool) (n d n1 d1 : List UInt8) (h0 : lit true sg = true) (h1 : lit false (n1 == []) = true) (c0 : CallOk Tryz.prog ap 71 [.agg [.bool neg, .str n, .str d]] [] (.ret (.agg [.bool sg, .str n1, .str d1])) []) : CallOk Tryz.prog ap 108 [.agg [.bool neg, .str n, .str d]] [] (.ret (.int .i64 (-1))) [] := path_ok good (lf := 3000) (n := 4) (ls := []) (orc := [false, true]) (ans := [(.ret (.agg [.bool sg, .str n1, .str d1]), [])]) (lps := []) (.c h0 (.t (.c h1 (.t (.t (.t (.t (.t .nil))))))) : AllB _) (.cons c0 .nil : AllP _) (by kernel_rfl)
theorem q2s_2 (neg sg : Bool) (n d n1 d1 : List UInt8) (h0 : lit false sg = true) (h1 : lit false (n1 == []) = true) (c0 : CallOk Tryz.prog ap 71 [.agg [.bool neg, .str n, .str d]] [] (.ret (.agg [.bool sg, .str n1, .str d1])) []) : CallOk Tryz.prog ap 108 [.agg [.bool neg, .str n, .str d]] [] (.ret (.int .i64 1)) [] := path_ok good (lf := 3000) (n := 4) (ls := []) (orc := [false, false]) (ans := [(.ret (.agg [.bool sg, .str n1, .str d1]), [])]) (lps := []) (.c h0 (.t (.c h1 (.t (.t (.t (.t (.t .nil))))))) : AllB _) (.cons c0 .nil : AllP _) (by kernel_rfl)
theorem sAdd_0 (s t : List UInt8) (x y z : Nat)  (c0 : CallOk Tryz.prog ap 62 [.str s, .int .i64 7] [] (.ret (.tup [.int .i64 ((x : Nat) : Int), .bool true])) []) (c1 : CallOk Tryz.prog ap 62 [.str t, .int .i64 7] [] (.ret (.tup [.int .i64 ((y : Nat) : Int), .bool true])) []) (c2 : CallOk Tryz.prog ap 39 [.int .i64 (IntKind.wrap .i64 (((x : Nat) : Int) + ((y : Nat) : Int)))] [] (.ret (.str (natS z))) []) : CallOk Tryz.prog ap 40 [.str s, .str t] [] (.ret (.str (natS z))) [] := path_ok good (lf := 3000) (n := 4) (ls := []) (orc := [true, true]) (ans := [(.ret (.tup [.int .i64 ((x : Nat) : Int), .bool true]), []), (.ret (.tup [.int .i64 ((y : Nat) : Int), .bool true]), []), (.ret (.str (natS z)), [])]) (lps := []) (.t (.t .nil) : AllB _) (.cons c2 (.cons c1 (.cons c0 .nil)) : AllP _) (by kernel_rfl)
theorem sMul_0 (s t : List UInt8) (x y z : Nat)  (c0 : CallOk Tryz.prog ap 62 [.str s, .int .i64 3] [] (.ret (.tup [.int .i64 ((x : Nat) : Int), .bool true])) []) (c1 : CallOk Tryz.prog ap 62 [.str t, .int .i64 4] [] (.ret (.tup [.int .i64 ((y : Nat) : Int), .bool true])) []) (c2 : CallOk Tryz.prog ap 39 [.int .i64 (IntKind.wrap .i64 (((x : Nat) : Int) * ((y : Nat) : Int)))] [] (.ret (.str (natS z))) []) : CallOk Tryz.prog ap 73 [.str s, .str t] [] (.ret (.str (natS z))) [] := path_ok good (lf := 3000) (n := 4) (ls := []) (orc := [true, true]) (ans := [(.ret (.tup [.int .i64 ((x : Nat) : Int), .bool true]), []), (.ret (.tup [.int .i64 ((y : Nat) : Int), .bool true]), []), (.ret (.str (natS z)), [])]) (lps := []) (.t (.t .nil) : AllB _) (.cons c2 (.cons c1 (.cons c0 .nil)) : AllP _) (by kernel_rfl)
theorem q2q_0 (neg neg2 s1 s2 s3 : Bool) (n d u v n1 d1 n2 d2 n3 d3 p q : List UInt8) (h0 : lit true (n2 == []) = true) (c0 : CallOk Tryz.prog ap 71 [.agg [.bool neg, .str n, .str d]] [] (.ret (.agg [.bool s1, .str n1, .str d1])) []) (c1 : CallOk Tryz.prog ap 71 [.agg [.bool neg2, .str u, .str v]] [] (.ret (.agg [.bool s2, .str n2, .str d2])) []) : CallOk Tryz.prog ap 46 [.agg [.bool neg, .str n, .str d], .agg [.bool neg2, .str u, .str v]] [] (.ret (.tup [.agg [.bool false, .str [], .str []], .bool false])) [] := path_ok good (lf := 3000) (n := 4) (ls := []) (orc := [true]) (ans := [(.ret (.agg [.bool s1, .str n1, .str d1]), []), (.ret (.agg [.bool s2, .str n2, .str d2]), [])]) (lps := []) (.t (.t (.t (.t (.c h0 (.t (.t (.t (.t (.t (.t (.t (.t (.t .nil))))))))))))) : AllB _) (.cons c1 (.cons c0 .nil) : AllP _) (by kernel_rfl)
theorem q2q_1 (neg neg2 s1 s2 s3 : Bool) (n d u v n1 d1 n2 d2 n3 d3 p q : List UInt8) (h0 : lit false (n2 == []) = true) (c0 : CallOk Tryz.prog ap 71 [.agg [.bool neg, .str n, .str d]] [] (.ret (.agg [.bool s1, .str n1, .str d1])) []) (c1 : CallOk Tryz.prog ap 71 [.agg [.bool neg2, .str u, .str v]] [] (.ret (.agg [.bool s2, .str n2, .str d2])) []) (c2 : CallOk Tryz.prog ap 73 [.str n1, .str d2] [] (.ret (.str p)) []) (c3 : CallOk Tryz.prog ap 73 [.str d1, .str n2] [] (.ret (.str q)) []) (c4 : CallOk Tryz.prog ap 72 [.bool (!(s1 == s2)), .str p, .str q] [] (.ret (.agg [.bool s3, .str n3, .str d3])) []) : CallOk Tryz.prog ap 46 [.agg [.bool neg, .str n, .str d], .agg [.bool neg2, .str u, .str v]] [] (.ret (.tup [.agg [.bool s3, .str n3, .str d3], .bool true])) [] := path_ok good (lf := 3000) (n := 4) (ls := []) (orc := [false]) (ans := [(.ret (.agg [.bool s1, .str n1, .str d1]), []), (.ret (.agg [.bool s2, .str n2, .str d2]), []), (.ret (.str p), []), (.ret (.str q), []), (.ret (.agg [.bool s3, .str n3, .str d3]), [])]) (lps := []) (.t (.t (.t (.t (.t (.t (.t (.t (.t (.t (.c h0 (.t (.t (.t (.t (.t (.t (.t (.t (.t .nil))))))))))))))))))) : AllB _) (.cons c4 (.cons c3 (.cons c2 (.cons c1 (.cons c0 .nil)))) : AllP _) (by kernel_rfl)
end Go.Proofs.Tryz

set_option maxRecDepth 100000
open Go AM
namespace Go.Proofs.Tryz
theorem sgn_one {x : Nat} : ((sgn x (valS (natS 1))) == ((0 : Nat) : Int)) = decide (x = 1) := by
  rw [val_natS]
  unfold sgn
  rcases Nat.lt_trichotomy x 1 with h | h | h
  · rw [if_pos h, decide_eq_false (by omega)]; rfl
  · rw [if_neg (by omega), if_neg (by omega), decide_eq_true h]; rfl
  · rw [if_neg (by omega), if_pos h, decide_eq_false (by omega)]; rfl
theorem q2right_ok (neg : Bool) (n d : List UInt8) (hn : n.length < 2 ^ 33) (hd : d.length < 2 ^ 33) : CO 69 [.agg [.bool neg, .str n, .str d]] (.ret (.bool (isQ neg n d))) := by
  have h1 := rnR_ok n
  have h2 := rnR_ok d
  have h3 := rof_ok 1 (by omega)
  have hl1 : (natS 1).length ≤ 1 := natS_len (by omega)
  have hc := rcmp_s d (natS 1) (by omega) (by omega)
  have hg := rgcd_ok n d hn hd
  have hsg := @sgn_one (valS d)
  cases hbn : nR n with
  | false =>
    have e : isQ neg n d = false := by unfold isQ; rw [hbn]; rfl
    rw [e]
    exact q2r_0 neg n d 0 (by rw [hbn]; rfl) h1 h2
  | true =>
    cases hbd : nR d with
    | false =>
      have e : isQ neg n d = false := by unfold isQ; rw [hbd]; simp
      rw [e]
      exact q2r_1 neg n d 0 (by rw [hbd]; rfl) (by rw [hbn]; rfl) h1 h2
    | true =>
      have en := (nR_iff n).1 hbn
      have ed := (nR_iff d).1 hbd
      by_cases hd0 : d = []
      · have e : isQ neg n d = false := by
          subst hd0; unfold isQ; simp [show valS [] = 0 from rfl]
        rw [e]
        exact q2r_2 neg n d 0 (by rw [hd0]; rfl) (by rw [hbd]; rfl) (by rw [hbn]; rfl) h1 h2
      · have hdp : 0 < valS d := by
          rcases Nat.eq_zero_or_pos (valS d) with h | h
          · rw [h, natS_zero] at ed; exact absurd ed.symm hd0
          · exact h
        have hd0' : (d == []) = false := by simpa using hd0
        by_cases hn0 : n = []
        · have hn0' : (n == []) = true := by simpa using hn0
          have hv0 : valS n = 0 := by rw [hn0]; rfl
          cases neg with
          | false =>
            have h := q2r_3 false n d 0 rfl (by rw [hn0']; rfl) (by rw [hd0']; rfl) (by rw [hbd]; rfl) (by rw [hbn]; rfl) h1 h2 h3 hc
            rw [hsg] at h
            have e : isQ false n d = decide (valS d = 1) := by
              rw [Bool.eq_iff_iff, isQ_iff, hv0, Nat.gcd_zero_left]
              simp [hbn, hbd]; omega
            rw [e]; exact h
          | true =>
            have h := q2r_4 true n d 0 rfl (by rw [hn0']; rfl) (by rw [hd0']; rfl) (by rw [hbd]; rfl) (by rw [hbn]; rfl) h1 h2
            have e : isQ true n d = false := by
              rw [Bool.eq_false_iff]; intro h
              have := (isQ_iff.1 h).2.2.2.2 rfl
              omega
            rw [e]; exact h
        · have hn0' : (n == []) = false := by simpa using hn0
          have hnp : 0 < valS n := by
            rcases Nat.eq_zero_or_pos (valS n) with h | h
            · rw [h, natS_zero] at en; exact absurd en.symm hn0
            · exact h
          have hgl : (natS (Nat.gcd (valS n) (valS d))).length ≤ d.length := natS_le (Nat.gcd_le_right _ hdp)
          have hc2 := rcmp_s (natS (Nat.gcd (valS n) (valS d))) (natS 1) (by omega) (by omega)
          have h := q2r_5 neg n d (Nat.gcd (valS n) (valS d)) (by rw [hn0']; rfl) (by rw [hd0']; rfl) (by rw [hbd]; rfl) (by rw [hbn]; rfl) h1 h2 hg h3 hc2
          rw [sgn_one, val_natS] at h
          have e : isQ neg n d = decide (Nat.gcd (valS n) (valS d) = 1) := by
            rw [Bool.eq_iff_iff, isQ_iff]
            simp [hbn, hbd, hdp, hnp]
          rw [e]; exact h
theorem q2fits_ok (neg : Bool) (n d : List UInt8) (hn : n.length < 2 ^ 33) (hd : d.length < 2 ^ 33) : CO 45 [.agg [.bool neg, .str n, .str d]] (.ret (.bool (fitsQ neg n d))) := by
  have hr := q2right_ok neg n d hn hd
  have h1 := rbits_ok n (by omega)
  have h2 := rbits_ok d (by omega)
  unfold fitsQ
  cases hb : isQ neg n d with
  | false => exact q2f_2 neg n d (by rw [hb]; rfl) hr
  | true =>
    by_cases h3 : lenN (valS n) ≤ 400
    · have h := q2f_0 neg n d (by rw [d_le, decide_eq_true h3]; rfl) (by rw [hb]; rfl) hr h1 h2
      rw [d_le] at h
      rw [decide_eq_true h3]
      exact h
    · have h := q2f_1 neg n d (by rw [d_le, decide_eq_false h3]; rfl) (by rw [hb]; rfl) hr h1
      rw [decide_eq_false h3]
      exact h
/-! ### Fractions -/
structure RQ where
  neg : Bool
  n : Nat
  d : Nat
def RQ.ok (q : RQ) : Prop := 0 < q.d ∧ Nat.gcd q.n q.d = 1 ∧ (q.neg = true → 0 < q.n)
/-- A fraction as a value. -/
def qA (q : RQ) : AV := .agg [.bool q.neg, .str (natS q.n), .str (natS q.d)]
def q0 : RQ := ⟨false, 0, 1⟩
def lowQ (neg : Bool) (n d : Nat) : RQ := ⟨neg && decide (0 < n), n / Nat.gcd n d, d / Nat.gcd n d⟩
/-- What any three parts are worth. -/
def vQ (neg : Bool) (n d : List UInt8) : RQ := if isQ neg n d = true then ⟨neg, valS n, valS d⟩ else q0
theorem q0_ok : q0.ok := ⟨by decide, by decide, by simp [q0]⟩
theorem isQ_of (q : RQ) (h : q.ok) : isQ q.neg (natS q.n) (natS q.d) = true := by
  rw [isQ_iff, val_natS, val_natS]
  exact ⟨nR_natS _, nR_natS _, h⟩
theorem isQ_agg {neg : Bool} {n d : List UInt8} (h : isQ neg n d = true) : AV.agg [.bool neg, .str n, .str d] = qA ⟨neg, valS n, valS d⟩ := by
  obtain ⟨h1, h2, _⟩ := isQ_iff.1 h
  unfold qA
  rw [(nR_iff n).1 h1, (nR_iff d).1 h2]
theorem vQ_ok (neg : Bool) (n d : List UInt8) : (vQ neg n d).ok := by
  unfold vQ
  split
  · rename_i h
    obtain ⟨_, _, h3, h4, h5⟩ := isQ_iff.1 h
    exact ⟨h3, h4, h5⟩
  · exact q0_ok
theorem low_okQ {neg : Bool} {n d : Nat} (h : 0 < d) : (lowQ neg n d).ok := by
  have hg : 0 < Nat.gcd n d := Nat.gcd_pos_of_pos_right _ h
  refine ⟨Nat.div_pos (Nat.gcd_le_right _ h) hg, ?_, ?_⟩
  · show Nat.gcd (n / Nat.gcd n d) (d / Nat.gcd n d) = 1
    rw [Nat.gcd_div (Nat.gcd_dvd_left _ _) (Nat.gcd_dvd_right _ _), Nat.div_self hg]
  · intro hn
    have : 0 < n := by simp [lowQ] at hn; exact hn.2
    exact Nat.div_pos (Nat.gcd_le_left _ this) hg
theorem q2val_ok (neg : Bool) (n d : List UInt8) (hn : n.length < 2 ^ 33) (hd : d.length < 2 ^ 33) : CO 71 [.agg [.bool neg, .str n, .str d]] (.ret (qA (vQ neg n d))) := by
  have hr := q2right_ok neg n d hn hd
  unfold vQ
  cases hb : isQ neg n d with
  | false =>
    have h := q2v_0 neg n d (by rw [hb]; rfl) hr (rof_ok 1 (by omega))
    rw [if_neg (by simp)]
    unfold qA q0
    rw [natS_zero]; exact h
  | true =>
    have h := q2v_1 neg n d (by rw [hb]; rfl) hr
    rw [if_pos rfl, ← isQ_agg hb]
    exact h
theorem q2low_ok (neg : Bool) (n d : Nat) (hn : (natS n).length < 2 ^ 33) (hd : (natS d).length < 2 ^ 33) (h0 : 0 < d) : CO 72 [.bool neg, .str (natS n), .str (natS d)] (.ret (qA (lowQ neg n d))) := by
  have hg := rgcd_ok (natS n) (natS d) hn hd
  rw [val_natS, val_natS] at hg
  have hgp : 0 < Nat.gcd n d := Nat.gcd_pos_of_pos_right _ h0
  have hgl : (natS (Nat.gcd n d)).length ≤ (natS d).length := natS_le (by rw [val_natS]; exact Nat.gcd_le_right _ h0)
  have q1 := rquo_ok (natS n) (natS (Nat.gcd n d)) hn (by omega) (by rw [val_natS]; exact hgp)
  have q2 := rquo_ok (natS d) (natS (Nat.gcd n d)) hd (by omega) (by rw [val_natS]; exact hgp)
  simp only [val_natS] at q1 q2
  rcases Nat.eq_zero_or_pos n with rfl | hp
  · have h := q2l_0 neg (natS 0) (natS d) 0 (by rw [natS_zero]; rfl) (rof_ok 1 (by omega))
    unfold qA lowQ
    simp only [Nat.lt_irrefl, decide_false, Bool.and_false, Nat.gcd_zero_left, Nat.zero_div, Nat.div_self h0, natS_zero]
    rw [natS_zero] at h
    exact h
  · have hne : natS n ≠ [] := fun h => by have := natS_eq_nil.1 h; omega
    have h := q2l_1 neg (natS n) (natS d) (Nat.gcd n d) (by simp [lit, hne])
    simp only [val_natS] at h
    unfold qA lowQ
    simp only [hp, decide_true, Bool.and_true]
    exact h hg q1 q2
def sgnR (q : RQ) : Int := if q.n = 0 then 0 else if q.neg then -1 else 1
theorem sgnQ_v (neg : Bool) (n d : List UInt8) : sgnQ neg n d = sgnR (vQ neg n d) := by
  unfold sgnQ sgnR vQ
  cases hb : isQ neg n d with
  | false => simp [q0]
  | true =>
    simp only [true_and, if_true]
    by_cases h : 0 < valS n
    · have h' : ¬ valS n = 0 := by omega
      simp [h, h']
    · have h' : valS n = 0 := by omega
      simp [h']
theorem q2sign_ok (neg : Bool) (n d : List UInt8) (hn : n.length < 2 ^ 33) (hd : d.length < 2 ^ 33) : CO 108 [.agg [.bool neg, .str n, .str d]] (.ret (.int .i64 (sgnQ neg n d))) := by
  have hv := q2val_ok neg n d hn hd
  rw [sgnQ_v]
  generalize vQ neg n d = q at *
  obtain ⟨sg, N, D⟩ := q
  unfold qA at hv
  unfold sgnR
  simp only at hv ⊢
  rcases Nat.eq_zero_or_pos N with rfl | hp
  · rw [if_pos rfl]
    exact q2s_0 neg sg n d (natS 0) (natS D) (by rw [natS_zero]; rfl) hv
  · have hne : natS N ≠ [] := fun h => by have := natS_eq_nil.1 h; omega
    have hne' : (natS N == []) = false := by simpa using hne
    rw [if_neg (by omega)]
    cases sg with
    | true => exact q2s_1 neg true n d (natS N) (natS D) rfl (by rw [hne']; rfl) hv
    | false => exact q2s_2 neg false n d (natS N) (natS D) rfl (by rw [hne']; rfl) hv
def eqS (neg : Bool) (n d : List UInt8) (a : Nat) : Bool := ((neg == false) && ((n == (natS a)) && ((d == (natS 1)) && true)))
theorem q2of (a : Nat) (ha : a < 9223372036854775808) : CO 19 [.int .i64 ((a : Nat) : Int)] (.ret (ratA false a 1)) :=
  q2o_0 ((a : Nat) : Int) 0 a (by simp [lit]) (rof_ok a ha) (rof_ok 1 (by omega))
theorem q2of0 : CO 19 [.int .i64 0] (.ret (ratA false 0 1)) := q2of 0 (by omega)
theorem q2of1 : CO 19 [.int .i64 1] (.ret (ratA false 1 1)) := q2of 1 (by omega)
end Go.Proofs.Tryz

set_option maxRecDepth 100000
open Go AM
namespace Go.Proofs.Tryz
/-- A type. -/
structure Ty where
  tr : Bool
  m : Int
  d : Int
def tyC (t : Ty) : List AV := [.bool t.tr, .int .i64 t.m, .int .i64 t.d]
def unitQ (m d : Int) : Bool := decide (-3 ≤ m ∧ m ≤ 3 ∧ -3 ≤ d ∧ d ≤ 3)
def rightQ (t : Ty) : Bool := cond t.tr ((t.m == 0) && (t.d == 0)) (unitQ t.m t.d)
def valueQ (t : Ty) (neg : Bool) (n d : List UInt8) : Bool := rightQ t && (fitsQ neg n d && (!t.tr || (eqS neg n d 0 || eqS neg n d 1)))
theorem unF_0 (t : Ty) (h0 : lit true (decide ((if t.d > t.m then t.d else t.m) ≤ ((3 : Nat) : Int))) = true)  : CallOk Tryz.prog ap 20 [.agg [.int .i64 t.m, .int .i64 t.d]] [] (.ret (.bool (decide ((-3 : Int) ≤ (if t.d < t.m then t.d else t.m))))) [] := path_ok good (lf := 3000) (n := 4) (ls := []) (orc := [true]) (ans := []) (lps := []) (.t (.t (.c h0 (.t (.t .nil)))) : AllB _) (.nil : AllP _) (by kernel_rfl)
theorem unF_1 (t : Ty) (h0 : lit false (decide ((if t.d > t.m then t.d else t.m) ≤ ((3 : Nat) : Int))) = true)  : CallOk Tryz.prog ap 20 [.agg [.int .i64 t.m, .int .i64 t.d]] [] (.ret (.bool false)) [] := path_ok good (lf := 3000) (n := 4) (ls := []) (orc := [false]) (ans := []) (lps := []) (.c h0 (.t (.t .nil)) : AllB _) (.nil : AllP _) (by kernel_rfl)
theorem unR_0 (t : Ty) (h0 : lit true (decide ((-3 : Int) ≤ t.d)) = true) (h1 : lit true (decide (t.m ≤ ((3 : Nat) : Int))) = true) (h2 : lit true (decide ((-3 : Int) ≤ t.m)) = true)  : CallOk Tryz.prog ap 21 [.agg [.int .i64 t.m, .int .i64 t.d]] [] (.ret (.bool (decide (t.d ≤ ((3 : Nat) : Int))))) [] := path_ok good (lf := 3000) (n := 4) (ls := []) (orc := [true, true, true]) (ans := []) (lps := []) (.t (.c h0 (.t (.c h1 (.t (.c h2 (.t .nil)))))) : AllB _) (.nil : AllP _) (by kernel_rfl)
theorem unR_1 (t : Ty) (h0 : lit false (decide ((-3 : Int) ≤ t.d)) = true) (h1 : lit true (decide (t.m ≤ ((3 : Nat) : Int))) = true) (h2 : lit true (decide ((-3 : Int) ≤ t.m)) = true)  : CallOk Tryz.prog ap 21 [.agg [.int .i64 t.m, .int .i64 t.d]] [] (.ret (.bool false)) [] := path_ok good (lf := 3000) (n := 4) (ls := []) (orc := [true, true, false]) (ans := []) (lps := []) (.c h0 (.t (.c h1 (.t (.c h2 (.t .nil))))) : AllB _) (.nil : AllP _) (by kernel_rfl)
theorem unR_2 (t : Ty) (h0 : lit false (decide (t.m ≤ ((3 : Nat) : Int))) = true) (h1 : lit true (decide ((-3 : Int) ≤ t.m)) = true)  : CallOk Tryz.prog ap 21 [.agg [.int .i64 t.m, .int .i64 t.d]] [] (.ret (.bool false)) [] := path_ok good (lf := 3000) (n := 4) (ls := []) (orc := [true, false, false]) (ans := []) (lps := []) (.t (.c h0 (.t (.c h1 (.t .nil)))) : AllB _) (.nil : AllP _) (by kernel_rfl)
theorem unR_3 (t : Ty) (h0 : lit false (decide ((-3 : Int) ≤ t.m)) = true)  : CallOk Tryz.prog ap 21 [.agg [.int .i64 t.m, .int .i64 t.d]] [] (.ret (.bool false)) [] := path_ok good (lf := 3000) (n := 4) (ls := []) (orc := [false, false, false]) (ans := []) (lps := []) (.t (.t (.c h0 (.t .nil))) : AllB _) (.nil : AllP _) (by kernel_rfl)
theorem riF_0 (t : Ty) (h0 : lit true t.tr = true)  : CallOk Tryz.prog ap 41 [.agg [.bool t.tr, .int .i64 t.m, .int .i64 t.d]] [] (.ret (.bool ((t.tr == true) && ((t.m == ((0 : Nat) : Int)) && ((t.d == ((0 : Nat) : Int)) && true))))) [] := path_ok good (lf := 3000) (n := 4) (ls := []) (orc := [true]) (ans := []) (lps := []) (.t (.t (.t (.t (.t (.t (.c h0 (.t .nil))))))) : AllB _) (.nil : AllP _) (by kernel_rfl)
theorem riF_1 (t : Ty) (h0 : lit false t.tr = true) (c0 : CallOk Tryz.prog ap 20 [.agg [.int .i64 t.m, .int .i64 t.d]] [] (.ret (.bool (unitQ t.m t.d))) []) : CallOk Tryz.prog ap 41 [.agg [.bool t.tr, .int .i64 t.m, .int .i64 t.d]] [] (.ret (.bool (unitQ t.m t.d))) [] := path_ok good (lf := 3000) (n := 4) (ls := []) (orc := [false]) (ans := [(.ret (.bool (unitQ t.m t.d)), [])]) (lps := []) (.t (.t (.c h0 (.t .nil))) : AllB _) (.cons c0 .nil : AllP _) (by kernel_rfl)
theorem riR_0 (t : Ty) (h0 : lit true ((t.tr == true) && ((t.m == ((0 : Nat) : Int)) && ((t.d == ((0 : Nat) : Int)) && true))) = true)  : CallOk Tryz.prog ap 44 [.agg [.bool t.tr, .int .i64 t.m, .int .i64 t.d]] [] (.ret (.bool true)) [] := path_ok good (lf := 3000) (n := 4) (ls := []) (orc := [true]) (ans := []) (lps := []) (.c h0 (.t (.t (.t .nil))) : AllB _) (.nil : AllP _) (by kernel_rfl)
theorem riR_1 (t : Ty) (h0 : lit true (!t.tr) = true) (h1 : lit false ((t.tr == true) && ((t.m == ((0 : Nat) : Int)) && ((t.d == ((0 : Nat) : Int)) && true))) = true) (c0 : CallOk Tryz.prog ap 21 [.agg [.int .i64 t.m, .int .i64 t.d]] [] (.ret (.bool (unitQ t.m t.d))) []) : CallOk Tryz.prog ap 44 [.agg [.bool t.tr, .int .i64 t.m, .int .i64 t.d]] [] (.ret (.bool (unitQ t.m t.d))) [] := path_ok good (lf := 3000) (n := 4) (ls := []) (orc := [false, true]) (ans := [(.ret (.bool (unitQ t.m t.d)), [])]) (lps := []) (.t (.t (.c h0 (.t (.c h1 (.t (.t (.t .nil))))))) : AllB _) (.cons c0 .nil : AllP _) (by kernel_rfl)
theorem riR_2 (t : Ty) (h0 : lit false (!t.tr) = true) (h1 : lit false ((t.tr == true) && ((t.m == ((0 : Nat) : Int)) && ((t.d == ((0 : Nat) : Int)) && true))) = true)  : CallOk Tryz.prog ap 44 [.agg [.bool t.tr, .int .i64 t.m, .int .i64 t.d]] [] (.ret (.bool false)) [] := path_ok good (lf := 3000) (n := 4) (ls := []) (orc := [false, false]) (ans := []) (lps := []) (.c h0 (.t (.c h1 (.t (.t (.t .nil))))) : AllB _) (.nil : AllP _) (by kernel_rfl)
theorem vaF_0 (t : Ty) (neg : Bool) (n d : List UInt8) (h0 : lit true (!t.tr) = true) (h1 : lit true (fitsQ neg n d) = true) (h2 : lit true (rightQ t) = true) (c0 : CallOk Tryz.prog ap 41 [.agg [.bool t.tr, .int .i64 t.m, .int .i64 t.d]] [] (.ret (.bool (rightQ t))) []) (c1 : CallOk Tryz.prog ap 42 [.agg [.bool neg, .str n, .str d]] [] (.ret (.bool (fitsQ neg n d))) []) : CallOk Tryz.prog ap 22 [.agg [.bool t.tr, .int .i64 t.m, .int .i64 t.d], .agg [.bool neg, .str n, .str d]] [] (.ret (.bool true)) [] := path_ok good (lf := 3000) (n := 4) (ls := []) (orc := [true, true, true, true]) (ans := [(.ret (.bool (rightQ t)), []), (.ret (.bool (fitsQ neg n d)), [])]) (lps := []) (.t (.c h0 (.t (.c h1 (.t (.t (.t (.c h2 (.t (.t (.t .nil)))))))))) : AllB _) (.cons c1 (.cons c0 .nil) : AllP _) (by kernel_rfl)
theorem vaF_1 (t : Ty) (neg : Bool) (n d : List UInt8) (h0 : lit true ((neg == false) && ((n == (natS 0)) && ((d == (natS 1)) && true))) = true) (h1 : lit false (!t.tr) = true) (h2 : lit true (fitsQ neg n d) = true) (h3 : lit true (rightQ t) = true) (c0 : CallOk Tryz.prog ap 41 [.agg [.bool t.tr, .int .i64 t.m, .int .i64 t.d]] [] (.ret (.bool (rightQ t))) []) (c1 : CallOk Tryz.prog ap 42 [.agg [.bool neg, .str n, .str d]] [] (.ret (.bool (fitsQ neg n d))) []) (c2 : CallOk Tryz.prog ap 43 [.int .i64 0] [] (.ret (.agg [.bool false, .str (natS 0), .str (natS 1)])) []) : CallOk Tryz.prog ap 22 [.agg [.bool t.tr, .int .i64 t.m, .int .i64 t.d], .agg [.bool neg, .str n, .str d]] [] (.ret (.bool true)) [] := path_ok good (lf := 3000) (n := 4) (ls := []) (orc := [true, true, false, true]) (ans := [(.ret (.bool (rightQ t)), []), (.ret (.bool (fitsQ neg n d)), []), (.ret (.agg [.bool false, .str (natS 0), .str (natS 1)]), [])]) (lps := []) (.c h0 (.t (.t (.t (.c h1 (.t (.c h2 (.t (.t (.t (.c h3 (.t (.t (.t .nil))))))))))))) : AllB _) (.cons c2 (.cons c1 (.cons c0 .nil)) : AllP _) (by kernel_rfl)
theorem vaF_2 (t : Ty) (neg : Bool) (n d : List UInt8) (h0 : lit false ((neg == false) && ((n == (natS 0)) && ((d == (natS 1)) && true))) = true) (h1 : lit false (!t.tr) = true) (h2 : lit true (fitsQ neg n d) = true) (h3 : lit true (rightQ t) = true) (c0 : CallOk Tryz.prog ap 41 [.agg [.bool t.tr, .int .i64 t.m, .int .i64 t.d]] [] (.ret (.bool (rightQ t))) []) (c1 : CallOk Tryz.prog ap 42 [.agg [.bool neg, .str n, .str d]] [] (.ret (.bool (fitsQ neg n d))) []) (c2 : CallOk Tryz.prog ap 43 [.int .i64 0] [] (.ret (.agg [.bool false, .str (natS 0), .str (natS 1)])) []) (c3 : CallOk Tryz.prog ap 43 [.int .i64 1] [] (.ret (.agg [.bool false, .str (natS 1), .str (natS 1)])) []) : CallOk Tryz.prog ap 22 [.agg [.bool t.tr, .int .i64 t.m, .int .i64 t.d], .agg [.bool neg, .str n, .str d]] [] (.ret (.bool ((neg == false) && ((n == (natS 1)) && ((d == (natS 1)) && true))))) [] := path_ok good (lf := 3000) (n := 4) (ls := []) (orc := [true, true, false, false]) (ans := [(.ret (.bool (rightQ t)), []), (.ret (.bool (fitsQ neg n d)), []), (.ret (.agg [.bool false, .str (natS 0), .str (natS 1)]), []), (.ret (.agg [.bool false, .str (natS 1), .str (natS 1)]), [])]) (lps := []) (.t (.t (.t (.c h0 (.t (.t (.t (.c h1 (.t (.c h2 (.t (.t (.t (.c h3 (.t (.t (.t .nil)))))))))))))))) : AllB _) (.cons c3 (.cons c2 (.cons c1 (.cons c0 .nil))) : AllP _) (by kernel_rfl)
theorem vaF_3 (t : Ty) (neg : Bool) (n d : List UInt8) (h0 : lit false (fitsQ neg n d) = true) (h1 : lit true (rightQ t) = true) (c0 : CallOk Tryz.prog ap 41 [.agg [.bool t.tr, .int .i64 t.m, .int .i64 t.d]] [] (.ret (.bool (rightQ t))) []) (c1 : CallOk Tryz.prog ap 42 [.agg [.bool neg, .str n, .str d]] [] (.ret (.bool (fitsQ neg n d))) []) : CallOk Tryz.prog ap 22 [.agg [.bool t.tr, .int .i64 t.m, .int .i64 t.d], .agg [.bool neg, .str n, .str d]] [] (.ret (.bool false)) [] := path_ok good (lf := 3000) (n := 4) (ls := []) (orc := [true, false]) (ans := [(.ret (.bool (rightQ t)), []), (.ret (.bool (fitsQ neg n d)), [])]) (lps := []) (.c h0 (.t (.t (.t (.c h1 (.t (.t (.t .nil))))))) : AllB _) (.cons c1 (.cons c0 .nil) : AllP _) (by kernel_rfl)
theorem vaF_4 (t : Ty) (neg : Bool) (n d : List UInt8) (h0 : lit false (rightQ t) = true) (c0 : CallOk Tryz.prog ap 41 [.agg [.bool t.tr, .int .i64 t.m, .int .i64 t.d]] [] (.ret (.bool (rightQ t))) []) : CallOk Tryz.prog ap 22 [.agg [.bool t.tr, .int .i64 t.m, .int .i64 t.d], .agg [.bool neg, .str n, .str d]] [] (.ret (.bool false)) [] := path_ok good (lf := 3000) (n := 4) (ls := []) (orc := [false, false]) (ans := [(.ret (.bool (rightQ t)), [])]) (lps := []) (.t (.c h0 (.t (.t (.t .nil)))) : AllB _) (.cons c0 .nil : AllP _) (by kernel_rfl)
theorem vaR_0 (t : Ty) (neg : Bool) (n d : List UInt8) (h0 : lit true (!(rightQ t)) = true) (c0 : CallOk Tryz.prog ap 44 [.agg [.bool t.tr, .int .i64 t.m, .int .i64 t.d]] [] (.ret (.bool (rightQ t))) []) : CallOk Tryz.prog ap 23 [.agg [.bool t.tr, .int .i64 t.m, .int .i64 t.d], .agg [.bool neg, .str n, .str d]] [] (.ret (.bool false)) [] := path_ok good (lf := 3000) (n := 4) (ls := []) (orc := [true, true]) (ans := [(.ret (.bool (rightQ t)), [])]) (lps := []) (.t (.c h0 (.t (.t (.t .nil)))) : AllB _) (.cons c0 .nil : AllP _) (by kernel_rfl)
theorem vaR_1 (t : Ty) (neg : Bool) (n d : List UInt8) (h0 : lit true (!(fitsQ neg n d)) = true) (h1 : lit false (!(rightQ t)) = true) (c0 : CallOk Tryz.prog ap 44 [.agg [.bool t.tr, .int .i64 t.m, .int .i64 t.d]] [] (.ret (.bool (rightQ t))) []) (c1 : CallOk Tryz.prog ap 45 [.agg [.bool neg, .str n, .str d]] [] (.ret (.bool (fitsQ neg n d))) []) : CallOk Tryz.prog ap 23 [.agg [.bool t.tr, .int .i64 t.m, .int .i64 t.d], .agg [.bool neg, .str n, .str d]] [] (.ret (.bool false)) [] := path_ok good (lf := 3000) (n := 4) (ls := []) (orc := [false, true]) (ans := [(.ret (.bool (rightQ t)), []), (.ret (.bool (fitsQ neg n d)), [])]) (lps := []) (.c h0 (.t (.t (.t (.c h1 (.t (.t (.t .nil))))))) : AllB _) (.cons c1 (.cons c0 .nil) : AllP _) (by kernel_rfl)
theorem vaR_2 (t : Ty) (neg : Bool) (n d : List UInt8) (h0 : lit true (!t.tr) = true) (h1 : lit false (!(fitsQ neg n d)) = true) (h2 : lit false (!(rightQ t)) = true) (c0 : CallOk Tryz.prog ap 44 [.agg [.bool t.tr, .int .i64 t.m, .int .i64 t.d]] [] (.ret (.bool (rightQ t))) []) (c1 : CallOk Tryz.prog ap 45 [.agg [.bool neg, .str n, .str d]] [] (.ret (.bool (fitsQ neg n d))) []) : CallOk Tryz.prog ap 23 [.agg [.bool t.tr, .int .i64 t.m, .int .i64 t.d], .agg [.bool neg, .str n, .str d]] [] (.ret (.bool true)) [] := path_ok good (lf := 3000) (n := 4) (ls := []) (orc := [false, false, true, true]) (ans := [(.ret (.bool (rightQ t)), []), (.ret (.bool (fitsQ neg n d)), [])]) (lps := []) (.t (.c h0 (.t (.c h1 (.t (.t (.t (.c h2 (.t (.t (.t .nil)))))))))) : AllB _) (.cons c1 (.cons c0 .nil) : AllP _) (by kernel_rfl)
theorem vaR_3 (t : Ty) (neg : Bool) (n d : List UInt8) (h0 : lit true ((neg == false) && ((n == (natS 0)) && ((d == (natS 1)) && true))) = true) (h1 : lit false (!t.tr) = true) (h2 : lit false (!(fitsQ neg n d)) = true) (h3 : lit false (!(rightQ t)) = true) (c0 : CallOk Tryz.prog ap 44 [.agg [.bool t.tr, .int .i64 t.m, .int .i64 t.d]] [] (.ret (.bool (rightQ t))) []) (c1 : CallOk Tryz.prog ap 45 [.agg [.bool neg, .str n, .str d]] [] (.ret (.bool (fitsQ neg n d))) []) (c2 : CallOk Tryz.prog ap 19 [.int .i64 0] [] (.ret (.agg [.bool false, .str (natS 0), .str (natS 1)])) []) : CallOk Tryz.prog ap 23 [.agg [.bool t.tr, .int .i64 t.m, .int .i64 t.d], .agg [.bool neg, .str n, .str d]] [] (.ret (.bool true)) [] := path_ok good (lf := 3000) (n := 4) (ls := []) (orc := [false, false, false, true]) (ans := [(.ret (.bool (rightQ t)), []), (.ret (.bool (fitsQ neg n d)), []), (.ret (.agg [.bool false, .str (natS 0), .str (natS 1)]), [])]) (lps := []) (.c h0 (.t (.t (.t (.c h1 (.t (.c h2 (.t (.t (.t (.c h3 (.t (.t (.t .nil))))))))))))) : AllB _) (.cons c2 (.cons c1 (.cons c0 .nil)) : AllP _) (by kernel_rfl)
theorem vaR_4 (t : Ty) (neg : Bool) (n d : List UInt8) (h0 : lit false ((neg == false) && ((n == (natS 0)) && ((d == (natS 1)) && true))) = true) (h1 : lit false (!t.tr) = true) (h2 : lit false (!(fitsQ neg n d)) = true) (h3 : lit false (!(rightQ t)) = true) (c0 : CallOk Tryz.prog ap 44 [.agg [.bool t.tr, .int .i64 t.m, .int .i64 t.d]] [] (.ret (.bool (rightQ t))) []) (c1 : CallOk Tryz.prog ap 45 [.agg [.bool neg, .str n, .str d]] [] (.ret (.bool (fitsQ neg n d))) []) (c2 : CallOk Tryz.prog ap 19 [.int .i64 0] [] (.ret (.agg [.bool false, .str (natS 0), .str (natS 1)])) []) (c3 : CallOk Tryz.prog ap 19 [.int .i64 1] [] (.ret (.agg [.bool false, .str (natS 1), .str (natS 1)])) []) : CallOk Tryz.prog ap 23 [.agg [.bool t.tr, .int .i64 t.m, .int .i64 t.d], .agg [.bool neg, .str n, .str d]] [] (.ret (.bool ((neg == false) && ((n == (natS 1)) && ((d == (natS 1)) && true))))) [] := path_ok good (lf := 3000) (n := 4) (ls := []) (orc := [false, false, false, false]) (ans := [(.ret (.bool (rightQ t)), []), (.ret (.bool (fitsQ neg n d)), []), (.ret (.agg [.bool false, .str (natS 0), .str (natS 1)]), []), (.ret (.agg [.bool false, .str (natS 1), .str (natS 1)]), [])]) (lps := []) (.t (.t (.t (.c h0 (.t (.t (.t (.c h1 (.t (.c h2 (.t (.t (.t (.c h3 (.t (.t (.t .nil)))))))))))))))) : AllB _) (.cons c3 (.cons c2 (.cons c1 (.cons c0 .nil))) : AllP _) (by kernel_rfl)
theorem unit_ok (t : Ty) : CO 20 [.agg [.int .i64 t.m, .int .i64 t.d]] (.ret (.bool (unitQ t.m t.d))) := by
  cases hb0 : (decide ((if t.d > t.m then t.d else t.m) ≤ ((3 : Nat) : Int))) with
  | true =>
    have h := unF_0 t (by rw [hb0]; rfl)
    have e : unitQ t.m t.d = (decide ((-3 : Int) ≤ (if t.d < t.m then t.d else t.m))) := by
      clear h
      unfold unitQ
      simp only [decide_eq_true_eq, decide_eq_false_iff_not, beq_iff_eq, beq_eq_false_iff_ne] at *
      first | omega | (split at hb0 <;> omega) | (rw [Bool.eq_iff_iff]; simp only [decide_eq_true_eq]; first | omega | (split at hb0 <;> split <;> omega))
    rw [e]; exact h
  | false =>
    have h := unF_1 t (by rw [hb0]; rfl)
    have e : unitQ t.m t.d = false := by
      clear h
      unfold unitQ
      simp only [decide_eq_true_eq, decide_eq_false_iff_not, beq_iff_eq, beq_eq_false_iff_ne] at *
      first | omega | (split at hb0 <;> omega) | (rw [Bool.eq_iff_iff]; simp only [decide_eq_true_eq]; first | omega | (split at hb0 <;> split <;> omega))
    rw [e]; exact h
theorem runit_ok (t : Ty) : CO 21 [.agg [.int .i64 t.m, .int .i64 t.d]] (.ret (.bool (unitQ t.m t.d))) := by
  cases hb0 : (decide ((-3 : Int) ≤ t.m)) with
  | true =>
    cases hb1 : (decide (t.m ≤ ((3 : Nat) : Int))) with
    | true =>
      cases hb2 : (decide ((-3 : Int) ≤ t.d)) with
      | true =>
        have h := unR_0 t (by rw [hb2]; rfl) (by rw [hb1]; rfl) (by rw [hb0]; rfl)
        have e : unitQ t.m t.d = (decide (t.d ≤ ((3 : Nat) : Int))) := by
          clear h
          unfold unitQ
          simp only [decide_eq_true_eq, decide_eq_false_iff_not, beq_iff_eq, beq_eq_false_iff_ne] at *
          first | omega | (split at hb0 <;> omega) | (rw [Bool.eq_iff_iff]; simp only [decide_eq_true_eq]; first | omega | (split at hb0 <;> split <;> omega))
        rw [e]; exact h
      | false =>
        have h := unR_1 t (by rw [hb2]; rfl) (by rw [hb1]; rfl) (by rw [hb0]; rfl)
        have e : unitQ t.m t.d = false := by
          clear h
          unfold unitQ
          simp only [decide_eq_true_eq, decide_eq_false_iff_not, beq_iff_eq, beq_eq_false_iff_ne] at *
          first | omega | (split at hb0 <;> omega) | (rw [Bool.eq_iff_iff]; simp only [decide_eq_true_eq]; first | omega | (split at hb0 <;> split <;> omega))
        rw [e]; exact h
    | false =>
      have h := unR_2 t (by rw [hb1]; rfl) (by rw [hb0]; rfl)
      have e : unitQ t.m t.d = false := by
        clear h
        unfold unitQ
        simp only [decide_eq_true_eq, decide_eq_false_iff_not, beq_iff_eq, beq_eq_false_iff_ne] at *
        first | omega | (split at hb0 <;> omega) | (rw [Bool.eq_iff_iff]; simp only [decide_eq_true_eq]; first | omega | (split at hb0 <;> split <;> omega))
      rw [e]; exact h
  | false =>
    have h := unR_3 t (by rw [hb0]; rfl)
    have e : unitQ t.m t.d = false := by
      clear h
      unfold unitQ
      simp only [decide_eq_true_eq, decide_eq_false_iff_not, beq_iff_eq, beq_eq_false_iff_ne] at *
      first | omega | (split at hb0 <;> omega) | (rw [Bool.eq_iff_iff]; simp only [decide_eq_true_eq]; first | omega | (split at hb0 <;> split <;> omega))
    rw [e]; exact h
theorem right_tok (t : Ty) : CO 41 [.agg (tyC t)] (.ret (.bool (rightQ t))) := by
  cases hb0 : t.tr with
  | true =>
    have h := riF_0 t (by rw [hb0]; rfl) 
    have e : rightQ t = ((t.tr == true) && ((t.m == ((0 : Nat) : Int)) && ((t.d == ((0 : Nat) : Int)) && true))) := by first | (simp only [rightQ, hb0] <;> rfl) | (unfold rightQ; rw [hb0]; simp [hb0])
    rw [e]; exact h
  | false =>
    have h := riF_1 t (by rw [hb0]; rfl) (unit_ok t)
    have e : rightQ t = (unitQ t.m t.d) := by first | (simp only [rightQ, hb0] <;> rfl) | (unfold rightQ; rw [hb0]; simp [hb0])
    rw [e]; exact h
theorem rright_tok (t : Ty) : CO 44 [.agg (tyC t)] (.ret (.bool (rightQ t))) := by
  cases hb0 : ((t.tr == true) && ((t.m == ((0 : Nat) : Int)) && ((t.d == ((0 : Nat) : Int)) && true))) with
  | true =>
    have h := riR_0 t (by rw [hb0]; rfl) 
    have e : rightQ t = true := by first | (simp only [rightQ, hb0] <;> rfl) | (unfold rightQ; cases htr : t.tr <;> simp_all)
    rw [e]; exact h
  | false =>
    cases hb1 : t.tr with
    | true =>
      have h := riR_2 t (by rw [hb1]; rfl) (by rw [hb0]; rfl) 
      have e : rightQ t = false := by first | (simp only [rightQ, hb0, hb1] <;> rfl) | (unfold rightQ; cases htr : t.tr <;> simp_all)
      rw [e]; exact h
    | false =>
      have h := riR_1 t (by rw [hb1]; rfl) (by rw [hb0]; rfl) (runit_ok t)
      have e : rightQ t = (unitQ t.m t.d) := by first | (simp only [rightQ, hb0, hb1] <;> rfl) | (unfold rightQ; cases htr : t.tr <;> simp_all)
      rw [e]; exact h
theorem value_ok (t : Ty) (neg : Bool) (n d : List UInt8) (hn : n.length < 2 ^ 33) (hd : d.length < 2 ^ 33) : CO 22 [.agg (tyC t), .agg [.bool neg, .str n, .str d]] (.ret (.bool (valueQ t neg n d))) := by
  cases hb0 : (rightQ t) with
  | true =>
    cases hb1 : (fitsQ neg n d) with
    | true =>
      cases hb2 : t.tr with
      | true =>
        cases hb3 : ((neg == false) && ((n == (natS 0)) && ((d == (natS 1)) && true))) with
        | true =>
          have h := vaF_1 t neg n d (by rw [hb3]; rfl) (by rw [hb2]; rfl) (by rw [hb1]; rfl) (by rw [hb0]; rfl) (right_tok t) (fits_ok _ _ _ (Nat.lt_trans hn (by decide)) (Nat.lt_trans hd (by decide))) (ratof0)
          have e : valueQ t neg n d = true := by first | (simp only [valueQ, eqS, hb0, hb1, hb2, hb3] <;> rfl)
          rw [e]; exact h
        | false =>
          have h := vaF_2 t neg n d (by rw [hb3]; rfl) (by rw [hb2]; rfl) (by rw [hb1]; rfl) (by rw [hb0]; rfl) (right_tok t) (fits_ok _ _ _ (Nat.lt_trans hn (by decide)) (Nat.lt_trans hd (by decide))) (ratof0) (ratof1)
          have e : valueQ t neg n d = ((neg == false) && ((n == (natS 1)) && ((d == (natS 1)) && true))) := by first | (simp only [valueQ, eqS, hb0, hb1, hb2, hb3] <;> rfl)
          rw [e]; exact h
      | false =>
        have h := vaF_0 t neg n d (by rw [hb2]; rfl) (by rw [hb1]; rfl) (by rw [hb0]; rfl) (right_tok t) (fits_ok _ _ _ (Nat.lt_trans hn (by decide)) (Nat.lt_trans hd (by decide)))
        have e : valueQ t neg n d = true := by first | (simp only [valueQ, eqS, hb0, hb1, hb2] <;> rfl)
        rw [e]; exact h
    | false =>
      have h := vaF_3 t neg n d (by rw [hb1]; rfl) (by rw [hb0]; rfl) (right_tok t) (fits_ok _ _ _ (Nat.lt_trans hn (by decide)) (Nat.lt_trans hd (by decide)))
      have e : valueQ t neg n d = false := by first | (simp only [valueQ, eqS, hb0, hb1] <;> rfl)
      rw [e]; exact h
  | false =>
    have h := vaF_4 t neg n d (by rw [hb0]; rfl) (right_tok t)
    have e : valueQ t neg n d = false := by first | (simp only [valueQ, eqS, hb0] <;> rfl)
    rw [e]; exact h
theorem rvalue_ok (t : Ty) (neg : Bool) (n d : List UInt8) (hn : n.length < 2 ^ 33) (hd : d.length < 2 ^ 33) : CO 23 [.agg (tyC t), .agg [.bool neg, .str n, .str d]] (.ret (.bool (valueQ t neg n d))) := by
  cases hb0 : (rightQ t) with
  | true =>
    cases hb1 : (fitsQ neg n d) with
    | true =>
      cases hb2 : t.tr with
      | true =>
        cases hb3 : ((neg == false) && ((n == (natS 0)) && ((d == (natS 1)) && true))) with
        | true =>
          have h := vaR_3 t neg n d (by rw [hb3]; rfl) (by rw [hb2]; rfl) (by rw [hb1]; rfl) (by rw [hb0]; rfl) (rright_tok t) (q2fits_ok _ _ _ hn hd) (q2of0)
          have e : valueQ t neg n d = true := by first | (simp only [valueQ, eqS, hb0, hb1, hb2, hb3] <;> rfl)
          rw [e]; exact h
        | false =>
          have h := vaR_4 t neg n d (by rw [hb3]; rfl) (by rw [hb2]; rfl) (by rw [hb1]; rfl) (by rw [hb0]; rfl) (rright_tok t) (q2fits_ok _ _ _ hn hd) (q2of0) (q2of1)
          have e : valueQ t neg n d = ((neg == false) && ((n == (natS 1)) && ((d == (natS 1)) && true))) := by first | (simp only [valueQ, eqS, hb0, hb1, hb2, hb3] <;> rfl)
          rw [e]; exact h
      | false =>
        have h := vaR_2 t neg n d (by rw [hb2]; rfl) (by rw [hb1]; rfl) (by rw [hb0]; rfl) (rright_tok t) (q2fits_ok _ _ _ hn hd)
        have e : valueQ t neg n d = true := by first | (simp only [valueQ, eqS, hb0, hb1, hb2] <;> rfl)
        rw [e]; exact h
    | false =>
      have h := vaR_1 t neg n d (by rw [hb1]; rfl) (by rw [hb0]; rfl) (rright_tok t) (q2fits_ok _ _ _ hn hd)
      have e : valueQ t neg n d = false := by first | (simp only [valueQ, eqS, hb0, hb1] <;> rfl)
      rw [e]; exact h
  | false =>
    have h := vaR_0 t neg n d (by rw [hb0]; rfl) (rright_tok t)
    have e : valueQ t neg n d = false := by first | (simp only [valueQ, eqS, hb0] <;> rfl)
    rw [e]; exact h
end Go.Proofs.Tryz

set_option maxRecDepth 100000
open Go AM
namespace Go.Proofs.Tryz
theorem cuF_0 (t kt : Ty) (neg sg : Bool) (n d zn zd : List UInt8) (q0 q1 : Int) (u0 u1 u2 u3 v0 v1 v2 v3 v4 v5 v6 v7 : Bool) (h0 : lit false (!(v7 == v7)) = true) (h1 : lit false (!(v6 == v6)) = true) (h2 : lit false (!(u3 == u3)) = true) (h3 : lit false (!(v5 == v5)) = true) (h4 : lit false (!(v4 == v4)) = true) (h5 : lit false (!(u2 == u2)) = true) (h6 : lit false (!(v3 == v3)) = true) (h7 : lit false (!(v2 == v2)) = true) (h8 : lit false (!(u1 == u1)) = true) (h9 : lit false (!(v1 == v1)) = true) (h10 : lit false (!(v0 == v0)) = true) (h11 : lit false (!(u0 == u0)) = true) (h12 : (decide (((0 : Nat) : Int) ≤ (if ((60 : Nat) : Int) < (((List.length d) : Nat) : Int) then ((60 : Nat) : Int) else (((List.length d) : Nat) : Int)))) = true) (h13 : (decide ((if ((60 : Nat) : Int) < (((List.length d) : Nat) : Int) then ((60 : Nat) : Int) else (((List.length d) : Nat) : Int)) ≤ (((List.length d) : Nat) : Int))) = true) (h14 : (decide (((0 : Nat) : Int) ≤ (if ((60 : Nat) : Int) < (((List.length n) : Nat) : Int) then ((60 : Nat) : Int) else (((List.length n) : Nat) : Int)))) = true) (h15 : (decide ((if ((60 : Nat) : Int) < (((List.length n) : Nat) : Int) then ((60 : Nat) : Int) else (((List.length n) : Nat) : Int)) ≤ (((List.length n) : Nat) : Int))) = true) (c0 : CallOk Tryz.prog ap 11 [] [] (.ret (.bool true)) []) (c1 : CallOk Tryz.prog ap 19 [.int .i64 (IntKind.wrap .i64 ((Int.tmod q0 ((4 : Nat) : Int)) - ((1 : Nat) : Int)))] [] (.ret (.agg [.bool sg, .str zn, .str zd])) []) (c2 : CallOk Tryz.prog ap 15 [.int .i64 q0] [] (.ret (.agg [.bool kt.tr, .int .i64 kt.m, .int .i64 kt.d])) []) (c3 : CallOk Tryz.prog ap 20 [.agg [.int .i64 t.m, .int .i64 t.d]] [] (.ret (.bool u0)) []) (c4 : CallOk Tryz.prog ap 21 [.agg [.int .i64 t.m, .int .i64 t.d]] [] (.ret (.bool u0)) []) (c5 : CallOk Tryz.prog ap 22 [.agg [.bool t.tr, .int .i64 t.m, .int .i64 t.d], .agg [.bool neg, .str (List.drop 0 (List.take (Int.toNat (if ((60 : Nat) : Int) < (((List.length n) : Nat) : Int) then ((60 : Nat) : Int) else (((List.length n) : Nat) : Int))) n)), .str (List.drop 0 (List.take (Int.toNat (if ((60 : Nat) : Int) < (((List.length d) : Nat) : Int) then ((60 : Nat) : Int) else (((List.length d) : Nat) : Int))) d))]] [] (.ret (.bool v0)) []) (c6 : CallOk Tryz.prog ap 23 [.agg [.bool t.tr, .int .i64 t.m, .int .i64 t.d], .agg [.bool neg, .str (List.drop 0 (List.take (Int.toNat (if ((60 : Nat) : Int) < (((List.length n) : Nat) : Int) then ((60 : Nat) : Int) else (((List.length n) : Nat) : Int))) n)), .str (List.drop 0 (List.take (Int.toNat (if ((60 : Nat) : Int) < (((List.length d) : Nat) : Int) then ((60 : Nat) : Int) else (((List.length d) : Nat) : Int))) d))]] [] (.ret (.bool v0)) []) (c7 : CallOk Tryz.prog ap 22 [.agg [.bool t.tr, .int .i64 t.m, .int .i64 t.d], .agg [.bool sg, .str zn, .str zd]] [] (.ret (.bool v1)) []) (c8 : CallOk Tryz.prog ap 23 [.agg [.bool t.tr, .int .i64 t.m, .int .i64 t.d], .agg [.bool sg, .str zn, .str zd]] [] (.ret (.bool v1)) []) (c9 : CallOk Tryz.prog ap 20 [.agg [.int .i64 (Int.tmod q0 ((5 : Nat) : Int)), .int .i64 (Int.tmod q1 ((5 : Nat) : Int))]] [] (.ret (.bool u1)) []) (c10 : CallOk Tryz.prog ap 21 [.agg [.int .i64 (Int.tmod q0 ((5 : Nat) : Int)), .int .i64 (Int.tmod q1 ((5 : Nat) : Int))]] [] (.ret (.bool u1)) []) (c11 : CallOk Tryz.prog ap 22 [.agg [.bool ((Int.tmod q1 ((2 : Nat) : Int)) == ((0 : Nat) : Int)), .int .i64 (Int.tmod q0 ((5 : Nat) : Int)), .int .i64 (Int.tmod q1 ((5 : Nat) : Int))], .agg [.bool neg, .str (List.drop 0 (List.take (Int.toNat (if ((60 : Nat) : Int) < (((List.length n) : Nat) : Int) then ((60 : Nat) : Int) else (((List.length n) : Nat) : Int))) n)), .str (List.drop 0 (List.take (Int.toNat (if ((60 : Nat) : Int) < (((List.length d) : Nat) : Int) then ((60 : Nat) : Int) else (((List.length d) : Nat) : Int))) d))]] [] (.ret (.bool v2)) []) (c12 : CallOk Tryz.prog ap 23 [.agg [.bool ((Int.tmod q1 ((2 : Nat) : Int)) == ((0 : Nat) : Int)), .int .i64 (Int.tmod q0 ((5 : Nat) : Int)), .int .i64 (Int.tmod q1 ((5 : Nat) : Int))], .agg [.bool neg, .str (List.drop 0 (List.take (Int.toNat (if ((60 : Nat) : Int) < (((List.length n) : Nat) : Int) then ((60 : Nat) : Int) else (((List.length n) : Nat) : Int))) n)), .str (List.drop 0 (List.take (Int.toNat (if ((60 : Nat) : Int) < (((List.length d) : Nat) : Int) then ((60 : Nat) : Int) else (((List.length d) : Nat) : Int))) d))]] [] (.ret (.bool v2)) []) (c13 : CallOk Tryz.prog ap 22 [.agg [.bool ((Int.tmod q1 ((2 : Nat) : Int)) == ((0 : Nat) : Int)), .int .i64 (Int.tmod q0 ((5 : Nat) : Int)), .int .i64 (Int.tmod q1 ((5 : Nat) : Int))], .agg [.bool sg, .str zn, .str zd]] [] (.ret (.bool v3)) []) (c14 : CallOk Tryz.prog ap 23 [.agg [.bool ((Int.tmod q1 ((2 : Nat) : Int)) == ((0 : Nat) : Int)), .int .i64 (Int.tmod q0 ((5 : Nat) : Int)), .int .i64 (Int.tmod q1 ((5 : Nat) : Int))], .agg [.bool sg, .str zn, .str zd]] [] (.ret (.bool v3)) []) (c15 : CallOk Tryz.prog ap 20 [.agg [.int .i64 0, .int .i64 0]] [] (.ret (.bool u2)) []) (c16 : CallOk Tryz.prog ap 21 [.agg [.int .i64 0, .int .i64 0]] [] (.ret (.bool u2)) []) (c17 : CallOk Tryz.prog ap 22 [.agg [.bool true, .int .i64 0, .int .i64 0], .agg [.bool neg, .str (List.drop 0 (List.take (Int.toNat (if ((60 : Nat) : Int) < (((List.length n) : Nat) : Int) then ((60 : Nat) : Int) else (((List.length n) : Nat) : Int))) n)), .str (List.drop 0 (List.take (Int.toNat (if ((60 : Nat) : Int) < (((List.length d) : Nat) : Int) then ((60 : Nat) : Int) else (((List.length d) : Nat) : Int))) d))]] [] (.ret (.bool v4)) []) (c18 : CallOk Tryz.prog ap 23 [.agg [.bool true, .int .i64 0, .int .i64 0], .agg [.bool neg, .str (List.drop 0 (List.take (Int.toNat (if ((60 : Nat) : Int) < (((List.length n) : Nat) : Int) then ((60 : Nat) : Int) else (((List.length n) : Nat) : Int))) n)), .str (List.drop 0 (List.take (Int.toNat (if ((60 : Nat) : Int) < (((List.length d) : Nat) : Int) then ((60 : Nat) : Int) else (((List.length d) : Nat) : Int))) d))]] [] (.ret (.bool v4)) []) (c19 : CallOk Tryz.prog ap 22 [.agg [.bool true, .int .i64 0, .int .i64 0], .agg [.bool sg, .str zn, .str zd]] [] (.ret (.bool v5)) []) (c20 : CallOk Tryz.prog ap 23 [.agg [.bool true, .int .i64 0, .int .i64 0], .agg [.bool sg, .str zn, .str zd]] [] (.ret (.bool v5)) []) (c21 : CallOk Tryz.prog ap 20 [.agg [.int .i64 kt.m, .int .i64 kt.d]] [] (.ret (.bool u3)) []) (c22 : CallOk Tryz.prog ap 21 [.agg [.int .i64 kt.m, .int .i64 kt.d]] [] (.ret (.bool u3)) []) (c23 : CallOk Tryz.prog ap 22 [.agg [.bool kt.tr, .int .i64 kt.m, .int .i64 kt.d], .agg [.bool neg, .str (List.drop 0 (List.take (Int.toNat (if ((60 : Nat) : Int) < (((List.length n) : Nat) : Int) then ((60 : Nat) : Int) else (((List.length n) : Nat) : Int))) n)), .str (List.drop 0 (List.take (Int.toNat (if ((60 : Nat) : Int) < (((List.length d) : Nat) : Int) then ((60 : Nat) : Int) else (((List.length d) : Nat) : Int))) d))]] [] (.ret (.bool v6)) []) (c24 : CallOk Tryz.prog ap 23 [.agg [.bool kt.tr, .int .i64 kt.m, .int .i64 kt.d], .agg [.bool neg, .str (List.drop 0 (List.take (Int.toNat (if ((60 : Nat) : Int) < (((List.length n) : Nat) : Int) then ((60 : Nat) : Int) else (((List.length n) : Nat) : Int))) n)), .str (List.drop 0 (List.take (Int.toNat (if ((60 : Nat) : Int) < (((List.length d) : Nat) : Int) then ((60 : Nat) : Int) else (((List.length d) : Nat) : Int))) d))]] [] (.ret (.bool v6)) []) (c25 : CallOk Tryz.prog ap 22 [.agg [.bool kt.tr, .int .i64 kt.m, .int .i64 kt.d], .agg [.bool sg, .str zn, .str zd]] [] (.ret (.bool v7)) []) (c26 : CallOk Tryz.prog ap 23 [.agg [.bool kt.tr, .int .i64 kt.m, .int .i64 kt.d], .agg [.bool sg, .str zn, .str zd]] [] (.ret (.bool v7)) []) : CallOk Tryz.prog ap 6 [.agg [.bool t.tr, .int .i64 t.m, .int .i64 t.d], .agg [.bool neg, .str n, .str d], .agg [.int .i64 q0, .int .i64 q1]] [] (.ret (.bool true)) [] := path_ok good (lf := 3000) (n := 4) (ls := []) (orc := [true, false, false, false, true, false, false, false, true, false, false, false, true, false, false, false, false]) (ans := [(.ret (.bool true), []), (.ret (.agg [.bool sg, .str zn, .str zd]), []), (.ret (.agg [.bool kt.tr, .int .i64 kt.m, .int .i64 kt.d]), []), (.ret (.bool u0), []), (.ret (.bool u0), []), (.ret (.bool v0), []), (.ret (.bool v0), []), (.ret (.bool v1), []), (.ret (.bool v1), []), (.ret (.bool u1), []), (.ret (.bool u1), []), (.ret (.bool v2), []), (.ret (.bool v2), []), (.ret (.bool v3), []), (.ret (.bool v3), []), (.ret (.bool u2), []), (.ret (.bool u2), []), (.ret (.bool v4), []), (.ret (.bool v4), []), (.ret (.bool v5), []), (.ret (.bool v5), []), (.ret (.bool u3), []), (.ret (.bool u3), []), (.ret (.bool v6), []), (.ret (.bool v6), []), (.ret (.bool v7), []), (.ret (.bool v7), [])]) (lps := []) (.t (.c h0 (.t (.t (.t (.t (.t (.t (.t (.t (.t (.t (.t (.t (.t (.t (.t (.t (.c h1 (.t (.t (.t (.t (.t (.t (.t (.t (.t (.t (.t (.t (.t (.t (.t (.t (.c h2 (.t (.t (.t (.t (.t (.t (.t (.t (.t (.c h3 (.t (.t (.t (.t (.t (.t (.t (.t (.t (.t (.t (.t (.t (.t (.t (.t (.c h4 (.t (.t (.t (.t (.t (.t (.t (.t (.t (.t (.t (.t (.t (.t (.t (.t (.c h5 (.t (.t (.t (.t (.t (.t (.t (.t (.t (.c h6 (.t (.t (.t (.t (.t (.t (.t (.t (.t (.t (.t (.t (.t (.t (.t (.t (.c h7 (.t (.t (.t (.t (.t (.t (.t (.t (.t (.t (.t (.t (.t (.t (.t (.t (.c h8 (.t (.t (.t (.t (.t (.t (.t (.t (.t (.c h9 (.t (.t (.t (.t (.t (.t (.t (.t (.t (.t (.t (.t (.t (.t (.t (.t (.c h10 (.t (.t (.t (.t (.t (.t (.t (.t (.t (.t (.t (.t (.t (.t (.t (.t (.c h11 (.t (.t (.t (.t (.t (.t (.t (.t (.t (.t (.t (.t (.t (.t (.t (.t (.t (.t (.t (.t (.t (.t (.t (.t (.t (.t (.t (.t (.t (.t (.t (.t (.t (.t (.t (.t (.t (.t (.t (.c h12 (.c h13 (.t (.t (.t (.t (.c h14 (.c h15 (.t (.t .nil)))))))))))))))))))))))))))))))))))))))))))))))))))))))))))))))))))))))))))))))))))))))))))))))))))))))))))))))))))))))))))))))))))))))))))))))))))))))))))))))))))))))))))))))))))))))))))))))))))))))))))))))))))))))) : AllB _) (.cons c26 (.cons c25 (.cons c24 (.cons c23 (.cons c22 (.cons c21 (.cons c20 (.cons c19 (.cons c18 (.cons c17 (.cons c16 (.cons c15 (.cons c14 (.cons c13 (.cons c12 (.cons c11 (.cons c10 (.cons c9 (.cons c8 (.cons c7 (.cons c6 (.cons c5 (.cons c4 (.cons c3 (.cons c2 (.cons c1 (.cons c0 .nil)))))))))))))))))))))))))) : AllP _) (by kernel_rfl)
end Go.Proofs.Tryz
