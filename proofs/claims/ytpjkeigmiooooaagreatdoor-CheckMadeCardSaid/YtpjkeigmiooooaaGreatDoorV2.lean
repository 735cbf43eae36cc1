/- Contracts of functions that the law reaches, each by its own hypotheses; joined by a program of mine. -/
import Derived.Test.YtpjkeigmiooooaaGreatDoorV1
import Derived.Test.YtpjkeigmiooooaaGreatDoorM5
set_option linter.unusedSimpArgs false
set_option linter.unusedVariables false
set_option maxRecDepth 100000
open Go AM
namespace Go.Proofs.Tryz
theorem can_0 {nt : Nat} (hn : 19 ≤ nt) (s : List UInt8) (k : Nat) (h0 : lit true (((UInt8.toNat (List.getD s (Int.toNat (k : Int)) 0) : Nat) : Int) == ((0 : Nat) : Int)) = true) (h1 : (decide (((0 : Nat) : Int) ≤ (k : Int))) = true) (h2 : (decide ((k : Int) < (((List.length s) : Nat) : Int))) = true) (h3 : lit true (decide ((k : Int) < (((List.length s) : Nat) : Int))) = true)  : ExecOk prog ap [] nt (loopBody 0 (bodyOf f61)) ⟨[(0, .str s), (3, .int .i64 (k : Int))], [], .dead, []⟩ (.normal) ⟨[(0, .str s), (3, .int .i64 (IntKind.wrap .i64 ((k : Int) + ((1 : Nat) : Int))))], [], .dead, []⟩ := pJ 61 [] 2 3 (.c h0 (.c h1 (.c h2 (.c h3 .nil)))) (.nil) hn
theorem can_1 {nt : Nat} (hn : 19 ≤ nt) (s : List UInt8) (k : Nat) (h0 : lit false (((UInt8.toNat (List.getD s (Int.toNat (k : Int)) 0) : Nat) : Int) == ((0 : Nat) : Int)) = true) (h1 : (decide (((0 : Nat) : Int) ≤ (k : Int))) = true) (h2 : (decide ((k : Int) < (((List.length s) : Nat) : Int))) = true) (h3 : lit true (decide ((k : Int) < (((List.length s) : Nat) : Int))) = true)  : ExecOk prog ap [] nt (loopBody 0 (bodyOf f61)) ⟨[(0, .str s), (3, .int .i64 (k : Int))], [], .dead, []⟩ (.exit 0) ⟨[(0, .str s), (3, .int .i64 (k : Int))], [], .dead, []⟩ := pJ 61 [] 2 1 (.c h0 (.c h1 (.c h2 (.c h3 .nil)))) (.nil) hn
theorem can_2 {nt : Nat} (hn : 19 ≤ nt) (s : List UInt8) (k : Nat) (h0 : lit false (decide ((k : Int) < (((List.length s) : Nat) : Int))) = true)  : ExecOk prog ap [] nt (loopBody 0 (bodyOf f61)) ⟨[(0, .str s), (3, .int .i64 (k : Int))], [], .dead, []⟩ (.exit 0) ⟨[(0, .str s), (3, .int .i64 (k : Int))], [], .dead, []⟩ := pJ 61 [] 2 0 (.k 1 h0 .nil) (.nil) hn
theorem canF_0 (s : List UInt8) (k : Nat) (h0 : (decide (((0 : Nat) : Int) ≤ (k : Int))) = true) (h1 : (decide ((k : Int) ≤ (((List.length s) : Nat) : Int))) = true) (h2 : (decide ((((List.length s) : Nat) : Int) ≤ (((List.length s) : Nat) : Int))) = true) (l0 : LoopOk prog ap [] 19 (.block 0 (.loop (loopBody 0 (bodyOf f61)))) ⟨[(0, .str s), (2, .str []), (3, .int .i64 0), (13, .dead)], [], .dead, []⟩ (.normal) ⟨[(0, .str s), (3, .int .i64 (k : Int))], [], .dead, []⟩) : CO 61 [.str s] (.ret (.str (List.drop (Int.toNat (k : Int)) (List.take (Int.toNat (((List.length s) : Nat) : Int)) s)))) := pK [0] 0 0 (.c h0 (.c h1 (.c h2 .nil))) (.l l0 .nil)
theorem rtr_0 {nt : Nat} (hn : 21 ≤ nt) (l : List Nat) (nn : Bool) (h0 : (decide (((0 : Nat) : Int) ≤ (IntKind.wrap .i64 ((l.length : Int) - ((1 : Nat) : Int))))) = true) (h1 : (decide ((IntKind.wrap .i64 ((l.length : Int) - ((1 : Nat) : Int))) ≤ (l.length : Int))) = true) (h2 : lit true ((AV.toInt (List.headD (List.drop ((Int.toNat (IntKind.wrap .i64 ((l.length : Int) - ((1 : Nat) : Int)))) * 1) (i64L l)) .dead)) == ((0 : Nat) : Int)) = true) (h3 : (chk (.int .i64) (List.headD (List.drop ((Int.toNat (IntKind.wrap .i64 ((l.length : Int) - ((1 : Nat) : Int)))) * 1) (i64L l)) .dead)) = true) (h4 : (decide ((IntKind.wrap .i64 ((l.length : Int) - ((1 : Nat) : Int))) < (l.length : Int))) = true) (h5 : lit true (decide (((0 : Nat) : Int) < (l.length : Int))) = true)  : ExecOk prog ap [] nt (loopBody 0 (bodyOf f123)) ⟨[(0, .sl (i64L l) l.length nn)], [], .dead, []⟩ (.normal) ⟨[(0, .sl (List.take ((Int.toNat (IntKind.wrap .i64 ((l.length : Int) - ((1 : Nat) : Int)))) * 1) (i64L l)) ((Int.toNat (IntKind.wrap .i64 ((l.length : Int) - ((1 : Nat) : Int)))) - 0) nn)], [], .dead, []⟩ := pJ 123 [] 2 3 (.k 1 h0 (.c h1 (.c h2 (.c h3 (.c h0 (.c h4 (.c h5 .nil))))))) (.nil) hn
theorem rtr_1 {nt : Nat} (hn : 21 ≤ nt) (l : List Nat) (nn : Bool) (h0 : lit false ((AV.toInt (List.headD (List.drop ((Int.toNat (IntKind.wrap .i64 ((l.length : Int) - ((1 : Nat) : Int)))) * 1) (i64L l)) .dead)) == ((0 : Nat) : Int)) = true) (h1 : (chk (.int .i64) (List.headD (List.drop ((Int.toNat (IntKind.wrap .i64 ((l.length : Int) - ((1 : Nat) : Int)))) * 1) (i64L l)) .dead)) = true) (h2 : (decide (((0 : Nat) : Int) ≤ (IntKind.wrap .i64 ((l.length : Int) - ((1 : Nat) : Int))))) = true) (h3 : (decide ((IntKind.wrap .i64 ((l.length : Int) - ((1 : Nat) : Int))) < (l.length : Int))) = true) (h4 : lit true (decide (((0 : Nat) : Int) < (l.length : Int))) = true)  : ExecOk prog ap [] nt (loopBody 0 (bodyOf f123)) ⟨[(0, .sl (i64L l) l.length nn)], [], .dead, []⟩ (.exit 0) ⟨[(0, .sl (i64L l) l.length nn)], [], .dead, []⟩ := pJ 123 [] 2 1 (.c h0 (.c h1 (.c h2 (.c h3 (.c h4 .nil))))) (.nil) hn
theorem rtr_2 {nt : Nat} (hn : 21 ≤ nt) (l : List Nat) (nn : Bool) (h0 : lit false (decide (((0 : Nat) : Int) < (l.length : Int))) = true)  : ExecOk prog ap [] nt (loopBody 0 (bodyOf f123)) ⟨[(0, .sl (i64L l) l.length nn)], [], .dead, []⟩ (.exit 0) ⟨[(0, .sl (i64L l) l.length nn)], [], .dead, []⟩ := pJ 123 [] 2 0 (.k 1 h0 .nil) (.nil) hn
theorem rtrF_0 (l r : List Nat) (nn : Bool)  (l0 : LoopOk prog ap [] 21 (.block 0 (.loop (loopBody 0 (bodyOf f123)))) ⟨[(0, .sl (i64L l) l.length nn), (2, .nilS), (14, .dead)], [], .dead, []⟩ (.normal) ⟨[(0, .sl (i64L r) r.length nn)], [], .dead, []⟩) : CO 123 [.sl (i64L l) l.length nn] (.ret (.sl (i64L r) r.length nn)) := pK [0] 0 0 .nil (.l l0 .nil)
theorem rcm_0 {nt : Nat} (hn : 41 ≤ nt) (a b : List Nat) (na nb : Bool) (k : Nat) (h0 : (chk (.int .i64) (List.headD (List.drop ((Int.toNat (k : Int)) * 1) (i64L b)) .dead)) = true) (h1 : (decide (((0 : Nat) : Int) ≤ (k : Int))) = true) (h2 : (decide ((k : Int) < (b.length : Int))) = true) (h3 : (chk (.int .i64) (List.headD (List.drop ((Int.toNat (k : Int)) * 1) (i64L a)) .dead)) = true) (h4 : (decide ((k : Int) < (a.length : Int))) = true) (h5 : lit true (!((AV.toInt (List.headD (List.drop ((Int.toNat (k : Int)) * 1) (i64L a)) .dead)) == (AV.toInt (List.headD (List.drop ((Int.toNat (k : Int)) * 1) (i64L b)) .dead)))) = true) (h6 : lit true (decide (((0 : Nat) : Int) ≤ (k : Int))) = true)  : ExecOk prog ap [] nt (loopBody 0 (bodyOf f124)) ⟨[(0, .sl (i64L a) a.length na), (1, .sl (i64L b) b.length nb), (5, .int .i64 (k : Int))], [], .dead, []⟩ (.ret) ⟨[(4, .int .i64 (IntKind.wrap .i64 ((AV.toInt (List.headD (List.drop ((Int.toNat (k : Int)) * 1) (i64L a)) .dead)) - (AV.toInt (List.headD (List.drop ((Int.toNat (k : Int)) * 1) (i64L b)) .dead)))))], [], .dead, []⟩ := pJ 124 [] 2 3 (.c h0 (.c h1 (.c h2 (.c h3 (.c h1 (.c h4 (.c h5 (.c h0 (.c h1 (.c h2 (.c h3 (.c h1 (.c h4 (.c h6 .nil)))))))))))))) (.nil) hn
theorem rcm_1 {nt : Nat} (hn : 41 ≤ nt) (a b : List Nat) (na nb : Bool) (k : Nat) (h0 : lit false (!((AV.toInt (List.headD (List.drop ((Int.toNat (k : Int)) * 1) (i64L a)) .dead)) == (AV.toInt (List.headD (List.drop ((Int.toNat (k : Int)) * 1) (i64L b)) .dead)))) = true) (h1 : (chk (.int .i64) (List.headD (List.drop ((Int.toNat (k : Int)) * 1) (i64L b)) .dead)) = true) (h2 : (decide (((0 : Nat) : Int) ≤ (k : Int))) = true) (h3 : (decide ((k : Int) < (b.length : Int))) = true) (h4 : (chk (.int .i64) (List.headD (List.drop ((Int.toNat (k : Int)) * 1) (i64L a)) .dead)) = true) (h5 : (decide ((k : Int) < (a.length : Int))) = true) (h6 : lit true (decide (((0 : Nat) : Int) ≤ (k : Int))) = true)  : ExecOk prog ap [] nt (loopBody 0 (bodyOf f124)) ⟨[(0, .sl (i64L a) a.length na), (1, .sl (i64L b) b.length nb), (5, .int .i64 (k : Int))], [], .dead, []⟩ (.normal) ⟨[(0, .sl (i64L a) a.length na), (1, .sl (i64L b) b.length nb), (5, .int .i64 (IntKind.wrap .i64 ((k : Int) - ((1 : Nat) : Int))))], [], .dead, []⟩ := pJ 124 [] 2 1 (.c h0 (.c h1 (.c h2 (.c h3 (.c h4 (.c h2 (.c h5 (.c h6 .nil)))))))) (.nil) hn
theorem rcmE_0 {nt : Nat} (hn : 41 ≤ nt) (a b : List Nat) (na nb : Bool)   : ExecOk prog ap [] nt (loopBody 0 (bodyOf f124)) ⟨[(0, .sl (i64L a) a.length na), (1, .sl (i64L b) b.length nb), (5, .int .i64 (-1))], [], .dead, []⟩ (.exit 0) ⟨[], [], .dead, []⟩ := pJ 124 [] 1 0 (.n 1 .nil) (.nil) hn
theorem rcmF_0 (a b : List Nat) (na nb : Bool) (h0 : lit true (!((a.length : Int) == (b.length : Int))) = true)  : CO 124 [.sl (i64L a) a.length na, .sl (i64L b) b.length nb] (.ret (.int .i64 (IntKind.wrap .i64 ((a.length : Int) - (b.length : Int))))) := pK [0] 1 1 (.c h0 .nil) (.nil)
theorem rcmF_1 (a b : List Nat) (na nb : Bool) (h0 : lit false (!((a.length : Int) == (b.length : Int))) = true) (l0 : LoopOk prog ap [] 41 (.block 0 (.loop (loopBody 0 (bodyOf f124)))) ⟨[(0, .sl (i64L a) a.length na), (1, .sl (i64L b) b.length nb), (4, .int .i64 0), (5, .int .i64 (IntKind.wrap .i64 ((a.length : Int) - ((1 : Nat) : Int)))), (10, .bool (!((a.length : Int) == (b.length : Int)))), (20, .dead), (31, .dead)], [], .dead, []⟩ (.normal) ⟨[], [], .dead, []⟩) : CO 124 [.sl (i64L a) a.length na, .sl (i64L b) b.length nb] (.ret (.int .i64 0)) := pK [0] 1 0 (.c h0 .nil) (.l l0 .nil)
theorem rcmR_1 (a b : List Nat) (na nb : Bool) (c : Int) (h0 : lit false (!((a.length : Int) == (b.length : Int))) = true) (l0 : LoopOk prog ap [] 41 (.block 0 (.loop (loopBody 0 (bodyOf f124)))) ⟨[(0, .sl (i64L a) a.length na), (1, .sl (i64L b) b.length nb), (4, .int .i64 0), (5, .int .i64 (IntKind.wrap .i64 ((a.length : Int) - ((1 : Nat) : Int)))), (10, .bool (!((a.length : Int) == (b.length : Int)))), (20, .dead), (31, .dead)], [], .dead, []⟩ (.ret) ⟨[(4, .int .i64 c)], [], .dead, []⟩) : CO 124 [.sl (i64L a) a.length na, .sl (i64L b) b.length nb] (.ret (.int .i64 c)) := pK [0] 1 0 (.c h0 .nil) (.l l0 .nil)
theorem rtmN_0 {nt : Nat} (hn : 35 ≤ nt) (a o : List Nat) (na : Bool) (d c k : Nat) (h0 : (chk (.int .i64) (List.headD (List.drop ((Int.toNat (k : Int)) * 1) (i64L a)) .dead)) = true) (h1 : (decide (((0 : Nat) : Int) ≤ (k : Int))) = true) (h2 : (decide ((k : Int) < (a.length : Int))) = true) (h3 : lit true (decide ((k : Int) < (a.length : Int))) = true)  : ExecOk prog ap [] nt (loopBody 0 (bodyOf f127)) ⟨[(0, .sl (i64L a) a.length na), (1, .int .i64 (d : Int)), (6, .int .i64 (c : Int)), (7, .int .i64 (k : Int)), (5, .nilS)], [], .dead, []⟩ (.normal) ⟨[(0, .sl (i64L a) a.length na), (1, .int .i64 (d : Int)), (6, .int .i64 (IntKind.wrap .i64 (Int.tdiv (IntKind.wrap .i64 ((IntKind.wrap .i64 ((AV.toInt (List.headD (List.drop ((Int.toNat (k : Int)) * 1) (i64L a)) .dead)) * (d : Int))) + (c : Int))) ((16777216 : Nat) : Int)))), (7, .int .i64 (IntKind.wrap .i64 ((k : Int) + ((1 : Nat) : Int)))), (5, .ref 0 0 0 1)], [(0, ⟨[.int .i64 (Int.tmod (IntKind.wrap .i64 ((IntKind.wrap .i64 ((AV.toInt (List.headD (List.drop ((Int.toNat (k : Int)) * 1) (i64L a)) .dead)) * (d : Int))) + (c : Int))) ((16777216 : Nat) : Int))], 0, false, 0, 1, true⟩)], .dead, []⟩ := pJ 127 [] 2 1 (.k 5 h0 (.c h1 (.c h2 (.c h3 .nil)))) (.nil) hn
theorem rtmN_1 {nt : Nat} (hn : 35 ≤ nt) (a o : List Nat) (na : Bool) (d c k : Nat) (h0 : lit false (decide ((k : Int) < (a.length : Int))) = true)  : ExecOk prog ap [] nt (loopBody 0 (bodyOf f127)) ⟨[(0, .sl (i64L a) a.length na), (1, .int .i64 (d : Int)), (6, .int .i64 (c : Int)), (7, .int .i64 (k : Int)), (5, .nilS)], [], .dead, []⟩ (.exit 0) ⟨[(5, .nilS), (6, .int .i64 (c : Int))], [], .dead, []⟩ := pJ 127 [] 1 0 (.c h0 .nil) (.nil) hn
theorem rtmNF_0 (a o r : List Nat) (na : Bool) (d c : Nat)  (l0 : LoopOk prog ap [] 35 (.block 0 (.loop (loopBody 0 (bodyOf f127)))) ⟨[(0, .sl (i64L a) a.length na), (1, .int .i64 (d : Int)), (4, .nilS), (5, .nilS), (6, .int .i64 0), (7, .int .i64 0), (8, .dead), (12, .dead)], [], .dead, []⟩ (.normal) ⟨[(5, .nilS), (6, .int .i64 (c : Int))], [], .dead, []⟩) (c0 : CO 123 [.sl [.int .i64 (c : Int)] 1 true] (.ret (.sl (i64L r) r.length true))) : CO 127 [.sl (i64L a) a.length na, .int .i64 (d : Int)] (.ret (.sl (i64L r) r.length true)) := pK [0] 1 0 (.n 3 .nil) (.c c0 (.l l0 .nil))
theorem rtmC_0 {nt : Nat} (hn : 35 ≤ nt) (a o : List Nat) (na : Bool) (d c k : Nat) (h0 : (Nat.ble (o.length + 1) 1099511627776) = true) (h1 : (Nat.ble (o.length * 1) (List.length (i64L o))) = true) (h2 : (chk (.int .i64) (List.headD (List.drop ((Int.toNat (k : Int)) * 1) (i64L a)) .dead)) = true) (h3 : (decide (((0 : Nat) : Int) ≤ (k : Int))) = true) (h4 : (decide ((k : Int) < (a.length : Int))) = true) (h5 : lit true (decide ((k : Int) < (a.length : Int))) = true)  : ExecOk prog ap [] nt (loopBody 0 (bodyOf f127)) ⟨[(0, .sl (i64L a) a.length na), (1, .int .i64 (d : Int)), (6, .int .i64 (c : Int)), (7, .int .i64 (k : Int)), (5, .ref 0 0 0 o.length)], [(0, ⟨(i64L o), 0, false, 0, 1, true⟩)], .dead, []⟩ (.normal) ⟨[(0, .sl (i64L a) a.length na), (1, .int .i64 (d : Int)), (6, .int .i64 (IntKind.wrap .i64 (Int.tdiv (IntKind.wrap .i64 ((IntKind.wrap .i64 ((AV.toInt (List.headD (List.drop ((Int.toNat (k : Int)) * 1) (i64L a)) .dead)) * (d : Int))) + (c : Int))) ((16777216 : Nat) : Int)))), (7, .int .i64 (IntKind.wrap .i64 ((k : Int) + ((1 : Nat) : Int)))), (5, .ref 0 0 0 (o.length + 1))], [(0, ⟨((List.take (o.length * 1) (i64L o)) ++ [.int .i64 (Int.tmod (IntKind.wrap .i64 ((IntKind.wrap .i64 ((AV.toInt (List.headD (List.drop ((Int.toNat (k : Int)) * 1) (i64L a)) .dead)) * (d : Int))) + (c : Int))) ((16777216 : Nat) : Int))]), 0, false, 0, 1, true⟩)], .dead, []⟩ := pJ 127 [] 1 1 (.k 2 h0 (.c h1 (.k 2 h2 (.c h3 (.c h4 (.c h5 .nil)))))) (.nil) hn
theorem rtmC_1 {nt : Nat} (hn : 35 ≤ nt) (a o : List Nat) (na : Bool) (d c k : Nat) (h0 : lit false (decide ((k : Int) < (a.length : Int))) = true)  : ExecOk prog ap [] nt (loopBody 0 (bodyOf f127)) ⟨[(0, .sl (i64L a) a.length na), (1, .int .i64 (d : Int)), (6, .int .i64 (c : Int)), (7, .int .i64 (k : Int)), (5, .ref 0 0 0 o.length)], [(0, ⟨(i64L o), 0, false, 0, 1, true⟩)], .dead, []⟩ (.exit 0) ⟨[(5, .ref 0 0 0 o.length), (6, .int .i64 (c : Int))], [(0, ⟨(i64L o), 0, false, 0, 1, true⟩)], .dead, []⟩ := pJ 127 [] 1 0 (.c h0 .nil) (.nil) hn
theorem rtmCF_0 (a o r : List Nat) (na : Bool) (d c : Nat) (h0 : (Nat.ble (o.length + 1) 1099511627776) = true) (h1 : (Nat.ble (o.length * 1) (List.length (i64L o))) = true) (l0 : LoopOk prog ap [] 35 (.block 0 (.loop (loopBody 0 (bodyOf f127)))) ⟨[(0, .sl (i64L a) a.length na), (1, .int .i64 (d : Int)), (4, .nilS), (5, .nilS), (6, .int .i64 0), (7, .int .i64 0), (8, .dead), (12, .dead)], [], .dead, []⟩ (.normal) ⟨[(5, .ref 0 0 0 o.length), (6, .int .i64 (c : Int))], [(0, ⟨(i64L o), 0, false, 0, 1, true⟩)], .dead, []⟩) (c0 : CO 123 [.sl (List.take ((o.length + 1) * 1) ((List.take (o.length * 1) (i64L o)) ++ [.int .i64 (c : Int)])) (o.length + 1) true] (.ret (.sl (i64L r) r.length true))) : CO 127 [.sl (i64L a) a.length na, .int .i64 (d : Int)] (.ret (.sl (i64L r) r.length true)) := pK [0] 0 0 (.k 1 h0 (.c h1 (.n 1 .nil))) (.c c0 (.l l0 .nil))
theorem rmiN_0 {nt : Nat} (hn : 41 ≤ nt) (a b o : List Nat) (na nb : Bool) (c k : Nat) (h0 : lit true (decide ((IntKind.wrap .i64 ((IntKind.wrap .i64 ((AV.toInt (List.headD (List.drop ((Int.toNat (k : Int)) * 1) (i64L a)) .dead)) - (c : Int))) - (AV.toInt (List.headD (List.drop ((Int.toNat (k : Int)) * 1) (i64L b)) .dead)))) < ((0 : Nat) : Int))) = true) (h1 : (chk (.int .i64) (List.headD (List.drop ((Int.toNat (k : Int)) * 1) (i64L b)) .dead)) = true) (h2 : (decide (((0 : Nat) : Int) ≤ (k : Int))) = true) (h3 : (decide ((k : Int) < (b.length : Int))) = true) (h4 : lit true (decide ((k : Int) < (b.length : Int))) = true) (h5 : (chk (.int .i64) (List.headD (List.drop ((Int.toNat (k : Int)) * 1) (i64L a)) .dead)) = true) (h6 : (decide ((k : Int) < (a.length : Int))) = true) (h7 : lit true (decide ((k : Int) < (a.length : Int))) = true)  : ExecOk prog ap [] nt (loopBody 0 (bodyOf f126)) ⟨[(0, .sl (i64L a) a.length na), (1, .sl (i64L b) b.length nb), (6, .int .i64 (c : Int)), (7, .int .i64 (k : Int)), (5, .nilS)], [], .dead, []⟩ (.normal) ⟨[(0, .sl (i64L a) a.length na), (1, .sl (i64L b) b.length nb), (6, .int .i64 1), (7, .int .i64 (IntKind.wrap .i64 ((k : Int) + ((1 : Nat) : Int)))), (5, .ref 0 0 0 1)], [(0, ⟨[.int .i64 (IntKind.wrap .i64 ((IntKind.wrap .i64 ((IntKind.wrap .i64 ((AV.toInt (List.headD (List.drop ((Int.toNat (k : Int)) * 1) (i64L a)) .dead)) - (c : Int))) - (AV.toInt (List.headD (List.drop ((Int.toNat (k : Int)) * 1) (i64L b)) .dead)))) + ((16777216 : Nat) : Int)))], 0, false, 0, 1, true⟩)], .dead, []⟩ := pJ 126 [] 4 7 (.k 3 h0 (.c h1 (.c h2 (.c h3 (.c h4 (.c h5 (.c h2 (.c h6 (.c h7 .nil))))))))) (.nil) hn
theorem rmiN_1 {nt : Nat} (hn : 41 ≤ nt) (a b o : List Nat) (na nb : Bool) (c k : Nat) (h0 : lit false (decide ((IntKind.wrap .i64 ((IntKind.wrap .i64 ((AV.toInt (List.headD (List.drop ((Int.toNat (k : Int)) * 1) (i64L a)) .dead)) - (c : Int))) - (AV.toInt (List.headD (List.drop ((Int.toNat (k : Int)) * 1) (i64L b)) .dead)))) < ((0 : Nat) : Int))) = true) (h1 : (chk (.int .i64) (List.headD (List.drop ((Int.toNat (k : Int)) * 1) (i64L b)) .dead)) = true) (h2 : (decide (((0 : Nat) : Int) ≤ (k : Int))) = true) (h3 : (decide ((k : Int) < (b.length : Int))) = true) (h4 : lit true (decide ((k : Int) < (b.length : Int))) = true) (h5 : (chk (.int .i64) (List.headD (List.drop ((Int.toNat (k : Int)) * 1) (i64L a)) .dead)) = true) (h6 : (decide ((k : Int) < (a.length : Int))) = true) (h7 : lit true (decide ((k : Int) < (a.length : Int))) = true)  : ExecOk prog ap [] nt (loopBody 0 (bodyOf f126)) ⟨[(0, .sl (i64L a) a.length na), (1, .sl (i64L b) b.length nb), (6, .int .i64 (c : Int)), (7, .int .i64 (k : Int)), (5, .nilS)], [], .dead, []⟩ (.normal) ⟨[(0, .sl (i64L a) a.length na), (1, .sl (i64L b) b.length nb), (6, .int .i64 0), (7, .int .i64 (IntKind.wrap .i64 ((k : Int) + ((1 : Nat) : Int)))), (5, .ref 0 0 0 1)], [(0, ⟨[.int .i64 (IntKind.wrap .i64 ((IntKind.wrap .i64 ((AV.toInt (List.headD (List.drop ((Int.toNat (k : Int)) * 1) (i64L a)) .dead)) - (c : Int))) - (AV.toInt (List.headD (List.drop ((Int.toNat (k : Int)) * 1) (i64L b)) .dead))))], 0, false, 0, 1, true⟩)], .dead, []⟩ := pJ 126 [] 4 3 (.k 3 h0 (.c h1 (.c h2 (.c h3 (.c h4 (.c h5 (.c h2 (.c h6 (.c h7 .nil))))))))) (.nil) hn
theorem rmiN_2 {nt : Nat} (hn : 41 ≤ nt) (a b o : List Nat) (na nb : Bool) (c k : Nat) (h0 : lit true (decide ((IntKind.wrap .i64 ((AV.toInt (List.headD (List.drop ((Int.toNat (k : Int)) * 1) (i64L a)) .dead)) - (c : Int))) < ((0 : Nat) : Int))) = true) (h1 : lit false (decide ((k : Int) < (b.length : Int))) = true) (h2 : (chk (.int .i64) (List.headD (List.drop ((Int.toNat (k : Int)) * 1) (i64L a)) .dead)) = true) (h3 : (decide (((0 : Nat) : Int) ≤ (k : Int))) = true) (h4 : (decide ((k : Int) < (a.length : Int))) = true) (h5 : lit true (decide ((k : Int) < (a.length : Int))) = true)  : ExecOk prog ap [] nt (loopBody 0 (bodyOf f126)) ⟨[(0, .sl (i64L a) a.length na), (1, .sl (i64L b) b.length nb), (6, .int .i64 (c : Int)), (7, .int .i64 (k : Int)), (5, .nilS)], [], .dead, []⟩ (.normal) ⟨[(0, .sl (i64L a) a.length na), (1, .sl (i64L b) b.length nb), (6, .int .i64 1), (7, .int .i64 (IntKind.wrap .i64 ((k : Int) + ((1 : Nat) : Int)))), (5, .ref 0 0 0 1)], [(0, ⟨[.int .i64 (IntKind.wrap .i64 ((IntKind.wrap .i64 ((AV.toInt (List.headD (List.drop ((Int.toNat (k : Int)) * 1) (i64L a)) .dead)) - (c : Int))) + ((16777216 : Nat) : Int)))], 0, false, 0, 1, true⟩)], .dead, []⟩ := pJ 126 [] 4 5 (.k 3 h0 (.c h1 (.c h2 (.c h3 (.c h4 (.c h5 .nil)))))) (.nil) hn
theorem rmiN_3 {nt : Nat} (hn : 41 ≤ nt) (a b o : List Nat) (na nb : Bool) (c k : Nat) (h0 : lit false (decide ((IntKind.wrap .i64 ((AV.toInt (List.headD (List.drop ((Int.toNat (k : Int)) * 1) (i64L a)) .dead)) - (c : Int))) < ((0 : Nat) : Int))) = true) (h1 : lit false (decide ((k : Int) < (b.length : Int))) = true) (h2 : (chk (.int .i64) (List.headD (List.drop ((Int.toNat (k : Int)) * 1) (i64L a)) .dead)) = true) (h3 : (decide (((0 : Nat) : Int) ≤ (k : Int))) = true) (h4 : (decide ((k : Int) < (a.length : Int))) = true) (h5 : lit true (decide ((k : Int) < (a.length : Int))) = true)  : ExecOk prog ap [] nt (loopBody 0 (bodyOf f126)) ⟨[(0, .sl (i64L a) a.length na), (1, .sl (i64L b) b.length nb), (6, .int .i64 (c : Int)), (7, .int .i64 (k : Int)), (5, .nilS)], [], .dead, []⟩ (.normal) ⟨[(0, .sl (i64L a) a.length na), (1, .sl (i64L b) b.length nb), (6, .int .i64 0), (7, .int .i64 (IntKind.wrap .i64 ((k : Int) + ((1 : Nat) : Int)))), (5, .ref 0 0 0 1)], [(0, ⟨[.int .i64 (IntKind.wrap .i64 ((AV.toInt (List.headD (List.drop ((Int.toNat (k : Int)) * 1) (i64L a)) .dead)) - (c : Int)))], 0, false, 0, 1, true⟩)], .dead, []⟩ := pJ 126 [] 4 1 (.k 3 h0 (.c h1 (.c h2 (.c h3 (.c h4 (.c h5 .nil)))))) (.nil) hn
theorem rmiN_4 {nt : Nat} (hn : 41 ≤ nt) (a b o : List Nat) (na nb : Bool) (c k : Nat) (h0 : lit false (decide ((k : Int) < (a.length : Int))) = true)  : ExecOk prog ap [] nt (loopBody 0 (bodyOf f126)) ⟨[(0, .sl (i64L a) a.length na), (1, .sl (i64L b) b.length nb), (6, .int .i64 (c : Int)), (7, .int .i64 (k : Int)), (5, .nilS)], [], .dead, []⟩ (.exit 0) ⟨[(5, .nilS)], [], .dead, []⟩ := pJ 126 [] 1 0 (.c h0 .nil) (.nil) hn
theorem rmiNF_0 (a b o r : List Nat) (na nb : Bool)  (l0 : LoopOk prog ap [] 41 (.block 0 (.loop (loopBody 0 (bodyOf f126)))) ⟨[(0, .sl (i64L a) a.length na), (1, .sl (i64L b) b.length nb), (4, .nilS), (5, .nilS), (6, .int .i64 0), (7, .int .i64 0), (8, .dead), (12, .dead), (24, .dead), (32, .dead)], [], .dead, []⟩ (.normal) ⟨[(5, .nilS)], [], .dead, []⟩) (c0 : CO 123 [.nilS] (.ret (.sl (i64L r) r.length false))) : CO 126 [.sl (i64L a) a.length na, .sl (i64L b) b.length nb] (.ret (.sl (i64L r) r.length false)) := pK [0] 0 0 .nil (.c c0 (.l l0 .nil))
theorem rmiC_0 {nt : Nat} (hn : 41 ≤ nt) (a b o : List Nat) (na nb : Bool) (c k : Nat) (h0 : (Nat.ble (o.length + 1) 1099511627776) = true) (h1 : (Nat.ble (o.length * 1) (List.length (i64L o))) = true) (h2 : lit true (decide ((IntKind.wrap .i64 ((IntKind.wrap .i64 ((AV.toInt (List.headD (List.drop ((Int.toNat (k : Int)) * 1) (i64L a)) .dead)) - (c : Int))) - (AV.toInt (List.headD (List.drop ((Int.toNat (k : Int)) * 1) (i64L b)) .dead)))) < ((0 : Nat) : Int))) = true) (h3 : (chk (.int .i64) (List.headD (List.drop ((Int.toNat (k : Int)) * 1) (i64L b)) .dead)) = true) (h4 : (decide (((0 : Nat) : Int) ≤ (k : Int))) = true) (h5 : (decide ((k : Int) < (b.length : Int))) = true) (h6 : lit true (decide ((k : Int) < (b.length : Int))) = true) (h7 : (chk (.int .i64) (List.headD (List.drop ((Int.toNat (k : Int)) * 1) (i64L a)) .dead)) = true) (h8 : (decide ((k : Int) < (a.length : Int))) = true) (h9 : lit true (decide ((k : Int) < (a.length : Int))) = true)  : ExecOk prog ap [] nt (loopBody 0 (bodyOf f126)) ⟨[(0, .sl (i64L a) a.length na), (1, .sl (i64L b) b.length nb), (6, .int .i64 (c : Int)), (7, .int .i64 (k : Int)), (5, .ref 0 0 0 o.length)], [(0, ⟨(i64L o), 0, false, 0, 1, true⟩)], .dead, []⟩ (.normal) ⟨[(0, .sl (i64L a) a.length na), (1, .sl (i64L b) b.length nb), (6, .int .i64 1), (7, .int .i64 (IntKind.wrap .i64 ((k : Int) + ((1 : Nat) : Int)))), (5, .ref 0 0 0 (o.length + 1))], [(0, ⟨((List.take (o.length * 1) (i64L o)) ++ [.int .i64 (IntKind.wrap .i64 ((IntKind.wrap .i64 ((IntKind.wrap .i64 ((AV.toInt (List.headD (List.drop ((Int.toNat (k : Int)) * 1) (i64L a)) .dead)) - (c : Int))) - (AV.toInt (List.headD (List.drop ((Int.toNat (k : Int)) * 1) (i64L b)) .dead)))) + ((16777216 : Nat) : Int)))]), 0, false, 0, 1, true⟩)], .dead, []⟩ := pJ 126 [] 3 7 (.k 1 h0 (.c h1 (.k 1 h2 (.c h3 (.c h4 (.c h5 (.c h6 (.c h7 (.c h4 (.c h8 (.c h9 .nil))))))))))) (.nil) hn
theorem rmiC_1 {nt : Nat} (hn : 41 ≤ nt) (a b o : List Nat) (na nb : Bool) (c k : Nat) (h0 : (Nat.ble (o.length + 1) 1099511627776) = true) (h1 : (Nat.ble (o.length * 1) (List.length (i64L o))) = true) (h2 : lit false (decide ((IntKind.wrap .i64 ((IntKind.wrap .i64 ((AV.toInt (List.headD (List.drop ((Int.toNat (k : Int)) * 1) (i64L a)) .dead)) - (c : Int))) - (AV.toInt (List.headD (List.drop ((Int.toNat (k : Int)) * 1) (i64L b)) .dead)))) < ((0 : Nat) : Int))) = true) (h3 : (chk (.int .i64) (List.headD (List.drop ((Int.toNat (k : Int)) * 1) (i64L b)) .dead)) = true) (h4 : (decide (((0 : Nat) : Int) ≤ (k : Int))) = true) (h5 : (decide ((k : Int) < (b.length : Int))) = true) (h6 : lit true (decide ((k : Int) < (b.length : Int))) = true) (h7 : (chk (.int .i64) (List.headD (List.drop ((Int.toNat (k : Int)) * 1) (i64L a)) .dead)) = true) (h8 : (decide ((k : Int) < (a.length : Int))) = true) (h9 : lit true (decide ((k : Int) < (a.length : Int))) = true)  : ExecOk prog ap [] nt (loopBody 0 (bodyOf f126)) ⟨[(0, .sl (i64L a) a.length na), (1, .sl (i64L b) b.length nb), (6, .int .i64 (c : Int)), (7, .int .i64 (k : Int)), (5, .ref 0 0 0 o.length)], [(0, ⟨(i64L o), 0, false, 0, 1, true⟩)], .dead, []⟩ (.normal) ⟨[(0, .sl (i64L a) a.length na), (1, .sl (i64L b) b.length nb), (6, .int .i64 0), (7, .int .i64 (IntKind.wrap .i64 ((k : Int) + ((1 : Nat) : Int)))), (5, .ref 0 0 0 (o.length + 1))], [(0, ⟨((List.take (o.length * 1) (i64L o)) ++ [.int .i64 (IntKind.wrap .i64 ((IntKind.wrap .i64 ((AV.toInt (List.headD (List.drop ((Int.toNat (k : Int)) * 1) (i64L a)) .dead)) - (c : Int))) - (AV.toInt (List.headD (List.drop ((Int.toNat (k : Int)) * 1) (i64L b)) .dead))))]), 0, false, 0, 1, true⟩)], .dead, []⟩ := pJ 126 [] 3 3 (.k 1 h0 (.c h1 (.k 1 h2 (.c h3 (.c h4 (.c h5 (.c h6 (.c h7 (.c h4 (.c h8 (.c h9 .nil))))))))))) (.nil) hn
theorem rmiC_2 {nt : Nat} (hn : 41 ≤ nt) (a b o : List Nat) (na nb : Bool) (c k : Nat) (h0 : (Nat.ble (o.length + 1) 1099511627776) = true) (h1 : (Nat.ble (o.length * 1) (List.length (i64L o))) = true) (h2 : lit true (decide ((IntKind.wrap .i64 ((AV.toInt (List.headD (List.drop ((Int.toNat (k : Int)) * 1) (i64L a)) .dead)) - (c : Int))) < ((0 : Nat) : Int))) = true) (h3 : lit false (decide ((k : Int) < (b.length : Int))) = true) (h4 : (chk (.int .i64) (List.headD (List.drop ((Int.toNat (k : Int)) * 1) (i64L a)) .dead)) = true) (h5 : (decide (((0 : Nat) : Int) ≤ (k : Int))) = true) (h6 : (decide ((k : Int) < (a.length : Int))) = true) (h7 : lit true (decide ((k : Int) < (a.length : Int))) = true)  : ExecOk prog ap [] nt (loopBody 0 (bodyOf f126)) ⟨[(0, .sl (i64L a) a.length na), (1, .sl (i64L b) b.length nb), (6, .int .i64 (c : Int)), (7, .int .i64 (k : Int)), (5, .ref 0 0 0 o.length)], [(0, ⟨(i64L o), 0, false, 0, 1, true⟩)], .dead, []⟩ (.normal) ⟨[(0, .sl (i64L a) a.length na), (1, .sl (i64L b) b.length nb), (6, .int .i64 1), (7, .int .i64 (IntKind.wrap .i64 ((k : Int) + ((1 : Nat) : Int)))), (5, .ref 0 0 0 (o.length + 1))], [(0, ⟨((List.take (o.length * 1) (i64L o)) ++ [.int .i64 (IntKind.wrap .i64 ((IntKind.wrap .i64 ((AV.toInt (List.headD (List.drop ((Int.toNat (k : Int)) * 1) (i64L a)) .dead)) - (c : Int))) + ((16777216 : Nat) : Int)))]), 0, false, 0, 1, true⟩)], .dead, []⟩ := pJ 126 [] 3 5 (.k 1 h0 (.c h1 (.k 1 h2 (.c h3 (.c h4 (.c h5 (.c h6 (.c h7 .nil)))))))) (.nil) hn
theorem rmiC_3 {nt : Nat} (hn : 41 ≤ nt) (a b o : List Nat) (na nb : Bool) (c k : Nat) (h0 : (Nat.ble (o.length + 1) 1099511627776) = true) (h1 : (Nat.ble (o.length * 1) (List.length (i64L o))) = true) (h2 : lit false (decide ((IntKind.wrap .i64 ((AV.toInt (List.headD (List.drop ((Int.toNat (k : Int)) * 1) (i64L a)) .dead)) - (c : Int))) < ((0 : Nat) : Int))) = true) (h3 : lit false (decide ((k : Int) < (b.length : Int))) = true) (h4 : (chk (.int .i64) (List.headD (List.drop ((Int.toNat (k : Int)) * 1) (i64L a)) .dead)) = true) (h5 : (decide (((0 : Nat) : Int) ≤ (k : Int))) = true) (h6 : (decide ((k : Int) < (a.length : Int))) = true) (h7 : lit true (decide ((k : Int) < (a.length : Int))) = true)  : ExecOk prog ap [] nt (loopBody 0 (bodyOf f126)) ⟨[(0, .sl (i64L a) a.length na), (1, .sl (i64L b) b.length nb), (6, .int .i64 (c : Int)), (7, .int .i64 (k : Int)), (5, .ref 0 0 0 o.length)], [(0, ⟨(i64L o), 0, false, 0, 1, true⟩)], .dead, []⟩ (.normal) ⟨[(0, .sl (i64L a) a.length na), (1, .sl (i64L b) b.length nb), (6, .int .i64 0), (7, .int .i64 (IntKind.wrap .i64 ((k : Int) + ((1 : Nat) : Int)))), (5, .ref 0 0 0 (o.length + 1))], [(0, ⟨((List.take (o.length * 1) (i64L o)) ++ [.int .i64 (IntKind.wrap .i64 ((AV.toInt (List.headD (List.drop ((Int.toNat (k : Int)) * 1) (i64L a)) .dead)) - (c : Int)))]), 0, false, 0, 1, true⟩)], .dead, []⟩ := pJ 126 [] 3 1 (.k 1 h0 (.c h1 (.k 1 h2 (.c h3 (.c h4 (.c h5 (.c h6 (.c h7 .nil)))))))) (.nil) hn
theorem rmiC_4 {nt : Nat} (hn : 41 ≤ nt) (a b o : List Nat) (na nb : Bool) (c k : Nat) (h0 : lit false (decide ((k : Int) < (a.length : Int))) = true)  : ExecOk prog ap [] nt (loopBody 0 (bodyOf f126)) ⟨[(0, .sl (i64L a) a.length na), (1, .sl (i64L b) b.length nb), (6, .int .i64 (c : Int)), (7, .int .i64 (k : Int)), (5, .ref 0 0 0 o.length)], [(0, ⟨(i64L o), 0, false, 0, 1, true⟩)], .dead, []⟩ (.exit 0) ⟨[(5, .ref 0 0 0 o.length)], [(0, ⟨(i64L o), 0, false, 0, 1, true⟩)], .dead, []⟩ := pJ 126 [] 1 0 (.c h0 .nil) (.nil) hn
theorem rmiCF_0 (a b o r : List Nat) (na nb : Bool)  (l0 : LoopOk prog ap [] 41 (.block 0 (.loop (loopBody 0 (bodyOf f126)))) ⟨[(0, .sl (i64L a) a.length na), (1, .sl (i64L b) b.length nb), (4, .nilS), (5, .nilS), (6, .int .i64 0), (7, .int .i64 0), (8, .dead), (12, .dead), (24, .dead), (32, .dead)], [], .dead, []⟩ (.normal) ⟨[(5, .ref 0 0 0 o.length)], [(0, ⟨(i64L o), 0, false, 0, 1, true⟩)], .dead, []⟩) (c0 : CO 123 [.sl (List.take (o.length * 1) (i64L o)) o.length true] (.ret (.sl (i64L r) r.length false))) : CO 126 [.sl (i64L a) a.length na, .sl (i64L b) b.length nb] (.ret (.sl (i64L r) r.length false)) := pK [0] 0 0 .nil (.c c0 (.l l0 .nil))
def nz : List UInt8 → Nat
 | [] => 0
 | c :: r => if c = 0 then nz r + 1 else 0
theorem drop_nz (s : List UInt8) : s.drop (nz s) = s.dropWhile (· == 0) := by
 induction s with
 | nil => rfl
 | cons c r ih =>
  simp only [nz, List.dropWhile_cons]
  by_cases h : c = 0
  ·subst h; simpa using ih
  ·simp [h]
theorem nz_le (s : List UInt8) : nz s ≤ s.length := by
 induction s with
 | nil => exact Nat.le_refl _
 | cons c r ih => simp only [nz, List.length_cons]; split <;> omega
def canSt (s : List UInt8) (k : Nat) : St := ⟨[(0, .str s), (3, .int .i64 (k : Int))], [], .dead, []⟩
theorem str_mid {p r : List UInt8} {c : UInt8} {k : Nat} (h : k = p.length) : (p ++ c :: r).getD k 0 = c := by subst h; simp
theorem u8_zero (c : UInt8) : (c.toNat = 0) = (c = 0) := by
 apply propext
 constructor
 ·intro h; apply UInt8.toNat_inj.1; simpa using h
 ·intro h; subst h; rfl
theorem can_loop {nt : Nat} (hn : 19 ≤ nt) (s : List UInt8) (hs : s.length < 2 ^ 40) : ∀ (r p : List UInt8), p ++ r = s → LoopR prog ap [] nt (loopBody 0 (bodyOf f61)) (fun _ => .exit 0) (canSt s) (canSt s) p.length (p.length + nz r) := by
 intro r
 induction r with
 | nil =>
  intro p h
  have hp : p.length = s.length := by rw [← h]; simp
  refine .done (can_2 hn s p.length ?_)
  rw [hp, d_lt]; simp [lit]
 | cons c r ih =>
  intro p h
  have hl : p.length + (r.length + 1) = s.length := by rw [← h]; simp
  have hg : s.getD p.length 0 = c := by rw [← h]; exact str_mid rfl
  by_cases hc : c = 0
  ·have hnext := ih (p ++ [c]) (by simp [h])
   rw [List.length_append, List.length_singleton] at hnext
   simp only [nz, if_pos hc]
   rw [show p.length + (nz r + 1) = p.length + 1 + nz r by omega]
   refine .next ?_ hnext
   have hb := can_0 hn s p.length
   have h2 : c.toNat = 0 := by subst hc; rfl
   simp (disch := first | omega | (simp [u32L_length, u8L_length] <;> omega)) only [c_toNat, hg, h2, b_eq, decide_true, lit_t, d_le, dec_t, d_lt, c_add, w64_nat] at hb
   apply hb <;> first | exact True.intro | omega | assumption | exact rfl
  ·simp only [nz, if_neg hc, Nat.add_zero]
   refine .done ?_
   have hb := can_1 hn s p.length
   have h2 : ¬ c.toNat = 0 := by rw [u8_zero]; exact hc
   simp (disch := first | omega | (simp [u32L_length, u8L_length] <;> omega)) only [c_toNat, hg, b_eq, lit_f, not_t, dec_f, d_le, dec_t, d_lt, lit_t] at hb
   apply hb <;> first | exact True.intro | omega | assumption | exact rfl
theorem canon_ok (s : List UInt8) (hs : s.length < 2 ^ 40) : CO 61 [.str s] (.ret (.str (natS (valS s)))) := by
 have hl := nz_le s
 have h := canF_0 s (nz s)
 simp (disch := first | omega | (simp [u32L_length, u8L_length] <;> omega)) only [d_le, dec_t, c_toNat, List.take_length, drop_nz] at h
 rw [natS_val]
 apply h <;> first | exact True.intro | omega | assumption | exact rfl | skip
 ·refine LoopR.blk (fun nt hn => can_loop hn s hs s [] rfl) (by simp) rfl (Less.of ⟨rfl, rfl, trivial⟩) ?_
  rw [List.length_nil, Nat.zero_add]; exact Less.refl _
theorem take_snocI (l : List Nat) (d : Nat) : List.take l.length (i64L (l ++ [d])) = i64L l := by
 rw [take_i64]; simp
theorem drop_snocI (l : List Nat) (d : Nat) : List.headD (List.drop l.length (i64L (l ++ [d]))) .dead = .int .i64 (d : Int) := by
 rw [i64_get (by simp)]; simp
def rtrSt (nn : Bool) (l : List Nat) : St := ⟨[(0, .sl (i64L l) l.length nn)], [], .dead, []⟩
theorem rtr_loop {nt : Nat} (hn : 21 ≤ nt) (nn : Bool) : ∀ (k : Nat) (l : List Nat), l.length = k → k < 2 ^ 40 → LoopR prog ap [] nt (loopBody 0 (bodyOf f123)) (fun _ => .exit 0) (rtrSt nn) (rtrSt nn) l (trimN l) := by
 intro k
 induction k with
 | zero =>
  intro l hl _
  have : l = [] := List.eq_nil_of_length_eq_zero hl
  subst this
  exact .done (rtr_2 hn [] nn rfl)
 | succ k ih =>
  intro l hl hk
  rcases List.eq_nil_or_concat l with rfl | ⟨l', d, rfl⟩
  ·simp at hl
  ·rw [List.concat_eq_append] at hl ⊢
   have hl' : l'.length = k := by simpa using hl
   have e1 : l'.length + 1 - 1 = l'.length := by omega
   rw [trimN_snoc]
   by_cases hd : d = 0
   ·rw [if_pos hd]
    refine .next ?_ (ih l' hl' (by omega))
    have hb := rtr_0 hn (l' ++ [d]) nn
    simp (disch := first | omega | (simp [u32L_length, u8L_length] <;> omega)) only [List.length_append, List.length_cons, List.length_nil, Nat.zero_add, w64_sub, e1, d_le, dec_t, c_toNat, Nat.mul_one, drop_snocI, toInt_int, b_eq, lit_t, chk_i64, d_lt, take_snocI, Nat.sub_zero] at hb
    simp only [rtrSt, List.length_append, List.length_singleton]
    apply hb <;> first | exact True.intro | omega | assumption | exact rfl
   ·rw [if_neg hd]
    refine .done ?_
    have hb := rtr_1 hn (l' ++ [d]) nn
    simp (disch := first | omega | (simp [u32L_length, u8L_length] <;> omega)) only [List.length_append, List.length_cons, List.length_nil, Nat.zero_add, w64_sub, e1, c_toNat, Nat.mul_one, drop_snocI, toInt_int, b_eq, lit_f, not_t, dec_f, chk_i64, d_le, dec_t, d_lt, lit_t] at hb
    simp only [rtrSt, List.length_append, List.length_singleton]
    apply hb <;> first | exact True.intro | omega | assumption | exact rfl
theorem rtrim_ok (l : List Nat) (nn : Bool) (hl : l.length < 2 ^ 40) : CO 123 [.sl (i64L l) l.length nn] (.ret (.sl (i64L (trimN l)) (trimN l).length nn)) :=
 rtrF_0 l (trimN l) nn (LoopR.blk (fun nt hn => rtr_loop hn nn _ l rfl hl) (by simp) rfl (Less.of ⟨rfl, trivial⟩) (Less.of ⟨rfl, trivial⟩))
def apE (l : List Nat) : AV := match l with | [] => .nilS | x :: l => .ref 0 0 0 (x :: l).length
def apH (l : List Nat) : Hp := match l with | [] => [] | x :: l => [(0, ⟨i64L (x :: l), 0, false, 0, 1, true⟩)]
theorem apE_ne {l : List Nat} (h : l ≠ []) : apE l = .ref 0 0 0 l.length := by cases l with | nil => exact absurd rfl h | cons _ _ => rfl
theorem apH_ne {l : List Nat} (h : l ≠ []) : apH l = [(0, ⟨i64L l, 0, false, 0, 1, true⟩)] := by cases l with | nil => exact absurd rfl h | cons _ _ => rfl
theorem snoc_ne (l : List Nat) (y : Nat) : l ++ [y] ≠ [] := by simp
def tmL (d : Nat) : List Nat → Nat → List Nat × Nat
 | [], c => ([], c)
 | x :: l, c => ((x * d + c) % 16777216 :: (tmL d l ((x * d + c) / 16777216)).1, (tmL d l ((x * d + c) / 16777216)).2)
theorem tm_bound {d x c : Nat} (hd : d < 16777216) (hx : x < 16777216) (hc : c < 16777216) : x * d + c < 281474976710656 ∧ (x * d + c) / 16777216 < 16777216 ∧ x * d < 281474976710656 := by
 have h1 : x * d ≤ 16777215 * 16777215 := Nat.mul_le_mul (by omega) (by omega)
 omega
theorem tmL_val {d : Nat} (hd : d < 16777216) (l : List Nat) : ∀ c, c < 16777216 → LimQ l → (tmL d l c).2 < 16777216 ∧ LimQ (tmL d l c).1 ∧ (tmL d l c).1.length = l.length ∧ valQ (tmL d l c).1 + 16777216 ^ l.length * (tmL d l c).2 = valQ l * d + c := by
 induction l with
 | nil => intro c hc _; exact ⟨hc, LimQ.nil, rfl, by simp [tmL, valQ]⟩
 | cons x l ih =>
  intro c hc hl
  obtain ⟨_, h2, _⟩ := tm_bound hd hl.head hc
  obtain ⟨i1, i2, i3, i4⟩ := ih _ h2 hl.tail
  simp only [tmL]
  refine ⟨i1, LimQ.cons (Nat.mod_lt _ (by omega)) i2, by simp [i3], ?_⟩
  simp only [valQ, List.length_cons, Nat.pow_succ]
  rw [Nat.mul_comm (16777216 ^ l.length), Nat.mul_assoc, Nat.add_mul, Nat.mul_assoc 16777216 (valQ l)]
  omega
def tmSt (a : List Nat) (na : Bool) (d : Nat) (p : Nat × Nat × List Nat) : St := ⟨[(0, .sl (i64L a) a.length na), (1, .int .i64 (d : Int)), (6, .int .i64 (p.2.1 : Int)), (7, .int .i64 (p.1 : Int)), (5, apE p.2.2)], apH p.2.2, .dead, []⟩
def tmOut (p : Nat × List Nat) : St := ⟨[(5, apE p.2), (6, .int .i64 (p.1 : Int))], apH p.2, .dead, []⟩
theorem tm_step {nt : Nat} (hn : 35 ≤ nt) (a o : List Nat) (na : Bool) (d c k x : Nat) (ha : a.length < 2 ^ 40) (hk : k < a.length) (ho : o.length = k) (hx : a.getD k 0 = x) (hb1 : x * d + c < 281474976710656) (hb2 : x * d < 281474976710656) :
  ExecOk prog ap [] nt (loopBody 0 (bodyOf f127)) (tmSt a na d (k, c, o)) .normal (tmSt a na d (k + 1, (x * d + c) / 16777216, o ++ [(x * d + c) % 16777216])) := by
 unfold tmSt
 have hlt : (x * d + c) / 16777216 < 9223372036854775808 := by omega
 have hlm : (x * d + c) % 16777216 < 9223372036854775808 := by omega
 have hc1 : (((x * d : Nat) : Int)) + (c : Int) = ((x * d + c : Nat) : Int) := by omega
 rcases Decidable.em (o = []) with rfl | hne
 ·have hb := rtmN_0 hn a [] na d c k
  simp (disch := first | omega | (simp [u32L_length, u8L_length] <;> omega)) only [c_toNat, Nat.mul_one, i64_get, hx, chk_i64, d_le, dec_t, d_lt, lit_t, toInt_int, c_mul, w64_nat, hc1, c_tdiv, c_add, c_tmod] at hb
  simp only [List.nil_append, apE, apH, i64L, List.map_cons, List.map_nil, List.length_cons, List.length_nil] at hb ⊢
  apply hb <;> first | exact True.intro | omega | assumption | exact rfl
 ·have hb := rtmC_0 hn a o na d c k
  rw [apE_ne hne, apH_ne hne, apE_ne (snoc_ne _ _), apH_ne (snoc_ne _ _)]
  simp (disch := first | omega | (simp [u32L_length, u8L_length] <;> omega)) only [nble_d, dec_t, Nat.mul_one, i64L_length, c_toNat, i64_get, hx, chk_i64, d_le, d_lt, lit_t, toInt_int, c_mul, w64_nat, hc1, c_tdiv, c_add, take_i64, List.take_length, c_tmod, i64_snoc] at hb
  simp only [List.length_append, List.length_singleton]
  apply hb <;> first | exact True.intro | omega | assumption | exact rfl
theorem tm_done {nt : Nat} (hn : 35 ≤ nt) (a o : List Nat) (na : Bool) (d c : Nat) : ExecOk prog ap [] nt (loopBody 0 (bodyOf f127)) (tmSt a na d (a.length, c, o)) (.exit 0) (tmOut (c, o)) := by
 unfold tmSt tmOut
 rcases Decidable.em (o = []) with rfl | hne
 ·have hb := rtmN_1 hn a [] na d c a.length (by rw [d_lt]; simp [lit])
  exact hb
 ·have hb := rtmC_1 hn a o na d c a.length (by rw [d_lt]; simp [lit])
  rw [apE_ne hne, apH_ne hne]
  exact hb
theorem tm_loop {nt : Nat} (hn : 35 ≤ nt) (a : List Nat) (na : Bool) (d : Nat) (hd : d < 16777216) (ha : a.length < 2 ^ 40) (hla : LimQ a) : ∀ (l p o : List Nat) (c : Nat), p ++ l = a → o.length = p.length → c < 16777216 →
  LoopR prog ap [] nt (loopBody 0 (bodyOf f127)) (fun _ => .exit 0) (tmSt a na d) tmOut (p.length, c, o) ((tmL d l c).2, o ++ (tmL d l c).1) := by
 intro l
 induction l with
 | nil =>
  intro p o c h ho hc
  have hp : p = a := by simpa using h
  rw [hp]
  simp only [tmL, List.append_nil]
  exact .done (tm_done hn a o na d c)
 | cons x l ih =>
  intro p o c h ho hc
  have hl : p.length + (l.length + 1) = a.length := by rw [← h]; simp
  have hx : x < 16777216 := hla x (by rw [← h]; simp)
  have hg : a.getD p.length 0 = x := by rw [← h]; simp
  obtain ⟨b1, b2, b3⟩ := tm_bound hd hx hc
  have hnext := ih (p ++ [x]) (o ++ [(x * d + c) % 16777216]) ((x * d + c) / 16777216) (by simp [h]) (by simp [ho]) b2
  rw [List.length_append, List.length_singleton, List.append_assoc] at hnext
  exact .next (tm_step hn a o na d c p.length x ha (by omega) ho hg b1 b3) hnext
theorem times_ok (x d : Nat) (na : Bool) (hd : d < 16777216) (hx : (digQ x).length < 2 ^ 36) : CO 127 [.sl (i64L (digQ x)) (digQ x).length na, .int .i64 (d : Int)] (.ret (.sl (i64L (digQ (x * d))) (digQ (x * d)).length true)) := by
 obtain ⟨t1, t2, t3, t4⟩ := tmL_val hd (digQ x) 0 (by omega) (LimQ.dig x)
 have hloop := fun nt (hn : 35 ≤ nt) => tm_loop hn (digQ x) na d hd (by omega) (LimQ.dig x) (digQ x) [] [] 0 rfl rfl (by omega)
 generalize hr : tmL d (digQ x) 0 = r at *
 obtain ⟨o, c⟩ := r
 simp only [List.nil_append, List.length_nil] at hloop t1 t2 t3 t4
 rw [valQ_digQ, Nat.add_zero] at t4
 have hv : valQ (o ++ [c]) = x * d := by rw [valQ_app, t3]; simp only [valQ]; omega
 have ht := rtrim_ok (o ++ [c]) true (by simp; omega)
 rw [trimQ (LimQ.app t2 (LimQ.cons t1 LimQ.nil)), hv] at ht
 rcases Decidable.em (o = []) with rfl | hne
 ·have h := rtmNF_0 (digQ x) [] (digQ (x * d)) na d c
  apply h
  ·exact LoopR.blk hloop (by simp) rfl (Less.of ⟨rfl, rfl, rfl, rfl, rfl, trivial⟩) (Less.of ⟨rfl, rfl, trivial⟩)
  ·exact ht
 ·have h := rtmCF_0 (digQ x) o (digQ (x * d)) na d c
  have hol : o.length < 2 ^ 37 := by omega
  have htk : List.take (o.length + 1) (i64L (o ++ [c])) = i64L (o ++ [c]) := by
   rw [take_i64, List.take_of_length_le (by simp)]
  simp (disch := first | omega | (simp [u32L_length, u8L_length] <;> omega)) only [nble_d, dec_t, Nat.mul_one, i64L_length, take_i64, List.take_length, i64_snoc] at h
  rw [List.length_append, List.length_singleton] at ht
  rw [← take_i64] at h
  rw [htk] at h
  apply h <;> first | exact True.intro | omega | assumption | exact rfl | skip
  ·exact LoopR.blk hloop (by simp) rfl (Less.of ⟨rfl, rfl, rfl, rfl, rfl, trivial⟩) (by unfold tmOut; rw [apE_ne hne, apH_ne hne]; exact Less.of ⟨rfl, rfl, trivial⟩)
def miL : List Nat → List Nat → Nat → List Nat × Nat
 | [], _, c => ([], c)
 | x :: u, v, c => ((if x < v.headD 0 + c then x + 16777216 - (v.headD 0 + c) else x - (v.headD 0 + c)) :: (miL u v.tail (if x < v.headD 0 + c then 1 else 0)).1, (miL u v.tail (if x < v.headD 0 + c then 1 else 0)).2)
theorem headQ {v : List Nat} (h : LimQ v) : v.headD 0 < 16777216 := by cases v with | nil => show 0 < 16777216; omega | cons d l => exact h.head
theorem tailQ {v : List Nat} (h : LimQ v) : LimQ v.tail := by cases v with | nil => exact h | cons d l => exact h.tail
theorem valQ_head (v : List Nat) : valQ v = v.headD 0 + 16777216 * valQ v.tail := by cases v with | nil => rfl | cons d l => rfl
theorem miL_val (u : List Nat) : ∀ (v : List Nat) (c : Nat), c ≤ 1 → LimQ u → LimQ v → v.length ≤ u.length → (miL u v c).2 ≤ 1 ∧ LimQ (miL u v c).1 ∧ (miL u v c).1.length = u.length ∧ valQ (miL u v c).1 + valQ v + c = valQ u + 16777216 ^ u.length * (miL u v c).2 := by
 induction u with
 | nil =>
  intro v c hc _ _ hl
  have : v = [] := List.eq_nil_of_length_eq_zero (by simpa using hl)
  subst this
  exact ⟨hc, LimQ.nil, rfl, by simp [miL, valQ]⟩
 | cons x u ih =>
  intro v c hc hu hv hl
  have hx := hu.head
  have hy := headQ hv
  have hvl : v.tail.length ≤ u.length := by simp at hl ⊢; omega
  obtain ⟨i1, i2, i3, i4⟩ := ih v.tail (if x < v.headD 0 + c then 1 else 0) (by split <;> omega) hu.tail (tailQ hv) hvl
  simp only [miL]
  refine ⟨i1, LimQ.cons (by split <;> omega) i2, by rw [List.length_cons, i3, List.length_cons], ?_⟩
  rw [valQ_head v]
  simp only [valQ, List.length_cons, Nat.pow_succ]
  rw [Nat.mul_comm (16777216 ^ u.length), Nat.mul_assoc]
  generalize miL u v.tail (if x < v.headD 0 + c then 1 else 0) = r at *
  split at i4 <;> rename_i h1
  ·rw [if_pos h1]; omega
  ·rw [if_neg h1]; omega
def miSt (a b : List Nat) (na nb : Bool) (p : Nat × Nat × List Nat) : St := ⟨[(0, .sl (i64L a) a.length na), (1, .sl (i64L b) b.length nb), (6, .int .i64 (p.2.1 : Int)), (7, .int .i64 (p.1 : Int)), (5, apE p.2.2)], apH p.2.2, .dead, []⟩
def miOut (p : Nat × List Nat) : St := ⟨[(5, apE p.2)], apH p.2, .dead, []⟩
theorem mi_step {nt : Nat} (hn : 41 ≤ nt) (a b o : List Nat) (na nb : Bool) (c k x y : Nat) (ha : a.length < 2 ^ 40) (hbl : b.length < 2 ^ 40) (hk : k < a.length) (ho : o.length = k) (hx : a.getD k 0 = x) (hy : b.getD k 0 = y) (hxl : x < 16777216) (hyl : y < 16777216) (hc : c ≤ 1) :
  ExecOk prog ap [] nt (loopBody 0 (bodyOf f126)) (miSt a b na nb (k, c, o)) .normal (miSt a b na nb (k + 1, if x < y + c then 1 else 0, o ++ [if x < y + c then x + 16777216 - (y + c) else x - (y + c)])) := by
 unfold miSt
 by_cases hkb : k < b.length <;> by_cases hlt : x < y + c <;> simp only [hlt, if_true, if_false]
 ·have e1 : ((x : Int) - (c : Int) - (y : Int) + ((16777216 : Nat) : Int)) = ((x + 16777216 - (y + c) : Nat) : Int) := by omega
  rcases Decidable.em (o = []) with rfl | hne
  ·have hb := rmiN_0 hn a b [] na nb c k
   simp (disch := first | omega | (simp [u32L_length, u8L_length] <;> omega)) only [c_toNat, Nat.mul_one, i64_get, hx, toInt_int, w64_id, hy, lit_t, dec_t, chk_i64, d_le, d_lt, c_add] at hb
   rw [e1] at hb
   simp only [List.nil_append, apE, apH, i64L, List.map_cons, List.map_nil, List.length_cons, List.length_nil] at hb ⊢
   apply hb <;> first | exact True.intro | omega | assumption | exact rfl
  ·have hb := rmiC_0 hn a b o na nb c k
   rw [apE_ne hne, apH_ne hne, apE_ne (snoc_ne _ _), apH_ne (snoc_ne _ _)]
   simp (disch := first | omega | (simp [u32L_length, u8L_length] <;> omega)) only [nble_d, dec_t, Nat.mul_one, c_toNat, i64_get, hx, toInt_int, w64_id, hy, lit_t, chk_i64, d_le, d_lt, c_add] at hb
   rw [e1] at hb
   simp (disch := first | omega | (simp [u32L_length, u8L_length] <;> omega)) only [i64L_length, take_i64, List.take_length, i64_snoc] at hb
   simp only [List.length_append, List.length_singleton]
   apply hb <;> first | exact True.intro | omega | assumption | exact rfl
 ·have e1 : ((x : Int) - (c : Int) - (y : Int)) = ((x - (y + c) : Nat) : Int) := by omega
  rcases Decidable.em (o = []) with rfl | hne
  ·have hb := rmiN_1 hn a b [] na nb c k
   simp (disch := first | omega | (simp [u32L_length, u8L_length] <;> omega)) only [c_toNat, Nat.mul_one, i64_get, hx, toInt_int, w64_id, hy, lit_f, not_t, dec_f, chk_i64, d_le, dec_t, d_lt, lit_t, c_add] at hb
   rw [e1] at hb
   simp only [List.nil_append, apE, apH, i64L, List.map_cons, List.map_nil, List.length_cons, List.length_nil] at hb ⊢
   apply hb <;> first | exact True.intro | omega | assumption | exact rfl
  ·have hb := rmiC_1 hn a b o na nb c k
   rw [apE_ne hne, apH_ne hne, apE_ne (snoc_ne _ _), apH_ne (snoc_ne _ _)]
   simp (disch := first | omega | (simp [u32L_length, u8L_length] <;> omega)) only [nble_d, dec_t, Nat.mul_one, c_toNat, i64_get, hx, toInt_int, w64_id, hy, lit_f, not_t, dec_f, chk_i64, d_le, d_lt, lit_t, c_add] at hb
   rw [e1] at hb
   simp (disch := first | omega | (simp [u32L_length, u8L_length] <;> omega)) only [i64L_length, take_i64, List.take_length, i64_snoc] at hb
   simp only [List.length_append, List.length_singleton]
   apply hb <;> first | exact True.intro | omega | assumption | exact rfl
 ·have hy0 : y = 0 := by rw [← hy, List.getD_eq_getElem?_getD, List.getElem?_eq_none (by omega)]; rfl
  have e1 : ((x : Int) - (c : Int) + ((16777216 : Nat) : Int)) = ((x + 16777216 - (y + c) : Nat) : Int) := by omega
  rcases Decidable.em (o = []) with rfl | hne
  ·have hb := rmiN_2 hn a b [] na nb c k
   simp (disch := first | omega | (simp [u32L_length, u8L_length] <;> omega)) only [c_toNat, Nat.mul_one, i64_get, hx, toInt_int, w64_id, lit_t, dec_t, d_lt, lit_f, not_t, dec_f, Nat.not_lt, chk_i64, d_le, c_add] at hb
   rw [e1] at hb
   simp only [List.nil_append, apE, apH, i64L, List.map_cons, List.map_nil, List.length_cons, List.length_nil] at hb ⊢
   apply hb <;> first | exact True.intro | omega | assumption | exact rfl
  ·have hb := rmiC_2 hn a b o na nb c k
   rw [apE_ne hne, apH_ne hne, apE_ne (snoc_ne _ _), apH_ne (snoc_ne _ _)]
   simp (disch := first | omega | (simp [u32L_length, u8L_length] <;> omega)) only [nble_d, dec_t, Nat.mul_one, c_toNat, i64_get, hx, toInt_int, w64_id, lit_t, d_lt, lit_f, not_t, dec_f, Nat.not_lt, chk_i64, d_le, c_add] at hb
   rw [e1] at hb
   simp (disch := first | omega | (simp [u32L_length, u8L_length] <;> omega)) only [i64L_length, take_i64, List.take_length, i64_snoc] at hb
   simp only [List.length_append, List.length_singleton]
   apply hb <;> first | exact True.intro | omega | assumption | exact rfl
 ·have hy0 : y = 0 := by rw [← hy, List.getD_eq_getElem?_getD, List.getElem?_eq_none (by omega)]; rfl
  have e1 : ((x : Int) - (c : Int)) = ((x - (y + c) : Nat) : Int) := by omega
  rcases Decidable.em (o = []) with rfl | hne
  ·have hb := rmiN_3 hn a b [] na nb c k
   simp (disch := first | omega | (simp [u32L_length, u8L_length] <;> omega)) only [c_toNat, Nat.mul_one, i64_get, hx, toInt_int, w64_id, lit_f, not_t, dec_f, d_lt, Nat.not_lt, chk_i64, d_le, dec_t, lit_t, c_add] at hb
   rw [e1] at hb
   simp only [List.nil_append, apE, apH, i64L, List.map_cons, List.map_nil, List.length_cons, List.length_nil] at hb ⊢
   apply hb <;> first | exact True.intro | omega | assumption | exact rfl
  ·have hb := rmiC_3 hn a b o na nb c k
   rw [apE_ne hne, apH_ne hne, apE_ne (snoc_ne _ _), apH_ne (snoc_ne _ _)]
   simp (disch := first | omega | (simp [u32L_length, u8L_length] <;> omega)) only [nble_d, dec_t, Nat.mul_one, c_toNat, i64_get, hx, toInt_int, w64_id, lit_f, not_t, dec_f, d_lt, Nat.not_lt, chk_i64, d_le, lit_t, c_add] at hb
   rw [e1] at hb
   simp (disch := first | omega | (simp [u32L_length, u8L_length] <;> omega)) only [i64L_length, take_i64, List.take_length, i64_snoc] at hb
   simp only [List.length_append, List.length_singleton]
   apply hb <;> first | exact True.intro | omega | assumption | exact rfl
theorem mi_done {nt : Nat} (hn : 41 ≤ nt) (a b o : List Nat) (na nb : Bool) (c : Nat) : ExecOk prog ap [] nt (loopBody 0 (bodyOf f126)) (miSt a b na nb (a.length, c, o)) (.exit 0) (miOut (c, o)) := by
 unfold miSt miOut
 rcases Decidable.em (o = []) with rfl | hne
 ·exact rmiN_4 hn a b [] na nb c a.length (by rw [d_lt]; simp [lit])
 ·have hb := rmiC_4 hn a b o na nb c a.length (by rw [d_lt]; simp [lit])
  rw [apE_ne hne, apH_ne hne]
  exact hb
theorem mi_loop {nt : Nat} (hn : 41 ≤ nt) (a b : List Nat) (na nb : Bool) (ha : a.length < 2 ^ 40) (hbl : b.length < 2 ^ 40) (hla : LimQ a) (hlb : LimQ b) : ∀ (l p o : List Nat) (c : Nat), p ++ l = a → o.length = p.length → c ≤ 1 →
  LoopR prog ap [] nt (loopBody 0 (bodyOf f126)) (fun _ => .exit 0) (miSt a b na nb) miOut (p.length, c, o) ((miL l (b.drop p.length) c).2, o ++ (miL l (b.drop p.length) c).1) := by
 intro l
 induction l with
 | nil =>
  intro p o c h ho hc
  have hp : p = a := by simpa using h
  rw [hp]
  simp only [miL, List.append_nil]
  exact .done (mi_done hn a b o na nb c)
 | cons x l ih =>
  intro p o c h ho hc
  have hl : p.length + (l.length + 1) = a.length := by rw [← h]; simp
  have hx : x < 16777216 := hla x (by rw [← h]; simp)
  have hg : a.getD p.length 0 = x := by rw [← h]; simp
  have hy : (b.drop p.length).headD 0 = b.getD p.length 0 := by
   rw [List.headD_eq_head?_getD, List.head?_drop, List.getD_eq_getElem?_getD]
  have htl : (b.drop p.length).tail = b.drop (p.length + 1) := by rw [List.tail_drop]
  have hnext := ih (p ++ [x]) (o ++ [if x < b.getD p.length 0 + c then x + 16777216 - (b.getD p.length 0 + c) else x - (b.getD p.length 0 + c)]) (if x < b.getD p.length 0 + c then 1 else 0) (by simp [h]) (by simp [ho]) (by split <;> omega)
  rw [List.length_append, List.length_singleton, List.append_assoc] at hnext
  simp only [miL]
  rw [hy, htl]
  exact .next (mi_step hn a b o na nb c p.length x _ ha hbl (by omega) ho hg rfl hx (hlb.getD _) hc) hnext
theorem minus_ok (x y : Nat) (na nb : Bool) (h : y ≤ x) (hx : (digQ x).length < 2 ^ 36) : CO 126 [.sl (i64L (digQ x)) (digQ x).length na, .sl (i64L (digQ y)) (digQ y).length nb] (.ret (.sl (i64L (digQ (x - y))) (digQ (x - y)).length false)) := by
 have hm := digQ_mono h
 obtain ⟨t1, t2, t3, t4⟩ := miL_val (digQ x) (digQ y) 0 (by omega) (LimQ.dig x) (LimQ.dig y) hm
 have hloop := fun nt (hn : 41 ≤ nt) => mi_loop hn (digQ x) (digQ y) na nb (by omega) (by omega) (LimQ.dig x) (LimQ.dig y) (digQ x) [] [] 0 rfl rfl (by omega)
 rw [List.length_nil, List.drop_zero] at hloop
 generalize hr : miL (digQ x) (digQ y) 0 = r at *
 obtain ⟨o, c⟩ := r
 simp only [List.nil_append] at hloop t1 t2 t3 t4
 rw [valQ_digQ, valQ_digQ, Nat.add_zero] at t4
 have hlt := valQ_lt t2
 have hc : c = 0 := by
  rcases Nat.eq_zero_or_pos c with h0 | h0
  ·exact h0
  ·have h1 : c = 1 := by omega
   have h2 := digQ_lt y
   have h3 := Nat.pow_le_pow_right (show 0 < 16777216 by omega) hm
   rw [h1, Nat.mul_one] at t4
   rw [t3] at hlt
   omega
 subst hc
 have hv : valQ o = x - y := by rw [Nat.mul_zero] at t4; omega
 have ht := rtrim_ok o true (by omega)
 rw [trimQ t2, hv] at ht
 rcases Decidable.em (o = []) with rfl | hne
 ·have h := rmiNF_0 (digQ x) (digQ y) [] (digQ (x - y)) na nb
  have ht0 := rtrim_ok [] false (by simp)
  rw [trimQ LimQ.nil, hv] at ht0
  apply h
  ·exact LoopR.blk hloop (by simp) rfl (Less.of ⟨rfl, rfl, rfl, rfl, rfl, trivial⟩) (Less.of ⟨rfl, trivial⟩)
  ·exact ht0.args (FitsL.cons (Fits.nilS false rfl) FitsL.nil)
 ·have h := rmiCF_0 (digQ x) (digQ y) o (digQ (x - y)) na nb
  rw [Nat.mul_one, take_i64, List.take_length] at h
  apply h
  ·exact LoopR.blk hloop (by simp) rfl (Less.of ⟨rfl, rfl, rfl, rfl, rfl, trivial⟩) (by unfold miOut; rw [apE_ne hne, apH_ne hne]; exact Less.of ⟨rfl, trivial⟩)
  ·exact ht.out (OutLe.sl1 _ _ _)
def cqO (a b : List Nat) : Nat → Option Int
 | 0 => none
 | k + 1 => if a.getD k 0 = b.getD k 0 then cqO a b k else some ((a.getD k 0 : Int) - (b.getD k 0 : Int))
def cmpQ (a b : List Nat) : Int := if a.length = b.length then (cqO a b a.length).getD 0 else (a.length : Int) - (b.length : Int)
theorem valQ_take_succ {l : List Nat} {k : Nat} (h : k < l.length) : valQ (l.take (k + 1)) = valQ (l.take k) + 16777216 ^ k * l.getD k 0 := by
 rw [List.take_add_one, valQ_app, List.getElem?_eq_getElem h, List.length_take, Nat.min_eq_left (by omega), List.getD_eq_getElem?_getD, List.getElem?_eq_getElem h]
 simp [valQ]
theorem cqO_spec {a b : List Nat} (hl : a.length = b.length) (ha : LimQ a) (hb : LimQ b) : ∀ k, k ≤ a.length → (0 ≤ (cqO a b k).getD 0 ↔ valQ (b.take k) ≤ valQ (a.take k)) ∧ ((cqO a b k).getD 0 ≤ 0 ↔ valQ (a.take k) ≤ valQ (b.take k))
 | 0, _ => by simp [cqO]
 | k + 1, h => by
  obtain ⟨h1, h2⟩ := cqO_spec hl ha hb k (by omega)
  rw [valQ_take_succ (l := a) (by omega), valQ_take_succ (l := b) (by omega)]
  have ta := valQ_lt (ha.take k)
  have tb := valQ_lt (hb.take k)
  rw [List.length_take, Nat.min_eq_left (by omega)] at ta tb
  simp only [cqO]
  by_cases he : a.getD k 0 = b.getD k 0
  ·rw [if_pos he, he]
   exact ⟨h1.trans (by omega), h2.trans (by omega)⟩
  ·rw [if_neg he]
   simp only [Option.getD_some]
   generalize a.getD k 0 = x at *
   generalize b.getD k 0 = y at *
   generalize valQ (List.take k a) = u at *
   generalize valQ (List.take k b) = v at *
   generalize 16777216 ^ k = M at *
   rcases Nat.lt_or_ge x y with hlt | hge
   ·have h3 : M * (x + 1) ≤ M * y := Nat.mul_le_mul_left _ hlt
    rw [Nat.mul_add, Nat.mul_one] at h3
    constructor <;> constructor <;> intro <;> omega
   ·have h3 : M * (y + 1) ≤ M * x := Nat.mul_le_mul_left _ (by omega)
    rw [Nat.mul_add, Nat.mul_one] at h3
    constructor <;> constructor <;> intro <;> omega
theorem cmpQ_spec (x y : Nat) : (0 ≤ cmpQ (digQ x) (digQ y) ↔ y ≤ x) ∧ (cmpQ (digQ x) (digQ y) ≤ 0 ↔ x ≤ y) := by
 unfold cmpQ
 by_cases h : (digQ x).length = (digQ y).length
 ·rw [if_pos h]
  have := cqO_spec h (LimQ.dig x) (LimQ.dig y) _ (Nat.le_refl _)
  rw [List.take_length, h, List.take_length, valQ_digQ, valQ_digQ] at this
  rw [h]; exact this
 ·rw [if_neg h]
  rcases Nat.lt_or_ge (digQ x).length (digQ y).length with h1 | h1
  ·have h2 : ¬ y ≤ x := fun hle => by have := digQ_mono hle; omega
   constructor <;> constructor <;> intro <;> omega
  ·have h2 : ¬ x ≤ y := fun hle => by have := digQ_mono hle; omega
   constructor <;> constructor <;> intro <;> omega
def cqSt (a b : List Nat) (na nb : Bool) (k : Nat) : St := ⟨[(0, .sl (i64L a) a.length na), (1, .sl (i64L b) b.length nb), (5, .int .i64 ((k : Int) - 1))], [], .dead, []⟩
def cqOut : Option Int → St
 | none => ⟨[], [], .dead, []⟩
 | some c => ⟨[(4, .int .i64 c)], [], .dead, []⟩
def cqE : Option Int → AExit
 | none => .exit 0
 | some _ => .ret
theorem cq_loop {nt : Nat} (hn : 41 ≤ nt) (a b : List Nat) (na nb : Bool) (hl : a.length = b.length) (hla : LimQ a) (hlb : LimQ b) (ha : a.length < 2 ^ 40) : ∀ k, k ≤ a.length → LoopR prog ap [] nt (loopBody 0 (bodyOf f124)) cqE (cqSt a b na nb) cqOut k (cqO a b k) := by
  intro k
  induction k with
  | zero => exact fun _ => .done (rcmE_0 hn a b na nb)
  | succ k ih =>
    intro hk
    have hxa := hla.getD k
    have hxb := hlb.getD k
    have ek : (((k + 1 : Nat) : Int) - 1) = (k : Int) := by omega
    have ew : IntKind.wrap .i64 ((k : Int) - ((1 : Nat) : Int)) = (k : Int) - 1 := w64_id (by omega) (by omega)
    have ed : IntKind.wrap .i64 (((a.getD k 0 : Nat) : Int) - ((b.getD k 0 : Nat) : Int)) = ((a.getD k 0 : Nat) : Int) - ((b.getD k 0 : Nat) : Int) := w64_id (by omega) (by omega)
    simp only [cqO]
    by_cases he : a.getD k 0 = b.getD k 0
    · rw [if_pos he]
      refine .next ?_ (ih (by omega))
      unfold cqSt
      rw [ek]
      first
        | (have hb := rcm_1 hn a b na nb k
           simp (disch := first | omega | (simp [u32L_length, u8L_length] <;> omega)) only [c_toNat, Nat.mul_one, i64_get, he, toInt_int, b_eq, decide_true, Bool.not_true, lit_f, Bool.not_false, chk_i64, d_le, dec_t, d_lt, lit_t, ew] at hb
           apply hb <;> first | exact True.intro | omega | assumption | exact rfl)
    · rw [if_neg he]
      refine .done ?_
      unfold cqSt
      rw [ek]
      have hb := rcm_0 hn a b na nb k
      simp (disch := first | omega | (simp [u32L_length, u8L_length] <;> omega)) only [c_toNat, Nat.mul_one, i64_get, chk_i64, d_le, dec_t, d_lt, toInt_int, b_eq, he, decide_false, Bool.not_false, lit_t, ed] at hb
      apply hb <;> first | exact True.intro | omega | assumption | exact rfl
theorem rcmp_ok (a b : List Nat) (na nb : Bool) (hla : LimQ a) (hlb : LimQ b) (ha : a.length < 2 ^ 40) (hbl : b.length < 2 ^ 40) : CO 124 [.sl (i64L a) a.length na, .sl (i64L b) b.length nb] (.ret (.int .i64 (cmpQ a b))) := by
 unfold cmpQ
 by_cases hl : a.length = b.length
 ·rw [if_pos hl]
  have hloop := fun nt (hn : 41 ≤ nt) => cq_loop hn a b na nb hl hla hlb ha a.length (Nat.le_refl _)
  have ew : IntKind.wrap .i64 ((a.length : Int) - ((1 : Nat) : Int)) = (a.length : Int) - 1 := len_pr ha
  cases hc : cqO a b a.length with
  | none =>
   rw [hc] at hloop
   exact rcmF_1 a b na nb (by rw [hl]; simp [lit]) (LoopR.blk hloop (by simp [cqE]) rfl (Less.of ⟨rfl, rfl, congrArg _ ew, trivial⟩) (Less.of trivial))
  | some c =>
   rw [hc] at hloop
   exact rcmR_1 a b na nb c (by rw [hl]; simp [lit]) (LoopR.blk hloop (by simp [cqE]) rfl (Less.of ⟨rfl, rfl, congrArg _ ew, trivial⟩) (Less.of ⟨rfl, trivial⟩))
 ·rw [if_neg hl]
  have h := rcmF_0 a b na nb
  have ed : IntKind.wrap .i64 ((a.length : Int) - (b.length : Int)) = (a.length : Int) - (b.length : Int) := w64_id (by omega) (by omega)
  simp (disch := first | omega | (simp [u32L_length, u8L_length] <;> omega)) only [b_eq, lit_t, not_t, dec_f, ed] at h
  apply h <;> first | exact True.intro | omega | assumption | exact rfl
theorem dig_0 {nt : Nat} (hn : 26 ≤ nt) (x y w lo hi : Nat) (c : Int) (na nb : Bool) (h0 : lit true (decide (c ≤ ((0 : Nat) : Int))) = true) (h1 : lit true (decide ((lo : Int) < (hi : Int))) = true) (c0 : CO 127 [.sl (i64L (digQ y)) (digQ y).length nb, .int .i64 (IntKind.wrap .i64 (Int.tdiv (IntKind.wrap .i64 ((IntKind.wrap .i64 ((lo : Int) + (hi : Int))) + ((1 : Nat) : Int))) ((2 : Nat) : Int)))] (.ret (.sl (i64L (digQ w)) (digQ w).length true))) (c1 : CO 124 [.sl (i64L (digQ w)) (digQ w).length true, .sl (i64L (digQ x)) (digQ x).length na] (.ret (.int .i64 c))) : ExecOk prog ap [] nt (loopBody 0 (bodyOf f125)) ⟨[(0, .sl (i64L (digQ x)) (digQ x).length na), (1, .sl (i64L (digQ y)) (digQ y).length nb), (5, .int .i64 (lo : Int)), (6, .int .i64 (hi : Int))], [], .dead, []⟩ (.normal) ⟨[(0, .sl (i64L (digQ x)) (digQ x).length na), (1, .sl (i64L (digQ y)) (digQ y).length nb), (5, .int .i64 (IntKind.wrap .i64 (Int.tdiv (IntKind.wrap .i64 ((IntKind.wrap .i64 ((lo : Int) + (hi : Int))) + ((1 : Nat) : Int))) ((2 : Nat) : Int)))), (6, .int .i64 (hi : Int))], [], .dead, []⟩ := pJ 125 [] 2 3 (.c h0 (.k 1 h1 .nil)) (.c c1 (.c c0 .nil)) hn
theorem dig_1 {nt : Nat} (hn : 26 ≤ nt) (x y w lo hi : Nat) (c : Int) (na nb : Bool) (h0 : lit false (decide (c ≤ ((0 : Nat) : Int))) = true) (h1 : lit true (decide ((lo : Int) < (hi : Int))) = true) (c0 : CO 127 [.sl (i64L (digQ y)) (digQ y).length nb, .int .i64 (IntKind.wrap .i64 (Int.tdiv (IntKind.wrap .i64 ((IntKind.wrap .i64 ((lo : Int) + (hi : Int))) + ((1 : Nat) : Int))) ((2 : Nat) : Int)))] (.ret (.sl (i64L (digQ w)) (digQ w).length true))) (c1 : CO 124 [.sl (i64L (digQ w)) (digQ w).length true, .sl (i64L (digQ x)) (digQ x).length na] (.ret (.int .i64 c))) : ExecOk prog ap [] nt (loopBody 0 (bodyOf f125)) ⟨[(0, .sl (i64L (digQ x)) (digQ x).length na), (1, .sl (i64L (digQ y)) (digQ y).length nb), (5, .int .i64 (lo : Int)), (6, .int .i64 (hi : Int))], [], .dead, []⟩ (.normal) ⟨[(0, .sl (i64L (digQ x)) (digQ x).length na), (1, .sl (i64L (digQ y)) (digQ y).length nb), (5, .int .i64 (lo : Int)), (6, .int .i64 (IntKind.wrap .i64 ((IntKind.wrap .i64 (Int.tdiv (IntKind.wrap .i64 ((IntKind.wrap .i64 ((lo : Int) + (hi : Int))) + ((1 : Nat) : Int))) ((2 : Nat) : Int))) - ((1 : Nat) : Int))))], [], .dead, []⟩ := pJ 125 [] 2 1 (.c h0 (.k 1 h1 .nil)) (.c c1 (.c c0 .nil)) hn
theorem dig_2 {nt : Nat} (hn : 26 ≤ nt) (x y w lo hi : Nat) (c : Int) (na nb : Bool) (h0 : lit false (decide ((lo : Int) < (hi : Int))) = true)  : ExecOk prog ap [] nt (loopBody 0 (bodyOf f125)) ⟨[(0, .sl (i64L (digQ x)) (digQ x).length na), (1, .sl (i64L (digQ y)) (digQ y).length nb), (5, .int .i64 (lo : Int)), (6, .int .i64 (hi : Int))], [], .dead, []⟩ (.exit 0) ⟨[(5, .int .i64 (lo : Int))], [], .dead, []⟩ := pJ 125 [] 1 0 (.c h0 .nil) (.nil) hn
theorem digF_0 (x y q : Nat) (na nb : Bool)  (l0 : LoopOk prog ap [] 26 (.block 0 (.loop (loopBody 0 (bodyOf f125)))) ⟨[(0, .sl (i64L (digQ x)) (digQ x).length na), (1, .sl (i64L (digQ y)) (digQ y).length nb), (4, .int .i64 0), (5, .int .i64 0), (6, .int .i64 16777215), (7, .dead), (10, .dead), (21, .dead)], [], .dead, []⟩ (.normal) ⟨[(5, .int .i64 (q : Int))], [], .dead, []⟩) : CO 125 [.sl (i64L (digQ x)) (digQ x).length na, .sl (i64L (digQ y)) (digQ y).length nb] (.ret (.int .i64 (q : Int))) := pK [0] 0 0 .nil (.l l0 .nil)
theorem numN_0 {nt : Nat} (hn : 35 ≤ nt) (l o : List Nat) (k : Nat) (nn : Bool) (h0 : (chk (.int .i64) (List.headD (List.drop ((Int.toNat (k : Int)) * 1) (i64L l)) .dead)) = true) (h1 : (decide (((0 : Nat) : Int) ≤ (k : Int))) = true) (h2 : (decide ((k : Int) < (l.length : Int))) = true) (h3 : lit true (decide (((0 : Nat) : Int) ≤ (k : Int))) = true)  : ExecOk prog ap [] nt (loopBody 0 (bodyOf f64)) ⟨[(0, .sl (i64L l) l.length nn), (3, .nilS), (4, .int .i64 (k : Int))], [], .dead, []⟩ (.normal) ⟨[(0, .sl (i64L l) l.length nn), (3, .ref 0 0 0 3), (4, .int .i64 (IntKind.wrap .i64 ((k : Int) - ((1 : Nat) : Int))))], [(0, ⟨[.int .u8 (IntKind.wrap .u8 (Int.fdiv (AV.toInt (List.headD (List.drop ((Int.toNat (k : Int)) * 1) (i64L l)) .dead)) (2 ^ (min 16 64)))), .int .u8 (IntKind.wrap .u8 (Int.fdiv (AV.toInt (List.headD (List.drop ((Int.toNat (k : Int)) * 1) (i64L l)) .dead)) (2 ^ (min 8 64)))), .int .u8 (IntKind.wrap .u8 (AV.toInt (List.headD (List.drop ((Int.toNat (k : Int)) * 1) (i64L l)) .dead)))], 0, false, 0, 1, true⟩)], .dead, []⟩ := pJ 64 [] 2 1 (.k 3 h0 (.c h1 (.c h2 (.k 1 h0 (.c h1 (.c h2 (.k 1 h0 (.c h1 (.c h2 (.c h3 .nil)))))))))) (.nil) hn
theorem numNE_0 {nt : Nat} (hn : 35 ≤ nt) (l o : List Nat) (nn : Bool)   : ExecOk prog ap [] nt (loopBody 0 (bodyOf f64)) ⟨[(0, .sl (i64L l) l.length nn), (3, .nilS), (4, .int .i64 (-1))], [], .dead, []⟩ (.exit 0) ⟨[(3, .nilS)], [], .dead, []⟩ := pJ 64 [] 1 0 (.n 1 .nil) (.nil) hn
theorem numNF_0 (l o : List Nat) (nn : Bool)  (l0 : LoopOk prog ap [] 35 (.block 0 (.loop (loopBody 0 (bodyOf f64)))) ⟨[(0, .sl (i64L l) l.length nn), (2, .str []), (3, .nilS), (4, .int .i64 (IntKind.wrap .i64 ((l.length : Int) - ((1 : Nat) : Int)))), (9, .dead)], [], .dead, []⟩ (.normal) ⟨[(3, .nilS)], [], .dead, []⟩) (c0 : CO 61 [.str []] (.ret (.str (natS (valS []))))) : CO 64 [.sl (i64L l) l.length nn] (.ret (.str (natS (valS [])))) := pK [0] 0 0 (.n 2 .nil) (.c c0 (.l l0 .nil))
theorem numC_0 {nt : Nat} (hn : 35 ≤ nt) (l o : List Nat) (k : Nat) (nn : Bool) (h0 : (Nat.ble (o.length + 3) 1099511627776) = true) (h1 : (Nat.ble (o.length * 1) (List.length (u8L o))) = true) (h2 : (chk (.int .i64) (List.headD (List.drop ((Int.toNat (k : Int)) * 1) (i64L l)) .dead)) = true) (h3 : (decide (((0 : Nat) : Int) ≤ (k : Int))) = true) (h4 : (decide ((k : Int) < (l.length : Int))) = true) (h5 : lit true (decide (((0 : Nat) : Int) ≤ (k : Int))) = true)  : ExecOk prog ap [] nt (loopBody 0 (bodyOf f64)) ⟨[(0, .sl (i64L l) l.length nn), (3, .ref 0 0 0 o.length), (4, .int .i64 (k : Int))], [(0, ⟨(u8L o), 0, false, 0, 1, true⟩)], .dead, []⟩ (.normal) ⟨[(0, .sl (i64L l) l.length nn), (3, .ref 0 0 0 (o.length + 3)), (4, .int .i64 (IntKind.wrap .i64 ((k : Int) - ((1 : Nat) : Int))))], [(0, ⟨((List.take (o.length * 1) (u8L o)) ++ [.int .u8 (IntKind.wrap .u8 (Int.fdiv (AV.toInt (List.headD (List.drop ((Int.toNat (k : Int)) * 1) (i64L l)) .dead)) (2 ^ (min 16 64)))), .int .u8 (IntKind.wrap .u8 (Int.fdiv (AV.toInt (List.headD (List.drop ((Int.toNat (k : Int)) * 1) (i64L l)) .dead)) (2 ^ (min 8 64)))), .int .u8 (IntKind.wrap .u8 (AV.toInt (List.headD (List.drop ((Int.toNat (k : Int)) * 1) (i64L l)) .dead)))]), 0, false, 0, 1, true⟩)], .dead, []⟩ := pJ 64 [] 1 1 (.k 1 h0 (.c h1 (.k 1 h2 (.c h3 (.c h4 (.k 1 h2 (.c h3 (.c h4 (.k 1 h2 (.c h3 (.c h4 (.c h5 .nil)))))))))))) (.nil) hn
theorem numCE_0 {nt : Nat} (hn : 35 ≤ nt) (l o : List Nat) (nn : Bool)   : ExecOk prog ap [] nt (loopBody 0 (bodyOf f64)) ⟨[(0, .sl (i64L l) l.length nn), (3, .ref 0 0 0 o.length), (4, .int .i64 (-1))], [(0, ⟨(u8L o), 0, false, 0, 1, true⟩)], .dead, []⟩ (.exit 0) ⟨[(3, .ref 0 0 0 o.length)], [(0, ⟨(u8L o), 0, false, 0, 1, true⟩)], .dead, []⟩ := pJ 64 [] 1 0 (.n 1 .nil) (.nil) hn
theorem numCF_0 (l o : List Nat) (nn : Bool) (h0 : (Nat.beq (List.length (List.take (o.length * 1) (u8L o))) o.length) = true) (h1 : (List.all (List.take (o.length * 1) (u8L o)) (chk (.int .u8))) = true) (l0 : LoopOk prog ap [] 35 (.block 0 (.loop (loopBody 0 (bodyOf f64)))) ⟨[(0, .sl (i64L l) l.length nn), (2, .str []), (3, .nilS), (4, .int .i64 (IntKind.wrap .i64 ((l.length : Int) - ((1 : Nat) : Int)))), (9, .dead)], [], .dead, []⟩ (.normal) ⟨[(3, .ref 0 0 0 o.length)], [(0, ⟨(u8L o), 0, false, 0, 1, true⟩)], .dead, []⟩) (c0 : CO 61 [.str (List.map (fun c => UInt8.ofNat (Int.toNat (AV.toInt c))) (List.take (o.length * 1) (u8L o)))] (.ret (.str (natS (valS (List.map (fun c => UInt8.ofNat (Int.toNat (AV.toInt c))) (List.take (o.length * 1) (u8L o)))))))) : CO 64 [.sl (i64L l) l.length nn] (.ret (.str (natS (valS (List.map (fun c => UInt8.ofNat (Int.toNat (AV.toInt c))) (List.take (o.length * 1) (u8L o))))))) := pK [0] 0 0 (.c h0 (.c h1 .nil)) (.c c0 (.l l0 .nil))
theorem rofF_0 (x : Nat) (h0 : lit true (decide (((0 : Nat) : Int) < (x : Int))) = true) (c0 : CO 61 [.str [UInt8.ofNat (Int.toNat (IntKind.wrap .u8 (Int.fdiv (x : Int) (2 ^ (min 56 64))))), UInt8.ofNat (Int.toNat (IntKind.wrap .u8 (Int.fdiv (x : Int) (2 ^ (min 48 64))))), UInt8.ofNat (Int.toNat (IntKind.wrap .u8 (Int.fdiv (x : Int) (2 ^ (min 40 64))))), UInt8.ofNat (Int.toNat (IntKind.wrap .u8 (Int.fdiv (x : Int) (2 ^ (min 32 64))))), UInt8.ofNat (Int.toNat (IntKind.wrap .u8 (Int.fdiv (x : Int) (2 ^ (min 24 64))))), UInt8.ofNat (Int.toNat (IntKind.wrap .u8 (Int.fdiv (x : Int) (2 ^ (min 16 64))))), UInt8.ofNat (Int.toNat (IntKind.wrap .u8 (Int.fdiv (x : Int) (2 ^ (min 8 64))))), UInt8.ofNat (Int.toNat (IntKind.wrap .u8 (Int.fdiv (x : Int) (2 ^ (min 0 64)))))]] (.ret (.str (natS (valS [UInt8.ofNat (Int.toNat (IntKind.wrap .u8 (Int.fdiv (x : Int) (2 ^ (min 56 64))))), UInt8.ofNat (Int.toNat (IntKind.wrap .u8 (Int.fdiv (x : Int) (2 ^ (min 48 64))))), UInt8.ofNat (Int.toNat (IntKind.wrap .u8 (Int.fdiv (x : Int) (2 ^ (min 40 64))))), UInt8.ofNat (Int.toNat (IntKind.wrap .u8 (Int.fdiv (x : Int) (2 ^ (min 32 64))))), UInt8.ofNat (Int.toNat (IntKind.wrap .u8 (Int.fdiv (x : Int) (2 ^ (min 24 64))))), UInt8.ofNat (Int.toNat (IntKind.wrap .u8 (Int.fdiv (x : Int) (2 ^ (min 16 64))))), UInt8.ofNat (Int.toNat (IntKind.wrap .u8 (Int.fdiv (x : Int) (2 ^ (min 8 64))))), UInt8.ofNat (Int.toNat (IntKind.wrap .u8 (Int.fdiv (x : Int) (2 ^ (min 0 64)))))]))))) : CO 39 [.int .i64 (x : Int)] (.ret (.str (natS (valS [UInt8.ofNat (Int.toNat (IntKind.wrap .u8 (Int.fdiv (x : Int) (2 ^ (min 56 64))))), UInt8.ofNat (Int.toNat (IntKind.wrap .u8 (Int.fdiv (x : Int) (2 ^ (min 48 64))))), UInt8.ofNat (Int.toNat (IntKind.wrap .u8 (Int.fdiv (x : Int) (2 ^ (min 40 64))))), UInt8.ofNat (Int.toNat (IntKind.wrap .u8 (Int.fdiv (x : Int) (2 ^ (min 32 64))))), UInt8.ofNat (Int.toNat (IntKind.wrap .u8 (Int.fdiv (x : Int) (2 ^ (min 24 64))))), UInt8.ofNat (Int.toNat (IntKind.wrap .u8 (Int.fdiv (x : Int) (2 ^ (min 16 64))))), UInt8.ofNat (Int.toNat (IntKind.wrap .u8 (Int.fdiv (x : Int) (2 ^ (min 8 64))))), UInt8.ofNat (Int.toNat (IntKind.wrap .u8 (Int.fdiv (x : Int) (2 ^ (min 0 64)))))])))) := pK [] 19 131067 (.k 9 h0 (.k 6 h0 (.k 6 h0 (.k 6 h0 (.k 6 h0 (.k 6 h0 (.k 6 h0 (.k 5 h0 (.n 1 .nil))))))))) (.c c0 .nil)
theorem rofF_1 (x : Nat) (h0 : lit false (decide (((0 : Nat) : Int) < (x : Int))) = true) (c0 : CO 61 [.str []] (.ret (.str (natS (valS []))))) : CO 39 [.int .i64 (x : Int)] (.ret (.str (natS (valS [])))) := pK [] 2 1 (.k 2 h0 (.n 1 .nil)) (.c c0 .nil)
theorem rint_0 {nt : Nat} (hn : 35 ≤ nt) (s : List UInt8) (n k : Nat) (h0 : (decide (((0 : Nat) : Int) ≤ (k : Int))) = true) (h1 : (decide ((k : Int) < (((List.length s) : Nat) : Int))) = true) (h2 : lit true (decide ((k : Int) < (((List.length s) : Nat) : Int))) = true)  : ExecOk prog ap [] nt (loopBody 0 (bodyOf f94)) ⟨[(0, .str s), (4, .int .i64 (n : Int)), (5, .int .i64 (k : Int))], [], .dead, []⟩ (.normal) ⟨[(0, .str s), (4, .int .i64 (IntKind.wrap .i64 ((IntKind.wrap .i64 ((n : Int) * 2 ^ (min 8 64))) + (IntKind.wrap .i64 ((UInt8.toNat (List.getD s (Int.toNat (k : Int)) 0) : Nat) : Int))))), (5, .int .i64 (IntKind.wrap .i64 ((k : Int) + ((1 : Nat) : Int))))], [], .dead, []⟩ := pJ 94 [] 1 1 (.c h0 (.c h1 (.k 1 h2 .nil))) (.nil) hn
theorem rint_1 {nt : Nat} (hn : 35 ≤ nt) (s : List UInt8) (n k : Nat) (h0 : lit false (decide ((k : Int) < (((List.length s) : Nat) : Int))) = true)  : ExecOk prog ap [] nt (loopBody 0 (bodyOf f94)) ⟨[(0, .str s), (4, .int .i64 (n : Int)), (5, .int .i64 (k : Int))], [], .dead, []⟩ (.exit 0) ⟨[(4, .int .i64 (n : Int))], [], .dead, []⟩ := pJ 94 [] 1 0 (.c h0 .nil) (.nil) hn
theorem rintF_2 (s : List UInt8) (n : Nat) (h0 : lit false (decide (((127 : Nat) : Int) < ((UInt8.toNat (List.getD (natS (valS s)) 0 0) : Nat) : Int))) = true) (h1 : (decide (((0 : Nat) : Int) < (((List.length (natS (valS s))) : Nat) : Int))) = true) (h2 : lit true ((((List.length (natS (valS s))) : Nat) : Int) == ((8 : Nat) : Int)) = true) (h3 : lit false (decide (((8 : Nat) : Int) < (((List.length (natS (valS s))) : Nat) : Int))) = true) (c0 : CO 61 [.str s] (.ret (.str (natS (valS s))))) (l0 : LoopOk prog ap [] 35 (.block 0 (.loop (loopBody 0 (bodyOf f94)))) ⟨[(0, .str (natS (valS s))), (2, .int .i64 0), (3, .bool false), (4, .int .i64 0), (5, .int .i64 0), (20, .bool (decide (((127 : Nat) : Int) < ((UInt8.toNat (List.getD (natS (valS s)) 0 0) : Nat) : Int)))), (24, .dead)], [], .dead, []⟩ (.normal) ⟨[(4, .int .i64 (n : Int))], [], .dead, []⟩) : CO 94 [.str s] (.ret (.tup [.int .i64 (n : Int), .bool true])) := pK [0] 3 2 (.c h0 (.k 1 h1 (.c h2 (.c h3 .nil)))) (.l l0 (.c c0 .nil))
theorem rintF_3 (s : List UInt8) (n : Nat) (h0 : lit false ((((List.length (natS (valS s))) : Nat) : Int) == ((8 : Nat) : Int)) = true) (h1 : lit false (decide (((8 : Nat) : Int) < (((List.length (natS (valS s))) : Nat) : Int))) = true) (c0 : CO 61 [.str s] (.ret (.str (natS (valS s))))) (l0 : LoopOk prog ap [] 35 (.block 0 (.loop (loopBody 0 (bodyOf f94)))) ⟨[(0, .str (natS (valS s))), (2, .int .i64 0), (3, .bool false), (4, .int .i64 0), (5, .int .i64 0), (20, .bool false), (24, .dead)], [], .dead, []⟩ (.normal) ⟨[(4, .int .i64 (n : Int))], [], .dead, []⟩) : CO 94 [.str s] (.ret (.tup [.int .i64 (n : Int), .bool true])) := pK [0] 3 0 (.k 1 h0 (.c h1 .nil)) (.l l0 (.c c0 .nil))
theorem sma_0 (s : List UInt8) (n b : Nat) (h0 : lit true (decide ((b : Int) < (((List.length (natS (valS s))) : Nat) : Int))) = true) (c0 : CO 61 [.str s] (.ret (.str (natS (valS s))))) : CO 62 [.str s, .int .i64 (b : Int)] (.ret (.tup [.int .i64 0, .bool false])) := pK [] 1 1 (.c h0 .nil) (.c c0 .nil)
theorem sma_1 (s : List UInt8) (n b : Nat) (h0 : lit false (decide ((b : Int) < (((List.length (natS (valS s))) : Nat) : Int))) = true) (c0 : CO 61 [.str s] (.ret (.str (natS (valS s))))) (c1 : CO 94 [.str s] (.ret (.tup [.int .i64 (n : Int), .bool true]))) : CO 62 [.str s, .int .i64 (b : Int)] (.ret (.tup [.int .i64 (n : Int), .bool true])) := pK [] 1 0 (.c h0 .nil) (.c c1 (.c c0 .nil))
theorem rbi_0 {nt : Nat} (hn : 24 ≤ nt) (n d : Nat) (h0 : lit true (decide (((0 : Nat) : Int) < (d : Int))) = true)  : ExecOk prog ap [] nt (loopBody 0 (bodyOf f70)) ⟨[(3, .int .i64 (n : Int)), (4, .int .i64 (d : Int))], [], .dead, []⟩ (.normal) ⟨[(3, .int .i64 (IntKind.wrap .i64 ((n : Int) + ((1 : Nat) : Int)))), (4, .int .i64 (IntKind.wrap .i64 (Int.tdiv (d : Int) ((2 : Nat) : Int))))], [], .dead, []⟩ := pJ 70 [] 1 1 (.k 1 h0 .nil) (.nil) hn
theorem rbi_1 {nt : Nat} (hn : 24 ≤ nt) (n d : Nat) (h0 : lit false (decide (((0 : Nat) : Int) < (d : Int))) = true)  : ExecOk prog ap [] nt (loopBody 0 (bodyOf f70)) ⟨[(3, .int .i64 (n : Int)), (4, .int .i64 (d : Int))], [], .dead, []⟩ (.exit 0) ⟨[(3, .int .i64 (n : Int))], [], .dead, []⟩ := pJ 70 [] 1 0 (.c h0 .nil) (.nil) hn
theorem rbiF_0 (s : List UInt8) (n : Nat) (h0 : lit true ((((List.length (natS (valS s))) : Nat) : Int) == ((0 : Nat) : Int)) = true) (c0 : CO 61 [.str s] (.ret (.str (natS (valS s))))) : CO 70 [.str s] (.ret (.int .i64 0)) := pK [0] 1 1 (.c h0 .nil) (.c c0 .nil)
theorem rbiF_1 (s : List UInt8) (n : Nat) (h0 : (decide (((0 : Nat) : Int) < (((List.length (natS (valS s))) : Nat) : Int))) = true) (h1 : lit false ((((List.length (natS (valS s))) : Nat) : Int) == ((0 : Nat) : Int)) = true) (c0 : CO 61 [.str s] (.ret (.str (natS (valS s))))) (l0 : LoopOk prog ap [] 24 (.block 0 (.loop (loopBody 0 (bodyOf f70)))) ⟨[(0, .str (natS (valS s))), (2, .int .i64 0), (3, .int .i64 (IntKind.wrap .i64 (((8 : Nat) : Int) * (IntKind.wrap .i64 ((((List.length (natS (valS s))) : Nat) : Int) - ((1 : Nat) : Int)))))), (4, .int .i64 (IntKind.wrap .i64 ((UInt8.toNat (List.getD (natS (valS s)) 0 0) : Nat) : Int))), (9, .bool ((((List.length (natS (valS s))) : Nat) : Int) == ((0 : Nat) : Int))), (18, .dead)], [], .dead, []⟩ (.normal) ⟨[(3, .int .i64 (n : Int))], [], .dead, []⟩) : CO 70 [.str s] (.ret (.int .i64 (n : Int))) := pK [0] 1 0 (.k 1 h0 (.c h1 .nil)) (.l l0 (.c c0 .nil))
theorem rri_0 (s : List UInt8) (h0 : lit true ((((List.length s) : Nat) : Int) == ((0 : Nat) : Int)) = true)  : CO 102 [.str s] (.ret (.bool true)) := pK [] 1 1 (.c h0 .nil) (.nil)
theorem rri_1 (s : List UInt8) (h0 : (decide (((0 : Nat) : Int) < (((List.length s) : Nat) : Int))) = true) (h1 : lit false ((((List.length s) : Nat) : Int) == ((0 : Nat) : Int)) = true)  : CO 102 [.str s] (.ret (.bool (!(((UInt8.toNat (List.getD s 0 0) : Nat) : Int) == ((0 : Nat) : Int))))) := pK [] 1 0 (.k 1 h0 (.c h1 .nil)) (.nil)
theorem rcmpS_0 (s t : List UInt8) (h0 : lit true (decide ((((List.length (natS (valS s))) : Nat) : Int) < (((List.length (natS (valS t))) : Nat) : Int))) = true) (h1 : lit true (!((((List.length (natS (valS s))) : Nat) : Int) == (((List.length (natS (valS t))) : Nat) : Int))) = true) (c0 : CO 61 [.str s] (.ret (.str (natS (valS s))))) (c1 : CO 61 [.str t] (.ret (.str (natS (valS t))))) : CO 103 [.str s, .str t] (.ret (.int .i64 (-1))) := pK [] 2 3 (.c h0 (.c h1 .nil)) (.c c1 (.c c0 .nil))
theorem rcmpS_1 (s t : List UInt8) (h0 : lit false (decide ((((List.length (natS (valS s))) : Nat) : Int) < (((List.length (natS (valS t))) : Nat) : Int))) = true) (h1 : lit true (!((((List.length (natS (valS s))) : Nat) : Int) == (((List.length (natS (valS t))) : Nat) : Int))) = true) (c0 : CO 61 [.str s] (.ret (.str (natS (valS s))))) (c1 : CO 61 [.str t] (.ret (.str (natS (valS t))))) : CO 103 [.str s, .str t] (.ret (.int .i64 1)) := pK [] 2 1 (.c h0 (.c h1 .nil)) (.c c1 (.c c0 .nil))
theorem rcmpS_2 (s t : List UInt8) (h0 : lit true (bytesLt (natS (valS s)) (natS (valS t))) = true) (h1 : lit false (!((((List.length (natS (valS s))) : Nat) : Int) == (((List.length (natS (valS t))) : Nat) : Int))) = true) (c0 : CO 61 [.str s] (.ret (.str (natS (valS s))))) (c1 : CO 61 [.str t] (.ret (.str (natS (valS t))))) : CO 103 [.str s, .str t] (.ret (.int .i64 (-1))) := pK [] 2 2 (.c h0 (.c h1 .nil)) (.c c1 (.c c0 .nil))
theorem rcmpS_3 (s t : List UInt8) (h0 : lit true (!(bytesLt (natS (valS s)) (natS (valS t)) || (natS (valS s)) == (natS (valS t)))) = true) (h1 : lit false (bytesLt (natS (valS s)) (natS (valS t))) = true) (h2 : lit false (!((((List.length (natS (valS s))) : Nat) : Int) == (((List.length (natS (valS t))) : Nat) : Int))) = true) (c0 : CO 61 [.str s] (.ret (.str (natS (valS s))))) (c1 : CO 61 [.str t] (.ret (.str (natS (valS t))))) : CO 103 [.str s, .str t] (.ret (.int .i64 1)) := pK [] 3 4 (.c h0 (.c h1 (.c h2 .nil))) (.c c1 (.c c0 .nil))
theorem rcmpS_4 (s t : List UInt8) (h0 : lit false (!(bytesLt (natS (valS s)) (natS (valS t)) || (natS (valS s)) == (natS (valS t)))) = true) (h1 : lit false (bytesLt (natS (valS s)) (natS (valS t))) = true) (h2 : lit false (!((((List.length (natS (valS s))) : Nat) : Int) == (((List.length (natS (valS t))) : Nat) : Int))) = true) (c0 : CO 61 [.str s] (.ret (.str (natS (valS s))))) (c1 : CO 61 [.str t] (.ret (.str (natS (valS t))))) : CO 103 [.str s, .str t] (.ret (.int .i64 0)) := pK [] 3 0 (.c h0 (.c h1 (.c h2 .nil))) (.c c1 (.c c0 .nil))
def diSt (x y : Nat) (na nb : Bool) (p : Nat × Nat) : St := ⟨[(0, .sl (i64L (digQ x)) (digQ x).length na), (1, .sl (i64L (digQ y)) (digQ y).length nb), (5, .int .i64 (p.1 : Int)), (6, .int .i64 (p.2 : Int))], [], .dead, []⟩
def diOut (q : Nat) : St := ⟨[(5, .int .i64 (q : Int))], [], .dead, []⟩
theorem digQ_mul {x d : Nat} (hd : d < 16777216) : (digQ (x * d)).length ≤ (digQ x).length + 1 := by
 apply digQ_le
 have h1 := digQ_lt x
 have hp := powQ_pos (digQ x).length
 rw [Nat.pow_succ]
 rcases Nat.eq_zero_or_pos d with rfl | h0
 ·rw [Nat.mul_zero]; exact Nat.mul_pos hp (by omega)
 ·exact Nat.lt_of_lt_of_le (Nat.mul_lt_mul_of_pos_right h1 h0) (Nat.mul_le_mul_left _ (by omega))
theorem di_loop {nt : Nat} (hn : 26 ≤ nt) (x y : Nat) (na nb : Bool) (hy : 0 < y) (hxl : (digQ x).length < 2 ^ 36) (hyl : (digQ y).length < 2 ^ 35) : ∀ (n lo hi : Nat), hi - lo < n → lo ≤ x / y → x / y ≤ hi → hi < 16777216 → LoopR prog ap [] nt (loopBody 0 (bodyOf f125)) (fun _ => .exit 0) (diSt x y na nb) diOut (lo, hi) (x / y) := by
 intro n
 induction n with
 | zero => intro lo hi h; omega
 | succ n ih =>
  intro lo hi h h1 h2 h3
  rcases Nat.lt_or_ge lo hi with hlt | hge
  ·have hm1 : (lo + hi + 1) / 2 < 16777216 := by omega
   have hc := cmpQ_spec (y * ((lo + hi + 1) / 2)) x
   have ht := times_ok y ((lo + hi + 1) / 2) nb hm1 (by omega)
   have hml := digQ_mul (x := y) hm1
   have hcm := rcmp_ok (digQ (y * ((lo + hi + 1) / 2))) (digQ x) true na (LimQ.dig _) (LimQ.dig _) (by omega) (by omega)
   have hdiv := Nat.le_div_iff_mul_le (x := (lo + hi + 1) / 2) (y := x) hy
   rw [Nat.mul_comm] at hdiv
   have hz : ((0 : Nat) : Int) = 0 := rfl
   by_cases hle : y * ((lo + hi + 1) / 2) ≤ x
   ·have hmq := hdiv.2 hle
    refine .next ?_ (ih ((lo + hi + 1) / 2) hi (by omega) hmq h2 h3)
    have hb := dig_0 hn x y (y * ((lo + hi + 1) / 2)) lo hi (cmpQ (digQ (y * ((lo + hi + 1) / 2))) (digQ x)) na nb
    simp (disch := first | omega | (simp [u32L_length, u8L_length] <;> omega)) only [lit_t, dec_t, d_lt, c_add, w64_nat, c_tdiv] at hb
    exact hb (hc.2.2 hle) hlt ht hcm
   ·have hmq : x / y < (lo + hi + 1) / 2 := Nat.lt_of_not_le (fun hq => hle (hdiv.1 hq))
    refine .next ?_ (ih lo ((lo + hi + 1) / 2 - 1) (by omega) h1 (by omega) (by omega))
    have hb := dig_1 hn x y (y * ((lo + hi + 1) / 2)) lo hi (cmpQ (digQ (y * ((lo + hi + 1) / 2))) (digQ x)) na nb
    simp (disch := first | omega | (simp [u32L_length, u8L_length] <;> omega)) only [lit_f, not_t, dec_f, d_lt, lit_t, dec_t, c_add, w64_nat, c_tdiv, w64_sub] at hb
    exact hb (fun hq => hle (hc.2.1 hq)) hlt ht hcm
  ·have he : lo = x / y := by omega
   have hb := dig_2 hn x y 0 lo hi 0 na nb (by rw [d_lt]; simp [lit]; omega)
   rw [← he]
   exact .done hb
theorem digit_ok (x y : Nat) (na nb : Bool) (hy : 0 < y) (hxy : x < y * 16777216) (hxl : (digQ x).length < 2 ^ 36) (hyl : (digQ y).length < 2 ^ 35) : CO 125 [.sl (i64L (digQ x)) (digQ x).length na, .sl (i64L (digQ y)) (digQ y).length nb] (.ret (.int .i64 ((x / y : Nat) : Int))) := by
 have hq : x / y < 16777216 := by rw [Nat.div_lt_iff_lt_mul hy, Nat.mul_comm]; exact hxy
 exact digF_0 x y (x / y) na nb (LoopR.blk (fun nt hn => di_loop hn x y na nb hy hxl hyl 16777216 0 16777215 (by omega) (Nat.zero_le _) (Nat.le_of_lt_succ hq) (by omega)) (by simp) rfl (Less.of ⟨rfl, rfl, rfl, rfl, trivial⟩) (Less.of ⟨rfl, trivial⟩))
theorem valS_snoc (l : List UInt8) (c : UInt8) : valS (l ++ [c]) = valS l * 256 + c.toNat := by
 unfold valS; rw [List.foldl_append]; rfl
theorem toNat_ofNat {x : Nat} (h : x < 256) : (UInt8.ofNat x).toNat = x := by
 rw [UInt8.toNat_ofNat']; exact Nat.mod_eq_of_lt h
def bS (o : List Nat) : List UInt8 := o.map UInt8.ofNat
theorem bS_u8 (o : List Nat) : List.map (fun c => UInt8.ofNat (Int.toNat (AV.toInt c))) (u8L o) = bS o := by
 unfold u8L bS; rw [List.map_map]; rfl
theorem take_u8 (l : List Nat) (k : Nat) : List.take k (u8L l) = u8L (l.take k) := by unfold u8L; rw [List.map_take]
def byL (l : List Nat) : Nat → List Nat
 | 0 => []
 | k + 1 => [l.getD k 0 / 65536, l.getD k 0 / 256 % 256, l.getD k 0 % 256] ++ byL l k
theorem bS_app (a b : List Nat) : bS (a ++ b) = bS a ++ bS b := by unfold bS; rw [List.map_append]
theorem byL_val {l : List Nat} (hl : LimQ l) : ∀ (k : Nat) (o : List Nat), k ≤ l.length → valS (bS (o ++ byL l k)) = valS (bS o) * 16777216 ^ k + valQ (l.take k)
 | 0, o, _ => by simp [byL, valQ]
 | k + 1, o, h => by
  simp only [byL]
  rw [← List.append_assoc, byL_val hl k _ (by omega), valQ_take_succ (by omega)]
  have hd := hl.getD k
  generalize l.getD k 0 = d at *
  have e : valS (bS (o ++ [d / 65536, d / 256 % 256, d % 256])) = valS (bS o) * 16777216 + d := by
   rw [show o ++ [d / 65536, d / 256 % 256, d % 256] = ((o ++ [d / 65536]) ++ [d / 256 % 256]) ++ [d % 256] by simp, bS_app, bS_app, bS_app]
   simp only [bS, List.map_cons, List.map_nil]
   rw [valS_snoc, valS_snoc, valS_snoc, toNat_ofNat (show d / 65536 < 256 by omega), toNat_ofNat (Nat.mod_lt _ (by omega)), toNat_ofNat (Nat.mod_lt _ (by omega))]
   omega
  rw [e, Nat.add_mul, Nat.pow_succ, Nat.mul_comm (16777216 ^ k) 16777216, Nat.mul_assoc, Nat.mul_comm d]
  omega
def apE8 (l : List Nat) : AV := match l with | [] => .nilS | x :: l => .ref 0 0 0 (x :: l).length
def apH8 (l : List Nat) : Hp := match l with | [] => [] | x :: l => [(0, ⟨u8L (x :: l), 0, false, 0, 1, true⟩)]
theorem apE8_ne {l : List Nat} (h : l ≠ []) : apE8 l = .ref 0 0 0 l.length := by cases l with | nil => exact absurd rfl h | cons _ _ => rfl
theorem apH8_ne {l : List Nat} (h : l ≠ []) : apH8 l = [(0, ⟨u8L l, 0, false, 0, 1, true⟩)] := by cases l with | nil => exact absurd rfl h | cons _ _ => rfl
def nuSt (l : List Nat) (nn : Bool) (p : Nat × List Nat) : St := ⟨[(0, .sl (i64L l) l.length nn), (3, apE8 p.2), (4, .int .i64 ((p.1 : Int) - 1))], apH8 p.2, .dead, []⟩
def nuOut (o : List Nat) : St := ⟨[(3, apE8 o)], apH8 o, .dead, []⟩
theorem u8_app3 (o : List Nat) (a b c : Nat) : u8L o ++ [AV.int .u8 (a : Int), AV.int .u8 (b : Int), AV.int .u8 (c : Int)] = u8L (o ++ [a, b, c]) := by simp [u8L]
theorem p_16' : (2 : Nat) ^ 16 = 65536 := by decide
theorem p_8' : (2 : Nat) ^ 8 = 256 := by decide
theorem nu_loop {nt : Nat} (hn : 35 ≤ nt) (l : List Nat) (nn : Bool) (hl : l.length < 2 ^ 36) (hll : LimQ l) : ∀ (k : Nat) (o : List Nat), k ≤ l.length → o.length + 3 * k = 3 * l.length → LoopR prog ap [] nt (loopBody 0 (bodyOf f64)) (fun _ => .exit 0) (nuSt l nn) nuOut (k, o) (o ++ byL l k) := by
 intro k
 induction k with
 | zero =>
  intro o _ _
  simp only [byL, List.append_nil]
  refine .done ?_
  unfold nuSt nuOut
  rcases Decidable.em (o = []) with rfl | hne
  ·exact numNE_0 hn l [] nn
  ·rw [apE8_ne hne, apH8_ne hne]
   exact numCE_0 hn l o nn
 | succ k ih =>
  intro o hk ho
  have hd := hll.getD k
  have ek : (((k + 1 : Nat) : Int) - 1) = (k : Int) := by omega
  have ew : IntKind.wrap .i64 ((k : Int) - ((1 : Nat) : Int)) = (k : Int) - 1 := w64_id (by omega) (by omega)
  have hnext := ih (o ++ [l.getD k 0 / 65536, l.getD k 0 / 256 % 256, l.getD k 0 % 256]) (by omega) (by simp; omega)
  rw [List.append_assoc] at hnext
  simp only [byL]
  refine .next ?_ hnext
  unfold nuSt
  rw [ek]
  generalize hg : l.getD k 0 = d at *
  have hne' : o ++ [d / 65536, d / 256 % 256, d % 256] ≠ [] := by simp
  rcases Decidable.em (o = []) with rfl | hne
  ·have hb := numN_0 hn l [] k nn
   simp (disch := first | omega | (simp [u32L_length, u8L_length] <;> omega)) only [c_toNat, Nat.mul_one, i64_get, hg, chk_i64, d_le, dec_t, d_lt, lit_t, ew, toInt_int, show min 16 64 = 16 from rfl, c_shr, p_16', w8u, Nat.mod_eq_of_lt, show min 8 64 = 8 from rfl, p_8'] at hb
   simp only [List.nil_append, apE8, apH8, u8L, List.map_cons, List.map_nil, List.length_cons, List.length_nil] at hb ⊢
   apply hb <;> first | exact True.intro | omega | assumption | exact rfl
  ·have hb := numC_0 hn l o k nn
   rw [apE8_ne hne, apH8_ne hne, apE8_ne hne', apH8_ne hne']
   simp (disch := first | omega | (simp [u32L_length, u8L_length] <;> omega)) only [nble_d, dec_t, Nat.mul_one, u8L_length, c_toNat, i64_get, hg, chk_i64, d_le, d_lt, lit_t, ew, take_u8, List.take_length, toInt_int, show min 16 64 = 16 from rfl, c_shr, p_16', w8u, Nat.mod_eq_of_lt, show min 8 64 = 8 from rfl, p_8', u8_app3] at hb
   simp only [List.length_append, List.length_cons, List.length_nil]
   apply hb <;> first | exact True.intro | omega | assumption | exact rfl
theorem number_q (l : List Nat) (nn : Bool) (hl : l.length < 2 ^ 36) (hll : LimQ l) : CO 64 [.sl (i64L l) l.length nn] (.ret (.str (natS (valQ l)))) := by
 have hloop := fun nt (hn : 35 ≤ nt) => nu_loop hn l nn hl hll l.length [] (Nat.le_refl _) (by simp)
 have hv := byL_val hll l.length [] (Nat.le_refl _)
 have hbl : (byL l l.length).length = 3 * l.length := by
  have : ∀ k, (byL l k).length = 3 * k := by
   intro k
   induction k with
   | zero => rfl
   | succ k ih => simp only [byL, List.length_append, List.length_cons, List.length_nil, ih]; omega
  exact this _
 have ew : IntKind.wrap .i64 ((l.length : Int) - ((1 : Nat) : Int)) = (l.length : Int) - 1 := len_pr (by omega)
 simp only [List.nil_append] at hloop hv
 rw [List.take_length, show valS (bS []) = 0 from rfl, Nat.zero_mul, Nat.zero_add] at hv
 generalize byL l l.length = o at *
 rcases Decidable.em (o = []) with rfl | hne
 ·rw [← hv]
  exact numNF_0 l [] nn (LoopR.blk hloop (by simp) rfl (Less.of ⟨rfl, rfl, congrArg _ ew, trivial⟩) (Less.of ⟨rfl, trivial⟩)) (canon_ok [] (by simp))
 ·have h := numCF_0 l o nn
  have hc := canon_ok (bS o) (by simp [bS]; omega)
  rw [hv] at hc
  have htk : List.take o.length (u8L o) = u8L o := by rw [take_u8, List.take_length]
  simp (disch := first | omega | (simp [u32L_length, u8L_length] <;> omega)) only [Nat.mul_one, htk, nbeq_d, dec_t, bS_u8, hv] at h
  apply h <;> first | exact True.intro | omega | assumption | exact rfl | skip
  ·exact u8L_length o
  ·have : List.all (u8L o) (chk (.int .u8)) = true := by
    rw [List.all_eq_true]; intro x hx
    obtain ⟨d, _, rfl⟩ := List.mem_map.1 hx
    rfl
   exact this
  ·exact LoopR.blk hloop (by simp) rfl (Less.of ⟨rfl, rfl, congrArg _ ew, trivial⟩) (by unfold nuOut; rw [apE8_ne hne, apH8_ne hne]; exact Less.of ⟨rfl, trivial⟩)
theorem rof_ok (x : Nat) (hx : x < 9223372036854775808) : CO 39 [.int .i64 (x : Int)] (.ret (.str (natS x))) := by
 rcases Nat.eq_zero_or_pos x with rfl | h0
 ·exact rofF_1 0 rfl (canon_ok [] (by simp))
 ·have h := rofF_0 x
  have e : ∀ k, Int.toNat (IntKind.wrap .u8 (Int.fdiv (x : Int) (2 ^ k))) = x / 2 ^ k % 256 := by
   intro k; rw [c_shr, w8u, c_toNat]
  simp only [show min 56 64 = 56 from rfl, show min 48 64 = 48 from rfl, show min 40 64 = 40 from rfl, show min 32 64 = 32 from rfl, show min 24 64 = 24 from rfl, show min 16 64 = 16 from rfl, show min 8 64 = 8 from rfl, show min 0 64 = 0 from rfl, e] at h
  have hc := canon_ok [UInt8.ofNat (x / 2 ^ 56 % 256), UInt8.ofNat (x / 2 ^ 48 % 256), UInt8.ofNat (x / 2 ^ 40 % 256), UInt8.ofNat (x / 2 ^ 32 % 256), UInt8.ofNat (x / 2 ^ 24 % 256), UInt8.ofNat (x / 2 ^ 16 % 256), UInt8.ofNat (x / 2 ^ 8 % 256), UInt8.ofNat (x / 2 ^ 0 % 256)] (by simp)
  have hv : valS [UInt8.ofNat (x / 2 ^ 56 % 256), UInt8.ofNat (x / 2 ^ 48 % 256), UInt8.ofNat (x / 2 ^ 40 % 256), UInt8.ofNat (x / 2 ^ 32 % 256), UInt8.ofNat (x / 2 ^ 24 % 256), UInt8.ofNat (x / 2 ^ 16 % 256), UInt8.ofNat (x / 2 ^ 8 % 256), UInt8.ofNat (x / 2 ^ 0 % 256)] = x := by
   have t : ∀ y, (UInt8.ofNat (y % 256)).toNat = y % 256 := fun y => toNat_ofNat (Nat.mod_lt _ (by omega))
   simp only [valS, List.foldl_cons, List.foldl_nil, t]
   omega
  rw [hv] at hc h
  apply h
  ·rw [d_lt]; exact decide_eq_true h0
  ·exact hc
def intSt (s : List UInt8) (k : Nat) : St := ⟨[(0, .str s), (4, .int .i64 ((valS (s.take k) : Nat) : Int)), (5, .int .i64 (k : Int))], [], .dead, []⟩
def intOut (s : List UInt8) (k : Nat) : St := ⟨[(4, .int .i64 ((valS (s.take k) : Nat) : Int))], [], .dead, []⟩
theorem valS_take_succ {s : List UInt8} {k : Nat} (h : k < s.length) : valS (s.take (k + 1)) = valS (s.take k) * 256 + (s.getD k 0).toNat := by
 rw [List.take_add_one, List.getElem?_eq_getElem h, List.getD_eq_getElem?_getD, List.getElem?_eq_getElem h]
 exact valS_snoc _ _
theorem valS_take_le (s : List UInt8) (k : Nat) : valS (s.take k) ≤ valS s := by
 rcases Nat.lt_or_ge k s.length with h | h
 ·have e : s = s.take k ++ s.drop k := (List.take_append_drop k s).symm
  have : ∀ (b a : List UInt8), valS a ≤ valS (a ++ b) := by
   intro b
   induction b with
   | nil => intro a; simp
   | cons c r ih =>
    intro a
    have h1 := ih (a ++ [c])
    rw [valS_snoc, List.append_assoc] at h1
    simp only [List.cons_append, List.nil_append] at h1
    omega
  calc valS (s.take k) ≤ valS (s.take k ++ s.drop k) := this _ _
   _ = valS s := by rw [← e]
 ·rw [List.take_of_length_le h]; exact Nat.le_refl _
theorem int_loop {nt : Nat} (hn : 35 ≤ nt) (s : List UInt8) (hs : s.length < 2 ^ 40) (hv : valS s < 9223372036854775808) : ∀ (d k : Nat), k + d = s.length → LoopR prog ap [] nt (loopBody 0 (bodyOf f94)) (fun _ => .exit 0) (intSt s) (intOut s) k s.length := by
 intro d
 induction d with
 | zero =>
  intro k hk
  have hk' : k = s.length := by omega
  subst hk'
  exact .done (rint_1 hn s _ _ (by rw [d_lt]; simp [lit]))
 | succ d ih =>
  intro k hk
  have hks : k < s.length := by omega
  refine .next ?_ (ih (k + 1) (by omega))
  have hb := rint_0 hn s (valS (s.take k)) k
  rw [c_toNat] at hb
  have h1 := valS_take_le s (k + 1)
  have h2 := valS_take_succ hks
  have h3 : (s.getD k 0).toNat < 256 := UInt8.toNat_lt _
  unfold intSt
  rw [h2]
  rw [h2] at h1
  generalize (s.getD k 0).toNat = c at *
  generalize valS (s.take k) = v at *
  have e1 : IntKind.wrap .i64 ((v : Int) * 2 ^ (min 8 64)) = ((v * 256 : Nat) : Int) := by
   rw [show min 8 64 = 8 from rfl, w64_id] <;> omega
  have e2 : (((v * 256 : Nat) : Int)) + (c : Int) = ((v * 256 + c : Nat) : Int) := by omega
  have e3 : IntKind.wrap .i64 (c : Int) = (c : Int) := w64_nat (by omega)
  rw [e3, e1, e2, w64_nat (by omega)] at hb
  simp (disch := first | omega | (simp [u32L_length, u8L_length] <;> omega)) only [d_le, dec_t, d_lt, lit_t, c_add, w64_nat] at hb
  apply hb <;> first | exact True.intro | omega | assumption | exact rfl
theorem natS_len_iff {x k : Nat} : (natS x).length ≤ k ↔ x < 2 ^ (8 * k) := by
 constructor
 ·intro h
  have h1 := valS_lt8 (natS x)
  rw [val_natS] at h1
  exact Nat.lt_of_lt_of_le h1 (Nat.pow_le_pow_right (by omega) (by omega))
 ·exact natS_len
theorem int_ok (s : List UInt8) (hs : s.length < 2 ^ 40) (hv : valS s < 9223372036854775808) : CO 94 [.str s] (.ret (.tup [.int .i64 ((valS s : Nat) : Int), .bool true])) := by
 have hc := canon_ok s hs
 have hvn := val_natS (valS s)
 have hl : (natS (valS s)).length ≤ 8 := natS_len (Nat.lt_of_lt_of_le hv (by decide))
 have hloop := fun nt (hn : 35 ≤ nt) => int_loop hn (natS (valS s)) (by omega) (by rw [hvn]; exact hv) (natS (valS s)).length 0 (by omega)
 have hless : Less ⟨[(4, .int .i64 ((valS s : Nat) : Int))], [], .dead, []⟩ (intOut (natS (valS s)) (natS (valS s)).length) := by
  unfold intOut
  rw [List.take_length, hvn]
  exact Less.refl _
 have h2 := rintF_2 s (valS s)
 have h3 := rintF_3 s (valS s)
 have htop : (natS (valS s)).length = 8 → ((natS (valS s)).getD 0 0).toNat ≤ 127 := by
  intro h8
  cases hn : natS (valS s) with
  | nil => rw [hn] at h8; cases h8
  | cons c r =>
   rw [hn] at h8 hvn
   rw [valS_cons] at hvn
   have : r.length = 7 := by simpa using h8
   rw [this, show 256 ^ 7 = 72057594037927936 from rfl] at hvn
   simp only [List.getD_cons_zero]
   omega
 generalize natS (valS s) = t at *
 by_cases h8 : t.length = 8
 ·have h127 := htop h8
  simp (disch := first | omega | (simp [u32L_length, u8L_length] <;> omega)) only [d_lt, lit_f, not_t, dec_f, h8, dec_t, b_eq, decide_true, lit_t] at h2
  apply h2 <;> first | exact True.intro | omega | assumption | exact rfl | skip
  exact LoopR.blk hloop (by simp) rfl (Less.of ⟨rfl, rfl, rfl, trivial⟩) hless
 ·simp (disch := first | omega | (simp [u32L_length, u8L_length] <;> omega)) only [b_eq, h8, decide_false, lit_f, Bool.not_false, d_lt, not_t, dec_f] at h3
  apply h3 <;> first | exact True.intro | omega | assumption | exact rfl | skip
  exact LoopR.blk hloop (by simp) rfl (Less.of ⟨rfl, rfl, rfl, trivial⟩) hless
theorem small_ok (s : List UInt8) (b : Nat) (hs : s.length < 2 ^ 40) (hb : b ≤ 7) (hv : valS s < 2 ^ (8 * b)) : CO 62 [.str s, .int .i64 (b : Int)] (.ret (.tup [.int .i64 ((valS s : Nat) : Int), .bool true])) := by
 have h := sma_1 s (valS s) b
 have hlt : valS s < 9223372036854775808 := Nat.lt_of_lt_of_le hv (Nat.le_trans (Nat.pow_le_pow_right (by omega) (show 8 * b ≤ 63 by omega)) (by decide))
 have hl := natS_len_iff.2 hv
 simp (disch := first | omega | (simp [u32L_length, u8L_length] <;> omega)) only [d_lt, lit_f, not_t, dec_f] at h
 exact h (by omega) (canon_ok s hs) (int_ok s hs hlt)
theorem small_no (s : List UInt8) (b : Nat) (hs : s.length < 2 ^ 40) (hv : 2 ^ (8 * b) ≤ valS s) : CO 62 [.str s, .int .i64 (b : Int)] (.ret (.tup [.int .i64 0, .bool false])) := by
 have h := sma_0 s 0 b
 have hl : ¬ (natS (valS s)).length ≤ b := fun h => by have := natS_len_iff.1 h; omega
 simp (disch := first | omega | (simp [u32L_length, u8L_length] <;> omega)) only [d_lt, lit_t, dec_t] at h
 exact h (by omega) (canon_ok s hs)
theorem lenN_half {d : Nat} (h : 0 < d) : lenN d = lenN (d / 2) + 1 := by
 rcases Nat.lt_or_ge d 2 with h1 | h1
 ·have : d = 1 := by omega
  subst this; rfl
 ·have := lenN_div (x := d) (k := 1) (by omega)
  rw [Nat.pow_one] at this; omega
def biSt (p : Nat × Nat) : St := ⟨[(3, .int .i64 (p.1 : Int)), (4, .int .i64 (p.2 : Int))], [], .dead, []⟩
def biOut (n : Nat) : St := ⟨[(3, .int .i64 (n : Int))], [], .dead, []⟩
theorem bi_loop {nt : Nat} (hn : 24 ≤ nt) : ∀ (b n d : Nat), d < b → d < 256 → n + lenN d < 2 ^ 45 → LoopR prog ap [] nt (loopBody 0 (bodyOf f70)) (fun _ => .exit 0) biSt biOut (n, d) (n + lenN d) := by
 intro b
 induction b with
 | zero => intro n d h; omega
 | succ b ih =>
  intro n d h hd hn1
  rcases Nat.eq_zero_or_pos d with rfl | h0
  ·exact .done (rbi_1 hn n 0 rfl)
  ·have hh := lenN_half h0
   rw [hh, show n + (lenN (d / 2) + 1) = n + 1 + lenN (d / 2) by omega]
   refine .next ?_ (ih (n + 1) (d / 2) (by omega) (by omega) (by omega))
   have hb := rbi_0 hn n d
   clear ih hh
   simp (disch := first | omega | (simp [u32L_length, u8L_length] <;> omega)) only [d_lt, lit_t, dec_t, c_add, w64_nat, c_tdiv] at hb
   apply hb <;> first | exact True.intro | omega | assumption | exact rfl
theorem rbits_ok (s : List UInt8) (hs : s.length < 2 ^ 40) : CO 70 [.str s] (.ret (.int .i64 ((lenN (valS s) : Nat) : Int))) := by
 have hc := canon_ok s hs
 have hvn := val_natS (valS s)
 have hR := nR_natS (valS s)
 have hlen : (natS (valS s)).length ≤ s.length := natS_le (Nat.le_refl _)
 have h0 := rbiF_0 s 0
 have h1 := rbiF_1 s (lenN (valS s))
 cases hn : natS (valS s) with
 | nil =>
  rw [hn] at h0 hvn hc
  rw [← hvn]
  exact h0 rfl hc
 | cons c r =>
  rw [hn] at h1 hvn hc hR hlen
  have hc0 : c ≠ 0 := by simpa [nR] using hR
  have hcp : 0 < c.toNat := by
   rcases Nat.eq_zero_or_pos c.toNat with h | h
   ·exact absurd (by apply UInt8.toNat_inj.1; simpa using h) hc0
   ·exact h
  have hc256 : c.toNat < 256 := UInt8.toNat_lt c
  have hl : lenN (valS s) = 8 * r.length + lenN c.toNat := by
   have e := lenN_shift (x := c.toNat) (y := valS r) (8 * r.length) hcp (valS_lt8 r)
   rw [← e, ← hvn, valS_cons, Nat.mul_comm, show (256 : Nat) = 2 ^ 8 from rfl, ← Nat.pow_mul]
  have hb8 : lenN c.toNat ≤ 8 := lenN_le (by omega)
  simp only [List.length_cons] at hlen
  have hloop := fun nt (hn : 24 ≤ nt) => bi_loop hn 256 (8 * r.length) c.toNat hc256 hc256 (by omega)
  rw [← hl] at hloop
  simp only [List.length_cons, List.getD_cons_zero] at h1
  have e1 : r.length + 1 - 1 = r.length := rfl
  have e2 : (((r.length + 1 : Nat) : Int)) - ((1 : Nat) : Int) = (r.length : Int) := by omega
  have e3 : IntKind.wrap .i64 (r.length : Int) = (r.length : Int) := w64_nat (by omega)
  have e4 : IntKind.wrap .i64 (((8 : Nat) : Int) * (r.length : Int)) = ((8 * r.length : Nat) : Int) := by rw [w64_id] <;> omega
  have e5 : IntKind.wrap .i64 (c.toNat : Int) = (c.toNat : Int) := w64_nat (by omega)
  rw [e2, e3, e4, e5] at h1
  refine h1 (by rw [d_lt]; exact decide_eq_true (by omega)) (by rw [b_eq]; simp [lit]) hc ?_
  exact LoopR.blk hloop (by simp) rfl (Less.of ⟨rfl, rfl, trivial⟩) (Less.of ⟨rfl, trivial⟩)
theorem rnR_ok (s : List UInt8) : CO 102 [.str s] (.ret (.bool (nR s))) := by
 cases s with
 | nil => exact rri_0 [] rfl
 | cons c r =>
  have h := rri_1 (c :: r)
  have e : (!((((c :: r).getD 0 0).toNat : Int) == ((0 : Nat) : Int))) = nR (c :: r) := by
   simp only [List.getD_cons_zero, nR]
   by_cases hc : c = 0
   ·subst hc; rfl
   ·have : c.toNat ≠ 0 := fun h => hc (by apply UInt8.toNat_inj.1; simpa using h)
    have h1 : ((c.toNat : Int) == ((0 : Nat) : Int)) = false := by simp; omega
    rw [h1]; simp [hc]
  rw [e] at h
  apply h
  ·simp
  ·simp [lit]; omega
theorem bytesLt_val : ∀ (a b : List UInt8), a.length = b.length → bytesLt a b = decide (valS a < valS b)
 | [], [], _ => rfl
 | [], _ :: _, h => by simp at h
 | _ :: _, [], h => by simp at h
 | x :: a, y :: b, h => by
  have hl : a.length = b.length := by simpa using h
  have ih := bytesLt_val a b hl
  have h1 := valS_lt8 a
  have h2 := valS_lt8 b
  simp only [bytesLt, ih]
  rw [valS_cons, valS_cons, hl, show (256 : Nat) = 2 ^ 8 from rfl, ← Nat.pow_mul]
  rw [hl] at h1
  have hxy : decide (x < y) = decide (x.toNat < y.toNat) := by simp [UInt8.lt_iff_toNat_lt]
  have hxe : (x == y) = decide (x.toNat = y.toNat) := by
   by_cases h : x = y
   ·subst h; simp
   ·have : x.toNat ≠ y.toNat := fun h' => h (UInt8.toNat_inj.1 h')
    simp [h, this]
  rw [hxy, hxe]
  generalize 2 ^ (8 * b.length) = M at *
  generalize valS a = u at *
  generalize valS b = v at *
  generalize x.toNat = p at *
  generalize y.toNat = q at *
  rcases Nat.lt_trichotomy p q with h3 | h3 | h3
  ·have h4 : (p + 1) * M ≤ q * M := Nat.mul_le_mul_right _ h3
   rw [Nat.add_mul, Nat.one_mul] at h4
   rw [decide_eq_true h3, decide_eq_true (show p * M + u < q * M + v by omega)]; rfl
  ·subst h3
   rw [decide_eq_false (Nat.lt_irrefl _), decide_eq_true rfl]
   simp
  ·have h4 : (q + 1) * M ≤ p * M := Nat.mul_le_mul_right _ h3
   rw [Nat.add_mul, Nat.one_mul] at h4
   rw [decide_eq_false (show ¬ p < q by omega), decide_eq_false (show ¬ p = q by omega), decide_eq_false (show ¬ p * M + u < q * M + v by omega)]; rfl
theorem natS_len_lt {x y : Nat} (h : (natS x).length < (natS y).length) : x < y := by
 rcases Nat.lt_or_ge x y with h1 | h1
 ·exact h1
 ·have h2 : y ≤ valS (natS x) := by rw [val_natS]; exact h1
  have := natS_le h2
  omega
theorem rcmp_s (s t : List UInt8) (hs : s.length < 2 ^ 40) (ht : t.length < 2 ^ 40) : CO 103 [.str s, .str t] (.ret (.int .i64 (sgn (valS s) (valS t)))) := by
 have c1 := canon_ok s hs
 have c2 := canon_ok t ht
 have hx := val_natS (valS s)
 have hy := val_natS (valS t)
 unfold sgn
 by_cases hl : (natS (valS s)).length = (natS (valS t)).length
 ·have hb := bytesLt_val _ _ hl
  rw [hx, hy] at hb
  have he : (natS (valS s) == natS (valS t)) = decide (valS s = valS t) := by
   by_cases h : valS s = valS t
   ·rw [h]; simp
   ·have : natS (valS s) ≠ natS (valS t) := fun h' => h (natS_inj h')
    simp [h, this]
  have hq : lit false (!((((natS (valS s)).length : Nat) : Int) == (((natS (valS t)).length : Nat) : Int))) = true := by rw [hl]; simp [lit]
  by_cases h1 : valS s < valS t
  ·rw [if_pos h1]
   exact rcmpS_2 s t (by rw [hb, decide_eq_true h1]; rfl) hq c1 c2
  ·rw [if_neg h1]
   by_cases h2 : valS t < valS s
   ·rw [if_pos h2]
    exact rcmpS_3 s t (by rw [hb, he, decide_eq_false h1, decide_eq_false (show ¬ valS s = valS t by omega)]; rfl) (by rw [hb, decide_eq_false h1]; rfl) hq c1 c2
   ·rw [if_neg h2]
    exact rcmpS_4 s t (by rw [hb, he, decide_eq_false h1, decide_eq_true (show valS s = valS t by omega)]; rfl) (by rw [hb, decide_eq_false h1]; rfl) hq c1 c2
 ·have hq : lit true (!((((natS (valS s)).length : Nat) : Int) == (((natS (valS t)).length : Nat) : Int))) = true := by rw [b_eq, decide_eq_false hl]; rfl
  by_cases h1 : (natS (valS s)).length < (natS (valS t)).length
  ·rw [if_pos (natS_len_lt h1)]
   exact rcmpS_0 s t (by rw [d_lt, decide_eq_true h1]; rfl) hq c1 c2
  ·have h2 := natS_len_lt (show (natS (valS t)).length < (natS (valS s)).length by omega)
   rw [if_neg (by omega), if_pos h2]
   exact rcmpS_1 s t (by rw [d_lt, decide_eq_false h1]; rfl) hq c1 c2
theorem oiN_0 {nt : Nat} (hn : 35 ≤ nt) (s : List UInt8) (o : List Nat) (e d k : Nat) (h0 : (decide (((0 : Nat) : Int) ≤ (k : Int))) = true) (h1 : (decide ((k : Int) < (((List.length s) : Nat) : Int))) = true) (h2 : lit true (decide ((k : Int) < (e : Int))) = true)  : ExecOk prog ap [] nt (loopBody 2 (bodyOf f63)) ⟨[(0, .str s), (3, .nilS), (4, .int .i64 (e : Int)), (5, .int .i64 (d : Int)), (6, .int .i64 (k : Int))], [], .dead, []⟩ (.normal) ⟨[(0, .str s), (3, .nilS), (4, .int .i64 (e : Int)), (5, .int .i64 (IntKind.wrap .i64 ((IntKind.wrap .i64 ((d : Int) * ((256 : Nat) : Int))) + (IntKind.wrap .i64 ((UInt8.toNat (List.getD s (Int.toNat (k : Int)) 0) : Nat) : Int))))), (6, .int .i64 (IntKind.wrap .i64 ((k : Int) + ((1 : Nat) : Int))))], [], .dead, []⟩ := pJ 63 [] 1 1 (.c h0 (.c h1 (.c h2 .nil))) (.nil) hn
theorem oiN_1 {nt : Nat} (hn : 35 ≤ nt) (s : List UInt8) (o : List Nat) (e d k : Nat) (h0 : lit false (decide ((k : Int) < (e : Int))) = true)  : ExecOk prog ap [] nt (loopBody 2 (bodyOf f63)) ⟨[(0, .str s), (3, .nilS), (4, .int .i64 (e : Int)), (5, .int .i64 (d : Int)), (6, .int .i64 (k : Int))], [], .dead, []⟩ (.exit 2) ⟨[(0, .str s), (3, .nilS), (4, .int .i64 (e : Int)), (5, .int .i64 (d : Int))], [], .dead, []⟩ := pJ 63 [] 1 0 (.c h0 .nil) (.nil) hn
theorem oiC_0 {nt : Nat} (hn : 35 ≤ nt) (s : List UInt8) (o : List Nat) (e d k : Nat) (h0 : (decide (((0 : Nat) : Int) ≤ (k : Int))) = true) (h1 : (decide ((k : Int) < (((List.length s) : Nat) : Int))) = true) (h2 : lit true (decide ((k : Int) < (e : Int))) = true)  : ExecOk prog ap [] nt (loopBody 2 (bodyOf f63)) ⟨[(0, .str s), (3, .ref 0 0 0 o.length), (4, .int .i64 (e : Int)), (5, .int .i64 (d : Int)), (6, .int .i64 (k : Int))], [(0, ⟨(i64L o), 0, false, 0, 1, true⟩)], .dead, []⟩ (.normal) ⟨[(0, .str s), (3, .ref 0 0 0 o.length), (4, .int .i64 (e : Int)), (5, .int .i64 (IntKind.wrap .i64 ((IntKind.wrap .i64 ((d : Int) * ((256 : Nat) : Int))) + (IntKind.wrap .i64 ((UInt8.toNat (List.getD s (Int.toNat (k : Int)) 0) : Nat) : Int))))), (6, .int .i64 (IntKind.wrap .i64 ((k : Int) + ((1 : Nat) : Int))))], [(0, ⟨(i64L o), 0, false, 0, 1, true⟩)], .dead, []⟩ := pJ 63 [] 1 1 (.c h0 (.c h1 (.c h2 .nil))) (.nil) hn
theorem oiC_1 {nt : Nat} (hn : 35 ≤ nt) (s : List UInt8) (o : List Nat) (e d k : Nat) (h0 : lit false (decide ((k : Int) < (e : Int))) = true)  : ExecOk prog ap [] nt (loopBody 2 (bodyOf f63)) ⟨[(0, .str s), (3, .ref 0 0 0 o.length), (4, .int .i64 (e : Int)), (5, .int .i64 (d : Int)), (6, .int .i64 (k : Int))], [(0, ⟨(i64L o), 0, false, 0, 1, true⟩)], .dead, []⟩ (.exit 2) ⟨[(0, .str s), (3, .ref 0 0 0 o.length), (4, .int .i64 (e : Int)), (5, .int .i64 (d : Int))], [(0, ⟨(i64L o), 0, false, 0, 1, true⟩)], .dead, []⟩ := pJ 63 [] 1 0 (.c h0 .nil) (.nil) hn
theorem ofN_0 {nt : Nat} (hn : 35 ≤ nt) (s : List UInt8) (o : List Nat) (z : Int) (d : Nat) (h0 : lit true (decide (((0 : Nat) : Int) < z)) = true) (l0 : LoopOk prog ap [] 35 (.block 2 (.loop (loopBody 2 (bodyOf f63)))) ⟨[(0, .str s), (2, .dead), (3, .nilS), (4, .int .i64 z), (5, .int .i64 0), (6, .int .i64 (if ((0 : Nat) : Int) > (IntKind.wrap .i64 (z - ((3 : Nat) : Int))) then ((0 : Nat) : Int) else (IntKind.wrap .i64 (z - ((3 : Nat) : Int))))), (12, .bool (decide (((0 : Nat) : Int) < z))), (20, .dead)], [], .dead, []⟩ (.normal) ⟨[(0, .str s), (4, .int .i64 z), (5, .int .i64 (d : Int)), (3, .nilS)], [], .dead, []⟩) : ExecOk prog ap [] nt (loopBody 0 (bodyOf f63)) ⟨[(0, .str s), (3, .nilS), (4, .int .i64 z)], [], .dead, []⟩ (.normal) ⟨[(0, .str s), (3, .ref 0 0 0 1), (4, .int .i64 (IntKind.wrap .i64 (z - ((3 : Nat) : Int))))], [(0, ⟨[.int .i64 (d : Int)], 0, false, 0, 1, true⟩)], .dead, []⟩ := pJ 63 [2] 2 1 (.k 3 h0 .nil) (.l l0 .nil) hn
theorem ofN_1 {nt : Nat} (hn : 35 ≤ nt) (s : List UInt8) (o : List Nat) (z : Int) (d : Nat) (h0 : lit false (decide (((0 : Nat) : Int) < z)) = true)  : ExecOk prog ap [] nt (loopBody 0 (bodyOf f63)) ⟨[(0, .str s), (3, .nilS), (4, .int .i64 z)], [], .dead, []⟩ (.exit 0) ⟨[(3, .nilS)], [], .dead, []⟩ := pJ 63 [2] 1 0 (.c h0 .nil) (.nil) hn
theorem ofNF_0 (s : List UInt8) (o : List Nat)  (c0 : CO 61 [.str s] (.ret (.str (natS (valS s))))) (l0 : LoopOk prog ap [] 35 (.block 0 (.loop (loopBody 0 (bodyOf f63)))) ⟨[(0, .str (natS (valS s))), (2, .nilS), (3, .nilS), (4, .int .i64 (((List.length (natS (valS s))) : Nat) : Int)), (5, .dead), (6, .dead), (12, .dead), (20, .dead)], [], .dead, []⟩ (.normal) ⟨[(3, .nilS)], [], .dead, []⟩) : CO 63 [.str s] (.ret (.nilS)) := pK [0] 0 0 .nil (.l l0 (.c c0 .nil))
theorem ofC_0 {nt : Nat} (hn : 35 ≤ nt) (s : List UInt8) (o : List Nat) (z : Int) (d : Nat) (h0 : (Nat.ble (o.length + 1) 1099511627776) = true) (h1 : (Nat.ble (o.length * 1) (List.length (i64L o))) = true) (h2 : lit true (decide (((0 : Nat) : Int) < z)) = true) (l0 : LoopOk prog ap [] 35 (.block 2 (.loop (loopBody 2 (bodyOf f63)))) ⟨[(0, .str s), (2, .dead), (3, .ref 0 0 0 o.length), (4, .int .i64 z), (5, .int .i64 0), (6, .int .i64 (if ((0 : Nat) : Int) > (IntKind.wrap .i64 (z - ((3 : Nat) : Int))) then ((0 : Nat) : Int) else (IntKind.wrap .i64 (z - ((3 : Nat) : Int))))), (12, .bool (decide (((0 : Nat) : Int) < z))), (20, .dead)], [(0, ⟨(i64L o), 0, false, 0, 1, true⟩)], .dead, []⟩ (.normal) ⟨[(0, .str s), (4, .int .i64 z), (5, .int .i64 (d : Int)), (3, .ref 0 0 0 o.length)], [(0, ⟨(i64L o), 0, false, 0, 1, true⟩)], .dead, []⟩) : ExecOk prog ap [] nt (loopBody 0 (bodyOf f63)) ⟨[(0, .str s), (3, .ref 0 0 0 o.length), (4, .int .i64 z)], [(0, ⟨(i64L o), 0, false, 0, 1, true⟩)], .dead, []⟩ (.normal) ⟨[(0, .str s), (3, .ref 0 0 0 (o.length + 1)), (4, .int .i64 (IntKind.wrap .i64 (z - ((3 : Nat) : Int))))], [(0, ⟨((List.take (o.length * 1) (i64L o)) ++ [.int .i64 (d : Int)]), 0, false, 0, 1, true⟩)], .dead, []⟩ := pJ 63 [2] 1 1 (.k 1 h0 (.c h1 (.k 1 h2 .nil))) (.l l0 .nil) hn
theorem ofC_1 {nt : Nat} (hn : 35 ≤ nt) (s : List UInt8) (o : List Nat) (z : Int) (d : Nat) (h0 : lit false (decide (((0 : Nat) : Int) < z)) = true)  : ExecOk prog ap [] nt (loopBody 0 (bodyOf f63)) ⟨[(0, .str s), (3, .ref 0 0 0 o.length), (4, .int .i64 z)], [(0, ⟨(i64L o), 0, false, 0, 1, true⟩)], .dead, []⟩ (.exit 0) ⟨[(3, .ref 0 0 0 o.length)], [(0, ⟨(i64L o), 0, false, 0, 1, true⟩)], .dead, []⟩ := pJ 63 [2] 1 0 (.c h0 .nil) (.nil) hn
theorem ofCF_0 (s : List UInt8) (o : List Nat)  (c0 : CO 61 [.str s] (.ret (.str (natS (valS s))))) (l0 : LoopOk prog ap [] 35 (.block 0 (.loop (loopBody 0 (bodyOf f63)))) ⟨[(0, .str (natS (valS s))), (2, .nilS), (3, .nilS), (4, .int .i64 (((List.length (natS (valS s))) : Nat) : Int)), (5, .dead), (6, .dead), (12, .dead), (20, .dead)], [], .dead, []⟩ (.normal) ⟨[(3, .ref 0 0 0 o.length)], [(0, ⟨(i64L o), 0, false, 0, 1, true⟩)], .dead, []⟩) : CO 63 [.str s] (.ret (.own (List.take (o.length * 1) (i64L o)) o.length 1)) := pK [0] 0 0 .nil (.l l0 (.c c0 .nil))
def oiSt (s : List UInt8) (o : List Nat) (e j k : Nat) : St := ⟨[(0, .str s), (3, apE o), (4, .int .i64 (e : Int)), (5, .int .i64 ((valS ((s.take k).drop j) : Nat) : Int)), (6, .int .i64 (k : Int))], apH o, .dead, []⟩
def oiOut (s : List UInt8) (o : List Nat) (e d : Nat) : St := ⟨[(0, .str s), (3, apE o), (4, .int .i64 (e : Int)), (5, .int .i64 (d : Int))], apH o, .dead, []⟩
theorem part_succ {s : List UInt8} {j k : Nat} (h : k < s.length) (hj : j ≤ k) : valS ((s.take (k + 1)).drop j) = valS ((s.take k).drop j) * 256 + (s.getD k 0).toNat := by
 rw [List.take_add_one, List.getElem?_eq_getElem h, List.drop_append_of_le_length (by simp; omega), List.getD_eq_getElem?_getD, List.getElem?_eq_getElem h]
 exact valS_snoc _ _
theorem part_lt {s : List UInt8} {j k : Nat} (h : k ≤ j + 3) : valS ((s.take k).drop j) < 16777216 := by
 have h1 := valS_lt8 ((s.take k).drop j)
 have h2 : ((s.take k).drop j).length ≤ 3 := by simp; omega
 exact Nat.lt_of_lt_of_le h1 (Nat.le_trans (Nat.pow_le_pow_right (by omega) (show 8 * ((s.take k).drop j).length ≤ 24 by omega)) (by decide))
theorem oi_loop {nt : Nat} (hn : 35 ≤ nt) (s : List UInt8) (o : List Nat) (e j : Nat) (hs : s.length < 2 ^ 40) (he : e ≤ s.length) (hj : e ≤ j + 3) : ∀ (n k : Nat), k + n = e → j ≤ k → LoopR prog ap [] nt (loopBody 2 (bodyOf f63)) (fun _ => .exit 2) (oiSt s o e j) (oiOut s o e) k (valS ((s.take e).drop j)) := by
 intro n
 induction n with
 | zero =>
  intro k hk hjk
  have hke : k = e := by omega
  subst hke
  refine .done ?_
  unfold oiSt oiOut
  rcases Decidable.em (o = []) with rfl | hne
  ·exact oiN_1 hn s [] k _ k (by rw [d_lt]; simp [lit])
  ·rw [apE_ne hne, apH_ne hne]
   exact oiC_1 hn s o k _ k (by rw [d_lt]; simp [lit])
 | succ n ih =>
  intro k hk hjk
  refine .next ?_ (ih (k + 1) (by omega) (by omega))
  have hks : k < s.length := by omega
  have h1 := part_lt (s := s) (j := j) (k := k) (by omega)
  have h3 : (s.getD k 0).toNat < 256 := UInt8.toNat_lt _
  have h2 := part_succ hks hjk
  unfold oiSt
  rw [h2]
  generalize hc : (s.getD k 0).toNat = c at *
  generalize valS ((s.take k).drop j) = d at *
  clear ih h2
  have e1 : IntKind.wrap .i64 ((d : Int) * ((256 : Nat) : Int)) = ((d * 256 : Nat) : Int) := by rw [w64_id] <;> omega
  have e4 : (((d * 256 : Nat) : Int)) + (c : Int) = ((d * 256 + c : Nat) : Int) := by omega
  rcases Decidable.em (o = []) with rfl | hne
  ·have hb := oiN_0 hn s [] e d k
   simp (disch := first | omega | (simp [u32L_length, u8L_length] <;> omega)) only [d_le, dec_t, d_lt, lit_t, c_mul, w64_nat, c_toNat, hc, e4, c_add] at hb
   apply hb <;> first | exact True.intro | omega | assumption | exact rfl
  ·have hb := oiC_0 hn s o e d k
   rw [apE_ne hne, apH_ne hne]
   simp (disch := first | omega | (simp [u32L_length, u8L_length] <;> omega)) only [d_le, dec_t, d_lt, lit_t, c_mul, w64_nat, c_toNat, hc, e4, c_add] at hb
   apply hb <;> first | exact True.intro | omega | assumption | exact rfl
def oqSt (s : List UInt8) (p : Int × List Nat) : St := ⟨[(0, .str s), (3, apE p.2), (4, .int .i64 p.1)], apH p.2, .dead, []⟩
def oqOut (o : List Nat) : St := ⟨[(3, apE o)], apH o, .dead, []⟩
theorem of_step {nt : Nat} (hn : 35 ≤ nt) (s : List UInt8) (o : List Nat) (e : Nat) (hs : s.length < 2 ^ 38) (he : e ≤ s.length) (h0 : 0 < e) (ho : o.length < 2 ^ 39) :
  ExecOk prog ap [] nt (loopBody 0 (bodyOf f63)) (oqSt s ((e : Int), o)) .normal (oqSt s ((e : Int) - 3, o ++ [valS ((s.take e).drop (e - 3))])) := by
 have hloop := fun nt (hn : 35 ≤ nt) => oi_loop hn s o e (e - 3) (by omega) he (by omega) (e - (e - 3)) (e - 3) (by omega) (Nat.le_refl _)
 have hw : IntKind.wrap .i64 ((e : Int) - ((3 : Nat) : Int)) = (e : Int) - 3 := w64_id (by omega) (by omega)
 have hj : (if ((0 : Nat) : Int) > (e : Int) - 3 then ((0 : Nat) : Int) else (e : Int) - 3) = ((e - 3 : Nat) : Int) := by
  split <;> omega
 have hd0 : valS ((s.take (e - 3)).drop (e - 3)) = 0 := by
  rw [List.drop_of_length_le (by simp; omega)]; rfl
 have hdl : (List.drop (e - 3) (List.take e s)).length ≤ 3 := by simp; omega
 unfold oqSt
 generalize valS ((s.take e).drop (e - 3)) = d at *
 rcases Decidable.em (o = []) with rfl | hne
 ·have hb := ofN_0 hn s [] (e : Int) d
  rw [hw, hj] at hb
  simp (disch := first | omega | (simp [u32L_length, u8L_length] <;> omega)) only [d_lt, lit_t, dec_t] at hb
  simp only [List.nil_append, apE, apH, i64L, List.map_cons, List.map_nil, List.length_cons, List.length_nil] at hb ⊢
  apply hb
  ·omega
  ·refine LoopR.blk hloop (by simp) rfl ?_ (Less.of ⟨rfl, rfl, rfl, rfl, trivial⟩)
   unfold oiSt
   rw [hd0]
   exact Less.of ⟨rfl, rfl, rfl, rfl, rfl, trivial⟩
 ·have hb := ofC_0 hn s o (e : Int) d
  rw [hw, hj] at hb
  rw [apE_ne hne, apH_ne hne, apE_ne (snoc_ne _ _), apH_ne (snoc_ne _ _)]
  simp (disch := first | omega | (simp [u32L_length, u8L_length] <;> omega)) only [nble_d, dec_t, Nat.mul_one, i64L_length, d_lt, lit_t, take_i64, List.take_length, i64_snoc] at hb
  simp only [List.length_append, List.length_singleton]
  apply hb <;> first | exact True.intro | omega | assumption | exact rfl | skip
  ·refine LoopR.blk hloop (by simp) rfl ?_ ?_
   ·unfold oiSt
    rw [hd0, apE_ne hne, apH_ne hne]
    exact Less.of ⟨rfl, rfl, rfl, rfl, rfl, trivial⟩
   ·unfold oiOut
    rw [apE_ne hne, apH_ne hne]
    exact Less.of ⟨rfl, rfl, rfl, rfl, trivial⟩
theorem of_end {nt : Nat} (hn : 35 ≤ nt) (s : List UInt8) (o : List Nat) (z : Int) (hz : z ≤ 0) : ExecOk prog ap [] nt (loopBody 0 (bodyOf f63)) (oqSt s (z, o)) (.exit 0) (oqOut o) := by
 unfold oqSt oqOut
 have hc : lit false (decide (((0 : Nat) : Int) < z)) = true := by simp [lit]; exact hz
 rcases Decidable.em (o = []) with rfl | hne
 ·exact ofN_1 hn s [] z 0 hc
 ·rw [apE_ne hne, apH_ne hne]
  exact ofC_1 hn s o z 0 hc
theorem chunk {s : List UInt8} {e : Nat} (he : e ≤ s.length) : valS (s.take e) = 16777216 * valS (s.take (e - 3)) + valS ((s.take e).drop (e - 3)) := by
 have happ : ∀ (b a : List UInt8), valS (a ++ b) = valS a * 256 ^ b.length + valS b := by
  intro b a
  unfold valS
  rw [List.foldl_append, foldl_val]; rfl
 have hs : s.take e = s.take (e - 3) ++ (s.take e).drop (e - 3) := by
  have h1 := List.take_append_drop (e - 3) (s.take e)
  rw [List.take_take, Nat.min_eq_left (by omega)] at h1
  exact h1.symm
 have h2 := happ ((s.take e).drop (e - 3)) (s.take (e - 3))
 rw [← hs] at h2
 rw [h2]
 rcases Nat.lt_or_ge e 3 with h3 | h3
 ·have : e - 3 = 0 := by omega
  rw [this]; simp [valS]
 ·have : ((s.take e).drop (e - 3)).length = 3 := by simp; omega
  rw [this, Nat.mul_comm, show 256 ^ 3 = 16777216 from rfl]
theorem of_loopQ {nt : Nat} (hn : 35 ≤ nt) (s : List UInt8) (hs : s.length < 2 ^ 38) (hR : nR s = true) : ∀ (n e : Nat) (o : List Nat), e < n → e ≤ s.length → o.length + e < 2 ^ 39 → LoopR prog ap [] nt (loopBody 0 (bodyOf f63)) (fun _ => .exit 0) (oqSt s) oqOut ((e : Int), o) (o ++ digQ (valS (s.take e))) := by
 intro n
 induction n with
 | zero => intro e o h; omega
 | succ n ih =>
  intro e o h he ho
  rcases Nat.eq_zero_or_pos e with rfl | h0
  ·have : valS (s.take 0) = 0 := rfl
   rw [this, digQ_zero, List.append_nil]
   exact .done (of_end hn s o _ (by omega))
  ·have hv : 0 < valS (s.take e) := by
    cases s with
    | nil => simp at he; omega
    | cons c r =>
     have hc : c ≠ 0 := by simpa [nR] using hR
     have hcp : 0 < c.toNat := by
      rcases Nat.eq_zero_or_pos c.toNat with h | h
      ·exact absurd (by apply UInt8.toNat_inj.1; simpa using h) hc
      ·exact h
     obtain ⟨e', rfl⟩ : ∃ e', e = e' + 1 := ⟨e - 1, by omega⟩
     rw [List.take_succ_cons, valS_cons]
     have := Nat.mul_pos hcp (show 0 < 256 ^ (r.take e').length from Nat.pow_pos (by omega))
     omega
   have hch := chunk he
   have hd := part_lt (s := s) (j := e - 3) (k := e) (by omega)
   have hstep := of_step hn s o e hs he h0 (by omega)
   rw [digQ_pos hv, show valS (s.take e) % 16777216 = valS ((s.take e).drop (e - 3)) by omega, show valS (s.take e) / 16777216 = valS (s.take (e - 3)) by omega]
   rcases Nat.lt_or_ge e 3 with h3 | h3
   ·have e3 : e - 3 = 0 := by omega
    have hz : valS (s.take (e - 3)) = 0 := by rw [e3]; rfl
    rw [hz, digQ_zero]
    exact .next hstep (.done (of_end hn s _ _ (by omega)))
   ·have hnext := ih (e - 3) (o ++ [valS ((s.take e).drop (e - 3))]) (by omega) (by omega) (by simp; omega)
    rw [List.append_assoc] at hnext
    rw [show ((e : Int) - 3) = ((e - 3 : Nat) : Int) by omega] at hstep
    exact .next hstep hnext
theorem rof_q (s : List UInt8) (hs : s.length < 2 ^ 37) : CO 63 [.str s] (.ret (.sl (i64L (digQ (valS s))) (digQ (valS s)).length false)) := by
 have hc := canon_ok s (by omega)
 have hlen : (natS (valS s)).length ≤ s.length := natS_le (Nat.le_refl _)
 have hvn := val_natS (valS s)
 have hloop := fun nt (hn : 35 ≤ nt) => of_loopQ hn (natS (valS s)) (by omega) (nR_natS _) ((natS (valS s)).length + 1) (natS (valS s)).length [] (by omega) (Nat.le_refl _) (by simp; omega)
 rw [List.take_length, hvn, List.nil_append] at hloop
 generalize hd : digQ (valS s) = o at *
 rcases Decidable.em (o = []) with rfl | hne
 ·have h := ofNF_0 s [] hc (LoopR.blk hloop (by simp) rfl (Less.of ⟨rfl, rfl, rfl, trivial⟩) (Less.of ⟨rfl, trivial⟩))
  exact h.out (OutLe.ret rfl rfl (Fits.nilS false rfl))
 ·have h := (ofCF_0 s o hc (LoopR.blk hloop (by simp) rfl (Less.of ⟨rfl, rfl, rfl, trivial⟩) (by unfold oqOut; rw [apE_ne hne, apH_ne hne]; exact Less.of ⟨rfl, trivial⟩))).thaw (by simp)
  simp only [thawO, thaw, Nat.mul_one, take_i64, List.take_length] at h
  exact h.out (OutLe.sl1 _ _ _)
theorem qS_1 (s t : List UInt8) (x y q r : Nat) (h0 : (!((y : Int) == ((0 : Nat) : Int))) = true) (h1 : lit false ((((List.length (natS (valS t))) : Nat) : Int) == ((0 : Nat) : Int)) = true) (c0 : CO 61 [.str t] (.ret (.str (natS (valS t))))) (c1 : CO 62 [.str s, .int .i64 7] (.ret (.tup [.int .i64 (x : Int), .bool true]))) (c2 : CO 62 [.str (natS (valS t)), .int .i64 7] (.ret (.tup [.int .i64 (y : Int), .bool true]))) (c3 : CO 39 [.int .i64 (IntKind.wrap .i64 (Int.tdiv (x : Int) (y : Int)))] (.ret (.str (natS q)))) (c4 : CO 39 [.int .i64 (Int.tmod (x : Int) (y : Int))] (.ret (.str (natS r)))) : CO 105 [.str s, .str t] (.ret (.tup [.str (natS q), .str (natS r), .bool true])) := pK [0] 3 6 (.c h0 (.c h0 (.k 2 h1 .nil))) (.c c4 (.c c3 (.c c2 (.c c1 (.c c0 .nil)))))
theorem qA_1 (s t : List UInt8) (x y q r m : Nat) (Q : List Nat) (zy : Int) (b2 : Bool) (h0 : (decide (((0 : Nat) : Int) ≤ (((digQ (valS s)).length : Nat) : Int))) = true) (h1 : (decide ((((digQ (valS s)).length : Nat) : Int) = (((digQ (valS s)).length : Nat) : Int))) = true) (h2 : (decide ((((digQ (valS s)).length : Nat) : Int) ≤ ((1099511627776 : Nat) : Int))) = true) (h3 : lit false ((((List.length (natS (valS t))) : Nat) : Int) == ((0 : Nat) : Int)) = true) (c0 : CO 61 [.str t] (.ret (.str (natS (valS t))))) (c1 : CO 62 [.str s, .int .i64 7] (.ret (.tup [.int .i64 0, .bool false]))) (c2 : CO 62 [.str (natS (valS t)), .int .i64 7] (.ret (.tup [.int .i64 zy, .bool b2]))) (c3 : CO 63 [.str s] (.ret (.sl (i64L (digQ (valS s))) (digQ (valS s)).length false))) (c4 : CO 63 [.str (natS (valS t))] (.ret (.sl (i64L (digQ (valS (natS (valS t))))) (digQ (valS (natS (valS t)))).length false))) (l0 : LoopOk prog ap [] 87 (.block 0 (.loop (loopBody 0 (bodyOf f105)))) ⟨[(0, .str s), (1, .str (natS (valS t))), (4, .str []), (5, .str []), (6, .bool false), (7, .int .i64 0), (8, .bool false), (9, .int .i64 zy), (10, .bool b2), (11, .sl (i64L (digQ (valS s))) (digQ (valS s)).length false), (12, .sl (i64L (digQ (valS (natS (valS t))))) (digQ (valS (natS (valS t)))).length false), (13, .ref 0 0 0 (Int.toNat (((digQ (valS s)).length : Nat) : Int))), (14, .nilS), (15, .int .i64 (IntKind.wrap .i64 ((((digQ (valS s)).length : Nat) : Int) - ((1 : Nat) : Int)))), (20, .bool ((((List.length (natS (valS t))) : Nat) : Int) == ((0 : Nat) : Int))), (34, .bool false), (54, .dead), (68, .dead)], [(0, ⟨(repL (Int.toNat (((digQ (valS s)).length : Nat) : Int)) [.int .i64 0]), 0, false, 0, 1, true⟩)], .dead, []⟩ (.normal) ⟨[(13, .ref 0 0 0 m), (14, .sl (i64L (digQ r)) (digQ r).length false)], [(0, ⟨(i64L Q), 0, false, 0, 1, true⟩)], .dead, []⟩) (c5 : CO 64 [.sl (List.take (m * 1) (i64L Q)) m true] (.ret (.str (natS q)))) (c6 : CO 64 [.sl (i64L (digQ r)) (digQ r).length false] (.ret (.str (natS r)))) : CO 105 [.str s, .str t] (.ret (.tup [.str (natS q), .str (natS r), .bool true])) := pK [0] 3 0 (.c h0 (.c h1 (.c h2 (.k 2 h3 .nil)))) (.c c6 (.c c5 (.l l0 (.c c4 (.c c3 (.c c2 (.c c1 (.c c0 .nil))))))))
theorem qB_1 (s t : List UInt8) (x y q r m : Nat) (Q : List Nat) (zy : Int) (b2 : Bool) (h0 : (decide (((0 : Nat) : Int) ≤ (((digQ (valS s)).length : Nat) : Int))) = true) (h1 : (decide ((((digQ (valS s)).length : Nat) : Int) = (((digQ (valS s)).length : Nat) : Int))) = true) (h2 : (decide ((((digQ (valS s)).length : Nat) : Int) ≤ ((1099511627776 : Nat) : Int))) = true) (h3 : lit false ((((List.length (natS (valS t))) : Nat) : Int) == ((0 : Nat) : Int)) = true) (c0 : CO 61 [.str t] (.ret (.str (natS (valS t))))) (c1 : CO 62 [.str s, .int .i64 7] (.ret (.tup [.int .i64 (x : Int), .bool true]))) (c2 : CO 62 [.str (natS (valS t)), .int .i64 7] (.ret (.tup [.int .i64 0, .bool false]))) (c3 : CO 63 [.str s] (.ret (.sl (i64L (digQ (valS s))) (digQ (valS s)).length false))) (c4 : CO 63 [.str (natS (valS t))] (.ret (.sl (i64L (digQ (valS (natS (valS t))))) (digQ (valS (natS (valS t)))).length false))) (l0 : LoopOk prog ap [] 87 (.block 0 (.loop (loopBody 0 (bodyOf f105)))) ⟨[(0, .str s), (1, .str (natS (valS t))), (4, .str []), (5, .str []), (6, .bool false), (7, .int .i64 (x : Int)), (8, .bool true), (9, .int .i64 0), (10, .bool false), (11, .sl (i64L (digQ (valS s))) (digQ (valS s)).length false), (12, .sl (i64L (digQ (valS (natS (valS t))))) (digQ (valS (natS (valS t)))).length false), (13, .ref 0 0 0 (Int.toNat (((digQ (valS s)).length : Nat) : Int))), (14, .nilS), (15, .int .i64 (IntKind.wrap .i64 ((((digQ (valS s)).length : Nat) : Int) - ((1 : Nat) : Int)))), (20, .bool ((((List.length (natS (valS t))) : Nat) : Int) == ((0 : Nat) : Int))), (34, .bool false), (54, .dead), (68, .dead)], [(0, ⟨(repL (Int.toNat (((digQ (valS s)).length : Nat) : Int)) [.int .i64 0]), 0, false, 0, 1, true⟩)], .dead, []⟩ (.normal) ⟨[(13, .ref 0 0 0 m), (14, .sl (i64L (digQ r)) (digQ r).length false)], [(0, ⟨(i64L Q), 0, false, 0, 1, true⟩)], .dead, []⟩) (c5 : CO 64 [.sl (List.take (m * 1) (i64L Q)) m true] (.ret (.str (natS q)))) (c6 : CO 64 [.sl (i64L (digQ r)) (digQ r).length false] (.ret (.str (natS r)))) : CO 105 [.str s, .str t] (.ret (.tup [.str (natS q), .str (natS r), .bool true])) := pK [0] 3 2 (.c h0 (.c h1 (.c h2 (.k 2 h3 .nil)))) (.c c6 (.c c5 (.l l0 (.c c4 (.c c3 (.c c2 (.c c1 (.c c0 .nil))))))))
theorem ql_0 {nt : Nat} (hn : 87 ≤ nt) (x y r w q p r2 m k : Nat) (c : Int) (Q : List Nat) (h0 : (chk (.int .i64) (List.headD (List.drop ((0 + (Int.toNat (k : Int))) * 1) (List.take ((0 + (Int.toNat (k : Int))) * 1) (i64L Q) ++ [.int .i64 (q : Int)] ++ List.drop (((0 + (Int.toNat (k : Int))) * 1) + 1) (i64L Q))) .dead)) = true) (h1 : (decide (((0 : Nat) : Int) ≤ (k : Int))) = true) (h2 : (decide ((k : Int) < (m : Int))) = true) (h3 : (Nat.ble (((0 + (Int.toNat (k : Int))) * 1) + 1) (List.length (i64L Q))) = true) (h4 : lit true (decide (((0 : Nat) : Int) ≤ c)) = true) (h5 : (Nat.beq (List.length (i64L (digQ r))) ((digQ r).length * 1)) = true) (h6 : (Nat.ble (1 + (digQ r).length) 1099511627776) = true) (h7 : (chk (.int .i64) (List.headD (List.drop ((Int.toNat (k : Int)) * 1) (i64L (digQ x))) .dead)) = true) (h8 : (decide ((k : Int) < (((digQ x).length : Nat) : Int))) = true) (h9 : lit true (decide (((0 : Nat) : Int) ≤ (k : Int))) = true) (c0 : CO 123 [.sl (List.take ((1 + (digQ r).length) * 1) ([.int .i64 (AV.toInt (List.headD (List.drop ((Int.toNat (k : Int)) * 1) (i64L (digQ x))) .dead))] ++ (i64L (digQ r)))) (1 + (digQ r).length) true] (.ret (.sl (i64L (digQ w)) (digQ w).length false))) (c1 : CO 124 [.sl (i64L (digQ w)) (digQ w).length false, .sl (i64L (digQ y)) (digQ y).length false] (.ret (.int .i64 c))) (c2 : CO 125 [.sl (i64L (digQ w)) (digQ w).length false, .sl (i64L (digQ y)) (digQ y).length false] (.ret (.int .i64 (q : Int)))) (c3 : CO 127 [.sl (i64L (digQ y)) (digQ y).length false, .int .i64 (AV.toInt (List.headD (List.drop ((0 + (Int.toNat (k : Int))) * 1) (List.take ((0 + (Int.toNat (k : Int))) * 1) (i64L Q) ++ [.int .i64 (q : Int)] ++ List.drop (((0 + (Int.toNat (k : Int))) * 1) + 1) (i64L Q))) .dead))] (.ret (.sl (i64L (digQ p)) (digQ p).length true))) (c4 : CO 126 [.sl (i64L (digQ w)) (digQ w).length false, .sl (i64L (digQ p)) (digQ p).length true] (.ret (.sl (i64L (digQ r2)) (digQ r2).length false))) : ExecOk prog ap [] nt (loopBody 0 (bodyOf f105)) ⟨[(11, .sl (i64L (digQ x)) (digQ x).length false), (12, .sl (i64L (digQ y)) (digQ y).length false), (13, .ref 0 0 0 m), (14, .sl (i64L (digQ r)) (digQ r).length false), (15, .int .i64 (k : Int))], [(0, ⟨(i64L Q), 0, false, 0, 1, true⟩)], .dead, []⟩ (.normal) ⟨[(11, .sl (i64L (digQ x)) (digQ x).length false), (12, .sl (i64L (digQ y)) (digQ y).length false), (13, .ref 0 0 0 m), (14, .sl (i64L (digQ r2)) (digQ r2).length false), (15, .int .i64 (IntKind.wrap .i64 ((k : Int) - ((1 : Nat) : Int))))], [(0, ⟨(List.take ((0 + (Int.toNat (k : Int))) * 1) (i64L Q) ++ [.int .i64 (q : Int)] ++ List.drop (((0 + (Int.toNat (k : Int))) * 1) + 1) (i64L Q)), 0, false, 0, 1, true⟩)], .dead, []⟩ := pJ 105 [] 2 3 (.c h0 (.c h1 (.c h2 (.c h3 (.c h1 (.c h2 (.c h4 (.c h5 (.c h6 (.k 2 h7 (.c h1 (.c h8 (.c h9 .nil))))))))))))) (.c c4 (.c c3 (.c c2 (.c c1 (.c c0 .nil))))) hn
theorem ql_1 {nt : Nat} (hn : 87 ≤ nt) (x y r w q p r2 m k : Nat) (c : Int) (Q : List Nat) (h0 : lit false (decide (((0 : Nat) : Int) ≤ c)) = true) (h1 : (Nat.beq (List.length (i64L (digQ r))) ((digQ r).length * 1)) = true) (h2 : (Nat.ble (1 + (digQ r).length) 1099511627776) = true) (h3 : (chk (.int .i64) (List.headD (List.drop ((Int.toNat (k : Int)) * 1) (i64L (digQ x))) .dead)) = true) (h4 : (decide (((0 : Nat) : Int) ≤ (k : Int))) = true) (h5 : (decide ((k : Int) < (((digQ x).length : Nat) : Int))) = true) (h6 : lit true (decide (((0 : Nat) : Int) ≤ (k : Int))) = true) (c0 : CO 123 [.sl (List.take ((1 + (digQ r).length) * 1) ([.int .i64 (AV.toInt (List.headD (List.drop ((Int.toNat (k : Int)) * 1) (i64L (digQ x))) .dead))] ++ (i64L (digQ r)))) (1 + (digQ r).length) true] (.ret (.sl (i64L (digQ w)) (digQ w).length false))) (c1 : CO 124 [.sl (i64L (digQ w)) (digQ w).length false, .sl (i64L (digQ y)) (digQ y).length false] (.ret (.int .i64 c))) : ExecOk prog ap [] nt (loopBody 0 (bodyOf f105)) ⟨[(11, .sl (i64L (digQ x)) (digQ x).length false), (12, .sl (i64L (digQ y)) (digQ y).length false), (13, .ref 0 0 0 m), (14, .sl (i64L (digQ r)) (digQ r).length false), (15, .int .i64 (k : Int))], [(0, ⟨(i64L Q), 0, false, 0, 1, true⟩)], .dead, []⟩ (.normal) ⟨[(11, .sl (i64L (digQ x)) (digQ x).length false), (12, .sl (i64L (digQ y)) (digQ y).length false), (13, .ref 0 0 0 m), (14, .sl (i64L (digQ w)) (digQ w).length false), (15, .int .i64 (IntKind.wrap .i64 ((k : Int) - ((1 : Nat) : Int))))], [(0, ⟨(i64L Q), 0, false, 0, 1, true⟩)], .dead, []⟩ := pJ 105 [] 2 1 (.c h0 (.c h1 (.c h2 (.k 2 h3 (.c h4 (.c h5 (.c h6 .nil))))))) (.c c1 (.c c0 .nil)) hn
theorem qlE_0 {nt : Nat} (hn : 87 ≤ nt) (x y r w q p r2 m k : Nat) (c : Int) (Q : List Nat)   : ExecOk prog ap [] nt (loopBody 0 (bodyOf f105)) ⟨[(11, .sl (i64L (digQ x)) (digQ x).length false), (12, .sl (i64L (digQ y)) (digQ y).length false), (13, .ref 0 0 0 m), (14, .sl (i64L (digQ r)) (digQ r).length false), (15, .int .i64 (-1))], [(0, ⟨(i64L Q), 0, false, 0, 1, true⟩)], .dead, []⟩ (.exit 0) ⟨[(13, .ref 0 0 0 m), (14, .sl (i64L (digQ r)) (digQ r).length false)], [(0, ⟨(i64L Q), 0, false, 0, 1, true⟩)], .dead, []⟩ := pJ 105 [] 1 0 (.n 1 .nil) (.nil) hn
def quL (x y m k : Nat) : List Nat := (List.range m).map fun i => if i < k then 0 else x / 16777216 ^ i / y % 16777216
theorem quL_length (x y m k : Nat) : (quL x y m k).length = m := by simp [quL]
theorem quL_set {x y m k : Nat} (hk : k < m) : (quL x y m (k + 1)).set k (x / 16777216 ^ k / y % 16777216) = quL x y m k := by
 apply List.ext_getElem?
 intro i
 rw [List.getElem?_set, quL_length]
 unfold quL
 by_cases hi : k = i
 ·subst hi; simp [hk]
 ·rw [if_neg hi]
  by_cases him : i < m
  ·simp only [List.getElem?_map, List.getElem?_range him, Option.map_some]
   by_cases h1 : i < k
   ·rw [if_pos (by omega), if_pos h1]
   ·rw [if_neg (by omega), if_neg h1]
  ·rw [List.getElem?_eq_none (by simp; omega), List.getElem?_eq_none (by simp; omega)]
theorem quL_start (x y m : Nat) : quL x y m m = List.replicate m 0 := by
 unfold quL
 apply List.ext_getElem?
 intro i
 by_cases him : i < m
 ·simp [him]
 ·rw [List.getElem?_eq_none (by simp; omega), List.getElem?_eq_none (by simp; omega)]
theorem quL_lim (x y m k : Nat) : LimQ (quL x y m k) := by
 intro d hd
 obtain ⟨i, _, rfl⟩ := List.mem_map.1 hd
 show (if i < k then 0 else _) < _
 split <;> omega
theorem valQ_map (z : Nat) : ∀ m, valQ ((List.range m).map fun i => z / 16777216 ^ i % 16777216) = z % 16777216 ^ m := by
 intro m
 induction m with
 | zero => simp [valQ, Nat.mod_one]
 | succ m ih =>
  rw [List.range_succ, List.map_append, valQ_app, ih, List.length_map, List.length_range, Nat.pow_succ, Nat.mod_mul]
  simp only [List.map_cons, List.map_nil, valQ, Nat.mul_zero, Nat.add_zero]
theorem quL_val {x y m : Nat} (h : x / y < 16777216 ^ m) : valQ (quL x y m 0) = x / y := by
 have e : quL x y m 0 = (List.range m).map fun i => x / y / 16777216 ^ i % 16777216 := by
  unfold quL
  apply List.map_congr_left
  intro i _
  rw [if_neg (by omega), Nat.div_div_eq_div_mul, Nat.div_div_eq_div_mul, Nat.mul_comm]
 rw [e, valQ_map, Nat.mod_eq_of_lt h]
theorem digQ_get : ∀ (k x : Nat), (digQ x).getD k 0 = x / 16777216 ^ k % 16777216 := by
 intro k
 induction k with
 | zero =>
  intro x
  rcases Nat.eq_zero_or_pos x with rfl | h
  ·rw [digQ_zero]; rfl
  ·rw [digQ_pos h]; simp
 | succ k ih =>
  intro x
  rcases Nat.eq_zero_or_pos x with rfl | h
  ·rw [digQ_zero]; simp
  ·rw [digQ_pos h, List.getD_cons_succ, ih, Nat.div_div_eq_div_mul, Nat.pow_succ, Nat.mul_comm]
theorem dv_divQ {V R' Q' x H : Nat} (hV : 0 < V) (h : H = V * Q' + R') : (x + 16777216 * H) / V = 16777216 * Q' + (x + 16777216 * R') / V ∧ (x + 16777216 * H) % V = (x + 16777216 * R') % V := by
 subst h
 have e : x + 16777216 * (V * Q' + R') = x + 16777216 * R' + V * (16777216 * Q') := by
  rw [Nat.mul_add, Nat.mul_left_comm]; omega
 rw [e]
 constructor
 ·rw [Nat.add_mul_div_left _ _ hV, Nat.add_comm]
 ·rw [Nat.add_mul_mod_self_left]
def qlSt (x y m k : Nat) : St := ⟨[(11, .sl (i64L (digQ x)) (digQ x).length false), (12, .sl (i64L (digQ y)) (digQ y).length false), (13, .ref 0 0 0 m), (14, .sl (i64L (digQ (x / 16777216 ^ k % y))) (digQ (x / 16777216 ^ k % y)).length false), (15, .int .i64 ((k : Int) - 1))], [(0, ⟨i64L (quL x y m k), 0, false, 0, 1, true⟩)], .dead, []⟩
theorem ql_t {nt : Nat} (hn : 87 ≤ nt) (x y r w q p r2 m k d : Nat) (c : Int) (Q Q2 : List Nat) (hk : k < (digQ x).length) (hd : (digQ x).getD k 0 = d) (hQ : Q.length = m) (hkm : k < m) (hm : m < 2 ^ 40) (hrl : (digQ r).length < 2 ^ 39) (hset : Q.set k q = Q2) (hc : 0 ≤ c)
  (c0 : CO 123 [.sl (i64L (d :: digQ r)) (1 + (digQ r).length) true] (.ret (.sl (i64L (digQ w)) (digQ w).length false)))
  (c1 : CO 124 [.sl (i64L (digQ w)) (digQ w).length false, .sl (i64L (digQ y)) (digQ y).length false] (.ret (.int .i64 c)))
  (c2 : CO 125 [.sl (i64L (digQ w)) (digQ w).length false, .sl (i64L (digQ y)) (digQ y).length false] (.ret (.int .i64 (q : Int))))
  (c3 : CO 127 [.sl (i64L (digQ y)) (digQ y).length false, .int .i64 (q : Int)] (.ret (.sl (i64L (digQ p)) (digQ p).length true)))
  (c4 : CO 126 [.sl (i64L (digQ w)) (digQ w).length false, .sl (i64L (digQ p)) (digQ p).length true] (.ret (.sl (i64L (digQ r2)) (digQ r2).length false))) :
  ExecOk prog ap [] nt (loopBody 0 (bodyOf f105)) ⟨[(11, .sl (i64L (digQ x)) (digQ x).length false), (12, .sl (i64L (digQ y)) (digQ y).length false), (13, .ref 0 0 0 m), (14, .sl (i64L (digQ r)) (digQ r).length false), (15, .int .i64 (k : Int))], [(0, ⟨i64L Q, 0, false, 0, 1, true⟩)], .dead, []⟩ .normal
   ⟨[(11, .sl (i64L (digQ x)) (digQ x).length false), (12, .sl (i64L (digQ y)) (digQ y).length false), (13, .ref 0 0 0 m), (14, .sl (i64L (digQ r2)) (digQ r2).length false), (15, .int .i64 ((k : Int) - 1))], [(0, ⟨i64L Q2, 0, false, 0, 1, true⟩)], .dead, []⟩ := by
 have hb := ql_0 hn x y r w q p r2 m k c Q
 have ew : IntKind.wrap .i64 ((k : Int) - ((1 : Nat) : Int)) = (k : Int) - 1 := w64_id (by omega) (by omega)
 have hset' := i64_set (l := Q) (j := k) (by omega) q
 rw [hset] at hset'
 have hg2 : Q2.getD k 0 = q := by rw [← hset, List.getD_eq_getElem?_getD, List.getElem?_set_self (by omega)]; rfl
 have hl2 : Q2.length = m := by rw [← hset]; simp [hQ]
 have htk : List.take (1 + (digQ r).length) (i64L (d :: digQ r)) = i64L (d :: digQ r) := by rw [take_i64, List.take_of_length_le (by simp; omega)]
 have hz : (((0 : Nat) : Int) ≤ c) = True := by simp [hc]
 simp (disch := first | omega | (simp [u32L_length, u8L_length] <;> omega)) only [c_toNat, Nat.zero_add, Nat.mul_one, hset', i64_get, hg2, chk_i64, d_le, dec_t, d_lt, i64L_length, nble_d, hz, decide_true, lit_t, nbeq_d, hd, toInt_int, i64_cons, htk, ew] at hb
 apply hb <;> first | exact True.intro | omega | assumption | exact rfl
theorem ql_f {nt : Nat} (hn : 87 ≤ nt) (x y r w m k d : Nat) (c : Int) (Q : List Nat) (hk : k < (digQ x).length) (hd : (digQ x).getD k 0 = d) (hQ : Q.length = m) (hkm : k < m) (hm : m < 2 ^ 40) (hrl : (digQ r).length < 2 ^ 39) (hc : c < 0)
  (c0 : CO 123 [.sl (i64L (d :: digQ r)) (1 + (digQ r).length) true] (.ret (.sl (i64L (digQ w)) (digQ w).length false)))
  (c1 : CO 124 [.sl (i64L (digQ w)) (digQ w).length false, .sl (i64L (digQ y)) (digQ y).length false] (.ret (.int .i64 c))) :
  ExecOk prog ap [] nt (loopBody 0 (bodyOf f105)) ⟨[(11, .sl (i64L (digQ x)) (digQ x).length false), (12, .sl (i64L (digQ y)) (digQ y).length false), (13, .ref 0 0 0 m), (14, .sl (i64L (digQ r)) (digQ r).length false), (15, .int .i64 (k : Int))], [(0, ⟨i64L Q, 0, false, 0, 1, true⟩)], .dead, []⟩ .normal
   ⟨[(11, .sl (i64L (digQ x)) (digQ x).length false), (12, .sl (i64L (digQ y)) (digQ y).length false), (13, .ref 0 0 0 m), (14, .sl (i64L (digQ w)) (digQ w).length false), (15, .int .i64 ((k : Int) - 1))], [(0, ⟨i64L Q, 0, false, 0, 1, true⟩)], .dead, []⟩ := by
 have hb := ql_1 hn x y r w 0 0 0 m k c Q
 have ew : IntKind.wrap .i64 ((k : Int) - ((1 : Nat) : Int)) = (k : Int) - 1 := w64_id (by omega) (by omega)
 have htk : List.take (1 + (digQ r).length) (i64L (d :: digQ r)) = i64L (d :: digQ r) := by rw [take_i64, List.take_of_length_le (by simp; omega)]
 have hz : (((0 : Nat) : Int) ≤ c) = False := by simp [hc]
 simp (disch := first | omega | (simp [u32L_length, u8L_length] <;> omega)) only [hz, decide_false, lit_f, Bool.not_false, i64L_length, Nat.mul_one, nbeq_d, decide_true, nble_d, dec_t, c_toNat, i64_get, hd, chk_i64, d_le, d_lt, lit_t, toInt_int, i64_cons, htk, ew] at hb
 apply hb <;> first | exact True.intro | omega | assumption | exact rfl
theorem ql_pure (x y m k : Nat) (hy : 0 < y) (hk : k < m) : ∃ d r w : Nat, (digQ x).getD k 0 = d ∧ x / 16777216 ^ (k + 1) % y = r ∧ d + 16777216 * r = w ∧ d < 16777216 ∧ r < y ∧ x / 16777216 ^ k % y = w % y ∧ (quL x y m (k + 1)).set k (w / y) = quL x y m k ∧ (quL x y m (k + 1)).getD k 0 = 0 := by
 have hdl := Nat.mod_lt (x / 16777216 ^ k) (show 0 < 16777216 by omega)
 have hrl := Nat.mod_lt (x / 16777216 ^ (k + 1)) hy
 refine ⟨x / 16777216 ^ k % 16777216, x / 16777216 ^ (k + 1) % y, _, digQ_get k x, rfl, rfl, hdl, hrl, ?_, ?_, ?_⟩
 ·have hdm := Nat.div_add_mod (x / 16777216 ^ (k + 1)) y
  obtain ⟨_, v2⟩ := dv_divQ (x := x / 16777216 ^ k % 16777216) hy hdm.symm
  have hH : x / 16777216 ^ k % 16777216 + 16777216 * (x / 16777216 ^ (k + 1)) = x / 16777216 ^ k := by
   rw [Nat.pow_succ, ← Nat.div_div_eq_div_mul]; omega
  rw [hH] at v2
  exact v2
 ·have hdm := Nat.div_add_mod (x / 16777216 ^ (k + 1)) y
  obtain ⟨v1, _⟩ := dv_divQ (x := x / 16777216 ^ k % 16777216) hy hdm.symm
  have hH : x / 16777216 ^ k % 16777216 + 16777216 * (x / 16777216 ^ (k + 1)) = x / 16777216 ^ k := by
   rw [Nat.pow_succ, ← Nat.div_div_eq_div_mul]; omega
  rw [hH] at v1
  have hset := quL_set (x := x) (y := y) hk
  rw [v1] at hset
  have hwl : x / 16777216 ^ k % 16777216 + 16777216 * (x / 16777216 ^ (k + 1) % y) < y * 16777216 := by omega
  have hql : (x / 16777216 ^ k % 16777216 + 16777216 * (x / 16777216 ^ (k + 1) % y)) / y < 16777216 := by rw [Nat.div_lt_iff_lt_mul hy, Nat.mul_comm 16777216 y]; exact hwl
  rw [Nat.mul_add_mod, Nat.mod_eq_of_lt hql] at hset
  exact hset
 ·unfold quL; rw [List.getD_eq_getElem?_getD]; simp [hk]
theorem digQ_mulB {w y : Nat} (h : w < y * 16777216) : (digQ w).length ≤ (digQ y).length + 1 := by
 apply digQ_le
 have h1 := digQ_lt y
 rw [Nat.pow_succ]
 exact Nat.lt_trans h (Nat.mul_lt_mul_of_pos_right h1 (by omega))
theorem ql_step {nt : Nat} (hn : 87 ≤ nt) (x y m k : Nat) (hy : 0 < y) (hm : (digQ x).length = m) (hk : k < m) (hxl : m < 2 ^ 35) (hyl : (digQ y).length < 2 ^ 34) : ExecOk prog ap [] nt (loopBody 0 (bodyOf f105)) (qlSt x y m (k + 1)) .normal (qlSt x y m k) := by
 obtain ⟨d, r, w, hd, hr, hw, hdl, hrl, hmod, hset, hq0⟩ := ql_pure x y m k hy hk
 have hQl := quL_length x y m (k + 1)
 unfold qlSt
 rw [show (((k + 1 : Nat) : Int) - 1) = (k : Int) by omega, hr, hmod]
 have hwl : w < y * 16777216 := by omega
 have hrm := digQ_mono (Nat.le_of_lt hrl)
 have htr := rtrim_ok (d :: digQ r) true (by simp; omega)
 rw [trimQ (LimQ.cons hdl (LimQ.dig r))] at htr
 simp only [valQ, valQ_digQ, hw, List.length_cons] at htr
 rw [Nat.add_comm (digQ r).length 1] at htr
 have htr2 := htr.out (OutLe.sl1 _ _ _)
 have hql : w / y < 16777216 := by rw [Nat.div_lt_iff_lt_mul hy, Nat.mul_comm]; exact hwl
 have hwd := digQ_mulB hwl
 have hcm := rcmp_ok (digQ w) (digQ y) false false (LimQ.dig _) (LimQ.dig _) (by omega) (by omega)
 have hcs := cmpQ_spec w y
 generalize quL x y m k = Q2 at *
 generalize quL x y m (k + 1) = Q1 at *
 by_cases hc : 0 ≤ cmpQ (digQ w) (digQ y)
 ·have hyw := hcs.1.1 hc
  have hdig := digit_ok w y false false hy hwl (by omega) (by omega)
  have htm := times_ok y (w / y) false hql (by omega)
  have hle : y * (w / y) ≤ w := Nat.mul_div_le w y
  have hmi := minus_ok w (y * (w / y)) false true hle (by omega)
  have hmd : w - y * (w / y) = w % y := by have := Nat.div_add_mod w y; omega
  rw [hmd] at hmi
  exact ql_t hn x y r w (w / y) (y * (w / y)) (w % y) m k d _ Q1 Q2 (by omega) hd hQl hk (by omega) (by omega) hset hc htr2 hcm hdig htm hmi
 ·have hyw : w < y := Nat.lt_of_not_le (fun h => hc (hcs.1.2 h))
  have hw0 : w / y = 0 := Nat.div_eq_of_lt hyw
  rw [Nat.mod_eq_of_lt hyw]
  rw [hw0] at hset
  have hsame : Q1.set k 0 = Q1 := by
   apply List.ext_getElem?
   intro i
   rw [List.getElem?_set]
   by_cases hi : k = i
   ·subst hi
    rw [List.getD_eq_getElem?_getD, List.getElem?_eq_getElem (by omega)] at hq0
    rw [if_pos rfl, if_pos (by omega), List.getElem?_eq_getElem (by omega)]
    simpa using hq0.symm
   ·rw [if_neg hi]
  rw [hsame] at hset
  subst hset
  exact ql_f hn x y r w m k d _ Q1 (by omega) hd hQl hk (by omega) (by omega) (by omega) htr2 hcm
def qlOut (x y m k : Nat) : St := ⟨[(13, .ref 0 0 0 m), (14, .sl (i64L (digQ (x / 16777216 ^ k % y))) (digQ (x / 16777216 ^ k % y)).length false)], [(0, ⟨i64L (quL x y m k), 0, false, 0, 1, true⟩)], .dead, []⟩
theorem ql_loop {nt : Nat} (hn : 87 ≤ nt) (x y m : Nat) (hy : 0 < y) (hm : (digQ x).length = m) (hxl : m < 2 ^ 35) (hyl : (digQ y).length < 2 ^ 34) : ∀ k, k ≤ m → LoopR prog ap [] nt (loopBody 0 (bodyOf f105)) (fun _ => .exit 0) (qlSt x y m) (qlOut x y m) k 0 := by
 intro k
 induction k with
 | zero =>
  intro _
  refine .done ?_
  unfold qlOut
  have h := qlE_0 hn x y (x / 16777216 ^ 0 % y) 0 0 0 0 m 0 0 (quL x y m 0)
  exact h
 | succ k ih => exact fun hk => .next (ql_step hn x y m k hy hm (by omega) hxl hyl) (ih (by omega))
theorem valS_digQ {s : List UInt8} : (digQ (valS s)).length ≤ s.length := by
 apply digQ_le
 have h := valS_lt8 s
 refine Nat.lt_of_lt_of_le h ?_
 rw [show (16777216 : Nat) = 2 ^ 24 from rfl, ← Nat.pow_mul]
 exact Nat.pow_le_pow_right (by omega) (by omega)
theorem rquo_ok (s t : List UInt8) (hs : s.length < 2 ^ 33) (ht : t.length < 2 ^ 33) (h0 : 0 < valS t) : CO 105 [.str s, .str t] (.ret (.tup [.str (natS (valS s / valS t)), .str (natS (valS s % valS t)), .bool true])) := by
 have hc := canon_ok t (by omega)
 have hvn := val_natS (valS t)
 have htl : (natS (valS t)).length ≤ t.length := natS_le (Nat.le_refl _)
 have hne : natS (valS t) ≠ [] := fun h => by have := natS_eq_nil.1 h; omega
 have hnl : 0 < (natS (valS t)).length := by
  cases hq : natS (valS t) with
  | nil => exact absurd hq hne
  | cons _ _ => simp
 have hnz : ((natS (valS t)).length = 0) = False := by simp; exact hne
 have e7 : ((7 : Nat) : Int) = 7 := rfl
 by_cases hb : valS s < 2 ^ (8 * 7) ∧ valS t < 2 ^ (8 * 7)
 ·have hsm1 := small_ok s 7 (by omega) (by omega) hb.1
  have hsm2 := small_ok (natS (valS t)) 7 (by omega) (by omega) (by rw [hvn]; exact hb.2)
  rw [hvn] at hsm2
  have hx63 : valS s < 9223372036854775808 := Nat.lt_of_lt_of_le hb.1 (by decide)
  have hy63 : valS t < 9223372036854775808 := Nat.lt_of_lt_of_le hb.2 (by decide)
  have q1 := Nat.div_le_self (valS s) (valS t)
  have q2 := Nat.mod_le (valS s) (valS t)
  have o1 := rof_ok (valS s / valS t) (by omega)
  have o2 := rof_ok (valS s % valS t) (by omega)
  have h := qS_1 s t (valS s) (valS t) (valS s / valS t) (valS s % valS t)
  have ht0 : (valS t = 0) = False := by simp; omega
  clear hb hs
  simp (disch := first | omega | (simp [u32L_length, u8L_length] <;> omega)) only [b_eq, ht0, decide_false, Bool.not_false, hnz, lit_f, c_tdiv, w64_nat, c_tmod] at h
  apply h <;> first | exact True.intro | omega | assumption | exact rfl
 ·have hof1 := rof_q s (by omega)
  have hof2 := rof_q (natS (valS t)) (by omega)
  rw [hvn] at hof2
  have hxl := valS_digQ (s := s)
  have hyl := valS_digQ (s := t)
  have hloop := fun nt (hn : 87 ≤ nt) => ql_loop hn (valS s) (valS t) _ h0 rfl (by omega) (by omega) _ (Nat.le_refl _)
  have hQl := quL_length (valS s) (valS t) (digQ (valS s)).length 0
  have hqv : valQ (quL (valS s) (valS t) (digQ (valS s)).length 0) = valS s / valS t := quL_val (Nat.lt_of_le_of_lt (Nat.div_le_self _ _) (digQ_lt _))
  have hn1 := number_q (quL (valS s) (valS t) (digQ (valS s)).length 0) true (by omega) (quL_lim _ _ _ _)
  rw [hqv, hQl] at hn1
  have hr0 : valS s / 16777216 ^ 0 % valS t = valS s % valS t := by rw [Nat.pow_zero, Nat.div_one]
  have hrm := digQ_mono (Nat.le_of_lt (Nat.mod_lt (valS s) h0))
  have hn2 := number_q (digQ (valS s % valS t)) false (by omega) (LimQ.dig _)
  rw [valQ_digQ] at hn2
  have hz0 : valS s / 16777216 ^ (digQ (valS s)).length % valS t = 0 := by rw [Nat.div_eq_of_lt (digQ_lt _), Nat.zero_mod]
  have hwl : IntKind.wrap .i64 ((((digQ (valS s)).length : Nat) : Int) - ((1 : Nat) : Int)) = ((digQ (valS s)).length : Int) - 1 := len_pr (by omega)
  have hout : qlOut (valS s) (valS t) (digQ (valS s)).length 0 = ⟨[(13, .ref 0 0 0 (digQ (valS s)).length), (14, .sl (i64L (digQ (valS s % valS t))) (digQ (valS s % valS t)).length false)], [(0, ⟨i64L (quL (valS s) (valS t) (digQ (valS s)).length 0), 0, false, 0, 1, true⟩)], .dead, []⟩ := by unfold qlOut; rw [hr0]
  have hm40 : (digQ (valS s)).length < 2 ^ 35 := by omega
  have htk : List.take (digQ (valS s)).length (i64L (quL (valS s) (valS t) (digQ (valS s)).length 0)) = i64L (quL (valS s) (valS t) (digQ (valS s)).length 0) := by rw [take_i64, List.take_of_length_le (by omega)]
  by_cases hx : valS s < 2 ^ (8 * 7)
  ·have hy : 2 ^ (8 * 7) ≤ valS t := by
    rcases Nat.lt_or_ge (valS t) (2 ^ (8 * 7)) with h | h
    ·exact absurd ⟨hx, h⟩ hb
    ·exact h
   have hsm1 := small_ok s 7 (by omega) (by omega) hx
   have hsm2 := small_no (natS (valS t)) 7 (by omega) (by rw [hvn]; exact hy)
   clear hb hx hy
   have h := qB_1 s t (valS s) 0 (valS s / valS t) (valS s % valS t) (digQ (valS s)).length (quL (valS s) (valS t) (digQ (valS s)).length 0) 0 true
   rw [hvn] at h
   simp (disch := first | omega | (simp [u32L_length, u8L_length] <;> omega)) only [d_le, dec_t, decide_true, b_eq, hnz, decide_false, lit_f, Bool.not_false, c_toNat, hwl, rep_i64, Nat.mul_one, htk] at h
   apply h <;> first | exact True.intro | omega | assumption | exact rfl | skip
   ·refine LoopR.blkF hloop (by simp) rfl ?_ (by rw [hout]; exact LessF.refl _)
    unfold qlSt
    rw [quL_start, hz0, digQ_zero]
    exact LessF.of ⟨Fits.refl _, Fits.refl _, Fits.refl _, Fits.nilS false rfl, Fits.refl _, trivial⟩
  ·have hsm1 := small_no s 7 (by omega) (Nat.le_of_not_lt hx)
   have hsm2 : ∃ zy b2, CO 62 [.str (natS (valS t)), .int .i64 7] (.ret (.tup [.int .i64 zy, .bool b2])) := by
    rcases Nat.lt_or_ge (valS t) (2 ^ (8 * 7)) with h | h
    ·exact ⟨_, _, small_ok (natS (valS t)) 7 (by omega) (by omega) (by rw [hvn]; exact h)⟩
    ·exact ⟨_, _, small_no (natS (valS t)) 7 (by omega) (by rw [hvn]; exact h)⟩
   obtain ⟨zy, b2, hsm2⟩ := hsm2
   clear hb hx
   have h := qA_1 s t 0 0 (valS s / valS t) (valS s % valS t) (digQ (valS s)).length (quL (valS s) (valS t) (digQ (valS s)).length 0) zy b2
   rw [hvn] at h
   simp (disch := first | omega | (simp [u32L_length, u8L_length] <;> omega)) only [d_le, dec_t, decide_true, b_eq, hnz, decide_false, lit_f, Bool.not_false, c_toNat, hwl, rep_i64, Nat.mul_one, htk] at h
   apply h <;> first | exact True.intro | omega | assumption | exact rfl | skip
   ·refine LoopR.blkF hloop (by simp) rfl ?_ (by rw [hout]; exact LessF.refl _)
    unfold qlSt
    rw [quL_start, hz0, digQ_zero]
    exact LessF.of ⟨Fits.refl _, Fits.refl _, Fits.refl _, Fits.nilS false rfl, Fits.refl _, trivial⟩
theorem rgb_0 {nt : Nat} (hn : 25 ≤ nt) (s t q r : List UInt8) (h0 : lit true (decide (((0 : Nat) : Int) < (((List.length t) : Nat) : Int))) = true) (c0 : CO 105 [.str s, .str t] (.ret (.tup [.str q, .str r, .bool true]))) : ExecOk prog ap [] nt (loopBody 0 (bodyOf f104)) ⟨[(0, .str s), (1, .str t)], [], .dead, []⟩ (.normal) ⟨[(0, .str t), (1, .str r)], [], .dead, []⟩ := pJ 104 [] 1 1 (.c h0 .nil) (.c c0 .nil) hn
theorem rgb_1 {nt : Nat} (hn : 25 ≤ nt) (s t q r : List UInt8) (h0 : lit false (decide (((0 : Nat) : Int) < (((List.length t) : Nat) : Int))) = true)  : ExecOk prog ap [] nt (loopBody 0 (bodyOf f104)) ⟨[(0, .str s), (1, .str t)], [], .dead, []⟩ (.exit 0) ⟨[(0, .str s)], [], .dead, []⟩ := pJ 104 [] 1 0 (.c h0 .nil) (.nil) hn
theorem rgF_0 (s t g : List UInt8)  (c0 : CO 61 [.str s] (.ret (.str (natS (valS s))))) (c1 : CO 61 [.str t] (.ret (.str (natS (valS t))))) (l0 : LoopOk prog ap [] 25 (.block 0 (.loop (loopBody 0 (bodyOf f104)))) ⟨[(0, .str (natS (valS s))), (1, .str (natS (valS t))), (4, .str []), (6, .dead), (14, .dead)], [], .dead, []⟩ (.normal) ⟨[(0, .str g)], [], .dead, []⟩) : CO 104 [.str s, .str t] (.ret (.str g)) := pK [0] 0 0 .nil (.l l0 (.c c1 (.c c0 .nil)))
def rgSt (p : Nat × Nat) : St := ⟨[(0, .str (natS p.1)), (1, .str (natS p.2))], [], .dead, []⟩
def rgOut (x : Nat) : St := ⟨[(0, .str (natS x))], [], .dead, []⟩
theorem rgcd_loop {nt : Nat} (hn : 25 ≤ nt) : ∀ (n y x : Nat), y < n → (natS x).length < 2 ^ 33 → (natS y).length < 2 ^ 33 → LoopR prog ap [] nt (loopBody 0 (bodyOf f104)) (fun _ => .exit 0) rgSt rgOut (x, y) (Nat.gcd x y) := by
 intro n
 induction n with
 | zero => intro y x h; omega
 | succ n ih =>
  intro y x h hx hy
  rcases Nat.eq_zero_or_pos y with rfl | h0
  ·rw [Nat.gcd_zero_right]
   refine .done ?_
   unfold rgSt rgOut
   rw [natS_zero]
   exact rgb_1 hn (natS x) [] [] [] rfl
  ·have hm := Nat.mod_lt x h0
   have hl : (natS (x % y)).length < 2 ^ 33 := by
    have : x % y ≤ valS (natS y) := by rw [val_natS]; omega
    have := natS_le this
    omega
   have hnext := ih (x % y) y (by omega) hy hl
   rw [show Nat.gcd y (x % y) = Nat.gcd x y by rw [Nat.gcd_comm y, ← Nat.gcd_rec, Nat.gcd_comm]] at hnext
   refine .next ?_ hnext
   have hq := rquo_ok (natS x) (natS y) hx hy (by rw [val_natS]; exact h0)
   rw [val_natS, val_natS] at hq
   have hne : natS y ≠ [] := fun h => by have := natS_eq_nil.1 h; omega
   have hpos : 0 < (natS y).length := by
    cases hq : natS y with
    | nil => exact absurd hq hne
    | cons _ _ => simp
   exact rgb_0 hn (natS x) (natS y) _ _ (by rw [d_lt, lit_t]; exact decide_eq_true hpos) hq
theorem rgcd_ok (s t : List UInt8) (hs : s.length < 2 ^ 33) (ht : t.length < 2 ^ 33) : CO 104 [.str s, .str t] (.ret (.str (natS (Nat.gcd (valS s) (valS t))))) := by
 have l1 : (natS (valS s)).length ≤ s.length := natS_le (Nat.le_refl _)
 have l2 : (natS (valS t)).length ≤ t.length := natS_le (Nat.le_refl _)
 exact rgF_0 s t _ (canon_ok s (by omega)) (canon_ok t (by omega)) (LoopR.blk (fun nt hn => rgcd_loop hn (valS t + 1) (valS t) (valS s) (by omega) (by omega) (by omega)) (by simp) rfl (Less.of ⟨rfl, rfl, trivial⟩) (Less.of ⟨rfl, trivial⟩))
theorem q2r_0 (neg : Bool) (n d : List UInt8) (g : Nat) (h0 : lit true (!(nR n)) = true) (c0 : CO 102 [.str n] (.ret (.bool (nR n)))) (c1 : CO 102 [.str d] (.ret (.bool (nR d)))) : CO 69 [.agg [.bool neg, .str n, .str d]] (.ret (.bool false)) := pK [] 3 7 (.k 2 h0 (.n 2 .nil)) (.c c1 (.c c0 .nil))
theorem q2r_1 (neg : Bool) (n d : List UInt8) (g : Nat) (h0 : lit true (!(nR d)) = true) (h1 : lit false (!(nR n)) = true) (c0 : CO 102 [.str n] (.ret (.bool (nR n)))) (c1 : CO 102 [.str d] (.ret (.bool (nR d)))) : CO 69 [.agg [.bool neg, .str n, .str d]] (.ret (.bool false)) := pK [] 3 6 (.k 1 h0 (.c h1 (.n 2 .nil))) (.c c1 (.c c0 .nil))
theorem q2r_2 (neg : Bool) (n d : List UInt8) (g : Nat) (h0 : lit true (d == []) = true) (h1 : lit false (!(nR d)) = true) (h2 : lit false (!(nR n)) = true) (c0 : CO 102 [.str n] (.ret (.bool (nR n)))) (c1 : CO 102 [.str d] (.ret (.bool (nR d)))) : CO 69 [.agg [.bool neg, .str n, .str d]] (.ret (.bool false)) := pK [] 3 4 (.c h0 (.k 1 h1 (.c h2 (.n 2 .nil)))) (.c c1 (.c c0 .nil))
theorem q2r_3 (neg : Bool) (n d : List UInt8) (g : Nat) (h0 : lit true (!neg) = true) (h1 : lit true (n == []) = true) (h2 : lit false (d == []) = true) (h3 : lit false (!(nR d)) = true) (h4 : lit false (!(nR n)) = true) (c0 : CO 102 [.str n] (.ret (.bool (nR n)))) (c1 : CO 102 [.str d] (.ret (.bool (nR d)))) (c2 : CO 39 [.int .i64 1] (.ret (.str (natS 1)))) (c3 : CO 103 [.str d, .str (natS 1)] (.ret (.int .i64 (sgn (valS d) (valS (natS 1)))))) : CO 69 [.agg [.bool neg, .str n, .str d]] (.ret (.bool ((sgn (valS d) (valS (natS 1))) == ((0 : Nat) : Int)))) := pK [] 5 24 (.k 1 h0 (.k 1 h1 (.k 1 h2 (.k 1 h3 (.c h4 (.n 2 .nil)))))) (.c c3 (.c c2 (.c c1 (.c c0 .nil))))
theorem q2r_4 (neg : Bool) (n d : List UInt8) (g : Nat) (h0 : lit false (!neg) = true) (h1 : lit true (n == []) = true) (h2 : lit false (d == []) = true) (h3 : lit false (!(nR d)) = true) (h4 : lit false (!(nR n)) = true) (c0 : CO 102 [.str n] (.ret (.bool (nR n)))) (c1 : CO 102 [.str d] (.ret (.bool (nR d)))) : CO 69 [.agg [.bool neg, .str n, .str d]] (.ret (.bool false)) := pK [] 5 8 (.c h0 (.k 1 h1 (.k 1 h2 (.k 1 h3 (.c h4 (.n 2 .nil)))))) (.c c1 (.c c0 .nil))
theorem q2r_5 (neg : Bool) (n d : List UInt8) (g : Nat) (h0 : lit false (n == []) = true) (h1 : lit false (d == []) = true) (h2 : lit false (!(nR d)) = true) (h3 : lit false (!(nR n)) = true) (c0 : CO 102 [.str n] (.ret (.bool (nR n)))) (c1 : CO 102 [.str d] (.ret (.bool (nR d)))) (c2 : CO 104 [.str n, .str d] (.ret (.str (natS g)))) (c3 : CO 39 [.int .i64 1] (.ret (.str (natS 1)))) (c4 : CO 103 [.str (natS g), .str (natS 1)] (.ret (.int .i64 (sgn (valS (natS g)) (valS (natS 1)))))) : CO 69 [.agg [.bool neg, .str n, .str d]] (.ret (.bool ((sgn (valS (natS g)) (valS (natS 1))) == ((0 : Nat) : Int)))) := pK [] 4 0 (.k 2 h0 (.k 1 h1 (.k 1 h2 (.c h3 (.n 2 .nil))))) (.c c4 (.c c3 (.c c2 (.c c1 (.c c0 .nil)))))
theorem q2l_0 (neg : Bool) (n d : List UInt8) (g : Nat) (h0 : lit true (n == []) = true) (c0 : CO 39 [.int .i64 1] (.ret (.str (natS 1)))) : CO 72 [.bool neg, .str n, .str d] (.ret (.agg [.bool false, .str [], .str (natS 1)])) := pK [] 1 1 (.k 4 h0 .nil) (.c c0 .nil)
theorem q2l_1 (neg : Bool) (n d : List UInt8) (g : Nat) (h0 : lit false (n == []) = true) (c0 : CO 104 [.str n, .str d] (.ret (.str (natS g)))) (c1 : CO 105 [.str n, .str (natS g)] (.ret (.tup [.str (natS (valS n / g)), .str (natS (valS n % g)), .bool true]))) (c2 : CO 105 [.str d, .str (natS g)] (.ret (.tup [.str (natS (valS d / g)), .str (natS (valS d % g)), .bool true]))) : CO 72 [.bool neg, .str n, .str d] (.ret (.agg [.bool neg, .str (natS (valS n / g)), .str (natS (valS d / g))])) := pK [] 1 0 (.k 4 h0 .nil) (.c c2 (.c c1 (.c c0 .nil)))
theorem q2f_0 (neg : Bool) (n d : List UInt8) (h0 : lit true (decide ((((lenN (valS n)) : Nat) : Int) ≤ ((400 : Nat) : Int))) = true) (h1 : lit true (isQ neg n d) = true) (c0 : CO 69 [.agg [.bool neg, .str n, .str d]] (.ret (.bool (isQ neg n d)))) (c1 : CO 70 [.str n] (.ret (.int .i64 (((lenN (valS n)) : Nat) : Int)))) (c2 : CO 70 [.str d] (.ret (.int .i64 (((lenN (valS d)) : Nat) : Int)))) : CO 45 [.agg [.bool neg, .str n, .str d]] (.ret (.bool (decide ((((lenN (valS d)) : Nat) : Int) ≤ ((400 : Nat) : Int))))) := pK [] 2 3 (.k 1 h0 (.k 1 h1 (.n 3 .nil))) (.c c2 (.c c1 (.c c0 .nil)))
theorem q2f_1 (neg : Bool) (n d : List UInt8) (h0 : lit false (decide ((((lenN (valS n)) : Nat) : Int) ≤ ((400 : Nat) : Int))) = true) (h1 : lit true (isQ neg n d) = true) (c0 : CO 69 [.agg [.bool neg, .str n, .str d]] (.ret (.bool (isQ neg n d)))) (c1 : CO 70 [.str n] (.ret (.int .i64 (((lenN (valS n)) : Nat) : Int)))) : CO 45 [.agg [.bool neg, .str n, .str d]] (.ret (.bool false)) := pK [] 2 1 (.c h0 (.k 1 h1 (.n 3 .nil))) (.c c1 (.c c0 .nil))
theorem q2f_2 (neg : Bool) (n d : List UInt8) (h0 : lit false (isQ neg n d) = true) (c0 : CO 69 [.agg [.bool neg, .str n, .str d]] (.ret (.bool (isQ neg n d)))) : CO 45 [.agg [.bool neg, .str n, .str d]] (.ret (.bool false)) := pK [] 2 0 (.k 1 h0 (.n 3 .nil)) (.c c0 .nil)
theorem q2v_0 (neg : Bool) (n d : List UInt8) (h0 : lit true (!(isQ neg n d)) = true) (c0 : CO 69 [.agg [.bool neg, .str n, .str d]] (.ret (.bool (isQ neg n d)))) (c1 : CO 39 [.int .i64 1] (.ret (.str (natS 1)))) : CO 71 [.agg [.bool neg, .str n, .str d]] (.ret (.agg [.bool false, .str [], .str (natS 1)])) := pK [] 1 1 (.k 4 h0 (.n 3 .nil)) (.c c1 (.c c0 .nil))
theorem q2v_1 (neg : Bool) (n d : List UInt8) (h0 : lit false (!(isQ neg n d)) = true) (c0 : CO 69 [.agg [.bool neg, .str n, .str d]] (.ret (.bool (isQ neg n d)))) : CO 71 [.agg [.bool neg, .str n, .str d]] (.ret (.agg [.bool neg, .str n, .str d])) := pK [] 1 0 (.k 7 h0 (.n 3 .nil)) (.c c0 .nil)
theorem q2o_0 (v : Int) (x z : Nat) (h0 : lit true (decide (((0 : Nat) : Int) ≤ v)) = true) (c0 : CO 39 [.int .i64 v] (.ret (.str (natS z)))) (c1 : CO 39 [.int .i64 1] (.ret (.str (natS 1)))) : CO 19 [.int .i64 v] (.ret (.agg [.bool false, .str (natS z), .str (natS 1)])) := pK [] 1 1 (.k 4 h0 .nil) (.c c1 (.c c0 .nil))
theorem q2o_1 (v : Int) (x z : Nat) (h0 : lit false (decide (((0 : Nat) : Int) ≤ v)) = true) (c0 : CO 39 [.int .i64 (IntKind.wrap .i64 (0 - (IntKind.wrap .i64 (v + ((1 : Nat) : Int)))))] (.ret (.str (natS z)))) (c1 : CO 39 [.int .i64 1] (.ret (.str (natS 1)))) (c2 : CO 40 [.str (natS z), .str (natS 1)] (.ret (.str (natS x)))) (c3 : CO 39 [.int .i64 1] (.ret (.str (natS 1)))) : CO 19 [.int .i64 v] (.ret (.agg [.bool true, .str (natS x), .str (natS 1)])) := pK [] 1 0 (.k 4 h0 .nil) (.c c3 (.c c2 (.c c1 (.c c0 .nil))))
theorem q2s_0 (neg sg : Bool) (n d n1 d1 : List UInt8) (h0 : lit true (n1 == []) = true) (c0 : CO 71 [.agg [.bool neg, .str n, .str d]] (.ret (.agg [.bool sg, .str n1, .str d1]))) : CO 108 [.agg [.bool neg, .str n, .str d]] (.ret (.int .i64 0)) := pK [] 1 1 (.c h0 (.n 5 .nil)) (.c c0 .nil)
theorem q2s_1 (neg sg : Bool) (n d n1 d1 : List UInt8) (h0 : lit true sg = true) (h1 : lit false (n1 == []) = true) (c0 : CO 71 [.agg [.bool neg, .str n, .str d]] (.ret (.agg [.bool sg, .str n1, .str d1]))) : CO 108 [.agg [.bool neg, .str n, .str d]] (.ret (.int .i64 (-1))) := pK [] 2 2 (.c h0 (.k 1 h1 (.n 5 .nil))) (.c c0 .nil)
theorem q2s_2 (neg sg : Bool) (n d n1 d1 : List UInt8) (h0 : lit false sg = true) (h1 : lit false (n1 == []) = true) (c0 : CO 71 [.agg [.bool neg, .str n, .str d]] (.ret (.agg [.bool sg, .str n1, .str d1]))) : CO 108 [.agg [.bool neg, .str n, .str d]] (.ret (.int .i64 1)) := pK [] 2 0 (.c h0 (.k 1 h1 (.n 5 .nil))) (.c c0 .nil)
theorem sAdd_0 (s t : List UInt8) (x y z : Nat)  (c0 : CO 62 [.str s, .int .i64 7] (.ret (.tup [.int .i64 (x : Int), .bool true]))) (c1 : CO 62 [.str t, .int .i64 7] (.ret (.tup [.int .i64 (y : Int), .bool true]))) (c2 : CO 39 [.int .i64 (IntKind.wrap .i64 ((x : Int) + (y : Int)))] (.ret (.str (natS z)))) : CO 40 [.str s, .str t] (.ret (.str (natS z))) := pK [] 2 3 (.n 2 .nil) (.c c2 (.c c1 (.c c0 .nil)))
theorem sgn_one {x : Nat} : ((sgn x (valS (natS 1))) == ((0 : Nat) : Int)) = decide (x = 1) := by
 rw [val_natS]
 unfold sgn
 rcases Nat.lt_trichotomy x 1 with h | h | h
 ·rw [if_pos h, decide_eq_false (by omega)]; rfl
 ·rw [if_neg (by omega), if_neg (by omega), decide_eq_true h]; rfl
 ·rw [if_neg (by omega), if_pos h, decide_eq_false (by omega)]; rfl
theorem q2right_ok (neg : Bool) (n d : List UInt8) (hn : n.length < 2 ^ 33) (hd : d.length < 2 ^ 33) : CO 69 [.agg [.bool neg, .str n, .str d]] (.ret (.bool (isQ neg n d))) := by
 have h1 := rnR_ok n
 have h2 := rnR_ok d
 have h3 := rof_ok 1 (by omega)
 have hl1 : (natS 1).length ≤ 1 := natS_len (by omega)
 have hc := rcmp_s d (natS 1) (by omega) (by omega)
 have hg := rgcd_ok n d hn hd
 have hsg := @sgn_one (valS d)
 cases hbn : nR n with
 | false =>
  have e : isQ neg n d = false := by unfold isQ; rw [hbn]; rfl
  rw [e]
  exact q2r_0 neg n d 0 (by rw [hbn]; rfl) h1 h2
 | true =>
  cases hbd : nR d with
  | false =>
   have e : isQ neg n d = false := by unfold isQ; rw [hbd]; simp
   rw [e]
   exact q2r_1 neg n d 0 (by rw [hbd]; rfl) (by rw [hbn]; rfl) h1 h2
  | true =>
   have en := (nR_iff n).1 hbn
   have ed := (nR_iff d).1 hbd
   by_cases hd0 : d = []
   ·have e : isQ neg n d = false := by
     subst hd0; unfold isQ; simp [show valS [] = 0 from rfl]
    rw [e]
    exact q2r_2 neg n d 0 (by rw [hd0]; rfl) (by rw [hbd]; rfl) (by rw [hbn]; rfl) h1 h2
   ·have hdp : 0 < valS d := by
     rcases Nat.eq_zero_or_pos (valS d) with h | h
     ·rw [h, natS_zero] at ed; exact absurd ed.symm hd0
     ·exact h
    have hd0' : (d == []) = false := by simpa using hd0
    by_cases hn0 : n = []
    ·have hn0' : (n == []) = true := by simpa using hn0
     have hv0 : valS n = 0 := by rw [hn0]; rfl
     cases neg with
     | false =>
      have h := q2r_3 false n d 0 rfl (by rw [hn0']; rfl) (by rw [hd0']; rfl) (by rw [hbd]; rfl) (by rw [hbn]; rfl) h1 h2 h3 hc
      rw [hsg] at h
      have e : isQ false n d = decide (valS d = 1) := by
       rw [Bool.eq_iff_iff, isQ_iff, hv0, Nat.gcd_zero_left]
       simp [hbn, hbd]; omega
      rw [e]; exact h
     | true =>
      have h := q2r_4 true n d 0 rfl (by rw [hn0']; rfl) (by rw [hd0']; rfl) (by rw [hbd]; rfl) (by rw [hbn]; rfl) h1 h2
      have e : isQ true n d = false := by
       rw [Bool.eq_false_iff]; intro h
       have := (isQ_iff.1 h).2.2.2.2 rfl
       omega
      rw [e]; exact h
    ·have hn0' : (n == []) = false := by simpa using hn0
     have hnp : 0 < valS n := by
      rcases Nat.eq_zero_or_pos (valS n) with h | h
      ·rw [h, natS_zero] at en; exact absurd en.symm hn0
      ·exact h
     have hgl : (natS (Nat.gcd (valS n) (valS d))).length ≤ d.length := natS_le (Nat.gcd_le_right _ hdp)
     have hc2 := rcmp_s (natS (Nat.gcd (valS n) (valS d))) (natS 1) (by omega) (by omega)
     have h := q2r_5 neg n d (Nat.gcd (valS n) (valS d)) (by rw [hn0']; rfl) (by rw [hd0']; rfl) (by rw [hbd]; rfl) (by rw [hbn]; rfl) h1 h2 hg h3 hc2
     rw [sgn_one, val_natS] at h
     have e : isQ neg n d = decide (Nat.gcd (valS n) (valS d) = 1) := by
      rw [Bool.eq_iff_iff, isQ_iff]
      simp [hbn, hbd, hdp, hnp]
     rw [e]; exact h
theorem q2fits_ok (neg : Bool) (n d : List UInt8) (hn : n.length < 2 ^ 33) (hd : d.length < 2 ^ 33) : CO 45 [.agg [.bool neg, .str n, .str d]] (.ret (.bool (fitsQ neg n d))) := by
 have hr := q2right_ok neg n d hn hd
 have h1 := rbits_ok n (by omega)
 have h2 := rbits_ok d (by omega)
 unfold fitsQ
 cases hb : isQ neg n d with
 | false => exact q2f_2 neg n d (by rw [hb]; rfl) hr
 | true =>
  by_cases h3 : lenN (valS n) ≤ 400
  ·have h := q2f_0 neg n d (by rw [d_le, decide_eq_true h3]; rfl) (by rw [hb]; rfl) hr h1 h2
   rw [d_le] at h
   rw [decide_eq_true h3]
   exact h
  ·have h := q2f_1 neg n d (by rw [d_le, decide_eq_false h3]; rfl) (by rw [hb]; rfl) hr h1
   rw [decide_eq_false h3]
   exact h
structure RQ where
 neg : Bool
 n : Nat
 d : Nat
def RQ.ok (q : RQ) : Prop := 0 < q.d ∧ Nat.gcd q.n q.d = 1 ∧ (q.neg = true → 0 < q.n)
def qA (q : RQ) : AV := .agg [.bool q.neg, .str (natS q.n), .str (natS q.d)]
def q0 : RQ := ⟨false, 0, 1⟩
def lowQ (neg : Bool) (n d : Nat) : RQ := ⟨neg && decide (0 < n), n / Nat.gcd n d, d / Nat.gcd n d⟩
def vQ (neg : Bool) (n d : List UInt8) : RQ := if isQ neg n d = true then ⟨neg, valS n, valS d⟩ else q0
theorem isQ_of (q : RQ) (h : q.ok) : isQ q.neg (natS q.n) (natS q.d) = true := by
 rw [isQ_iff, val_natS, val_natS]
 exact ⟨nR_natS _, nR_natS _, h⟩
theorem isQ_agg {neg : Bool} {n d : List UInt8} (h : isQ neg n d = true) : AV.agg [.bool neg, .str n, .str d] = qA ⟨neg, valS n, valS d⟩ := by
 obtain ⟨h1, h2, _⟩ := isQ_iff.1 h
 unfold qA
 rw [(nR_iff n).1 h1, (nR_iff d).1 h2]
theorem low_okQ {neg : Bool} {n d : Nat} (h : 0 < d) : (lowQ neg n d).ok := by
 have hg : 0 < Nat.gcd n d := Nat.gcd_pos_of_pos_right _ h
 refine ⟨Nat.div_pos (Nat.gcd_le_right _ h) hg, ?_, ?_⟩
 ·show Nat.gcd (n / Nat.gcd n d) (d / Nat.gcd n d) = 1
  rw [Nat.gcd_div (Nat.gcd_dvd_left _ _) (Nat.gcd_dvd_right _ _), Nat.div_self hg]
 ·intro hn
  have : 0 < n := by simp [lowQ] at hn; exact hn.2
  exact Nat.div_pos (Nat.gcd_le_left _ this) hg
theorem q2val_ok (neg : Bool) (n d : List UInt8) (hn : n.length < 2 ^ 33) (hd : d.length < 2 ^ 33) : CO 71 [.agg [.bool neg, .str n, .str d]] (.ret (qA (vQ neg n d))) := by
 have hr := q2right_ok neg n d hn hd
 unfold vQ
 cases hb : isQ neg n d with
 | false =>
  have h := q2v_0 neg n d (by rw [hb]; rfl) hr (rof_ok 1 (by omega))
  rw [if_neg (by simp)]
  unfold qA q0
  rw [natS_zero]; exact h
 | true =>
  have h := q2v_1 neg n d (by rw [hb]; rfl) hr
  rw [if_pos rfl, ← isQ_agg hb]
  exact h
theorem q2low_ok (neg : Bool) (n d : Nat) (hn : (natS n).length < 2 ^ 33) (hd : (natS d).length < 2 ^ 33) (h0 : 0 < d) : CO 72 [.bool neg, .str (natS n), .str (natS d)] (.ret (qA (lowQ neg n d))) := by
 have hg := rgcd_ok (natS n) (natS d) hn hd
 rw [val_natS, val_natS] at hg
 have hgp : 0 < Nat.gcd n d := Nat.gcd_pos_of_pos_right _ h0
 have hgl : (natS (Nat.gcd n d)).length ≤ (natS d).length := natS_le (by rw [val_natS]; exact Nat.gcd_le_right _ h0)
 have q1 := rquo_ok (natS n) (natS (Nat.gcd n d)) hn (by omega) (by rw [val_natS]; exact hgp)
 have q2 := rquo_ok (natS d) (natS (Nat.gcd n d)) hd (by omega) (by rw [val_natS]; exact hgp)
 simp only [val_natS] at q1 q2
 rcases Nat.eq_zero_or_pos n with rfl | hp
 ·have h := q2l_0 neg (natS 0) (natS d) 0 (by rw [natS_zero]; rfl) (rof_ok 1 (by omega))
  unfold qA lowQ
  simp only [Nat.lt_irrefl, decide_false, Bool.and_false, Nat.gcd_zero_left, Nat.zero_div, Nat.div_self h0, natS_zero]
  rw [natS_zero] at h
  exact h
 ·have hne : natS n ≠ [] := fun h => by have := natS_eq_nil.1 h; omega
  have h := q2l_1 neg (natS n) (natS d) (Nat.gcd n d) (by simp [lit, hne])
  simp only [val_natS] at h
  unfold qA lowQ
  simp only [hp, decide_true, Bool.and_true]
  exact h hg q1 q2
def sgnR (q : RQ) : Int := if q.n = 0 then 0 else if q.neg then -1 else 1
theorem sgnQ_v (neg : Bool) (n d : List UInt8) : sgnQ neg n d = sgnR (vQ neg n d) := by
 unfold sgnQ sgnR vQ
 cases hb : isQ neg n d with
 | false => simp [q0]
 | true =>
  simp only [true_and, if_true]
  by_cases h : 0 < valS n
  ·have h' : ¬ valS n = 0 := by omega
   simp [h, h']
  ·have h' : valS n = 0 := by omega
   simp [h']
theorem q2sign_ok (neg : Bool) (n d : List UInt8) (hn : n.length < 2 ^ 33) (hd : d.length < 2 ^ 33) : CO 108 [.agg [.bool neg, .str n, .str d]] (.ret (.int .i64 (sgnQ neg n d))) := by
 have hv := q2val_ok neg n d hn hd
 rw [sgnQ_v]
 generalize vQ neg n d = q at *
 obtain ⟨sg, N, D⟩ := q
 unfold qA at hv
 unfold sgnR
 simp only at hv ⊢
 rcases Nat.eq_zero_or_pos N with rfl | hp
 ·rw [if_pos rfl]
  exact q2s_0 neg sg n d (natS 0) (natS D) (by rw [natS_zero]; rfl) hv
 ·have hne : natS N ≠ [] := fun h => by have := natS_eq_nil.1 h; omega
  have hne' : (natS N == []) = false := by simpa using hne
  rw [if_neg (by omega)]
  cases sg with
  | true => exact q2s_1 neg true n d (natS N) (natS D) rfl (by rw [hne']; rfl) hv
  | false => exact q2s_2 neg false n d (natS N) (natS D) rfl (by rw [hne']; rfl) hv
def eqS (neg : Bool) (n d : List UInt8) (a : Nat) : Bool := ((neg == false) && ((n == (natS a)) && ((d == (natS 1)) && true)))
theorem q2of (a : Nat) (ha : a < 9223372036854775808) : CO 19 [.int .i64 (a : Int)] (.ret (ratA false a 1)) :=
 q2o_0 (a : Int) 0 a (by simp [lit]) (rof_ok a ha) (rof_ok 1 (by omega))
theorem q2of0 : CO 19 [.int .i64 0] (.ret (ratA false 0 1)) := q2of 0 (by omega)
theorem q2of1 : CO 19 [.int .i64 1] (.ret (ratA false 1 1)) := q2of 1 (by omega)
structure Ty where
 tr : Bool
 m : Int
 d : Int
def tyC (t : Ty) : List AV := [.bool t.tr, .int .i64 t.m, .int .i64 t.d]
def unitQ (m d : Int) : Bool := decide (-3 ≤ m ∧ m ≤ 3 ∧ -3 ≤ d ∧ d ≤ 3)
def rightQ (t : Ty) : Bool := cond t.tr ((t.m == 0) && (t.d == 0)) (unitQ t.m t.d)
def valueQ (t : Ty) (neg : Bool) (n d : List UInt8) : Bool := rightQ t && (fitsQ neg n d && (!t.tr || (eqS neg n d 0 || eqS neg n d 1)))
theorem unit_ok (t : Ty) : CO 20 [.agg [.int .i64 t.m, .int .i64 t.d]] (.ret (.bool (unitQ t.m t.d))) := by
 rcases tf (decide ((if t.d > t.m then t.d else t.m) ≤ ((3 : Nat) : Int))) with b0 | b0
 ·have e : unitQ t.m t.d = (decide ((-3 : Int) ≤ (if t.d < t.m then t.d else t.m))) := by
   unfold unitQ
   simp only [decide_eq_true_eq, decide_eq_false_iff_not, beq_iff_eq, beq_eq_false_iff_ne] at *
   first | omega | (split at b0 <;> omega) | (rw [Bool.eq_iff_iff]; simp only [decide_eq_true_eq]; first | omega | (split at b0 <;> split <;> omega))
  rw [e]
  exact pK [] 1 1 (.k 2 (litT b0) (.n 2 .nil)) (.nil)
 ·have e : unitQ t.m t.d = false := by
   unfold unitQ
   simp only [decide_eq_true_eq, decide_eq_false_iff_not, beq_iff_eq, beq_eq_false_iff_ne] at *
   first | omega | (split at b0 <;> omega) | (rw [Bool.eq_iff_iff]; simp only [decide_eq_true_eq]; first | omega | (split at b0 <;> split <;> omega))
  rw [e]
  exact pK [] 1 0 (.c (litF b0) (.n 2 .nil)) (.nil)
theorem runit_ok (t : Ty) : CO 21 [.agg [.int .i64 t.m, .int .i64 t.d]] (.ret (.bool (unitQ t.m t.d))) := by
 rcases tf (decide ((-3 : Int) ≤ t.m)) with b0 | b0
 ·rcases tf (decide (t.m ≤ ((3 : Nat) : Int))) with b1 | b1
  ·rcases tf (decide ((-3 : Int) ≤ t.d)) with b2 | b2
   ·have e : unitQ t.m t.d = (decide (t.d ≤ ((3 : Nat) : Int))) := by
     unfold unitQ
     simp only [decide_eq_true_eq, decide_eq_false_iff_not, beq_iff_eq, beq_eq_false_iff_ne] at *
     first | omega | (split at b0 <;> omega) | (rw [Bool.eq_iff_iff]; simp only [decide_eq_true_eq]; first | omega | (split at b0 <;> split <;> omega))
    rw [e]
    exact pK [] 3 7 (.k 1 (litT b2) (.k 1 (litT b1) (.k 1 (litT b0) (.n 1 .nil)))) (.nil)
   ·have e : unitQ t.m t.d = false := by
     unfold unitQ
     simp only [decide_eq_true_eq, decide_eq_false_iff_not, beq_iff_eq, beq_eq_false_iff_ne] at *
     first | omega | (split at b0 <;> omega) | (rw [Bool.eq_iff_iff]; simp only [decide_eq_true_eq]; first | omega | (split at b0 <;> split <;> omega))
    rw [e]
    exact pK [] 3 3 (.c (litF b2) (.k 1 (litT b1) (.k 1 (litT b0) (.n 1 .nil)))) (.nil)
  ·have e : unitQ t.m t.d = false := by
    unfold unitQ
    simp only [decide_eq_true_eq, decide_eq_false_iff_not, beq_iff_eq, beq_eq_false_iff_ne] at *
    first | omega | (split at b0 <;> omega) | (rw [Bool.eq_iff_iff]; simp only [decide_eq_true_eq]; first | omega | (split at b0 <;> split <;> omega))
   rw [e]
   exact pK [] 3 1 (.k 1 (litF b1) (.k 1 (litT b0) (.n 1 .nil))) (.nil)
 ·have e : unitQ t.m t.d = false := by
   unfold unitQ
   simp only [decide_eq_true_eq, decide_eq_false_iff_not, beq_iff_eq, beq_eq_false_iff_ne] at *
   first | omega | (split at b0 <;> omega) | (rw [Bool.eq_iff_iff]; simp only [decide_eq_true_eq]; first | omega | (split at b0 <;> split <;> omega))
  rw [e]
  exact pK [] 3 0 (.k 2 (litF b0) (.n 1 .nil)) (.nil)
theorem right_tok (t : Ty) : CO 41 [.agg (tyC t)] (.ret (.bool (rightQ t))) := by
 rcases tf t.tr with b0 | b0
 ·have e : rightQ t = ((t.tr == true) && ((t.m == ((0 : Nat) : Int)) && ((t.d == ((0 : Nat) : Int)) && true))) := by first | (simp only [rightQ, b0] <;> rfl) | (unfold rightQ; rw [b0]; simp [b0])
  rw [e]
  exact pK [] 1 1 (.k 6 (litT b0) (.n 1 .nil)) (.nil)
 ·have e : rightQ t = (unitQ t.m t.d) := by first | (simp only [rightQ, b0] <;> rfl) | (unfold rightQ; rw [b0]; simp [b0])
  rw [e]
  exact pK [] 1 0 (.k 2 (litF b0) (.n 1 .nil)) (.c (unit_ok t) .nil)
theorem rright_tok (t : Ty) : CO 44 [.agg (tyC t)] (.ret (.bool (rightQ t))) := by
 rcases tf ((t.tr == true) && ((t.m == ((0 : Nat) : Int)) && ((t.d == ((0 : Nat) : Int)) && true))) with b0 | b0
 ·have e : rightQ t = true := by first | (simp only [rightQ, b0] <;> rfl) | (unfold rightQ; cases htr : t.tr <;> simp_all)
  rw [e]
  exact pK [] 1 1 (.c (litT b0) (.n 3 .nil)) (.nil)
 ·rcases tf t.tr with b1 | b1
  ·have e : rightQ t = false := by first | (simp only [rightQ, b0, b1] <;> rfl) | (unfold rightQ; cases htr : t.tr <;> simp_all)
   rw [e]
   exact pK [] 2 0 (.c (litNF b1) (.k 1 (litF b0) (.n 3 .nil))) (.nil)
  ·have e : rightQ t = (unitQ t.m t.d) := by first | (simp only [rightQ, b0, b1] <;> rfl) | (unfold rightQ; cases htr : t.tr <;> simp_all)
   rw [e]
   exact pK [] 2 2 (.k 2 (litNT b1) (.k 1 (litF b0) (.n 3 .nil))) (.c (runit_ok t) .nil)
theorem value_ok (t : Ty) (neg : Bool) (n d : List UInt8) (hn : n.length < 2 ^ 33) (hd : d.length < 2 ^ 33) : CO 22 [.agg (tyC t), .agg [.bool neg, .str n, .str d]] (.ret (.bool (valueQ t neg n d))) := by
 rcases tf (rightQ t) with b0 | b0
 ·rcases tf (fitsQ neg n d) with b1 | b1
  ·rcases tf t.tr with b2 | b2
   ·rcases tf ((neg == false) && ((n == (natS 0)) && ((d == (natS 1)) && true))) with b3 | b3
    ·have e : valueQ t neg n d = true := by first | (simp only [valueQ, eqS, b0, b1, b2, b3] <;> rfl)
     rw [e]
     exact pK [] 4 11 (.c (litT b3) (.k 3 (litNF b2) (.k 1 (litT b1) (.k 3 (litT b0) (.n 3 .nil))))) (.c (ratof0) (.c (fits_ok neg n d (Nat.lt_trans hn (by decide)) (Nat.lt_trans hd (by decide))) (.c (right_tok t) .nil)))
    ·have e : valueQ t neg n d = ((neg == false) && ((n == (natS 1)) && ((d == (natS 1)) && true))) := by first | (simp only [valueQ, eqS, b0, b1, b2, b3] <;> rfl)
     rw [e]
     exact pK [] 4 3 (.k 3 (litF b3) (.k 3 (litNF b2) (.k 1 (litT b1) (.k 3 (litT b0) (.n 3 .nil))))) (.c (ratof1) (.c (ratof0) (.c (fits_ok neg n d (Nat.lt_trans hn (by decide)) (Nat.lt_trans hd (by decide))) (.c (right_tok t) .nil))))
   ·have e : valueQ t neg n d = true := by first | (simp only [valueQ, eqS, b0, b1, b2] <;> rfl)
    rw [e]
    exact pK [] 4 15 (.k 1 (litNT b2) (.k 1 (litT b1) (.k 3 (litT b0) (.n 3 .nil)))) (.c (fits_ok neg n d (Nat.lt_trans hn (by decide)) (Nat.lt_trans hd (by decide))) (.c (right_tok t) .nil))
  ·have e : valueQ t neg n d = false := by first | (simp only [valueQ, eqS, b0, b1] <;> rfl)
   rw [e]
   exact pK [] 2 1 (.c (litF b1) (.k 3 (litT b0) (.n 3 .nil))) (.c (fits_ok neg n d (Nat.lt_trans hn (by decide)) (Nat.lt_trans hd (by decide))) (.c (right_tok t) .nil))
 ·have e : valueQ t neg n d = false := by first | (simp only [valueQ, eqS, b0] <;> rfl)
  rw [e]
  exact pK [] 2 0 (.k 1 (litF b0) (.n 3 .nil)) (.c (right_tok t) .nil)
def ascL : List UInt8 := [97, 98, 99, 100, 101, 102, 103, 104, 105, 106, 107, 108, 109, 110, 111, 112, 113, 114, 115, 116, 117, 118, 119, 120, 121, 122, 48, 49, 50, 51, 52, 53, 54, 55, 56, 57, 95]
def asc : List AV := [.bool false, .bool false, .bool false, .bool false, .bool false, .bool false, .bool false, .bool false, .bool false, .bool false, .bool false, .bool false, .bool false, .bool false, .bool false, .bool false, .bool false, .bool false, .bool false, .bool false, .bool false, .bool false, .bool false, .bool false, .bool false, .bool false, .bool false, .bool false, .bool false, .bool false, .bool false, .bool false, .bool false, .bool false, .bool false, .bool false, .bool false, .bool false, .bool false, .bool false, .bool false, .bool false, .bool false, .bool false, .bool false, .bool false, .bool false, .bool false, .bool true, .bool true, .bool true, .bool true, .bool true, .bool true, .bool true, .bool true, .bool true, .bool true, .bool false, .bool false, .bool false, .bool false, .bool false, .bool false, .bool false, .bool false, .bool false, .bool false, .bool false, .bool false, .bool false, .bool false, .bool false, .bool false, .bool false, .bool false, .bool false, .bool false, .bool false, .bool false, .bool false, .bool false, .bool false, .bool false, .bool false, .bool false, .bool false, .bool false, .bool false, .bool false, .bool false, .bool false, .bool false, .bool false, .bool false, .bool true, .bool false, .bool true, .bool true, .bool true, .bool true, .bool true, .bool true, .bool true, .bool true, .bool true, .bool true, .bool true, .bool true, .bool true, .bool true, .bool true, .bool true, .bool true, .bool true, .bool true, .bool true, .bool true, .bool true, .bool true, .bool true, .bool true, .bool true, .bool false, .bool false, .bool false, .bool false, .bool false, .bool false, .bool false, .bool false, .bool false, .bool false, .bool false, .bool false, .bool false, .bool false, .bool false, .bool false, .bool false, .bool false, .bool false, .bool false, .bool false, .bool false, .bool false, .bool false, .bool false, .bool false, .bool false, .bool false, .bool false, .bool false, .bool false, .bool false, .bool false, .bool false, .bool false, .bool false, .bool false, .bool false, .bool false, .bool false, .bool false, .bool false, .bool false, .bool false, .bool false, .bool false, .bool false, .bool false, .bool false, .bool false, .bool false, .bool false, .bool false, .bool false, .bool false, .bool false, .bool false, .bool false, .bool false, .bool false, .bool false, .bool false, .bool false, .bool false, .bool false, .bool false, .bool false, .bool false, .bool false, .bool false, .bool false, .bool false, .bool false, .bool false, .bool false, .bool false, .bool false, .bool false, .bool false, .bool false, .bool false, .bool false, .bool false, .bool false, .bool false, .bool false, .bool false, .bool false, .bool false, .bool false, .bool false, .bool false, .bool false, .bool false, .bool false, .bool false, .bool false, .bool false, .bool false, .bool false, .bool false, .bool false, .bool false, .bool false, .bool false, .bool false, .bool false, .bool false, .bool false, .bool false, .bool false, .bool false, .bool false, .bool false, .bool false, .bool false, .bool false, .bool false, .bool false, .bool false, .bool false, .bool false, .bool false, .bool false, .bool false, .bool false, .bool false, .bool false, .bool false, .bool false, .bool false, .bool false, .bool false]
theorem asc_ok : CO 132 [.str ascL] (.ret (.tup [.agg asc, .bool true])) := closed_ok good (lf := 3000) (n := 4) (ans := []) .nil (by kernel_rfl)
theorem con_0 (xs : List AV) (c : Nat) (h0 : (chk .bool (List.headD (List.drop (0 + ((Int.toNat (c : Int)) * 1)) xs) .dead)) = true) (h1 : (decide (((0 : Nat) : Int) ≤ (c : Int))) = true) (h2 : (decide ((c : Int) < ((256 : Nat) : Int))) = true)  : CO 145 [.pp xs 0, .int .u8 (c : Int)] (.ret (.bool (AV.toBool (List.headD (List.drop (0 + ((Int.toNat (c : Int)) * 1)) xs) .dead)))) := pK [] 0 0 (.c h0 (.c h1 (.c h2 .nil))) (.nil)
theorem tl_0 {nt : Nat} (hn : 16 ≤ nt) (s : List UInt8) (xs : List AV) (b : Bool) (h0 : lit true (!b) = true) (h1 : (decide (((0 : Nat) : Int) < (((List.length s) : Nat) : Int))) = true) (h2 : lit true (decide (((0 : Nat) : Int) < (((List.length s) : Nat) : Int))) = true) (c0 : CO 145 [.pp xs 0, .int .u8 ((UInt8.toNat (List.getD s 0 0) : Nat) : Int)] (.ret (.bool b))) : ExecOk prog ap [] nt (loopBody 0 (bodyOf f133)) ⟨[(0, .str s), (1, .pp xs 0)], [], .dead, []⟩ (.exit 0) ⟨[(0, .str s)], [], .dead, []⟩ := pJ 133 [] 2 3 (.c h0 (.k 1 h1 (.c h2 .nil))) (.c c0 .nil) hn
theorem tl_1 {nt : Nat} (hn : 16 ≤ nt) (s : List UInt8) (xs : List AV) (b : Bool) (h0 : (decide (((1 : Nat) : Int) ≤ (((List.length s) : Nat) : Int))) = true) (h1 : (decide ((((List.length s) : Nat) : Int) ≤ (((List.length s) : Nat) : Int))) = true) (h2 : lit false (!b) = true) (h3 : (decide (((0 : Nat) : Int) < (((List.length s) : Nat) : Int))) = true) (h4 : lit true (decide (((0 : Nat) : Int) < (((List.length s) : Nat) : Int))) = true) (c0 : CO 145 [.pp xs 0, .int .u8 ((UInt8.toNat (List.getD s 0 0) : Nat) : Int)] (.ret (.bool b))) : ExecOk prog ap [] nt (loopBody 0 (bodyOf f133)) ⟨[(0, .str s), (1, .pp xs 0)], [], .dead, []⟩ (.normal) ⟨[(0, .str (List.drop 1 (List.take (Int.toNat (((List.length s) : Nat) : Int)) s))), (1, .pp xs 0)], [], .dead, []⟩ := pJ 133 [] 2 1 (.k 1 h0 (.c h1 (.c h2 (.k 1 h3 (.c h4 .nil))))) (.c c0 .nil) hn
theorem tl_2 {nt : Nat} (hn : 16 ≤ nt) (s : List UInt8) (xs : List AV) (b : Bool) (h0 : lit false (decide (((0 : Nat) : Int) < (((List.length s) : Nat) : Int))) = true)  : ExecOk prog ap [] nt (loopBody 0 (bodyOf f133)) ⟨[(0, .str s), (1, .pp xs 0)], [], .dead, []⟩ (.exit 0) ⟨[(0, .str s)], [], .dead, []⟩ := pJ 133 [] 1 0 (.c h0 .nil) (.nil) hn
theorem tlF_0 (s r : List UInt8) (xs : List AV)  (l0 : LoopOk prog ap [] 16 (.block 0 (.loop (loopBody 0 (bodyOf f133)))) ⟨[(0, .str s), (1, .pp xs 0), (4, .str []), (7, .dead), (12, .dead)], [], .dead, []⟩ (.normal) ⟨[(0, .str r)], [], .dead, []⟩) : CO 133 [.str s, .pp xs 0] (.ret (.str r)) := pK [0] 0 0 .nil (.l l0 .nil)
theorem tr_0 {nt : Nat} (hn : 22 ≤ nt) (s : List UInt8) (xs : List AV) (b : Bool) (h0 : lit true (!b) = true) (h1 : (decide (((0 : Nat) : Int) ≤ (IntKind.wrap .i64 ((((List.length s) : Nat) : Int) - ((1 : Nat) : Int))))) = true) (h2 : (decide ((IntKind.wrap .i64 ((((List.length s) : Nat) : Int) - ((1 : Nat) : Int))) < (((List.length s) : Nat) : Int))) = true) (h3 : lit true (decide (((0 : Nat) : Int) < (((List.length s) : Nat) : Int))) = true) (c0 : CO 145 [.pp xs 0, .int .u8 ((UInt8.toNat (List.getD s (Int.toNat (IntKind.wrap .i64 ((((List.length s) : Nat) : Int) - ((1 : Nat) : Int)))) 0) : Nat) : Int)] (.ret (.bool b))) : ExecOk prog ap [] nt (loopBody 0 (bodyOf f136)) ⟨[(0, .str s), (1, .pp xs 0)], [], .dead, []⟩ (.exit 0) ⟨[(0, .str s)], [], .dead, []⟩ := pJ 136 [] 2 3 (.c h0 (.c h1 (.c h2 (.c h3 .nil)))) (.c c0 .nil) hn
theorem tr_1 {nt : Nat} (hn : 22 ≤ nt) (s : List UInt8) (xs : List AV) (b : Bool) (h0 : (decide (((0 : Nat) : Int) ≤ (IntKind.wrap .i64 ((((List.length s) : Nat) : Int) - ((1 : Nat) : Int))))) = true) (h1 : (decide ((IntKind.wrap .i64 ((((List.length s) : Nat) : Int) - ((1 : Nat) : Int))) ≤ (((List.length s) : Nat) : Int))) = true) (h2 : lit false (!b) = true) (h3 : (decide ((IntKind.wrap .i64 ((((List.length s) : Nat) : Int) - ((1 : Nat) : Int))) < (((List.length s) : Nat) : Int))) = true) (h4 : lit true (decide (((0 : Nat) : Int) < (((List.length s) : Nat) : Int))) = true) (c0 : CO 145 [.pp xs 0, .int .u8 ((UInt8.toNat (List.getD s (Int.toNat (IntKind.wrap .i64 ((((List.length s) : Nat) : Int) - ((1 : Nat) : Int)))) 0) : Nat) : Int)] (.ret (.bool b))) : ExecOk prog ap [] nt (loopBody 0 (bodyOf f136)) ⟨[(0, .str s), (1, .pp xs 0)], [], .dead, []⟩ (.normal) ⟨[(0, .str (List.drop 0 (List.take (Int.toNat (IntKind.wrap .i64 ((((List.length s) : Nat) : Int) - ((1 : Nat) : Int)))) s))), (1, .pp xs 0)], [], .dead, []⟩ := pJ 136 [] 2 1 (.k 1 h0 (.c h1 (.c h2 (.c h0 (.c h3 (.c h4 .nil)))))) (.c c0 .nil) hn
theorem tr_2 {nt : Nat} (hn : 22 ≤ nt) (s : List UInt8) (xs : List AV) (b : Bool) (h0 : lit false (decide (((0 : Nat) : Int) < (((List.length s) : Nat) : Int))) = true)  : ExecOk prog ap [] nt (loopBody 0 (bodyOf f136)) ⟨[(0, .str s), (1, .pp xs 0)], [], .dead, []⟩ (.exit 0) ⟨[(0, .str s)], [], .dead, []⟩ := pJ 136 [] 1 0 (.c h0 .nil) (.nil) hn
theorem trF_0 (s r : List UInt8) (xs : List AV)  (l0 : LoopOk prog ap [] 22 (.block 0 (.loop (loopBody 0 (bodyOf f136)))) ⟨[(0, .str s), (1, .pp xs 0), (4, .str []), (7, .dead), (15, .dead)], [], .dead, []⟩ (.normal) ⟨[(0, .str r)], [], .dead, []⟩) : CO 136 [.str s, .pp xs 0] (.ret (.str r)) := pK [0] 0 0 .nil (.l l0 .nil)
def ascB : List Bool := [false, false, false, false, false, false, false, false, false, false, false, false, false, false, false, false, false, false, false, false, false, false, false, false, false, false, false, false, false, false, false, false, false, false, false, false, false, false, false, false, false, false, false, false, false, false, false, false, true, true, true, true, true, true, true, true, true, true, false, false, false, false, false, false, false, false, false, false, false, false, false, false, false, false, false, false, false, false, false, false, false, false, false, false, false, false, false, false, false, false, false, false, false, false, false, true, false, true, true, true, true, true, true, true, true, true, true, true, true, true, true, true, true, true, true, true, true, true, true, true, true, true, true, false, false, false, false, false, false, false, false, false, false, false, false, false, false, false, false, false, false, false, false, false, false, false, false, false, false, false, false, false, false, false, false, false, false, false, false, false, false, false, false, false, false, false, false, false, false, false, false, false, false, false, false, false, false, false, false, false, false, false, false, false, false, false, false, false, false, false, false, false, false, false, false, false, false, false, false, false, false, false, false, false, false, false, false, false, false, false, false, false, false, false, false, false, false, false, false, false, false, false, false, false, false, false, false, false, false, false, false, false, false, false, false, false, false, false, false, false, false, false, false, false, false, false, false, false, false, false, false, false, false, false, false, false]
theorem asc_eq : asc = ascB.map AV.bool := rfl
def inN (c : Nat) : Bool := (decide (97 ≤ c) && decide (c ≤ 122)) || (decide (48 ≤ c) && decide (c ≤ 57)) || decide (c = 95)
def inSet (c : UInt8) : Bool := inN c.toNat
theorem ascB_at : ∀ i : Fin 256, ascB.getD i.val false = inN i.val := by decide
theorem con_ok (c : UInt8) : CO 145 [.pp asc 0, .int .u8 (c.toNat : Int)] (.ret (.bool (inSet c))) := by
 have hc : c.toNat < 256 := UInt8.toNat_lt c
 have hl : ascB.length = 256 := by decide
 have hh : List.headD (List.drop c.toNat asc) .dead = .bool (inSet c) := by
  have h1 := ascB_at ⟨c.toNat, hc⟩
  simp only at h1
  rw [asc_eq, ← List.map_drop, List.drop_eq_getElem_cons (by omega), List.map_cons, List.headD_cons]
  rw [List.getD_eq_getElem?_getD, List.getElem?_eq_getElem (by omega)] at h1
  unfold inSet
  rw [← h1]; rfl
 have h := con_0 asc c.toNat
 rw [c_toNat, Nat.zero_add, Nat.mul_one, hh] at h
 exact h rfl (by rw [d_le]; exact decide_eq_true (by omega)) (by rw [d_lt]; exact decide_eq_true hc)
def slSt (s : List UInt8) : St := ⟨[(0, .str s), (1, .pp asc 0)], [], .dead, []⟩
def slOut (s : List UInt8) : St := ⟨[(0, .str s)], [], .dead, []⟩
theorem tl_loop {nt : Nat} (hn : 16 ≤ nt) : ∀ (s : List UInt8), s.length < 2 ^ 40 → LoopR prog ap [] nt (loopBody 0 (bodyOf f133)) (fun _ => .exit 0) slSt slOut s (s.dropWhile inSet) := by
 intro s
 induction s with
 | nil => exact fun _ => .done (tl_2 hn [] asc true rfl)
 | cons c s ih =>
  intro hl
  simp only [List.length_cons] at hl
  rw [List.dropWhile_cons]
  have hc := con_ok c
  cases hb : inSet c with
  | true =>
   rw [hb] at hc
   refine .next ?_ (by simpa using ih (by omega))
   have h := tl_1 hn (c :: s) asc true
   have e1 : List.drop 1 (List.take (s.length + 1) (c :: s)) = s := by simp
   simp only [List.length_cons, List.getD_cons_zero] at h
   simp (disch := first | omega | (simp [u32L_length, u8L_length] <;> omega)) only [d_le, dec_t, Bool.not_true, lit_f, Bool.not_false, d_lt, lit_t, c_toNat, e1] at h
   apply h <;> first | exact True.intro | omega | assumption | exact rfl
  | false =>
   rw [hb] at hc
   refine .done ?_
   have h := tl_0 hn (c :: s) asc false
   simp only [List.length_cons, List.getD_cons_zero] at h
   simp (disch := first | omega | (simp [u32L_length, u8L_length] <;> omega)) only [Bool.not_false, lit_t, d_lt, dec_t] at h
   apply h <;> first | exact True.intro | omega | assumption | exact rfl
def trR (s : List UInt8) : List UInt8 := (s.reverse.dropWhile inSet).reverse
theorem trR_snoc (s : List UInt8) (c : UInt8) : trR (s ++ [c]) = if inSet c = true then trR s else s ++ [c] := by
 unfold trR
 rw [List.reverse_append]
 simp only [List.reverse_cons, List.reverse_nil, List.nil_append, List.singleton_append, List.dropWhile_cons]
 by_cases h : inSet c = true
 ·simp [h]
 ·simp [h]
theorem tr_loop {nt : Nat} (hn : 22 ≤ nt) : ∀ (k : Nat) (s : List UInt8), s.length = k → k < 2 ^ 40 → LoopR prog ap [] nt (loopBody 0 (bodyOf f136)) (fun _ => .exit 0) slSt slOut s (trR s) := by
 intro k
 induction k with
 | zero =>
  intro s hs _
  have : s = [] := List.eq_nil_of_length_eq_zero hs
  subst this
  exact .done (tr_2 hn [] asc true rfl)
 | succ k ih =>
  intro s hs hk
  rcases List.eq_nil_or_concat s with rfl | ⟨s', c, rfl⟩
  ·simp at hs
  ·rw [List.concat_eq_append] at hs ⊢
   have hs' : s'.length = k := by simpa using hs
   rw [trR_snoc]
   have hc := con_ok c
   have hg : (s' ++ [c]).getD s'.length 0 = c := by simp
   have e1 : s'.length + 1 - 1 = s'.length := rfl
   have htk : List.take s'.length (s' ++ [c]) = s' := by simp
   cases hb : inSet c with
   | true =>
    rw [hb] at hc
    rw [if_pos rfl]
    refine .next ?_ (ih s' hs' (by omega))
    have h := tr_1 hn (s' ++ [c]) asc true
    simp (disch := first | omega | (simp [u32L_length, u8L_length] <;> omega)) only [List.length_append, List.length_cons, List.length_nil, Nat.zero_add, w64_sub, e1, d_le, dec_t, Bool.not_true, lit_f, Bool.not_false, d_lt, lit_t, c_toNat, hg, htk, List.drop_zero] at h
    apply h <;> first | exact True.intro | omega | assumption | exact rfl
   | false =>
    rw [hb] at hc
    rw [if_neg (by simp)]
    refine .done ?_
    have h := tr_0 hn (s' ++ [c]) asc false
    simp (disch := first | omega | (simp [u32L_length, u8L_length] <;> omega)) only [Bool.not_false, lit_t, List.length_append, List.length_cons, List.length_nil, Nat.zero_add, w64_sub, e1, d_le, dec_t, d_lt, c_toNat, hg] at h
    apply h <;> first | exact True.intro | omega | assumption | exact rfl
theorem trimF_0 (s u v : List UInt8) (h0 : lit true (s == []) = true)  : CO 128 [.str s, .str ascL] (.ret (.str s)) := pK [] 2 3 (.k 1 h0 .nil) (.nil)
theorem trimF_1 (s u v : List UInt8) (h0 : lit false (s == []) = true) (c0 : CO 132 [.str ascL] (.ret (.tup [.agg asc, .bool true]))) (c1 : CO 136 [.str s, .pp asc 0] (.ret (.str u))) (c2 : CO 133 [.str u, .pp asc 0] (.ret (.str v))) : CO 128 [.str s, .str ascL] (.ret (.str v)) := pK [] 5 16 (.k 5 h0 .nil) (.c c2 (.c c1 (.c c0 .nil)))
theorem nameF_0 (s v : List UInt8) (h0 : lit true (s == []) = true)  : CO 111 [.str s] (.ret (.bool false)) := pK [] 4 15 (.k 3 h0 .nil) (.nil)
theorem nameF_1 (s v : List UInt8) (h0 : lit true (decide (((20 : Nat) : Int) < (((List.length s) : Nat) : Int))) = true) (h1 : lit false (s == []) = true)  : CO 111 [.str s] (.ret (.bool false)) := pK [] 4 14 (.k 2 h0 (.c h1 .nil)) (.nil)
theorem nameF_2 (s v : List UInt8) (h0 : lit true (decide (((UInt8.toNat (List.getD s 0 0) : Nat) : Int) < ((97 : Nat) : Int))) = true) (h1 : (decide (((0 : Nat) : Int) < (((List.length s) : Nat) : Int))) = true) (h2 : lit false (decide (((20 : Nat) : Int) < (((List.length s) : Nat) : Int))) = true) (h3 : lit false (s == []) = true)  : CO 111 [.str s] (.ret (.bool false)) := pK [] 4 12 (.k 1 h0 (.k 1 h1 (.c h2 (.c h3 .nil)))) (.nil)
theorem nameF_3 (s v : List UInt8) (h0 : lit true (decide (((122 : Nat) : Int) < ((UInt8.toNat (List.getD s 0 0) : Nat) : Int))) = true) (h1 : (decide (((0 : Nat) : Int) < (((List.length s) : Nat) : Int))) = true) (h2 : lit false (decide (((UInt8.toNat (List.getD s 0 0) : Nat) : Int) < ((97 : Nat) : Int))) = true) (h3 : lit false (decide (((20 : Nat) : Int) < (((List.length s) : Nat) : Int))) = true) (h4 : lit false (s == []) = true)  : CO 111 [.str s] (.ret (.bool false)) := pK [] 4 8 (.c h0 (.k 1 h1 (.c h2 (.k 1 h1 (.c h3 (.c h4 .nil)))))) (.nil)
theorem nameF_4 (s v : List UInt8) (h0 : lit false (decide (((122 : Nat) : Int) < ((UInt8.toNat (List.getD s 0 0) : Nat) : Int))) = true) (h1 : (decide (((0 : Nat) : Int) < (((List.length s) : Nat) : Int))) = true) (h2 : lit false (decide (((UInt8.toNat (List.getD s 0 0) : Nat) : Int) < ((97 : Nat) : Int))) = true) (h3 : lit false (decide (((20 : Nat) : Int) < (((List.length s) : Nat) : Int))) = true) (h4 : lit false (s == []) = true) (c0 : CO 128 [.str s, .str ascL] (.ret (.str v))) : CO 111 [.str s] (.ret (.bool (v == []))) := pK [] 4 0 (.c h0 (.k 1 h1 (.c h2 (.k 1 h1 (.c h3 (.c h4 .nil)))))) (.c c0 .nil)
theorem rnm_0 {nt : Nat} (hn : 50 ≤ nt) (s : List UInt8) (k : Nat) (h0 : lit true (!(((UInt8.toNat (List.getD s (Int.toNat (k : Int)) 0) : Nat) : Int) == ((95 : Nat) : Int))) = true) (h1 : lit true (decide (((UInt8.toNat (List.getD s (Int.toNat (k : Int)) 0) : Nat) : Int) < ((48 : Nat) : Int))) = true) (h2 : lit true (decide (((UInt8.toNat (List.getD s (Int.toNat (k : Int)) 0) : Nat) : Int) < ((97 : Nat) : Int))) = true) (h3 : (decide (((0 : Nat) : Int) ≤ (k : Int))) = true) (h4 : (decide ((k : Int) < (((List.length s) : Nat) : Int))) = true) (h5 : lit true (decide ((k : Int) < (((List.length s) : Nat) : Int))) = true)  : ExecOk prog ap [] nt (loopBody 0 (bodyOf f76)) ⟨[(0, .str s), (3, .int .i64 (k : Int))], [], .dead, []⟩ (.ret) ⟨[(2, .bool false)], [], .dead, []⟩ := pJ 76 [] 6 63 (.c h0 (.k 1 h1 (.k 1 h2 (.c h3 (.c h4 (.c h5 .nil)))))) (.nil) hn
theorem rnm_1 {nt : Nat} (hn : 50 ≤ nt) (s : List UInt8) (k : Nat) (h0 : lit false (!(((UInt8.toNat (List.getD s (Int.toNat (k : Int)) 0) : Nat) : Int) == ((95 : Nat) : Int))) = true) (h1 : lit true (decide (((UInt8.toNat (List.getD s (Int.toNat (k : Int)) 0) : Nat) : Int) < ((48 : Nat) : Int))) = true) (h2 : lit true (decide (((UInt8.toNat (List.getD s (Int.toNat (k : Int)) 0) : Nat) : Int) < ((97 : Nat) : Int))) = true) (h3 : (decide (((0 : Nat) : Int) ≤ (k : Int))) = true) (h4 : (decide ((k : Int) < (((List.length s) : Nat) : Int))) = true) (h5 : lit true (decide ((k : Int) < (((List.length s) : Nat) : Int))) = true)  : ExecOk prog ap [] nt (loopBody 0 (bodyOf f76)) ⟨[(0, .str s), (3, .int .i64 (k : Int))], [], .dead, []⟩ (.normal) ⟨[(0, .str s), (3, .int .i64 (IntKind.wrap .i64 ((k : Int) + ((1 : Nat) : Int))))], [], .dead, []⟩ := pJ 76 [] 6 31 (.c h0 (.k 1 h1 (.k 1 h2 (.c h3 (.c h4 (.c h5 .nil)))))) (.nil) hn
theorem rnm_2 {nt : Nat} (hn : 50 ≤ nt) (s : List UInt8) (k : Nat) (h0 : lit true (!(((UInt8.toNat (List.getD s (Int.toNat (k : Int)) 0) : Nat) : Int) == ((95 : Nat) : Int))) = true) (h1 : lit true (decide (((57 : Nat) : Int) < ((UInt8.toNat (List.getD s (Int.toNat (k : Int)) 0) : Nat) : Int))) = true) (h2 : lit false (decide (((UInt8.toNat (List.getD s (Int.toNat (k : Int)) 0) : Nat) : Int) < ((48 : Nat) : Int))) = true) (h3 : lit true (decide (((UInt8.toNat (List.getD s (Int.toNat (k : Int)) 0) : Nat) : Int) < ((97 : Nat) : Int))) = true) (h4 : (decide (((0 : Nat) : Int) ≤ (k : Int))) = true) (h5 : (decide ((k : Int) < (((List.length s) : Nat) : Int))) = true) (h6 : lit true (decide ((k : Int) < (((List.length s) : Nat) : Int))) = true)  : ExecOk prog ap [] nt (loopBody 0 (bodyOf f76)) ⟨[(0, .str s), (3, .int .i64 (k : Int))], [], .dead, []⟩ (.ret) ⟨[(2, .bool false)], [], .dead, []⟩ := pJ 76 [] 6 55 (.c h0 (.c h1 (.c h2 (.k 1 h3 (.c h4 (.c h5 (.c h6 .nil))))))) (.nil) hn
theorem rnm_3 {nt : Nat} (hn : 50 ≤ nt) (s : List UInt8) (k : Nat) (h0 : lit false (!(((UInt8.toNat (List.getD s (Int.toNat (k : Int)) 0) : Nat) : Int) == ((95 : Nat) : Int))) = true) (h1 : lit true (decide (((57 : Nat) : Int) < ((UInt8.toNat (List.getD s (Int.toNat (k : Int)) 0) : Nat) : Int))) = true) (h2 : lit false (decide (((UInt8.toNat (List.getD s (Int.toNat (k : Int)) 0) : Nat) : Int) < ((48 : Nat) : Int))) = true) (h3 : lit true (decide (((UInt8.toNat (List.getD s (Int.toNat (k : Int)) 0) : Nat) : Int) < ((97 : Nat) : Int))) = true) (h4 : (decide (((0 : Nat) : Int) ≤ (k : Int))) = true) (h5 : (decide ((k : Int) < (((List.length s) : Nat) : Int))) = true) (h6 : lit true (decide ((k : Int) < (((List.length s) : Nat) : Int))) = true)  : ExecOk prog ap [] nt (loopBody 0 (bodyOf f76)) ⟨[(0, .str s), (3, .int .i64 (k : Int))], [], .dead, []⟩ (.normal) ⟨[(0, .str s), (3, .int .i64 (IntKind.wrap .i64 ((k : Int) + ((1 : Nat) : Int))))], [], .dead, []⟩ := pJ 76 [] 6 23 (.c h0 (.c h1 (.c h2 (.k 1 h3 (.c h4 (.c h5 (.c h6 .nil))))))) (.nil) hn
theorem rnm_4 {nt : Nat} (hn : 50 ≤ nt) (s : List UInt8) (k : Nat) (h0 : lit false (decide (((57 : Nat) : Int) < ((UInt8.toNat (List.getD s (Int.toNat (k : Int)) 0) : Nat) : Int))) = true) (h1 : lit false (decide (((UInt8.toNat (List.getD s (Int.toNat (k : Int)) 0) : Nat) : Int) < ((48 : Nat) : Int))) = true) (h2 : lit true (decide (((UInt8.toNat (List.getD s (Int.toNat (k : Int)) 0) : Nat) : Int) < ((97 : Nat) : Int))) = true) (h3 : (decide (((0 : Nat) : Int) ≤ (k : Int))) = true) (h4 : (decide ((k : Int) < (((List.length s) : Nat) : Int))) = true) (h5 : lit true (decide ((k : Int) < (((List.length s) : Nat) : Int))) = true)  : ExecOk prog ap [] nt (loopBody 0 (bodyOf f76)) ⟨[(0, .str s), (3, .int .i64 (k : Int))], [], .dead, []⟩ (.normal) ⟨[(0, .str s), (3, .int .i64 (IntKind.wrap .i64 ((k : Int) + ((1 : Nat) : Int))))], [], .dead, []⟩ := pJ 76 [] 6 7 (.k 1 h0 (.c h1 (.k 1 h2 (.c h3 (.c h4 (.c h5 .nil)))))) (.nil) hn
theorem rnm_5 {nt : Nat} (hn : 50 ≤ nt) (s : List UInt8) (k : Nat) (h0 : lit true (!(((UInt8.toNat (List.getD s (Int.toNat (k : Int)) 0) : Nat) : Int) == ((95 : Nat) : Int))) = true) (h1 : lit true (decide (((UInt8.toNat (List.getD s (Int.toNat (k : Int)) 0) : Nat) : Int) < ((48 : Nat) : Int))) = true) (h2 : lit true (decide (((122 : Nat) : Int) < ((UInt8.toNat (List.getD s (Int.toNat (k : Int)) 0) : Nat) : Int))) = true) (h3 : lit false (decide (((UInt8.toNat (List.getD s (Int.toNat (k : Int)) 0) : Nat) : Int) < ((97 : Nat) : Int))) = true) (h4 : (decide (((0 : Nat) : Int) ≤ (k : Int))) = true) (h5 : (decide ((k : Int) < (((List.length s) : Nat) : Int))) = true) (h6 : lit true (decide ((k : Int) < (((List.length s) : Nat) : Int))) = true)  : ExecOk prog ap [] nt (loopBody 0 (bodyOf f76)) ⟨[(0, .str s), (3, .int .i64 (k : Int))], [], .dead, []⟩ (.ret) ⟨[(2, .bool false)], [], .dead, []⟩ := pJ 76 [] 6 61 (.c h0 (.k 1 h1 (.c h2 (.c h3 (.c h4 (.c h5 (.c h6 .nil))))))) (.nil) hn
theorem rnm_6 {nt : Nat} (hn : 50 ≤ nt) (s : List UInt8) (k : Nat) (h0 : lit false (!(((UInt8.toNat (List.getD s (Int.toNat (k : Int)) 0) : Nat) : Int) == ((95 : Nat) : Int))) = true) (h1 : lit true (decide (((UInt8.toNat (List.getD s (Int.toNat (k : Int)) 0) : Nat) : Int) < ((48 : Nat) : Int))) = true) (h2 : lit true (decide (((122 : Nat) : Int) < ((UInt8.toNat (List.getD s (Int.toNat (k : Int)) 0) : Nat) : Int))) = true) (h3 : lit false (decide (((UInt8.toNat (List.getD s (Int.toNat (k : Int)) 0) : Nat) : Int) < ((97 : Nat) : Int))) = true) (h4 : (decide (((0 : Nat) : Int) ≤ (k : Int))) = true) (h5 : (decide ((k : Int) < (((List.length s) : Nat) : Int))) = true) (h6 : lit true (decide ((k : Int) < (((List.length s) : Nat) : Int))) = true)  : ExecOk prog ap [] nt (loopBody 0 (bodyOf f76)) ⟨[(0, .str s), (3, .int .i64 (k : Int))], [], .dead, []⟩ (.normal) ⟨[(0, .str s), (3, .int .i64 (IntKind.wrap .i64 ((k : Int) + ((1 : Nat) : Int))))], [], .dead, []⟩ := pJ 76 [] 6 29 (.c h0 (.k 1 h1 (.c h2 (.c h3 (.c h4 (.c h5 (.c h6 .nil))))))) (.nil) hn
theorem rnm_7 {nt : Nat} (hn : 50 ≤ nt) (s : List UInt8) (k : Nat) (h0 : lit true (!(((UInt8.toNat (List.getD s (Int.toNat (k : Int)) 0) : Nat) : Int) == ((95 : Nat) : Int))) = true) (h1 : lit true (decide (((57 : Nat) : Int) < ((UInt8.toNat (List.getD s (Int.toNat (k : Int)) 0) : Nat) : Int))) = true) (h2 : lit false (decide (((UInt8.toNat (List.getD s (Int.toNat (k : Int)) 0) : Nat) : Int) < ((48 : Nat) : Int))) = true) (h3 : lit true (decide (((122 : Nat) : Int) < ((UInt8.toNat (List.getD s (Int.toNat (k : Int)) 0) : Nat) : Int))) = true) (h4 : lit false (decide (((UInt8.toNat (List.getD s (Int.toNat (k : Int)) 0) : Nat) : Int) < ((97 : Nat) : Int))) = true) (h5 : (decide (((0 : Nat) : Int) ≤ (k : Int))) = true) (h6 : (decide ((k : Int) < (((List.length s) : Nat) : Int))) = true) (h7 : lit true (decide ((k : Int) < (((List.length s) : Nat) : Int))) = true)  : ExecOk prog ap [] nt (loopBody 0 (bodyOf f76)) ⟨[(0, .str s), (3, .int .i64 (k : Int))], [], .dead, []⟩ (.ret) ⟨[(2, .bool false)], [], .dead, []⟩ := pJ 76 [] 6 53 (.c h0 (.c h1 (.c h2 (.c h3 (.c h4 (.c h5 (.c h6 (.c h7 .nil)))))))) (.nil) hn
theorem rnm_8 {nt : Nat} (hn : 50 ≤ nt) (s : List UInt8) (k : Nat) (h0 : lit false (!(((UInt8.toNat (List.getD s (Int.toNat (k : Int)) 0) : Nat) : Int) == ((95 : Nat) : Int))) = true) (h1 : lit true (decide (((57 : Nat) : Int) < ((UInt8.toNat (List.getD s (Int.toNat (k : Int)) 0) : Nat) : Int))) = true) (h2 : lit false (decide (((UInt8.toNat (List.getD s (Int.toNat (k : Int)) 0) : Nat) : Int) < ((48 : Nat) : Int))) = true) (h3 : lit true (decide (((122 : Nat) : Int) < ((UInt8.toNat (List.getD s (Int.toNat (k : Int)) 0) : Nat) : Int))) = true) (h4 : lit false (decide (((UInt8.toNat (List.getD s (Int.toNat (k : Int)) 0) : Nat) : Int) < ((97 : Nat) : Int))) = true) (h5 : (decide (((0 : Nat) : Int) ≤ (k : Int))) = true) (h6 : (decide ((k : Int) < (((List.length s) : Nat) : Int))) = true) (h7 : lit true (decide ((k : Int) < (((List.length s) : Nat) : Int))) = true)  : ExecOk prog ap [] nt (loopBody 0 (bodyOf f76)) ⟨[(0, .str s), (3, .int .i64 (k : Int))], [], .dead, []⟩ (.normal) ⟨[(0, .str s), (3, .int .i64 (IntKind.wrap .i64 ((k : Int) + ((1 : Nat) : Int))))], [], .dead, []⟩ := pJ 76 [] 6 21 (.c h0 (.c h1 (.c h2 (.c h3 (.c h4 (.c h5 (.c h6 (.c h7 .nil)))))))) (.nil) hn
theorem rnm_9 {nt : Nat} (hn : 50 ≤ nt) (s : List UInt8) (k : Nat) (h0 : lit false (decide (((57 : Nat) : Int) < ((UInt8.toNat (List.getD s (Int.toNat (k : Int)) 0) : Nat) : Int))) = true) (h1 : lit false (decide (((UInt8.toNat (List.getD s (Int.toNat (k : Int)) 0) : Nat) : Int) < ((48 : Nat) : Int))) = true) (h2 : lit true (decide (((122 : Nat) : Int) < ((UInt8.toNat (List.getD s (Int.toNat (k : Int)) 0) : Nat) : Int))) = true) (h3 : lit false (decide (((UInt8.toNat (List.getD s (Int.toNat (k : Int)) 0) : Nat) : Int) < ((97 : Nat) : Int))) = true) (h4 : (decide (((0 : Nat) : Int) ≤ (k : Int))) = true) (h5 : (decide ((k : Int) < (((List.length s) : Nat) : Int))) = true) (h6 : lit true (decide ((k : Int) < (((List.length s) : Nat) : Int))) = true)  : ExecOk prog ap [] nt (loopBody 0 (bodyOf f76)) ⟨[(0, .str s), (3, .int .i64 (k : Int))], [], .dead, []⟩ (.normal) ⟨[(0, .str s), (3, .int .i64 (IntKind.wrap .i64 ((k : Int) + ((1 : Nat) : Int))))], [], .dead, []⟩ := pJ 76 [] 6 5 (.k 1 h0 (.c h1 (.c h2 (.c h3 (.c h4 (.c h5 (.c h6 .nil))))))) (.nil) hn
theorem rnm_10 {nt : Nat} (hn : 50 ≤ nt) (s : List UInt8) (k : Nat) (h0 : lit false (decide (((122 : Nat) : Int) < ((UInt8.toNat (List.getD s (Int.toNat (k : Int)) 0) : Nat) : Int))) = true) (h1 : lit false (decide (((UInt8.toNat (List.getD s (Int.toNat (k : Int)) 0) : Nat) : Int) < ((97 : Nat) : Int))) = true) (h2 : (decide (((0 : Nat) : Int) ≤ (k : Int))) = true) (h3 : (decide ((k : Int) < (((List.length s) : Nat) : Int))) = true) (h4 : lit true (decide ((k : Int) < (((List.length s) : Nat) : Int))) = true)  : ExecOk prog ap [] nt (loopBody 0 (bodyOf f76)) ⟨[(0, .str s), (3, .int .i64 (k : Int))], [], .dead, []⟩ (.normal) ⟨[(0, .str s), (3, .int .i64 (IntKind.wrap .i64 ((k : Int) + ((1 : Nat) : Int))))], [], .dead, []⟩ := pJ 76 [] 5 1 (.k 2 h0 (.c h1 (.c h2 (.c h3 (.c h4 .nil))))) (.nil) hn
theorem rnm_11 {nt : Nat} (hn : 50 ≤ nt) (s : List UInt8) (k : Nat) (h0 : lit false (decide ((k : Int) < (((List.length s) : Nat) : Int))) = true)  : ExecOk prog ap [] nt (loopBody 0 (bodyOf f76)) ⟨[(0, .str s), (3, .int .i64 (k : Int))], [], .dead, []⟩ (.exit 0) ⟨[], [], .dead, []⟩ := pJ 76 [] 1 0 (.c h0 .nil) (.nil) hn
theorem rnmF_0 (s : List UInt8) (h0 : lit true (decide ((((List.length s) : Nat) : Int) < ((1 : Nat) : Int))) = true)  : CO 76 [.str s] (.ret (.bool false)) := pK [0] 4 15 (.k 3 h0 .nil) (.nil)
theorem rnmF_1 (s : List UInt8) (h0 : lit true (decide (((20 : Nat) : Int) < (((List.length s) : Nat) : Int))) = true) (h1 : lit false (decide ((((List.length s) : Nat) : Int) < ((1 : Nat) : Int))) = true)  : CO 76 [.str s] (.ret (.bool false)) := pK [0] 4 14 (.k 2 h0 (.c h1 .nil)) (.nil)
theorem rnmF_2 (s : List UInt8) (h0 : lit true (decide (((UInt8.toNat (List.getD s 0 0) : Nat) : Int) < ((97 : Nat) : Int))) = true) (h1 : (decide (((0 : Nat) : Int) < (((List.length s) : Nat) : Int))) = true) (h2 : lit false (decide (((20 : Nat) : Int) < (((List.length s) : Nat) : Int))) = true) (h3 : lit false (decide ((((List.length s) : Nat) : Int) < ((1 : Nat) : Int))) = true)  : CO 76 [.str s] (.ret (.bool false)) := pK [0] 4 12 (.k 1 h0 (.k 1 h1 (.c h2 (.c h3 .nil)))) (.nil)
theorem rnmF_3 (s : List UInt8) (h0 : lit true (decide (((122 : Nat) : Int) < ((UInt8.toNat (List.getD s 0 0) : Nat) : Int))) = true) (h1 : (decide (((0 : Nat) : Int) < (((List.length s) : Nat) : Int))) = true) (h2 : lit false (decide (((UInt8.toNat (List.getD s 0 0) : Nat) : Int) < ((97 : Nat) : Int))) = true) (h3 : lit false (decide (((20 : Nat) : Int) < (((List.length s) : Nat) : Int))) = true) (h4 : lit false (decide ((((List.length s) : Nat) : Int) < ((1 : Nat) : Int))) = true)  : CO 76 [.str s] (.ret (.bool false)) := pK [0] 4 8 (.c h0 (.k 1 h1 (.c h2 (.k 1 h1 (.c h3 (.c h4 .nil)))))) (.nil)
theorem rnmF_4 (s : List UInt8) (h0 : lit false (decide (((122 : Nat) : Int) < ((UInt8.toNat (List.getD s 0 0) : Nat) : Int))) = true) (h1 : (decide (((0 : Nat) : Int) < (((List.length s) : Nat) : Int))) = true) (h2 : lit false (decide (((UInt8.toNat (List.getD s 0 0) : Nat) : Int) < ((97 : Nat) : Int))) = true) (h3 : lit false (decide (((20 : Nat) : Int) < (((List.length s) : Nat) : Int))) = true) (h4 : lit false (decide ((((List.length s) : Nat) : Int) < ((1 : Nat) : Int))) = true) (l0 : LoopOk prog ap [] 50 (.block 0 (.loop (loopBody 0 (bodyOf f76)))) ⟨[(0, .str s), (2, .bool false), (3, .int .i64 0), (4, .dead), (22, .bool (decide (((122 : Nat) : Int) < ((UInt8.toNat (List.getD s 0 0) : Nat) : Int)))), (26, .dead), (49, .dead)], [], .dead, []⟩ (.normal) ⟨[], [], .dead, []⟩) : CO 76 [.str s] (.ret (.bool true)) := pK [0] 4 0 (.c h0 (.k 1 h1 (.c h2 (.k 1 h1 (.c h3 (.c h4 .nil)))))) (.l l0 .nil)
theorem rnmR_4 (s : List UInt8) (h0 : lit false (decide (((122 : Nat) : Int) < ((UInt8.toNat (List.getD s 0 0) : Nat) : Int))) = true) (h1 : (decide (((0 : Nat) : Int) < (((List.length s) : Nat) : Int))) = true) (h2 : lit false (decide (((UInt8.toNat (List.getD s 0 0) : Nat) : Int) < ((97 : Nat) : Int))) = true) (h3 : lit false (decide (((20 : Nat) : Int) < (((List.length s) : Nat) : Int))) = true) (h4 : lit false (decide ((((List.length s) : Nat) : Int) < ((1 : Nat) : Int))) = true) (l0 : LoopOk prog ap [] 50 (.block 0 (.loop (loopBody 0 (bodyOf f76)))) ⟨[(0, .str s), (2, .bool false), (3, .int .i64 0), (4, .dead), (22, .bool (decide (((122 : Nat) : Int) < ((UInt8.toNat (List.getD s 0 0) : Nat) : Int)))), (26, .dead), (49, .dead)], [], .dead, []⟩ (.ret) ⟨[(2, .bool false)], [], .dead, []⟩) : CO 76 [.str s] (.ret (.bool false)) := pK [0] 4 0 (.c h0 (.k 1 h1 (.c h2 (.k 1 h1 (.c h3 (.c h4 .nil)))))) (.l l0 .nil)
def nameQ (s : List UInt8) : Bool := !(s == []) && decide (s.length ≤ 20) && decide (97 ≤ (s.getD 0 0).toNat) && decide ((s.getD 0 0).toNat ≤ 122) && s.all inSet
theorem dw_nil {p : UInt8 → Bool} : ∀ {l : List UInt8}, l.dropWhile p = [] ↔ ∀ x ∈ l, p x = true
 | [] => by simp
 | c :: l => by
  rw [List.dropWhile_cons]
  cases h : p c with
  | true => simp [h, dw_nil (l := l)]
  | false => simp [h]
theorem trim_nil {s : List UInt8} : (trR s).dropWhile inSet = [] ↔ s.all inSet = true := by
 unfold trR
 rw [List.all_eq_true]
 constructor
 ·intro h
  have h1 : ∀ x ∈ (s.reverse.dropWhile inSet), inSet x = true := by
   intro x hx
   exact dw_nil.1 h x (by simpa using hx)
  have h2 : s.reverse.dropWhile inSet = [] := by
   cases hd : s.reverse.dropWhile inSet with
   | nil => rfl
   | cons y r =>
    exfalso
    have h3 := h1 y (by rw [hd]; simp)
    have h4 : ∀ (l : List UInt8), l.dropWhile inSet = y :: r → inSet y = false := by
     intro l
     induction l with
     | nil => intro h; simp at h
     | cons z l ih =>
      intro h
      rw [List.dropWhile_cons] at h
      split at h
      ·exact ih h
      ·rename_i hz
       cases h
       simpa using hz
    rw [h4 _ hd] at h3
    cases h3
  intro x hx
  exact dw_nil.1 h2 x (by simpa using hx)
 ·intro h
  have : s.reverse.dropWhile inSet = [] := dw_nil.2 fun x hx => h x (by simpa using hx)
  rw [this]; rfl
theorem trL_ok (s : List UInt8) (hs : s.length < 2 ^ 40) : CO 133 [.str s, .pp asc 0] (.ret (.str (s.dropWhile inSet))) :=
 tlF_0 s _ asc (LoopR.blk (fun nt hn => tl_loop hn s hs) (by simp) rfl (Less.of ⟨rfl, rfl, trivial⟩) (Less.of ⟨rfl, trivial⟩))
theorem trR_ok (s : List UInt8) (hs : s.length < 2 ^ 40) : CO 136 [.str s, .pp asc 0] (.ret (.str (trR s))) :=
 trF_0 s _ asc (LoopR.blk (fun nt hn => tr_loop hn _ s rfl hs) (by simp) rfl (Less.of ⟨rfl, rfl, trivial⟩) (Less.of ⟨rfl, trivial⟩))
theorem trR_len (s : List UInt8) : (trR s).length ≤ s.length := by
 unfold trR
 rw [List.length_reverse]
 have := (List.dropWhile_sublist inSet (l := s.reverse)).length_le
 simpa using this
theorem trim_ok (s : List UInt8) (hs : s.length < 2 ^ 40) : CO 128 [.str s, .str ascL] (.ret (.str ((trR s).dropWhile inSet))) := by
 by_cases h : s = []
 ·subst h
  exact trimF_0 [] [] [] rfl
 ·have hl := trR_len s
  exact trimF_1 s _ _ (by simp [lit, h]) asc_ok (trR_ok s hs) (trL_ok _ (by omega))
theorem name_ok (s : List UInt8) : CO 111 [.str s] (.ret (.bool (nameQ s))) := by
 unfold nameQ
 by_cases h0 : s = []
 ·subst h0; exact nameF_0 [] [] rfl
 ·have hne : (s == []) = false := by simpa using h0
  have hl0 : 0 < s.length := by cases s with | nil => exact absurd rfl h0 | cons _ _ => simp
  rw [hne]
  by_cases h1 : s.length ≤ 20
  ·have c1 : lit false (decide (((20 : Nat) : Int) < (s.length : Int))) = true := by rw [d_lt]; simp [lit, h1]
   have cl : decide (((0 : Nat) : Int) < (s.length : Int)) = true := by rw [d_lt]; exact decide_eq_true hl0
   rw [decide_eq_true h1]
   by_cases h2 : 97 ≤ (s.getD 0 0).toNat
   ·rw [decide_eq_true h2]
    have c2 : lit false (decide (((s.getD 0 0).toNat : Int) < ((97 : Nat) : Int))) = true := by rw [d_lt]; simp only [lit, Bool.not_eq_true']; exact decide_eq_false (by omega)
    by_cases h3 : (s.getD 0 0).toNat ≤ 122
    ·rw [decide_eq_true h3]
     have c3 : lit false (decide (((122 : Nat) : Int) < ((s.getD 0 0).toNat : Int))) = true := by rw [d_lt]; simp only [lit, Bool.not_eq_true']; exact decide_eq_false (by omega)
     have h := nameF_4 s _ c3 cl c2 c1 (by rw [hne]; rfl) (trim_ok s (by omega))
     have e : ((trR s).dropWhile inSet == []) = s.all inSet := by
      rw [Bool.eq_iff_iff, ← trim_nil]; simp
     rw [e] at h
     exact h
    ·rw [decide_eq_false h3]
     exact nameF_3 s [] (by rw [d_lt]; exact decide_eq_true (by omega)) cl c2 c1 (by rw [hne]; rfl)
   ·rw [decide_eq_false h2]
    exact nameF_2 s [] (by rw [d_lt]; exact decide_eq_true (by omega)) cl c1 (by rw [hne]; rfl)
  ·rw [decide_eq_false h1]
   exact nameF_1 s [] (by rw [d_lt]; exact decide_eq_true (by omega)) (by rw [hne]; rfl)
def rnSt (s : List UInt8) (k : Nat) : St := ⟨[(0, .str s), (3, .int .i64 (k : Int))], [], .dead, []⟩
def rnOut : Bool → St
 | true => ⟨[], [], .dead, []⟩
 | false => ⟨[(2, .bool false)], [], .dead, []⟩
def rnE : Bool → AExit
 | true => .exit 0
 | false => .ret
theorem rn_round {nt : Nat} (hn : 50 ≤ nt) (s : List UInt8) (k c : Nat) (hk : k < s.length) (hs : s.length < 2 ^ 40) (hg : (s.getD k 0).toNat = c) :
  (inN c = true → ExecOk prog ap [] nt (loopBody 0 (bodyOf f76)) (rnSt s k) .normal (rnSt s (k + 1))) ∧ (inN c = false → ExecOk prog ap [] nt (loopBody 0 (bodyOf f76)) (rnSt s k) .ret (rnOut false)) := by
 have hIn : inN c = true ↔ ((97 ≤ c ∧ c ≤ 122) ∨ (48 ≤ c ∧ c ≤ 57)) ∨ c = 95 := by unfold inN; simp
 unfold rnSt rnOut
 have b0 := rnm_0 hn s k
 simp (disch := first | omega | (simp [u32L_length, u8L_length] <;> omega)) only [c_toNat, hg, b_eq, lit_t, not_t, dec_f, d_lt, dec_t, d_le] at b0
 have b1 := rnm_1 hn s k
 simp (disch := first | omega | (simp [u32L_length, u8L_length] <;> omega)) only [c_toNat, hg, b_eq, lit_f, not_t, not_f, dec_t, d_lt, lit_t, d_le, c_add, w64_nat] at b1
 have b2 := rnm_2 hn s k
 simp (disch := first | omega | (simp [u32L_length, u8L_length] <;> omega)) only [c_toNat, hg, b_eq, lit_t, not_t, dec_f, d_lt, dec_t, lit_f, d_le] at b2
 have b3 := rnm_3 hn s k
 simp (disch := first | omega | (simp [u32L_length, u8L_length] <;> omega)) only [c_toNat, hg, b_eq, lit_f, not_t, not_f, dec_t, d_lt, lit_t, dec_f, d_le, c_add, w64_nat] at b3
 have b4 := rnm_4 hn s k
 simp (disch := first | omega | (simp [u32L_length, u8L_length] <;> omega)) only [c_toNat, hg, d_lt, lit_f, not_t, dec_f, lit_t, dec_t, d_le, c_add, w64_nat] at b4
 have b5 := rnm_5 hn s k
 simp (disch := first | omega | (simp [u32L_length, u8L_length] <;> omega)) only [c_toNat, hg, b_eq, lit_t, not_t, dec_f, d_lt, dec_t, lit_f, d_le] at b5
 have b6 := rnm_6 hn s k
 simp (disch := first | omega | (simp [u32L_length, u8L_length] <;> omega)) only [c_toNat, hg, b_eq, lit_f, not_t, not_f, dec_t, d_lt, lit_t, dec_f, d_le, c_add, w64_nat] at b6
 have b7 := rnm_7 hn s k
 simp (disch := first | omega | (simp [u32L_length, u8L_length] <;> omega)) only [c_toNat, hg, b_eq, lit_t, not_t, dec_f, d_lt, dec_t, lit_f, d_le] at b7
 have b8 := rnm_8 hn s k
 simp (disch := first | omega | (simp [u32L_length, u8L_length] <;> omega)) only [c_toNat, hg, b_eq, lit_f, not_t, not_f, dec_t, d_lt, lit_t, dec_f, d_le, c_add, w64_nat] at b8
 have b9 := rnm_9 hn s k
 simp (disch := first | omega | (simp [u32L_length, u8L_length] <;> omega)) only [c_toNat, hg, d_lt, lit_f, not_t, dec_f, lit_t, dec_t, d_le, c_add, w64_nat] at b9
 have b10 := rnm_10 hn s k
 simp (disch := first | omega | (simp [u32L_length, u8L_length] <;> omega)) only [c_toNat, hg, d_lt, lit_f, not_t, dec_f, d_le, dec_t, lit_t, c_add, w64_nat] at b10
 constructor
 ·intro hi
  have hi' := hIn.1 hi
  by_cases h1 : c < 97 <;> by_cases h2 : 122 < c <;> by_cases h3 : c < 48 <;> by_cases h4 : 57 < c <;> by_cases h5 : c = 95 <;> first
   | (exfalso; omega)
   | (apply b1 <;> omega)
   | (apply b3 <;> omega)
   | (apply b4 <;> omega)
   | (apply b6 <;> omega)
   | (apply b8 <;> omega)
   | (apply b9 <;> omega)
   | (apply b10 <;> omega)
 ·intro hi
  have hi' : ¬ (((97 ≤ c ∧ c ≤ 122) ∨ (48 ≤ c ∧ c ≤ 57)) ∨ c = 95) := by rw [← hIn, hi]; simp
  have e1 : c ≠ 95 := fun h => hi' (.inr h)
  have e2 : c < 97 ∨ 122 < c := by
   rcases Nat.lt_or_ge c 97 with h | h
   ·exact .inl h
   ·rcases Nat.lt_or_ge 122 c with h' | h'
    ·exact .inr h'
    ·exact absurd (.inl (.inl ⟨h, h'⟩)) hi'
  have e3 : c < 48 ∨ 57 < c := by
   rcases Nat.lt_or_ge c 48 with h | h
   ·exact .inl h
   ·rcases Nat.lt_or_ge 57 c with h' | h'
    ·exact .inr h'
    ·exact absurd (.inl (.inr ⟨h, h'⟩)) hi'
  clear hi'
  by_cases h1 : c < 97 <;> by_cases h2 : 122 < c <;> by_cases h3 : c < 48 <;> by_cases h4 : 57 < c <;> by_cases h5 : c = 95 <;> first
   | (exfalso; omega)
   | (apply b0 <;> omega)
   | (apply b2 <;> omega)
   | (apply b5 <;> omega)
   | (apply b7 <;> omega)
theorem rn_loop {nt : Nat} (hn : 50 ≤ nt) (s : List UInt8) (hs : s.length < 2 ^ 40) : ∀ (r p : List UInt8), p ++ r = s → LoopR prog ap [] nt (loopBody 0 (bodyOf f76)) rnE (rnSt s) rnOut p.length (r.all inSet) := by
 intro r
 induction r with
 | nil =>
  intro p h
  have hp : p.length = s.length := by rw [← h]; simp
  rw [hp]
  exact .done (rnm_11 hn s _ (by rw [d_lt]; simp [lit]))
 | cons c r ih =>
  intro p h
  have hl : p.length + (r.length + 1) = s.length := by rw [← h]; simp
  have hg : s.getD p.length 0 = c := by rw [← h]; exact str_mid rfl
  obtain ⟨r1, r2⟩ := rn_round hn s p.length c.toNat (by omega) hs (by rw [hg])
  rw [List.all_cons]
  have e : inSet c = inN c.toNat := rfl
  cases hb : inSet c with
  | true =>
   have hnext := ih (p ++ [c]) (by simp [h])
   rw [List.length_append, List.length_singleton] at hnext
   rw [Bool.true_and]
   exact .next (r1 (e ▸ hb)) hnext
  | false => exact .done (r2 (e ▸ hb))
theorem rname_ok (s : List UInt8) : CO 76 [.str s] (.ret (.bool (nameQ s))) := by
 unfold nameQ
 by_cases h0 : s = []
 ·subst h0; exact rnmF_0 [] rfl
 ·have hne : (s == []) = false := by simpa using h0
  have hl0 : 0 < s.length := by cases s with | nil => exact absurd rfl h0 | cons _ _ => simp
  have c0 : lit false (decide ((s.length : Int) < ((1 : Nat) : Int))) = true := by rw [d_lt]; simp only [lit, Bool.not_eq_true']; exact decide_eq_false (by omega)
  rw [hne]
  by_cases h1 : s.length ≤ 20
  ·have c1 : lit false (decide (((20 : Nat) : Int) < (s.length : Int))) = true := by rw [d_lt]; simp [lit, h1]
   have cl : decide (((0 : Nat) : Int) < (s.length : Int)) = true := by rw [d_lt]; exact decide_eq_true hl0
   rw [decide_eq_true h1]
   by_cases h2 : 97 ≤ (s.getD 0 0).toNat
   ·rw [decide_eq_true h2]
    have c2 : lit false (decide (((s.getD 0 0).toNat : Int) < ((97 : Nat) : Int))) = true := by rw [d_lt]; simp only [lit, Bool.not_eq_true']; exact decide_eq_false (by omega)
    by_cases h3 : (s.getD 0 0).toNat ≤ 122
    ·rw [decide_eq_true h3]
     have c3 : lit false (decide (((122 : Nat) : Int) < ((s.getD 0 0).toNat : Int))) = true := by rw [d_lt]; simp only [lit, Bool.not_eq_true']; exact decide_eq_false (by omega)
     have hloop := fun nt (hn : 50 ≤ nt) => rn_loop hn s (by omega) s [] rfl
     cases hb : s.all inSet with
     | true =>
      rw [hb] at hloop
      have h := rnmF_4 s c3 cl c2 c1 c0
      exact h (LoopR.blk hloop (by simp [rnE]) rfl (Less.of ⟨rfl, rfl, trivial⟩) (Less.of trivial))
     | false =>
      rw [hb] at hloop
      have h := rnmR_4 s c3 cl c2 c1 c0
      exact h (LoopR.blk hloop (by simp [rnE]) rfl (Less.of ⟨rfl, rfl, trivial⟩) (Less.of ⟨rfl, trivial⟩))
    ·rw [decide_eq_false h3]
     exact rnmF_3 s (by rw [d_lt]; exact decide_eq_true (by omega)) cl c2 c1 c0
   ·rw [decide_eq_false h2]
    exact rnmF_2 s (by rw [d_lt]; exact decide_eq_true (by omega)) cl c1 c0
  ·rw [decide_eq_false h1]
   exact rnmF_1 s (by rw [d_lt]; exact decide_eq_true (by omega)) c0
def tabL : List AV := [.str [], .int .i64 0, .bool false, .bool false, .bool false, .str [36], .int .i64 0, .bool true, .bool false, .bool false, .str [], .int .i64 0, .bool true, .bool false, .bool false, .str [], .int .i64 0, .bool true, .bool false, .bool false, .str [], .int .i64 0, .bool true, .bool false, .bool false, .str [102, 97, 99, 116, 46], .int .i64 0, .bool false, .bool true, .bool false, .str [111, 119, 110, 46], .int .i64 0, .bool false, .bool true, .bool false, .str [112, 114, 105, 111, 114, 46], .int .i64 0, .bool false, .bool true, .bool false, .str [115, 112, 111, 117, 115, 101, 46], .int .i64 0, .bool false, .bool true, .bool false, .str [97, 100, 100], .int .i64 2, .bool false, .bool false, .bool false, .str [115, 117, 98], .int .i64 2, .bool false, .bool false, .bool false, .str [109, 117, 108], .int .i64 2, .bool false, .bool false, .bool false, .str [100, 105, 118], .int .i64 2, .bool false, .bool false, .bool false, .str [109, 105, 110], .int .i64 2, .bool false, .bool false, .bool false, .str [109, 97, 120], .int .i64 2, .bool false, .bool false, .bool false, .str [105, 102], .int .i64 3, .bool false, .bool false, .bool false, .str [108, 101, 115, 115], .int .i64 2, .bool false, .bool false, .bool false, .str [101, 113, 117, 97, 108], .int .i64 2, .bool false, .bool false, .bool false, .str [97, 110, 100], .int .i64 2, .bool false, .bool false, .bool false, .str [111, 114], .int .i64 2, .bool false, .bool false, .bool false, .str [110, 111, 116], .int .i64 1, .bool false, .bool false, .bool false, .str [100, 111, 119, 110], .int .i64 1, .bool false, .bool false, .bool true, .str [117, 112], .int .i64 1, .bool false, .bool false, .bool true, .str [110, 101, 97, 114], .int .i64 1, .bool false, .bool false, .bool true, .str [114, 97, 116, 101, 46], .int .i64 1, .bool false, .bool true, .bool false]
theorem ofF_0 (op : Int) (h0 : lit true (decide (op < ((1 : Nat) : Int))) = true)  : CO 109 [.int .i64 op] (.ret (.tup [.agg [.str [], .int .i64 0, .bool false, .bool false, .bool false], .bool false])) := pK [] 2 3 (.k 7 h0 .nil) (.nil)
theorem ofF_1 (op : Int) (h0 : lit true (decide (((24 : Nat) : Int) < op)) = true) (h1 : lit false (decide (op < ((1 : Nat) : Int))) = true)  : CO 109 [.int .i64 op] (.ret (.tup [.agg [.str [], .int .i64 0, .bool false, .bool false, .bool false], .bool false])) := pK [] 2 2 (.k 6 h0 (.c h1 .nil)) (.nil)
theorem ofF_2 (op : Int) (h0 : (chk .str (List.headD (List.drop (0 + ((Int.toNat op) * 5)) tabL) .dead)) = true) (h1 : (chk (.int .i64) (List.headD (List.tail (List.drop (0 + ((Int.toNat op) * 5)) tabL)) .dead)) = true) (h2 : (chk .bool (List.headD (List.tail (List.tail (List.drop (0 + ((Int.toNat op) * 5)) tabL))) .dead)) = true) (h3 : (chk .bool (List.headD (List.tail (List.tail (List.tail (List.drop (0 + ((Int.toNat op) * 5)) tabL)))) .dead)) = true) (h4 : (chk .bool (List.headD (List.tail (List.tail (List.tail (List.tail (List.drop (0 + ((Int.toNat op) * 5)) tabL))))) .dead)) = true) (h5 : (decide (((0 : Nat) : Int) ≤ op)) = true) (h6 : (decide (op < ((25 : Nat) : Int))) = true) (h7 : lit false (decide (((24 : Nat) : Int) < op)) = true) (h8 : lit false (decide (op < ((1 : Nat) : Int))) = true)  : CO 109 [.int .i64 op] (.ret (.tup [.agg [.str (AV.toStr (List.headD (List.drop (0 + ((Int.toNat op) * 5)) tabL) .dead)), .int .i64 (AV.toInt (List.headD (List.tail (List.drop (0 + ((Int.toNat op) * 5)) tabL)) .dead)), .bool (AV.toBool (List.headD (List.tail (List.tail (List.drop (0 + ((Int.toNat op) * 5)) tabL))) .dead)), .bool (AV.toBool (List.headD (List.tail (List.tail (List.tail (List.drop (0 + ((Int.toNat op) * 5)) tabL)))) .dead)), .bool (AV.toBool (List.headD (List.tail (List.tail (List.tail (List.tail (List.drop (0 + ((Int.toNat op) * 5)) tabL))))) .dead))], .bool true])) := pK [] 2 0 (.k 6 h0 (.c h1 (.c h2 (.c h3 (.c h4 (.c h5 (.c h6 (.c h7 (.c h8 .nil))))))))) (.nil)
theorem ariF_0 (op : Int) (h0 : lit true (op == ((15 : Nat) : Int)) = true)  : CO 48 [.int .i64 op] (.ret (.int .i64 3)) := pK [] 1 1 (.c h0 .nil) (.nil)
theorem ariF_1 (op : Int) (h0 : lit true (decide (op ≤ ((14 : Nat) : Int))) = true) (h1 : lit true (decide (((9 : Nat) : Int) ≤ op)) = true) (h2 : lit false (op == ((15 : Nat) : Int)) = true)  : CO 48 [.int .i64 op] (.ret (.int .i64 2)) := pK [] 4 14 (.k 1 h0 (.c h1 (.c h2 .nil))) (.nil)
theorem ariF_2 (op : Int) (h0 : lit true (decide (op ≤ ((19 : Nat) : Int))) = true) (h1 : lit true (decide (((16 : Nat) : Int) ≤ op)) = true) (h2 : lit false (decide (op ≤ ((14 : Nat) : Int))) = true) (h3 : lit true (decide (((9 : Nat) : Int) ≤ op)) = true) (h4 : lit false (op == ((15 : Nat) : Int)) = true)  : CO 48 [.int .i64 op] (.ret (.int .i64 2)) := pK [] 5 26 (.c h0 (.c h1 (.c h2 (.c h3 (.c h4 .nil))))) (.nil)
theorem ariF_3 (op : Int) (h0 : lit true (decide (op ≤ ((24 : Nat) : Int))) = true) (h1 : lit true (decide (((20 : Nat) : Int) ≤ op)) = true) (h2 : lit false (decide (op ≤ ((19 : Nat) : Int))) = true) (h3 : lit true (decide (((16 : Nat) : Int) ≤ op)) = true) (h4 : lit false (decide (op ≤ ((14 : Nat) : Int))) = true) (h5 : lit true (decide (((9 : Nat) : Int) ≤ op)) = true) (h6 : lit false (op == ((15 : Nat) : Int)) = true)  : CO 48 [.int .i64 op] (.ret (.int .i64 1)) := pK [] 7 106 (.c h0 (.c h1 (.c h2 (.c h3 (.c h4 (.c h5 (.c h6 .nil))))))) (.nil)
theorem ariF_4 (op : Int) (h0 : lit false (decide (op ≤ ((24 : Nat) : Int))) = true) (h1 : lit true (decide (((20 : Nat) : Int) ≤ op)) = true) (h2 : lit false (decide (op ≤ ((19 : Nat) : Int))) = true) (h3 : lit true (decide (((16 : Nat) : Int) ≤ op)) = true) (h4 : lit false (decide (op ≤ ((14 : Nat) : Int))) = true) (h5 : lit true (decide (((9 : Nat) : Int) ≤ op)) = true) (h6 : lit false (op == ((15 : Nat) : Int)) = true)  : CO 48 [.int .i64 op] (.ret (.int .i64 0)) := pK [] 7 42 (.c h0 (.c h1 (.c h2 (.c h3 (.c h4 (.c h5 (.c h6 .nil))))))) (.nil)
theorem ariF_5 (op : Int) (h0 : lit false (decide (((20 : Nat) : Int) ≤ op)) = true) (h1 : lit false (decide (op ≤ ((19 : Nat) : Int))) = true) (h2 : lit true (decide (((16 : Nat) : Int) ≤ op)) = true) (h3 : lit false (decide (op ≤ ((14 : Nat) : Int))) = true) (h4 : lit true (decide (((9 : Nat) : Int) ≤ op)) = true) (h5 : lit false (op == ((15 : Nat) : Int)) = true)  : CO 48 [.int .i64 op] (.ret (.int .i64 0)) := pK [] 7 10 (.k 1 h0 (.c h1 (.c h2 (.c h3 (.c h4 (.c h5 .nil)))))) (.nil)
theorem ariF_6 (op : Int) (h0 : lit true (decide (op ≤ ((24 : Nat) : Int))) = true) (h1 : lit true (decide (((20 : Nat) : Int) ≤ op)) = true) (h2 : lit false (decide (((16 : Nat) : Int) ≤ op)) = true) (h3 : lit false (decide (op ≤ ((14 : Nat) : Int))) = true) (h4 : lit true (decide (((9 : Nat) : Int) ≤ op)) = true) (h5 : lit false (op == ((15 : Nat) : Int)) = true)  : CO 48 [.int .i64 op] (.ret (.int .i64 1)) := pK [] 7 98 (.c h0 (.c h1 (.k 1 h2 (.c h3 (.c h4 (.c h5 .nil)))))) (.nil)
theorem ariF_7 (op : Int) (h0 : lit false (decide (op ≤ ((24 : Nat) : Int))) = true) (h1 : lit true (decide (((20 : Nat) : Int) ≤ op)) = true) (h2 : lit false (decide (((16 : Nat) : Int) ≤ op)) = true) (h3 : lit false (decide (op ≤ ((14 : Nat) : Int))) = true) (h4 : lit true (decide (((9 : Nat) : Int) ≤ op)) = true) (h5 : lit false (op == ((15 : Nat) : Int)) = true)  : CO 48 [.int .i64 op] (.ret (.int .i64 0)) := pK [] 7 34 (.c h0 (.c h1 (.k 1 h2 (.c h3 (.c h4 (.c h5 .nil)))))) (.nil)
theorem ariF_8 (op : Int) (h0 : lit false (decide (((20 : Nat) : Int) ≤ op)) = true) (h1 : lit false (decide (((16 : Nat) : Int) ≤ op)) = true) (h2 : lit false (decide (op ≤ ((14 : Nat) : Int))) = true) (h3 : lit true (decide (((9 : Nat) : Int) ≤ op)) = true) (h4 : lit false (op == ((15 : Nat) : Int)) = true)  : CO 48 [.int .i64 op] (.ret (.int .i64 0)) := pK [] 7 2 (.k 1 h0 (.k 1 h1 (.c h2 (.c h3 (.c h4 .nil))))) (.nil)
theorem ariF_9 (op : Int) (h0 : lit true (decide (op ≤ ((19 : Nat) : Int))) = true) (h1 : lit true (decide (((16 : Nat) : Int) ≤ op)) = true) (h2 : lit false (decide (((9 : Nat) : Int) ≤ op)) = true) (h3 : lit false (op == ((15 : Nat) : Int)) = true)  : CO 48 [.int .i64 op] (.ret (.int .i64 2)) := pK [] 5 24 (.c h0 (.c h1 (.k 1 h2 (.c h3 .nil)))) (.nil)
theorem ariF_10 (op : Int) (h0 : lit true (decide (op ≤ ((24 : Nat) : Int))) = true) (h1 : lit true (decide (((20 : Nat) : Int) ≤ op)) = true) (h2 : lit false (decide (op ≤ ((19 : Nat) : Int))) = true) (h3 : lit true (decide (((16 : Nat) : Int) ≤ op)) = true) (h4 : lit false (decide (((9 : Nat) : Int) ≤ op)) = true) (h5 : lit false (op == ((15 : Nat) : Int)) = true)  : CO 48 [.int .i64 op] (.ret (.int .i64 1)) := pK [] 7 104 (.c h0 (.c h1 (.c h2 (.c h3 (.k 1 h4 (.c h5 .nil)))))) (.nil)
theorem ariF_11 (op : Int) (h0 : lit false (decide (op ≤ ((24 : Nat) : Int))) = true) (h1 : lit true (decide (((20 : Nat) : Int) ≤ op)) = true) (h2 : lit false (decide (op ≤ ((19 : Nat) : Int))) = true) (h3 : lit true (decide (((16 : Nat) : Int) ≤ op)) = true) (h4 : lit false (decide (((9 : Nat) : Int) ≤ op)) = true) (h5 : lit false (op == ((15 : Nat) : Int)) = true)  : CO 48 [.int .i64 op] (.ret (.int .i64 0)) := pK [] 7 40 (.c h0 (.c h1 (.c h2 (.c h3 (.k 1 h4 (.c h5 .nil)))))) (.nil)
theorem ariF_12 (op : Int) (h0 : lit false (decide (((20 : Nat) : Int) ≤ op)) = true) (h1 : lit false (decide (op ≤ ((19 : Nat) : Int))) = true) (h2 : lit true (decide (((16 : Nat) : Int) ≤ op)) = true) (h3 : lit false (decide (((9 : Nat) : Int) ≤ op)) = true) (h4 : lit false (op == ((15 : Nat) : Int)) = true)  : CO 48 [.int .i64 op] (.ret (.int .i64 0)) := pK [] 7 8 (.k 1 h0 (.c h1 (.c h2 (.k 1 h3 (.c h4 .nil))))) (.nil)
theorem ariF_13 (op : Int) (h0 : lit true (decide (op ≤ ((24 : Nat) : Int))) = true) (h1 : lit true (decide (((20 : Nat) : Int) ≤ op)) = true) (h2 : lit false (decide (((16 : Nat) : Int) ≤ op)) = true) (h3 : lit false (decide (((9 : Nat) : Int) ≤ op)) = true) (h4 : lit false (op == ((15 : Nat) : Int)) = true)  : CO 48 [.int .i64 op] (.ret (.int .i64 1)) := pK [] 7 96 (.c h0 (.c h1 (.k 1 h2 (.k 1 h3 (.c h4 .nil))))) (.nil)
theorem ariF_14 (op : Int) (h0 : lit false (decide (op ≤ ((24 : Nat) : Int))) = true) (h1 : lit true (decide (((20 : Nat) : Int) ≤ op)) = true) (h2 : lit false (decide (((16 : Nat) : Int) ≤ op)) = true) (h3 : lit false (decide (((9 : Nat) : Int) ≤ op)) = true) (h4 : lit false (op == ((15 : Nat) : Int)) = true)  : CO 48 [.int .i64 op] (.ret (.int .i64 0)) := pK [] 7 32 (.c h0 (.c h1 (.k 1 h2 (.k 1 h3 (.c h4 .nil))))) (.nil)
theorem ariF_15 (op : Int) (h0 : lit false (decide (((20 : Nat) : Int) ≤ op)) = true) (h1 : lit false (decide (((16 : Nat) : Int) ≤ op)) = true) (h2 : lit false (decide (((9 : Nat) : Int) ≤ op)) = true) (h3 : lit false (op == ((15 : Nat) : Int)) = true)  : CO 48 [.int .i64 op] (.ret (.int .i64 0)) := pK [] 7 0 (.k 1 h0 (.k 1 h1 (.k 1 h2 (.c h3 .nil)))) (.nil)
theorem namF_0 (op : Int) (h0 : lit true (decide (op ≤ ((8 : Nat) : Int))) = true) (h1 : lit true (decide (((5 : Nat) : Int) ≤ op)) = true)  : CO 74 [.int .i64 op] (.ret (.bool true)) := pK [] 2 3 (.c h0 (.c h1 .nil)) (.nil)
theorem namF_1 (op : Int) (h0 : lit false (decide (op ≤ ((8 : Nat) : Int))) = true) (h1 : lit true (decide (((5 : Nat) : Int) ≤ op)) = true)  : CO 74 [.int .i64 op] (.ret (.bool (op == ((24 : Nat) : Int)))) := pK [] 2 1 (.c h0 (.c h1 .nil)) (.nil)
theorem namF_2 (op : Int) (h0 : lit false (decide (((5 : Nat) : Int) ≤ op)) = true)  : CO 74 [.int .i64 op] (.ret (.bool (op == ((24 : Nat) : Int)))) := pK [] 2 0 (.k 1 h0 .nil) (.nil)
theorem litF_0 (op : Int) (h0 : lit true (decide (((1 : Nat) : Int) ≤ op)) = true)  : CO 106 [.int .i64 op] (.ret (.bool (decide (op ≤ ((4 : Nat) : Int))))) := pK [] 1 1 (.c h0 .nil) (.nil)
theorem litF_1 (op : Int) (h0 : lit false (decide (((1 : Nat) : Int) ≤ op)) = true)  : CO 106 [.int .i64 op] (.ret (.bool false)) := pK [] 1 0 (.c h0 .nil) (.nil)
theorem steF_0 (op : Int) (h0 : lit true (decide (((21 : Nat) : Int) ≤ op)) = true)  : CO 107 [.int .i64 op] (.ret (.bool (decide (op ≤ ((23 : Nat) : Int))))) := pK [] 1 1 (.c h0 .nil) (.nil)
theorem steF_1 (op : Int) (h0 : lit false (decide (((21 : Nat) : Int) ≤ op)) = true)  : CO 107 [.int .i64 op] (.ret (.bool false)) := pK [] 1 0 (.c h0 .nil) (.nil)
def arI (op : Int) : Nat := if op = 15 then 3 else if (9 ≤ op ∧ op ≤ 14) ∨ (16 ≤ op ∧ op ≤ 19) then 2 else if 20 ≤ op ∧ op ≤ 24 then 1 else 0
def namI (op : Int) : Bool := decide ((5 ≤ op ∧ op ≤ 8) ∨ op = 24)
def litI (op : Int) : Bool := decide (1 ≤ op ∧ op ≤ 4)
def steI (op : Int) : Bool := decide (21 ≤ op ∧ op ≤ 23)
def wordI (op : Int) : List UInt8 := AV.toStr (List.headD (List.drop (0 + ((Int.toNat op) * 5)) tabL) .dead)
theorem ariF_ok (op : Int) : CO 48 [.int .i64 op] (.ret (.int .i64 ((arI op : Nat) : Int))) := by
 cases hb0 : (op == ((15 : Nat) : Int)) with
 | true =>
  have h := ariF_0 op (by rw [hb0]; rfl)
  have e : arI op = 3 := by
   clear h
   simp only [decide_eq_true_eq, decide_eq_false_iff_not, beq_iff_eq, beq_eq_false_iff_ne] at *
   unfold arI; (repeat' split) <;> omega
  rw [e]; exact h
 | false =>
  cases hb1 : (decide (((9 : Nat) : Int) ≤ op)) with
  | true =>
   cases hb2 : (decide (op ≤ ((14 : Nat) : Int))) with
   | true =>
    have h := ariF_1 op (by rw [hb2]; rfl) (by rw [hb1]; rfl) (by rw [hb0]; rfl)
    have e : arI op = 2 := by
     clear h
     simp only [decide_eq_true_eq, decide_eq_false_iff_not, beq_iff_eq, beq_eq_false_iff_ne] at *
     unfold arI; (repeat' split) <;> omega
    rw [e]; exact h
   | false =>
    cases hb3 : (decide (((16 : Nat) : Int) ≤ op)) with
    | true =>
     cases hb4 : (decide (op ≤ ((19 : Nat) : Int))) with
     | true =>
      have h := ariF_2 op (by rw [hb4]; rfl) (by rw [hb3]; rfl) (by rw [hb2]; rfl) (by rw [hb1]; rfl) (by rw [hb0]; rfl)
      have e : arI op = 2 := by
       clear h
       simp only [decide_eq_true_eq, decide_eq_false_iff_not, beq_iff_eq, beq_eq_false_iff_ne] at *
       unfold arI; (repeat' split) <;> omega
      rw [e]; exact h
     | false =>
      cases hb5 : (decide (((20 : Nat) : Int) ≤ op)) with
      | true =>
       cases hb6 : (decide (op ≤ ((24 : Nat) : Int))) with
       | true =>
        have h := ariF_3 op (by rw [hb6]; rfl) (by rw [hb5]; rfl) (by rw [hb4]; rfl) (by rw [hb3]; rfl) (by rw [hb2]; rfl) (by rw [hb1]; rfl) (by rw [hb0]; rfl)
        have e : arI op = 1 := by
         clear h
         simp only [decide_eq_true_eq, decide_eq_false_iff_not, beq_iff_eq, beq_eq_false_iff_ne] at *
         unfold arI; (repeat' split) <;> omega
        rw [e]; exact h
       | false =>
        have h := ariF_4 op (by rw [hb6]; rfl) (by rw [hb5]; rfl) (by rw [hb4]; rfl) (by rw [hb3]; rfl) (by rw [hb2]; rfl) (by rw [hb1]; rfl) (by rw [hb0]; rfl)
        have e : arI op = 0 := by
         clear h
         simp only [decide_eq_true_eq, decide_eq_false_iff_not, beq_iff_eq, beq_eq_false_iff_ne] at *
         unfold arI; (repeat' split) <;> omega
        rw [e]; exact h
      | false =>
       have h := ariF_5 op (by rw [hb5]; rfl) (by rw [hb4]; rfl) (by rw [hb3]; rfl) (by rw [hb2]; rfl) (by rw [hb1]; rfl) (by rw [hb0]; rfl)
       have e : arI op = 0 := by
        clear h
        simp only [decide_eq_true_eq, decide_eq_false_iff_not, beq_iff_eq, beq_eq_false_iff_ne] at *
        unfold arI; (repeat' split) <;> omega
       rw [e]; exact h
    | false =>
     cases hb4 : (decide (((20 : Nat) : Int) ≤ op)) with
     | true =>
      cases hb5 : (decide (op ≤ ((24 : Nat) : Int))) with
      | true =>
       have h := ariF_6 op (by rw [hb5]; rfl) (by rw [hb4]; rfl) (by rw [hb3]; rfl) (by rw [hb2]; rfl) (by rw [hb1]; rfl) (by rw [hb0]; rfl)
       have e : arI op = 1 := by
        clear h
        simp only [decide_eq_true_eq, decide_eq_false_iff_not, beq_iff_eq, beq_eq_false_iff_ne] at *
        unfold arI; (repeat' split) <;> omega
       rw [e]; exact h
      | false =>
       have h := ariF_7 op (by rw [hb5]; rfl) (by rw [hb4]; rfl) (by rw [hb3]; rfl) (by rw [hb2]; rfl) (by rw [hb1]; rfl) (by rw [hb0]; rfl)
       have e : arI op = 0 := by
        clear h
        simp only [decide_eq_true_eq, decide_eq_false_iff_not, beq_iff_eq, beq_eq_false_iff_ne] at *
        unfold arI; (repeat' split) <;> omega
       rw [e]; exact h
     | false =>
      have h := ariF_8 op (by rw [hb4]; rfl) (by rw [hb3]; rfl) (by rw [hb2]; rfl) (by rw [hb1]; rfl) (by rw [hb0]; rfl)
      have e : arI op = 0 := by
       clear h
       simp only [decide_eq_true_eq, decide_eq_false_iff_not, beq_iff_eq, beq_eq_false_iff_ne] at *
       unfold arI; (repeat' split) <;> omega
      rw [e]; exact h
  | false =>
   cases hb2 : (decide (((16 : Nat) : Int) ≤ op)) with
   | true =>
    cases hb3 : (decide (op ≤ ((19 : Nat) : Int))) with
    | true =>
     have h := ariF_9 op (by rw [hb3]; rfl) (by rw [hb2]; rfl) (by rw [hb1]; rfl) (by rw [hb0]; rfl)
     have e : arI op = 2 := by
      clear h
      simp only [decide_eq_true_eq, decide_eq_false_iff_not, beq_iff_eq, beq_eq_false_iff_ne] at *
      unfold arI; (repeat' split) <;> omega
     rw [e]; exact h
    | false =>
     cases hb4 : (decide (((20 : Nat) : Int) ≤ op)) with
     | true =>
      cases hb5 : (decide (op ≤ ((24 : Nat) : Int))) with
      | true =>
       have h := ariF_10 op (by rw [hb5]; rfl) (by rw [hb4]; rfl) (by rw [hb3]; rfl) (by rw [hb2]; rfl) (by rw [hb1]; rfl) (by rw [hb0]; rfl)
       have e : arI op = 1 := by
        clear h
        simp only [decide_eq_true_eq, decide_eq_false_iff_not, beq_iff_eq, beq_eq_false_iff_ne] at *
        unfold arI; (repeat' split) <;> omega
       rw [e]; exact h
      | false =>
       have h := ariF_11 op (by rw [hb5]; rfl) (by rw [hb4]; rfl) (by rw [hb3]; rfl) (by rw [hb2]; rfl) (by rw [hb1]; rfl) (by rw [hb0]; rfl)
       have e : arI op = 0 := by
        clear h
        simp only [decide_eq_true_eq, decide_eq_false_iff_not, beq_iff_eq, beq_eq_false_iff_ne] at *
        unfold arI; (repeat' split) <;> omega
       rw [e]; exact h
     | false =>
      have h := ariF_12 op (by rw [hb4]; rfl) (by rw [hb3]; rfl) (by rw [hb2]; rfl) (by rw [hb1]; rfl) (by rw [hb0]; rfl)
      have e : arI op = 0 := by
       clear h
       simp only [decide_eq_true_eq, decide_eq_false_iff_not, beq_iff_eq, beq_eq_false_iff_ne] at *
       unfold arI; (repeat' split) <;> omega
      rw [e]; exact h
   | false =>
    cases hb3 : (decide (((20 : Nat) : Int) ≤ op)) with
    | true =>
     cases hb4 : (decide (op ≤ ((24 : Nat) : Int))) with
     | true =>
      have h := ariF_13 op (by rw [hb4]; rfl) (by rw [hb3]; rfl) (by rw [hb2]; rfl) (by rw [hb1]; rfl) (by rw [hb0]; rfl)
      have e : arI op = 1 := by
       clear h
       simp only [decide_eq_true_eq, decide_eq_false_iff_not, beq_iff_eq, beq_eq_false_iff_ne] at *
       unfold arI; (repeat' split) <;> omega
      rw [e]; exact h
     | false =>
      have h := ariF_14 op (by rw [hb4]; rfl) (by rw [hb3]; rfl) (by rw [hb2]; rfl) (by rw [hb1]; rfl) (by rw [hb0]; rfl)
      have e : arI op = 0 := by
       clear h
       simp only [decide_eq_true_eq, decide_eq_false_iff_not, beq_iff_eq, beq_eq_false_iff_ne] at *
       unfold arI; (repeat' split) <;> omega
      rw [e]; exact h
    | false =>
     have h := ariF_15 op (by rw [hb3]; rfl) (by rw [hb2]; rfl) (by rw [hb1]; rfl) (by rw [hb0]; rfl)
     have e : arI op = 0 := by
      clear h
      simp only [decide_eq_true_eq, decide_eq_false_iff_not, beq_iff_eq, beq_eq_false_iff_ne] at *
      unfold arI; (repeat' split) <;> omega
     rw [e]; exact h
theorem namF_ok (op : Int) : CO 74 [.int .i64 op] (.ret (.bool (namI op))) := by
 cases hb0 : (decide (((5 : Nat) : Int) ≤ op)) with
 | true =>
  cases hb1 : (decide (op ≤ ((8 : Nat) : Int))) with
  | true =>
   have h := namF_0 op (by rw [hb1]; rfl) (by rw [hb0]; rfl)
   have e : namI op = true := by
    clear h
    simp only [decide_eq_true_eq, decide_eq_false_iff_not, beq_iff_eq, beq_eq_false_iff_ne] at *
    unfold namI; first | (rw [decide_eq_true_eq]; omega) | (rw [Bool.eq_iff_iff]; simp only [decide_eq_true_eq, beq_iff_eq]; omega)
   rw [e]; exact h
  | false =>
   have h := namF_1 op (by rw [hb1]; rfl) (by rw [hb0]; rfl)
   have e : namI op = (op == ((24 : Nat) : Int)) := by
    clear h
    simp only [decide_eq_true_eq, decide_eq_false_iff_not, beq_iff_eq, beq_eq_false_iff_ne] at *
    unfold namI; first | (rw [decide_eq_true_eq]; omega) | (rw [Bool.eq_iff_iff]; simp only [decide_eq_true_eq, beq_iff_eq]; omega)
   rw [e]; exact h
 | false =>
  have h := namF_2 op (by rw [hb0]; rfl)
  have e : namI op = (op == ((24 : Nat) : Int)) := by
   clear h
   simp only [decide_eq_true_eq, decide_eq_false_iff_not, beq_iff_eq, beq_eq_false_iff_ne] at *
   unfold namI; first | (rw [decide_eq_true_eq]; omega) | (rw [Bool.eq_iff_iff]; simp only [decide_eq_true_eq, beq_iff_eq]; omega)
  rw [e]; exact h
theorem litF_ok (op : Int) : CO 106 [.int .i64 op] (.ret (.bool (litI op))) := by
 cases hb0 : (decide (((1 : Nat) : Int) ≤ op)) with
 | true =>
  have h := litF_0 op (by rw [hb0]; rfl)
  have e : litI op = (decide (op ≤ ((4 : Nat) : Int))) := by
   clear h
   simp only [decide_eq_true_eq, decide_eq_false_iff_not, beq_iff_eq, beq_eq_false_iff_ne] at *
   unfold litI; first | (rw [decide_eq_false_iff_not]; omega) | (rw [Bool.eq_iff_iff]; simp only [decide_eq_true_eq, beq_iff_eq]; omega)
  rw [e]; exact h
 | false =>
  have h := litF_1 op (by rw [hb0]; rfl)
  have e : litI op = false := by
   clear h
   simp only [decide_eq_true_eq, decide_eq_false_iff_not, beq_iff_eq, beq_eq_false_iff_ne] at *
   unfold litI; first | (rw [decide_eq_false_iff_not]; omega) | (rw [Bool.eq_iff_iff]; simp only [decide_eq_true_eq, beq_iff_eq]; omega)
  rw [e]; exact h
theorem steF_ok (op : Int) : CO 107 [.int .i64 op] (.ret (.bool (steI op))) := by
 cases hb0 : (decide (((21 : Nat) : Int) ≤ op)) with
 | true =>
  have h := steF_0 op (by rw [hb0]; rfl)
  have e : steI op = (decide (op ≤ ((23 : Nat) : Int))) := by
   clear h
   simp only [decide_eq_true_eq, decide_eq_false_iff_not, beq_iff_eq, beq_eq_false_iff_ne] at *
   unfold steI; first | (rw [decide_eq_false_iff_not]; omega) | (rw [Bool.eq_iff_iff]; simp only [decide_eq_true_eq, beq_iff_eq]; omega)
  rw [e]; exact h
 | false =>
  have h := steF_1 op (by rw [hb0]; rfl)
  have e : steI op = false := by
   clear h
   simp only [decide_eq_true_eq, decide_eq_false_iff_not, beq_iff_eq, beq_eq_false_iff_ne] at *
   unfold steI; first | (rw [decide_eq_false_iff_not]; omega) | (rw [Bool.eq_iff_iff]; simp only [decide_eq_true_eq, beq_iff_eq]; omega)
  rw [e]; exact h
theorem op_cases {op : Int} (h : 1 ≤ op) (h' : op ≤ 24) : op = 1 ∨ op = 2 ∨ op = 3 ∨ op = 4 ∨ op = 5 ∨ op = 6 ∨ op = 7 ∨ op = 8 ∨ op = 9 ∨ op = 10 ∨ op = 11 ∨ op = 12 ∨ op = 13 ∨ op = 14 ∨ op = 15 ∨ op = 16 ∨ op = 17 ∨ op = 18 ∨ op = 19 ∨ op = 20 ∨ op = 21 ∨ op = 22 ∨ op = 23 ∨ op = 24 := by omega
abbrev shA (op : Int) : AV := .agg [.str (wordI op), .int .i64 ((arI op : Nat) : Int), .bool (litI op), .bool (namI op), .bool (steI op)]
theorem of_in {op : Int} (h : 1 ≤ op) (h' : op ≤ 24) : CO 109 [.int .i64 op] (.ret (.tup [shA op, .bool true])) := by
 rcases op_cases h h' with rfl | rfl | rfl | rfl | rfl | rfl | rfl | rfl | rfl | rfl | rfl | rfl | rfl | rfl | rfl | rfl | rfl | rfl | rfl | rfl | rfl | rfl | rfl | rfl
 all_goals exact ofF_2 _ rfl rfl rfl rfl rfl rfl rfl rfl rfl
theorem of_out {op : Int} (h : op < 1 ∨ 24 < op) : CO 109 [.int .i64 op] (.ret (.tup [.agg [.str [], .int .i64 0, .bool false, .bool false, .bool false], .bool false])) := by
 by_cases h1 : op < 1
 ·exact ofF_0 op (by simp [lit]; omega)
 ·exact ofF_1 op (by simp [lit]; omega) (by simp [lit]; omega)
theorem tab_ar {op : Int} (h : 1 ≤ op) (h' : op ≤ 24) : List.headD (List.drop (op.toNat * 5 + 1) tabL) .dead = .int .i64 ((arI op : Nat) : Int) := by
 rcases op_cases h h' with rfl | rfl | rfl | rfl | rfl | rfl | rfl | rfl | rfl | rfl | rfl | rfl | rfl | rfl | rfl | rfl | rfl | rfl | rfl | rfl | rfl | rfl | rfl | rfl
 all_goals rfl
def inI (op : Int) : Bool := decide (1 ≤ op ∧ op ≤ 24)
theorem shape_ok (op : Int) : CO 109 [.int .i64 op] (.ret (.tup [shA op, .bool (inI op)])) := by
 by_cases h : 1 ≤ op ∧ op ≤ 24
 ·have e : inI op = true := decide_eq_true h
  rw [e]; exact of_in h.1 h.2
 ·have e : inI op = false := decide_eq_false h
  have e1 : arI op = 0 := by unfold arI; (repeat' split) <;> omega
  have e2 : litI op = false := by unfold litI; rw [decide_eq_false_iff_not]; omega
  have e3 : namI op = false := by unfold namI; rw [decide_eq_false_iff_not]; omega
  have e4 : steI op = false := by unfold steI; rw [decide_eq_false_iff_not]; omega
  have e5 : wordI op = [] := by
   unfold wordI
   by_cases h1 : op < 1
   ·have : op.toNat = 0 := by omega
    rw [this]; rfl
   ·have hl : tabL.length = 125 := by decide
    rw [List.drop_of_length_le (by omega)]; rfl
  unfold shA
  rw [e, e1, e2, e3, e4, e5]
  exact of_out (by omega)
structure Nd where
 op : Int
 neg : Bool
 num : List UInt8
 den : List UInt8
 name : List UInt8
def ndC (x : Nd) : List AV := [.int .i64 x.op, .bool x.neg, .str x.num, .str x.den, .str x.name]
def Nd.sm (x : Nd) : Prop := x.num.length < 2 ^ 33 ∧ x.den.length < 2 ^ 33
def numQ (x : Nd) : Bool := cond (x.op == ((4 : Nat) : Int)) (eqS x.neg x.num x.den 0 || eqS x.neg x.num x.den 1) (cond (litI x.op) (fitsQ x.neg x.num x.den) (cond (steI x.op) (fitsQ x.neg x.num x.den && decide (((0 : Nat) : Int) < sgnQ x.neg x.num x.den)) ((x.neg == false) && ((x.num == []) && ((x.den == []) && true)))))
def wrongQ (x : Nd) : Int := cond (!inI x.op || (!namI x.op && !(x.name == []))) 11 (cond (!numQ x) 11 (cond (namI x.op && !nameQ x.name) 12 0))
theorem wrong_ok (x : Nd) (hx : x.sm) : CO 77 [.agg (ndC x)] (.ret (.int .i64 (wrongQ x))) := by
 have h1 : x.num.length < 2 ^ 36 := Nat.lt_trans hx.1 (by decide)
 have h2 : x.den.length < 2 ^ 36 := Nat.lt_trans hx.2 (by decide)
 rcases tf (inI x.op) with b0 | b0
 ·rcases tf (namI x.op) with b1 | b1
  ·rcases tf (x.op == ((4 : Nat) : Int)) with b2 | b2
   ·rcases tf ((x.neg == false) && ((x.num == (natS 0)) && ((x.den == (natS 1)) && true))) with b3 | b3
    ·rcases tf (nameQ x.name) with b4 | b4
     ·rw [show wrongQ x = 0 by simp only [wrongQ, numQ, eqS, b0, b1, b2, b3, b4] <;> rfl]
      exact pK [] 8 88 (.c (litNF b4) (.k 1 (litT b1) (.k 2 (litT b3) (.k 3 (litT b2) (.k 2 (litNF b1) (.k 1 (litNF b0) (.n 2 .nil))))))) (.c (name_ok x.name) (.c (ratof0) (.c (shape_ok x.op) .nil)))
     ·rw [show wrongQ x = 12 by simp only [wrongQ, numQ, eqS, b0, b1, b2, b3, b4] <;> rfl]
      exact pK [] 8 216 (.c (litNT b4) (.k 1 (litT b1) (.k 2 (litT b3) (.k 3 (litT b2) (.k 2 (litNF b1) (.k 1 (litNF b0) (.n 2 .nil))))))) (.c (name_ok x.name) (.c (ratof0) (.c (shape_ok x.op) .nil)))
    ·rcases tf ((x.neg == false) && ((x.num == (natS 1)) && ((x.den == (natS 1)) && true))) with b4 | b4
     ·rcases tf (nameQ x.name) with b5 | b5
      ·rw [show wrongQ x = 0 by simp only [wrongQ, numQ, eqS, b0, b1, b2, b3, b4, b5] <;> rfl]
       exact pK [] 8 72 (.c (litNF b5) (.k 1 (litT b1) (.k 1 (litNF b4) (.k 3 (litF b3) (.k 3 (litT b2) (.k 2 (litNF b1) (.k 1 (litNF b0) (.n 2 .nil)))))))) (.c (name_ok x.name) (.c (ratof1) (.c (ratof0) (.c (shape_ok x.op) .nil))))
      ·rw [show wrongQ x = 12 by simp only [wrongQ, numQ, eqS, b0, b1, b2, b3, b4, b5] <;> rfl]
       exact pK [] 8 200 (.c (litNT b5) (.k 1 (litT b1) (.k 1 (litNF b4) (.k 3 (litF b3) (.k 3 (litT b2) (.k 2 (litNF b1) (.k 1 (litNF b0) (.n 2 .nil)))))))) (.c (name_ok x.name) (.c (ratof1) (.c (ratof0) (.c (shape_ok x.op) .nil))))
     ·rw [show wrongQ x = 11 by simp only [wrongQ, numQ, eqS, b0, b1, b2, b3, b4] <;> rfl]
      exact pK [] 6 40 (.c (litNT b4) (.k 3 (litF b3) (.k 3 (litT b2) (.k 2 (litNF b1) (.k 1 (litNF b0) (.n 2 .nil)))))) (.c (ratof1) (.c (ratof0) (.c (shape_ok x.op) .nil)))
   ·rcases tf (litI x.op) with b3 | b3
    ·rcases tf (fitsQ x.neg x.num x.den) with b4 | b4
     ·rcases tf (nameQ x.name) with b5 | b5
      ·rw [show wrongQ x = 0 by simp only [wrongQ, numQ, eqS, b0, b1, b2, b3, b4, b5] <;> rfl]
       exact pK [] 8 80 (.c (litNF b5) (.k 1 (litT b1) (.k 1 (litNF b4) (.k 3 (litT b3) (.k 1 (litF b2) (.k 2 (litNF b1) (.k 1 (litNF b0) (.n 2 .nil)))))))) (.c (name_ok x.name) (.c (fits_ok x.neg x.num x.den h1 h2) (.c (shape_ok x.op) .nil)))
      ·rw [show wrongQ x = 12 by simp only [wrongQ, numQ, eqS, b0, b1, b2, b3, b4, b5] <;> rfl]
       exact pK [] 8 208 (.c (litNT b5) (.k 1 (litT b1) (.k 1 (litNF b4) (.k 3 (litT b3) (.k 1 (litF b2) (.k 2 (litNF b1) (.k 1 (litNF b0) (.n 2 .nil)))))))) (.c (name_ok x.name) (.c (fits_ok x.neg x.num x.den h1 h2) (.c (shape_ok x.op) .nil)))
     ·rw [show wrongQ x = 11 by simp only [wrongQ, numQ, eqS, b0, b1, b2, b3, b4] <;> rfl]
      exact pK [] 6 48 (.c (litNT b4) (.k 3 (litT b3) (.k 1 (litF b2) (.k 2 (litNF b1) (.k 1 (litNF b0) (.n 2 .nil)))))) (.c (fits_ok x.neg x.num x.den h1 h2) (.c (shape_ok x.op) .nil))
    ·rcases tf (steI x.op) with b4 | b4
     ·rcases tf (fitsQ x.neg x.num x.den) with b5 | b5
      ·rcases tf (decide (((0 : Nat) : Int) < (sgnQ x.neg x.num x.den))) with b6 | b6
       ·rcases tf (nameQ x.name) with b7 | b7
        ·rw [show wrongQ x = 0 by simp only [wrongQ, numQ, eqS, b0, b1, b2, b3, b4, b5, b6, b7] <;> rfl]
         exact pK [] 10 352 (.c (litNF b7) (.k 1 (litT b1) (.k 1 (litNF b6) (.k 3 (litT b5) (.k 3 (litT b4) (.k 1 (litF b3) (.k 1 (litF b2) (.k 2 (litNF b1) (.k 1 (litNF b0) (.n 2 .nil)))))))))) (.c (name_ok x.name) (.c (rsign_ok x.neg x.num x.den h1 h2) (.c (fits_ok x.neg x.num x.den h1 h2) (.c (shape_ok x.op) .nil))))
        ·rw [show wrongQ x = 12 by simp only [wrongQ, numQ, eqS, b0, b1, b2, b3, b4, b5, b6, b7] <;> rfl]
         exact pK [] 10 864 (.c (litNT b7) (.k 1 (litT b1) (.k 1 (litNF b6) (.k 3 (litT b5) (.k 3 (litT b4) (.k 1 (litF b3) (.k 1 (litF b2) (.k 2 (litNF b1) (.k 1 (litNF b0) (.n 2 .nil)))))))))) (.c (name_ok x.name) (.c (rsign_ok x.neg x.num x.den h1 h2) (.c (fits_ok x.neg x.num x.den h1 h2) (.c (shape_ok x.op) .nil))))
       ·rw [show wrongQ x = 11 by simp only [wrongQ, numQ, eqS, b0, b1, b2, b3, b4, b5, b6] <;> rfl]
        exact pK [] 8 224 (.c (litNT b6) (.k 3 (litT b5) (.k 3 (litT b4) (.k 1 (litF b3) (.k 1 (litF b2) (.k 2 (litNF b1) (.k 1 (litNF b0) (.n 2 .nil)))))))) (.c (rsign_ok x.neg x.num x.den h1 h2) (.c (fits_ok x.neg x.num x.den h1 h2) (.c (shape_ok x.op) .nil)))
      ·rw [show wrongQ x = 11 by simp only [wrongQ, numQ, eqS, b0, b1, b2, b3, b4, b5] <;> rfl]
       exact pK [] 8 160 (.k 1 (litF b5) (.k 3 (litT b4) (.k 1 (litF b3) (.k 1 (litF b2) (.k 2 (litNF b1) (.k 1 (litNF b0) (.n 2 .nil))))))) (.c (fits_ok x.neg x.num x.den h1 h2) (.c (shape_ok x.op) .nil))
     ·rcases tf ((x.neg == false) && ((x.num == []) && ((x.den == []) && true))) with b5 | b5
      ·rcases tf (nameQ x.name) with b6 | b6
       ·rw [show wrongQ x = 0 by simp only [wrongQ, numQ, eqS, b0, b1, b2, b3, b4, b5, b6] <;> rfl]
        exact pK [] 9 128 (.c (litNF b6) (.k 1 (litT b1) (.k 1 (litNF b5) (.k 3 (litF b4) (.k 1 (litF b3) (.k 1 (litF b2) (.k 2 (litNF b1) (.k 1 (litNF b0) (.n 2 .nil))))))))) (.c (name_ok x.name) (.c (shape_ok x.op) .nil))
       ·rw [show wrongQ x = 12 by simp only [wrongQ, numQ, eqS, b0, b1, b2, b3, b4, b5, b6] <;> rfl]
        exact pK [] 9 384 (.c (litNT b6) (.k 1 (litT b1) (.k 1 (litNF b5) (.k 3 (litF b4) (.k 1 (litF b3) (.k 1 (litF b2) (.k 2 (litNF b1) (.k 1 (litNF b0) (.n 2 .nil))))))))) (.c (name_ok x.name) (.c (shape_ok x.op) .nil))
      ·rw [show wrongQ x = 11 by simp only [wrongQ, numQ, eqS, b0, b1, b2, b3, b4, b5] <;> rfl]
       exact pK [] 7 64 (.c (litNT b5) (.k 3 (litF b4) (.k 1 (litF b3) (.k 1 (litF b2) (.k 2 (litNF b1) (.k 1 (litNF b0) (.n 2 .nil))))))) (.c (shape_ok x.op) .nil)
  ·rcases tf (x.name == []) with b2 | b2
   ·rcases tf (x.op == ((4 : Nat) : Int)) with b3 | b3
    ·rcases tf ((x.neg == false) && ((x.num == (natS 0)) && ((x.den == (natS 1)) && true))) with b4 | b4
     ·rw [show wrongQ x = 0 by simp only [wrongQ, numQ, eqS, b0, b1, b2, b3, b4] <;> rfl]
      exact pK [] 8 26 (.k 1 (litF b1) (.k 2 (litT b4) (.k 3 (litT b3) (.k 1 (litNF b2) (.k 1 (litNT b1) (.k 1 (litNF b0) (.n 2 .nil))))))) (.c (ratof0) (.c (shape_ok x.op) .nil))
     ·rcases tf ((x.neg == false) && ((x.num == (natS 1)) && ((x.den == (natS 1)) && true))) with b5 | b5
      ·rw [show wrongQ x = 0 by simp only [wrongQ, numQ, eqS, b0, b1, b2, b3, b4, b5] <;> rfl]
       exact pK [] 8 10 (.k 1 (litF b1) (.k 1 (litNF b5) (.k 3 (litF b4) (.k 3 (litT b3) (.k 1 (litNF b2) (.k 1 (litNT b1) (.k 1 (litNF b0) (.n 2 .nil)))))))) (.c (ratof1) (.c (ratof0) (.c (shape_ok x.op) .nil)))
      ·rw [show wrongQ x = 11 by simp only [wrongQ, numQ, eqS, b0, b1, b2, b3, b4, b5] <;> rfl]
       exact pK [] 6 42 (.c (litNT b5) (.k 3 (litF b4) (.k 3 (litT b3) (.k 1 (litNF b2) (.k 1 (litNT b1) (.k 1 (litNF b0) (.n 2 .nil))))))) (.c (ratof1) (.c (ratof0) (.c (shape_ok x.op) .nil)))
    ·rcases tf (litI x.op) with b4 | b4
     ·rcases tf (fitsQ x.neg x.num x.den) with b5 | b5
      ·rw [show wrongQ x = 0 by simp only [wrongQ, numQ, eqS, b0, b1, b2, b3, b4, b5] <;> rfl]
       exact pK [] 8 18 (.k 1 (litF b1) (.k 1 (litNF b5) (.k 3 (litT b4) (.k 1 (litF b3) (.k 1 (litNF b2) (.k 1 (litNT b1) (.k 1 (litNF b0) (.n 2 .nil)))))))) (.c (fits_ok x.neg x.num x.den h1 h2) (.c (shape_ok x.op) .nil))
      ·rw [show wrongQ x = 11 by simp only [wrongQ, numQ, eqS, b0, b1, b2, b3, b4, b5] <;> rfl]
       exact pK [] 6 50 (.c (litNT b5) (.k 3 (litT b4) (.k 1 (litF b3) (.k 1 (litNF b2) (.k 1 (litNT b1) (.k 1 (litNF b0) (.n 2 .nil))))))) (.c (fits_ok x.neg x.num x.den h1 h2) (.c (shape_ok x.op) .nil))
     ·rcases tf (steI x.op) with b5 | b5
      ·rcases tf (fitsQ x.neg x.num x.den) with b6 | b6
       ·rcases tf (decide (((0 : Nat) : Int) < (sgnQ x.neg x.num x.den))) with b7 | b7
        ·rw [show wrongQ x = 0 by simp only [wrongQ, numQ, eqS, b0, b1, b2, b3, b4, b5, b6, b7] <;> rfl]
         exact pK [] 10 98 (.k 1 (litF b1) (.k 1 (litNF b7) (.k 3 (litT b6) (.k 3 (litT b5) (.k 1 (litF b4) (.k 1 (litF b3) (.k 1 (litNF b2) (.k 1 (litNT b1) (.k 1 (litNF b0) (.n 2 .nil)))))))))) (.c (rsign_ok x.neg x.num x.den h1 h2) (.c (fits_ok x.neg x.num x.den h1 h2) (.c (shape_ok x.op) .nil)))
        ·rw [show wrongQ x = 11 by simp only [wrongQ, numQ, eqS, b0, b1, b2, b3, b4, b5, b6, b7] <;> rfl]
         exact pK [] 8 226 (.c (litNT b7) (.k 3 (litT b6) (.k 3 (litT b5) (.k 1 (litF b4) (.k 1 (litF b3) (.k 1 (litNF b2) (.k 1 (litNT b1) (.k 1 (litNF b0) (.n 2 .nil))))))))) (.c (rsign_ok x.neg x.num x.den h1 h2) (.c (fits_ok x.neg x.num x.den h1 h2) (.c (shape_ok x.op) .nil)))
       ·rw [show wrongQ x = 11 by simp only [wrongQ, numQ, eqS, b0, b1, b2, b3, b4, b5, b6] <;> rfl]
        exact pK [] 8 162 (.k 1 (litF b6) (.k 3 (litT b5) (.k 1 (litF b4) (.k 1 (litF b3) (.k 1 (litNF b2) (.k 1 (litNT b1) (.k 1 (litNF b0) (.n 2 .nil)))))))) (.c (fits_ok x.neg x.num x.den h1 h2) (.c (shape_ok x.op) .nil))
      ·rcases tf ((x.neg == false) && ((x.num == []) && ((x.den == []) && true))) with b6 | b6
       ·rw [show wrongQ x = 0 by simp only [wrongQ, numQ, eqS, b0, b1, b2, b3, b4, b5, b6] <;> rfl]
        exact pK [] 9 2 (.k 1 (litF b1) (.k 1 (litNF b6) (.k 3 (litF b5) (.k 1 (litF b4) (.k 1 (litF b3) (.k 1 (litNF b2) (.k 1 (litNT b1) (.k 1 (litNF b0) (.n 2 .nil))))))))) (.c (shape_ok x.op) .nil)
       ·rw [show wrongQ x = 11 by simp only [wrongQ, numQ, eqS, b0, b1, b2, b3, b4, b5, b6] <;> rfl]
        exact pK [] 7 66 (.c (litNT b6) (.k 3 (litF b5) (.k 1 (litF b4) (.k 1 (litF b3) (.k 1 (litNF b2) (.k 1 (litNT b1) (.k 1 (litNF b0) (.n 2 .nil)))))))) (.c (shape_ok x.op) .nil)
   ·rw [show wrongQ x = 11 by simp only [wrongQ, numQ, eqS, b0, b1, b2] <;> rfl]
    exact pK [] 3 6 (.c (litNT b2) (.k 1 (litNT b1) (.k 1 (litNF b0) (.n 2 .nil)))) (.c (shape_ok x.op) .nil)
 ·rw [show wrongQ x = 11 by simp only [wrongQ, numQ, eqS, b0] <;> rfl]
  exact pK [] 2 3 (.k 1 (litNT b0) (.n 2 .nil)) (.c (shape_ok x.op) .nil)
theorem numbered_ok (x : Nd) (hx : x.sm) : CO 75 [.agg (ndC x)] (.ret (.bool (numQ x))) := by
 rcases tf (x.op == ((4 : Nat) : Int)) with b0 | b0
 ·rcases tf ((x.neg == false) && ((x.num == (natS 0)) && ((x.den == (natS 1)) && true))) with b1 | b1
  ·rw [show numQ x = true by simp only [numQ, eqS, b0, b1] <;> rfl]
   exact pK [] 2 3 (.c (litT b1) (.k 3 (litT b0) (.n 1 .nil))) (.c (q2of0) .nil)
  ·rw [show numQ x = ((x.neg == false) && ((x.num == (natS 1)) && ((x.den == (natS 1)) && true))) by simp only [numQ, eqS, b0, b1] <;> rfl]
   exact pK [] 2 1 (.k 3 (litF b1) (.k 3 (litT b0) (.n 1 .nil))) (.c (q2of1) (.c (q2of0) .nil))
 ·rcases tf (litI x.op) with b1 | b1
  ·rw [show numQ x = (fitsQ x.neg x.num x.den) by simp only [numQ, eqS, b0, b1] <;> rfl]
   exact pK [] 2 2 (.k 3 (litT b1) (.k 1 (litF b0) (.n 1 .nil))) (.c (q2fits_ok x.neg x.num x.den hx.1 hx.2) (.c (litF_ok x.op) .nil))
  ·rcases tf (steI x.op) with b2 | b2
   ·rcases tf (fitsQ x.neg x.num x.den) with b3 | b3
    ·rw [show numQ x = (decide (((0 : Nat) : Int) < (sgnQ x.neg x.num x.den))) by simp only [numQ, eqS, b0, b1, b2, b3] <;> rfl]
     exact pK [] 4 12 (.k 3 (litT b3) (.k 3 (litT b2) (.k 1 (litF b1) (.k 1 (litF b0) (.n 1 .nil))))) (.c (q2sign_ok x.neg x.num x.den hx.1 hx.2) (.c (q2fits_ok x.neg x.num x.den hx.1 hx.2) (.c (steF_ok x.op) (.c (litF_ok x.op) .nil))))
    ·rw [show numQ x = false by simp only [numQ, eqS, b0, b1, b2, b3] <;> rfl]
     exact pK [] 4 4 (.c (litF b3) (.k 3 (litT b2) (.k 1 (litF b1) (.k 1 (litF b0) (.n 1 .nil))))) (.c (q2fits_ok x.neg x.num x.den hx.1 hx.2) (.c (steF_ok x.op) (.c (litF_ok x.op) .nil)))
   ·rw [show numQ x = ((x.neg == false) && ((x.num == []) && ((x.den == []) && true))) by simp only [numQ, eqS, b0, b1, b2] <;> rfl]
    exact pK [] 3 0 (.k 3 (litF b2) (.k 1 (litF b1) (.k 1 (litF b0) (.n 1 .nil)))) (.c (steF_ok x.op) (.c (litF_ok x.op) .nil))
end Go.Proofs.Tryz
