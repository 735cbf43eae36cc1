/- Contracts of functions that the law reaches, each by its own hypotheses; joined by a program of mine. -/
import Derived.Test.YtpjkeigmiooooaaGreatDoorV2
import Derived.Test.YtpjkeigmiooooaaGreatDoorM5
import Derived.Test.YtpjkeigmiooooaaGreatDoorV1
set_option linter.unusedSimpArgs false
set_option linter.unusedVariables false
set_option maxRecDepth 100000
open Go AM
namespace Go.Proofs.Tryz
def ndL (l : List Nd) : List AV := l.flatMap ndC
theorem ck_0 {nt : Nat} (hn : 35 ≤ nt) (l : List Nd) (nn : Bool) (k d : Nat) (w : Int) (x : Nd) (r : List Nd) (hdr : (List.drop ((Int.toNat (k : Int)) * 5) (ndL l)) = ndC x ++ ndL r) (h0 : lit true (!(w == ((0 : Nat) : Int))) = true) (h1 : (decide (((0 : Nat) : Int) ≤ (k : Int))) = true) (h2 : (decide ((k : Int) < (l.length : Int))) = true) (h3 : lit true (decide ((k : Int) < (l.length : Int))) = true) (c0 : CO 77 [.agg [.int .i64 x.op, .bool x.neg, .str x.num, .str x.den, .str x.name]] (.ret (.int .i64 w))) : ExecOk prog ap [] nt (loopBody 0 (bodyOf f49)) ⟨[(10, .sl (ndL l) l.length nn), (11, .int .i64 (l.length : Int)), (12, .int .i64 (k : Int)), (3, .int .i64 (d : Int))], [], .dead, []⟩ (.ret) ⟨[(2, .int .i64 w)], [], .dead, []⟩ :=
 have h : ExecOk prog ap [] nt (loopBody 0 (bodyOf f49)) ⟨[(10, .sl (ndL l) l.length nn), (11, .int .i64 (l.length : Int)), (12, .int .i64 (k : Int)), (3, .int .i64 (d : Int))], [], .dead, []⟩ (.ret) ⟨[(2, .int .i64 w)], [(0, ⟨[.int .i64 x.op, .bool x.neg, .str x.num, .str x.den, .str x.name], 0, false, 0, 0, true⟩)], .dead, []⟩ := pJ 49 [] 2 3 (.c h0 (.k 11 h1 (.c h2 (.c h3 .nil)))) (.c c0 (.v 14 (.ppt hdr) .nil)) hn
 h.forgetD 0 ⟨[.int .i64 x.op, .bool x.neg, .str x.num, .str x.den, .str x.name], 0, false, 0, 0, true⟩ (by intro v h; cases h) (by decide) rfl ⟨Fz.same rfl, trivial⟩ rfl rfl
theorem ck_1 {nt : Nat} (hn : 35 ≤ nt) (l : List Nd) (nn : Bool) (k d : Nat) (w : Int) (x : Nd) (r : List Nd) (hdr : (List.drop ((Int.toNat (k : Int)) * 5) (ndL l)) = ndC x ++ ndL r) (h0 : lit true (decide ((IntKind.wrap .i64 ((d : Int) - (AV.toInt (List.headD (List.drop ((0 + ((Int.toNat x.op) * 5)) + 1) tabL) .dead)))) < ((0 : Nat) : Int))) = true) (h1 : (chk (.int .i64) (List.headD (List.drop ((0 + ((Int.toNat x.op) * 5)) + 1) tabL) .dead)) = true) (h2 : (decide (((0 : Nat) : Int) ≤ x.op)) = true) (h3 : (decide (x.op < ((25 : Nat) : Int))) = true) (h4 : lit false (!(w == ((0 : Nat) : Int))) = true) (h5 : (decide (((0 : Nat) : Int) ≤ (k : Int))) = true) (h6 : (decide ((k : Int) < (l.length : Int))) = true) (h7 : lit true (decide ((k : Int) < (l.length : Int))) = true) (c0 : CO 77 [.agg [.int .i64 x.op, .bool x.neg, .str x.num, .str x.den, .str x.name]] (.ret (.int .i64 w))) : ExecOk prog ap [] nt (loopBody 0 (bodyOf f49)) ⟨[(10, .sl (ndL l) l.length nn), (11, .int .i64 (l.length : Int)), (12, .int .i64 (k : Int)), (3, .int .i64 (d : Int))], [], .dead, []⟩ (.ret) ⟨[(2, .int .i64 11)], [], .dead, []⟩ :=
 have h : ExecOk prog ap [] nt (loopBody 0 (bodyOf f49)) ⟨[(10, .sl (ndL l) l.length nn), (11, .int .i64 (l.length : Int)), (12, .int .i64 (k : Int)), (3, .int .i64 (d : Int))], [], .dead, []⟩ (.ret) ⟨[(2, .int .i64 11)], [(0, ⟨[.int .i64 x.op, .bool x.neg, .str x.num, .str x.den, .str x.name], 0, false, 0, 0, true⟩)], .dead, []⟩ := pJ 49 [] 3 5 (.c h0 (.c h1 (.c h2 (.c h3 (.k 1 h4 (.k 11 h5 (.c h6 (.c h7 .nil)))))))) (.c c0 (.v 14 (.ppt hdr) .nil)) hn
 h.forgetD 0 ⟨[.int .i64 x.op, .bool x.neg, .str x.num, .str x.den, .str x.name], 0, false, 0, 0, true⟩ (by intro v h; cases h) (by decide) rfl ⟨Fz.same rfl, trivial⟩ rfl rfl
theorem ck_2 {nt : Nat} (hn : 35 ≤ nt) (l : List Nd) (nn : Bool) (k d : Nat) (w : Int) (x : Nd) (r : List Nd) (hdr : (List.drop ((Int.toNat (k : Int)) * 5) (ndL l)) = ndC x ++ ndL r) (h0 : lit false (decide ((IntKind.wrap .i64 ((d : Int) - (AV.toInt (List.headD (List.drop ((0 + ((Int.toNat x.op) * 5)) + 1) tabL) .dead)))) < ((0 : Nat) : Int))) = true) (h1 : (chk (.int .i64) (List.headD (List.drop ((0 + ((Int.toNat x.op) * 5)) + 1) tabL) .dead)) = true) (h2 : (decide (((0 : Nat) : Int) ≤ x.op)) = true) (h3 : (decide (x.op < ((25 : Nat) : Int))) = true) (h4 : lit false (!(w == ((0 : Nat) : Int))) = true) (h5 : (decide (((0 : Nat) : Int) ≤ (k : Int))) = true) (h6 : (decide ((k : Int) < (l.length : Int))) = true) (h7 : lit true (decide ((k : Int) < (l.length : Int))) = true) (c0 : CO 77 [.agg [.int .i64 x.op, .bool x.neg, .str x.num, .str x.den, .str x.name]] (.ret (.int .i64 w))) : ExecOk prog ap [] nt (loopBody 0 (bodyOf f49)) ⟨[(10, .sl (ndL l) l.length nn), (11, .int .i64 (l.length : Int)), (12, .int .i64 (k : Int)), (3, .int .i64 (d : Int))], [], .dead, []⟩ (.normal) ⟨[(10, .sl (ndL l) l.length nn), (11, .int .i64 (l.length : Int)), (12, .int .i64 (IntKind.wrap .i64 ((k : Int) + ((1 : Nat) : Int)))), (3, .int .i64 (IntKind.wrap .i64 ((IntKind.wrap .i64 ((d : Int) - (AV.toInt (List.headD (List.drop ((0 + ((Int.toNat x.op) * 5)) + 1) tabL) .dead)))) + ((1 : Nat) : Int))))], [], .dead, []⟩ :=
 have h : ExecOk prog ap [] nt (loopBody 0 (bodyOf f49)) ⟨[(10, .sl (ndL l) l.length nn), (11, .int .i64 (l.length : Int)), (12, .int .i64 (k : Int)), (3, .int .i64 (d : Int))], [], .dead, []⟩ (.normal) ⟨[(10, .sl (ndL l) l.length nn), (11, .int .i64 (l.length : Int)), (12, .int .i64 (IntKind.wrap .i64 ((k : Int) + ((1 : Nat) : Int)))), (3, .int .i64 (IntKind.wrap .i64 ((IntKind.wrap .i64 ((d : Int) - (AV.toInt (List.headD (List.drop ((0 + ((Int.toNat x.op) * 5)) + 1) tabL) .dead)))) + ((1 : Nat) : Int))))], [(0, ⟨[.int .i64 x.op, .bool x.neg, .str x.num, .str x.den, .str x.name], 0, false, 0, 0, true⟩)], .dead, []⟩ := pJ 49 [] 3 1 (.c h0 (.c h1 (.c h2 (.c h3 (.k 1 h4 (.k 11 h5 (.c h6 (.c h7 .nil)))))))) (.c c0 (.v 14 (.ppt hdr) .nil)) hn
 h.forgetD 0 ⟨[.int .i64 x.op, .bool x.neg, .str x.num, .str x.den, .str x.name], 0, false, 0, 0, true⟩ (by intro v h; cases h) (by decide) rfl ⟨Fz.same rfl, Fz.same rfl, Fz.same rfl, Fz.same rfl, trivial⟩ rfl rfl
theorem ck_raw_3 {nt : Nat} (hn : 35 ≤ nt) (l : List Nd) (nn : Bool) (k d : Nat) (w : Int) (h0 : lit false (decide ((k : Int) < (l.length : Int))) = true)  : ExecOk prog ap [] nt (loopBody 0 (bodyOf f49)) ⟨[(10, .sl (ndL l) l.length nn), (11, .int .i64 (l.length : Int)), (12, .int .i64 (k : Int)), (3, .int .i64 (d : Int))], [], .dead, []⟩ (.exit 0) ⟨[(3, .int .i64 (d : Int))], [], .dead, []⟩ := pJ 49 [] 1 0 (.c h0 .nil) (.nil) hn
theorem ckF_0 (l : List Nd) (nn : Bool) (d : Nat) (h0 : lit true (decide (((60 : Nat) : Int) < (l.length : Int))) = true)  : CO 49 [.sl (ndL l) l.length nn] (.ret (.int .i64 2)) := pK [0] 1 1 (.c h0 .nil) (.nil)
theorem ckF_1 (l : List Nd) (nn : Bool) (d : Nat) (h0 : lit true (!((d : Int) == ((1 : Nat) : Int))) = true) (h1 : lit false (decide (((60 : Nat) : Int) < (l.length : Int))) = true) (l0 : LoopOk prog ap [] 35 (.block 0 (.loop (loopBody 0 (bodyOf f49)))) ⟨[(0, .sl (ndL l) l.length nn), (2, .int .i64 0), (3, .int .i64 0), (5, .dead), (6, .dead), (9, .bool (decide (((60 : Nat) : Int) < (l.length : Int)))), (10, .sl (ndL l) l.length nn), (11, .int .i64 (l.length : Int)), (12, .int .i64 0), (13, .dead), (19, .dead), (29, .dead), (34, .dead)], [], .dead, []⟩ (.normal) ⟨[(3, .int .i64 (d : Int))], [], .dead, []⟩) : CO 49 [.sl (ndL l) l.length nn] (.ret (.int .i64 11)) := pK [0] 2 2 (.c h0 (.c h1 .nil)) (.l l0 .nil)
theorem ckF_2 (l : List Nd) (nn : Bool) (d : Nat) (h0 : lit false (!((d : Int) == ((1 : Nat) : Int))) = true) (h1 : lit false (decide (((60 : Nat) : Int) < (l.length : Int))) = true) (l0 : LoopOk prog ap [] 35 (.block 0 (.loop (loopBody 0 (bodyOf f49)))) ⟨[(0, .sl (ndL l) l.length nn), (2, .int .i64 0), (3, .int .i64 0), (5, .dead), (6, .dead), (9, .bool (decide (((60 : Nat) : Int) < (l.length : Int)))), (10, .sl (ndL l) l.length nn), (11, .int .i64 (l.length : Int)), (12, .int .i64 0), (13, .dead), (19, .dead), (29, .dead), (34, .dead)], [], .dead, []⟩ (.normal) ⟨[(3, .int .i64 (d : Int))], [], .dead, []⟩) : CO 49 [.sl (ndL l) l.length nn] (.ret (.int .i64 0)) := pK [0] 2 0 (.c h0 (.c h1 .nil)) (.l l0 .nil)
theorem ckR_1 (l : List Nd) (nn : Bool) (w : Int) (h0 : lit false (decide (((60 : Nat) : Int) < (l.length : Int))) = true) (l0 : LoopOk prog ap [] 35 (.block 0 (.loop (loopBody 0 (bodyOf f49)))) ⟨[(0, .sl (ndL l) l.length nn), (2, .int .i64 0), (3, .int .i64 0), (5, .dead), (6, .dead), (9, .bool (decide (((60 : Nat) : Int) < (l.length : Int)))), (10, .sl (ndL l) l.length nn), (11, .int .i64 (l.length : Int)), (12, .int .i64 0), (13, .dead), (19, .dead), (29, .dead), (34, .dead)], [], .dead, []⟩ (.ret) ⟨[(2, .int .i64 w)], [], .dead, []⟩) : CO 49 [.sl (ndL l) l.length nn] (.ret (.int .i64 w)) := pK [0] 1 0 (.c h0 .nil) (.l l0 .nil)
theorem rck_0 {nt : Nat} (hn : 69 ≤ nt) (l : List Nd) (nn : Bool) (k d : Nat) (nq nm : Bool) (x : Nd) (r : List Nd) (hdr : (List.drop ((Int.toNat (k : Int)) * 5) (ndL l)) = ndC x ++ ndL r) (h0 : lit true (decide (x.op < ((1 : Nat) : Int))) = true) (h1 : (decide (((0 : Nat) : Int) ≤ (k : Int))) = true) (h2 : (decide ((k : Int) < (l.length : Int))) = true) (h3 : lit true (decide ((k : Int) < (l.length : Int))) = true) (c0 : CO 74 [.int .i64 x.op] (.ret (.bool (namI x.op)))) (c1 : CO 75 [.agg [.int .i64 x.op, .bool x.neg, .str x.num, .str x.den, .str x.name]] (.ret (.bool nq))) : ExecOk prog ap [] nt (loopBody 0 (bodyOf f47)) ⟨[(0, .sl (ndL l) l.length nn), (4, .int .i64 (k : Int)), (3, .int .i64 (d : Int))], [], .dead, []⟩ (.ret) ⟨[(2, .int .i64 11)], [], .dead, []⟩ :=
 have h : ExecOk prog ap [] nt (loopBody 0 (bodyOf f47)) ⟨[(0, .sl (ndL l) l.length nn), (4, .int .i64 (k : Int)), (3, .int .i64 (d : Int))], [], .dead, []⟩ (.ret) ⟨[(2, .int .i64 11)], [(0, ⟨[.int .i64 x.op, .bool x.neg, .str x.num, .str x.den, .str x.name], 0, false, 0, 0, true⟩)], .dead, []⟩ := pJ 47 [] 5 31 (.k 3 h0 (.k 13 h1 (.c h2 (.c h3 .nil)))) (.c c1 (.c c0 (.v 21 (.ppt hdr) .nil))) hn
 h.forgetD 0 ⟨[.int .i64 x.op, .bool x.neg, .str x.num, .str x.den, .str x.name], 0, false, 0, 0, true⟩ (by intro v h; cases h) (by decide) rfl ⟨Fz.same rfl, trivial⟩ rfl rfl
theorem rck_1 {nt : Nat} (hn : 69 ≤ nt) (l : List Nd) (nn : Bool) (k d : Nat) (nq nm : Bool) (x : Nd) (r : List Nd) (hdr : (List.drop ((Int.toNat (k : Int)) * 5) (ndL l)) = ndC x ++ ndL r) (h0 : lit true (decide (((24 : Nat) : Int) < x.op)) = true) (h1 : lit false (decide (x.op < ((1 : Nat) : Int))) = true) (h2 : (decide (((0 : Nat) : Int) ≤ (k : Int))) = true) (h3 : (decide ((k : Int) < (l.length : Int))) = true) (h4 : lit true (decide ((k : Int) < (l.length : Int))) = true) (c0 : CO 74 [.int .i64 x.op] (.ret (.bool (namI x.op)))) (c1 : CO 75 [.agg [.int .i64 x.op, .bool x.neg, .str x.num, .str x.den, .str x.name]] (.ret (.bool nq))) : ExecOk prog ap [] nt (loopBody 0 (bodyOf f47)) ⟨[(0, .sl (ndL l) l.length nn), (4, .int .i64 (k : Int)), (3, .int .i64 (d : Int))], [], .dead, []⟩ (.ret) ⟨[(2, .int .i64 11)], [], .dead, []⟩ :=
 have h : ExecOk prog ap [] nt (loopBody 0 (bodyOf f47)) ⟨[(0, .sl (ndL l) l.length nn), (4, .int .i64 (k : Int)), (3, .int .i64 (d : Int))], [], .dead, []⟩ (.ret) ⟨[(2, .int .i64 11)], [(0, ⟨[.int .i64 x.op, .bool x.neg, .str x.num, .str x.den, .str x.name], 0, false, 0, 0, true⟩)], .dead, []⟩ := pJ 47 [] 5 29 (.k 2 h0 (.k 1 h1 (.k 13 h2 (.c h3 (.c h4 .nil))))) (.c c1 (.c c0 (.v 21 (.ppt hdr) .nil))) hn
 h.forgetD 0 ⟨[.int .i64 x.op, .bool x.neg, .str x.num, .str x.den, .str x.name], 0, false, 0, 0, true⟩ (by intro v h; cases h) (by decide) rfl ⟨Fz.same rfl, trivial⟩ rfl rfl
theorem rck_2 {nt : Nat} (hn : 69 ≤ nt) (l : List Nd) (nn : Bool) (k d : Nat) (nq nm : Bool) (x : Nd) (r : List Nd) (hdr : (List.drop ((Int.toNat (k : Int)) * 5) (ndL l)) = ndC x ++ ndL r) (h0 : lit true (!nq) = true) (h1 : lit false (decide (((24 : Nat) : Int) < x.op)) = true) (h2 : lit false (decide (x.op < ((1 : Nat) : Int))) = true) (h3 : (decide (((0 : Nat) : Int) ≤ (k : Int))) = true) (h4 : (decide ((k : Int) < (l.length : Int))) = true) (h5 : lit true (decide ((k : Int) < (l.length : Int))) = true) (c0 : CO 74 [.int .i64 x.op] (.ret (.bool (namI x.op)))) (c1 : CO 75 [.agg [.int .i64 x.op, .bool x.neg, .str x.num, .str x.den, .str x.name]] (.ret (.bool nq))) : ExecOk prog ap [] nt (loopBody 0 (bodyOf f47)) ⟨[(0, .sl (ndL l) l.length nn), (4, .int .i64 (k : Int)), (3, .int .i64 (d : Int))], [], .dead, []⟩ (.ret) ⟨[(2, .int .i64 11)], [], .dead, []⟩ :=
 have h : ExecOk prog ap [] nt (loopBody 0 (bodyOf f47)) ⟨[(0, .sl (ndL l) l.length nn), (4, .int .i64 (k : Int)), (3, .int .i64 (d : Int))], [], .dead, []⟩ (.ret) ⟨[(2, .int .i64 11)], [(0, ⟨[.int .i64 x.op, .bool x.neg, .str x.num, .str x.den, .str x.name], 0, false, 0, 0, true⟩)], .dead, []⟩ := pJ 47 [] 5 25 (.k 1 h0 (.c h1 (.k 1 h2 (.k 13 h3 (.c h4 (.c h5 .nil)))))) (.c c1 (.c c0 (.v 21 (.ppt hdr) .nil))) hn
 h.forgetD 0 ⟨[.int .i64 x.op, .bool x.neg, .str x.num, .str x.den, .str x.name], 0, false, 0, 0, true⟩ (by intro v h; cases h) (by decide) rfl ⟨Fz.same rfl, trivial⟩ rfl rfl
theorem rck_3 {nt : Nat} (hn : 69 ≤ nt) (l : List Nd) (nn : Bool) (k d : Nat) (nq nm : Bool) (x : Nd) (r : List Nd) (hdr : (List.drop ((Int.toNat (k : Int)) * 5) (ndL l)) = ndC x ++ ndL r) (h0 : lit true (!(x.name == [])) = true) (h1 : lit true (!(namI x.op)) = true) (h2 : lit false (!nq) = true) (h3 : lit false (decide (((24 : Nat) : Int) < x.op)) = true) (h4 : lit false (decide (x.op < ((1 : Nat) : Int))) = true) (h5 : (decide (((0 : Nat) : Int) ≤ (k : Int))) = true) (h6 : (decide ((k : Int) < (l.length : Int))) = true) (h7 : lit true (decide ((k : Int) < (l.length : Int))) = true) (c0 : CO 74 [.int .i64 x.op] (.ret (.bool (namI x.op)))) (c1 : CO 75 [.agg [.int .i64 x.op, .bool x.neg, .str x.num, .str x.den, .str x.name]] (.ret (.bool nq))) : ExecOk prog ap [] nt (loopBody 0 (bodyOf f47)) ⟨[(0, .sl (ndL l) l.length nn), (4, .int .i64 (k : Int)), (3, .int .i64 (d : Int))], [], .dead, []⟩ (.ret) ⟨[(2, .int .i64 11)], [], .dead, []⟩ :=
 have h : ExecOk prog ap [] nt (loopBody 0 (bodyOf f47)) ⟨[(0, .sl (ndL l) l.length nn), (4, .int .i64 (k : Int)), (3, .int .i64 (d : Int))], [], .dead, []⟩ (.ret) ⟨[(2, .int .i64 11)], [(0, ⟨[.int .i64 x.op, .bool x.neg, .str x.num, .str x.den, .str x.name], 0, false, 0, 0, true⟩)], .dead, []⟩ := pJ 47 [] 6 49 (.c h0 (.k 1 h1 (.c h2 (.c h3 (.k 1 h4 (.k 13 h5 (.c h6 (.c h7 .nil)))))))) (.c c1 (.c c0 (.v 21 (.ppt hdr) .nil))) hn
 h.forgetD 0 ⟨[.int .i64 x.op, .bool x.neg, .str x.num, .str x.den, .str x.name], 0, false, 0, 0, true⟩ (by intro v h; cases h) (by decide) rfl ⟨Fz.same rfl, trivial⟩ rfl rfl
theorem rck_4 {nt : Nat} (hn : 69 ≤ nt) (l : List Nd) (nn : Bool) (k d : Nat) (nq nm : Bool) (x : Nd) (r : List Nd) (hdr : (List.drop ((Int.toNat (k : Int)) * 5) (ndL l)) = ndC x ++ ndL r) (h0 : lit true (decide ((d : Int) < (((arI x.op) : Nat) : Int))) = true) (h1 : lit false (namI x.op) = true) (h2 : lit false (!(x.name == [])) = true) (h3 : lit true (!(namI x.op)) = true) (h4 : lit false (!nq) = true) (h5 : lit false (decide (((24 : Nat) : Int) < x.op)) = true) (h6 : lit false (decide (x.op < ((1 : Nat) : Int))) = true) (h7 : (decide (((0 : Nat) : Int) ≤ (k : Int))) = true) (h8 : (decide ((k : Int) < (l.length : Int))) = true) (h9 : lit true (decide ((k : Int) < (l.length : Int))) = true) (c0 : CO 74 [.int .i64 x.op] (.ret (.bool (namI x.op)))) (c1 : CO 75 [.agg [.int .i64 x.op, .bool x.neg, .str x.num, .str x.den, .str x.name]] (.ret (.bool nq))) (c2 : CO 76 [.str x.name] (.ret (.bool nm))) (c3 : CO 48 [.int .i64 x.op] (.ret (.int .i64 (((arI x.op) : Nat) : Int)))) : ExecOk prog ap [] nt (loopBody 0 (bodyOf f47)) ⟨[(0, .sl (ndL l) l.length nn), (4, .int .i64 (k : Int)), (3, .int .i64 (d : Int))], [], .dead, []⟩ (.ret) ⟨[(2, .int .i64 11)], [], .dead, []⟩ :=
 have h : ExecOk prog ap [] nt (loopBody 0 (bodyOf f47)) ⟨[(0, .sl (ndL l) l.length nn), (4, .int .i64 (k : Int)), (3, .int .i64 (d : Int))], [], .dead, []⟩ (.ret) ⟨[(2, .int .i64 11)], [(0, ⟨[.int .i64 x.op, .bool x.neg, .str x.num, .str x.den, .str x.name], 0, false, 0, 0, true⟩)], .dead, []⟩ := pJ 47 [] 9 273 (.c h0 (.k 2 h1 (.k 1 h2 (.k 1 h3 (.c h4 (.c h5 (.k 1 h6 (.k 13 h7 (.c h8 (.c h9 .nil)))))))))) (.c c3 (.c c2 (.c c1 (.c c0 (.v 21 (.ppt hdr) .nil))))) hn
 h.forgetD 0 ⟨[.int .i64 x.op, .bool x.neg, .str x.num, .str x.den, .str x.name], 0, false, 0, 0, true⟩ (by intro v h; cases h) (by decide) rfl ⟨Fz.same rfl, trivial⟩ rfl rfl
theorem rck_5 {nt : Nat} (hn : 69 ≤ nt) (l : List Nd) (nn : Bool) (k d : Nat) (nq nm : Bool) (x : Nd) (r : List Nd) (hdr : (List.drop ((Int.toNat (k : Int)) * 5) (ndL l)) = ndC x ++ ndL r) (h0 : lit false (decide ((d : Int) < (((arI x.op) : Nat) : Int))) = true) (h1 : lit false (namI x.op) = true) (h2 : lit false (!(x.name == [])) = true) (h3 : lit true (!(namI x.op)) = true) (h4 : lit false (!nq) = true) (h5 : lit false (decide (((24 : Nat) : Int) < x.op)) = true) (h6 : lit false (decide (x.op < ((1 : Nat) : Int))) = true) (h7 : (decide (((0 : Nat) : Int) ≤ (k : Int))) = true) (h8 : (decide ((k : Int) < (l.length : Int))) = true) (h9 : lit true (decide ((k : Int) < (l.length : Int))) = true) (c0 : CO 74 [.int .i64 x.op] (.ret (.bool (namI x.op)))) (c1 : CO 75 [.agg [.int .i64 x.op, .bool x.neg, .str x.num, .str x.den, .str x.name]] (.ret (.bool nq))) (c2 : CO 76 [.str x.name] (.ret (.bool nm))) (c3 : CO 48 [.int .i64 x.op] (.ret (.int .i64 (((arI x.op) : Nat) : Int)))) : ExecOk prog ap [] nt (loopBody 0 (bodyOf f47)) ⟨[(0, .sl (ndL l) l.length nn), (4, .int .i64 (k : Int)), (3, .int .i64 (d : Int))], [], .dead, []⟩ (.normal) ⟨[(0, .sl (ndL l) l.length nn), (4, .int .i64 (IntKind.wrap .i64 ((k : Int) + ((1 : Nat) : Int)))), (3, .int .i64 (IntKind.wrap .i64 ((IntKind.wrap .i64 ((d : Int) - (((arI x.op) : Nat) : Int))) + ((1 : Nat) : Int))))], [], .dead, []⟩ :=
 have h : ExecOk prog ap [] nt (loopBody 0 (bodyOf f47)) ⟨[(0, .sl (ndL l) l.length nn), (4, .int .i64 (k : Int)), (3, .int .i64 (d : Int))], [], .dead, []⟩ (.normal) ⟨[(0, .sl (ndL l) l.length nn), (4, .int .i64 (IntKind.wrap .i64 ((k : Int) + ((1 : Nat) : Int)))), (3, .int .i64 (IntKind.wrap .i64 ((IntKind.wrap .i64 ((d : Int) - (((arI x.op) : Nat) : Int))) + ((1 : Nat) : Int))))], [(0, ⟨[.int .i64 x.op, .bool x.neg, .str x.num, .str x.den, .str x.name], 0, false, 0, 0, true⟩)], .dead, []⟩ := pJ 47 [] 9 17 (.c h0 (.k 2 h1 (.k 1 h2 (.k 1 h3 (.c h4 (.c h5 (.k 1 h6 (.k 13 h7 (.c h8 (.c h9 .nil)))))))))) (.c c3 (.c c2 (.c c1 (.c c0 (.v 21 (.ppt hdr) .nil))))) hn
 h.forgetD 0 ⟨[.int .i64 x.op, .bool x.neg, .str x.num, .str x.den, .str x.name], 0, false, 0, 0, true⟩ (by intro v h; cases h) (by decide) rfl ⟨Fz.same rfl, Fz.same rfl, Fz.same rfl, trivial⟩ rfl rfl
theorem rck_6 {nt : Nat} (hn : 69 ≤ nt) (l : List Nd) (nn : Bool) (k d : Nat) (nq nm : Bool) (x : Nd) (r : List Nd) (hdr : (List.drop ((Int.toNat (k : Int)) * 5) (ndL l)) = ndC x ++ ndL r) (h0 : lit true (!nm) = true) (h1 : lit true (namI x.op) = true) (h2 : lit false (!(namI x.op)) = true) (h3 : lit false (!nq) = true) (h4 : lit false (decide (((24 : Nat) : Int) < x.op)) = true) (h5 : lit false (decide (x.op < ((1 : Nat) : Int))) = true) (h6 : (decide (((0 : Nat) : Int) ≤ (k : Int))) = true) (h7 : (decide ((k : Int) < (l.length : Int))) = true) (h8 : lit true (decide ((k : Int) < (l.length : Int))) = true) (c0 : CO 74 [.int .i64 x.op] (.ret (.bool (namI x.op)))) (c1 : CO 75 [.agg [.int .i64 x.op, .bool x.neg, .str x.num, .str x.den, .str x.name]] (.ret (.bool nq))) (c2 : CO 76 [.str x.name] (.ret (.bool nm))) : ExecOk prog ap [] nt (loopBody 0 (bodyOf f47)) ⟨[(0, .sl (ndL l) l.length nn), (4, .int .i64 (k : Int)), (3, .int .i64 (d : Int))], [], .dead, []⟩ (.ret) ⟨[(2, .int .i64 12)], [], .dead, []⟩ :=
 have h : ExecOk prog ap [] nt (loopBody 0 (bodyOf f47)) ⟨[(0, .sl (ndL l) l.length nn), (4, .int .i64 (k : Int)), (3, .int .i64 (d : Int))], [], .dead, []⟩ (.ret) ⟨[(2, .int .i64 12)], [(0, ⟨[.int .i64 x.op, .bool x.neg, .str x.num, .str x.den, .str x.name], 0, false, 0, 0, true⟩)], .dead, []⟩ := pJ 47 [] 8 193 (.c h0 (.c h1 (.k 2 h2 (.c h3 (.c h4 (.k 1 h5 (.k 13 h6 (.c h7 (.c h8 .nil))))))))) (.c c2 (.c c1 (.c c0 (.v 21 (.ppt hdr) .nil)))) hn
 h.forgetD 0 ⟨[.int .i64 x.op, .bool x.neg, .str x.num, .str x.den, .str x.name], 0, false, 0, 0, true⟩ (by intro v h; cases h) (by decide) rfl ⟨Fz.same rfl, trivial⟩ rfl rfl
theorem rck_7 {nt : Nat} (hn : 69 ≤ nt) (l : List Nd) (nn : Bool) (k d : Nat) (nq nm : Bool) (x : Nd) (r : List Nd) (hdr : (List.drop ((Int.toNat (k : Int)) * 5) (ndL l)) = ndC x ++ ndL r) (h0 : lit true (decide ((d : Int) < (((arI x.op) : Nat) : Int))) = true) (h1 : lit false (!nm) = true) (h2 : lit true (namI x.op) = true) (h3 : lit false (!(namI x.op)) = true) (h4 : lit false (!nq) = true) (h5 : lit false (decide (((24 : Nat) : Int) < x.op)) = true) (h6 : lit false (decide (x.op < ((1 : Nat) : Int))) = true) (h7 : (decide (((0 : Nat) : Int) ≤ (k : Int))) = true) (h8 : (decide ((k : Int) < (l.length : Int))) = true) (h9 : lit true (decide ((k : Int) < (l.length : Int))) = true) (c0 : CO 74 [.int .i64 x.op] (.ret (.bool (namI x.op)))) (c1 : CO 75 [.agg [.int .i64 x.op, .bool x.neg, .str x.num, .str x.den, .str x.name]] (.ret (.bool nq))) (c2 : CO 76 [.str x.name] (.ret (.bool nm))) (c3 : CO 48 [.int .i64 x.op] (.ret (.int .i64 (((arI x.op) : Nat) : Int)))) : ExecOk prog ap [] nt (loopBody 0 (bodyOf f47)) ⟨[(0, .sl (ndL l) l.length nn), (4, .int .i64 (k : Int)), (3, .int .i64 (d : Int))], [], .dead, []⟩ (.ret) ⟨[(2, .int .i64 11)], [], .dead, []⟩ :=
 have h : ExecOk prog ap [] nt (loopBody 0 (bodyOf f47)) ⟨[(0, .sl (ndL l) l.length nn), (4, .int .i64 (k : Int)), (3, .int .i64 (d : Int))], [], .dead, []⟩ (.ret) ⟨[(2, .int .i64 11)], [(0, ⟨[.int .i64 x.op, .bool x.neg, .str x.num, .str x.den, .str x.name], 0, false, 0, 0, true⟩)], .dead, []⟩ := pJ 47 [] 9 321 (.c h0 (.k 1 h1 (.c h2 (.k 2 h3 (.c h4 (.c h5 (.k 1 h6 (.k 13 h7 (.c h8 (.c h9 .nil)))))))))) (.c c3 (.c c2 (.c c1 (.c c0 (.v 21 (.ppt hdr) .nil))))) hn
 h.forgetD 0 ⟨[.int .i64 x.op, .bool x.neg, .str x.num, .str x.den, .str x.name], 0, false, 0, 0, true⟩ (by intro v h; cases h) (by decide) rfl ⟨Fz.same rfl, trivial⟩ rfl rfl
theorem rck_8 {nt : Nat} (hn : 69 ≤ nt) (l : List Nd) (nn : Bool) (k d : Nat) (nq nm : Bool) (x : Nd) (r : List Nd) (hdr : (List.drop ((Int.toNat (k : Int)) * 5) (ndL l)) = ndC x ++ ndL r) (h0 : lit false (decide ((d : Int) < (((arI x.op) : Nat) : Int))) = true) (h1 : lit false (!nm) = true) (h2 : lit true (namI x.op) = true) (h3 : lit false (!(namI x.op)) = true) (h4 : lit false (!nq) = true) (h5 : lit false (decide (((24 : Nat) : Int) < x.op)) = true) (h6 : lit false (decide (x.op < ((1 : Nat) : Int))) = true) (h7 : (decide (((0 : Nat) : Int) ≤ (k : Int))) = true) (h8 : (decide ((k : Int) < (l.length : Int))) = true) (h9 : lit true (decide ((k : Int) < (l.length : Int))) = true) (c0 : CO 74 [.int .i64 x.op] (.ret (.bool (namI x.op)))) (c1 : CO 75 [.agg [.int .i64 x.op, .bool x.neg, .str x.num, .str x.den, .str x.name]] (.ret (.bool nq))) (c2 : CO 76 [.str x.name] (.ret (.bool nm))) (c3 : CO 48 [.int .i64 x.op] (.ret (.int .i64 (((arI x.op) : Nat) : Int)))) : ExecOk prog ap [] nt (loopBody 0 (bodyOf f47)) ⟨[(0, .sl (ndL l) l.length nn), (4, .int .i64 (k : Int)), (3, .int .i64 (d : Int))], [], .dead, []⟩ (.normal) ⟨[(0, .sl (ndL l) l.length nn), (4, .int .i64 (IntKind.wrap .i64 ((k : Int) + ((1 : Nat) : Int)))), (3, .int .i64 (IntKind.wrap .i64 ((IntKind.wrap .i64 ((d : Int) - (((arI x.op) : Nat) : Int))) + ((1 : Nat) : Int))))], [], .dead, []⟩ :=
 have h : ExecOk prog ap [] nt (loopBody 0 (bodyOf f47)) ⟨[(0, .sl (ndL l) l.length nn), (4, .int .i64 (k : Int)), (3, .int .i64 (d : Int))], [], .dead, []⟩ (.normal) ⟨[(0, .sl (ndL l) l.length nn), (4, .int .i64 (IntKind.wrap .i64 ((k : Int) + ((1 : Nat) : Int)))), (3, .int .i64 (IntKind.wrap .i64 ((IntKind.wrap .i64 ((d : Int) - (((arI x.op) : Nat) : Int))) + ((1 : Nat) : Int))))], [(0, ⟨[.int .i64 x.op, .bool x.neg, .str x.num, .str x.den, .str x.name], 0, false, 0, 0, true⟩)], .dead, []⟩ := pJ 47 [] 9 65 (.c h0 (.k 1 h1 (.c h2 (.k 2 h3 (.c h4 (.c h5 (.k 1 h6 (.k 13 h7 (.c h8 (.c h9 .nil)))))))))) (.c c3 (.c c2 (.c c1 (.c c0 (.v 21 (.ppt hdr) .nil))))) hn
 h.forgetD 0 ⟨[.int .i64 x.op, .bool x.neg, .str x.num, .str x.den, .str x.name], 0, false, 0, 0, true⟩ (by intro v h; cases h) (by decide) rfl ⟨Fz.same rfl, Fz.same rfl, Fz.same rfl, trivial⟩ rfl rfl
theorem rck_raw_9 {nt : Nat} (hn : 69 ≤ nt) (l : List Nd) (nn : Bool) (k d : Nat) (nq nm : Bool) (h0 : lit false (decide ((k : Int) < (l.length : Int))) = true)  : ExecOk prog ap [] nt (loopBody 0 (bodyOf f47)) ⟨[(0, .sl (ndL l) l.length nn), (4, .int .i64 (k : Int)), (3, .int .i64 (d : Int))], [], .dead, []⟩ (.exit 0) ⟨[(3, .int .i64 (d : Int))], [], .dead, []⟩ := pJ 47 [] 1 0 (.c h0 .nil) (.nil) hn
theorem rckF_0 (l : List Nd) (nn : Bool) (d : Nat) (h0 : lit true (decide (((60 : Nat) : Int) < (l.length : Int))) = true)  : CO 47 [.sl (ndL l) l.length nn] (.ret (.int .i64 2)) := pK [0] 1 1 (.c h0 .nil) (.nil)
theorem rckF_1 (l : List Nd) (nn : Bool) (d : Nat) (h0 : lit true (!((d : Int) == ((1 : Nat) : Int))) = true) (h1 : lit false (decide (((60 : Nat) : Int) < (l.length : Int))) = true) (l0 : LoopOk prog ap [] 69 (.block 0 (.loop (loopBody 0 (bodyOf f47)))) ⟨[(0, .sl (ndL l) l.length nn), (2, .int .i64 0), (3, .int .i64 0), (4, .int .i64 0), (5, .dead), (6, .dead), (7, .dead), (8, .dead), (9, .dead), (12, .bool (decide (((60 : Nat) : Int) < (l.length : Int)))), (16, .dead), (48, .dead), (56, .dead), (62, .dead), (68, .dead)], [], .dead, []⟩ (.normal) ⟨[(3, .int .i64 (d : Int))], [], .dead, []⟩) : CO 47 [.sl (ndL l) l.length nn] (.ret (.int .i64 11)) := pK [0] 2 2 (.c h0 (.c h1 .nil)) (.l l0 .nil)
theorem rckF_2 (l : List Nd) (nn : Bool) (d : Nat) (h0 : lit false (!((d : Int) == ((1 : Nat) : Int))) = true) (h1 : lit false (decide (((60 : Nat) : Int) < (l.length : Int))) = true) (l0 : LoopOk prog ap [] 69 (.block 0 (.loop (loopBody 0 (bodyOf f47)))) ⟨[(0, .sl (ndL l) l.length nn), (2, .int .i64 0), (3, .int .i64 0), (4, .int .i64 0), (5, .dead), (6, .dead), (7, .dead), (8, .dead), (9, .dead), (12, .bool (decide (((60 : Nat) : Int) < (l.length : Int)))), (16, .dead), (48, .dead), (56, .dead), (62, .dead), (68, .dead)], [], .dead, []⟩ (.normal) ⟨[(3, .int .i64 (d : Int))], [], .dead, []⟩) : CO 47 [.sl (ndL l) l.length nn] (.ret (.int .i64 0)) := pK [0] 2 0 (.c h0 (.c h1 .nil)) (.l l0 .nil)
theorem rckR_1 (l : List Nd) (nn : Bool) (w : Int) (h0 : lit false (decide (((60 : Nat) : Int) < (l.length : Int))) = true) (l0 : LoopOk prog ap [] 69 (.block 0 (.loop (loopBody 0 (bodyOf f47)))) ⟨[(0, .sl (ndL l) l.length nn), (2, .int .i64 0), (3, .int .i64 0), (4, .int .i64 0), (5, .dead), (6, .dead), (7, .dead), (8, .dead), (9, .dead), (12, .bool (decide (((60 : Nat) : Int) < (l.length : Int)))), (16, .dead), (48, .dead), (56, .dead), (62, .dead), (68, .dead)], [], .dead, []⟩ (.ret) ⟨[(2, .int .i64 w)], [], .dead, []⟩) : CO 47 [.sl (ndL l) l.length nn] (.ret (.int .i64 w)) := pK [0] 1 0 (.c h0 .nil) (.l l0 .nil)
theorem ndL_cons (x : Nd) (r : List Nd) : ndL (x :: r) = ndC x ++ ndL r := rfl
theorem ndL_app (a b : List Nd) : ndL (a ++ b) = ndL a ++ ndL b := by unfold ndL; rw [List.flatMap_append]
theorem ndL_len (l : List Nd) : (ndL l).length = l.length * 5 := by
 induction l with
 | nil => rfl
 | cons x r ih => rw [ndL_cons, List.length_append, ih, List.length_cons]; simp [ndC]; omega
theorem nd_drop {p r : List Nd} {x : Nd} {k : Nat} (h : k = p.length) : List.drop (Int.toNat (k : Int) * 5) (ndL (p ++ x :: r)) = ndC x ++ ndL r := by
 subst h
 rw [c_toNat, ndL_app, ndL_cons, ← ndL_len, List.drop_left]
def chkR : List Nd → Nat → Nat ⊕ Int
 | [], d => .inl d
 | x :: r, d => if wrongQ x = 0 then (if d < arI x.op then .inr 11 else chkR r (d - arI x.op + 1)) else .inr (wrongQ x)
def checkQ (l : List Nd) : Int := if 60 < l.length then 2 else match chkR l 0 with | .inl d => if d = 1 then 0 else 11 | .inr w => w
def chkE : Nat ⊕ Int → AExit
 | .inl _ => .exit 0
 | .inr _ => .ret
def ckSt (l : List Nd) (nn : Bool) (p : Nat × Nat) : St := ⟨[(10, .sl (ndL l) l.length nn), (11, .int .i64 (l.length : Int)), (12, .int .i64 (p.1 : Int)), (3, .int .i64 (p.2 : Int))], [], .dead, []⟩
def ckOut : Nat ⊕ Int → St
 | .inl d => ⟨[(3, .int .i64 (d : Int))], [], .dead, []⟩
 | .inr w => ⟨[(2, .int .i64 w)], [], .dead, []⟩
theorem arI_le (op : Int) : arI op ≤ 3 := by unfold arI; (repeat' split) <;> omega
theorem wrong_in {x : Nd} (h : wrongQ x = 0) : 1 ≤ x.op ∧ x.op ≤ 24 := by
 cases hb : inI x.op with
 | true => simpa [inI] using hb
 | false => unfold wrongQ at h; rw [hb] at h; simp at h
theorem ck_round {nt : Nat} (hn : 35 ≤ nt) (l p r : List Nd) (nn : Bool) (x : Nd) (d : Nat) (hx : x.sm) (hl : l = p ++ x :: r) (hll : l.length < 2 ^ 40) (hd : d < 2 ^ 41) :
  (¬ wrongQ x = 0 → ExecOk prog ap [] nt (loopBody 0 (bodyOf f49)) (ckSt l nn (p.length, d)) .ret (ckOut (.inr (wrongQ x)))) ∧
  (wrongQ x = 0 → d < arI x.op → ExecOk prog ap [] nt (loopBody 0 (bodyOf f49)) (ckSt l nn (p.length, d)) .ret (ckOut (.inr 11))) ∧
  (wrongQ x = 0 → ¬ d < arI x.op → ExecOk prog ap [] nt (loopBody 0 (bodyOf f49)) (ckSt l nn (p.length, d)) .normal (ckSt l nn (p.length + 1, d - arI x.op + 1))) := by
 have hdr : List.drop (Int.toNat (p.length : Int) * 5) (ndL l) = ndC x ++ ndL r := by rw [hl]; exact nd_drop rfl
 have hlen : p.length + (r.length + 1) = l.length := by rw [hl]; simp
 have hw := wrong_ok x hx
 have har := arI_le x.op
 unfold ckSt ckOut
 refine ⟨fun h1 => ?_, fun h1 h2 => ?_, fun h1 h2 => ?_⟩
 ·have hb := ck_0 hn l nn p.length d (wrongQ x) x r hdr
  have hne : (!(wrongQ x == ((0 : Nat) : Int))) = true := by simpa using h1
  simp (disch := first | omega | (simp [u32L_length, u8L_length] <;> omega)) only [hne, lit_t, d_le, dec_t, d_lt] at hb
  apply hb <;> first | exact True.intro | omega | assumption | exact rfl
 ·obtain ⟨i1, i2⟩ := wrong_in h1
  have ht := tab_ar i1 i2
  rw [h1] at hw
  have hb := ck_1 hn l nn p.length d 0 x r hdr
  have e2 : IntKind.wrap .i64 ((d : Int) - ((arI x.op : Nat) : Int)) = (d : Int) - (arI x.op : Int) := w64_id (by omega) (by omega)
  simp (disch := first | omega | (simp [u32L_length, u8L_length] <;> omega)) only [Nat.zero_add, ht, toInt_int, e2, lit_t, dec_t, chk_i64, lit_f, not_t, not_f, d_le, d_lt] at hb
  apply hb <;> first | exact True.intro | omega | assumption | exact rfl
 ·obtain ⟨i1, i2⟩ := wrong_in h1
  have ht := tab_ar i1 i2
  rw [h1] at hw
  have hb := ck_2 hn l nn p.length d 0 x r hdr
  have e2 : IntKind.wrap .i64 ((d : Int) - ((arI x.op : Nat) : Int)) = ((d - arI x.op : Nat) : Int) := by rw [w64_id] <;> omega
  simp (disch := first | omega | (simp [u32L_length, u8L_length] <;> omega)) only [Nat.zero_add, ht, toInt_int, e2, d_lt, lit_f, not_t, dec_f, chk_i64, dec_t, not_f, d_le, lit_t, c_add, w64_nat] at hb
  apply hb <;> first | exact True.intro | omega | assumption | exact rfl
theorem ck_loop {nt : Nat} (hn : 35 ≤ nt) (l : List Nd) (nn : Bool) (hll : l.length < 2 ^ 40) (hsm : ∀ x ∈ l, x.sm) : ∀ (r p : List Nd) (d : Nat), p ++ r = l → d ≤ p.length → LoopR prog ap [] nt (loopBody 0 (bodyOf f49)) chkE (ckSt l nn) ckOut (p.length, d) (chkR r d) := by
 intro r
 induction r with
 | nil =>
  intro p d h _
  have hp : p.length = l.length := by rw [← h]; simp
  rw [hp]
  exact .done (ck_raw_3 hn l nn l.length d 0 (by rw [d_lt]; simp [lit]))
 | cons x r ih =>
  intro p d h hd
  have hl : p.length + (r.length + 1) = l.length := by rw [← h]; simp
  obtain ⟨r1, r2, r3⟩ := ck_round hn l p r nn x d (hsm x (by rw [← h]; simp)) h.symm hll (by omega)
  simp only [chkR]
  by_cases h1 : wrongQ x = 0
  ·rw [if_pos h1]
   by_cases h2 : d < arI x.op
   ·rw [if_pos h2]; exact .done (r2 h1 h2)
   ·rw [if_neg h2]
    have hnext := ih (p ++ [x]) (d - arI x.op + 1) (by simp [h]) (by simp; omega)
    rw [List.length_append, List.length_singleton] at hnext
    exact .next (r3 h1 h2) hnext
  ·rw [if_neg h1]; exact .done (r1 h1)
theorem check_ok (l : List Nd) (nn : Bool) (hsm : ∀ x ∈ l, x.sm) : CO 49 [.sl (ndL l) l.length nn] (.ret (.int .i64 (checkQ l))) := by
 unfold checkQ
 by_cases h60 : 60 < l.length
 ·rw [if_pos h60]
  exact ckF_0 l nn 0 (by rw [d_lt]; exact decide_eq_true h60)
 ·rw [if_neg h60]
  have hc : lit false (decide (((60 : Nat) : Int) < (l.length : Int))) = true := by rw [d_lt]; simp only [lit, Bool.not_eq_true']; exact decide_eq_false h60
  have hloop := fun nt (hn : 35 ≤ nt) => ck_loop hn l nn (by omega) hsm l [] 0 rfl (by simp)
  cases hr : chkR l 0 with
  | inl d =>
   rw [hr] at hloop
   by_cases hd : d = 1
   ·have h := ckF_2 l nn d (by rw [b_eq, decide_eq_true hd]; rfl) hc
    simp only [if_pos hd]
    exact h (LoopR.blk hloop (by simp [chkE]) rfl (Less.of ⟨rfl, rfl, rfl, rfl, trivial⟩) (Less.of ⟨rfl, trivial⟩))
   ·have h := ckF_1 l nn d (by rw [b_eq, decide_eq_false hd]; rfl) hc
    simp only [if_neg hd]
    exact h (LoopR.blk hloop (by simp [chkE]) rfl (Less.of ⟨rfl, rfl, rfl, rfl, trivial⟩) (Less.of ⟨rfl, trivial⟩))
  | inr w =>
   rw [hr] at hloop
   exact ckR_1 l nn w hc (LoopR.blk hloop (by simp [chkE]) rfl (Less.of ⟨rfl, rfl, rfl, rfl, trivial⟩) (Less.of ⟨rfl, trivial⟩))
def rckSt (l : List Nd) (nn : Bool) (p : Nat × Nat) : St := ⟨[(0, .sl (ndL l) l.length nn), (4, .int .i64 (p.1 : Int)), (3, .int .i64 (p.2 : Int))], [], .dead, []⟩
theorem wrong_11 {x : Nd} (h : inI x.op = false ∨ numQ x = false ∨ (namI x.op = false ∧ (x.name == []) = false)) : wrongQ x = 11 := by
 unfold wrongQ
 rcases h with h | h | ⟨h, h'⟩
 ·rw [h]; rfl
 ·rw [h]; cases (!inI x.op || (!namI x.op && !(x.name == []))) <;> rfl
 ·rw [h, h']; cases inI x.op <;> rfl
theorem rck_round {nt : Nat} (hn : 69 ≤ nt) (l p r : List Nd) (nn : Bool) (x : Nd) (d : Nat) (hx : x.sm) (hl : l = p ++ x :: r) (hll : l.length < 2 ^ 40) (hd : d < 2 ^ 41) :
  (¬ wrongQ x = 0 → ExecOk prog ap [] nt (loopBody 0 (bodyOf f47)) (rckSt l nn (p.length, d)) .ret (ckOut (.inr (wrongQ x)))) ∧
  (wrongQ x = 0 → d < arI x.op → ExecOk prog ap [] nt (loopBody 0 (bodyOf f47)) (rckSt l nn (p.length, d)) .ret (ckOut (.inr 11))) ∧
  (wrongQ x = 0 → ¬ d < arI x.op → ExecOk prog ap [] nt (loopBody 0 (bodyOf f47)) (rckSt l nn (p.length, d)) .normal (rckSt l nn (p.length + 1, d - arI x.op + 1))) := by
 have hdr : List.drop (Int.toNat (p.length : Int) * 5) (ndL l) = ndC x ++ ndL r := by rw [hl]; exact nd_drop rfl
 have hlen : p.length + (r.length + 1) = l.length := by rw [hl]; simp
 have k0 := namF_ok x.op
 have k1 := numbered_ok x hx
 have k2 := rname_ok x.name
 have k3 := ariF_ok x.op
 have har := arI_le x.op
 have c0 : decide (((0 : Nat) : Int) ≤ (p.length : Int)) = true := by simp
 have c1 : decide ((p.length : Int) < (l.length : Int)) = true := by rw [d_lt]; exact decide_eq_true (by omega)
 have c2 : lit true (decide ((p.length : Int) < (l.length : Int))) = true := c1
 have e2 : ¬ d < arI x.op → IntKind.wrap .i64 ((d : Int) - ((arI x.op : Nat) : Int)) = ((d - arI x.op : Nat) : Int) := fun h => by rw [w64_id] <;> omega
 unfold rckSt ckOut
 cases hi : inI x.op with
 | false =>
  have hw : wrongQ x = 11 := wrong_11 (.inl hi)
  rw [hw]
  refine ⟨fun _ => ?_, fun h1 => (by simp at h1), fun h1 => (by simp at h1)⟩
  have hop : x.op < 1 ∨ 24 < x.op := by
   have : ¬ (1 ≤ x.op ∧ x.op ≤ 24) := by simpa [inI] using hi
   omega
  by_cases h1 : x.op < 1
  ·exact rck_0 hn l nn p.length d (numQ x) true x r hdr (by simp [lit]; omega) c0 c1 c2 k0 k1
  ·exact rck_1 hn l nn p.length d (numQ x) true x r hdr (by simp [lit]; omega) (by simp [lit]; omega) c0 c1 c2 k0 k1
 | true =>
  have hop : 1 ≤ x.op ∧ x.op ≤ 24 := by simpa [inI] using hi
  have d1 : lit false (decide (((24 : Nat) : Int) < x.op)) = true := by simp [lit]; omega
  have d2 : lit false (decide (x.op < ((1 : Nat) : Int))) = true := by simp [lit]; omega
  cases hq : numQ x with
  | false =>
   have hw : wrongQ x = 11 := wrong_11 (.inr (.inl hq))
   rw [hw]
   rw [hq] at k1
   refine ⟨fun _ => ?_, fun h1 => (by simp at h1), fun h1 => (by simp at h1)⟩
   exact rck_2 hn l nn p.length d false true x r hdr rfl d1 d2 c0 c1 c2 k0 k1
  | true =>
   rw [hq] at k1
   cases hnm : namI x.op with
   | false =>
    rw [hnm] at k0
    cases hne : (x.name == []) with
    | false =>
     have hw : wrongQ x = 11 := wrong_11 (.inr (.inr ⟨hnm, hne⟩))
     rw [hw]
     refine ⟨fun _ => ?_, fun h1 => (by simp at h1), fun h1 => (by simp at h1)⟩
     exact rck_3 hn l nn p.length d true true x r hdr (by rw [hne]; rfl) (by rw [hnm]; rfl) rfl d1 d2 c0 c1 c2 (by rw [hnm]; exact k0) k1
    | true =>
     have hw : wrongQ x = 0 := by unfold wrongQ; rw [hi, hnm, hne, hq]; rfl
     refine ⟨fun h => absurd hw h, fun _ h2 => ?_, fun _ h2 => ?_⟩
     ·exact rck_4 hn l nn p.length d true _ x r hdr (by rw [d_lt, decide_eq_true h2]; rfl) (by rw [hnm]; rfl) (by rw [hne]; rfl) (by rw [hnm]; rfl) rfl d1 d2 c0 c1 c2 (by rw [hnm]; exact k0) k1 k2 k3
     ·have hb := rck_5 hn l nn p.length d true _ x r hdr (by rw [d_lt, decide_eq_false h2]; rfl) (by rw [hnm]; rfl) (by rw [hne]; rfl) (by rw [hnm]; rfl) rfl d1 d2 c0 c1 c2 (by rw [hnm]; exact k0) k1 k2 k3
      rw [e2 h2, w64_add (by omega), w64_add (by omega)] at hb
      exact hb
   | true =>
    rw [hnm] at k0
    cases hnq : nameQ x.name with
    | false =>
     have hw : wrongQ x = 12 := by unfold wrongQ; rw [hi, hnm, hq, hnq]; rfl
     rw [hw]
     rw [hnq] at k2
     refine ⟨fun _ => ?_, fun h1 => (by simp at h1), fun h1 => (by simp at h1)⟩
     exact rck_6 hn l nn p.length d true false x r hdr rfl (by rw [hnm]; rfl) (by rw [hnm]; rfl) rfl d1 d2 c0 c1 c2 (by rw [hnm]; exact k0) k1 k2
    | true =>
     have hw : wrongQ x = 0 := by unfold wrongQ; rw [hi, hnm, hq, hnq]; rfl
     rw [hnq] at k2
     refine ⟨fun h => absurd hw h, fun _ h2 => ?_, fun _ h2 => ?_⟩
     ·exact rck_7 hn l nn p.length d true true x r hdr (by rw [d_lt, decide_eq_true h2]; rfl) rfl (by rw [hnm]; rfl) (by rw [hnm]; rfl) rfl d1 d2 c0 c1 c2 (by rw [hnm]; exact k0) k1 k2 k3
     ·have hb := rck_8 hn l nn p.length d true true x r hdr (by rw [d_lt, decide_eq_false h2]; rfl) rfl (by rw [hnm]; rfl) (by rw [hnm]; rfl) rfl d1 d2 c0 c1 c2 (by rw [hnm]; exact k0) k1 k2 k3
      rw [e2 h2, w64_add (by omega), w64_add (by omega)] at hb
      exact hb
theorem rck_loop {nt : Nat} (hn : 69 ≤ nt) (l : List Nd) (nn : Bool) (hll : l.length < 2 ^ 40) (hsm : ∀ x ∈ l, x.sm) : ∀ (r p : List Nd) (d : Nat), p ++ r = l → d ≤ p.length → LoopR prog ap [] nt (loopBody 0 (bodyOf f47)) chkE (rckSt l nn) ckOut (p.length, d) (chkR r d) := by
 intro r
 induction r with
 | nil =>
  intro p d h _
  have hp : p.length = l.length := by rw [← h]; simp
  rw [hp]
  exact .done (rck_raw_9 hn l nn l.length d true true (by rw [d_lt]; simp [lit]))
 | cons x r ih =>
  intro p d h hd
  have hl : p.length + (r.length + 1) = l.length := by rw [← h]; simp
  obtain ⟨r1, r2, r3⟩ := rck_round hn l p r nn x d (hsm x (by rw [← h]; simp)) h.symm hll (by omega)
  simp only [chkR]
  by_cases h1 : wrongQ x = 0
  ·rw [if_pos h1]
   by_cases h2 : d < arI x.op
   ·rw [if_pos h2]; exact .done (r2 h1 h2)
   ·rw [if_neg h2]
    have hnext := ih (p ++ [x]) (d - arI x.op + 1) (by simp [h]) (by simp; omega)
    rw [List.length_append, List.length_singleton] at hnext
    exact .next (r3 h1 h2) hnext
  ·rw [if_neg h1]; exact .done (r1 h1)
theorem rcheck_ok (l : List Nd) (nn : Bool) (hsm : ∀ x ∈ l, x.sm) : CO 47 [.sl (ndL l) l.length nn] (.ret (.int .i64 (checkQ l))) := by
 unfold checkQ
 by_cases h60 : 60 < l.length
 ·rw [if_pos h60]
  exact rckF_0 l nn 0 (by rw [d_lt]; exact decide_eq_true h60)
 ·rw [if_neg h60]
  have hc : lit false (decide (((60 : Nat) : Int) < (l.length : Int))) = true := by rw [d_lt]; simp only [lit, Bool.not_eq_true']; exact decide_eq_false h60
  have hloop := fun nt (hn : 69 ≤ nt) => rck_loop hn l nn (by omega) hsm l [] 0 rfl (by simp)
  cases hr : chkR l 0 with
  | inl d =>
   rw [hr] at hloop
   by_cases hd : d = 1
   ·have h := rckF_2 l nn d (by rw [b_eq, decide_eq_true hd]; rfl) hc
    simp only [if_pos hd]
    exact h (LoopR.blk hloop (by simp [chkE]) rfl (Less.of ⟨rfl, rfl, rfl, trivial⟩) (Less.of ⟨rfl, trivial⟩))
   ·have h := rckF_1 l nn d (by rw [b_eq, decide_eq_false hd]; rfl) hc
    simp only [if_neg hd]
    exact h (LoopR.blk hloop (by simp [chkE]) rfl (Less.of ⟨rfl, rfl, rfl, trivial⟩) (Less.of ⟨rfl, trivial⟩))
  | inr w =>
   rw [hr] at hloop
   exact rckR_1 l nn w hc (LoopR.blk hloop (by simp [chkE]) rfl (Less.of ⟨rfl, rfl, rfl, trivial⟩) (Less.of ⟨rfl, trivial⟩))
structure Sg where
 op : Int
 name : List UInt8
 ty : Ty
def sgC (s : Sg) : List AV := [.int .i64 s.op, .str s.name, .bool s.ty.tr, .int .i64 s.ty.m, .int .i64 s.ty.d]
def sgL (l : List Sg) : List AV := l.flatMap sgC
theorem sgL_cons (x : Sg) (r : List Sg) : sgL (x :: r) = sgC x ++ sgL r := rfl
theorem sgL_app (a b : List Sg) : sgL (a ++ b) = sgL a ++ sgL b := by unfold sgL; rw [List.flatMap_append]
theorem sgL_len (l : List Sg) : (sgL l).length = l.length * 5 := by
 induction l with
 | nil => rfl
 | cons x r ih => rw [sgL_cons, List.length_append, ih, List.length_cons]; simp [sgC]; omega
theorem sg_drop {p r : List Sg} {x : Sg} {k : Nat} (h : k = p.length) : List.drop (Int.toNat (k : Int) * 5) (sgL (p ++ x :: r)) = sgC x ++ sgL r := by
 subst h
 rw [c_toNat, sgL_app, sgL_cons, ← sgL_len, List.drop_left]
def hitR (s : Sg) (op : Int) (nm : List UInt8) : Bool := (s.op == op) && ((s.name == nm) && (namI op && (rightQ s.ty && (!(op == ((24 : Nat) : Int)) || !s.ty.tr))))
def hitP (s : Sg) (op : Int) (nm : List UInt8) : Bool := (s.op == op) && ((s.name == nm) && (rightQ s.ty && (!(s.op == ((24 : Nat) : Int)) || !s.ty.tr)))
def findR (l : List Sg) (op : Int) (nm : List UInt8) : Option Ty := (l.find? fun s => hitR s op nm).map (·.ty)
def findP (l : List Sg) (op : Int) (nm : List UInt8) : Option Ty := (l.find? fun s => hitP s op nm).map (·.ty)
def zT : Ty := ⟨false, 0, 0⟩
def seekF (hit : Sg → Bool) (_ : Unit) (s : Sg) : Unit ⊕ Option Ty := if hit s then .inr (some s.ty) else .inl ()
theorem seek_eq (hit : Sg → Bool) (l : List Sg) : goL (seekF hit) (fun _ => none) l () = (l.find? hit).map (·.ty) := by
 induction l with
 | nil => rfl
 | cons s r ih =>
  simp only [goL, seekF, List.find?_cons]
  cases h : hit s with
  | true => simp
  | false => simpa using ih
def fiE : Option Ty → AExit
 | none => .exit 0
 | some _ => .ret
theorem wk1 {i : Nat} (h : i < 2 ^ 62) : AV.int .i64 (IntKind.wrap .i64 ((i : Int) + ((1 : Nat) : Int))) = .int .i64 ((i + 1 : Nat) : Int) := by rw [w64_id] <;> first | rfl | omega
def iL (l : List Int) : List AV := l.map fun a => .int .i64 a
theorem iL_drop {a : List Int} {i : Nat} (h : i < a.length) : List.drop (Int.toNat (i : Int) * 1) (iL a) = [AV.int .i64 (a.getD i 0)] ++ iL (a.drop (i + 1)) := by
 unfold iL
 rw [c_toNat, Nat.mul_one, ← List.map_drop, List.drop_eq_getElem_cons h, List.getD_eq_getElem?_getD, List.getElem?_eq_getElem h]
 rfl
abbrev dB (xs : List Int) (nn : Bool) (k : Nat) : Blk := ⟨[.sl (iL xs) xs.length nn, .int .i64 (k : Int)], 0, false, 0, 0, true⟩
theorem wkm {i : Nat} (h : i < 2 ^ 62) : AV.int .i64 (IntKind.wrap .i64 (((i + 1 : Nat) : Int) - ((1 : Nat) : Int))) = .int .i64 (i : Int) := by rw [w64_id] <;> first | (congr 1; omega) | omega
theorem nx_0 (xs : List Int) (nn : Bool) (k n : Nat) (h0 : lit true (decide ((xs.length : Int) ≤ (k : Int))) = true)  : CallOk prog ap 56 [.ptr 0 0 0, .int .i64 (n : Int)] [⟨[.sl (iL xs) xs.length nn, .int .i64 (k : Int)], 0, false, 0, 0, true⟩] (.ret (.int .i64 0)) [⟨[.sl (iL xs) xs.length nn, .int .i64 (k : Int)], 0, false, 0, 0, true⟩] := pK [] 1 1 (.c h0 (.n 2 .nil)) (.nil)
theorem nx_1 (xs : List Int) (nn : Bool) (k n r : Nat) (hk : k < 2 ^ 62) (hx : List.drop ((Int.toNat (k : Int)) * 1) (iL xs) = [AV.int .i64 (xs.getD k 0)] ++ iL (xs.drop (k + 1))) (h0 : (decide (((0 : Nat) : Int) ≤ (k : Int))) = true) (h1 : (decide ((k : Int) < (xs.length : Int))) = true) (h2 : lit false (decide ((xs.length : Int) ≤ (k : Int))) = true) (c0 : CO 18 [.int .i64 (xs.getD k 0), .int .i64 (n : Int)] (.ret (.int .i64 (r : Int)))) : CallOk prog ap 56 [.ptr 0 0 0, .int .i64 (n : Int)] [⟨[.sl (iL xs) xs.length nn, .int .i64 (k : Int)], 0, false, 0, 0, true⟩] (.ret (.int .i64 (r : Int))) [⟨[.sl (iL xs) xs.length nn, .int .i64 (((k + 1) : Nat) : Int)], 0, false, 0, 0, true⟩] := pK [] 1 0 (.k 1 h0 (.c h1 (.k 4 h2 (.n 2 .nil)))) (.c c0 (.v 31 (.ppt hx) (.v 30 (.eq (wkm hk)) (.v 19 (.eq (wk1 hk)) .nil))))
theorem next_ok (xs : List Int) (nn : Bool) (k n : Nat) (hl : xs.length < 2 ^ 62) (hk : k ≤ xs.length) (hn : 0 < n) (hn2 : n < 1000) : ∃ r k' : Nat, r < n ∧ k' ≤ xs.length ∧ CallOk prog ap 56 [.ptr 0 0 0, .int .i64 (n : Int)] [dB xs nn k] (.ret (.int .i64 (r : Int))) [dB xs nn k'] := by
 by_cases h : k < xs.length
 ·obtain ⟨r, hr, hm⟩ := mod_ok (xs.getD k 0) n hn hn2
  exact ⟨r, k + 1, hr, h, nx_1 xs nn k n r (by omega) (iL_drop h) (decide_eq_true (by omega)) (decide_eq_true (by omega)) (by simp [lit]; omega) hm⟩
 ·exact ⟨0, k, hn, hk, nx_0 xs nn k n (decide_eq_true (by omega))⟩
theorem mul_0 (x y : Nat)  (c0 : CO 62 [.str (natS x), .int .i64 3] (.ret (.tup [.int .i64 (x : Int), .bool true]))) (c1 : CO 62 [.str (natS y), .int .i64 4] (.ret (.tup [.int .i64 (y : Int), .bool true]))) (c2 : CO 39 [.int .i64 (IntKind.wrap .i64 ((x : Int) * (y : Int)))] (.ret (.str (natS (x * y))))) : CO 73 [.str (natS x), .str (natS y)] (.ret (.str (natS (x * y)))) := pK [] 2 3 (.n 2 .nil) (.c c2 (.c c1 (.c c0 .nil)))
theorem natS_small {x : Nat} (h : x < 16777216) : (natS x).length ≤ 7 := natS_len (by omega)
theorem mulS (x y : Nat) (hx : x < 65536) (hy : y < 65536) : CO 73 [.str (natS x), .str (natS y)] (.ret (.str (natS (x * y)))) := by
 have l1 := natS_small (x := x) (by omega)
 have l2 := natS_small (x := y) (by omega)
 have s1 := small_ok (natS x) 3 (by omega) (by omega) (by rw [val_natS]; omega)
 have s2 := small_ok (natS y) 4 (by omega) (by omega) (by rw [val_natS]; omega)
 rw [val_natS] at s1 s2
 have hb : x * y < 65536 * 65536 := Nat.mul_lt_mul'' hx hy
 have h3 := rof_ok (x * y) (by omega)
 refine mul_0 x y s1 s2 ?_
 rw [← Int.natCast_mul, w64_id (by omega) (by omega)]
 exact h3
theorem quS_0 (neg : Bool) (n k : Nat) (q : RQ) (h0 : lit false ((natS k) == []) = true) (c0 : CO 71 [.agg [.bool neg, .str (natS n), .str (natS 1)]] (.ret (.agg [.bool neg, .str (natS n), .str (natS 1)]))) (c1 : CO 71 [.agg [.bool false, .str (natS k), .str (natS 1)]] (.ret (.agg [.bool false, .str (natS k), .str (natS 1)]))) (c2 : CO 73 [.str (natS n), .str (natS 1)] (.ret (.str (natS (n * 1))))) (c3 : CO 73 [.str (natS 1), .str (natS k)] (.ret (.str (natS (1 * k))))) (c4 : CO 72 [.bool (!(neg == false)), .str (natS (n * 1)), .str (natS (1 * k))] (.ret (.agg [.bool q.neg, .str (natS q.n), .str (natS q.d)]))) : CO 46 [.agg [.bool neg, .str (natS n), .str (natS 1)], .agg [.bool false, .str (natS k), .str (natS 1)]] (.ret (.tup [.agg [.bool q.neg, .str (natS q.n), .str (natS q.d)], .bool true])) := pK [] 1 0 (.k 10 h0 (.n 9 .nil)) (.c c4 (.c c3 (.c c2 (.c c1 (.c c0 .nil)))))
theorem int_okQ {neg : Bool} {n : Nat} (h : neg = true → 0 < n) : (⟨neg, n, 1⟩ : RQ).ok := ⟨by simp, by simp, h⟩
theorem vQ_self {neg : Bool} {n d : Nat} (h : (⟨neg, n, d⟩ : RQ).ok) : vQ neg (natS n) (natS d) = ⟨neg, n, d⟩ := by
 unfold vQ
 rw [if_pos (isQ_of ⟨neg, n, d⟩ h), val_natS, val_natS]
theorem natS_ne {k : Nat} (h : 0 < k) : natS k ≠ [] := by
 intro he
 have := val_natS k
 rw [he] at this
 simp [valS] at this
 omega
theorem quoS (neg : Bool) (n k : Nat) (hneg : neg = true → 0 < n) (hn : n < 65536) (hk : 0 < k) (hk2 : k < 65536) : CO 46 [qA ⟨neg, n, 1⟩, qA ⟨false, k, 1⟩] (.ret (.tup [qA (lowQ neg n k), .bool true])) := by
 have l1 := natS_small (x := n) (by omega)
 have l2 := natS_small (x := k) (by omega)
 have l3 := natS_small (x := 1) (by omega)
 have v1 := q2val_ok neg (natS n) (natS 1) (by omega) (by omega)
 have v2 := q2val_ok false (natS k) (natS 1) (by omega) (by omega)
 rw [vQ_self (int_okQ hneg)] at v1
 rw [vQ_self (int_okQ (by simp))] at v2
 have m1 := mulS n 1 hn (by omega)
 have m2 := mulS 1 k (by omega) hk2
 have l4 : (natS (n * 1)).length ≤ 7 := natS_small (by omega)
 have l5 : (natS (1 * k)).length ≤ 7 := natS_small (by omega)
 have lw := q2low_ok neg (n * 1) (1 * k) (by omega) (by omega) (by omega)
 rw [Nat.mul_one, Nat.one_mul] at lw
 have e : (!(neg == false)) = neg := by cases neg <;> rfl
 have h := quS_0 neg n k (lowQ neg n k) (by rw [show (natS k == []) = false by simpa using natS_ne hk]; rfl) v1 v2 m1 m2
 rw [e, Nat.mul_one, Nat.one_mul] at h
 exact h lw
theorem rof_neg (x : Nat) (hx : x < 1000000) : CO 19 [.int .i64 (-((x : Int) + 1))] (.ret (ratA true (x + 1) 1)) := by
 have hx63 : x < 9223372036854775808 := by omega
 have h1 := rof_ok x hx63
 have h2 := rof_ok 1 (by omega)
 have l1 : (natS x).length ≤ 7 := natS_len (by omega)
 have l2 : (natS 1).length ≤ 7 := natS_len (by omega)
 have s1 := small_ok (natS x) 7 (by omega) (by omega) (by rw [val_natS]; omega)
 have s2 := small_ok (natS 1) 7 (by omega) (by omega) (by rw [val_natS]; omega)
 rw [val_natS] at s1 s2
 have ha := sAdd_0 (natS x) (natS 1) x 1 (x + 1)
 rw [w64_add (by omega)] at ha
 have ha2 := ha s1 s2 (rof_ok (x + 1) (by omega))
 have h := q2o_1 (-((x : Int) + 1)) (x + 1) x
 have e1 : IntKind.wrap .i64 (-((x : Int) + 1) + ((1 : Nat) : Int)) = -(x : Int) := by rw [w64_id] <;> omega
 have e2 : IntKind.wrap .i64 (0 - -(x : Int)) = (x : Int) := by rw [w64_id] <;> omega
 rw [e1, e2] at h
 exact h (by simp only [lit, Bool.not_eq_true']; exact decide_eq_false (by omega)) h1 h2 ha2 h2
def ofI (v : Int) : RQ := ⟨decide (v < 0), v.natAbs, 1⟩
theorem ofI_ok (v : Int) (h : -1000000 ≤ v) (h' : v ≤ 1000000) : CO 19 [.int .i64 v] (.ret (qA (ofI v))) := by
 by_cases h0 : 0 ≤ v
 ·obtain ⟨x, rfl⟩ : ∃ x : Nat, v = (x : Int) := ⟨v.toNat, by omega⟩
  have := q2of x (by omega)
  unfold ofI
  rw [decide_eq_false (by omega), Int.natAbs_natCast]
  exact this
 ·obtain ⟨x, rfl⟩ : ∃ x : Nat, v = -((x : Int) + 1) := ⟨(-v - 1).toNat, by omega⟩
  have := rof_neg x (by omega)
  unfold ofI
  rw [decide_eq_true (by omega), show (-((x : Int) + 1)).natAbs = x + 1 by omega]
  exact this
theorem rat0_0 (xs : List Int) (nn : Bool) (k k1 k2 r : Nat) (ls : Int) (q w : RQ)  (c0 : CallOk prog ap 56 [.ptr 0 0 0, .int .i64 40] [⟨[.sl (iL xs) xs.length nn, .int .i64 (k : Int)], 0, false, 0, 0, true⟩] (.ret (.int .i64 (r : Int))) [⟨[.sl (iL xs) xs.length nn, .int .i64 (k1 : Int)], 0, false, 0, 0, true⟩]) (c1 : CO 19 [.int .i64 (IntKind.wrap .i64 (ls + (r : Int)))] (.ret (.agg [.bool q.neg, .str (natS q.n), .str (natS q.d)]))) (c2 : CallOk prog ap 56 [.ptr 0 0 0, .int .i64 4] [⟨[.sl (iL xs) xs.length nn, .int .i64 (k1 : Int)], 0, false, 0, 0, true⟩] (.ret (.int .i64 0)) [⟨[.sl (iL xs) xs.length nn, .int .i64 (k2 : Int)], 0, false, 0, 0, true⟩]) (c3 : CO 19 [.int .i64 1] (.ret (.agg [.bool false, .str (natS 1), .str (natS 1)]))) (c4 : CO 46 [.agg [.bool q.neg, .str (natS q.n), .str (natS q.d)], .agg [.bool false, .str (natS 1), .str (natS 1)]] (.ret (.tup [.agg [.bool w.neg, .str (natS w.n), .str (natS w.d)], .bool true]))) : CallOk prog ap 59 [.ptr 0 0 0, .int .i64 ls] [⟨[.sl (iL xs) xs.length nn, .int .i64 (k : Int)], 0, false, 0, 0, true⟩] (.ret (.agg [.bool w.neg, .str (natS w.n), .str (natS w.d)])) [⟨[.sl (iL xs) xs.length nn, .int .i64 (k2 : Int)], 0, false, 0, 0, true⟩] := pK [] 0 0 (.n 11 .nil) (.c c4 (.c c3 (.c c2 (.c c1 (.c c0 .nil)))))
theorem rat1_0 (xs : List Int) (nn : Bool) (k k1 k2 r : Nat) (ls : Int) (q w : RQ)  (c0 : CallOk prog ap 56 [.ptr 0 0 0, .int .i64 40] [⟨[.sl (iL xs) xs.length nn, .int .i64 (k : Int)], 0, false, 0, 0, true⟩] (.ret (.int .i64 (r : Int))) [⟨[.sl (iL xs) xs.length nn, .int .i64 (k1 : Int)], 0, false, 0, 0, true⟩]) (c1 : CO 19 [.int .i64 (IntKind.wrap .i64 (ls + (r : Int)))] (.ret (.agg [.bool q.neg, .str (natS q.n), .str (natS q.d)]))) (c2 : CallOk prog ap 56 [.ptr 0 0 0, .int .i64 4] [⟨[.sl (iL xs) xs.length nn, .int .i64 (k1 : Int)], 0, false, 0, 0, true⟩] (.ret (.int .i64 1)) [⟨[.sl (iL xs) xs.length nn, .int .i64 (k2 : Int)], 0, false, 0, 0, true⟩]) (c3 : CO 19 [.int .i64 1] (.ret (.agg [.bool false, .str (natS 1), .str (natS 1)]))) (c4 : CO 46 [.agg [.bool q.neg, .str (natS q.n), .str (natS q.d)], .agg [.bool false, .str (natS 1), .str (natS 1)]] (.ret (.tup [.agg [.bool w.neg, .str (natS w.n), .str (natS w.d)], .bool true]))) : CallOk prog ap 59 [.ptr 0 0 0, .int .i64 ls] [⟨[.sl (iL xs) xs.length nn, .int .i64 (k : Int)], 0, false, 0, 0, true⟩] (.ret (.agg [.bool w.neg, .str (natS w.n), .str (natS w.d)])) [⟨[.sl (iL xs) xs.length nn, .int .i64 (k2 : Int)], 0, false, 0, 0, true⟩] := pK [] 0 0 (.n 11 .nil) (.c c4 (.c c3 (.c c2 (.c c1 (.c c0 .nil)))))
theorem rat2_0 (xs : List Int) (nn : Bool) (k k1 k2 r : Nat) (ls : Int) (q w : RQ)  (c0 : CallOk prog ap 56 [.ptr 0 0 0, .int .i64 40] [⟨[.sl (iL xs) xs.length nn, .int .i64 (k : Int)], 0, false, 0, 0, true⟩] (.ret (.int .i64 (r : Int))) [⟨[.sl (iL xs) xs.length nn, .int .i64 (k1 : Int)], 0, false, 0, 0, true⟩]) (c1 : CO 19 [.int .i64 (IntKind.wrap .i64 (ls + (r : Int)))] (.ret (.agg [.bool q.neg, .str (natS q.n), .str (natS q.d)]))) (c2 : CallOk prog ap 56 [.ptr 0 0 0, .int .i64 4] [⟨[.sl (iL xs) xs.length nn, .int .i64 (k1 : Int)], 0, false, 0, 0, true⟩] (.ret (.int .i64 2)) [⟨[.sl (iL xs) xs.length nn, .int .i64 (k2 : Int)], 0, false, 0, 0, true⟩]) (c3 : CO 19 [.int .i64 2] (.ret (.agg [.bool false, .str (natS 2), .str (natS 1)]))) (c4 : CO 46 [.agg [.bool q.neg, .str (natS q.n), .str (natS q.d)], .agg [.bool false, .str (natS 2), .str (natS 1)]] (.ret (.tup [.agg [.bool w.neg, .str (natS w.n), .str (natS w.d)], .bool true]))) : CallOk prog ap 59 [.ptr 0 0 0, .int .i64 ls] [⟨[.sl (iL xs) xs.length nn, .int .i64 (k : Int)], 0, false, 0, 0, true⟩] (.ret (.agg [.bool w.neg, .str (natS w.n), .str (natS w.d)])) [⟨[.sl (iL xs) xs.length nn, .int .i64 (k2 : Int)], 0, false, 0, 0, true⟩] := pK [] 0 0 (.n 11 .nil) (.c c4 (.c c3 (.c c2 (.c c1 (.c c0 .nil)))))
theorem rat3_0 (xs : List Int) (nn : Bool) (k k1 k2 r : Nat) (ls : Int) (q w : RQ)  (c0 : CallOk prog ap 56 [.ptr 0 0 0, .int .i64 40] [⟨[.sl (iL xs) xs.length nn, .int .i64 (k : Int)], 0, false, 0, 0, true⟩] (.ret (.int .i64 (r : Int))) [⟨[.sl (iL xs) xs.length nn, .int .i64 (k1 : Int)], 0, false, 0, 0, true⟩]) (c1 : CO 19 [.int .i64 (IntKind.wrap .i64 (ls + (r : Int)))] (.ret (.agg [.bool q.neg, .str (natS q.n), .str (natS q.d)]))) (c2 : CallOk prog ap 56 [.ptr 0 0 0, .int .i64 4] [⟨[.sl (iL xs) xs.length nn, .int .i64 (k1 : Int)], 0, false, 0, 0, true⟩] (.ret (.int .i64 3)) [⟨[.sl (iL xs) xs.length nn, .int .i64 (k2 : Int)], 0, false, 0, 0, true⟩]) (c3 : CO 19 [.int .i64 10] (.ret (.agg [.bool false, .str (natS 10), .str (natS 1)]))) (c4 : CO 46 [.agg [.bool q.neg, .str (natS q.n), .str (natS q.d)], .agg [.bool false, .str (natS 10), .str (natS 1)]] (.ret (.tup [.agg [.bool w.neg, .str (natS w.n), .str (natS w.d)], .bool true]))) : CallOk prog ap 59 [.ptr 0 0 0, .int .i64 ls] [⟨[.sl (iL xs) xs.length nn, .int .i64 (k : Int)], 0, false, 0, 0, true⟩] (.ret (.agg [.bool w.neg, .str (natS w.n), .str (natS w.d)])) [⟨[.sl (iL xs) xs.length nn, .int .i64 (k2 : Int)], 0, false, 0, 0, true⟩] := pK [] 0 0 (.n 11 .nil) (.c c4 (.c c3 (.c c2 (.c c1 (.c c0 .nil)))))
theorem low_lt (neg : Bool) (n d : Nat) : (lowQ neg n d).n ≤ n ∧ (lowQ neg n d).d ≤ d := ⟨Nat.div_le_self _ _, Nat.div_le_self _ _⟩
theorem ratio_ok (xs : List Int) (nn : Bool) (k : Nat) (hl : xs.length < 2 ^ 62) (hk : k ≤ xs.length) (ls : Int) (h1 : -8 ≤ ls) (h2 : ls ≤ 1) : ∃ (w : RQ) (k' : Nat), k' ≤ xs.length ∧ w.ok ∧ w.n < 64 ∧ w.d < 64 ∧ (ls = 1 → w.neg = false ∧ 0 < w.n) ∧ CallOk prog ap 59 [.ptr 0 0 0, .int .i64 ls] [dB xs nn k] (.ret (qA w)) [dB xs nn k'] := by
 obtain ⟨r, k1, hr, hk1, c0⟩ := next_ok xs nn k 40 hl hk (by omega) (by omega)
 obtain ⟨s, k2, hs, hk2, c2⟩ := next_ok xs nn k1 4 hl hk1 (by omega) (by omega)
 have hw : IntKind.wrap .i64 (ls + (r : Int)) = ls + (r : Int) := w64_id (by omega) (by omega)
 have c1 := ofI_ok (ls + (r : Int)) (by omega) (by omega)
 rw [← hw] at c1
 have hneg : (ofI (ls + (r : Int))).neg = true → 0 < (ofI (ls + (r : Int))).n := by
  intro h; simp only [ofI, decide_eq_true_eq] at h ⊢; omega
 have hd1 : (ofI (ls + (r : Int))).d = 1 := rfl
 have hn : (ofI (ls + (r : Int))).n < 64 := by simp only [ofI]; omega
 have hp : ls = 1 → (ofI (ls + (r : Int))).neg = false ∧ 0 < (ofI (ls + (r : Int))).n := by
  intro h; simp only [ofI, decide_eq_false_iff_not]; omega
 rw [hw] at c1
 generalize ofI (ls + (r : Int)) = q at *
 have go : ∀ d, 0 < d → d < 64 → (lowQ q.neg q.n d).ok ∧ (lowQ q.neg q.n d).n < 64 ∧ (lowQ q.neg q.n d).d < 64 ∧ (ls = 1 → (lowQ q.neg q.n d).neg = false ∧ 0 < (lowQ q.neg q.n d).n) := by
  intro d hd hd2
  have h3 := low_lt q.neg q.n d
  refine ⟨low_okQ hd, by omega, by omega, fun h => ?_⟩
  obtain ⟨h4, h5⟩ := hp h
  refine ⟨by simp [lowQ, h4], ?_⟩
  exact Nat.div_pos (Nat.gcd_le_left _ h5) (Nat.gcd_pos_of_pos_left _ h5)
 have hq : qA q = qA ⟨q.neg, q.n, 1⟩ := by unfold qA; rw [hd1]
 have this : s = 0 ∨ s = 1 ∨ s = 2 ∨ s = 3 := by omega
 rcases this with rfl | rfl | rfl | rfl
 ·obtain ⟨g1, g2, g3, g4⟩ := go 1 (by omega) (by omega)
  exact ⟨_, k2, hk2, g1, g2, g3, g4, rat0_0 xs nn k k1 k2 r ls q _ c0 (by rw [hw]; exact c1) c2 (ofI_ok 1 (by decide) (by decide)) (by have h := quoS q.neg q.n 1 hneg (by omega) (by omega) (by omega); rw [← hq] at h; exact h)⟩
 ·obtain ⟨g1, g2, g3, g4⟩ := go 1 (by omega) (by omega)
  exact ⟨_, k2, hk2, g1, g2, g3, g4, rat1_0 xs nn k k1 k2 r ls q _ c0 (by rw [hw]; exact c1) c2 (ofI_ok 1 (by decide) (by decide)) (by have h := quoS q.neg q.n 1 hneg (by omega) (by omega) (by omega); rw [← hq] at h; exact h)⟩
 ·obtain ⟨g1, g2, g3, g4⟩ := go 2 (by omega) (by omega)
  exact ⟨_, k2, hk2, g1, g2, g3, g4, rat2_0 xs nn k k1 k2 r ls q _ c0 (by rw [hw]; exact c1) c2 (ofI_ok 2 (by decide) (by decide)) (by have h := quoS q.neg q.n 2 hneg (by omega) (by omega) (by omega); rw [← hq] at h; exact h)⟩
 ·obtain ⟨g1, g2, g3, g4⟩ := go 10 (by omega) (by omega)
  exact ⟨_, k2, hk2, g1, g2, g3, g4, rat3_0 xs nn k k1 k2 r ls q _ c0 (by rw [hw]; exact c1) c2 (ofI_ok 10 (by decide) (by decide)) (by have h := quoS q.neg q.n 10 hneg (by omega) (by omega) (by omega); rw [← hq] at h; exact h)⟩
theorem rnamed_ok (op : Int) : CO 91 [.int .i64 op] (.ret (.bool (namI op))) := by
 rcases tf (decide (((5 : Nat) : Int) ≤ op)) with b0 | b0
 ·rcases tf (decide (op ≤ ((8 : Nat) : Int))) with b1 | b1
  ·have e : namI op = true := by
    simp only [decide_eq_true_eq, decide_eq_false_iff_not, beq_iff_eq, beq_eq_false_iff_ne] at *
    unfold namI; first | (rw [decide_eq_true_eq]; omega) | (rw [Bool.eq_iff_iff]; simp only [decide_eq_true_eq, beq_iff_eq]; omega)
   rw [e]
   exact pK [] 2 3 (.c (litT b1) (.c (litT b0) .nil)) (.nil)
  ·have e : namI op = (op == ((24 : Nat) : Int)) := by
    simp only [decide_eq_true_eq, decide_eq_false_iff_not, beq_iff_eq, beq_eq_false_iff_ne] at *
    unfold namI; first | (rw [decide_eq_true_eq]; omega) | (rw [Bool.eq_iff_iff]; simp only [decide_eq_true_eq, beq_iff_eq]; omega)
   rw [e]
   exact pK [] 2 1 (.c (litF b1) (.c (litT b0) .nil)) (.nil)
 ·have e : namI op = (op == ((24 : Nat) : Int)) := by
   simp only [decide_eq_true_eq, decide_eq_false_iff_not, beq_iff_eq, beq_eq_false_iff_ne] at *
   unfold namI; first | (rw [decide_eq_true_eq]; omega) | (rw [Bool.eq_iff_iff]; simp only [decide_eq_true_eq, beq_iff_eq]; omega)
  rw [e]
  exact pK [] 2 0 (.k 1 (litF b0) .nil) (.nil)
def fiSt (l : List Sg) (nn : Bool) (op : Int) (nm : List UInt8) (p : Nat × Unit) : St := ⟨[(0, .sl (sgL l) l.length nn), (1, .int .i64 op), (2, .str nm), (6, .ptr 0 0 0), (8, .int .i64 (p.1 : Int))], [(0, ⟨[.bool false, .int .i64 0, .int .i64 0], 0, false, 0, 0, true⟩)], .dead, []⟩
def fiOut  : Option Ty → St
 | none => ⟨[(6, .ptr 0 0 0)], [(0, ⟨[.bool false, .int .i64 0, .int .i64 0], 0, false, 0, 0, true⟩)], .dead, []⟩
 | some t => ⟨[(6, .ptr 0 0 0), (7, .bool true)], [(0, ⟨[.bool t.tr, .int .i64 t.m, .int .i64 t.d], 0, false, 0, 0, true⟩)], .dead, []⟩
theorem fi_loop {nt : Nat} (hn : 52 ≤ nt) (l : List Sg) (nn : Bool) (op : Int) (nm : List UInt8) (hll : l.length < 2 ^ 40) : LoopR prog ap [] nt (loopBody 0 (bodyOf f90)) fiE (fiSt l nn op nm) (fiOut ) (0, ()) ((l.find? fun s => hitR s op nm).map (·.ty)) := by
 rw [← seek_eq]
 refine LoopR.goL (seekF fun s => hitR s op nm) (fun _ => none) l (fun _ _ => True) ?_ ?_ l [] () rfl trivial
 ·intro p s r _ hl _
  have key : match hitR s op nm with
   | true => ExecOk prog ap [] nt (loopBody 0 (bodyOf f90)) (fiSt l nn op nm (p.length, ())) .ret (fiOut  (some s.ty))
   | false => ExecOk prog ap [] nt (loopBody 0 (bodyOf f90)) (fiSt l nn op nm (p.length, ())) .normal (fiSt l nn op nm (p.length + 1, ())) := by
   have hdr : List.drop (Int.toNat (p.length : Int) * 5) (sgL l) = sgC s ++ sgL r := by rw [hl]; exact sg_drop rfl
   have hlen : p.length + (r.length + 1) = l.length := by rw [hl]; simp
   generalize p.length = k at *
   have hw : k < 2 ^ 62 := by omega
   have h0 : decide (((0 : Nat) : Int) ≤ (k : Int)) = true := decide_eq_true (by omega)
   have h1 : decide ((k : Int) < (l.length : Int)) = true := decide_eq_true (by omega)
   have h2 := h1
   rcases tf (s.op == op) with b0 | b0
   ·rcases tf (s.name == nm) with b1 | b1
    ·rcases tf (namI op) with b2 | b2
     ·rcases tf (rightQ s.ty) with b3 | b3
      ·rcases tf (op == ((24 : Nat) : Int)) with b4 | b4
       ·rcases tf s.ty.tr with b5 | b5
        ·rw [show hitR s op nm = false by simp only [hitR, b0, b1, b2, b3, b4, b5] <;> rfl]
         exact pN 90 [] 7 31 (.c (litNF b5) (.k 1 (litNF b4) (.c (litT b3) (.k 3 (litT b2) (.c (litT b1) (.k 1 (litT b0) (.k 7 h0 (.c h1 (.c (litT h2) .nil))))))))) (.v 15 (.eq (wk1 hw)) (.c (rright_tok s.ty) (.c (rnamed_ok op) (.v 18 (.ppt hdr) .nil)))) hn
        ·rw [show hitR s op nm = true by simp only [hitR, b0, b1, b2, b3, b4, b5] <;> rfl]
         exact pN 90 [] 7 95 (.k 4 (litNT b5) (.k 1 (litNF b4) (.c (litT b3) (.k 3 (litT b2) (.c (litT b1) (.k 1 (litT b0) (.k 7 h0 (.c h1 (.c (litT h2) .nil))))))))) (.c (rright_tok s.ty) (.c (rnamed_ok op) (.v 18 (.ppt hdr) .nil))) hn
       ·rw [show hitR s op nm = true by simp only [hitR, b0, b1, b2, b3, b4] <;> rfl]
        exact pN 90 [] 7 127 (.k 5 (litNT b4) (.c (litT b3) (.k 3 (litT b2) (.c (litT b1) (.k 1 (litT b0) (.k 7 h0 (.c h1 (.c (litT h2) .nil)))))))) (.c (rright_tok s.ty) (.c (rnamed_ok op) (.v 18 (.ppt hdr) .nil))) hn
      ·rw [show hitR s op nm = false by simp only [hitR, b0, b1, b2, b3] <;> rfl]
       exact pN 90 [] 6 15 (.k 1 (litF b3) (.k 3 (litT b2) (.c (litT b1) (.k 1 (litT b0) (.k 7 h0 (.c h1 (.c (litT h2) .nil))))))) (.v 15 (.eq (wk1 hw)) (.c (rright_tok s.ty) (.c (rnamed_ok op) (.v 18 (.ppt hdr) .nil)))) hn
     ·rw [show hitR s op nm = false by simp only [hitR, b0, b1, b2] <;> rfl]
      exact pN 90 [] 6 7 (.k 2 (litF b2) (.c (litT b1) (.k 1 (litT b0) (.k 7 h0 (.c h1 (.c (litT h2) .nil)))))) (.v 15 (.eq (wk1 hw)) (.c (rnamed_ok op) (.v 18 (.ppt hdr) .nil))) hn
    ·rw [show hitR s op nm = false by simp only [hitR, b0, b1] <;> rfl]
     exact pN 90 [] 6 3 (.k 3 (litF b1) (.k 1 (litT b0) (.k 7 h0 (.c h1 (.c (litT h2) .nil))))) (.v 15 (.eq (wk1 hw)) (.v 18 (.ppt hdr) .nil)) hn
   ·rw [show hitR s op nm = false by simp only [hitR, b0] <;> rfl]
    exact pN 90 [] 6 1 (.k 4 (litF b0) (.k 7 h0 (.c h1 (.c (litT h2) .nil)))) (.v 15 (.eq (wk1 hw)) (.v 18 (.ppt hdr) .nil)) hn
  unfold seekF
  cases hh : hitR s op nm with
  | true => rw [hh] at key; simp only [hh, if_true]; exact key
  | false => rw [hh] at key; simp only [hh, Bool.false_eq_true, if_false]; exact ⟨key, trivial⟩
 ·intro _ _
  have b0 : decide ((l.length : Int) < (l.length : Int)) = false := decide_eq_false (by omega)
  exact pN 90 [] 1 0 (.c (litF b0) .nil) (.nil) hn
theorem fiN_0 (l : List Sg) (nn : Bool) (op : Int) (nm : List UInt8)  (l0 : LoopOk prog ap [] 52 (.block 0 (.loop (loopBody 0 (bodyOf f90)))) ⟨[(0, .sl (sgL l) l.length nn), (1, .int .i64 op), (2, .str nm), (6, .ptr 0 0 0), (7, .bool false), (8, .int .i64 0), (9, .dead), (13, .dead), (48, .dead)], [(0, ⟨[.bool false, .int .i64 0, .int .i64 0], 0, false, 0, 0, true⟩)], .dead, []⟩ (.normal) ⟨[(6, .ptr 0 0 0)], [(0, ⟨[.bool false, .int .i64 0, .int .i64 0], 0, false, 0, 0, true⟩)], .dead, []⟩) : CO 90 [.sl (sgL l) l.length nn, .int .i64 op, .str nm] (.ret (.tup [.agg [.bool false, .int .i64 0, .int .i64 0], .bool false])) := pK [0] 0 0 (.n 4 .nil) (.l l0 .nil)
theorem fiR_0 (l : List Sg) (nn : Bool) (op : Int) (nm : List UInt8) (t : Ty)  (l0 : LoopOk prog ap [] 52 (.block 0 (.loop (loopBody 0 (bodyOf f90)))) ⟨[(0, .sl (sgL l) l.length nn), (1, .int .i64 op), (2, .str nm), (6, .ptr 0 0 0), (7, .bool false), (8, .int .i64 0), (9, .dead), (13, .dead), (48, .dead)], [(0, ⟨[.bool false, .int .i64 0, .int .i64 0], 0, false, 0, 0, true⟩)], .dead, []⟩ (.ret) ⟨[(6, .ptr 0 0 0), (7, .bool true)], [(0, ⟨[.bool t.tr, .int .i64 t.m, .int .i64 t.d], 0, false, 0, 0, true⟩)], .dead, []⟩) : CO 90 [.sl (sgL l) l.length nn, .int .i64 op, .str nm] (.ret (.tup [.agg [.bool t.tr, .int .i64 t.m, .int .i64 t.d], .bool true])) := pK [0] 0 0 (.n 3 .nil) (.l l0 .nil)
theorem find_ok (l : List Sg) (nn : Bool) (op : Int) (nm : List UInt8) (hll : l.length < 2 ^ 40) : CO 90 [.sl (sgL l) l.length nn, .int .i64 op, .str nm] (.ret (.tup [.agg (tyC ((findR l op nm).getD zT)), .bool (findR l op nm).isSome])) := by
 have hloop := fun nt (hn : 52 ≤ nt) => fi_loop hn l nn op nm hll
 unfold findR
 cases hf : (l.find? fun s => hitR s op nm).map (·.ty) with
 | none =>
  rw [hf] at hloop
  have l0 := LoopR.blk (id := 0) (e' := .normal) (s := fiSt l nn op nm (0, ())) (s' := fiOut none) hloop (by simp [fiE]) rfl (Less.refl _) (Less.refl _)
  exact fiN_0 l nn op nm (fun nt hnt => (l0 nt hnt).weak (Less.of ⟨rfl, rfl, rfl, rfl, rfl, trivial⟩) (Less.refl _))
 | some t =>
  rw [hf] at hloop
  have l0 := LoopR.blk (id := 0) (e' := .ret) (s := fiSt l nn op nm (0, ())) (s' := fiOut (some t)) hloop (by simp [fiE]) rfl (Less.refl _) (Less.refl _)
  exact fiR_0 l nn op nm t (fun nt hnt => (l0 nt hnt).weak (Less.of ⟨rfl, rfl, rfl, rfl, rfl, trivial⟩) (Less.refl _))
def siSt (l : List Sg) (nn : Bool) (x : Nd) (p : Nat × Unit) : St := ⟨[(7, .sl (sgL l) l.length nn), (8, .int .i64 (l.length : Int)), (9, .int .i64 (p.1 : Int)), (3, .ptr 0 0 0), (4, .ptr 1 0 0)], [(0, ⟨[.int .i64 x.op, .bool x.neg, .str x.num, .str x.den, .str x.name], 0, false, 0, 0, true⟩), (1, ⟨[.bool false, .int .i64 0, .int .i64 0], 0, false, 0, 0, true⟩)], .dead, []⟩
def siOut  : Option Ty → St
 | none => ⟨[(4, .ptr 0 0 0)], [(0, ⟨[.bool false, .int .i64 0, .int .i64 0], 0, false, 0, 0, true⟩)], .dead, []⟩
 | some t => ⟨[(4, .ptr 0 0 0)], [(0, ⟨[.bool t.tr, .int .i64 t.m, .int .i64 t.d], 0, false, 0, 0, true⟩)], .dead, []⟩
theorem si_loop {nt : Nat} (hn : 45 ≤ nt) (l : List Sg) (nn : Bool) (x : Nd) (hll : l.length < 2 ^ 40) : LoopR prog ap [] nt (loopBody 0 (bodyOf f53)) fiE (siSt l nn x) (siOut ) (0, ()) ((l.find? fun s => hitP s x.op x.name).map (·.ty)) := by
 rw [← seek_eq]
 refine LoopR.goL (seekF fun s => hitP s x.op x.name) (fun _ => none) l (fun _ _ => True) ?_ ?_ l [] () rfl trivial
 ·intro p s r _ hl _
  have key : match hitP s x.op x.name with
   | true => ExecOk prog ap [] nt (loopBody 0 (bodyOf f53)) (siSt l nn x (p.length, ())) .ret (siOut  (some s.ty))
   | false => ExecOk prog ap [] nt (loopBody 0 (bodyOf f53)) (siSt l nn x (p.length, ())) .normal (siSt l nn x (p.length + 1, ())) := by
   have hdr : List.drop (Int.toNat (p.length : Int) * 5) (sgL l) = sgC s ++ sgL r := by rw [hl]; exact sg_drop rfl
   have hlen : p.length + (r.length + 1) = l.length := by rw [hl]; simp
   generalize p.length = k at *
   have hw : k < 2 ^ 62 := by omega
   have h0 : decide (((0 : Nat) : Int) ≤ (k : Int)) = true := decide_eq_true (by omega)
   have h1 : decide ((k : Int) < (l.length : Int)) = true := decide_eq_true (by omega)
   have h2 := h1
   rcases tf (s.op == x.op) with b0 | b0
   ·rcases tf (s.name == x.name) with b1 | b1
    ·rcases tf (rightQ s.ty) with b2 | b2
     ·rcases tf (s.op == ((24 : Nat) : Int)) with b3 | b3
      ·rcases tf s.ty.tr with b4 | b4
       ·rw [show hitP s x.op x.name = false by simp only [hitP, b0, b1, b2, b3, b4] <;> rfl]
        exact pN 53 [] 6 15 (.c (litNF b4) (.k 1 (litNF b3) (.k 1 (litT b2) (.k 3 (litT b1) (.k 2 (litT b0) (.k 8 h0 (.c h1 (.c (litT h2) .nil)))))))) (.v 43 (.eq (wk1 hw)) (.c (right_tok s.ty) (.v 11 (.ppt hdr) .nil))) hn
       ·rw [show hitP s x.op x.name = true by simp only [hitP, b0, b1, b2, b3, b4] <;> rfl]
        exact pN 53 [] 6 47 (.k 4 (litNT b4) (.k 1 (litNF b3) (.k 1 (litT b2) (.k 3 (litT b1) (.k 2 (litT b0) (.k 8 h0 (.c h1 (.c (litT h2) .nil)))))))) (.c (right_tok s.ty) (.v 11 (.ppt hdr) .nil)) hn
      ·rw [show hitP s x.op x.name = true by simp only [hitP, b0, b1, b2, b3] <;> rfl]
       exact pN 53 [] 6 63 (.k 5 (litNT b3) (.k 1 (litT b2) (.k 3 (litT b1) (.k 2 (litT b0) (.k 8 h0 (.c h1 (.c (litT h2) .nil))))))) (.c (right_tok s.ty) (.v 11 (.ppt hdr) .nil)) hn
     ·rw [show hitP s x.op x.name = false by simp only [hitP, b0, b1, b2] <;> rfl]
      exact pN 53 [] 5 7 (.k 1 (litF b2) (.k 3 (litT b1) (.k 2 (litT b0) (.k 8 h0 (.c h1 (.c (litT h2) .nil)))))) (.v 43 (.eq (wk1 hw)) (.c (right_tok s.ty) (.v 11 (.ppt hdr) .nil))) hn
    ·rw [show hitP s x.op x.name = false by simp only [hitP, b0, b1] <;> rfl]
     exact pN 53 [] 5 3 (.k 2 (litF b1) (.k 2 (litT b0) (.k 8 h0 (.c h1 (.c (litT h2) .nil))))) (.v 43 (.eq (wk1 hw)) (.v 11 (.ppt hdr) .nil)) hn
   ·rw [show hitP s x.op x.name = false by simp only [hitP, b0] <;> rfl]
    exact pN 53 [] 5 1 (.k 3 (litF b0) (.k 8 h0 (.c h1 (.c (litT h2) .nil)))) (.v 43 (.eq (wk1 hw)) (.v 11 (.ppt hdr) .nil)) hn
  unfold seekF
  cases hh : hitP s x.op x.name with
  | true => rw [hh] at key; simp only [hh, if_true]; exact key
  | false => rw [hh] at key; simp only [hh, Bool.false_eq_true, if_false]; exact ⟨key, trivial⟩
 ·intro _ _
  have b0 : decide ((l.length : Int) < (l.length : Int)) = false := decide_eq_false (by omega)
  exact pN 53 [] 1 0 (.c (litF b0) .nil) (.nil) hn
theorem siN_0 (l : List Sg) (nn : Bool) (x : Nd)  (l0 : LoopOk prog ap [] 45 (.block 0 (.loop (loopBody 0 (bodyOf f53)))) ⟨[(0, .sl (sgL l) l.length nn), (1, .agg [.int .i64 x.op, .bool x.neg, .str x.num, .str x.den, .str x.name]), (3, .ptr 0 0 0), (4, .ptr 1 0 0), (6, .dead), (7, .sl (sgL l) l.length nn), (8, .int .i64 (l.length : Int)), (9, .int .i64 0), (10, .dead), (40, .dead)], [(0, ⟨[.int .i64 x.op, .bool x.neg, .str x.num, .str x.den, .str x.name], 0, false, 0, 0, true⟩), (1, ⟨[.bool false, .int .i64 0, .int .i64 0], 0, false, 0, 0, true⟩)], .dead, []⟩ (.normal) ⟨[(4, .ptr 0 0 0)], [(0, ⟨[.bool false, .int .i64 0, .int .i64 0], 0, false, 0, 0, true⟩)], .dead, []⟩) : CO 53 [.sl (sgL l) l.length nn, .agg [.int .i64 x.op, .bool x.neg, .str x.num, .str x.den, .str x.name]] (.pan (.ifc 63 (.int .i64 12))) := pK [0] 0 0 .nil (.l l0 .nil)
theorem siR_0 (l : List Sg) (nn : Bool) (x : Nd) (t : Ty)  (l0 : LoopOk prog ap [] 45 (.block 0 (.loop (loopBody 0 (bodyOf f53)))) ⟨[(0, .sl (sgL l) l.length nn), (1, .agg [.int .i64 x.op, .bool x.neg, .str x.num, .str x.den, .str x.name]), (3, .ptr 0 0 0), (4, .ptr 1 0 0), (6, .dead), (7, .sl (sgL l) l.length nn), (8, .int .i64 (l.length : Int)), (9, .int .i64 0), (10, .dead), (40, .dead)], [(0, ⟨[.int .i64 x.op, .bool x.neg, .str x.num, .str x.den, .str x.name], 0, false, 0, 0, true⟩), (1, ⟨[.bool false, .int .i64 0, .int .i64 0], 0, false, 0, 0, true⟩)], .dead, []⟩ (.ret) ⟨[(4, .ptr 0 0 0)], [(0, ⟨[.bool t.tr, .int .i64 t.m, .int .i64 t.d], 0, false, 0, 0, true⟩)], .dead, []⟩) : CO 53 [.sl (sgL l) l.length nn, .agg [.int .i64 x.op, .bool x.neg, .str x.num, .str x.den, .str x.name]] (.ret (.agg [.bool t.tr, .int .i64 t.m, .int .i64 t.d])) := pK [0] 0 0 (.n 3 .nil) (.l l0 .nil)
theorem sig_some (l : List Sg) (nn : Bool) (x : Nd) (t : Ty) (hll : l.length < 2 ^ 40) (hf : findP l x.op x.name = some t) : CO 53 [.sl (sgL l) l.length nn, .agg (ndC x)] (.ret (.agg (tyC t))) := by
 have hloop := fun nt (hn : 45 ≤ nt) => si_loop hn l nn x hll
 unfold findP at hf
 rw [hf] at hloop
 have l0 := LoopR.blk (id := 0) (e' := .ret) (s := siSt l nn x (0, ())) (s' := siOut (some t)) hloop (by simp [fiE]) rfl (Less.refl _) (Less.refl _)
 exact siR_0 l nn x t (fun nt hnt => (l0 nt hnt).weak (Less.of ⟨rfl, rfl, rfl, rfl, rfl, trivial⟩) (Less.refl _))
theorem sig_none (l : List Sg) (nn : Bool) (x : Nd) (hll : l.length < 2 ^ 40) (hf : findP l x.op x.name = none) : CO 53 [.sl (sgL l) l.length nn, .agg (ndC x)] (.pan (.ifc 63 (.int .i64 12))) := by
 have hloop := fun nt (hn : 45 ≤ nt) => si_loop hn l nn x hll
 unfold findP at hf
 rw [hf] at hloop
 have l0 := LoopR.blk (id := 0) (e' := .normal) (s := siSt l nn x (0, ())) (s' := siOut none) hloop (by simp [fiE]) rfl (Less.refl _) (Less.refl _)
 exact siN_0 l nn x (fun nt hnt => (l0 nt hnt).weak (Less.of ⟨rfl, rfl, rfl, rfl, rfl, trivial⟩) (Less.refl _))
theorem hit_eq (s : Sg) {op : Int} (nm : List UInt8) (h : namI op = true) : hitR s op nm = hitP s op nm := by
 unfold hitR hitP
 rw [h, Bool.true_and]
 cases he : s.op == op with
 | false => rfl
 | true =>
  have : s.op = op := by simpa using he
  rw [this]
theorem find_eq (l : List Sg) {op : Int} (nm : List UInt8) (h : namI op = true) : findR l op nm = findP l op nm := by
 unfold findR findP
 congr 1
 congr 1
 funext s
 exact hit_eq s nm h
theorem find_not (l : List Sg) {op : Int} (nm : List UInt8) (h : namI op = false) : findR l op nm = none := by
 unfold findR
 have : (l.find? fun s => hitR s op nm) = none := by
  rw [List.find?_eq_none]
  intro s _
  unfold hitR
  rw [h]
  cases s.op == op <;> cases s.name == nm <;> simp
 rw [this]; rfl
def eqT (a b : Ty) : Bool := ((a.tr == b.tr) && ((a.m == b.m) && ((a.d == b.d) && true)))
def numB (ts : List Ty) : Bool := ts.all fun t => !t.tr
def ruleN : Nat → Ty → List Ty → Bool × Ty
 | 1, _, [] => (true, ⟨false, 1, 0⟩)
 | 2, _, [] => (true, ⟨false, 0, 1⟩)
 | 3, _, [] => (true, ⟨false, 0, 0⟩)
 | 4, _, [] => (true, ⟨true, 0, 0⟩)
 | 5, sg, [] => (true, sg)
 | 6, sg, [] => (true, sg)
 | 7, sg, [] => (true, sg)
 | 8, sg, [] => (true, sg)
 | 9, _, [a, b] => (eqT a b && numB [a, b], a)
 | 10, _, [a, b] => (eqT a b && numB [a, b], a)
 | 11, _, [a, b] => (numB [a, b] && rightQ ⟨false, IntKind.wrap .i64 (a.m + b.m), IntKind.wrap .i64 (a.d + b.d)⟩, ⟨false, IntKind.wrap .i64 (a.m + b.m), IntKind.wrap .i64 (a.d + b.d)⟩)
 | 12, _, [a, b] => (numB [a, b] && rightQ ⟨false, IntKind.wrap .i64 (a.m - b.m), IntKind.wrap .i64 (a.d - b.d)⟩, ⟨false, IntKind.wrap .i64 (a.m - b.m), IntKind.wrap .i64 (a.d - b.d)⟩)
 | 13, _, [a, b] => (eqT a b && numB [a, b], a)
 | 14, _, [a, b] => (eqT a b && numB [a, b], a)
 | 15, _, [a, b, c] => (a.tr && eqT b c, b)
 | 16, _, [a, b] => (eqT a b && numB [a, b], ⟨true, 0, 0⟩)
 | 17, _, [a, b] => (eqT a b, ⟨true, 0, 0⟩)
 | 18, _, [a, b] => (a.tr && b.tr, ⟨true, 0, 0⟩)
 | 19, _, [a, b] => (a.tr && b.tr, ⟨true, 0, 0⟩)
 | 20, _, [a] => (a.tr, ⟨true, 0, 0⟩)
 | 21, _, [a] => (numB [a], a)
 | 22, _, [a] => (numB [a], a)
 | 23, _, [a] => (numB [a], a)
 | 24, sg, [a] => (eqT a sg, sg)
 | _, _, _ => (false, ⟨false, 0, 0⟩)
def ofR (named fo : Bool) (sg : Ty) (op : Nat) (ts : List Ty) : Ty × Int := cond (named && !fo) (⟨false, 0, 0⟩, 12) (cond (ruleN op sg ts).1 ((ruleN op sg ts).2, 0) (⟨false, 0, 0⟩, 13))
theorem right_bound {t : Ty} (h : rightQ t = true) : -3 ≤ t.m ∧ t.m ≤ 3 ∧ -3 ≤ t.d ∧ t.d ≤ 3 := by
 unfold rightQ at h
 cases htr : t.tr with
 | true => rw [htr] at h; simp at h; omega
 | false => rw [htr] at h; simpa [unitQ] using h
def tyL (l : List Ty) : List AV := l.flatMap tyC
theorem nmb_0 (p q : Int)   : CO 26 [.int .i64 p, .int .i64 q] (.ret (.agg [.bool false, .int .i64 p, .int .i64 q])) := pK [] 0 0 (.n 4 .nil) (.nil)
theorem trt_0    : CO 25 [] (.ret (.agg [.bool true, .int .i64 0, .int .i64 0])) := pK [] 0 0 (.n 4 .nil) (.nil)
theorem numb1_ok (a : Ty) (nn : Bool) : CO 92 [.sl (tyL [a]) 1 nn] (.ret (.bool (numB [a]))) := by
 rcases tf a.tr with b0 | b0
 ·rw [show numB [a] = false by simp only [numB, List.all_cons, List.all_nil, b0] <;> rfl]
  exact pK [] 2 3 (.c (litT b0) (.n 4 .nil)) (.nil)
 ·rw [show numB [a] = true by simp only [numB, List.all_cons, List.all_nil, b0] <;> rfl]
  exact pK [] 3 1 (.k 1 (litF b0) (.n 4 .nil)) (.nil)
theorem numb2_ok (a b : Ty) (nn : Bool) : CO 92 [.sl (tyL [a, b]) 2 nn] (.ret (.bool (numB [a, b]))) := by
 rcases tf a.tr with b0 | b0
 ·rw [show numB [a, b] = false by simp only [numB, List.all_cons, List.all_nil, b0] <;> rfl]
  exact pK [] 2 3 (.c (litT b0) (.n 4 .nil)) (.nil)
 ·rcases tf b.tr with b1 | b1
  ·rw [show numB [a, b] = false by simp only [numB, List.all_cons, List.all_nil, b0, b1] <;> rfl]
   exact pK [] 4 13 (.c (litT b1) (.k 4 (litF b0) (.n 4 .nil))) (.nil)
  ·rw [show numB [a, b] = true by simp only [numB, List.all_cons, List.all_nil, b0, b1] <;> rfl]
   exact pK [] 5 5 (.k 1 (litF b1) (.k 4 (litF b0) (.n 4 .nil))) (.nil)
theorem ofN1 (l : List Sg) (nl neg nn fo : Bool) (num den name : List UInt8) (sg : Ty)  (hf : CO 90 [.sl (sgL l) l.length nl, .int .i64 1, .str name] (.ret (.tup [.agg (tyC sg), .bool fo]))) : CO 55 [.sl (sgL l) l.length nl, .agg [.int .i64 1, .bool neg, .str num, .str den, .str name], .sl (tyL []) 0 nn] (.ret (.tup [.agg (tyC (ofR false fo sg 1 []).1), .int .i64 (ofR false fo sg 1 []).2])) := by
 rw [show ofR false fo sg 1 [] = (⟨false, 1, 0⟩, 0) by simp only [ofR, ruleN, eqT, cond_true] <;> rfl]
 exact pK [] 5 8 (.n 19 .nil) (.c (nmb_0 1 0) (.c (rnamed_ok 1) (.c hf .nil)))
theorem ofN2 (l : List Sg) (nl neg nn fo : Bool) (num den name : List UInt8) (sg : Ty)  (hf : CO 90 [.sl (sgL l) l.length nl, .int .i64 2, .str name] (.ret (.tup [.agg (tyC sg), .bool fo]))) : CO 55 [.sl (sgL l) l.length nl, .agg [.int .i64 2, .bool neg, .str num, .str den, .str name], .sl (tyL []) 0 nn] (.ret (.tup [.agg (tyC (ofR false fo sg 2 []).1), .int .i64 (ofR false fo sg 2 []).2])) := by
 rw [show ofR false fo sg 2 [] = (⟨false, 0, 1⟩, 0) by simp only [ofR, ruleN, eqT, cond_true] <;> rfl]
 exact pK [] 6 16 (.n 20 .nil) (.c (nmb_0 0 1) (.c (rnamed_ok 2) (.c hf .nil)))
theorem ofN3 (l : List Sg) (nl neg nn fo : Bool) (num den name : List UInt8) (sg : Ty)  (hf : CO 90 [.sl (sgL l) l.length nl, .int .i64 3, .str name] (.ret (.tup [.agg (tyC sg), .bool fo]))) : CO 55 [.sl (sgL l) l.length nl, .agg [.int .i64 3, .bool neg, .str num, .str den, .str name], .sl (tyL []) 0 nn] (.ret (.tup [.agg (tyC (ofR false fo sg 3 []).1), .int .i64 (ofR false fo sg 3 []).2])) := by
 rw [show ofR false fo sg 3 [] = (⟨false, 0, 0⟩, 0) by simp only [ofR, ruleN, eqT, cond_true] <;> rfl]
 exact pK [] 7 32 (.n 21 .nil) (.c (nmb_0 0 0) (.c (rnamed_ok 3) (.c hf .nil)))
theorem ofN4 (l : List Sg) (nl neg nn fo : Bool) (num den name : List UInt8) (sg : Ty)  (hf : CO 90 [.sl (sgL l) l.length nl, .int .i64 4, .str name] (.ret (.tup [.agg (tyC sg), .bool fo]))) : CO 55 [.sl (sgL l) l.length nl, .agg [.int .i64 4, .bool neg, .str num, .str den, .str name], .sl (tyL []) 0 nn] (.ret (.tup [.agg (tyC (ofR false fo sg 4 []).1), .int .i64 (ofR false fo sg 4 []).2])) := by
 rw [show ofR false fo sg 4 [] = (⟨true, 0, 0⟩, 0) by simp only [ofR, ruleN, eqT, cond_true] <;> rfl]
 exact pK [] 8 64 (.n 22 .nil) (.c trt_0 (.c (rnamed_ok 4) (.c hf .nil)))
theorem ofN5 (l : List Sg) (nl neg nn fo : Bool) (num den name : List UInt8) (sg : Ty)  (hf : CO 90 [.sl (sgL l) l.length nl, .int .i64 5, .str name] (.ret (.tup [.agg (tyC sg), .bool fo]))) : CO 55 [.sl (sgL l) l.length nl, .agg [.int .i64 5, .bool neg, .str num, .str den, .str name], .sl (tyL []) 0 nn] (.ret (.tup [.agg (tyC (ofR true fo sg 5 []).1), .int .i64 (ofR true fo sg 5 []).2])) := by
 rcases tf fo with b0 | b0
 ·rw [show ofR true fo sg 5 [] = (⟨sg.tr, sg.m, sg.d⟩, 0) by simp only [ofR, ruleN, eqT, b0] <;> rfl]
  exact pK [] 10 385 (.k 21 (litNF b0) (.n 5 .nil)) (.c (rnamed_ok 5) (.c hf .nil))
 ·rw [show ofR true fo sg 5 [] = (⟨false, 0, 0⟩, 12) by simp only [ofR, ruleN, eqT, b0] <;> rfl]
  exact pK [] 2 3 (.k 4 (litNT b0) (.n 5 .nil)) (.c (rnamed_ok 5) (.c hf .nil))
theorem ofN6 (l : List Sg) (nl neg nn fo : Bool) (num den name : List UInt8) (sg : Ty)  (hf : CO 90 [.sl (sgL l) l.length nl, .int .i64 6, .str name] (.ret (.tup [.agg (tyC sg), .bool fo]))) : CO 55 [.sl (sgL l) l.length nl, .agg [.int .i64 6, .bool neg, .str num, .str den, .str name], .sl (tyL []) 0 nn] (.ret (.tup [.agg (tyC (ofR true fo sg 6 []).1), .int .i64 (ofR true fo sg 6 []).2])) := by
 rcases tf fo with b0 | b0
 ·rw [show ofR true fo sg 6 [] = (⟨sg.tr, sg.m, sg.d⟩, 0) by simp only [ofR, ruleN, eqT, b0] <;> rfl]
  exact pK [] 11 769 (.k 22 (litNF b0) (.n 5 .nil)) (.c (rnamed_ok 6) (.c hf .nil))
 ·rw [show ofR true fo sg 6 [] = (⟨false, 0, 0⟩, 12) by simp only [ofR, ruleN, eqT, b0] <;> rfl]
  exact pK [] 2 3 (.k 4 (litNT b0) (.n 5 .nil)) (.c (rnamed_ok 6) (.c hf .nil))
theorem ofN7 (l : List Sg) (nl neg nn fo : Bool) (num den name : List UInt8) (sg : Ty)  (hf : CO 90 [.sl (sgL l) l.length nl, .int .i64 7, .str name] (.ret (.tup [.agg (tyC sg), .bool fo]))) : CO 55 [.sl (sgL l) l.length nl, .agg [.int .i64 7, .bool neg, .str num, .str den, .str name], .sl (tyL []) 0 nn] (.ret (.tup [.agg (tyC (ofR true fo sg 7 []).1), .int .i64 (ofR true fo sg 7 []).2])) := by
 rcases tf fo with b0 | b0
 ·rw [show ofR true fo sg 7 [] = (⟨sg.tr, sg.m, sg.d⟩, 0) by simp only [ofR, ruleN, eqT, b0] <;> rfl]
  exact pK [] 12 1537 (.k 23 (litNF b0) (.n 5 .nil)) (.c (rnamed_ok 7) (.c hf .nil))
 ·rw [show ofR true fo sg 7 [] = (⟨false, 0, 0⟩, 12) by simp only [ofR, ruleN, eqT, b0] <;> rfl]
  exact pK [] 2 3 (.k 4 (litNT b0) (.n 5 .nil)) (.c (rnamed_ok 7) (.c hf .nil))
theorem ofN8 (l : List Sg) (nl neg nn fo : Bool) (num den name : List UInt8) (sg : Ty)  (hf : CO 90 [.sl (sgL l) l.length nl, .int .i64 8, .str name] (.ret (.tup [.agg (tyC sg), .bool fo]))) : CO 55 [.sl (sgL l) l.length nl, .agg [.int .i64 8, .bool neg, .str num, .str den, .str name], .sl (tyL []) 0 nn] (.ret (.tup [.agg (tyC (ofR true fo sg 8 []).1), .int .i64 (ofR true fo sg 8 []).2])) := by
 rcases tf fo with b0 | b0
 ·rw [show ofR true fo sg 8 [] = (⟨sg.tr, sg.m, sg.d⟩, 0) by simp only [ofR, ruleN, eqT, b0] <;> rfl]
  exact pK [] 12 1025 (.k 23 (litNF b0) (.n 5 .nil)) (.c (rnamed_ok 8) (.c hf .nil))
 ·rw [show ofR true fo sg 8 [] = (⟨false, 0, 0⟩, 12) by simp only [ofR, ruleN, eqT, b0] <;> rfl]
  exact pK [] 2 3 (.k 4 (litNT b0) (.n 5 .nil)) (.c (rnamed_ok 8) (.c hf .nil))
theorem ofN9 (l : List Sg) (nl neg nn fo : Bool) (num den name : List UInt8) (sg a b : Ty)  (hf : CO 90 [.sl (sgL l) l.length nl, .int .i64 9, .str name] (.ret (.tup [.agg (tyC sg), .bool fo]))) : CO 55 [.sl (sgL l) l.length nl, .agg [.int .i64 9, .bool neg, .str num, .str den, .str name], .sl (tyL [a, b]) 2 nn] (.ret (.tup [.agg (tyC (ofR false fo sg 9 [a, b]).1), .int .i64 (ofR false fo sg 9 [a, b]).2])) := by
 rcases tf ((a.tr == b.tr) && ((a.m == b.m) && ((a.d == b.d) && true))) with b0 | b0
 ·rcases tf (numB [a, b]) with b1 | b1
  ·rw [show ofR false fo sg 9 [a, b] = (⟨a.tr, a.m, a.d⟩, 0) by simp only [ofR, ruleN, eqT, b0, b1] <;> rfl]
   exact pK [] 15 14340 (.k 7 (litNF b1) (.c (litT b0) (.n 35 .nil))) (.c (numb2_ok a b nn) (.c (rnamed_ok 9) (.c hf .nil)))
  ·rw [show ofR false fo sg 9 [a, b] = (⟨false, 0, 0⟩, 13) by simp only [ofR, ruleN, eqT, b0, b1] <;> rfl]
   exact pK [] 15 30724 (.k 4 (litNT b1) (.c (litT b0) (.n 35 .nil))) (.c (numb2_ok a b nn) (.c (rnamed_ok 9) (.c hf .nil)))
 ·rw [show ofR false fo sg 9 [a, b] = (⟨false, 0, 0⟩, 13) by simp only [ofR, ruleN, eqT, b0] <;> rfl]
  exact pK [] 15 22532 (.k 5 (litF b0) (.n 35 .nil)) (.c (rnamed_ok 9) (.c hf .nil))
theorem ofN10 (l : List Sg) (nl neg nn fo : Bool) (num den name : List UInt8) (sg a b : Ty)  (hf : CO 90 [.sl (sgL l) l.length nl, .int .i64 10, .str name] (.ret (.tup [.agg (tyC sg), .bool fo]))) : CO 55 [.sl (sgL l) l.length nl, .agg [.int .i64 10, .bool neg, .str num, .str den, .str name], .sl (tyL [a, b]) 2 nn] (.ret (.tup [.agg (tyC (ofR false fo sg 10 [a, b]).1), .int .i64 (ofR false fo sg 10 [a, b]).2])) := by
 rcases tf ((a.tr == b.tr) && ((a.m == b.m) && ((a.d == b.d) && true))) with b0 | b0
 ·rcases tf (numB [a, b]) with b1 | b1
  ·rw [show ofR false fo sg 10 [a, b] = (⟨a.tr, a.m, a.d⟩, 0) by simp only [ofR, ruleN, eqT, b0, b1] <;> rfl]
   exact pK [] 16 28676 (.k 7 (litNF b1) (.c (litT b0) (.n 36 .nil))) (.c (numb2_ok a b nn) (.c (rnamed_ok 10) (.c hf .nil)))
  ·rw [show ofR false fo sg 10 [a, b] = (⟨false, 0, 0⟩, 13) by simp only [ofR, ruleN, eqT, b0, b1] <;> rfl]
   exact pK [] 16 61444 (.k 4 (litNT b1) (.c (litT b0) (.n 36 .nil))) (.c (numb2_ok a b nn) (.c (rnamed_ok 10) (.c hf .nil)))
 ·rw [show ofR false fo sg 10 [a, b] = (⟨false, 0, 0⟩, 13) by simp only [ofR, ruleN, eqT, b0] <;> rfl]
  exact pK [] 16 45060 (.k 5 (litF b0) (.n 36 .nil)) (.c (rnamed_ok 10) (.c hf .nil))
theorem ofN11 (l : List Sg) (nl neg nn fo : Bool) (num den name : List UInt8) (sg a b : Ty)  (hf : CO 90 [.sl (sgL l) l.length nl, .int .i64 11, .str name] (.ret (.tup [.agg (tyC sg), .bool fo]))) : CO 55 [.sl (sgL l) l.length nl, .agg [.int .i64 11, .bool neg, .str num, .str den, .str name], .sl (tyL [a, b]) 2 nn] (.ret (.tup [.agg (tyC (ofR false fo sg 11 [a, b]).1), .int .i64 (ofR false fo sg 11 [a, b]).2])) := by
 rcases tf (numB [a, b]) with b0 | b0
 ·rcases tf (rightQ ⟨false, (IntKind.wrap .i64 (a.m + b.m)), (IntKind.wrap .i64 (a.d + b.d))⟩) with b1 | b1
  ·rw [show ofR false fo sg 11 [a, b] = (⟨false, (IntKind.wrap .i64 (a.m + b.m)), (IntKind.wrap .i64 (a.d + b.d))⟩, 0) by simp only [ofR, ruleN, eqT, b0, b1] <;> rfl]
   exact pK [] 18 98308 (.k 7 (litNF b1) (.k 3 (litT b0) (.n 45 .nil))) (.c (rright_tok ⟨false, IntKind.wrap .i64 (a.m + b.m), IntKind.wrap .i64 (a.d + b.d)⟩) (.c (numb2_ok a b nn) (.c (nmb_0 (IntKind.wrap .i64 (a.m + b.m)) (IntKind.wrap .i64 (a.d + b.d))) (.c (rnamed_ok 11) (.c hf .nil)))))
  ·rw [show ofR false fo sg 11 [a, b] = (⟨false, 0, 0⟩, 13) by simp only [ofR, ruleN, eqT, b0, b1] <;> rfl]
   exact pK [] 18 229380 (.k 4 (litNT b1) (.k 3 (litT b0) (.n 45 .nil))) (.c (rright_tok ⟨false, IntKind.wrap .i64 (a.m + b.m), IntKind.wrap .i64 (a.d + b.d)⟩) (.c (numb2_ok a b nn) (.c (nmb_0 (IntKind.wrap .i64 (a.m + b.m)) (IntKind.wrap .i64 (a.d + b.d))) (.c (rnamed_ok 11) (.c hf .nil)))))
 ·rw [show ofR false fo sg 11 [a, b] = (⟨false, 0, 0⟩, 13) by simp only [ofR, ruleN, eqT, b0] <;> rfl]
  exact pK [] 18 163844 (.k 5 (litF b0) (.n 45 .nil)) (.c (numb2_ok a b nn) (.c (nmb_0 (IntKind.wrap .i64 (a.m + b.m)) (IntKind.wrap .i64 (a.d + b.d))) (.c (rnamed_ok 11) (.c hf .nil))))
theorem ofN12 (l : List Sg) (nl neg nn fo : Bool) (num den name : List UInt8) (sg a b : Ty)  (hf : CO 90 [.sl (sgL l) l.length nl, .int .i64 12, .str name] (.ret (.tup [.agg (tyC sg), .bool fo]))) : CO 55 [.sl (sgL l) l.length nl, .agg [.int .i64 12, .bool neg, .str num, .str den, .str name], .sl (tyL [a, b]) 2 nn] (.ret (.tup [.agg (tyC (ofR false fo sg 12 [a, b]).1), .int .i64 (ofR false fo sg 12 [a, b]).2])) := by
 rcases tf (numB [a, b]) with b0 | b0
 ·rcases tf (rightQ ⟨false, (IntKind.wrap .i64 (a.m - b.m)), (IntKind.wrap .i64 (a.d - b.d))⟩) with b1 | b1
  ·rw [show ofR false fo sg 12 [a, b] = (⟨false, (IntKind.wrap .i64 (a.m - b.m)), (IntKind.wrap .i64 (a.d - b.d))⟩, 0) by simp only [ofR, ruleN, eqT, b0, b1] <;> rfl]
   exact pK [] 19 196612 (.k 7 (litNF b1) (.k 3 (litT b0) (.n 46 .nil))) (.c (rright_tok ⟨false, IntKind.wrap .i64 (a.m - b.m), IntKind.wrap .i64 (a.d - b.d)⟩) (.c (numb2_ok a b nn) (.c (nmb_0 (IntKind.wrap .i64 (a.m - b.m)) (IntKind.wrap .i64 (a.d - b.d))) (.c (rnamed_ok 12) (.c hf .nil)))))
  ·rw [show ofR false fo sg 12 [a, b] = (⟨false, 0, 0⟩, 13) by simp only [ofR, ruleN, eqT, b0, b1] <;> rfl]
   exact pK [] 19 458756 (.k 4 (litNT b1) (.k 3 (litT b0) (.n 46 .nil))) (.c (rright_tok ⟨false, IntKind.wrap .i64 (a.m - b.m), IntKind.wrap .i64 (a.d - b.d)⟩) (.c (numb2_ok a b nn) (.c (nmb_0 (IntKind.wrap .i64 (a.m - b.m)) (IntKind.wrap .i64 (a.d - b.d))) (.c (rnamed_ok 12) (.c hf .nil)))))
 ·rw [show ofR false fo sg 12 [a, b] = (⟨false, 0, 0⟩, 13) by simp only [ofR, ruleN, eqT, b0] <;> rfl]
  exact pK [] 19 327684 (.k 5 (litF b0) (.n 46 .nil)) (.c (numb2_ok a b nn) (.c (nmb_0 (IntKind.wrap .i64 (a.m - b.m)) (IntKind.wrap .i64 (a.d - b.d))) (.c (rnamed_ok 12) (.c hf .nil))))
theorem ofN13 (l : List Sg) (nl neg nn fo : Bool) (num den name : List UInt8) (sg a b : Ty)  (hf : CO 90 [.sl (sgL l) l.length nl, .int .i64 13, .str name] (.ret (.tup [.agg (tyC sg), .bool fo]))) : CO 55 [.sl (sgL l) l.length nl, .agg [.int .i64 13, .bool neg, .str num, .str den, .str name], .sl (tyL [a, b]) 2 nn] (.ret (.tup [.agg (tyC (ofR false fo sg 13 [a, b]).1), .int .i64 (ofR false fo sg 13 [a, b]).2])) := by
 rcases tf ((a.tr == b.tr) && ((a.m == b.m) && ((a.d == b.d) && true))) with b0 | b0
 ·rcases tf (numB [a, b]) with b1 | b1
  ·rw [show ofR false fo sg 13 [a, b] = (⟨a.tr, a.m, a.d⟩, 0) by simp only [ofR, ruleN, eqT, b0, b1] <;> rfl]
   exact pK [] 17 57348 (.k 7 (litNF b1) (.c (litT b0) (.n 37 .nil))) (.c (numb2_ok a b nn) (.c (rnamed_ok 13) (.c hf .nil)))
  ·rw [show ofR false fo sg 13 [a, b] = (⟨false, 0, 0⟩, 13) by simp only [ofR, ruleN, eqT, b0, b1] <;> rfl]
   exact pK [] 17 122884 (.k 4 (litNT b1) (.c (litT b0) (.n 37 .nil))) (.c (numb2_ok a b nn) (.c (rnamed_ok 13) (.c hf .nil)))
 ·rw [show ofR false fo sg 13 [a, b] = (⟨false, 0, 0⟩, 13) by simp only [ofR, ruleN, eqT, b0] <;> rfl]
  exact pK [] 17 90116 (.k 5 (litF b0) (.n 37 .nil)) (.c (rnamed_ok 13) (.c hf .nil))
theorem ofN14 (l : List Sg) (nl neg nn fo : Bool) (num den name : List UInt8) (sg a b : Ty)  (hf : CO 90 [.sl (sgL l) l.length nl, .int .i64 14, .str name] (.ret (.tup [.agg (tyC sg), .bool fo]))) : CO 55 [.sl (sgL l) l.length nl, .agg [.int .i64 14, .bool neg, .str num, .str den, .str name], .sl (tyL [a, b]) 2 nn] (.ret (.tup [.agg (tyC (ofR false fo sg 14 [a, b]).1), .int .i64 (ofR false fo sg 14 [a, b]).2])) := by
 rcases tf ((a.tr == b.tr) && ((a.m == b.m) && ((a.d == b.d) && true))) with b0 | b0
 ·rcases tf (numB [a, b]) with b1 | b1
  ·rw [show ofR false fo sg 14 [a, b] = (⟨a.tr, a.m, a.d⟩, 0) by simp only [ofR, ruleN, eqT, b0, b1] <;> rfl]
   exact pK [] 17 49156 (.k 7 (litNF b1) (.c (litT b0) (.n 37 .nil))) (.c (numb2_ok a b nn) (.c (rnamed_ok 14) (.c hf .nil)))
  ·rw [show ofR false fo sg 14 [a, b] = (⟨false, 0, 0⟩, 13) by simp only [ofR, ruleN, eqT, b0, b1] <;> rfl]
   exact pK [] 17 114692 (.k 4 (litNT b1) (.c (litT b0) (.n 37 .nil))) (.c (numb2_ok a b nn) (.c (rnamed_ok 14) (.c hf .nil)))
 ·rw [show ofR false fo sg 14 [a, b] = (⟨false, 0, 0⟩, 13) by simp only [ofR, ruleN, eqT, b0] <;> rfl]
  exact pK [] 17 81924 (.k 5 (litF b0) (.n 37 .nil)) (.c (rnamed_ok 14) (.c hf .nil))
theorem ofN15 (l : List Sg) (nl neg nn fo : Bool) (num den name : List UInt8) (sg a b c : Ty)  (hf : CO 90 [.sl (sgL l) l.length nl, .int .i64 15, .str name] (.ret (.tup [.agg (tyC sg), .bool fo]))) : CO 55 [.sl (sgL l) l.length nl, .agg [.int .i64 15, .bool neg, .str num, .str den, .str name], .sl (tyL [a, b, c]) 3 nn] (.ret (.tup [.agg (tyC (ofR false fo sg 15 [a, b, c]).1), .int .i64 (ofR false fo sg 15 [a, b, c]).2])) := by
 rcases tf a.tr with b0 | b0
 ·rcases tf ((b.tr == c.tr) && ((b.m == c.m) && ((b.d == c.d) && true))) with b1 | b1
  ·rw [show ofR false fo sg 15 [a, b, c] = (⟨b.tr, b.m, b.d⟩, 0) by simp only [ofR, ruleN, eqT, b0, b1] <;> rfl]
   exact pK [] 20 393216 (.k 7 (litNF b1) (.k 10 (litT b0) (.n 33 .nil))) (.c (rnamed_ok 15) (.c hf .nil))
  ·rw [show ofR false fo sg 15 [a, b, c] = (⟨false, 0, 0⟩, 13) by simp only [ofR, ruleN, eqT, b0, b1] <;> rfl]
   exact pK [] 20 917504 (.k 4 (litNT b1) (.k 10 (litT b0) (.n 33 .nil))) (.c (rnamed_ok 15) (.c hf .nil))
 ·rw [show ofR false fo sg 15 [a, b, c] = (⟨false, 0, 0⟩, 13) by simp only [ofR, ruleN, eqT, b0] <;> rfl]
  exact pK [] 20 655360 (.k 5 (litF b0) (.n 33 .nil)) (.c (rnamed_ok 15) (.c hf .nil))
theorem ofN16 (l : List Sg) (nl neg nn fo : Bool) (num den name : List UInt8) (sg a b : Ty)  (hf : CO 90 [.sl (sgL l) l.length nl, .int .i64 16, .str name] (.ret (.tup [.agg (tyC sg), .bool fo]))) : CO 55 [.sl (sgL l) l.length nl, .agg [.int .i64 16, .bool neg, .str num, .str den, .str name], .sl (tyL [a, b]) 2 nn] (.ret (.tup [.agg (tyC (ofR false fo sg 16 [a, b]).1), .int .i64 (ofR false fo sg 16 [a, b]).2])) := by
 rcases tf ((a.tr == b.tr) && ((a.m == b.m) && ((a.d == b.d) && true))) with b0 | b0
 ·rcases tf (numB [a, b]) with b1 | b1
  ·rw [show ofR false fo sg 16 [a, b] = (⟨true, 0, 0⟩, 0) by simp only [ofR, ruleN, eqT, b0, b1] <;> rfl]
   exact pK [] 21 786436 (.k 7 (litNF b1) (.c (litT b0) (.n 36 .nil))) (.c (numb2_ok a b nn) (.c trt_0 (.c (rnamed_ok 16) (.c hf .nil))))
  ·rw [show ofR false fo sg 16 [a, b] = (⟨false, 0, 0⟩, 13) by simp only [ofR, ruleN, eqT, b0, b1] <;> rfl]
   exact pK [] 21 1835012 (.k 4 (litNT b1) (.c (litT b0) (.n 36 .nil))) (.c (numb2_ok a b nn) (.c trt_0 (.c (rnamed_ok 16) (.c hf .nil))))
 ·rw [show ofR false fo sg 16 [a, b] = (⟨false, 0, 0⟩, 13) by simp only [ofR, ruleN, eqT, b0] <;> rfl]
  exact pK [] 21 1310724 (.k 5 (litF b0) (.n 36 .nil)) (.c trt_0 (.c (rnamed_ok 16) (.c hf .nil)))
theorem ofN17 (l : List Sg) (nl neg nn fo : Bool) (num den name : List UInt8) (sg a b : Ty)  (hf : CO 90 [.sl (sgL l) l.length nl, .int .i64 17, .str name] (.ret (.tup [.agg (tyC sg), .bool fo]))) : CO 55 [.sl (sgL l) l.length nl, .agg [.int .i64 17, .bool neg, .str num, .str den, .str name], .sl (tyL [a, b]) 2 nn] (.ret (.tup [.agg (tyC (ofR false fo sg 17 [a, b]).1), .int .i64 (ofR false fo sg 17 [a, b]).2])) := by
 rcases tf ((a.tr == b.tr) && ((a.m == b.m) && ((a.d == b.d) && true))) with b0 | b0
 ·rw [show ofR false fo sg 17 [a, b] = (⟨true, 0, 0⟩, 0) by simp only [ofR, ruleN, eqT, b0] <;> rfl]
  exact pK [] 21 524292 (.k 7 (litNF b0) (.n 37 .nil)) (.c trt_0 (.c (rnamed_ok 17) (.c hf .nil)))
 ·rw [show ofR false fo sg 17 [a, b] = (⟨false, 0, 0⟩, 13) by simp only [ofR, ruleN, eqT, b0] <;> rfl]
  exact pK [] 21 1572868 (.k 4 (litNT b0) (.n 37 .nil)) (.c trt_0 (.c (rnamed_ok 17) (.c hf .nil)))
theorem ofN18 (l : List Sg) (nl neg nn fo : Bool) (num den name : List UInt8) (sg a b : Ty)  (hf : CO 90 [.sl (sgL l) l.length nl, .int .i64 18, .str name] (.ret (.tup [.agg (tyC sg), .bool fo]))) : CO 55 [.sl (sgL l) l.length nl, .agg [.int .i64 18, .bool neg, .str num, .str den, .str name], .sl (tyL [a, b]) 2 nn] (.ret (.tup [.agg (tyC (ofR false fo sg 18 [a, b]).1), .int .i64 (ofR false fo sg 18 [a, b]).2])) := by
 rcases tf a.tr with b0 | b0
 ·rcases tf b.tr with b1 | b1
  ·rw [show ofR false fo sg 18 [a, b] = (⟨true, 0, 0⟩, 0) by simp only [ofR, ruleN, eqT, b0, b1] <;> rfl]
   exact pK [] 28 66060292 (.k 7 (litNF b1) (.k 4 (litT b0) (.n 45 .nil))) (.c trt_0 (.c (rnamed_ok 18) (.c hf .nil)))
  ·rw [show ofR false fo sg 18 [a, b] = (⟨false, 0, 0⟩, 13) by simp only [ofR, ruleN, eqT, b0, b1] <;> rfl]
   exact pK [] 28 200278020 (.k 4 (litNT b1) (.k 4 (litT b0) (.n 45 .nil))) (.c trt_0 (.c (rnamed_ok 18) (.c hf .nil)))
 ·rw [show ofR false fo sg 18 [a, b] = (⟨false, 0, 0⟩, 13) by simp only [ofR, ruleN, eqT, b0] <;> rfl]
  exact pK [] 28 166723588 (.k 6 (litF b0) (.n 45 .nil)) (.c trt_0 (.c (rnamed_ok 18) (.c hf .nil)))
theorem ofN19 (l : List Sg) (nl neg nn fo : Bool) (num den name : List UInt8) (sg a b : Ty)  (hf : CO 90 [.sl (sgL l) l.length nl, .int .i64 19, .str name] (.ret (.tup [.agg (tyC sg), .bool fo]))) : CO 55 [.sl (sgL l) l.length nl, .agg [.int .i64 19, .bool neg, .str num, .str den, .str name], .sl (tyL [a, b]) 2 nn] (.ret (.tup [.agg (tyC (ofR false fo sg 19 [a, b]).1), .int .i64 (ofR false fo sg 19 [a, b]).2])) := by
 rcases tf a.tr with b0 | b0
 ·rcases tf b.tr with b1 | b1
  ·rw [show ofR false fo sg 19 [a, b] = (⟨true, 0, 0⟩, 0) by simp only [ofR, ruleN, eqT, b0, b1] <;> rfl]
   exact pK [] 29 132120580 (.k 7 (litNF b1) (.k 4 (litT b0) (.n 46 .nil))) (.c trt_0 (.c (rnamed_ok 19) (.c hf .nil)))
  ·rw [show ofR false fo sg 19 [a, b] = (⟨false, 0, 0⟩, 13) by simp only [ofR, ruleN, eqT, b0, b1] <;> rfl]
   exact pK [] 29 400556036 (.k 4 (litNT b1) (.k 4 (litT b0) (.n 46 .nil))) (.c trt_0 (.c (rnamed_ok 19) (.c hf .nil)))
 ·rw [show ofR false fo sg 19 [a, b] = (⟨false, 0, 0⟩, 13) by simp only [ofR, ruleN, eqT, b0] <;> rfl]
  exact pK [] 29 333447172 (.k 6 (litF b0) (.n 46 .nil)) (.c trt_0 (.c (rnamed_ok 19) (.c hf .nil)))
theorem ofN20 (l : List Sg) (nl neg nn fo : Bool) (num den name : List UInt8) (sg a : Ty)  (hf : CO 90 [.sl (sgL l) l.length nl, .int .i64 20, .str name] (.ret (.tup [.agg (tyC sg), .bool fo]))) : CO 55 [.sl (sgL l) l.length nl, .agg [.int .i64 20, .bool neg, .str num, .str den, .str name], .sl (tyL [a]) 1 nn] (.ret (.tup [.agg (tyC (ofR false fo sg 20 [a]).1), .int .i64 (ofR false fo sg 20 [a]).2])) := by
 rcases tf a.tr with b0 | b0
 ·rw [show ofR false fo sg 20 [a] = (⟨true, 0, 0⟩, 0) by simp only [ofR, ruleN, eqT, b0] <;> rfl]
  exact pK [] 27 29360128 (.k 7 (litNF b0) (.n 36 .nil)) (.c trt_0 (.c (rnamed_ok 20) (.c hf .nil)))
 ·rw [show ofR false fo sg 20 [a] = (⟨false, 0, 0⟩, 13) by simp only [ofR, ruleN, eqT, b0] <;> rfl]
  exact pK [] 27 96468992 (.k 4 (litNT b0) (.n 36 .nil)) (.c trt_0 (.c (rnamed_ok 20) (.c hf .nil)))
theorem ofN21 (l : List Sg) (nl neg nn fo : Bool) (num den name : List UInt8) (sg a : Ty)  (hf : CO 90 [.sl (sgL l) l.length nl, .int .i64 21, .str name] (.ret (.tup [.agg (tyC sg), .bool fo]))) : CO 55 [.sl (sgL l) l.length nl, .agg [.int .i64 21, .bool neg, .str num, .str den, .str name], .sl (tyL [a]) 1 nn] (.ret (.tup [.agg (tyC (ofR false fo sg 21 [a]).1), .int .i64 (ofR false fo sg 21 [a]).2])) := by
 rcases tf (numB [a]) with b0 | b0
 ·rw [show ofR false fo sg 21 [a] = (⟨a.tr, a.m, a.d⟩, 0) by simp only [ofR, ruleN, eqT, b0] <;> rfl]
  exact pK [] 26 25165824 (.k 7 (litNF b0) (.n 37 .nil)) (.c (numb1_ok a nn) (.c (rnamed_ok 21) (.c hf .nil)))
 ·rw [show ofR false fo sg 21 [a] = (⟨false, 0, 0⟩, 13) by simp only [ofR, ruleN, eqT, b0] <;> rfl]
  exact pK [] 26 58720256 (.k 4 (litNT b0) (.n 37 .nil)) (.c (numb1_ok a nn) (.c (rnamed_ok 21) (.c hf .nil)))
theorem ofN22 (l : List Sg) (nl neg nn fo : Bool) (num den name : List UInt8) (sg a : Ty)  (hf : CO 90 [.sl (sgL l) l.length nl, .int .i64 22, .str name] (.ret (.tup [.agg (tyC sg), .bool fo]))) : CO 55 [.sl (sgL l) l.length nl, .agg [.int .i64 22, .bool neg, .str num, .str den, .str name], .sl (tyL [a]) 1 nn] (.ret (.tup [.agg (tyC (ofR false fo sg 22 [a]).1), .int .i64 (ofR false fo sg 22 [a]).2])) := by
 rcases tf (numB [a]) with b0 | b0
 ·rw [show ofR false fo sg 22 [a] = (⟨a.tr, a.m, a.d⟩, 0) by simp only [ofR, ruleN, eqT, b0] <;> rfl]
  exact pK [] 27 50331648 (.k 7 (litNF b0) (.n 38 .nil)) (.c (numb1_ok a nn) (.c (rnamed_ok 22) (.c hf .nil)))
 ·rw [show ofR false fo sg 22 [a] = (⟨false, 0, 0⟩, 13) by simp only [ofR, ruleN, eqT, b0] <;> rfl]
  exact pK [] 27 117440512 (.k 4 (litNT b0) (.n 38 .nil)) (.c (numb1_ok a nn) (.c (rnamed_ok 22) (.c hf .nil)))
theorem ofN23 (l : List Sg) (nl neg nn fo : Bool) (num den name : List UInt8) (sg a : Ty)  (hf : CO 90 [.sl (sgL l) l.length nl, .int .i64 23, .str name] (.ret (.tup [.agg (tyC sg), .bool fo]))) : CO 55 [.sl (sgL l) l.length nl, .agg [.int .i64 23, .bool neg, .str num, .str den, .str name], .sl (tyL [a]) 1 nn] (.ret (.tup [.agg (tyC (ofR false fo sg 23 [a]).1), .int .i64 (ofR false fo sg 23 [a]).2])) := by
 rcases tf (numB [a]) with b0 | b0
 ·rw [show ofR false fo sg 23 [a] = (⟨a.tr, a.m, a.d⟩, 0) by simp only [ofR, ruleN, eqT, b0] <;> rfl]
  exact pK [] 27 33554432 (.k 7 (litNF b0) (.n 38 .nil)) (.c (numb1_ok a nn) (.c (rnamed_ok 23) (.c hf .nil)))
 ·rw [show ofR false fo sg 23 [a] = (⟨false, 0, 0⟩, 13) by simp only [ofR, ruleN, eqT, b0] <;> rfl]
  exact pK [] 27 100663296 (.k 4 (litNT b0) (.n 38 .nil)) (.c (numb1_ok a nn) (.c (rnamed_ok 23) (.c hf .nil)))
theorem ofN24 (l : List Sg) (nl neg nn fo : Bool) (num den name : List UInt8) (sg a : Ty)  (hf : CO 90 [.sl (sgL l) l.length nl, .int .i64 24, .str name] (.ret (.tup [.agg (tyC sg), .bool fo]))) : CO 55 [.sl (sgL l) l.length nl, .agg [.int .i64 24, .bool neg, .str num, .str den, .str name], .sl (tyL [a]) 1 nn] (.ret (.tup [.agg (tyC (ofR true fo sg 24 [a]).1), .int .i64 (ofR true fo sg 24 [a]).2])) := by
 rcases tf fo with b0 | b0
 ·rcases tf ((a.tr == sg.tr) && ((a.m == sg.m) && ((a.d == sg.d) && true))) with b1 | b1
  ·rw [show ofR true fo sg 24 [a] = (⟨sg.tr, sg.m, sg.d⟩, 0) by simp only [ofR, ruleN, eqT, b0, b1] <;> rfl]
   exact pK [] 28 67108865 (.k 7 (litNF b1) (.k 39 (litNF b0) (.n 5 .nil))) (.c (rnamed_ok 24) (.c hf .nil))
  ·rw [show ofR true fo sg 24 [a] = (⟨false, 0, 0⟩, 13) by simp only [ofR, ruleN, eqT, b0, b1] <;> rfl]
   exact pK [] 28 201326593 (.k 4 (litNT b1) (.k 39 (litNF b0) (.n 5 .nil))) (.c (rnamed_ok 24) (.c hf .nil))
 ·rw [show ofR true fo sg 24 [a] = (⟨false, 0, 0⟩, 12) by simp only [ofR, ruleN, eqT, b0] <;> rfl]
  exact pK [] 2 3 (.k 4 (litNT b0) (.n 5 .nil)) (.c (rnamed_ok 24) (.c hf .nil))
def typR (l : List Sg) (x : Nd) (ts : List Ty) : Ty × Int := ofR (namI x.op) (findR l x.op x.name).isSome ((findR l x.op x.name).getD zT) x.op.toNat ts
theorem len0 {ts : List Ty} {n : Nat} (h : ts.length = n) (hn : n = 0) : ts = [] := List.eq_nil_of_length_eq_zero (h.trans hn)
theorem len1 {ts : List Ty} {n : Nat} (h : ts.length = n) (hn : n = 1) : ∃ a, ts = [a] := List.length_eq_one_iff.mp (h.trans hn)
theorem len2 {ts : List Ty} {n : Nat} (h : ts.length = n) (hn : n = 2) : ∃ a b, ts = [a, b] := by
 subst hn
 match ts, h with
 | [a, b], _ => exact ⟨a, b, rfl⟩
theorem len3 {ts : List Ty} {n : Nat} (h : ts.length = n) (hn : n = 3) : ∃ a b c, ts = [a, b, c] := by
 subst hn
 match ts, h with
 | [a, b, c], _ => exact ⟨a, b, c, rfl⟩
theorem rtyp_ok (l : List Sg) (nl nn : Bool) (x : Nd) (ts : List Ty) (hll : l.length < 2 ^ 40) (h1 : 1 ≤ x.op) (h2 : x.op ≤ 24) (hts : ts.length = arI x.op) : CO 55 [.sl (sgL l) l.length nl, .agg (ndC x), .sl (tyL ts) ts.length nn] (.ret (.tup [.agg (tyC (typR l x ts).1), .int .i64 (typR l x ts).2])) := by
 obtain ⟨op, neg, num, den, name⟩ := x
 have hf := find_ok l nl op name hll
 have k1 : 1 ≤ op := h1
 have k2 : op ≤ 24 := h2
 have k3 : ts.length = arI op := hts
 clear h1 h2 hts
 rcases op_cases k1 k2 with rfl | rfl | rfl | rfl | rfl | rfl | rfl | rfl | rfl | rfl | rfl | rfl | rfl | rfl | rfl | rfl | rfl | rfl | rfl | rfl | rfl | rfl | rfl | rfl
 ·obtain rfl := len0 k3 rfl
  exact ofN1 l nl neg nn _ num den name _  hf
 ·obtain rfl := len0 k3 rfl
  exact ofN2 l nl neg nn _ num den name _  hf
 ·obtain rfl := len0 k3 rfl
  exact ofN3 l nl neg nn _ num den name _  hf
 ·obtain rfl := len0 k3 rfl
  exact ofN4 l nl neg nn _ num den name _  hf
 ·obtain rfl := len0 k3 rfl
  exact ofN5 l nl neg nn _ num den name _  hf
 ·obtain rfl := len0 k3 rfl
  exact ofN6 l nl neg nn _ num den name _  hf
 ·obtain rfl := len0 k3 rfl
  exact ofN7 l nl neg nn _ num den name _  hf
 ·obtain rfl := len0 k3 rfl
  exact ofN8 l nl neg nn _ num den name _  hf
 ·obtain ⟨a, b, rfl⟩ := len2 k3 rfl
  exact ofN9 l nl neg nn _ num den name _ a b hf
 ·obtain ⟨a, b, rfl⟩ := len2 k3 rfl
  exact ofN10 l nl neg nn _ num den name _ a b hf
 ·obtain ⟨a, b, rfl⟩ := len2 k3 rfl
  exact ofN11 l nl neg nn _ num den name _ a b hf
 ·obtain ⟨a, b, rfl⟩ := len2 k3 rfl
  exact ofN12 l nl neg nn _ num den name _ a b hf
 ·obtain ⟨a, b, rfl⟩ := len2 k3 rfl
  exact ofN13 l nl neg nn _ num den name _ a b hf
 ·obtain ⟨a, b, rfl⟩ := len2 k3 rfl
  exact ofN14 l nl neg nn _ num den name _ a b hf
 ·obtain ⟨a, b, c, rfl⟩ := len3 k3 rfl
  exact ofN15 l nl neg nn _ num den name _ a b c hf
 ·obtain ⟨a, b, rfl⟩ := len2 k3 rfl
  exact ofN16 l nl neg nn _ num den name _ a b hf
 ·obtain ⟨a, b, rfl⟩ := len2 k3 rfl
  exact ofN17 l nl neg nn _ num den name _ a b hf
 ·obtain ⟨a, b, rfl⟩ := len2 k3 rfl
  exact ofN18 l nl neg nn _ num den name _ a b hf
 ·obtain ⟨a, b, rfl⟩ := len2 k3 rfl
  exact ofN19 l nl neg nn _ num den name _ a b hf
 ·obtain ⟨a, rfl⟩ := len1 k3 rfl
  exact ofN20 l nl neg nn _ num den name _ a hf
 ·obtain ⟨a, rfl⟩ := len1 k3 rfl
  exact ofN21 l nl neg nn _ num den name _ a hf
 ·obtain ⟨a, rfl⟩ := len1 k3 rfl
  exact ofN22 l nl neg nn _ num den name _ a hf
 ·obtain ⟨a, rfl⟩ := len1 k3 rfl
  exact ofN23 l nl neg nn _ num den name _ a hf
 ·obtain ⟨a, rfl⟩ := len1 k3 rfl
  exact ofN24 l nl neg nn _ num den name _ a hf
theorem agN_0 {nt : Nat} (hn : 45 ≤ nt) (l : List Nd) (nn : Bool) (k : Nat) (C : List AV) (st own : List Nat) (x : Nd) (r : List Nd) (hdr : (List.drop ((Int.toNat (k : Int)) * 5) (ndL l)) = ndC x ++ ndL r) (h0 : (decide ((IntKind.wrap .i64 (((0 : Nat) : Int) - (AV.toInt (List.headD (List.drop ((0 + ((Int.toNat x.op) * 5)) + 1) tabL) .dead)))) = 0)) = true) (h1 : (Nat.ble (((0 + (Int.toNat (k : Int))) * 1) + 1) (List.length C)) = true) (h2 : (decide (((0 : Nat) : Int) ≤ (k : Int))) = true) (h3 : (decide ((k : Int) < (l.length : Int))) = true) (h4 : (chk (.int .i64) (List.headD (List.drop ((0 + ((Int.toNat x.op) * 5)) + 1) tabL) .dead)) = true) (h5 : (decide (((0 : Nat) : Int) ≤ x.op)) = true) (h6 : (decide (x.op < ((25 : Nat) : Int))) = true) (h7 : lit true (decide ((k : Int) < (l.length : Int))) = true) (c0 : CO 78 [.nilS] (.ret (.sl (i64L own) own.length false))) : ExecOk prog ap [] nt (loopBody 0 (bodyOf f51)) ⟨[(15, .sl (ndL l) l.length nn), (16, .int .i64 (l.length : Int)), (17, .int .i64 (k : Int)), (4, .ref 0 0 0 l.length), (5, .nilS)], [(0, ⟨C, 0, false, 0, 1, true⟩)], .dead, []⟩ (.normal) ⟨[(15, .sl (ndL l) l.length nn), (16, .int .i64 (l.length : Int)), (17, .int .i64 (IntKind.wrap .i64 ((k : Int) + ((1 : Nat) : Int)))), (4, .ref 0 0 0 l.length), (5, .ref 1 0 0 1)], [(0, ⟨(List.take ((0 + (Int.toNat (k : Int))) * 1) C ++ [.sl (i64L own) own.length false] ++ List.drop (((0 + (Int.toNat (k : Int))) * 1) + 1) C), 0, false, 0, 1, true⟩), (1, ⟨[.int .i64 (k : Int)], 0, false, 0, 1, true⟩)], .dead, []⟩ :=
 have h : ExecOk prog ap [] nt (loopBody 0 (bodyOf f51)) ⟨[(15, .sl (ndL l) l.length nn), (16, .int .i64 (l.length : Int)), (17, .int .i64 (k : Int)), (4, .ref 0 0 0 l.length), (5, .nilS)], [(0, ⟨C, 0, false, 0, 1, true⟩)], .dead, []⟩ (.normal) ⟨[(15, .sl (ndL l) l.length nn), (16, .int .i64 (l.length : Int)), (17, .int .i64 (IntKind.wrap .i64 ((k : Int) + ((1 : Nat) : Int)))), (4, .ref 0 0 0 l.length), (5, .ref 1 0 0 1)], [(0, ⟨(List.take ((0 + (Int.toNat (k : Int))) * 1) C ++ [.sl (i64L own) own.length false] ++ List.drop (((0 + (Int.toNat (k : Int))) * 1) + 1) C), 0, false, 0, 1, true⟩), (1, ⟨[.int .i64 (k : Int)], 0, false, 0, 1, true⟩), (2, ⟨[.int .i64 x.op, .bool x.neg, .str x.num, .str x.den, .str x.name], 0, false, 0, 0, true⟩)], .dead, []⟩ := pJ 51 [] 2 1 (.k 4 h0 (.c h1 (.c h2 (.c h3 (.c h0 (.k 1 h4 (.c h5 (.c h6 (.k 7 h2 (.c h3 (.c h7 .nil))))))))))) (.c c0 (.v 20 (.ppt hdr) .nil)) hn
 h.forgetD 2 ⟨[.int .i64 x.op, .bool x.neg, .str x.num, .str x.den, .str x.name], 0, false, 0, 0, true⟩ (by intro v h; cases h) (by decide) rfl ⟨Fz.same rfl, Fz.same rfl, Fz.same rfl, Fz.same rfl, Fz.same rfl, trivial⟩ ⟨rfl, FzB.same rfl, by decide, rfl, FzB.same rfl, by decide, rfl⟩ rfl
theorem agN_raw_1 {nt : Nat} (hn : 45 ≤ nt) (l : List Nd) (nn : Bool) (k : Nat) (C : List AV) (st own : List Nat) (h0 : lit false (decide ((k : Int) < (l.length : Int))) = true)  : ExecOk prog ap [] nt (loopBody 0 (bodyOf f51)) ⟨[(15, .sl (ndL l) l.length nn), (16, .int .i64 (l.length : Int)), (17, .int .i64 (k : Int)), (4, .ref 0 0 0 l.length), (5, .nilS)], [(0, ⟨C, 0, false, 0, 1, true⟩)], .dead, []⟩ (.exit 0) ⟨[(4, .ref 0 0 0 l.length)], [(0, ⟨C, 0, false, 0, 1, true⟩)], .dead, []⟩ := pJ 51 [] 1 0 (.c h0 .nil) (.nil) hn
theorem agC_0 {nt : Nat} (hn : 45 ≤ nt) (l : List Nd) (nn : Bool) (k : Nat) (C : List AV) (st own : List Nat) (x : Nd) (r : List Nd) (hdr : (List.drop ((Int.toNat (k : Int)) * 5) (ndL l)) = ndC x ++ ndL r) (h0 : (Nat.ble (((Int.toNat (IntKind.wrap .i64 ((st.length : Int) - (AV.toInt (List.headD (List.drop ((0 + ((Int.toNat x.op) * 5)) + 1) tabL) .dead))))) - 0) + 1) 1099511627776) = true) (h1 : (Nat.ble (((Int.toNat (IntKind.wrap .i64 ((st.length : Int) - (AV.toInt (List.headD (List.drop ((0 + ((Int.toNat x.op) * 5)) + 1) tabL) .dead))))) - 0) * 1) (List.length (i64L st))) = true) (h2 : (decide (((0 : Nat) : Int) ≤ (IntKind.wrap .i64 ((st.length : Int) - (AV.toInt (List.headD (List.drop ((0 + ((Int.toNat x.op) * 5)) + 1) tabL) .dead)))))) = true) (h3 : (decide ((IntKind.wrap .i64 ((st.length : Int) - (AV.toInt (List.headD (List.drop ((0 + ((Int.toNat x.op) * 5)) + 1) tabL) .dead)))) ≤ (st.length : Int))) = true) (h4 : (Nat.ble (((0 + (Int.toNat (k : Int))) * 1) + 1) (List.length C)) = true) (h5 : (decide (((0 : Nat) : Int) ≤ (k : Int))) = true) (h6 : (decide ((k : Int) < (l.length : Int))) = true) (h7 : (decide ((st.length : Int) ≤ (st.length : Int))) = true) (h8 : (chk (.int .i64) (List.headD (List.drop ((0 + ((Int.toNat x.op) * 5)) + 1) tabL) .dead)) = true) (h9 : (decide (((0 : Nat) : Int) ≤ x.op)) = true) (h10 : (decide (x.op < ((25 : Nat) : Int))) = true) (h11 : lit true (decide ((k : Int) < (l.length : Int))) = true) (c0 : CallOk prog ap 78 [.ref 0 0 (0 + (Int.toNat (IntKind.wrap .i64 ((st.length : Int) - (AV.toInt (List.headD (List.drop ((0 + ((Int.toNat x.op) * 5)) + 1) tabL) .dead)))))) ((Int.toNat (st.length : Int)) - (Int.toNat (IntKind.wrap .i64 ((st.length : Int) - (AV.toInt (List.headD (List.drop ((0 + ((Int.toNat x.op) * 5)) + 1) tabL) .dead))))))] [⟨(i64L st), 0, false, 0, 1, true⟩] (.ret (.sl (i64L own) own.length false)) [⟨(i64L st), 0, false, 0, 1, true⟩]) : ExecOk prog ap [] nt (loopBody 0 (bodyOf f51)) ⟨[(15, .sl (ndL l) l.length nn), (16, .int .i64 (l.length : Int)), (17, .int .i64 (k : Int)), (4, .ref 0 0 0 l.length), (5, .ref 1 0 0 st.length)], [(0, ⟨C, 0, false, 0, 1, true⟩), (1, ⟨(i64L st), 0, false, 0, 1, true⟩)], .dead, []⟩ (.normal) ⟨[(15, .sl (ndL l) l.length nn), (16, .int .i64 (l.length : Int)), (17, .int .i64 (IntKind.wrap .i64 ((k : Int) + ((1 : Nat) : Int)))), (4, .ref 0 0 0 l.length), (5, .ref 1 0 0 (((Int.toNat (IntKind.wrap .i64 ((st.length : Int) - (AV.toInt (List.headD (List.drop ((0 + ((Int.toNat x.op) * 5)) + 1) tabL) .dead))))) - 0) + 1))], [(0, ⟨(List.take ((0 + (Int.toNat (k : Int))) * 1) C ++ [.sl (i64L own) own.length false] ++ List.drop (((0 + (Int.toNat (k : Int))) * 1) + 1) C), 0, false, 0, 1, true⟩), (1, ⟨((List.take (((Int.toNat (IntKind.wrap .i64 ((st.length : Int) - (AV.toInt (List.headD (List.drop ((0 + ((Int.toNat x.op) * 5)) + 1) tabL) .dead))))) - 0) * 1) (i64L st)) ++ [.int .i64 (k : Int)]), 0, false, 0, 1, true⟩)], .dead, []⟩ :=
 have h : ExecOk prog ap [] nt (loopBody 0 (bodyOf f51)) ⟨[(15, .sl (ndL l) l.length nn), (16, .int .i64 (l.length : Int)), (17, .int .i64 (k : Int)), (4, .ref 0 0 0 l.length), (5, .ref 1 0 0 st.length)], [(0, ⟨C, 0, false, 0, 1, true⟩), (1, ⟨(i64L st), 0, false, 0, 1, true⟩)], .dead, []⟩ (.normal) ⟨[(15, .sl (ndL l) l.length nn), (16, .int .i64 (l.length : Int)), (17, .int .i64 (IntKind.wrap .i64 ((k : Int) + ((1 : Nat) : Int)))), (4, .ref 0 0 0 l.length), (5, .ref 1 0 0 (((Int.toNat (IntKind.wrap .i64 ((st.length : Int) - (AV.toInt (List.headD (List.drop ((0 + ((Int.toNat x.op) * 5)) + 1) tabL) .dead))))) - 0) + 1))], [(0, ⟨(List.take ((0 + (Int.toNat (k : Int))) * 1) C ++ [.sl (i64L own) own.length false] ++ List.drop (((0 + (Int.toNat (k : Int))) * 1) + 1) C), 0, false, 0, 1, true⟩), (1, ⟨((List.take (((Int.toNat (IntKind.wrap .i64 ((st.length : Int) - (AV.toInt (List.headD (List.drop ((0 + ((Int.toNat x.op) * 5)) + 1) tabL) .dead))))) - 0) * 1) (i64L st)) ++ [.int .i64 (k : Int)]), 0, false, 0, 1, true⟩), (2, ⟨[.int .i64 x.op, .bool x.neg, .str x.num, .str x.den, .str x.name], 0, false, 0, 0, true⟩)], .dead, []⟩ := pJ 51 [] 1 1 (.k 1 h0 (.c h1 (.k 2 h2 (.c h3 (.c h4 (.c h5 (.c h6 (.c h2 (.c h3 (.c h7 (.c h8 (.c h9 (.c h10 (.k 7 h5 (.c h6 (.c h11 .nil)))))))))))))))) (.c c0 (.v 20 (.ppt hdr) .nil)) hn
 h.forgetD 2 ⟨[.int .i64 x.op, .bool x.neg, .str x.num, .str x.den, .str x.name], 0, false, 0, 0, true⟩ (by intro v h; cases h) (by decide) rfl ⟨Fz.same rfl, Fz.same rfl, Fz.same rfl, Fz.same rfl, Fz.same rfl, trivial⟩ ⟨rfl, FzB.same rfl, by decide, rfl, FzB.same rfl, by decide, rfl⟩ rfl
theorem agC_raw_1 {nt : Nat} (hn : 45 ≤ nt) (l : List Nd) (nn : Bool) (k : Nat) (C : List AV) (st own : List Nat) (h0 : lit false (decide ((k : Int) < (l.length : Int))) = true)  : ExecOk prog ap [] nt (loopBody 0 (bodyOf f51)) ⟨[(15, .sl (ndL l) l.length nn), (16, .int .i64 (l.length : Int)), (17, .int .i64 (k : Int)), (4, .ref 0 0 0 l.length), (5, .ref 1 0 0 st.length)], [(0, ⟨C, 0, false, 0, 1, true⟩), (1, ⟨(i64L st), 0, false, 0, 1, true⟩)], .dead, []⟩ (.exit 0) ⟨[(4, .ref 0 0 0 l.length)], [(0, ⟨C, 0, false, 0, 1, true⟩), (1, ⟨(i64L st), 0, false, 0, 1, true⟩)], .dead, []⟩ := pJ 51 [] 1 0 (.c h0 .nil) (.nil) hn
theorem agF_1 (l : List Nd) (nn : Bool) (w : Int) (C : List AV) (h0 : (decide (((0 : Nat) : Int) ≤ (l.length : Int))) = true) (h1 : (decide ((l.length : Int) = (l.length : Int))) = true) (h2 : (decide ((l.length : Int) ≤ ((1099511627776 : Nat) : Int))) = true) (h3 : lit false (!(w == ((0 : Nat) : Int))) = true) (c0 : CO 49 [.sl (ndL l) l.length nn] (.ret (.int .i64 w))) (l0 : LoopOk prog ap [] 45 (.block 0 (.loop (loopBody 0 (bodyOf f51)))) ⟨[(0, .sl (ndL l) l.length nn), (2, .nilS), (3, .bool false), (4, .ref 0 0 0 (Int.toNat (l.length : Int))), (5, .nilS), (6, .dead), (7, .dead), (8, .dead), (11, .bool (!(w == ((0 : Nat) : Int)))), (15, .sl (ndL l) l.length nn), (16, .int .i64 (l.length : Int)), (17, .int .i64 0), (18, .dead)], [(0, ⟨(repL (Int.toNat (l.length : Int)) [.nilS]), 0, false, 0, 1, true⟩)], .dead, []⟩ (.normal) ⟨[(4, .ref 0 0 0 l.length)], [(0, ⟨C, 0, false, 0, 1, true⟩)], .dead, []⟩) : CO 51 [.sl (ndL l) l.length nn] (.ret (.tup [.own (List.take (l.length * 1) C) l.length 1, .bool true])) := pK [0] 1 0 (.c h0 (.c h1 (.c h2 (.c h3 .nil)))) (.l l0 (.c c0 .nil))
theorem clN_0    : CO 78 [.nilS] (.ret (.nilS)) := pK [] 1 1 (.n 1 .nil) (.nil)
theorem clC_0 (st : List Nat) (i n : Nat) (h0 : (Nat.beq (List.length (List.take (n * 1) (List.drop (i * 1) (i64L st)))) (n * 1)) = true) (h1 : (Nat.ble (0 + n) 1099511627776) = true)  : CallOk prog ap 78 [.ref 0 0 i n] [⟨(i64L st), 0, false, 0, 1, true⟩] (.ret (.own (List.take ((0 + n) * 1) ([] ++ (List.take (n * 1) (List.drop (i * 1) (i64L st))))) (0 + n) 1)) [⟨(i64L st), 0, false, 0, 1, true⟩] := pK [] 1 0 (.c h0 (.c h1 (.n 3 .nil))) (.nil)
def argR : List Nd → Nat → List Nat → List (List Nat)
 | [], _, _ => []
 | x :: r, k, st => st.drop (st.length - arI x.op) :: argR r (k + 1) (st.take (st.length - arI x.op) ++ [k])
def argsQ (l : List Nd) : List (List Nat) := argR l 0 []
def argA (a : List Nat) : AV := .sl (i64L a) a.length false
def argsL (ll : List (List Nat)) : List AV := ll.map argA
def stR : List Nd → Nat → List Nat → List Nat
 | [], _, st => st
 | x :: r, k, st => stR r (k + 1) (st.take (st.length - arI x.op) ++ [k])
theorem argR_len (r : List Nd) : ∀ k st, (argR r k st).length = r.length := by
 induction r with
 | nil => intros; rfl
 | cons x r ih => intro k st; simp only [argR, List.length_cons, ih]
def agE (st : List Nat) : AV := match st with | [] => .nilS | x :: l => .ref 1 0 0 (x :: l).length
def agH (st : List Nat) : Hp := match st with | [] => [] | x :: l => [(1, ⟨i64L (x :: l), 0, false, 0, 1, true⟩)]
theorem agE_ne {l : List Nat} (h : l ≠ []) : agE l = .ref 1 0 0 l.length := by cases l with | nil => exact absurd rfl h | cons _ _ => rfl
theorem agH_ne {l : List Nat} (h : l ≠ []) : agH l = [(1, ⟨i64L l, 0, false, 0, 1, true⟩)] := by cases l with | nil => exact absurd rfl h | cons _ _ => rfl
def agSt (l : List Nd) (nn : Bool) (p : Nat × List Nat × List AV) : St := ⟨[(15, .sl (ndL l) l.length nn), (16, .int .i64 (l.length : Int)), (17, .int .i64 (p.1 : Int)), (4, .ref 0 0 0 l.length), (5, agE p.2.1)], (0, ⟨p.2.2, 0, false, 0, 1, true⟩) :: agH p.2.1, .dead, []⟩
def agOut (l : List Nd) (p : List Nat × List AV) : St := ⟨[(4, .ref 0 0 0 l.length)], (0, ⟨p.2, 0, false, 0, 1, true⟩) :: agH p.1, .dead, []⟩
theorem clone_nil : CallOk prog ap 78 [.nilS] [] (.ret (.sl (i64L []) ([] : List Nat).length false)) [] := clN_0.out (OutLe.ret rfl rfl (Fits.nilS false rfl))
theorem clone_ok (st : List Nat) (i n : Nat) (h : i + n = st.length) (hl : st.length < 2 ^ 40) : CallOk prog ap 78 [.ref 0 0 i n] [⟨i64L st, 0, false, 0, 1, true⟩] (.ret (.sl (i64L (st.drop i)) n false)) [⟨i64L st, 0, false, 0, 1, true⟩] := by
 have h1 := clC_0 st i n
 have hln : n ≤ st.length := by omega
 have htk : List.take n (List.drop i (i64L st)) = i64L (st.drop i) := by
  rw [drop_i64, take_i64, List.take_of_length_le (by simp; omega)]
 have hlen : (i64L (st.drop i)).length = n := by rw [i64L_length, List.length_drop]; omega
 simp (disch := first | omega | (simp [u32L_length, u8L_length] <;> omega)) only [Nat.mul_one, htk, hlen, nbeq_d, decide_true, Nat.zero_add, nble_d, dec_t, List.nil_append] at h1
 have h2 := (h1 True.intro (by omega)).thaw (by simp)
 simp only [thawO, thaw, Nat.mul_one] at h2
 rw [List.take_of_length_le (by rw [List.length_take, hlen]; omega), List.take_of_length_le (by omega)] at h2
 exact h2.out (OutLe.sl1 _ _ _)
theorem ag_step {nt : Nat} (hn : 45 ≤ nt) (l p r : List Nd) (nn : Bool) (x : Nd) (st : List Nat) (C C2 : List AV) (hl : l = p ++ x :: r) (hll : l.length < 2 ^ 39) (hop : 1 ≤ x.op ∧ x.op ≤ 24) (har : arI x.op ≤ st.length) (hst : st.length ≤ p.length) (hC : C.length = l.length)
  (hset : List.take p.length C ++ [argA (st.drop (st.length - arI x.op))] ++ List.drop (p.length + 1) C = C2) :
  ExecOk prog ap [] nt (loopBody 0 (bodyOf f51)) (agSt l nn (p.length, st, C)) .normal (agSt l nn (p.length + 1, st.take (st.length - arI x.op) ++ [p.length], C2)) := by
 have hdr : List.drop (Int.toNat (p.length : Int) * 5) (ndL l) = ndC x ++ ndL r := by rw [hl]; exact nd_drop rfl
 have hlen : p.length + (r.length + 1) = l.length := by rw [hl]; simp
 obtain ⟨i1, i2⟩ := hop
 have ht := tab_ar i1 i2
 unfold agSt
 simp only
 rw [agE_ne (snoc_ne _ _), agH_ne (snoc_ne _ _)]
 rcases Decidable.em (st = []) with rfl | hne
 ·have h0 : arI x.op = 0 := by simpa using har
  have hb := agN_0 hn l nn p.length C [] [] x r hdr
  simp only [List.length_nil, Nat.zero_sub, List.drop_nil, List.take_nil, List.nil_append] at hset ⊢
  unfold argA at hset
  have hca := clone_nil
  simp (disch := first | omega | (simp [u32L_length, u8L_length] <;> omega)) only [Nat.zero_add, ht, h0, toInt_int, w64_sub, Nat.sub_zero, dec_t, c_toNat, Nat.mul_one, hC, nble_d, d_le, d_lt, chk_i64, lit_t, List.length_nil, c_add, w64_nat] at hb
  simp only [agE, agH, i64L, List.map_cons, List.map_nil, List.length_cons, List.length_nil, Nat.zero_add] at hb hset hca ⊢
  rw [hset] at hb
  apply hb <;> first | exact True.intro | omega | assumption | exact rfl | skip
 ·have hcl := clone_ok st (st.length - arI x.op) (arI x.op) (by omega) (by omega)
  have hb := agC_0 hn l nn p.length C st (st.drop (st.length - arI x.op)) x r hdr
  rw [agE_ne hne, agH_ne hne]
  unfold argA at hset
  generalize hm : st.length - arI x.op = m at *
  have hown : (st.drop m).length = arI x.op := by rw [List.length_drop]; omega
  have e2 : IntKind.wrap .i64 ((st.length : Int) - ((arI x.op : Nat) : Int)) = (m : Int) := by rw [w64_id] <;> omega
  have e3 : st.length - m = arI x.op := by omega
  rw [hown] at hb hset
  have e4 : (st.take m).length = m := by rw [List.length_take]; omega
  simp (disch := first | omega | (simp [u32L_length, u8L_length] <;> omega)) only [Nat.zero_add, ht, toInt_int, e2, c_toNat, Nat.sub_zero, nble_d, dec_t, Nat.mul_one, i64L_length, d_le, hC, d_lt, chk_i64, lit_t, e3, c_add, w64_nat, hset, take_i64, i64_snoc] at hb
  simp only [List.length_append, List.length_singleton, e4]
  apply hb <;> first | exact True.intro | omega | assumption | exact rfl | skip
theorem chkR_le {r : List Nd} {d e : Nat} {x : Nd} (h : chkR (x :: r) d = .inl e) : (1 ≤ x.op ∧ x.op ≤ 24) ∧ arI x.op ≤ d ∧ chkR r (d - arI x.op + 1) = .inl e := by
 simp only [chkR] at h
 by_cases h1 : wrongQ x = 0
 ·rw [if_pos h1] at h
  by_cases h2 : d < arI x.op
  ·rw [if_pos h2] at h; cases h
  ·rw [if_neg h2] at h
   exact ⟨wrong_in h1, by omega, h⟩
 ·rw [if_neg h1] at h; cases h
theorem argsL_len (ll : List (List Nat)) : (argsL ll).length = ll.length := by simp [argsL]
theorem argsL_set (done : List (List Nat)) (a : List Nat) (m : Nat) : List.take done.length (argsL done ++ List.replicate (m + 1) AV.nilS) ++ [argA a] ++ List.drop (done.length + 1) (argsL done ++ List.replicate (m + 1) AV.nilS) = argsL (done ++ [a]) ++ List.replicate m AV.nilS := by
 have hl := argsL_len done
 rw [List.take_append_of_le_length (by omega), List.take_of_length_le (by omega), List.drop_append, List.drop_of_length_le (by omega), List.nil_append, show done.length + 1 - (argsL done).length = 1 by omega, List.replicate_succ, List.drop_succ_cons, List.drop_zero]
 unfold argsL
 rw [List.map_append]
 rfl
theorem ag_loop {nt : Nat} (hn : 45 ≤ nt) (l : List Nd) (nn : Bool) (hll : l.length < 2 ^ 39) (e : Nat) : ∀ (r p : List Nd) (st : List Nat) (done : List (List Nat)), p ++ r = l → chkR r st.length = .inl e → st.length ≤ p.length → done.length = p.length → LoopR prog ap [] nt (loopBody 0 (bodyOf f51)) (fun _ => .exit 0) (agSt l nn) (agOut l) (p.length, st, argsL done ++ List.replicate r.length .nilS) (stR r p.length st, argsL (done ++ argR r p.length st)) := by
 intro r
 induction r with
 | nil =>
  intro p st done h hc hst hd
  have hp : p.length = l.length := by rw [← h]; simp
  rw [hp]
  simp only [argR, stR, List.append_nil, List.length_nil, List.replicate_zero]
  refine .done ?_
  unfold agSt agOut
  have hx : ExecOk prog ap [] nt (loopBody 0 (bodyOf f51)) (agSt l nn (l.length, st, argsL done)) (.exit 0) (agOut l (st, argsL done)) := by
   unfold agSt agOut
   rcases Decidable.em (st = []) with rfl | hne
   ·exact agN_raw_1 hn l nn l.length (argsL done) [] [] (by rw [d_lt]; simp [lit])
   ·simp only
    rw [agE_ne hne, agH_ne hne]
    exact agC_raw_1 hn l nn l.length (argsL done) st [] (by rw [d_lt]; simp [lit])
  exact hx
 | cons x r ih =>
  intro p st done h hc hst hd
  obtain ⟨hop, har, hc2⟩ := chkR_le hc
  have hl : p.length + (r.length + 1) = l.length := by rw [← h]; simp
  have hst2 : (st.take (st.length - arI x.op) ++ [p.length]).length = st.length - arI x.op + 1 := by
   rw [List.length_append, List.length_take, List.length_singleton, Nat.min_eq_left (by omega)]
  have hnext := ih (p ++ [x]) (st.take (st.length - arI x.op) ++ [p.length]) (done ++ [st.drop (st.length - arI x.op)]) (by simp [h]) (by rw [hst2]; exact hc2) (by rw [hst2]; simp; omega) (by simp [hd])
  rw [List.length_append, List.length_singleton, List.append_assoc] at hnext
  simp only [argR, stR, List.length_cons]
  have hset := argsL_set done (st.drop (st.length - arI x.op)) r.length
  rw [hd] at hset
  have hstep := ag_step hn l p r nn x st (argsL done ++ List.replicate (r.length + 1) .nilS) _ h.symm hll hop har hst (by rw [List.length_append, argsL_len, List.length_replicate]; omega) hset
  exact .next hstep hnext
theorem rep_nilS (n : Nat) : repL n [AV.nilS] = List.replicate n AV.nilS := by
 unfold repL
 induction n with
 | zero => rfl
 | succ n ih => rw [List.replicate_succ, List.flatten_cons, ih, List.replicate_succ]; rfl
theorem checkQ_inl {l : List Nd} (h : checkQ l = 0) : l.length ≤ 60 ∧ chkR l 0 = .inl 1 := by
 unfold checkQ at h
 by_cases h60 : 60 < l.length
 ·rw [if_pos h60] at h; cases h
 ·rw [if_neg h60] at h
  refine ⟨by omega, ?_⟩
  have hne : ∀ (r : List Nd) (d : Nat) (w : Int), chkR r d = .inr w → w ≠ 0 := by
   intro r
   induction r with
   | nil => intro d w h; cases h
   | cons x r ih =>
    intro d w h
    simp only [chkR] at h
    by_cases h1 : wrongQ x = 0
    ·rw [if_pos h1] at h
     by_cases h2 : d < arI x.op
     ·rw [if_pos h2] at h; cases h; decide
     ·rw [if_neg h2] at h; exact ih _ _ h
    ·rw [if_neg h1] at h; cases h; exact h1
  cases hc : chkR l 0 with
  | inl d =>
   rw [hc] at h
   by_cases hd : d = 1
   ·rw [hd]
   ·simp only [if_neg hd] at h; cases h
  | inr w => rw [hc] at h; exact absurd h (hne l 0 w hc)
theorem args_ok (l : List Nd) (nn : Bool) (hsm : ∀ x ∈ l, x.sm) (hc : checkQ l = 0) : CO 51 [.sl (ndL l) l.length nn] (.ret (.tup [.sl (argsL (argsQ l)) l.length true, .bool true])) := by
 have htk : List.take l.length (argsL (argsQ l)) = argsL (argsQ l) := List.take_of_length_le (by rw [argsL_len]; unfold argsQ; rw [argR_len]; omega)
 suffices hown : CO 51 [.sl (ndL l) l.length nn] (.ret (.tup [.own (argsL (argsQ l)) l.length 1, .bool true])) by
  have h := hown.thaw (by simp)
  simp only [thawO, List.map_cons, List.map_nil, thaw, Nat.mul_one, htk] at h
  exact h
 have hck := check_ok l nn hsm
 obtain ⟨h60, hin⟩ := checkQ_inl hc
 rw [hc] at hck
 have hloop := fun nt (hn : 45 ≤ nt) => ag_loop hn l nn (by omega) 1 l [] [] [] rfl hin (by simp) rfl
 have hal : (argsQ l).length = l.length := argR_len l 0 []
 have h := agF_1 l nn 0 (argsL (argsQ l))
 simp (disch := first | omega | (simp [u32L_length, u8L_length] <;> omega)) only [d_le, dec_t, decide_true, lit_f, not_t, not_f, c_toNat, rep_nilS, Nat.mul_one, htk] at h
 have hlen : (argsL (argsQ l)).length = l.length := by rw [argsL_len, hal]
 have hr : l.length < 1099511627776 := by omega
 apply h <;> first | exact True.intro | omega | assumption | exact rfl | skip
 intro nt hnt
 have hb := LoopR.blk (s := agSt l nn (0, [], List.replicate l.length AV.nilS)) (s' := agOut l (stR l 0 [], argsL (argsQ l))) (id := 0) hloop (by simp) rfl (Less.refl _) (Less.refl _) nt hnt
 unfold agSt agOut at hb
 simp only [agE, agH] at hb
 have hb2 := hb.weak (s' := ⟨[(0, .sl (ndL l) l.length nn), (2, .nilS), (3, .bool false), (4, .ref 0 0 0 l.length), (5, .nilS), (6, .dead), (7, .dead), (8, .dead), (11, .bool false), (15, .sl (ndL l) l.length nn), (16, .int .i64 (l.length : Int)), (17, .int .i64 0), (18, .dead)], [(0, ⟨List.replicate l.length AV.nilS, 0, false, 0, 1, true⟩)], .dead, []⟩) (Less.of ⟨rfl, rfl, rfl, rfl, rfl, trivial⟩) (Less.refl _)
 rcases Decidable.em (stR l 0 [] = []) with he | he
 ·rw [he] at hb2; exact hb2
 ·have e1 := agH_ne he
  unfold agH at e1
  rw [e1] at hb2
  exact hb2.forget 1 _ (by intro v h; cases h) (by decide) rfl ⟨Fz.same rfl, trivial⟩ ⟨rfl, FzB.same rfl, by decide, rfl⟩
theorem raF_0 {nt : Nat} (hn : 59 ≤ nt) (l : List Nd) (nn : Bool) (h0 : (chk (.int .i64) (List.headD (ndL l) .dead)) = true) (h1 : (decide (((0 : Nat) : Int) < (l.length : Int))) = true) (h2 : lit true (decide (((0 : Nat) : Int) < (l.length : Int))) = true) (c0 : CO 48 [.int .i64 (AV.toInt (List.headD (ndL l) .dead))] (.ret (.int .i64 0))) : ExecOk prog ap [] nt (loopBody 0 (bodyOf f29)) ⟨[(0, .sl (ndL l) l.length nn), (5, .nilS), (6, .nilS), (7, .int .i64 0)], [], .dead, []⟩ (.normal) ⟨[(0, .sl (ndL l) l.length nn), (5, .ref 0 0 0 1), (6, .ref 1 0 0 1), (7, .int .i64 1)], [(0, ⟨[.nilS], 0, false, 0, 1, true⟩), (1, ⟨[.int .i64 0], 0, false, 0, 1, true⟩)], .dead, []⟩ := pJ 29 [] 4 1 (.k 9 h0 (.k 1 h1 (.c h2 .nil))) (.c c0 .nil) hn
theorem raiN_0 {nt : Nat} (hn : 59 ≤ nt) (l : List Nd) (nn : Bool) (C : List AV) (st own : List Nat) (i k a : Nat) (h0 : (chk (.int .i64) (List.headD (List.drop ((0 + (Int.toNat (i : Int))) * 1) (i64L st)) .dead)) = true) (h1 : (decide (((0 : Nat) : Int) ≤ (i : Int))) = true) (h2 : (decide ((i : Int) < (st.length : Int))) = true) (h3 : lit true (decide ((i : Int) < (st.length : Int))) = true)  : ExecOk prog ap [] nt (loopBody 2 (bodyOf f29)) ⟨[(0, .sl (ndL l) l.length nn), (7, .int .i64 (k : Int)), (8, .int .i64 (a : Int)), (5, .ref 0 0 0 k), (6, .ref 1 0 0 st.length), (9, .nilS), (10, .int .i64 (i : Int))], [(0, ⟨C, 0, false, 0, 1, true⟩), (1, ⟨(i64L st), 0, false, 0, 1, true⟩)], .dead, []⟩ (.normal) ⟨[(0, .sl (ndL l) l.length nn), (7, .int .i64 (k : Int)), (8, .int .i64 (a : Int)), (5, .ref 0 0 0 k), (6, .ref 1 0 0 st.length), (9, .ref 2 0 0 1), (10, .int .i64 (IntKind.wrap .i64 ((i : Int) + ((1 : Nat) : Int))))], [(0, ⟨C, 0, false, 0, 1, true⟩), (1, ⟨(i64L st), 0, false, 0, 1, true⟩), (2, ⟨[.int .i64 (AV.toInt (List.headD (List.drop ((0 + (Int.toNat (i : Int))) * 1) (i64L st)) .dead))], 0, false, 0, 1, true⟩)], .dead, []⟩ := pJ 29 [] 2 1 (.k 3 h0 (.c h1 (.c h2 (.c h3 .nil)))) (.nil) hn
theorem raiN_1 {nt : Nat} (hn : 59 ≤ nt) (l : List Nd) (nn : Bool) (C : List AV) (st own : List Nat) (i k a : Nat) (h0 : lit false (decide ((i : Int) < (st.length : Int))) = true)  : ExecOk prog ap [] nt (loopBody 2 (bodyOf f29)) ⟨[(0, .sl (ndL l) l.length nn), (7, .int .i64 (k : Int)), (8, .int .i64 (a : Int)), (5, .ref 0 0 0 k), (6, .ref 1 0 0 st.length), (9, .nilS), (10, .int .i64 (i : Int))], [(0, ⟨C, 0, false, 0, 1, true⟩), (1, ⟨(i64L st), 0, false, 0, 1, true⟩)], .dead, []⟩ (.exit 2) ⟨[(0, .sl (ndL l) l.length nn), (7, .int .i64 (k : Int)), (8, .int .i64 (a : Int)), (5, .ref 0 0 0 k), (6, .ref 1 0 0 st.length), (9, .nilS)], [(0, ⟨C, 0, false, 0, 1, true⟩), (1, ⟨(i64L st), 0, false, 0, 1, true⟩)], .dead, []⟩ := pJ 29 [] 1 0 (.c h0 .nil) (.nil) hn
theorem raiC_0 {nt : Nat} (hn : 59 ≤ nt) (l : List Nd) (nn : Bool) (C : List AV) (st own : List Nat) (i k a : Nat) (h0 : (Nat.ble (own.length + 1) 1099511627776) = true) (h1 : (Nat.ble (own.length * 1) (List.length (i64L own))) = true) (h2 : (chk (.int .i64) (List.headD (List.drop ((0 + (Int.toNat (i : Int))) * 1) (i64L st)) .dead)) = true) (h3 : (decide (((0 : Nat) : Int) ≤ (i : Int))) = true) (h4 : (decide ((i : Int) < (st.length : Int))) = true) (h5 : lit true (decide ((i : Int) < (st.length : Int))) = true)  : ExecOk prog ap [] nt (loopBody 2 (bodyOf f29)) ⟨[(0, .sl (ndL l) l.length nn), (7, .int .i64 (k : Int)), (8, .int .i64 (a : Int)), (5, .ref 0 0 0 k), (6, .ref 1 0 0 st.length), (9, .ref 2 0 0 own.length), (10, .int .i64 (i : Int))], [(0, ⟨C, 0, false, 0, 1, true⟩), (1, ⟨(i64L st), 0, false, 0, 1, true⟩), (2, ⟨(i64L own), 0, false, 0, 1, true⟩)], .dead, []⟩ (.normal) ⟨[(0, .sl (ndL l) l.length nn), (7, .int .i64 (k : Int)), (8, .int .i64 (a : Int)), (5, .ref 0 0 0 k), (6, .ref 1 0 0 st.length), (9, .ref 2 0 0 (own.length + 1)), (10, .int .i64 (IntKind.wrap .i64 ((i : Int) + ((1 : Nat) : Int))))], [(0, ⟨C, 0, false, 0, 1, true⟩), (1, ⟨(i64L st), 0, false, 0, 1, true⟩), (2, ⟨((List.take (own.length * 1) (i64L own)) ++ [.int .i64 (AV.toInt (List.headD (List.drop ((0 + (Int.toNat (i : Int))) * 1) (i64L st)) .dead))]), 0, false, 0, 1, true⟩)], .dead, []⟩ := pJ 29 [] 1 1 (.k 1 h0 (.c h1 (.k 1 h2 (.c h3 (.c h4 (.c h5 .nil)))))) (.nil) hn
theorem raiC_1 {nt : Nat} (hn : 59 ≤ nt) (l : List Nd) (nn : Bool) (C : List AV) (st own : List Nat) (i k a : Nat) (h0 : lit false (decide ((i : Int) < (st.length : Int))) = true)  : ExecOk prog ap [] nt (loopBody 2 (bodyOf f29)) ⟨[(0, .sl (ndL l) l.length nn), (7, .int .i64 (k : Int)), (8, .int .i64 (a : Int)), (5, .ref 0 0 0 k), (6, .ref 1 0 0 st.length), (9, .ref 2 0 0 own.length), (10, .int .i64 (i : Int))], [(0, ⟨C, 0, false, 0, 1, true⟩), (1, ⟨(i64L st), 0, false, 0, 1, true⟩), (2, ⟨(i64L own), 0, false, 0, 1, true⟩)], .dead, []⟩ (.exit 2) ⟨[(0, .sl (ndL l) l.length nn), (7, .int .i64 (k : Int)), (8, .int .i64 (a : Int)), (5, .ref 0 0 0 k), (6, .ref 1 0 0 st.length), (9, .ref 2 0 0 own.length)], [(0, ⟨C, 0, false, 0, 1, true⟩), (1, ⟨(i64L st), 0, false, 0, 1, true⟩), (2, ⟨(i64L own), 0, false, 0, 1, true⟩)], .dead, []⟩ := pJ 29 [] 1 0 (.c h0 .nil) (.nil) hn
theorem raN_0 {nt : Nat} (hn : 59 ≤ nt) (l : List Nd) (nn : Bool) (k a : Nat) (C : List AV) (st own : List Nat) (x : Nd) (r : List Nd) (hdr : (List.drop (((Int.toNat (k : Int)) * 5) + 0) (ndL l)) = ndC x ++ ndL r) (h0 : (Nat.ble (k + 1) 1099511627776) = true) (h1 : (Nat.ble (k * 1) (List.length C)) = true) (h2 : (Nat.ble (((Int.toNat (IntKind.wrap .i64 ((st.length : Int) - (a : Int)))) - 0) + 1) 1099511627776) = true) (h3 : (Nat.ble (((Int.toNat (IntKind.wrap .i64 ((st.length : Int) - (a : Int)))) - 0) * 1) (List.length (i64L st))) = true) (h4 : (decide (((0 : Nat) : Int) ≤ (IntKind.wrap .i64 ((st.length : Int) - (a : Int))))) = true) (h5 : (decide ((IntKind.wrap .i64 ((st.length : Int) - (a : Int))) ≤ (st.length : Int))) = true) (h6 : (decide (((0 : Nat) : Int) ≤ (k : Int))) = true) (h7 : (decide ((k : Int) < (l.length : Int))) = true) (h8 : lit true (decide ((k : Int) < (l.length : Int))) = true) (c0 : CO 48 [.int .i64 x.op] (.ret (.int .i64 (a : Int)))) (l0 : LoopOk prog ap [] 59 (.block 2 (.loop (loopBody 2 (bodyOf f29)))) ⟨[(0, .sl (ndL l) l.length nn), (2, .dead), (3, .dead), (4, .dead), (5, .ref 0 0 0 k), (6, .ref 1 0 0 st.length), (7, .int .i64 (k : Int)), (8, .int .i64 (a : Int)), (9, .nilS), (10, .int .i64 (IntKind.wrap .i64 ((st.length : Int) - (a : Int)))), (14, .dead), (18, .bool (decide ((k : Int) < (l.length : Int)))), (34, .dead)], [(0, ⟨C, 0, false, 0, 1, true⟩), (1, ⟨(i64L st), 0, false, 0, 1, true⟩)], .dead, []⟩ (.normal) ⟨[(0, .sl (ndL l) l.length nn), (5, .ref 0 0 0 k), (6, .ref 1 0 0 st.length), (7, .int .i64 (k : Int)), (8, .int .i64 (a : Int)), (9, .nilS)], [(0, ⟨C, 0, false, 0, 1, true⟩), (1, ⟨(i64L st), 0, false, 0, 1, true⟩)], .dead, []⟩) : ExecOk prog ap [] nt (loopBody 0 (bodyOf f29)) ⟨[(0, .sl (ndL l) l.length nn), (5, .ref 0 0 0 k), (6, .ref 1 0 0 st.length), (7, .int .i64 (k : Int))], [(0, ⟨C, 0, false, 0, 1, true⟩), (1, ⟨(i64L st), 0, false, 0, 1, true⟩)], .dead, []⟩ (.normal) ⟨[(0, .sl (ndL l) l.length nn), (5, .ref 0 0 0 (k + 1)), (6, .ref 1 0 0 (((Int.toNat (IntKind.wrap .i64 ((st.length : Int) - (a : Int)))) - 0) + 1)), (7, .int .i64 (IntKind.wrap .i64 ((k : Int) + ((1 : Nat) : Int))))], [(0, ⟨((List.take (k * 1) C) ++ [.nilS]), 0, false, 0, 1, true⟩), (1, ⟨((List.take (((Int.toNat (IntKind.wrap .i64 ((st.length : Int) - (a : Int)))) - 0) * 1) (i64L st)) ++ [.int .i64 (k : Int)]), 0, false, 0, 1, true⟩)], .dead, []⟩ := pJ 29 [2] 1 1 (.k 1 h0 (.c h1 (.k 2 h2 (.c h3 (.k 2 h4 (.c h5 (.k 1 h6 (.c h7 (.c h8 .nil))))))))) (.l l0 (.c c0 (.v 24 (.ppt hdr) .nil))) hn
theorem raN_raw_1 {nt : Nat} (hn : 59 ≤ nt) (l : List Nd) (nn : Bool) (k a : Nat) (C : List AV) (st own : List Nat) (h0 : lit false (decide ((k : Int) < (l.length : Int))) = true)  : ExecOk prog ap [] nt (loopBody 0 (bodyOf f29)) ⟨[(0, .sl (ndL l) l.length nn), (5, .ref 0 0 0 k), (6, .ref 1 0 0 st.length), (7, .int .i64 (k : Int))], [(0, ⟨C, 0, false, 0, 1, true⟩), (1, ⟨(i64L st), 0, false, 0, 1, true⟩)], .dead, []⟩ (.exit 0) ⟨[(5, .ref 0 0 0 k)], [(0, ⟨C, 0, false, 0, 1, true⟩), (1, ⟨(i64L st), 0, false, 0, 1, true⟩)], .dead, []⟩ := pJ 29 [2] 1 0 (.c h0 .nil) (.nil) hn
theorem raC_0 {nt : Nat} (hn : 59 ≤ nt) (l : List Nd) (nn : Bool) (k a : Nat) (C : List AV) (st own : List Nat) (x : Nd) (r : List Nd) (hdr : (List.drop (((Int.toNat (k : Int)) * 5) + 0) (ndL l)) = ndC x ++ ndL r) (h0 : (Nat.ble (k + 1) 1099511627776) = true) (h1 : (Nat.ble (k * 1) (List.length C)) = true) (h2 : (Nat.ble (((Int.toNat (IntKind.wrap .i64 ((st.length : Int) - (a : Int)))) - 0) + 1) 1099511627776) = true) (h3 : (Nat.ble (((Int.toNat (IntKind.wrap .i64 ((st.length : Int) - (a : Int)))) - 0) * 1) (List.length (i64L st))) = true) (h4 : (decide (((0 : Nat) : Int) ≤ (IntKind.wrap .i64 ((st.length : Int) - (a : Int))))) = true) (h5 : (decide ((IntKind.wrap .i64 ((st.length : Int) - (a : Int))) ≤ (st.length : Int))) = true) (h6 : (decide (((0 : Nat) : Int) ≤ (k : Int))) = true) (h7 : (decide ((k : Int) < (l.length : Int))) = true) (h8 : lit true (decide ((k : Int) < (l.length : Int))) = true) (c0 : CO 48 [.int .i64 x.op] (.ret (.int .i64 (a : Int)))) (l0 : LoopOk prog ap [] 59 (.block 2 (.loop (loopBody 2 (bodyOf f29)))) ⟨[(0, .sl (ndL l) l.length nn), (2, .dead), (3, .dead), (4, .dead), (5, .ref 0 0 0 k), (6, .ref 1 0 0 st.length), (7, .int .i64 (k : Int)), (8, .int .i64 (a : Int)), (9, .nilS), (10, .int .i64 (IntKind.wrap .i64 ((st.length : Int) - (a : Int)))), (14, .dead), (18, .bool (decide ((k : Int) < (l.length : Int)))), (34, .dead)], [(0, ⟨C, 0, false, 0, 1, true⟩), (1, ⟨(i64L st), 0, false, 0, 1, true⟩)], .dead, []⟩ (.normal) ⟨[(0, .sl (ndL l) l.length nn), (5, .ref 0 0 0 k), (6, .ref 1 0 0 st.length), (7, .int .i64 (k : Int)), (8, .int .i64 (a : Int)), (9, .sl (i64L own) own.length true)], [(0, ⟨C, 0, false, 0, 1, true⟩), (1, ⟨(i64L st), 0, false, 0, 1, true⟩)], .dead, []⟩) : ExecOk prog ap [] nt (loopBody 0 (bodyOf f29)) ⟨[(0, .sl (ndL l) l.length nn), (5, .ref 0 0 0 k), (6, .ref 1 0 0 st.length), (7, .int .i64 (k : Int))], [(0, ⟨C, 0, false, 0, 1, true⟩), (1, ⟨(i64L st), 0, false, 0, 1, true⟩)], .dead, []⟩ (.normal) ⟨[(0, .sl (ndL l) l.length nn), (5, .ref 0 0 0 (k + 1)), (6, .ref 1 0 0 (((Int.toNat (IntKind.wrap .i64 ((st.length : Int) - (a : Int)))) - 0) + 1)), (7, .int .i64 (IntKind.wrap .i64 ((k : Int) + ((1 : Nat) : Int))))], [(0, ⟨((List.take (k * 1) C) ++ [.sl (i64L own) own.length true]), 0, false, 0, 1, true⟩), (1, ⟨((List.take (((Int.toNat (IntKind.wrap .i64 ((st.length : Int) - (a : Int)))) - 0) * 1) (i64L st)) ++ [.int .i64 (k : Int)]), 0, false, 0, 1, true⟩)], .dead, []⟩ := pJ 29 [2] 1 1 (.k 1 h0 (.c h1 (.k 2 h2 (.c h3 (.k 2 h4 (.c h5 (.k 1 h6 (.c h7 (.c h8 .nil))))))))) (.l l0 (.c c0 (.v 24 (.ppt hdr) .nil))) hn
theorem raFF_1 (l : List Nd) (nn : Bool) (w : Int) (C : List AV) (n : Nat) (h0 : lit false (!(w == ((0 : Nat) : Int))) = true) (c0 : CO 47 [.sl (ndL l) l.length nn] (.ret (.int .i64 w))) (l0 : LoopOk prog ap [] 59 (.block 0 (.loop (loopBody 0 (bodyOf f29)))) ⟨[(0, .sl (ndL l) l.length nn), (2, .nilS), (3, .bool false), (4, .int .i64 w), (5, .nilS), (6, .nilS), (7, .int .i64 0), (8, .dead), (9, .dead), (10, .dead), (14, .bool (!(w == ((0 : Nat) : Int)))), (18, .dead), (34, .dead)], [], .dead, []⟩ (.normal) ⟨[(5, .ref 0 0 0 n)], [(0, ⟨C, 0, false, 0, 1, true⟩)], .dead, []⟩) : CO 29 [.sl (ndL l) l.length nn] (.ret (.tup [.own (List.take (n * 1) C) n 1, .bool true])) := pK [0] 1 0 (.c h0 .nil) (.l l0 (.c c0 .nil))
def argB (a : List Nat) : AV := match a with | [] => .nilS | x :: l => .sl (i64L (x :: l)) (x :: l).length true
def argsB (ll : List (List Nat)) : List AV := ll.map argB
theorem argB_ne {a : List Nat} (h : a ≠ []) : argB a = .sl (i64L a) a.length true := by cases a with | nil => exact absurd rfl h | cons _ _ => rfl
theorem argsB_len (ll : List (List Nat)) : (argsB ll).length = ll.length := by simp [argsB]
theorem argsB_snoc (ll : List (List Nat)) (a : List Nat) : argsB ll ++ [argB a] = argsB (ll ++ [a]) := by simp [argsB]
theorem nd_drop0 {p r : List Nd} {x : Nd} {k : Nat} (h : k = p.length) : List.drop (Int.toNat (k : Int) * 5 + 0) (ndL (p ++ x :: r)) = ndC x ++ ndL r := by rw [Nat.add_zero]; exact nd_drop h
def riE (own : List Nat) : AV := match own with | [] => .nilS | x :: l => .ref 2 0 0 (x :: l).length
def riH (own : List Nat) : Hp := match own with | [] => [] | x :: l => [(2, ⟨i64L (x :: l), 0, false, 0, 1, true⟩)]
theorem riE_ne {l : List Nat} (h : l ≠ []) : riE l = .ref 2 0 0 l.length := by cases l with | nil => exact absurd rfl h | cons _ _ => rfl
theorem riH_ne {l : List Nat} (h : l ≠ []) : riH l = [(2, ⟨i64L l, 0, false, 0, 1, true⟩)] := by cases l with | nil => exact absurd rfl h | cons _ _ => rfl
def riB (C : List AV) (st : List Nat) : Hp := [(0, ⟨C, 0, false, 0, 1, true⟩), (1, ⟨i64L st, 0, false, 0, 1, true⟩)]
def riSt (l : List Nd) (nn : Bool) (C : List AV) (st : List Nat) (k a : Nat) (p : Nat × List Nat) : St := ⟨[(0, .sl (ndL l) l.length nn), (7, .int .i64 (k : Int)), (8, .int .i64 (a : Int)), (5, .ref 0 0 0 k), (6, .ref 1 0 0 st.length), (9, riE p.2), (10, .int .i64 (p.1 : Int))], riB C st ++ riH p.2, .dead, []⟩
def riOut (l : List Nd) (nn : Bool) (C : List AV) (st : List Nat) (k a : Nat) (own : List Nat) : St := ⟨[(0, .sl (ndL l) l.length nn), (7, .int .i64 (k : Int)), (8, .int .i64 (a : Int)), (5, .ref 0 0 0 k), (6, .ref 1 0 0 st.length), (9, riE own)], riB C st ++ riH own, .dead, []⟩
theorem ri_loop {nt : Nat} (hn : 59 ≤ nt) (l : List Nd) (nn : Bool) (C : List AV) (st : List Nat) (k a : Nat) (hl : st.length < 2 ^ 39) : ∀ (d i : Nat) (own : List Nat), i + d = st.length → own.length ≤ i → LoopR prog ap [] nt (loopBody 2 (bodyOf f29)) (fun _ => .exit 2) (riSt l nn C st k a) (riOut l nn C st k a) (i, own) (own ++ st.drop i) := by
 intro d
 induction d with
 | zero =>
  intro i own hi ho
  rw [List.drop_of_length_le (by omega), List.append_nil]
  have hi' : i = st.length := by omega
  subst hi'
  refine .done ?_
  unfold riSt riOut riB
  rcases Decidable.em (own = []) with rfl | hne
  ·exact raiN_1 hn l nn C st [] st.length k a (by rw [d_lt]; simp [lit])
  ·simp only
   rw [riE_ne hne, riH_ne hne]
   exact raiC_1 hn l nn C st own st.length k a (by rw [d_lt]; simp [lit])
 | succ d ih =>
  intro i own hi ho
  have hil : i < st.length := by omega
  have hnext := ih (i + 1) (own ++ [st.getD i 0]) (by omega) (by simp; omega)
  have e : st.drop i = st.getD i 0 :: st.drop (i + 1) := by
   rw [List.drop_eq_getElem_cons hil, List.getD_eq_getElem?_getD, List.getElem?_eq_getElem hil]; rfl
  rw [List.append_assoc, List.singleton_append, ← e] at hnext
  refine .next ?_ hnext
  unfold riSt riB
  simp only
  rw [riE_ne (snoc_ne _ _), riH_ne (snoc_ne _ _)]
  rcases Decidable.em (own = []) with rfl | hne
  ·have hb := raiN_0 hn l nn C st [] i k a
   simp (disch := first | omega | (simp [u32L_length, u8L_length] <;> omega)) only [c_toNat, Nat.zero_add, Nat.mul_one, i64_get, chk_i64, d_le, dec_t, d_lt, lit_t, c_add, w64_nat, toInt_int] at hb
   simp only [riE, riH, i64L, List.map_cons, List.map_nil, List.length_cons, List.length_nil, List.nil_append, Nat.zero_add] at hb ⊢
   apply hb <;> first | exact True.intro | omega | assumption | exact rfl
  ·have hb := raiC_0 hn l nn C st own i k a
   simp (disch := first | omega | (simp [u32L_length, u8L_length] <;> omega)) only [nble_d, dec_t, Nat.mul_one, i64L_length, c_toNat, Nat.zero_add, i64_get, chk_i64, d_le, d_lt, lit_t, c_add, w64_nat, take_i64, List.take_length, toInt_int, i64_snoc] at hb
   rw [riE_ne hne, riH_ne hne]
   simp only [List.length_append, List.length_singleton]
   apply hb <;> first | exact True.intro | omega | assumption | exact rfl
def raSt (l : List Nd) (nn : Bool) (p : Nat × List Nat × List AV) : St := ⟨[(0, .sl (ndL l) l.length nn), (5, match p.1 with | 0 => .nilS | _ => .ref 0 0 0 p.1), (6, match p.1 with | 0 => .nilS | _ => .ref 1 0 0 p.2.1.length), (7, .int .i64 (p.1 : Int))], match p.1 with | 0 => [] | _ => riB p.2.2 p.2.1, .dead, []⟩
def raOut (p : Nat × List Nat × List AV) : St := ⟨[(5, match p.1 with | 0 => .nilS | _ => .ref 0 0 0 p.1)], match p.1 with | 0 => [] | _ => riB p.2.2 p.2.1, .dead, []⟩
theorem ra_step {nt : Nat} (hn : 59 ≤ nt) (l p r : List Nd) (nn : Bool) (x : Nd) (st : List Nat) (C : List AV) (hl : l = p ++ x :: r) (hll : l.length < 2 ^ 38) (har : arI x.op ≤ st.length) (hst : st.length ≤ p.length) (hst0 : p = [] → st = [] ∧ C = []) (hC : C.length = p.length) :
  ExecOk prog ap [] nt (loopBody 0 (bodyOf f29)) (raSt l nn (p.length, st, C)) .normal (raSt l nn (p.length + 1, st.take (st.length - arI x.op) ++ [p.length], C ++ [argB (st.drop (st.length - arI x.op))])) := by
 have hlen : p.length + (r.length + 1) = l.length := by rw [hl]; simp
 have k3 := ariF_ok x.op
 have har3 := arI_le x.op
 rcases Decidable.em (p = []) with hp | hp
 ·obtain ⟨rfl, rfl⟩ := hst0 hp
  subst hp
  have h0 : arI x.op = 0 := by simpa using har
  rw [h0] at k3
  rw [h0]
  have hl' : l = x :: r := by rw [hl]; rfl
  subst hl'
  exact raF_0 hn (x :: r) nn rfl (by rw [d_lt]; exact decide_eq_true (Nat.succ_pos r.length)) (by rw [d_lt]; exact decide_eq_true (Nat.succ_pos r.length)) k3
 ·obtain ⟨k, hk⟩ : ∃ k, p.length = k + 1 := ⟨p.length - 1, by cases p with | nil => exact absurd rfl hp | cons _ _ => simp⟩
  have hdr : List.drop (Int.toNat (p.length : Int) * 5 + 0) (ndL l) = ndC x ++ ndL r := by rw [hl]; exact nd_drop0 rfl
  have hloop := fun nt (hn : 59 ≤ nt) => ri_loop hn l nn C st p.length (arI x.op) (by omega) (arI x.op) (st.length - arI x.op) [] (by omega) (by simp)
  rw [List.nil_append] at hloop
  have hst1 : raSt l nn (p.length, st, C) = ⟨[(0, .sl (ndL l) l.length nn), (5, .ref 0 0 0 p.length), (6, .ref 1 0 0 st.length), (7, .int .i64 (p.length : Int))], riB C st, .dead, []⟩ := by rw [hk]; rfl
  rw [hst1]
  generalize hm : st.length - arI x.op = m at *
  have e2 : IntKind.wrap .i64 ((st.length : Int) - ((arI x.op : Nat) : Int)) = (m : Int) := by rw [w64_id] <;> omega
  have hml : (st.take m).length = m := by rw [List.length_take]; omega
  have hC1 : C.length < 2 ^ 38 := by omega
  have htC : List.take p.length C = C := List.take_of_length_le (by omega)
  rcases Decidable.em (st.drop m = []) with ho | ho
  ·have hb := raN_0 hn l nn p.length (arI x.op) C st [] x r hdr
   rw [ho] at hloop ⊢
   simp (disch := first | omega | (simp [u32L_length, u8L_length] <;> omega)) only [nble_d, dec_t, Nat.mul_one, hC, e2, c_toNat, Nat.sub_zero, i64L_length, d_le, d_lt, lit_t, c_add, w64_nat, htC, take_i64, i64_snoc] at hb
   show ExecOk prog ap [] nt _ _ .normal ⟨[(0, .sl (ndL l) l.length nn), (5, .ref 0 0 0 (p.length + 1)), (6, .ref 1 0 0 (st.take m ++ [p.length]).length), (7, .int .i64 ((p.length + 1 : Nat) : Int))], riB (C ++ [argB []]) (st.take m ++ [p.length]), .dead, []⟩
   simp only [List.length_append, List.length_singleton, hml]
   unfold riB
   apply hb <;> first | exact True.intro | omega | assumption | exact rfl | skip
   ·refine LoopR.blk hloop (by simp) rfl ?_ ?_
    ·unfold riSt riB; exact Less.of ⟨rfl, rfl, rfl, rfl, rfl, rfl, rfl, trivial⟩
    ·unfold riOut riB; exact Less.of ⟨rfl, rfl, rfl, rfl, rfl, rfl, trivial⟩
  ·have hb := raC_0 hn l nn p.length (arI x.op) C st (st.drop m) x r hdr
   simp (disch := first | omega | (simp [u32L_length, u8L_length] <;> omega)) only [nble_d, dec_t, Nat.mul_one, hC, e2, c_toNat, Nat.sub_zero, i64L_length, d_le, d_lt, lit_t, c_add, w64_nat, htC, take_i64, i64_snoc] at hb
   show ExecOk prog ap [] nt _ _ .normal ⟨[(0, .sl (ndL l) l.length nn), (5, .ref 0 0 0 (p.length + 1)), (6, .ref 1 0 0 (st.take m ++ [p.length]).length), (7, .int .i64 ((p.length + 1 : Nat) : Int))], riB (C ++ [argB (st.drop m)]) (st.take m ++ [p.length]), .dead, []⟩
   rw [argB_ne ho]
   simp only [List.length_append, List.length_singleton, hml]
   unfold riB
   apply hb <;> first | exact True.intro | omega | assumption | exact rfl | skip
   ·intro nt hnt
    have hb2 := (LoopR.blk (s := riSt l nn C st p.length (arI x.op) (m, [])) (s' := riOut l nn C st p.length (arI x.op) (st.drop m)) (id := 2) hloop (by simp) rfl (Less.refl _) (Less.refl _) nt hnt)
    unfold riSt riOut riB at hb2
    simp only [riE, riH, List.append_nil] at hb2
    have e1 := riH_ne ho
    have e3 := riE_ne ho
    unfold riE at e3
    unfold riH at e1
    rw [e1, e3] at hb2
    have hb3 := hb2.forget (b := 2) (B := ⟨i64L (st.drop m), 0, false, 0, 1, true⟩) (hp' := [(0, ⟨C, 0, false, 0, 1, true⟩), (1, ⟨i64L st, 0, false, 0, 1, true⟩)]) (en' := [(0, .sl (ndL l) l.length nn), (5, .ref 0 0 0 p.length), (6, .ref 1 0 0 st.length), (7, .int .i64 (p.length : Int)), (8, .int .i64 ((arI x.op : Nat) : Int)), (9, .sl (List.take ((st.drop m).length * 1) (List.drop (0 * 1) (i64L (st.drop m)))) (st.drop m).length true)]) (by intro v h; cases h) (by decide) rfl ⟨Fz.same rfl, Fz.same rfl, Fz.same rfl, Fz.same rfl, Fz.same rfl, Fz.ref, trivial⟩ ⟨rfl, FzB.same rfl, by decide, rfl, FzB.same rfl, by decide, rfl⟩
    rw [Nat.mul_one, Nat.zero_mul, List.drop_zero, take_i64, List.take_length] at hb3
    exact hb3.weak (Less.of ⟨rfl, rfl, rfl, rfl, rfl, rfl, rfl, trivial⟩) (Less.refl _)
theorem ra_end {nt : Nat} (hn : 59 ≤ nt) (l : List Nd) (nn : Bool) (st : List Nat) (C : List AV) (h0 : 0 < l.length) : ExecOk prog ap [] nt (loopBody 0 (bodyOf f29)) (raSt l nn (l.length, st, C)) (.exit 0) (raOut (l.length, st, C)) := by
 obtain ⟨k, hk⟩ : ∃ k, l.length = k + 1 := ⟨l.length - 1, by omega⟩
 have e1 : raSt l nn (l.length, st, C) = ⟨[(0, .sl (ndL l) l.length nn), (5, .ref 0 0 0 l.length), (6, .ref 1 0 0 st.length), (7, .int .i64 (l.length : Int))], riB C st, .dead, []⟩ := by
  unfold raSt; simp only [hk]
 have e2 : raOut (l.length, st, C) = ⟨[(5, .ref 0 0 0 l.length)], riB C st, .dead, []⟩ := by
  unfold raOut; simp only [hk]
 rw [e1, e2]
 exact raN_raw_1 hn l nn l.length 0 C st [] (by rw [d_lt]; simp [lit])
theorem ra_loop {nt : Nat} (hn : 59 ≤ nt) (l : List Nd) (nn : Bool) (hll : l.length < 2 ^ 38) (h0 : 0 < l.length) (e : Nat) : ∀ (r p : List Nd) (st : List Nat) (done : List (List Nat)), p ++ r = l → chkR r st.length = .inl e → st.length ≤ p.length → done.length = p.length → (p = [] → st = []) → LoopR prog ap [] nt (loopBody 0 (bodyOf f29)) (fun _ => .exit 0) (raSt l nn) raOut (p.length, st, argsB done) (l.length, stR r p.length st, argsB (done ++ argR r p.length st)) := by
 intro r
 induction r with
 | nil =>
  intro p st done h hc hst hd hp0
  have hp : p.length = l.length := by rw [← h]; simp
  rw [hp]
  simp only [argR, stR, List.append_nil]
  exact .done (ra_end hn l nn st _ h0)
 | cons x r ih =>
  intro p st done h hc hst hd hp0
  obtain ⟨hop, har, hc2⟩ := chkR_le hc
  have hst2 : (st.take (st.length - arI x.op) ++ [p.length]).length = st.length - arI x.op + 1 := by
   rw [List.length_append, List.length_take, List.length_singleton, Nat.min_eq_left (by omega)]
  have hnext := ih (p ++ [x]) (st.take (st.length - arI x.op) ++ [p.length]) (done ++ [st.drop (st.length - arI x.op)]) (by simp [h]) (by rw [hst2]; exact hc2) (by rw [hst2]; simp; omega) (by simp [hd]) (fun h => by simp at h)
  rw [List.length_append, List.length_singleton, List.append_assoc, ← argsB_snoc] at hnext
  simp only [argR, stR]
  refine .next (ra_step hn l p r nn x st (argsB done) h.symm hll har hst (fun hp => ⟨hp0 hp, ?_⟩) (by rw [argsB_len]; exact hd)) hnext
  have : done = [] := List.eq_nil_of_length_eq_zero (by rw [hd, hp]; rfl)
  rw [this]; rfl
theorem rargs_ok (l : List Nd) (nn : Bool) (hsm : ∀ x ∈ l, x.sm) (hc : checkQ l = 0) : CO 29 [.sl (ndL l) l.length nn] (.ret (.tup [.sl (argsB (argsQ l)) l.length true, .bool true])) := by
 have hlen : (argsB (argsQ l)).length = l.length := by rw [argsB_len]; unfold argsQ; rw [argR_len]
 have htk : List.take l.length (argsB (argsQ l)) = argsB (argsQ l) := List.take_of_length_le (by omega)
 suffices hown : CO 29 [.sl (ndL l) l.length nn] (.ret (.tup [.own (argsB (argsQ l)) l.length 1, .bool true])) by
  have h := hown.thaw (by simp)
  simp only [thawO, List.map_cons, List.map_nil, thaw, Nat.mul_one, htk] at h
  exact h
 have hck := rcheck_ok l nn hsm
 obtain ⟨h60, hin⟩ := checkQ_inl hc
 rw [hc] at hck
 have h0 : 0 < l.length := by
  cases l with
  | nil => simp [chkR] at hin
  | cons _ _ => simp
 have hloop := fun nt (hn : 59 ≤ nt) => ra_loop hn l nn (by omega) h0 1 l [] [] [] rfl hin (by simp) rfl (fun _ => rfl)
 have h := raFF_1 l nn 0 (argsB (argsQ l)) l.length
 have hr : l.length < 1099511627776 := by omega
 simp (disch := first | omega | (simp [u32L_length, u8L_length] <;> omega)) only [lit_f, not_t, not_f, Nat.mul_one, htk] at h
 apply h <;> first | exact True.intro | omega | assumption | exact rfl | skip
 intro nt hnt
 have hb := LoopR.blk (s := raSt l nn (0, [], argsB [])) (s' := raOut (l.length, stR l 0 [], argsB (argsQ l))) (id := 0) hloop (by simp) rfl (Less.refl _) (Less.refl _) nt hnt
 obtain ⟨k, hk⟩ : ∃ k, l.length = k + 1 := ⟨l.length - 1, by omega⟩
 have e2 : raOut (l.length, stR l 0 [], argsB (argsQ l)) = ⟨[(5, .ref 0 0 0 l.length)], riB (argsB (argsQ l)) (stR l 0 []), .dead, []⟩ := by
  unfold raOut; simp only [hk]
 rw [e2] at hb
 unfold riB at hb
 have hb2 := hb.forget 1 _ (en' := [(5, .ref 0 0 0 l.length)]) (hp' := [(0, ⟨argsB (argsQ l), 0, false, 0, 1, true⟩)]) (by intro v h; cases h) (by decide) rfl ⟨Fz.same rfl, trivial⟩ ⟨rfl, FzB.same rfl, by decide, rfl⟩
 exact hb2.weak (Less.of ⟨rfl, rfl, rfl, rfl, trivial⟩) (Less.refl _)
theorem tiN_0 {nt : Nat} (hn : 71 ≤ nt) (l : List Sg) (ns : List Nd) (nl nn : Bool) (ll : List (List Nat)) (ts own : List Ty) (i k : Nat) (h0 : (chk .bool (List.headD (List.drop ((0 + (Int.toNat (AV.toInt (List.headD (List.drop ((Int.toNat (i : Int)) * 1) (AV.slX (List.headD (List.drop ((Int.toNat (k : Int)) * 1) (argsB ll)) .dead))) .dead)))) * 3) (tyL ts)) .dead)) = true) (h1 : (chk (.int .i64) (List.headD (List.tail (List.drop ((0 + (Int.toNat (AV.toInt (List.headD (List.drop ((Int.toNat (i : Int)) * 1) (AV.slX (List.headD (List.drop ((Int.toNat (k : Int)) * 1) (argsB ll)) .dead))) .dead)))) * 3) (tyL ts))) .dead)) = true) (h2 : (chk (.int .i64) (List.headD (List.tail (List.tail (List.drop ((0 + (Int.toNat (AV.toInt (List.headD (List.drop ((Int.toNat (i : Int)) * 1) (AV.slX (List.headD (List.drop ((Int.toNat (k : Int)) * 1) (argsB ll)) .dead))) .dead)))) * 3) (tyL ts)))) .dead)) = true) (h3 : (decide (((0 : Nat) : Int) ≤ (AV.toInt (List.headD (List.drop ((Int.toNat (i : Int)) * 1) (AV.slX (List.headD (List.drop ((Int.toNat (k : Int)) * 1) (argsB ll)) .dead))) .dead)))) = true) (h4 : (decide ((AV.toInt (List.headD (List.drop ((Int.toNat (i : Int)) * 1) (AV.slX (List.headD (List.drop ((Int.toNat (k : Int)) * 1) (argsB ll)) .dead))) .dead)) < (ts.length : Int))) = true) (h5 : (chk (.int .i64) (List.headD (List.drop ((Int.toNat (i : Int)) * 1) (AV.slX (List.headD (List.drop ((Int.toNat (k : Int)) * 1) (argsB ll)) .dead))) .dead)) = true) (h6 : (decide (((0 : Nat) : Int) ≤ (i : Int))) = true) (h7 : (decide ((i : Int) < (((AV.slN (List.headD (List.drop ((Int.toNat (k : Int)) * 1) (argsB ll)) .dead)) : Nat) : Int))) = true) (h8 : (chk .sl (List.headD (List.drop ((Int.toNat (k : Int)) * 1) (argsB ll)) .dead)) = true) (h9 : (decide (((0 : Nat) : Int) ≤ (k : Int))) = true) (h10 : (decide ((k : Int) < (ns.length : Int))) = true) (h11 : lit true (decide ((i : Int) < (((AV.slN (List.headD (List.drop ((Int.toNat (k : Int)) * 1) (argsB ll)) .dead)) : Nat) : Int))) = true)  : ExecOk prog ap [] nt (loopBody 2 (bodyOf f34)) ⟨[(0, .sl (sgL l) l.length nl), (1, .sl (ndL ns) ns.length nn), (4, .nilS), (5, .int .i64 0), (7, .sl (argsB ll) ns.length true), (10, .int .i64 (k : Int)), (9, .ref 0 0 0 ts.length), (11, .nilS), (12, .int .i64 (i : Int))], [(0, ⟨(tyL ts), 0, false, 0, 3, true⟩)], .dead, []⟩ (.normal) ⟨[(0, .sl (sgL l) l.length nl), (1, .sl (ndL ns) ns.length nn), (4, .nilS), (5, .int .i64 0), (7, .sl (argsB ll) ns.length true), (10, .int .i64 (k : Int)), (9, .ref 0 0 0 ts.length), (11, .ref 1 0 0 1), (12, .int .i64 (IntKind.wrap .i64 ((i : Int) + ((1 : Nat) : Int))))], [(0, ⟨(tyL ts), 0, false, 0, 3, true⟩), (1, ⟨[.bool (AV.toBool (List.headD (List.drop ((0 + (Int.toNat (AV.toInt (List.headD (List.drop ((Int.toNat (i : Int)) * 1) (AV.slX (List.headD (List.drop ((Int.toNat (k : Int)) * 1) (argsB ll)) .dead))) .dead)))) * 3) (tyL ts)) .dead)), .int .i64 (AV.toInt (List.headD (List.tail (List.drop ((0 + (Int.toNat (AV.toInt (List.headD (List.drop ((Int.toNat (i : Int)) * 1) (AV.slX (List.headD (List.drop ((Int.toNat (k : Int)) * 1) (argsB ll)) .dead))) .dead)))) * 3) (tyL ts))) .dead)), .int .i64 (AV.toInt (List.headD (List.tail (List.tail (List.drop ((0 + (Int.toNat (AV.toInt (List.headD (List.drop ((Int.toNat (i : Int)) * 1) (AV.slX (List.headD (List.drop ((Int.toNat (k : Int)) * 1) (argsB ll)) .dead))) .dead)))) * 3) (tyL ts)))) .dead))], 0, false, 0, 3, true⟩)], .dead, []⟩ := pJ 34 [] 2 1 (.k 3 h0 (.c h1 (.c h2 (.c h3 (.c h4 (.c h5 (.c h6 (.c h7 (.c h8 (.c h9 (.c h10 (.c h11 (.c h8 (.c h9 (.c h10 .nil))))))))))))))) (.nil) hn
theorem tiN_1 {nt : Nat} (hn : 71 ≤ nt) (l : List Sg) (ns : List Nd) (nl nn : Bool) (ll : List (List Nat)) (ts own : List Ty) (i k : Nat) (h0 : lit false (decide ((i : Int) < (((AV.slN (List.headD (List.drop ((Int.toNat (k : Int)) * 1) (argsB ll)) .dead)) : Nat) : Int))) = true) (h1 : (chk .sl (List.headD (List.drop ((Int.toNat (k : Int)) * 1) (argsB ll)) .dead)) = true) (h2 : (decide (((0 : Nat) : Int) ≤ (k : Int))) = true) (h3 : (decide ((k : Int) < (ns.length : Int))) = true)  : ExecOk prog ap [] nt (loopBody 2 (bodyOf f34)) ⟨[(0, .sl (sgL l) l.length nl), (1, .sl (ndL ns) ns.length nn), (4, .nilS), (5, .int .i64 0), (7, .sl (argsB ll) ns.length true), (10, .int .i64 (k : Int)), (9, .ref 0 0 0 ts.length), (11, .nilS), (12, .int .i64 (i : Int))], [(0, ⟨(tyL ts), 0, false, 0, 3, true⟩)], .dead, []⟩ (.exit 2) ⟨[(0, .sl (sgL l) l.length nl), (1, .sl (ndL ns) ns.length nn), (4, .nilS), (5, .int .i64 0), (7, .sl (argsB ll) ns.length true), (10, .int .i64 (k : Int)), (9, .ref 0 0 0 ts.length), (11, .nilS)], [(0, ⟨(tyL ts), 0, false, 0, 3, true⟩)], .dead, []⟩ := pJ 34 [] 1 0 (.c h0 (.c h1 (.c h2 (.c h3 .nil)))) (.nil) hn
theorem tiC_0 {nt : Nat} (hn : 71 ≤ nt) (l : List Sg) (ns : List Nd) (nl nn : Bool) (ll : List (List Nat)) (ts own : List Ty) (i k : Nat) (h0 : (Nat.ble (own.length + 1) 1099511627776) = true) (h1 : (Nat.ble (own.length * 3) (List.length (tyL own))) = true) (h2 : (chk .bool (List.headD (List.drop ((0 + (Int.toNat (AV.toInt (List.headD (List.drop ((Int.toNat (i : Int)) * 1) (AV.slX (List.headD (List.drop ((Int.toNat (k : Int)) * 1) (argsB ll)) .dead))) .dead)))) * 3) (tyL ts)) .dead)) = true) (h3 : (chk (.int .i64) (List.headD (List.tail (List.drop ((0 + (Int.toNat (AV.toInt (List.headD (List.drop ((Int.toNat (i : Int)) * 1) (AV.slX (List.headD (List.drop ((Int.toNat (k : Int)) * 1) (argsB ll)) .dead))) .dead)))) * 3) (tyL ts))) .dead)) = true) (h4 : (chk (.int .i64) (List.headD (List.tail (List.tail (List.drop ((0 + (Int.toNat (AV.toInt (List.headD (List.drop ((Int.toNat (i : Int)) * 1) (AV.slX (List.headD (List.drop ((Int.toNat (k : Int)) * 1) (argsB ll)) .dead))) .dead)))) * 3) (tyL ts)))) .dead)) = true) (h5 : (decide (((0 : Nat) : Int) ≤ (AV.toInt (List.headD (List.drop ((Int.toNat (i : Int)) * 1) (AV.slX (List.headD (List.drop ((Int.toNat (k : Int)) * 1) (argsB ll)) .dead))) .dead)))) = true) (h6 : (decide ((AV.toInt (List.headD (List.drop ((Int.toNat (i : Int)) * 1) (AV.slX (List.headD (List.drop ((Int.toNat (k : Int)) * 1) (argsB ll)) .dead))) .dead)) < (ts.length : Int))) = true) (h7 : (chk (.int .i64) (List.headD (List.drop ((Int.toNat (i : Int)) * 1) (AV.slX (List.headD (List.drop ((Int.toNat (k : Int)) * 1) (argsB ll)) .dead))) .dead)) = true) (h8 : (decide (((0 : Nat) : Int) ≤ (i : Int))) = true) (h9 : (decide ((i : Int) < (((AV.slN (List.headD (List.drop ((Int.toNat (k : Int)) * 1) (argsB ll)) .dead)) : Nat) : Int))) = true) (h10 : (chk .sl (List.headD (List.drop ((Int.toNat (k : Int)) * 1) (argsB ll)) .dead)) = true) (h11 : (decide (((0 : Nat) : Int) ≤ (k : Int))) = true) (h12 : (decide ((k : Int) < (ns.length : Int))) = true) (h13 : lit true (decide ((i : Int) < (((AV.slN (List.headD (List.drop ((Int.toNat (k : Int)) * 1) (argsB ll)) .dead)) : Nat) : Int))) = true)  : ExecOk prog ap [] nt (loopBody 2 (bodyOf f34)) ⟨[(0, .sl (sgL l) l.length nl), (1, .sl (ndL ns) ns.length nn), (4, .nilS), (5, .int .i64 0), (7, .sl (argsB ll) ns.length true), (10, .int .i64 (k : Int)), (9, .ref 0 0 0 ts.length), (11, .ref 1 0 0 own.length), (12, .int .i64 (i : Int))], [(0, ⟨(tyL ts), 0, false, 0, 3, true⟩), (1, ⟨(tyL own), 0, false, 0, 3, true⟩)], .dead, []⟩ (.normal) ⟨[(0, .sl (sgL l) l.length nl), (1, .sl (ndL ns) ns.length nn), (4, .nilS), (5, .int .i64 0), (7, .sl (argsB ll) ns.length true), (10, .int .i64 (k : Int)), (9, .ref 0 0 0 ts.length), (11, .ref 1 0 0 (own.length + 1)), (12, .int .i64 (IntKind.wrap .i64 ((i : Int) + ((1 : Nat) : Int))))], [(0, ⟨(tyL ts), 0, false, 0, 3, true⟩), (1, ⟨((List.take (own.length * 3) (tyL own)) ++ [.bool (AV.toBool (List.headD (List.drop ((0 + (Int.toNat (AV.toInt (List.headD (List.drop ((Int.toNat (i : Int)) * 1) (AV.slX (List.headD (List.drop ((Int.toNat (k : Int)) * 1) (argsB ll)) .dead))) .dead)))) * 3) (tyL ts)) .dead)), .int .i64 (AV.toInt (List.headD (List.tail (List.drop ((0 + (Int.toNat (AV.toInt (List.headD (List.drop ((Int.toNat (i : Int)) * 1) (AV.slX (List.headD (List.drop ((Int.toNat (k : Int)) * 1) (argsB ll)) .dead))) .dead)))) * 3) (tyL ts))) .dead)), .int .i64 (AV.toInt (List.headD (List.tail (List.tail (List.drop ((0 + (Int.toNat (AV.toInt (List.headD (List.drop ((Int.toNat (i : Int)) * 1) (AV.slX (List.headD (List.drop ((Int.toNat (k : Int)) * 1) (argsB ll)) .dead))) .dead)))) * 3) (tyL ts)))) .dead))]), 0, false, 0, 3, true⟩)], .dead, []⟩ := pJ 34 [] 1 1 (.k 1 h0 (.c h1 (.k 1 h2 (.c h3 (.c h4 (.c h5 (.c h6 (.c h7 (.c h8 (.c h9 (.c h10 (.c h11 (.c h12 (.c h13 (.c h10 (.c h11 (.c h12 .nil))))))))))))))))) (.nil) hn
theorem tiC_1 {nt : Nat} (hn : 71 ≤ nt) (l : List Sg) (ns : List Nd) (nl nn : Bool) (ll : List (List Nat)) (ts own : List Ty) (i k : Nat) (h0 : lit false (decide ((i : Int) < (((AV.slN (List.headD (List.drop ((Int.toNat (k : Int)) * 1) (argsB ll)) .dead)) : Nat) : Int))) = true) (h1 : (chk .sl (List.headD (List.drop ((Int.toNat (k : Int)) * 1) (argsB ll)) .dead)) = true) (h2 : (decide (((0 : Nat) : Int) ≤ (k : Int))) = true) (h3 : (decide ((k : Int) < (ns.length : Int))) = true)  : ExecOk prog ap [] nt (loopBody 2 (bodyOf f34)) ⟨[(0, .sl (sgL l) l.length nl), (1, .sl (ndL ns) ns.length nn), (4, .nilS), (5, .int .i64 0), (7, .sl (argsB ll) ns.length true), (10, .int .i64 (k : Int)), (9, .ref 0 0 0 ts.length), (11, .ref 1 0 0 own.length), (12, .int .i64 (i : Int))], [(0, ⟨(tyL ts), 0, false, 0, 3, true⟩), (1, ⟨(tyL own), 0, false, 0, 3, true⟩)], .dead, []⟩ (.exit 2) ⟨[(0, .sl (sgL l) l.length nl), (1, .sl (ndL ns) ns.length nn), (4, .nilS), (5, .int .i64 0), (7, .sl (argsB ll) ns.length true), (10, .int .i64 (k : Int)), (9, .ref 0 0 0 ts.length), (11, .ref 1 0 0 own.length)], [(0, ⟨(tyL ts), 0, false, 0, 3, true⟩), (1, ⟨(tyL own), 0, false, 0, 3, true⟩)], .dead, []⟩ := pJ 34 [] 1 0 (.c h0 (.c h1 (.c h2 (.c h3 .nil)))) (.nil) hn
theorem tiZ_0 {nt : Nat} (hn : 71 ≤ nt) (l : List Sg) (ns : List Nd) (nl nn : Bool) (ll : List (List Nat)) (ts own : List Ty) (i k : Nat) (h0 : lit false (decide ((i : Int) < (((AV.slN (List.headD (List.drop ((Int.toNat (k : Int)) * 1) (argsB ll)) .dead)) : Nat) : Int))) = true) (h1 : (chk .sl (List.headD (List.drop ((Int.toNat (k : Int)) * 1) (argsB ll)) .dead)) = true) (h2 : (decide (((0 : Nat) : Int) ≤ (k : Int))) = true) (h3 : (decide ((k : Int) < (ns.length : Int))) = true)  : ExecOk prog ap [] nt (loopBody 2 (bodyOf f34)) ⟨[(0, .sl (sgL l) l.length nl), (1, .sl (ndL ns) ns.length nn), (4, .nilS), (5, .int .i64 0), (7, .sl (argsB ll) ns.length true), (10, .int .i64 (k : Int)), (9, .nilS), (11, .nilS), (12, .int .i64 (i : Int))], [], .dead, []⟩ (.exit 2) ⟨[(0, .sl (sgL l) l.length nl), (1, .sl (ndL ns) ns.length nn), (4, .nilS), (5, .int .i64 0), (7, .sl (argsB ll) ns.length true), (10, .int .i64 (k : Int)), (9, .nilS), (11, .nilS)], [], .dead, []⟩ := pJ 34 [] 1 0 (.c h0 (.c h1 (.c h2 (.c h3 .nil)))) (.nil) hn
theorem argB_slX (a : List Nat) : (argB a).slX = i64L a := by cases a <;> rfl
theorem argB_slN (a : List Nat) : (argB a).slN = a.length := by cases a <;> rfl
theorem argB_chk (a : List Nat) : chk .sl (argB a) = true := by cases a <;> rfl
theorem arg_hd {ll : List (List Nat)} {k : Nat} (h : k < ll.length) : List.headD (List.drop (Int.toNat (k : Int) * 1) (argsB ll)) .dead = argB (ll.getD k []) := by
 have h2 : k < (argsB ll).length := by rw [argsB_len]; exact h
 rw [c_toNat, Nat.mul_one, List.drop_eq_getElem_cons h2, List.headD_cons, List.getD_eq_getElem?_getD, List.getElem?_eq_getElem h]
 simp [argsB]
theorem own_hd {a : List Nat} {i : Nat} (h : i < a.length) : List.headD (List.drop (Int.toNat (i : Int) * 1) (i64L a)) .dead = .int .i64 ((a.getD i 0 : Nat) : Int) := by
 have h2 : i < (i64L a).length := by simp [i64L]; exact h
 rw [c_toNat, Nat.mul_one, List.drop_eq_getElem_cons h2, List.headD_cons, List.getD_eq_getElem?_getD, List.getElem?_eq_getElem h]
 simp [i64L]
theorem tyL_cons (t : Ty) (r : List Ty) : tyL (t :: r) = tyC t ++ tyL r := rfl
theorem tyL_app (a b : List Ty) : tyL (a ++ b) = tyL a ++ tyL b := by unfold tyL; rw [List.flatMap_append]
theorem tyL_len (l : List Ty) : (tyL l).length = l.length * 3 := by
 induction l with
 | nil => rfl
 | cons x r ih => rw [tyL_cons, List.length_append, ih, List.length_cons]; simp [tyC]; omega
theorem tyL_drop {ts : List Ty} {j : Nat} (h : j < ts.length) : List.drop ((0 + Int.toNat (j : Int)) * 3) (tyL ts) = tyC (ts.getD j zT) ++ tyL (ts.drop (j + 1)) := by
 have e : ts = ts.take j ++ (ts.getD j zT :: ts.drop (j + 1)) := by
  have := List.drop_eq_getElem_cons h
  rw [List.getD_eq_getElem?_getD, List.getElem?_eq_getElem h, Option.getD_some, ← this, List.take_append_drop]
 have hl : (tyL (ts.take j)).length = j * 3 := by rw [tyL_len, List.length_take, Nat.min_eq_left (by omega)]
 rw [c_toNat, Nat.zero_add]
 conv => lhs; rw [e]
 rw [tyL_app, ← hl, List.drop_left, tyL_cons]
def pickT (ts : List Ty) (a : List Nat) : List Ty := a.map fun j => ts.getD j zT
def tiE (own : List Ty) : AV := match own with | [] => .nilS | x :: l => .ref 1 0 0 (x :: l).length
def tiH (own : List Ty) : Hp := match own with | [] => [] | x :: l => [(1, ⟨tyL (x :: l), 0, false, 0, 3, true⟩)]
theorem tiE_ne {l : List Ty} (h : l ≠ []) : tiE l = .ref 1 0 0 l.length := by cases l with | nil => exact absurd rfl h | cons _ _ => rfl
theorem tiH_ne {l : List Ty} (h : l ≠ []) : tiH l = [(1, ⟨tyL l, 0, false, 0, 3, true⟩)] := by cases l with | nil => exact absurd rfl h | cons _ _ => rfl
def tiB (ts : List Ty) : Hp := [(0, ⟨tyL ts, 0, false, 0, 3, true⟩)]
def tiSt (l : List Sg) (ns : List Nd) (nl nn : Bool) (ll : List (List Nat)) (ts : List Ty) (k : Nat) (p : Nat × List Ty) : St := ⟨[(0, .sl (sgL l) l.length nl), (1, .sl (ndL ns) ns.length nn), (4, .nilS), (5, .int .i64 0), (7, .sl (argsB ll) ns.length true), (10, .int .i64 (k : Int)), (9, .ref 0 0 0 ts.length), (11, tiE p.2), (12, .int .i64 (p.1 : Int))], tiB ts ++ tiH p.2, .dead, []⟩
def tiOut (l : List Sg) (ns : List Nd) (nl nn : Bool) (ll : List (List Nat)) (ts : List Ty) (k : Nat) (own : List Ty) : St := ⟨[(0, .sl (sgL l) l.length nl), (1, .sl (ndL ns) ns.length nn), (4, .nilS), (5, .int .i64 0), (7, .sl (argsB ll) ns.length true), (10, .int .i64 (k : Int)), (9, .ref 0 0 0 ts.length), (11, tiE own)], tiB ts ++ tiH own, .dead, []⟩
theorem tyL_one (t : Ty) : [AV.bool t.tr, .int .i64 t.m, .int .i64 t.d] = tyL [t] := by simp [tyL, tyC]
theorem ti_loop {nt : Nat} (hn : 71 ≤ nt) (l : List Sg) (ns : List Nd) (nl nn : Bool) (ll : List (List Nat)) (ts : List Ty) (k : Nat) (hk : k < ns.length) (hll : ll.length = ns.length) (ha : (ll.getD k []).length < 2 ^ 38) (hj : ∀ j ∈ ll.getD k [], j < ts.length) : ∀ (d i : Nat) (own : List Ty), i + d = (ll.getD k []).length → own.length ≤ i → LoopR prog ap [] nt (loopBody 2 (bodyOf f34)) (fun _ => .exit 2) (tiSt l ns nl nn ll ts k) (tiOut l ns nl nn ll ts k) (i, own) (own ++ pickT ts ((ll.getD k []).drop i)) := by
 have hhd := arg_hd (ll := ll) (k := k) (by omega)
 have hc1 := argB_chk (ll.getD k [])
 have hx := argB_slX (ll.getD k [])
 have hN := argB_slN (ll.getD k [])
 generalize ll.getD k [] = a at *
 intro d
 induction d with
 | zero =>
  intro i own hi ho
  rw [List.drop_of_length_le (by omega)]
  simp only [pickT, List.map_nil, List.append_nil]
  have hi' : i = a.length := by omega
  subst hi'
  refine .done ?_
  unfold tiSt tiOut tiB
  rcases Decidable.em (own = []) with rfl | hne
  ·have hb := tiN_1 hn l ns nl nn ll ts [] a.length k
   rw [hhd, hN] at hb
   exact hb (by rw [d_lt]; simp [lit]) hc1 (by simp) (by simp; omega)
  ·simp only
   rw [tiE_ne hne, tiH_ne hne]
   have hb := tiC_1 hn l ns nl nn ll ts own a.length k
   rw [hhd, hN] at hb
   exact hb (by rw [d_lt]; simp [lit]) hc1 (by simp) (by simp; omega)
 | succ d ih =>
  intro i own hi ho
  have hia : i < a.length := by omega
  have hjm : a.getD i 0 ∈ a := by rw [List.getD_eq_getElem?_getD, List.getElem?_eq_getElem hia]; exact List.getElem_mem hia
  have hjt := hj _ hjm
  have ho1 := own_hd hia
  have htd := tyL_drop hjt
  have hnext := ih (i + 1) (own ++ [ts.getD (a.getD i 0) zT]) (by omega) (by simp; omega)
  have e : a.drop i = a.getD i 0 :: a.drop (i + 1) := by
   rw [List.drop_eq_getElem_cons hia, List.getD_eq_getElem?_getD, List.getElem?_eq_getElem hia]; rfl
  have e2 : own ++ pickT ts (a.drop i) = own ++ [ts.getD (a.getD i 0) zT] ++ pickT ts (a.drop (i + 1)) := by rw [e]; simp [pickT]
  rw [e2]
  refine .next ?_ hnext
  have hw : IntKind.wrap .i64 ((i : Int) + ((1 : Nat) : Int)) = ((i + 1 : Nat) : Int) := by rw [w64_id] <;> omega
  unfold tiSt tiB
  simp only
  have hne2 : own ++ [ts.getD (a.getD i 0) zT] ≠ [] := by simp
  rw [tiE_ne hne2, tiH_ne hne2]
  rcases Decidable.em (own = []) with rfl | hne
  ·have hb := tiN_0 hn l ns nl nn ll ts [] i k
   rw [hhd, hx, hN, ho1] at hb
   simp only [AV.toInt] at hb
   rw [htd] at hb
   simp only [tyC, List.cons_append, List.nil_append, List.headD_cons, List.tail_cons, AV.toBool, AV.toInt, hw] at hb
   rw [tyL_one] at hb
   exact hb rfl rfl rfl (decide_eq_true (by omega)) (decide_eq_true (by omega)) rfl (decide_eq_true (by omega)) (decide_eq_true (by omega)) hc1 (decide_eq_true (by omega)) (decide_eq_true (by omega)) (by rw [d_lt]; simp [lit]; omega)
  ·have hb := tiC_0 hn l ns nl nn ll ts own i k
   have htk : List.take (own.length * 3) (tyL own) = tyL own := List.take_of_length_le (by rw [tyL_len]; omega)
   rw [hhd, hx, hN, ho1] at hb
   simp only [AV.toInt] at hb
   rw [htd] at hb
   simp only [tyC, List.cons_append, List.nil_append, List.headD_cons, List.tail_cons, AV.toBool, AV.toInt, hw, htk] at hb
   rw [tyL_one, ← tyL_app] at hb
   rw [tiE_ne hne, tiH_ne hne]
   simp only [List.length_append, List.length_singleton]
   exact hb (by simp; omega) (by rw [tyL_len]; simp) rfl rfl rfl (decide_eq_true (by omega)) (decide_eq_true (by omega)) rfl (decide_eq_true (by omega)) (decide_eq_true (by omega)) hc1 (decide_eq_true (by omega)) (decide_eq_true (by omega)) (by rw [d_lt]; simp [lit]; omega)
theorem toZ_0 {nt : Nat} (hn : 71 ≤ nt) (l : List Sg) (ns : List Nd) (nl nn : Bool) (ll : List (List Nat)) (ts own : List Ty) (k : Nat) (t : Ty) (e : Int) (x : Nd) (r : List Nd) (hdr : (List.drop ((Int.toNat (k : Int)) * 5) (ndL ns)) = ndC x ++ ndL r) (h0 : lit true (!(e == ((0 : Nat) : Int))) = true) (h1 : (decide (((0 : Nat) : Int) ≤ (k : Int))) = true) (h2 : (decide ((k : Int) < (ns.length : Int))) = true) (h3 : lit true (decide ((k : Int) < (ns.length : Int))) = true) (l0 : LoopOk prog ap [] 71 (.block 2 (.loop (loopBody 2 (bodyOf f34)))) ⟨[(0, .sl (sgL l) l.length nl), (1, .sl (ndL ns) ns.length nn), (4, .nilS), (5, .int .i64 0), (6, .dead), (7, .sl (argsB ll) ns.length true), (9, .nilS), (10, .int .i64 (k : Int)), (11, .nilS), (12, .int .i64 0), (13, .dead), (14, .dead), (18, .dead), (28, .bool (decide ((k : Int) < (ns.length : Int)))), (37, .dead), (64, .dead)], [], .dead, []⟩ (.normal) ⟨[(0, .sl (sgL l) l.length nl), (1, .sl (ndL ns) ns.length nn), (4, .nilS), (5, .int .i64 0), (7, .sl (argsB ll) ns.length true), (10, .int .i64 (k : Int)), (9, .nilS), (11, .nilS)], [], .dead, []⟩) (c0 : CO 55 [.sl (sgL l) l.length nl, .agg [.int .i64 x.op, .bool x.neg, .str x.num, .str x.den, .str x.name], .nilS] (.ret (.tup [.agg [.bool t.tr, .int .i64 t.m, .int .i64 t.d], .int .i64 e]))) : ExecOk prog ap [] nt (loopBody 0 (bodyOf f34)) ⟨[(0, .sl (sgL l) l.length nl), (1, .sl (ndL ns) ns.length nn), (4, .nilS), (5, .int .i64 0), (7, .sl (argsB ll) ns.length true), (9, .nilS), (10, .int .i64 (k : Int))], [], .dead, []⟩ (.ret) ⟨[(4, .nilS), (5, .int .i64 e)], [(0, ⟨[.bool t.tr, .int .i64 t.m, .int .i64 t.d], 0, false, 0, 0, true⟩)], .dead, []⟩ := pJ 34 [2] 2 3 (.c h0 (.k 6 h1 (.c h2 (.c h3 .nil)))) (.c c0 (.v 57 (.ppt hdr) (.l l0 .nil))) hn
theorem toZ_1 {nt : Nat} (hn : 71 ≤ nt) (l : List Sg) (ns : List Nd) (nl nn : Bool) (ll : List (List Nat)) (ts own : List Ty) (k : Nat) (t : Ty) (e : Int) (x : Nd) (r : List Nd) (hdr : (List.drop ((Int.toNat (k : Int)) * 5) (ndL ns)) = ndC x ++ ndL r) (h0 : lit false (!(e == ((0 : Nat) : Int))) = true) (h1 : (decide (((0 : Nat) : Int) ≤ (k : Int))) = true) (h2 : (decide ((k : Int) < (ns.length : Int))) = true) (h3 : lit true (decide ((k : Int) < (ns.length : Int))) = true) (l0 : LoopOk prog ap [] 71 (.block 2 (.loop (loopBody 2 (bodyOf f34)))) ⟨[(0, .sl (sgL l) l.length nl), (1, .sl (ndL ns) ns.length nn), (4, .nilS), (5, .int .i64 0), (6, .dead), (7, .sl (argsB ll) ns.length true), (9, .nilS), (10, .int .i64 (k : Int)), (11, .nilS), (12, .int .i64 0), (13, .dead), (14, .dead), (18, .dead), (28, .bool (decide ((k : Int) < (ns.length : Int)))), (37, .dead), (64, .dead)], [], .dead, []⟩ (.normal) ⟨[(0, .sl (sgL l) l.length nl), (1, .sl (ndL ns) ns.length nn), (4, .nilS), (5, .int .i64 0), (7, .sl (argsB ll) ns.length true), (10, .int .i64 (k : Int)), (9, .nilS), (11, .nilS)], [], .dead, []⟩) (c0 : CO 55 [.sl (sgL l) l.length nl, .agg [.int .i64 x.op, .bool x.neg, .str x.num, .str x.den, .str x.name], .nilS] (.ret (.tup [.agg [.bool t.tr, .int .i64 t.m, .int .i64 t.d], .int .i64 e]))) : ExecOk prog ap [] nt (loopBody 0 (bodyOf f34)) ⟨[(0, .sl (sgL l) l.length nl), (1, .sl (ndL ns) ns.length nn), (4, .nilS), (5, .int .i64 0), (7, .sl (argsB ll) ns.length true), (9, .nilS), (10, .int .i64 (k : Int))], [], .dead, []⟩ (.normal) ⟨[(0, .sl (sgL l) l.length nl), (1, .sl (ndL ns) ns.length nn), (4, .nilS), (5, .int .i64 0), (7, .sl (argsB ll) ns.length true), (9, .ref 0 0 0 1), (10, .int .i64 (IntKind.wrap .i64 ((k : Int) + ((1 : Nat) : Int))))], [(0, ⟨[.bool t.tr, .int .i64 t.m, .int .i64 t.d], 0, false, 0, 3, true⟩), (1, ⟨[.bool t.tr, .int .i64 t.m, .int .i64 t.d], 0, false, 0, 0, true⟩)], .dead, []⟩ := pJ 34 [2] 3 1 (.k 6 h0 (.k 6 h1 (.c h2 (.c h3 .nil)))) (.c c0 (.v 57 (.ppt hdr) (.l l0 .nil))) hn
theorem toZ_raw_2 {nt : Nat} (hn : 71 ≤ nt) (l : List Sg) (ns : List Nd) (nl nn : Bool) (ll : List (List Nat)) (ts own : List Ty) (k : Nat) (t : Ty) (e : Int) (h0 : lit false (decide ((k : Int) < (ns.length : Int))) = true)  : ExecOk prog ap [] nt (loopBody 0 (bodyOf f34)) ⟨[(0, .sl (sgL l) l.length nl), (1, .sl (ndL ns) ns.length nn), (4, .nilS), (5, .int .i64 0), (7, .sl (argsB ll) ns.length true), (9, .nilS), (10, .int .i64 (k : Int))], [], .dead, []⟩ (.exit 0) ⟨[(4, .nilS), (5, .int .i64 0), (9, .nilS)], [], .dead, []⟩ := pJ 34 [2] 1 0 (.c h0 .nil) (.nil) hn
theorem toN_0 {nt : Nat} (hn : 71 ≤ nt) (l : List Sg) (ns : List Nd) (nl nn : Bool) (ll : List (List Nat)) (ts own : List Ty) (k : Nat) (t : Ty) (e : Int) (x : Nd) (r : List Nd) (hdr : (List.drop ((Int.toNat (k : Int)) * 5) (ndL ns)) = ndC x ++ ndL r) (h0 : lit true (!(e == ((0 : Nat) : Int))) = true) (h1 : (decide (((0 : Nat) : Int) ≤ (k : Int))) = true) (h2 : (decide ((k : Int) < (ns.length : Int))) = true) (h3 : lit true (decide ((k : Int) < (ns.length : Int))) = true) (l0 : LoopOk prog ap [] 71 (.block 2 (.loop (loopBody 2 (bodyOf f34)))) ⟨[(0, .sl (sgL l) l.length nl), (1, .sl (ndL ns) ns.length nn), (4, .nilS), (5, .int .i64 0), (6, .dead), (7, .sl (argsB ll) ns.length true), (9, .ref 0 0 0 ts.length), (10, .int .i64 (k : Int)), (11, .nilS), (12, .int .i64 0), (13, .dead), (14, .dead), (18, .dead), (28, .bool (decide ((k : Int) < (ns.length : Int)))), (37, .dead), (64, .dead)], [(0, ⟨(tyL ts), 0, false, 0, 3, true⟩)], .dead, []⟩ (.normal) ⟨[(0, .sl (sgL l) l.length nl), (1, .sl (ndL ns) ns.length nn), (4, .nilS), (5, .int .i64 0), (7, .sl (argsB ll) ns.length true), (10, .int .i64 (k : Int)), (9, .ref 0 0 0 ts.length), (11, .nilS)], [(0, ⟨(tyL ts), 0, false, 0, 3, true⟩)], .dead, []⟩) (c0 : CO 55 [.sl (sgL l) l.length nl, .agg [.int .i64 x.op, .bool x.neg, .str x.num, .str x.den, .str x.name], .nilS] (.ret (.tup [.agg [.bool t.tr, .int .i64 t.m, .int .i64 t.d], .int .i64 e]))) : ExecOk prog ap [] nt (loopBody 0 (bodyOf f34)) ⟨[(0, .sl (sgL l) l.length nl), (1, .sl (ndL ns) ns.length nn), (4, .nilS), (5, .int .i64 0), (7, .sl (argsB ll) ns.length true), (9, .ref 0 0 0 ts.length), (10, .int .i64 (k : Int))], [(0, ⟨(tyL ts), 0, false, 0, 3, true⟩)], .dead, []⟩ (.ret) ⟨[(4, .nilS), (5, .int .i64 e)], [(0, ⟨(tyL ts), 0, false, 0, 3, true⟩), (1, ⟨[.bool t.tr, .int .i64 t.m, .int .i64 t.d], 0, false, 0, 0, true⟩)], .dead, []⟩ := pJ 34 [2] 2 3 (.c h0 (.k 6 h1 (.c h2 (.c h3 .nil)))) (.c c0 (.v 57 (.ppt hdr) (.l l0 .nil))) hn
theorem toN_1 {nt : Nat} (hn : 71 ≤ nt) (l : List Sg) (ns : List Nd) (nl nn : Bool) (ll : List (List Nat)) (ts own : List Ty) (k : Nat) (t : Ty) (e : Int) (x : Nd) (r : List Nd) (hdr : (List.drop ((Int.toNat (k : Int)) * 5) (ndL ns)) = ndC x ++ ndL r) (h0 : (Nat.ble (ts.length + 1) 1099511627776) = true) (h1 : (Nat.ble (ts.length * 3) (List.length (tyL ts))) = true) (h2 : lit false (!(e == ((0 : Nat) : Int))) = true) (h3 : (decide (((0 : Nat) : Int) ≤ (k : Int))) = true) (h4 : (decide ((k : Int) < (ns.length : Int))) = true) (h5 : lit true (decide ((k : Int) < (ns.length : Int))) = true) (l0 : LoopOk prog ap [] 71 (.block 2 (.loop (loopBody 2 (bodyOf f34)))) ⟨[(0, .sl (sgL l) l.length nl), (1, .sl (ndL ns) ns.length nn), (4, .nilS), (5, .int .i64 0), (6, .dead), (7, .sl (argsB ll) ns.length true), (9, .ref 0 0 0 ts.length), (10, .int .i64 (k : Int)), (11, .nilS), (12, .int .i64 0), (13, .dead), (14, .dead), (18, .dead), (28, .bool (decide ((k : Int) < (ns.length : Int)))), (37, .dead), (64, .dead)], [(0, ⟨(tyL ts), 0, false, 0, 3, true⟩)], .dead, []⟩ (.normal) ⟨[(0, .sl (sgL l) l.length nl), (1, .sl (ndL ns) ns.length nn), (4, .nilS), (5, .int .i64 0), (7, .sl (argsB ll) ns.length true), (10, .int .i64 (k : Int)), (9, .ref 0 0 0 ts.length), (11, .nilS)], [(0, ⟨(tyL ts), 0, false, 0, 3, true⟩)], .dead, []⟩) (c0 : CO 55 [.sl (sgL l) l.length nl, .agg [.int .i64 x.op, .bool x.neg, .str x.num, .str x.den, .str x.name], .nilS] (.ret (.tup [.agg [.bool t.tr, .int .i64 t.m, .int .i64 t.d], .int .i64 e]))) : ExecOk prog ap [] nt (loopBody 0 (bodyOf f34)) ⟨[(0, .sl (sgL l) l.length nl), (1, .sl (ndL ns) ns.length nn), (4, .nilS), (5, .int .i64 0), (7, .sl (argsB ll) ns.length true), (9, .ref 0 0 0 ts.length), (10, .int .i64 (k : Int))], [(0, ⟨(tyL ts), 0, false, 0, 3, true⟩)], .dead, []⟩ (.normal) ⟨[(0, .sl (sgL l) l.length nl), (1, .sl (ndL ns) ns.length nn), (4, .nilS), (5, .int .i64 0), (7, .sl (argsB ll) ns.length true), (9, .ref 0 0 0 (ts.length + 1)), (10, .int .i64 (IntKind.wrap .i64 ((k : Int) + ((1 : Nat) : Int))))], [(0, ⟨((List.take (ts.length * 3) (tyL ts)) ++ [.bool t.tr, .int .i64 t.m, .int .i64 t.d]), 0, false, 0, 3, true⟩), (1, ⟨[.bool t.tr, .int .i64 t.m, .int .i64 t.d], 0, false, 0, 0, true⟩)], .dead, []⟩ := pJ 34 [2] 2 1 (.k 1 h0 (.c h1 (.k 4 h2 (.k 6 h3 (.c h4 (.c h5 .nil)))))) (.c c0 (.v 57 (.ppt hdr) (.l l0 .nil))) hn
theorem toN_raw_2 {nt : Nat} (hn : 71 ≤ nt) (l : List Sg) (ns : List Nd) (nl nn : Bool) (ll : List (List Nat)) (ts own : List Ty) (k : Nat) (t : Ty) (e : Int) (h0 : lit false (decide ((k : Int) < (ns.length : Int))) = true)  : ExecOk prog ap [] nt (loopBody 0 (bodyOf f34)) ⟨[(0, .sl (sgL l) l.length nl), (1, .sl (ndL ns) ns.length nn), (4, .nilS), (5, .int .i64 0), (7, .sl (argsB ll) ns.length true), (9, .ref 0 0 0 ts.length), (10, .int .i64 (k : Int))], [(0, ⟨(tyL ts), 0, false, 0, 3, true⟩)], .dead, []⟩ (.exit 0) ⟨[(4, .nilS), (5, .int .i64 0), (9, .ref 0 0 0 ts.length)], [(0, ⟨(tyL ts), 0, false, 0, 3, true⟩)], .dead, []⟩ := pJ 34 [2] 1 0 (.c h0 .nil) (.nil) hn
theorem toC_0 {nt : Nat} (hn : 71 ≤ nt) (l : List Sg) (ns : List Nd) (nl nn : Bool) (ll : List (List Nat)) (ts own : List Ty) (k : Nat) (t : Ty) (e : Int) (x : Nd) (r : List Nd) (hdr : (List.drop ((Int.toNat (k : Int)) * 5) (ndL ns)) = ndC x ++ ndL r) (h0 : lit true (!(e == ((0 : Nat) : Int))) = true) (h1 : (decide (((0 : Nat) : Int) ≤ (k : Int))) = true) (h2 : (decide ((k : Int) < (ns.length : Int))) = true) (h3 : lit true (decide ((k : Int) < (ns.length : Int))) = true) (l0 : LoopOk prog ap [] 71 (.block 2 (.loop (loopBody 2 (bodyOf f34)))) ⟨[(0, .sl (sgL l) l.length nl), (1, .sl (ndL ns) ns.length nn), (4, .nilS), (5, .int .i64 0), (6, .dead), (7, .sl (argsB ll) ns.length true), (9, .ref 0 0 0 ts.length), (10, .int .i64 (k : Int)), (11, .nilS), (12, .int .i64 0), (13, .dead), (14, .dead), (18, .dead), (28, .bool (decide ((k : Int) < (ns.length : Int)))), (37, .dead), (64, .dead)], [(0, ⟨(tyL ts), 0, false, 0, 3, true⟩)], .dead, []⟩ (.normal) ⟨[(0, .sl (sgL l) l.length nl), (1, .sl (ndL ns) ns.length nn), (4, .nilS), (5, .int .i64 0), (7, .sl (argsB ll) ns.length true), (10, .int .i64 (k : Int)), (9, .ref 0 0 0 ts.length), (11, .ref 1 0 0 own.length)], [(0, ⟨(tyL ts), 0, false, 0, 3, true⟩), (1, ⟨(tyL own), 0, false, 0, 3, true⟩)], .dead, []⟩) (c0 : CO 55 [.sl (sgL l) l.length nl, .agg [.int .i64 x.op, .bool x.neg, .str x.num, .str x.den, .str x.name], .sl (List.take (own.length * 3) (tyL own)) own.length true] (.ret (.tup [.agg [.bool t.tr, .int .i64 t.m, .int .i64 t.d], .int .i64 e]))) : ExecOk prog ap [] nt (loopBody 0 (bodyOf f34)) ⟨[(0, .sl (sgL l) l.length nl), (1, .sl (ndL ns) ns.length nn), (4, .nilS), (5, .int .i64 0), (7, .sl (argsB ll) ns.length true), (9, .ref 0 0 0 ts.length), (10, .int .i64 (k : Int))], [(0, ⟨(tyL ts), 0, false, 0, 3, true⟩)], .dead, []⟩ (.ret) ⟨[(4, .nilS), (5, .int .i64 e)], [(0, ⟨(tyL ts), 0, false, 0, 3, true⟩), (1, ⟨(tyL own), 0, true, (List.length (tyL own)), 3, true⟩), (2, ⟨[.bool t.tr, .int .i64 t.m, .int .i64 t.d], 0, false, 0, 0, true⟩)], .dead, []⟩ := pJ 34 [2] 2 3 (.c h0 (.k 6 h1 (.c h2 (.c h3 .nil)))) (.c c0 (.v 57 (.ppt hdr) (.l l0 .nil))) hn
theorem toC_1 {nt : Nat} (hn : 71 ≤ nt) (l : List Sg) (ns : List Nd) (nl nn : Bool) (ll : List (List Nat)) (ts own : List Ty) (k : Nat) (t : Ty) (e : Int) (x : Nd) (r : List Nd) (hdr : (List.drop ((Int.toNat (k : Int)) * 5) (ndL ns)) = ndC x ++ ndL r) (h0 : (Nat.ble (ts.length + 1) 1099511627776) = true) (h1 : (Nat.ble (ts.length * 3) (List.length (tyL ts))) = true) (h2 : lit false (!(e == ((0 : Nat) : Int))) = true) (h3 : (decide (((0 : Nat) : Int) ≤ (k : Int))) = true) (h4 : (decide ((k : Int) < (ns.length : Int))) = true) (h5 : lit true (decide ((k : Int) < (ns.length : Int))) = true) (l0 : LoopOk prog ap [] 71 (.block 2 (.loop (loopBody 2 (bodyOf f34)))) ⟨[(0, .sl (sgL l) l.length nl), (1, .sl (ndL ns) ns.length nn), (4, .nilS), (5, .int .i64 0), (6, .dead), (7, .sl (argsB ll) ns.length true), (9, .ref 0 0 0 ts.length), (10, .int .i64 (k : Int)), (11, .nilS), (12, .int .i64 0), (13, .dead), (14, .dead), (18, .dead), (28, .bool (decide ((k : Int) < (ns.length : Int)))), (37, .dead), (64, .dead)], [(0, ⟨(tyL ts), 0, false, 0, 3, true⟩)], .dead, []⟩ (.normal) ⟨[(0, .sl (sgL l) l.length nl), (1, .sl (ndL ns) ns.length nn), (4, .nilS), (5, .int .i64 0), (7, .sl (argsB ll) ns.length true), (10, .int .i64 (k : Int)), (9, .ref 0 0 0 ts.length), (11, .ref 1 0 0 own.length)], [(0, ⟨(tyL ts), 0, false, 0, 3, true⟩), (1, ⟨(tyL own), 0, false, 0, 3, true⟩)], .dead, []⟩) (c0 : CO 55 [.sl (sgL l) l.length nl, .agg [.int .i64 x.op, .bool x.neg, .str x.num, .str x.den, .str x.name], .sl (List.take (own.length * 3) (tyL own)) own.length true] (.ret (.tup [.agg [.bool t.tr, .int .i64 t.m, .int .i64 t.d], .int .i64 e]))) : ExecOk prog ap [] nt (loopBody 0 (bodyOf f34)) ⟨[(0, .sl (sgL l) l.length nl), (1, .sl (ndL ns) ns.length nn), (4, .nilS), (5, .int .i64 0), (7, .sl (argsB ll) ns.length true), (9, .ref 0 0 0 ts.length), (10, .int .i64 (k : Int))], [(0, ⟨(tyL ts), 0, false, 0, 3, true⟩)], .dead, []⟩ (.normal) ⟨[(0, .sl (sgL l) l.length nl), (1, .sl (ndL ns) ns.length nn), (4, .nilS), (5, .int .i64 0), (7, .sl (argsB ll) ns.length true), (9, .ref 0 0 0 (ts.length + 1)), (10, .int .i64 (IntKind.wrap .i64 ((k : Int) + ((1 : Nat) : Int))))], [(0, ⟨((List.take (ts.length * 3) (tyL ts)) ++ [.bool t.tr, .int .i64 t.m, .int .i64 t.d]), 0, false, 0, 3, true⟩), (1, ⟨(tyL own), 0, true, (List.length (tyL own)), 3, true⟩), (2, ⟨[.bool t.tr, .int .i64 t.m, .int .i64 t.d], 0, false, 0, 0, true⟩)], .dead, []⟩ := pJ 34 [2] 2 1 (.k 1 h0 (.c h1 (.k 4 h2 (.k 6 h3 (.c h4 (.c h5 .nil)))))) (.c c0 (.v 57 (.ppt hdr) (.l l0 .nil))) hn
def toE (ts : List Ty) : AV := match ts with | [] => .nilS | x :: l => .ref 0 0 0 (x :: l).length
def toH (ts : List Ty) : Hp := match ts with | [] => [] | x :: l => [(0, ⟨tyL (x :: l), 0, false, 0, 3, true⟩)]
theorem toE_ne {l : List Ty} (h : l ≠ []) : toE l = .ref 0 0 0 l.length := by cases l with | nil => exact absurd rfl h | cons _ _ => rfl
theorem toH_ne {l : List Ty} (h : l ≠ []) : toH l = [(0, ⟨tyL l, 0, false, 0, 3, true⟩)] := by cases l with | nil => exact absurd rfl h | cons _ _ => rfl
def toSt (l : List Sg) (ns : List Nd) (nl nn : Bool) (ll : List (List Nat)) (p : Nat × List Ty) : St := ⟨[(0, .sl (sgL l) l.length nl), (1, .sl (ndL ns) ns.length nn), (4, .nilS), (5, .int .i64 0), (7, .sl (argsB ll) ns.length true), (9, toE p.2), (10, .int .i64 (p.1 : Int))], toH p.2, .dead, []⟩
def toOut : List Ty ⊕ Int → St
 | .inl ts => ⟨[(4, .nilS), (5, .int .i64 0), (9, toE ts)], toH ts, .dead, []⟩
 | .inr e => ⟨[(4, .nilS), (5, .int .i64 e)], [], .dead, []⟩
def toX : List Ty ⊕ Int → AExit
 | .inl _ => .exit 0
 | .inr _ => .ret
def tzSt (l : List Sg) (ns : List Nd) (nl nn : Bool) (ll : List (List Nat)) (k : Nat) : St := ⟨[(0, .sl (sgL l) l.length nl), (1, .sl (ndL ns) ns.length nn), (4, .nilS), (5, .int .i64 0), (7, .sl (argsB ll) ns.length true), (10, .int .i64 (k : Int)), (9, .nilS), (11, .nilS), (12, .int .i64 ((0 : Nat) : Int))], [], .dead, []⟩
def tzOut (l : List Sg) (ns : List Nd) (nl nn : Bool) (ll : List (List Nat)) (k : Nat) : St := ⟨[(0, .sl (sgL l) l.length nl), (1, .sl (ndL ns) ns.length nn), (4, .nilS), (5, .int .i64 0), (7, .sl (argsB ll) ns.length true), (10, .int .i64 (k : Int)), (9, .nilS), (11, .nilS)], [], .dead, []⟩
theorem to_round {nt : Nat} (hn : 71 ≤ nt) (l : List Sg) (ns p r : List Nd) (nl nn : Bool) (ll : List (List Nat)) (x : Nd) (ts : List Ty) (hns : ns = p ++ x :: r) (hle : ns.length < 2 ^ 38) (hlg : l.length < 2 ^ 40) (hll : ll.length = ns.length) (hts : ts.length = p.length) (h1 : 1 ≤ x.op) (h2 : x.op ≤ 24) (ha : (ll.getD p.length []).length = arI x.op) (hj : ∀ j ∈ ll.getD p.length [], j < p.length) :
  ((typR l x (pickT ts (ll.getD p.length []))).2 = 0 → ExecOk prog ap [] nt (loopBody 0 (bodyOf f34)) (toSt l ns nl nn ll (p.length, ts)) .normal (toSt l ns nl nn ll (p.length + 1, ts ++ [(typR l x (pickT ts (ll.getD p.length []))).1]))) ∧
  (¬ (typR l x (pickT ts (ll.getD p.length []))).2 = 0 → ExecOk prog ap [] nt (loopBody 0 (bodyOf f34)) (toSt l ns nl nn ll (p.length, ts)) .ret (toOut (.inr (typR l x (pickT ts (ll.getD p.length []))).2))) := by
 have hlen : p.length + (r.length + 1) = ns.length := by rw [hns]; simp
 have hdr : List.drop (Int.toNat (p.length : Int) * 5) (ndL ns) = ndC x ++ ndL r := by rw [hns]; exact nd_drop rfl
 have har := arI_le x.op
 have hloop := fun nt (hn : 71 ≤ nt) => ti_loop hn l ns nl nn ll ts p.length (by omega) hll (by omega) (by rw [hts]; exact hj) (ll.getD p.length []).length 0 [] (by omega) (by simp)
 have hc := fun b => rtyp_ok l nl b x (pickT ts (ll.getD p.length [])) hlg h1 h2 (by rw [pickT, List.length_map]; exact ha)
 rw [List.nil_append, List.drop_zero] at hloop
 have hown0 : ts = [] → pickT ts (ll.getD p.length []) = [] ∧ ll.getD p.length [] = [] := by
  intro h
  have h3 : ll.getD p.length [] = [] := by
   cases hh : ll.getD p.length [] with
   | nil => rfl
   | cons j _ => have h4 := hj j (by rw [hh]; simp); rw [h] at hts; simp at hts; omega
  exact ⟨by rw [h3]; rfl, h3⟩
 generalize hown : pickT ts (ll.getD p.length []) = own at *
 have hol : own.length = arI x.op := by rw [← hown]; simp [pickT]; exact ha
 have hcz := hc
 generalize typR l x own = q at *
 obtain ⟨t, e⟩ := q
 have hw : IntKind.wrap .i64 ((p.length : Int) + ((1 : Nat) : Int)) = ((p.length + 1 : Nat) : Int) := by rw [w64_id] <;> omega
 have g0 : decide (((0 : Nat) : Int) ≤ (p.length : Int)) = true := decide_eq_true (by omega)
 have g1 : decide ((p.length : Int) < (ns.length : Int)) = true := decide_eq_true (by omega)
 have g2 : lit true (decide ((p.length : Int) < (ns.length : Int))) = true := by rw [g1]; rfl
 rcases Decidable.em (ts = []) with hT | hT
 ·obtain ⟨ho, hA⟩ := hown0 hT
  subst hT
  subst ho
  have k0 := (hc false).args (FitsL.cons (Fits.refl _) (FitsL.cons (Fits.refl _) (FitsL.cons (Fits.nilS false rfl) FitsL.nil)))
  have hhd := arg_hd (ll := ll) (k := p.length) (by omega)
  rw [hA] at hhd
  have hz := fun nt (hn : 71 ≤ nt) => tiZ_0 hn l ns nl nn ll [] [] 0 p.length
  rw [hhd] at hz
  have l1 := LoopR.blk (id := 2) (e := fun _ : Unit => AExit.exit 2) (st := fun _ : Unit => tzSt l ns nl nn ll p.length) (out := fun _ : Unit => tzOut l ns nl nn ll p.length) (a := ()) (r := ()) (s := tzSt l ns nl nn ll p.length) (s' := tzOut l ns nl nn ll p.length) (e' := .normal) (fun nt hn => .done (hz nt hn rfl rfl g0 g1)) (by simp) rfl (Less.refl _) (Less.refl _)
  constructor
  ·intro he
   obtain rfl : e = 0 := he
   have hb := toZ_1 hn l ns nl nn ll [] [] p.length t 0 x r hdr rfl g0 g1 g2 (fun nt hnt => (l1 nt hnt).weak (Less.of ⟨rfl, rfl, rfl, rfl, rfl, rfl, rfl, rfl, rfl, trivial⟩) (Less.of ⟨rfl, rfl, rfl, rfl, rfl, rfl, rfl, rfl, trivial⟩)) k0
   rw [hw] at hb
   exact hb.forget 1 ⟨tyC t, 0, false, 0, 0, true⟩ (en' := (toSt l ns nl nn ll (p.length + 1, [t])).env) (hp' := toH [t]) (by intro v h; cases h) (by decide) rfl ⟨Fz.same rfl, Fz.same rfl, Fz.same rfl, Fz.same rfl, Fz.same rfl, Fz.same rfl, Fz.same rfl, trivial⟩ ⟨rfl, FzB.same rfl, by decide, rfl⟩
  ·intro he
   have hb := toZ_0 hn l ns nl nn ll [] [] p.length t e x r hdr (by simpa [lit] using he) g0 g1 g2 (fun nt hnt => (l1 nt hnt).weak (Less.of ⟨rfl, rfl, rfl, rfl, rfl, rfl, rfl, rfl, rfl, trivial⟩) (Less.of ⟨rfl, rfl, rfl, rfl, rfl, rfl, rfl, rfl, trivial⟩)) k0
   exact hb.forget 0 ⟨tyC t, 0, false, 0, 0, true⟩ (en' := [(4, .nilS), (5, .int .i64 e)]) (hp' := []) (by intro v h; cases h) (by decide) rfl ⟨Fz.same rfl, Fz.same rfl, trivial⟩ rfl
 ·have hS : toSt l ns nl nn ll (p.length, ts) = ⟨[(0, .sl (sgL l) l.length nl), (1, .sl (ndL ns) ns.length nn), (4, .nilS), (5, .int .i64 0), (7, .sl (argsB ll) ns.length true), (9, .ref 0 0 0 ts.length), (10, .int .i64 (p.length : Int))], [(0, ⟨tyL ts, 0, false, 0, 3, true⟩)], .dead, []⟩ := by
   unfold toSt; simp only; rw [toE_ne hT, toH_ne hT]
  have hne2 : ts ++ [t] ≠ [] := by simp
  have hS2 : toSt l ns nl nn ll (p.length + 1, ts ++ [t]) = ⟨[(0, .sl (sgL l) l.length nl), (1, .sl (ndL ns) ns.length nn), (4, .nilS), (5, .int .i64 0), (7, .sl (argsB ll) ns.length true), (9, .ref 0 0 0 (ts.length + 1)), (10, .int .i64 ((p.length + 1 : Nat) : Int))], [(0, ⟨tyL (ts ++ [t]), 0, false, 0, 3, true⟩)], .dead, []⟩ := by
   unfold toSt; simp only; rw [toE_ne hne2, toH_ne hne2, List.length_append, List.length_singleton]
  have htk : List.take (ts.length * 3) (tyL ts) = tyL ts := List.take_of_length_le (by rw [tyL_len]; omega)
  have f0 : Nat.ble (ts.length + 1) 1099511627776 = true := by simp; omega
  have f1 : Nat.ble (ts.length * 3) (List.length (tyL ts)) = true := by rw [tyL_len]; simp
  rw [hS]
  rcases Decidable.em (own = []) with ho | ho
  ·subst ho
   have k0 := (hc false).args (FitsL.cons (Fits.refl _) (FitsL.cons (Fits.refl _) (FitsL.cons (Fits.nilS false rfl) FitsL.nil)))
   have l0 := LoopR.blk (id := 2) (s := tiSt l ns nl nn ll ts p.length (0, [])) (s' := tiOut l ns nl nn ll ts p.length []) hloop (by simp) rfl (Less.refl _) (Less.refl _)
   constructor
   ·intro he
    obtain rfl : e = 0 := he
    have hb := toN_1 hn l ns nl nn ll ts [] p.length t 0 x r hdr f0 f1 rfl g0 g1 g2 (fun nt hnt => (l0 nt hnt).weak (Less.of ⟨rfl, rfl, rfl, rfl, rfl, rfl, rfl, rfl, rfl, trivial⟩) (Less.of ⟨rfl, rfl, rfl, rfl, rfl, rfl, rfl, rfl, trivial⟩)) k0
    rw [hw, htk, tyL_one, ← tyL_app] at hb
    rw [hS2]
    exact hb.forget 1 ⟨tyC t, 0, false, 0, 0, true⟩ (by intro v h; cases h) (by decide) rfl ⟨Fz.same rfl, Fz.same rfl, Fz.same rfl, Fz.same rfl, Fz.same rfl, Fz.same rfl, Fz.same rfl, trivial⟩ ⟨rfl, FzB.same rfl, by decide, rfl⟩
   ·intro he
    have hb := toN_0 hn l ns nl nn ll ts [] p.length t e x r hdr (by simpa [lit] using he) g0 g1 g2 (fun nt hnt => (l0 nt hnt).weak (Less.of ⟨rfl, rfl, rfl, rfl, rfl, rfl, rfl, rfl, rfl, trivial⟩) (Less.of ⟨rfl, rfl, rfl, rfl, rfl, rfl, rfl, rfl, trivial⟩)) k0
    have hb := hb.forget 1 ⟨tyC t, 0, false, 0, 0, true⟩ (en' := [(4, .nilS), (5, .int .i64 e)]) (hp' := [(0, ⟨tyL ts, 0, false, 0, 3, true⟩)]) (by intro v h; cases h) (by decide) rfl ⟨Fz.same rfl, Fz.same rfl, trivial⟩ ⟨rfl, FzB.same rfl, by decide, rfl⟩
    exact hb.forget 0 ⟨tyL ts, 0, false, 0, 3, true⟩ (en' := [(4, .nilS), (5, .int .i64 e)]) (hp' := []) (by intro v h; cases h) (by decide) rfl ⟨Fz.same rfl, Fz.same rfl, trivial⟩ rfl
  ·have hto : List.take (own.length * 3) (tyL own) = tyL own := List.take_of_length_le (by rw [tyL_len]; omega)
   have k0 := hc true
   rw [← hto] at k0
   have l0 := LoopR.blk (id := 2) (s := tiSt l ns nl nn ll ts p.length (0, [])) (s' := tiOut l ns nl nn ll ts p.length own) hloop (by simp) rfl (Less.refl _) (Less.refl _)
   unfold tiOut at l0
   rw [tiE_ne ho, tiH_ne ho] at l0
   constructor
   ·intro he
    obtain rfl : e = 0 := he
    have hb := toC_1 hn l ns nl nn ll ts own p.length t 0 x r hdr f0 f1 rfl g0 g1 g2 (fun nt hnt => (l0 nt hnt).weak (Less.of ⟨rfl, rfl, rfl, rfl, rfl, rfl, rfl, rfl, rfl, trivial⟩) (Less.of ⟨rfl, rfl, rfl, rfl, rfl, rfl, rfl, rfl, trivial⟩)) k0
    rw [hw, htk, tyL_one, ← tyL_app] at hb
    rw [hS2]
    have hb := hb.forget 2 ⟨tyC t, 0, false, 0, 0, true⟩ (en' := [(0, .sl (sgL l) l.length nl), (1, .sl (ndL ns) ns.length nn), (4, .nilS), (5, .int .i64 0), (7, .sl (argsB ll) ns.length true), (9, .ref 0 0 0 (ts.length + 1)), (10, .int .i64 ((p.length + 1 : Nat) : Int))]) (hp' := [(0, ⟨tyL (ts ++ [t]), 0, false, 0, 3, true⟩), (1, ⟨tyL own, 0, true, (tyL own).length, 3, true⟩)]) (by intro v h; cases h) (by decide) rfl ⟨Fz.same rfl, Fz.same rfl, Fz.same rfl, Fz.same rfl, Fz.same rfl, Fz.same rfl, Fz.same rfl, trivial⟩ ⟨rfl, FzB.same rfl, by decide, rfl, FzB.same rfl, by decide, rfl⟩
    exact hb.forget 1 ⟨tyL own, 0, true, (tyL own).length, 3, true⟩ (by intro v h; cases h) (by decide) rfl ⟨Fz.same rfl, Fz.same rfl, Fz.same rfl, Fz.same rfl, Fz.same rfl, Fz.same rfl, Fz.same rfl, trivial⟩ ⟨rfl, FzB.same rfl, by decide, rfl⟩
   ·intro he
    have hb := toC_0 hn l ns nl nn ll ts own p.length t e x r hdr (by simpa [lit] using he) g0 g1 g2 (fun nt hnt => (l0 nt hnt).weak (Less.of ⟨rfl, rfl, rfl, rfl, rfl, rfl, rfl, rfl, rfl, trivial⟩) (Less.of ⟨rfl, rfl, rfl, rfl, rfl, rfl, rfl, rfl, trivial⟩)) k0
    have hb := hb.forget 2 ⟨tyC t, 0, false, 0, 0, true⟩ (en' := [(4, .nilS), (5, .int .i64 e)]) (hp' := [(0, ⟨tyL ts, 0, false, 0, 3, true⟩), (1, ⟨tyL own, 0, true, (tyL own).length, 3, true⟩)]) (by intro v h; cases h) (by decide) rfl ⟨Fz.same rfl, Fz.same rfl, trivial⟩ ⟨rfl, FzB.same rfl, by decide, rfl, FzB.same rfl, by decide, rfl⟩
    have hb := hb.forget 1 ⟨tyL own, 0, true, (tyL own).length, 3, true⟩ (en' := [(4, .nilS), (5, .int .i64 e)]) (hp' := [(0, ⟨tyL ts, 0, false, 0, 3, true⟩)]) (by intro v h; cases h) (by decide) rfl ⟨Fz.same rfl, Fz.same rfl, trivial⟩ ⟨rfl, FzB.same rfl, by decide, rfl⟩
    exact hb.forget 0 ⟨tyL ts, 0, false, 0, 3, true⟩ (en' := [(4, .nilS), (5, .int .i64 e)]) (hp' := []) (by intro v h; cases h) (by decide) rfl ⟨Fz.same rfl, Fz.same rfl, trivial⟩ rfl
def typsR (l : List Sg) : List Nd → Nat → List Nat → List Ty → List Ty ⊕ Int
 | [], _, _, ts => .inl ts
 | x :: r, k, st, ts => if (typR l x (pickT ts (st.drop (st.length - arI x.op)))).2 = 0 then typsR l r (k + 1) (st.take (st.length - arI x.op) ++ [k]) (ts ++ [(typR l x (pickT ts (st.drop (st.length - arI x.op)))).1]) else .inr (typR l x (pickT ts (st.drop (st.length - arI x.op)))).2
def typesQ (l : List Sg) (ns : List Nd) : List Ty ⊕ Int := if checkQ ns = 0 then typsR l ns 0 [] [] else .inr (checkQ ns)
theorem typsR_len (l : List Sg) : ∀ (r : List Nd) (k : Nat) (st : List Nat) (ts ts2 : List Ty), typsR l r k st ts = .inl ts2 → ts2.length = ts.length + r.length := by
 intro r
 induction r with
 | nil => intro k st ts ts2 h; simp only [typsR, Sum.inl.injEq] at h; rw [h]; simp
 | cons x r ih =>
  intro k st ts ts2 h
  simp only [typsR] at h
  split at h
  ·have h2 := ih _ _ _ _ h; rw [h2]; simp; omega
  ·cases h
theorem to_loop {nt : Nat} (hn : 71 ≤ nt) (l : List Sg) (ns : List Nd) (nl nn : Bool) (hle : ns.length < 2 ^ 38) (hlg : l.length < 2 ^ 40) (e0 : Nat) : ∀ (r p : List Nd) (st : List Nat) (done : List (List Nat)) (ts : List Ty), p ++ r = ns → chkR r st.length = .inl e0 → (∀ j ∈ st, j < p.length) → done.length = p.length → ts.length = p.length → argsQ ns = done ++ argR r p.length st → LoopR prog ap [] nt (loopBody 0 (bodyOf f34)) toX (toSt l ns nl nn (argsQ ns)) toOut (p.length, ts) (typsR l r p.length st ts) := by
 intro r
 induction r with
 | nil =>
  intro p st done ts h hc hst hd hts ha
  have hp : p.length = ns.length := by rw [← h]; simp
  simp only [typsR]
  refine .done ?_
  have hq : lit false (decide ((p.length : Int) < (ns.length : Int))) = true := by rw [hp, d_lt]; simp [lit]
  rcases Decidable.em (ts = []) with hT | hT
  ·subst hT
   exact toZ_raw_2 hn l ns nl nn (argsQ ns) [] [] p.length ⟨false, 0, 0⟩ 0 hq
  ·unfold toSt toOut
   simp only
   rw [toE_ne hT, toH_ne hT]
   exact toN_raw_2 hn l ns nl nn (argsQ ns) ts [] p.length ⟨false, 0, 0⟩ 0 hq
 | cons x r ih =>
  intro p st done ts h hc hst hd hts ha
  obtain ⟨⟨h1, h2⟩, har, hc2⟩ := chkR_le hc
  have hst2 : (st.take (st.length - arI x.op) ++ [p.length]).length = st.length - arI x.op + 1 := by
   rw [List.length_append, List.length_take, List.length_singleton, Nat.min_eq_left (by omega)]
  have hget : (argsQ ns).getD p.length [] = st.drop (st.length - arI x.op) := by
   rw [ha]
   simp only [argR]
   rw [← hd, List.getD_eq_getElem?_getD, List.getElem?_append_right (Nat.le_refl _), Nat.sub_self]
   rfl
  have hlen : (argsQ ns).length = ns.length := by unfold argsQ; rw [argR_len]
  obtain ⟨s1, s2⟩ := to_round hn l ns p r nl nn (argsQ ns) x ts h.symm hle hlg hlen hts h1 h2 (by rw [hget, List.length_drop]; omega) (by rw [hget]; exact fun j hj => hst j (List.mem_of_mem_drop hj))
  rw [hget] at s1 s2
  simp only [typsR]
  split
  ·rename_i he
   have hnext := ih (p ++ [x]) (st.take (st.length - arI x.op) ++ [p.length]) (done ++ [st.drop (st.length - arI x.op)]) (ts ++ [(typR l x (pickT ts (st.drop (st.length - arI x.op)))).1]) (by simp [h]) (by rw [hst2]; exact hc2) (by
    intro j hj
    rcases List.mem_append.mp hj with hj | hj
    ·have := hst j (List.mem_of_mem_take hj); simp; omega
    ·simp at hj; simp; omega) (by simp [hd]) (by simp [hts]) (by rw [ha]; simp only [argR, List.length_append, List.length_singleton, List.append_assoc, List.singleton_append])
   rw [List.length_append, List.length_singleton] at hnext
   exact .next (s1 he) hnext
  ·rename_i he
   exact .done (s2 he)
theorem tyN_0 (l : List Sg) (ns : List Nd) (nl nn : Bool) (ll : List (List Nat)) (ts : List Ty) (w e : Int) (h0 : lit true (!(w == ((0 : Nat) : Int))) = true) (c0 : CO 47 [.sl (ndL ns) ns.length nn] (.ret (.int .i64 w))) : CO 34 [.sl (sgL l) l.length nl, .sl (ndL ns) ns.length nn] (.ret (.tup [.nilS, .int .i64 w])) := pK [0] 1 1 (.c h0 .nil) (.c c0 .nil)
theorem tyN_1 (l : List Sg) (ns : List Nd) (nl nn : Bool) (ll : List (List Nat)) (ts : List Ty) (w e : Int) (h0 : lit false (!(w == ((0 : Nat) : Int))) = true) (c0 : CO 47 [.sl (ndL ns) ns.length nn] (.ret (.int .i64 w))) (c1 : CO 29 [.sl (ndL ns) ns.length nn] (.ret (.tup [.sl (argsB ll) ns.length true, .bool true]))) (l0 : LoopOk prog ap [] 71 (.block 0 (.loop (loopBody 0 (bodyOf f34)))) ⟨[(0, .sl (sgL l) l.length nl), (1, .sl (ndL ns) ns.length nn), (4, .nilS), (5, .int .i64 0), (6, .int .i64 w), (7, .sl (argsB ll) ns.length true), (9, .nilS), (10, .int .i64 0), (11, .dead), (12, .dead), (13, .dead), (14, .dead), (18, .bool (!(w == ((0 : Nat) : Int)))), (28, .dead), (37, .dead), (64, .dead)], [], .dead, []⟩ (.normal) ⟨[(4, .nilS), (5, .int .i64 0), (9, .ref 0 0 0 ts.length)], [(0, ⟨(tyL ts), 0, false, 0, 3, true⟩)], .dead, []⟩) : CO 34 [.sl (sgL l) l.length nl, .sl (ndL ns) ns.length nn] (.ret (.tup [.own (List.take (ts.length * 3) (tyL ts)) ts.length 3, .int .i64 0])) := pK [0] 1 0 (.c h0 .nil) (.l l0 (.c c1 (.c c0 .nil)))
theorem tyE_1 (l : List Sg) (ns : List Nd) (nl nn : Bool) (ll : List (List Nat)) (ts : List Ty) (w e : Int) (h0 : lit false (!(w == ((0 : Nat) : Int))) = true) (c0 : CO 47 [.sl (ndL ns) ns.length nn] (.ret (.int .i64 w))) (c1 : CO 29 [.sl (ndL ns) ns.length nn] (.ret (.tup [.sl (argsB ll) ns.length true, .bool true]))) (l0 : LoopOk prog ap [] 71 (.block 0 (.loop (loopBody 0 (bodyOf f34)))) ⟨[(0, .sl (sgL l) l.length nl), (1, .sl (ndL ns) ns.length nn), (4, .nilS), (5, .int .i64 0), (6, .int .i64 w), (7, .sl (argsB ll) ns.length true), (9, .nilS), (10, .int .i64 0), (11, .dead), (12, .dead), (13, .dead), (14, .dead), (18, .bool (!(w == ((0 : Nat) : Int)))), (28, .dead), (37, .dead), (64, .dead)], [], .dead, []⟩ (.ret) ⟨[(4, .nilS), (5, .int .i64 e)], [], .dead, []⟩) : CO 34 [.sl (sgL l) l.length nl, .sl (ndL ns) ns.length nn] (.ret (.tup [.nilS, .int .i64 e])) := pK [0] 1 0 (.c h0 .nil) (.l l0 (.c c1 (.c c0 .nil)))
def typesO : List Ty ⊕ Int → AV
 | .inl ts => .tup [.sl (tyL ts) ts.length true, .int .i64 0]
 | .inr e => .tup [.nilS, .int .i64 e]
theorem types_ok (l : List Sg) (ns : List Nd) (nl nn : Bool) (hlg : l.length < 2 ^ 40) (hsm : ∀ x ∈ ns, x.sm) : CO 34 [.sl (sgL l) l.length nl, .sl (ndL ns) ns.length nn] (.ret (typesO (typesQ l ns))) := by
 have hck := rcheck_ok ns nn hsm
 unfold typesQ
 by_cases hc : checkQ ns = 0
 ·rw [if_pos hc]
  have ha := rargs_ok ns nn hsm hc
  obtain ⟨h60, hin⟩ := checkQ_inl hc
  have h0 : 0 < ns.length := by
   cases ns with
   | nil => simp [chkR] at hin
   | cons _ _ => simp
  rw [hc] at hck
  have hloop := fun nt (hn : 71 ≤ nt) => to_loop hn l ns nl nn (by omega) hlg 1 ns [] [] [] [] rfl hin (by simp) rfl rfl rfl
  cases hr : typsR l ns 0 [] [] with
  | inl ts =>
   have hl := typsR_len l ns 0 [] [] ts hr
   have hT : ts ≠ [] := by intro h; subst h; simp at hl; omega
   have hlt : ts.length = ns.length := by simpa using hl
   rw [List.length_nil, hr] at hloop
   have htk : List.take (ts.length * 3) (tyL ts) = tyL ts := List.take_of_length_le (by rw [tyL_len]; omega)
   have l0 := LoopR.blk (id := 0) (e' := .normal) (s := toSt l ns nl nn (argsQ ns) (0, [])) (s' := toOut (.inl ts)) hloop (by simp [toX]) rfl (Less.refl _) (Less.refl _)
   simp only [toOut] at l0
   rw [toE_ne hT, toH_ne hT] at l0
   have hb := tyN_1 l ns nl nn (argsQ ns) ts 0 0
   have hb := hb rfl hck ha (fun nt hnt => (l0 nt hnt).weak (Less.of ⟨rfl, rfl, rfl, rfl, rfl, rfl, rfl, trivial⟩) (Less.of ⟨rfl, rfl, rfl, trivial⟩))
   have hb := hb.thaw (by simp)
   simp only [thawO, List.map_cons, List.map_nil, thaw, htk] at hb
   exact hb
  | inr e =>
   rw [List.length_nil, hr] at hloop
   have l0 := LoopR.blk (id := 0) (e' := .ret) (s := toSt l ns nl nn (argsQ ns) (0, [])) (s' := toOut (.inr e)) hloop (by simp [toX]) rfl (Less.refl _) (Less.refl _)
   simp only [toOut] at l0
   exact tyE_1 l ns nl nn (argsQ ns) [] 0 e rfl hck ha (fun nt hnt => (l0 nt hnt).weak (Less.of ⟨rfl, rfl, rfl, rfl, rfl, rfl, rfl, trivial⟩) (Less.of ⟨rfl, rfl, trivial⟩))
 ·rw [if_neg hc]
  exact tyN_0 l ns nl nn (argsQ ns) [] (checkQ ns) 0 (by simpa [lit] using hc) hck
theorem tpN_0 (l : List Sg) (ns : List Nd) (nl nn : Bool) (ts : List Ty) (e : Int) (h0 : (chk .bool (List.headD (List.drop ((Int.toNat (IntKind.wrap .i64 ((ts.length : Int) - ((1 : Nat) : Int)))) * 3) (tyL ts)) .dead)) = true) (h1 : (chk (.int .i64) (List.headD (List.tail (List.drop ((Int.toNat (IntKind.wrap .i64 ((ts.length : Int) - ((1 : Nat) : Int)))) * 3) (tyL ts))) .dead)) = true) (h2 : (chk (.int .i64) (List.headD (List.tail (List.tail (List.drop ((Int.toNat (IntKind.wrap .i64 ((ts.length : Int) - ((1 : Nat) : Int)))) * 3) (tyL ts)))) .dead)) = true) (h3 : (decide (((0 : Nat) : Int) ≤ (IntKind.wrap .i64 ((ts.length : Int) - ((1 : Nat) : Int))))) = true) (h4 : (decide ((IntKind.wrap .i64 ((ts.length : Int) - ((1 : Nat) : Int))) < (ts.length : Int))) = true) (c0 : CO 34 [.sl (sgL l) l.length nl, .sl (ndL ns) ns.length nn] (.ret (.tup [.sl (tyL ts) ts.length true, .int .i64 0]))) : CO 36 [.sl (sgL l) l.length nl, .sl (ndL ns) ns.length nn] (.ret (.tup [.agg [.bool (AV.toBool (List.headD (List.drop ((Int.toNat (IntKind.wrap .i64 ((ts.length : Int) - ((1 : Nat) : Int)))) * 3) (tyL ts)) .dead)), .int .i64 (AV.toInt (List.headD (List.tail (List.drop ((Int.toNat (IntKind.wrap .i64 ((ts.length : Int) - ((1 : Nat) : Int)))) * 3) (tyL ts))) .dead)), .int .i64 (AV.toInt (List.headD (List.tail (List.tail (List.drop ((Int.toNat (IntKind.wrap .i64 ((ts.length : Int) - ((1 : Nat) : Int)))) * 3) (tyL ts)))) .dead))], .int .i64 0])) := pK [] 1 0 (.k 4 h0 (.c h1 (.c h2 (.c h3 (.c h4 (.n 1 .nil)))))) (.c c0 .nil)
theorem tpE_0 (l : List Sg) (ns : List Nd) (nl nn : Bool) (ts : List Ty) (e : Int) (h0 : lit true (!(e == ((0 : Nat) : Int))) = true) (c0 : CO 34 [.sl (sgL l) l.length nl, .sl (ndL ns) ns.length nn] (.ret (.tup [.nilS, .int .i64 e]))) : CO 36 [.sl (sgL l) l.length nl, .sl (ndL ns) ns.length nn] (.ret (.tup [.agg [.bool false, .int .i64 0, .int .i64 0], .int .i64 e])) := pK [] 1 1 (.k 4 h0 .nil) (.c c0 .nil)
def typeQ (l : List Sg) (ns : List Nd) : Ty × Int := match typesQ l ns with | .inl ts => (ts.getD (ts.length - 1) zT, 0) | .inr e => (zT, e)
theorem typsR_err (l : List Sg) : ∀ (r : List Nd) (k : Nat) (st : List Nat) (ts : List Ty) (e : Int), typsR l r k st ts = .inr e → e ≠ 0 := by
 intro r
 induction r with
 | nil => intro k st ts e h; simp [typsR] at h
 | cons x r ih =>
  intro k st ts e h
  simp only [typsR] at h
  split at h
  ·exact ih _ _ _ _ h
  ·rename_i he
   simp only [Sum.inr.injEq] at h
   rw [← h]; exact he
theorem typesQ_err {l : List Sg} {ns : List Nd} {e : Int} (h : typesQ l ns = .inr e) : e ≠ 0 := by
 unfold typesQ at h
 split at h
 ·exact typsR_err l ns 0 [] [] e h
 ·rename_i hc; simp only [Sum.inr.injEq] at h; rw [← h]; exact hc
theorem typesQ_len {l : List Sg} {ns : List Nd} {ts : List Ty} (h : typesQ l ns = .inl ts) : ts.length = ns.length ∧ 0 < ns.length ∧ ns.length ≤ 60 := by
 unfold typesQ at h
 split at h
 ·rename_i hc
  obtain ⟨h60, hin⟩ := checkQ_inl hc
  have := typsR_len l ns 0 [] [] ts h
  refine ⟨by simpa using this, ?_, h60⟩
  cases ns with
  | nil => simp [chkR] at hin
  | cons _ _ => simp
 ·cases h
theorem type_ok (l : List Sg) (ns : List Nd) (nl nn : Bool) (hlg : l.length < 2 ^ 40) (hsm : ∀ x ∈ ns, x.sm) : CO 36 [.sl (sgL l) l.length nl, .sl (ndL ns) ns.length nn] (.ret (.tup [.agg (tyC (typeQ l ns).1), .int .i64 (typeQ l ns).2])) := by
 have ht := types_ok l ns nl nn hlg hsm
 unfold typeQ
 cases hq : typesQ l ns with
 | inl ts =>
  rw [hq] at ht
  obtain ⟨h1, h2, h3⟩ := typesQ_len hq
  have hj : ts.length - 1 < ts.length := by omega
  have hd := tyL_drop hj
  rw [Nat.zero_add] at hd
  have hw : IntKind.wrap .i64 ((ts.length : Int) - ((1 : Nat) : Int)) = ((ts.length - 1 : Nat) : Int) := by rw [w64_id] <;> omega
  have hb := tpN_0 l ns nl nn ts 0
  rw [hw, hd] at hb
  exact hb rfl rfl rfl (decide_eq_true (by omega)) (decide_eq_true (by omega)) ht
 | inr e =>
  rw [hq] at ht
  exact tpE_0 l ns nl nn [] e (by simpa [lit] using typesQ_err hq) ht
theorem ru0 : CO 79 [.agg [.bool false, .int .i64 1, .int .i64 0]] (.ret (.agg [.bool false, .fn 112 [] [.pp [.bool false, .int .i64 1, .int .i64 0] 0]])) := cK (.nil)
theorem ru1 : CO 79 [.agg [.bool false, .int .i64 0, .int .i64 1]] (.ret (.agg [.bool false, .fn 112 [] [.pp [.bool false, .int .i64 0, .int .i64 1] 0]])) := cK (.nil)
theorem ru2 : CO 79 [.agg [.bool false, .int .i64 0, .int .i64 0]] (.ret (.agg [.bool false, .fn 112 [] [.pp [.bool false, .int .i64 0, .int .i64 0] 0]])) := cK (.nil)
theorem ru3 : CO 79 [.agg [.bool true, .int .i64 0, .int .i64 0]] (.ret (.agg [.bool false, .fn 112 [] [.pp [.bool true, .int .i64 0, .int .i64 0] 0]])) := cK (.nil)
theorem ru4 : CO 80 [] (.ret (.agg [.bool true, .fn 113 [] []])) := cK (.nil)
theorem ru5 : CO 81 [.fn 82 [] []] (.ret (.agg [.bool false, .fn 114 [] [.pp [.fn 82 [] []] 0]])) := cK (.nil)
theorem ru6 : CO 83 [.int .i64 1] (.ret (.agg [.bool false, .fn 115 [] [.pp [.int .i64 1] 0]])) := cK (.nil)
theorem ru7 : CO 83 [.int .i64 (-1)] (.ret (.agg [.bool false, .fn 115 [] [.pp [.int .i64 (-1)] 0]])) := cK (.nil)
theorem ru8 : CO 81 [.fn 85 [] []] (.ret (.agg [.bool false, .fn 114 [] [.pp [.fn 85 [] []] 0]])) := cK (.nil)
theorem ru9 : CO 87 [] (.ret (.agg [.bool false, .fn 116 [] []])) := cK (.nil)
theorem ru10 : CO 88 [] (.ret (.agg [.bool false, .fn 117 [] []])) := cK (.nil)
theorem ru11 : CO 52 [] (.ret (.own [.bool false, .nilF, .bool false, .fn 112 [] [.pp [.bool false, .int .i64 1, .int .i64 0] 0], .bool false, .fn 112 [] [.pp [.bool false, .int .i64 0, .int .i64 1] 0], .bool false, .fn 112 [] [.pp [.bool false, .int .i64 0, .int .i64 0] 0], .bool false, .fn 112 [] [.pp [.bool true, .int .i64 0, .int .i64 0] 0], .bool true, .fn 113 [] [], .bool true, .fn 113 [] [], .bool true, .fn 113 [] [], .bool true, .fn 113 [] [], .bool false, .fn 114 [] [.pp [.fn 82 [] []] 0], .bool false, .fn 114 [] [.pp [.fn 82 [] []] 0], .bool false, .fn 115 [] [.pp [.int .i64 1] 0], .bool false, .fn 115 [] [.pp [.int .i64 (-1)] 0], .bool false, .fn 114 [] [.pp [.fn 82 [] []] 0], .bool false, .fn 114 [] [.pp [.fn 82 [] []] 0], .bool false, .fn 84 [] [], .bool false, .fn 114 [] [.pp [.fn 85 [] []] 0], .bool false, .fn 86 [] [], .bool false, .fn 116 [] [], .bool false, .fn 116 [] [], .bool false, .fn 116 [] [], .bool false, .fn 117 [] [], .bool false, .fn 117 [] [], .bool false, .fn 117 [] [], .bool true, .fn 89 [] []] 25 2)) := cK (.c ru10 (.c ru10 (.c ru10 (.c ru9 (.c ru9 (.c ru9 (.c ru8 (.c ru7 (.c ru6 (.c ru5 (.c ru5 (.c ru5 (.c ru5 (.c ru4 (.c ru4 (.c ru4 (.c ru4 (.c ru3 (.c ru2 (.c ru1 (.c ru0 .nil)))))))))))))))))))))
theorem rules_ok : CO 52 [] (.ret (.own [.bool false, .nilF, .bool false, .fn 112 [] [.pp [.bool false, .int .i64 1, .int .i64 0] 0], .bool false, .fn 112 [] [.pp [.bool false, .int .i64 0, .int .i64 1] 0], .bool false, .fn 112 [] [.pp [.bool false, .int .i64 0, .int .i64 0] 0], .bool false, .fn 112 [] [.pp [.bool true, .int .i64 0, .int .i64 0] 0], .bool true, .fn 113 [] [], .bool true, .fn 113 [] [], .bool true, .fn 113 [] [], .bool true, .fn 113 [] [], .bool false, .fn 114 [] [.pp [.fn 82 [] []] 0], .bool false, .fn 114 [] [.pp [.fn 82 [] []] 0], .bool false, .fn 115 [] [.pp [.int .i64 1] 0], .bool false, .fn 115 [] [.pp [.int .i64 (-1)] 0], .bool false, .fn 114 [] [.pp [.fn 82 [] []] 0], .bool false, .fn 114 [] [.pp [.fn 82 [] []] 0], .bool false, .fn 84 [] [], .bool false, .fn 114 [] [.pp [.fn 85 [] []] 0], .bool false, .fn 86 [] [], .bool false, .fn 116 [] [], .bool false, .fn 116 [] [], .bool false, .fn 116 [] [], .bool false, .fn 117 [] [], .bool false, .fn 117 [] [], .bool false, .fn 117 [] [], .bool true, .fn 89 [] []] 25 2)) := ru11
theorem itse_0 (a : Ty)   : CO 82 [.agg [.bool a.tr, .int .i64 a.m, .int .i64 a.d]] (.ret (.agg [.bool a.tr, .int .i64 a.m, .int .i64 a.d])) := pK [] 0 0 (.n 7 .nil) (.nil)
theorem tru_0 (a : Ty)   : CO 85 [.agg [.bool a.tr, .int .i64 a.m, .int .i64 a.d]] (.ret (.agg [.bool true, .int .i64 0, .int .i64 0])) := pK [] 0 0 (.n 7 .nil) (.nil)
def tT : Ty := ⟨true, 0, 0⟩
def addT (a b : Ty) (k : Int) : Ty := ⟨false, IntKind.wrap .i64 (a.m + IntKind.wrap .i64 (k * b.m)), IntKind.wrap .i64 (a.d + IntKind.wrap .i64 (k * b.d))⟩
def ruleC : Nat → Ty → List Ty → Bool × Ty
 | 1, _, [] => (true, ⟨false, 1, 0⟩)
 | 2, _, [] => (true, ⟨false, 0, 1⟩)
 | 3, _, [] => (true, ⟨false, 0, 0⟩)
 | 4, _, [] => (true, ⟨true, 0, 0⟩)
 | 5, sg, [] => (true, sg)
 | 6, sg, [] => (true, sg)
 | 7, sg, [] => (true, sg)
 | 8, sg, [] => (true, sg)
 | 9, _, [a, b] => (eqT a b && !a.tr, a)
 | 10, _, [a, b] => (eqT a b && !a.tr, a)
 | 11, _, [a, b] => (!a.tr && (!b.tr && unitQ (addT a b 1).m (addT a b 1).d), addT a b 1)
 | 12, _, [a, b] => (!a.tr && (!b.tr && unitQ (addT a b (-1)).m (addT a b (-1)).d), addT a b (-1))
 | 13, _, [a, b] => (eqT a b && !a.tr, a)
 | 14, _, [a, b] => (eqT a b && !a.tr, a)
 | 15, _, [a, b, c] => (eqT a tT && eqT b c, b)
 | 16, _, [a, b] => (eqT a b && !a.tr, tT)
 | 17, _, [a, b] => (eqT a b, tT)
 | 18, _, [a, b] => (eqT a tT && eqT b tT, tT)
 | 19, _, [a, b] => (eqT a tT && eqT b tT, tT)
 | 20, _, [a] => (eqT a tT, tT)
 | 21, _, [a] => (!a.tr, a)
 | 22, _, [a] => (!a.tr, a)
 | 23, _, [a] => (!a.tr, a)
 | 24, sg, [a] => (eqT a sg, sg)
 | _, _, _ => (false, ⟨false, 0, 0⟩)
theorem clN1 (nn : Bool) (sg : Ty) : CO 112 [.agg (tyC sg), .sl (tyL []) 0 nn, .pp [.bool false, .int .i64 1, .int .i64 0] 0] (.ret (.tup [.agg (tyC (ruleC 1 sg []).2), .bool (ruleC 1 sg []).1])) := by
 rw [show ruleC 1 sg [] = (true, ⟨false, 1, 0⟩) by simp only [ruleC, cond_true, Bool.true_and, Bool.false_and, Bool.not_true, Bool.not_false] <;> rfl]
 exact pK [] 0 0 (.n 7 .nil) (.nil)
theorem clN2 (nn : Bool) (sg : Ty) : CO 112 [.agg (tyC sg), .sl (tyL []) 0 nn, .pp [.bool false, .int .i64 0, .int .i64 1] 0] (.ret (.tup [.agg (tyC (ruleC 2 sg []).2), .bool (ruleC 2 sg []).1])) := by
 rw [show ruleC 2 sg [] = (true, ⟨false, 0, 1⟩) by simp only [ruleC, cond_true, Bool.true_and, Bool.false_and, Bool.not_true, Bool.not_false] <;> rfl]
 exact pK [] 0 0 (.n 7 .nil) (.nil)
theorem clN3 (nn : Bool) (sg : Ty) : CO 112 [.agg (tyC sg), .sl (tyL []) 0 nn, .pp [.bool false, .int .i64 0, .int .i64 0] 0] (.ret (.tup [.agg (tyC (ruleC 3 sg []).2), .bool (ruleC 3 sg []).1])) := by
 rw [show ruleC 3 sg [] = (true, ⟨false, 0, 0⟩) by simp only [ruleC, cond_true, Bool.true_and, Bool.false_and, Bool.not_true, Bool.not_false] <;> rfl]
 exact pK [] 0 0 (.n 7 .nil) (.nil)
theorem clN4 (nn : Bool) (sg : Ty) : CO 112 [.agg (tyC sg), .sl (tyL []) 0 nn, .pp [.bool true, .int .i64 0, .int .i64 0] 0] (.ret (.tup [.agg (tyC (ruleC 4 sg []).2), .bool (ruleC 4 sg []).1])) := by
 rw [show ruleC 4 sg [] = (true, ⟨true, 0, 0⟩) by simp only [ruleC, cond_true, Bool.true_and, Bool.false_and, Bool.not_true, Bool.not_false] <;> rfl]
 exact pK [] 0 0 (.n 7 .nil) (.nil)
theorem clN5 (nn : Bool) (sg : Ty) : CO 113 [.agg (tyC sg), .sl (tyL []) 0 nn] (.ret (.tup [.agg (tyC (ruleC 5 sg []).2), .bool (ruleC 5 sg []).1])) := by
 rw [show ruleC 5 sg [] = (true, ⟨sg.tr, sg.m, sg.d⟩) by simp only [ruleC, cond_true, Bool.true_and, Bool.false_and, Bool.not_true, Bool.not_false] <;> rfl]
 exact pK [] 0 0 (.n 7 .nil) (.nil)
theorem clN6 (nn : Bool) (sg : Ty) : CO 113 [.agg (tyC sg), .sl (tyL []) 0 nn] (.ret (.tup [.agg (tyC (ruleC 6 sg []).2), .bool (ruleC 6 sg []).1])) := by
 rw [show ruleC 6 sg [] = (true, ⟨sg.tr, sg.m, sg.d⟩) by simp only [ruleC, cond_true, Bool.true_and, Bool.false_and, Bool.not_true, Bool.not_false] <;> rfl]
 exact pK [] 0 0 (.n 7 .nil) (.nil)
theorem clN7 (nn : Bool) (sg : Ty) : CO 113 [.agg (tyC sg), .sl (tyL []) 0 nn] (.ret (.tup [.agg (tyC (ruleC 7 sg []).2), .bool (ruleC 7 sg []).1])) := by
 rw [show ruleC 7 sg [] = (true, ⟨sg.tr, sg.m, sg.d⟩) by simp only [ruleC, cond_true, Bool.true_and, Bool.false_and, Bool.not_true, Bool.not_false] <;> rfl]
 exact pK [] 0 0 (.n 7 .nil) (.nil)
theorem clN8 (nn : Bool) (sg : Ty) : CO 113 [.agg (tyC sg), .sl (tyL []) 0 nn] (.ret (.tup [.agg (tyC (ruleC 8 sg []).2), .bool (ruleC 8 sg []).1])) := by
 rw [show ruleC 8 sg [] = (true, ⟨sg.tr, sg.m, sg.d⟩) by simp only [ruleC, cond_true, Bool.true_and, Bool.false_and, Bool.not_true, Bool.not_false] <;> rfl]
 exact pK [] 0 0 (.n 7 .nil) (.nil)
theorem clN9 (nn : Bool) (sg a b : Ty) : CO 114 [.agg (tyC sg), .sl (tyL [a, b]) 2 nn, .pp [.fn 82 [] []] 0] (.ret (.tup [.agg (tyC (ruleC 9 sg [a, b]).2), .bool (ruleC 9 sg [a, b]).1])) := by
 rcases tf ((a.tr == b.tr) && ((a.m == b.m) && ((a.d == b.d) && true))) with b0 | b0
 ·have gb0 : eqT a b = true := b0
  rw [show ruleC 9 sg [a, b] = ((!a.tr), ⟨a.tr, a.m, a.d⟩) by simp only [ruleC, gb0, Bool.true_and, Bool.false_and, Bool.not_true, Bool.not_false] <;> rfl]
  exact pK [] 1 1 (.k 7 (litT b0) (.n 16 .nil)) (.c (itse_0 a) .nil)
 ·have gb0 : eqT a b = false := b0
  rw [show ruleC 9 sg [a, b] = (false, ⟨a.tr, a.m, a.d⟩) by simp only [ruleC, gb0, Bool.true_and, Bool.false_and, Bool.not_true, Bool.not_false] <;> rfl]
  exact pK [] 1 0 (.k 4 (litF b0) (.n 16 .nil)) (.c (itse_0 a) .nil)
theorem clN10 (nn : Bool) (sg a b : Ty) : CO 114 [.agg (tyC sg), .sl (tyL [a, b]) 2 nn, .pp [.fn 82 [] []] 0] (.ret (.tup [.agg (tyC (ruleC 10 sg [a, b]).2), .bool (ruleC 10 sg [a, b]).1])) := by
 rcases tf ((a.tr == b.tr) && ((a.m == b.m) && ((a.d == b.d) && true))) with b0 | b0
 ·have gb0 : eqT a b = true := b0
  rw [show ruleC 10 sg [a, b] = ((!a.tr), ⟨a.tr, a.m, a.d⟩) by simp only [ruleC, gb0, Bool.true_and, Bool.false_and, Bool.not_true, Bool.not_false] <;> rfl]
  exact pK [] 1 1 (.k 7 (litT b0) (.n 16 .nil)) (.c (itse_0 a) .nil)
 ·have gb0 : eqT a b = false := b0
  rw [show ruleC 10 sg [a, b] = (false, ⟨a.tr, a.m, a.d⟩) by simp only [ruleC, gb0, Bool.true_and, Bool.false_and, Bool.not_true, Bool.not_false] <;> rfl]
  exact pK [] 1 0 (.k 4 (litF b0) (.n 16 .nil)) (.c (itse_0 a) .nil)
theorem clN11 (nn : Bool) (sg a b : Ty) : CO 115 [.agg (tyC sg), .sl (tyL [a, b]) 2 nn, .pp [.int .i64 1] 0] (.ret (.tup [.agg (tyC (ruleC 11 sg [a, b]).2), .bool (ruleC 11 sg [a, b]).1])) := by
 rcases tf a.tr with b0 | b0
 ·rw [show ruleC 11 sg [a, b] = (false, ⟨false, (IntKind.wrap .i64 (a.m + (IntKind.wrap .i64 (((1 : Nat) : Int) * b.m)))), (IntKind.wrap .i64 (a.d + (IntKind.wrap .i64 (((1 : Nat) : Int) * b.d))))⟩) by simp only [ruleC, b0, Bool.true_and, Bool.false_and, Bool.not_true, Bool.not_false] <;> rfl]
  exact pK [] 2 0 (.k 5 (litNF b0) (.n 21 .nil)) (.nil)
 ·rcases tf b.tr with b1 | b1
  ·rw [show ruleC 11 sg [a, b] = (false, ⟨false, (IntKind.wrap .i64 (a.m + (IntKind.wrap .i64 (((1 : Nat) : Int) * b.m)))), (IntKind.wrap .i64 (a.d + (IntKind.wrap .i64 (((1 : Nat) : Int) * b.d))))⟩) by simp only [ruleC, b0, b1, Bool.true_and, Bool.false_and, Bool.not_true, Bool.not_false] <;> rfl]
   exact pK [] 2 1 (.k 4 (litNF b1) (.k 3 (litNT b0) (.n 21 .nil))) (.nil)
  ·rw [show ruleC 11 sg [a, b] = ((unitQ (IntKind.wrap .i64 (a.m + (IntKind.wrap .i64 (((1 : Nat) : Int) * b.m)))) (IntKind.wrap .i64 (a.d + (IntKind.wrap .i64 (((1 : Nat) : Int) * b.d))))), ⟨false, (IntKind.wrap .i64 (a.m + (IntKind.wrap .i64 (((1 : Nat) : Int) * b.m)))), (IntKind.wrap .i64 (a.d + (IntKind.wrap .i64 (((1 : Nat) : Int) * b.d))))⟩) by simp only [ruleC, b0, b1, Bool.true_and, Bool.false_and, Bool.not_true, Bool.not_false] <;> rfl]
   exact pK [] 2 3 (.k 6 (litNT b1) (.k 3 (litNT b0) (.n 21 .nil))) (.c (unit_ok (addT a b 1)) .nil)
theorem clN12 (nn : Bool) (sg a b : Ty) : CO 115 [.agg (tyC sg), .sl (tyL [a, b]) 2 nn, .pp [.int .i64 (-1)] 0] (.ret (.tup [.agg (tyC (ruleC 12 sg [a, b]).2), .bool (ruleC 12 sg [a, b]).1])) := by
 rcases tf a.tr with b0 | b0
 ·rw [show ruleC 12 sg [a, b] = (false, ⟨false, (IntKind.wrap .i64 (a.m + (IntKind.wrap .i64 ((-1 : Int) * b.m)))), (IntKind.wrap .i64 (a.d + (IntKind.wrap .i64 ((-1 : Int) * b.d))))⟩) by simp only [ruleC, b0, Bool.true_and, Bool.false_and, Bool.not_true, Bool.not_false] <;> rfl]
  exact pK [] 2 0 (.k 5 (litNF b0) (.n 21 .nil)) (.nil)
 ·rcases tf b.tr with b1 | b1
  ·rw [show ruleC 12 sg [a, b] = (false, ⟨false, (IntKind.wrap .i64 (a.m + (IntKind.wrap .i64 ((-1 : Int) * b.m)))), (IntKind.wrap .i64 (a.d + (IntKind.wrap .i64 ((-1 : Int) * b.d))))⟩) by simp only [ruleC, b0, b1, Bool.true_and, Bool.false_and, Bool.not_true, Bool.not_false] <;> rfl]
   exact pK [] 2 1 (.k 4 (litNF b1) (.k 3 (litNT b0) (.n 21 .nil))) (.nil)
  ·rw [show ruleC 12 sg [a, b] = ((unitQ (IntKind.wrap .i64 (a.m + (IntKind.wrap .i64 ((-1 : Int) * b.m)))) (IntKind.wrap .i64 (a.d + (IntKind.wrap .i64 ((-1 : Int) * b.d))))), ⟨false, (IntKind.wrap .i64 (a.m + (IntKind.wrap .i64 ((-1 : Int) * b.m)))), (IntKind.wrap .i64 (a.d + (IntKind.wrap .i64 ((-1 : Int) * b.d))))⟩) by simp only [ruleC, b0, b1, Bool.true_and, Bool.false_and, Bool.not_true, Bool.not_false] <;> rfl]
   exact pK [] 2 3 (.k 6 (litNT b1) (.k 3 (litNT b0) (.n 21 .nil))) (.c (unit_ok (addT a b (-1))) .nil)
theorem clN13 (nn : Bool) (sg a b : Ty) : CO 114 [.agg (tyC sg), .sl (tyL [a, b]) 2 nn, .pp [.fn 82 [] []] 0] (.ret (.tup [.agg (tyC (ruleC 13 sg [a, b]).2), .bool (ruleC 13 sg [a, b]).1])) := by
 rcases tf ((a.tr == b.tr) && ((a.m == b.m) && ((a.d == b.d) && true))) with b0 | b0
 ·have gb0 : eqT a b = true := b0
  rw [show ruleC 13 sg [a, b] = ((!a.tr), ⟨a.tr, a.m, a.d⟩) by simp only [ruleC, gb0, Bool.true_and, Bool.false_and, Bool.not_true, Bool.not_false] <;> rfl]
  exact pK [] 1 1 (.k 7 (litT b0) (.n 16 .nil)) (.c (itse_0 a) .nil)
 ·have gb0 : eqT a b = false := b0
  rw [show ruleC 13 sg [a, b] = (false, ⟨a.tr, a.m, a.d⟩) by simp only [ruleC, gb0, Bool.true_and, Bool.false_and, Bool.not_true, Bool.not_false] <;> rfl]
  exact pK [] 1 0 (.k 4 (litF b0) (.n 16 .nil)) (.c (itse_0 a) .nil)
theorem clN14 (nn : Bool) (sg a b : Ty) : CO 114 [.agg (tyC sg), .sl (tyL [a, b]) 2 nn, .pp [.fn 82 [] []] 0] (.ret (.tup [.agg (tyC (ruleC 14 sg [a, b]).2), .bool (ruleC 14 sg [a, b]).1])) := by
 rcases tf ((a.tr == b.tr) && ((a.m == b.m) && ((a.d == b.d) && true))) with b0 | b0
 ·have gb0 : eqT a b = true := b0
  rw [show ruleC 14 sg [a, b] = ((!a.tr), ⟨a.tr, a.m, a.d⟩) by simp only [ruleC, gb0, Bool.true_and, Bool.false_and, Bool.not_true, Bool.not_false] <;> rfl]
  exact pK [] 1 1 (.k 7 (litT b0) (.n 16 .nil)) (.c (itse_0 a) .nil)
 ·have gb0 : eqT a b = false := b0
  rw [show ruleC 14 sg [a, b] = (false, ⟨a.tr, a.m, a.d⟩) by simp only [ruleC, gb0, Bool.true_and, Bool.false_and, Bool.not_true, Bool.not_false] <;> rfl]
  exact pK [] 1 0 (.k 4 (litF b0) (.n 16 .nil)) (.c (itse_0 a) .nil)
theorem clN15 (nn : Bool) (sg a b c : Ty) : CO 84 [.agg (tyC sg), .sl (tyL [a, b, c]) 3 nn] (.ret (.tup [.agg (tyC (ruleC 15 sg [a, b, c]).2), .bool (ruleC 15 sg [a, b, c]).1])) := by
 rcases tf ((a.tr == true) && ((a.m == ((0 : Nat) : Int)) && ((a.d == ((0 : Nat) : Int)) && true))) with b0 | b0
 ·have gb0 : eqT a tT = true := b0
  rw [show ruleC 15 sg [a, b, c] = (((b.tr == c.tr) && ((b.m == c.m) && ((b.d == c.d) && true))), ⟨b.tr, b.m, b.d⟩) by simp only [ruleC, gb0, Bool.true_and, Bool.false_and, Bool.not_true, Bool.not_false] <;> rfl]
  exact pK [] 1 1 (.k 14 (litT b0) (.n 13 .nil)) (.nil)
 ·have gb0 : eqT a tT = false := b0
  rw [show ruleC 15 sg [a, b, c] = (false, ⟨b.tr, b.m, b.d⟩) by simp only [ruleC, gb0, Bool.true_and, Bool.false_and, Bool.not_true, Bool.not_false] <;> rfl]
  exact pK [] 1 0 (.k 4 (litF b0) (.n 13 .nil)) (.nil)
theorem clN16 (nn : Bool) (sg a b : Ty) : CO 114 [.agg (tyC sg), .sl (tyL [a, b]) 2 nn, .pp [.fn 85 [] []] 0] (.ret (.tup [.agg (tyC (ruleC 16 sg [a, b]).2), .bool (ruleC 16 sg [a, b]).1])) := by
 rcases tf ((a.tr == b.tr) && ((a.m == b.m) && ((a.d == b.d) && true))) with b0 | b0
 ·have gb0 : eqT a b = true := b0
  rw [show ruleC 16 sg [a, b] = ((!a.tr), ⟨true, 0, 0⟩) by simp only [ruleC, gb0, Bool.true_and, Bool.false_and, Bool.not_true, Bool.not_false] <;> rfl]
  exact pK [] 1 1 (.k 7 (litT b0) (.n 16 .nil)) (.c (tru_0 a) .nil)
 ·have gb0 : eqT a b = false := b0
  rw [show ruleC 16 sg [a, b] = (false, ⟨true, 0, 0⟩) by simp only [ruleC, gb0, Bool.true_and, Bool.false_and, Bool.not_true, Bool.not_false] <;> rfl]
  exact pK [] 1 0 (.k 4 (litF b0) (.n 16 .nil)) (.c (tru_0 a) .nil)
theorem clN17 (nn : Bool) (sg a b : Ty) : CO 86 [.agg (tyC sg), .sl (tyL [a, b]) 2 nn] (.ret (.tup [.agg (tyC (ruleC 17 sg [a, b]).2), .bool (ruleC 17 sg [a, b]).1])) := by
 rw [show ruleC 17 sg [a, b] = (((a.tr == b.tr) && ((a.m == b.m) && ((a.d == b.d) && true))), ⟨true, 0, 0⟩) by simp only [ruleC, cond_true, Bool.true_and, Bool.false_and, Bool.not_true, Bool.not_false] <;> rfl]
 exact pK [] 0 0 (.n 17 .nil) (.nil)
theorem clN18 (nn : Bool) (sg a b : Ty) : CO 116 [.agg (tyC sg), .sl (tyL [a, b]) 2 nn] (.ret (.tup [.agg (tyC (ruleC 18 sg [a, b]).2), .bool (ruleC 18 sg [a, b]).1])) := by
 rcases tf ((a.tr == true) && ((a.m == ((0 : Nat) : Int)) && ((a.d == ((0 : Nat) : Int)) && true))) with b0 | b0
 ·rcases tf ((b.tr == true) && ((b.m == ((0 : Nat) : Int)) && ((b.d == ((0 : Nat) : Int)) && true))) with b1 | b1
  ·have gb0 : eqT a tT = true := b0
   have gb1 : eqT b tT = true := b1
   rw [show ruleC 18 sg [a, b] = (true, ⟨true, 0, 0⟩) by simp only [ruleC, gb0, gb1, Bool.true_and, Bool.false_and, Bool.not_true, Bool.not_false] <;> rfl]
   exact pK [] 5 5 (.k 8 (litNF b1) (.k 13 (litNF b0) (.n 13 .nil))) (.nil)
  ·have gb0 : eqT a tT = true := b0
   have gb1 : eqT b tT = false := b1
   rw [show ruleC 18 sg [a, b] = (false, ⟨true, 0, 0⟩) by simp only [ruleC, gb0, gb1, Bool.true_and, Bool.false_and, Bool.not_true, Bool.not_false] <;> rfl]
   exact pK [] 4 13 (.k 7 (litNT b1) (.k 13 (litNF b0) (.n 13 .nil))) (.nil)
 ·have gb0 : eqT a tT = false := b0
  rw [show ruleC 18 sg [a, b] = (false, ⟨true, 0, 0⟩) by simp only [ruleC, gb0, Bool.true_and, Bool.false_and, Bool.not_true, Bool.not_false] <;> rfl]
  exact pK [] 2 3 (.k 7 (litNT b0) (.n 13 .nil)) (.nil)
theorem clN19 (nn : Bool) (sg a b : Ty) : CO 116 [.agg (tyC sg), .sl (tyL [a, b]) 2 nn] (.ret (.tup [.agg (tyC (ruleC 19 sg [a, b]).2), .bool (ruleC 19 sg [a, b]).1])) := by
 rcases tf ((a.tr == true) && ((a.m == ((0 : Nat) : Int)) && ((a.d == ((0 : Nat) : Int)) && true))) with b0 | b0
 ·rcases tf ((b.tr == true) && ((b.m == ((0 : Nat) : Int)) && ((b.d == ((0 : Nat) : Int)) && true))) with b1 | b1
  ·have gb0 : eqT a tT = true := b0
   have gb1 : eqT b tT = true := b1
   rw [show ruleC 19 sg [a, b] = (true, ⟨true, 0, 0⟩) by simp only [ruleC, gb0, gb1, Bool.true_and, Bool.false_and, Bool.not_true, Bool.not_false] <;> rfl]
   exact pK [] 5 5 (.k 8 (litNF b1) (.k 13 (litNF b0) (.n 13 .nil))) (.nil)
  ·have gb0 : eqT a tT = true := b0
   have gb1 : eqT b tT = false := b1
   rw [show ruleC 19 sg [a, b] = (false, ⟨true, 0, 0⟩) by simp only [ruleC, gb0, gb1, Bool.true_and, Bool.false_and, Bool.not_true, Bool.not_false] <;> rfl]
   exact pK [] 4 13 (.k 7 (litNT b1) (.k 13 (litNF b0) (.n 13 .nil))) (.nil)
 ·have gb0 : eqT a tT = false := b0
  rw [show ruleC 19 sg [a, b] = (false, ⟨true, 0, 0⟩) by simp only [ruleC, gb0, Bool.true_and, Bool.false_and, Bool.not_true, Bool.not_false] <;> rfl]
  exact pK [] 2 3 (.k 7 (litNT b0) (.n 13 .nil)) (.nil)
theorem clN20 (nn : Bool) (sg a : Ty) : CO 116 [.agg (tyC sg), .sl (tyL [a]) 1 nn] (.ret (.tup [.agg (tyC (ruleC 20 sg [a]).2), .bool (ruleC 20 sg [a]).1])) := by
 rcases tf ((a.tr == true) && ((a.m == ((0 : Nat) : Int)) && ((a.d == ((0 : Nat) : Int)) && true))) with b0 | b0
 ·have gb0 : eqT a tT = true := b0
  rw [show ruleC 20 sg [a] = (true, ⟨true, 0, 0⟩) by simp only [ruleC, gb0, Bool.true_and, Bool.false_and, Bool.not_true, Bool.not_false] <;> rfl]
  exact pK [] 3 1 (.k 8 (litNF b0) (.n 13 .nil)) (.nil)
 ·have gb0 : eqT a tT = false := b0
  rw [show ruleC 20 sg [a] = (false, ⟨true, 0, 0⟩) by simp only [ruleC, gb0, Bool.true_and, Bool.false_and, Bool.not_true, Bool.not_false] <;> rfl]
  exact pK [] 2 3 (.k 7 (litNT b0) (.n 13 .nil)) (.nil)
theorem clN21 (nn : Bool) (sg a : Ty) : CO 117 [.agg (tyC sg), .sl (tyL [a]) 1 nn] (.ret (.tup [.agg (tyC (ruleC 21 sg [a]).2), .bool (ruleC 21 sg [a]).1])) := by
 rw [show ruleC 21 sg [a] = ((!a.tr), ⟨a.tr, a.m, a.d⟩) by simp only [ruleC, cond_true, Bool.true_and, Bool.false_and, Bool.not_true, Bool.not_false] <;> rfl]
 exact pK [] 0 0 (.n 12 .nil) (.nil)
theorem clN22 (nn : Bool) (sg a : Ty) : CO 117 [.agg (tyC sg), .sl (tyL [a]) 1 nn] (.ret (.tup [.agg (tyC (ruleC 22 sg [a]).2), .bool (ruleC 22 sg [a]).1])) := by
 rw [show ruleC 22 sg [a] = ((!a.tr), ⟨a.tr, a.m, a.d⟩) by simp only [ruleC, cond_true, Bool.true_and, Bool.false_and, Bool.not_true, Bool.not_false] <;> rfl]
 exact pK [] 0 0 (.n 12 .nil) (.nil)
theorem clN23 (nn : Bool) (sg a : Ty) : CO 117 [.agg (tyC sg), .sl (tyL [a]) 1 nn] (.ret (.tup [.agg (tyC (ruleC 23 sg [a]).2), .bool (ruleC 23 sg [a]).1])) := by
 rw [show ruleC 23 sg [a] = ((!a.tr), ⟨a.tr, a.m, a.d⟩) by simp only [ruleC, cond_true, Bool.true_and, Bool.false_and, Bool.not_true, Bool.not_false] <;> rfl]
 exact pK [] 0 0 (.n 12 .nil) (.nil)
theorem clN24 (nn : Bool) (sg a : Ty) : CO 89 [.agg (tyC sg), .sl (tyL [a]) 1 nn] (.ret (.tup [.agg (tyC (ruleC 24 sg [a]).2), .bool (ruleC 24 sg [a]).1])) := by
 rw [show ruleC 24 sg [a] = (((a.tr == sg.tr) && ((a.m == sg.m) && ((a.d == sg.d) && true))), ⟨sg.tr, sg.m, sg.d⟩) by simp only [ruleC, cond_true, Bool.true_and, Bool.false_and, Bool.not_true, Bool.not_false] <;> rfl]
 exact pK [] 0 0 (.n 15 .nil) (.nil)
theorem eqT_iff {a b : Ty} : eqT a b = true ↔ a = b := by
 obtain ⟨t, m, d⟩ := a
 obtain ⟨t2, m2, d2⟩ := b
 simp [eqT]
theorem eqT_num (a b : Ty) : (eqT a b && numB [a, b]) = (eqT a b && !a.tr) := by
 cases h : eqT a b with
 | false => rfl
 | true => have := eqT_iff.mp h; subst this; simp [numB]
theorem numB_two (a b : Ty) : numB [a, b] = (!a.tr && !b.tr) := by simp [numB]
theorem numB_one (a : Ty) : numB [a] = !a.tr := by simp [numB]
theorem eqT_truth {a : Ty} (h : rightQ a = true) : eqT a tT = a.tr := by
 obtain ⟨t, m, d⟩ := a
 cases t with
 | true => simp [rightQ] at h; simp [eqT, tT, h.1, h.2]
 | false => simp [eqT, tT]
theorem addT_1 {a b : Ty} (ha : rightQ a = true) (hb : rightQ b = true) : addT a b 1 = ⟨false, IntKind.wrap .i64 (a.m + b.m), IntKind.wrap .i64 (a.d + b.d)⟩ := by
 have b1 := right_bound ha
 have b2 := right_bound hb
 unfold addT
 rw [w64_id (x := 1 * b.m) (by omega) (by omega), w64_id (x := 1 * b.d) (by omega) (by omega), Int.one_mul, Int.one_mul]
theorem addT_m {a b : Ty} (ha : rightQ a = true) (hb : rightQ b = true) : addT a b (-1) = ⟨false, IntKind.wrap .i64 (a.m - b.m), IntKind.wrap .i64 (a.d - b.d)⟩ := by
 have b1 := right_bound ha
 have b2 := right_bound hb
 unfold addT
 rw [w64_id (x := -1 * b.m) (by omega) (by omega), w64_id (x := -1 * b.d) (by omega) (by omega)]
 congr 2 <;> omega
def ruleS (v : Nat) (sg : Ty) (ts : List Ty) : Prop := (ruleN v sg ts).1 = (ruleC v sg ts).1 ∧ (ruleN v sg ts).2 = (ruleC v sg ts).2
theorem ruleS9 (sg a b : Ty) (ha : rightQ a = true) (hb : rightQ b = true) : ruleS 9 sg [a, b] := ⟨eqT_num a b, rfl⟩
theorem ruleS10 (sg a b : Ty) (ha : rightQ a = true) (hb : rightQ b = true) : ruleS 10 sg [a, b] := ⟨eqT_num a b, rfl⟩
theorem ruleS11 (sg a b : Ty) (ha : rightQ a = true) (hb : rightQ b = true) : ruleS 11 sg [a, b] := by
 unfold ruleS
 simp only [ruleN, ruleC]
 rw [addT_1 ha hb, numB_two]
 refine ⟨?_, rfl⟩
 simp only [rightQ, cond_false, Bool.and_assoc]
theorem ruleS12 (sg a b : Ty) (ha : rightQ a = true) (hb : rightQ b = true) : ruleS 12 sg [a, b] := by
 unfold ruleS
 simp only [ruleN, ruleC]
 rw [addT_m ha hb, numB_two]
 refine ⟨?_, rfl⟩
 simp only [rightQ, cond_false, Bool.and_assoc]
theorem ruleS13 (sg a b : Ty) (ha : rightQ a = true) (hb : rightQ b = true) : ruleS 13 sg [a, b] := ⟨eqT_num a b, rfl⟩
theorem ruleS14 (sg a b : Ty) (ha : rightQ a = true) (hb : rightQ b = true) : ruleS 14 sg [a, b] := ⟨eqT_num a b, rfl⟩
theorem ruleS15 (sg a b c : Ty) (ha : rightQ a = true) (hb : rightQ b = true) (hc : rightQ c = true) : ruleS 15 sg [a, b, c] := ⟨by simp only [ruleN, ruleC]; rw [eqT_truth ha], rfl⟩
theorem ruleS16 (sg a b : Ty) (ha : rightQ a = true) (hb : rightQ b = true) : ruleS 16 sg [a, b] := ⟨eqT_num a b, rfl⟩
theorem ruleS17 (sg a b : Ty) (ha : rightQ a = true) (hb : rightQ b = true) : ruleS 17 sg [a, b] := ⟨rfl, rfl⟩
theorem ruleS18 (sg a b : Ty) (ha : rightQ a = true) (hb : rightQ b = true) : ruleS 18 sg [a, b] := ⟨by simp only [ruleN, ruleC]; rw [eqT_truth ha, eqT_truth hb], rfl⟩
theorem ruleS19 (sg a b : Ty) (ha : rightQ a = true) (hb : rightQ b = true) : ruleS 19 sg [a, b] := ⟨by simp only [ruleN, ruleC]; rw [eqT_truth ha, eqT_truth hb], rfl⟩
theorem ruleS20 (sg a : Ty) (ha : rightQ a = true) : ruleS 20 sg [a] := ⟨by simp only [ruleN, ruleC]; rw [eqT_truth ha], rfl⟩
theorem ruleS21 (sg a : Ty) (ha : rightQ a = true) : ruleS 21 sg [a] := ⟨numB_one a, rfl⟩
theorem ruleS22 (sg a : Ty) (ha : rightQ a = true) : ruleS 22 sg [a] := ⟨numB_one a, rfl⟩
theorem ruleS23 (sg a : Ty) (ha : rightQ a = true) : ruleS 23 sg [a] := ⟨numB_one a, rfl⟩
theorem ruleS24 (sg a : Ty) (ha : rightQ a = true) : ruleS 24 sg [a] := ⟨rfl, rfl⟩
def ruL : List AV := [.bool false, .nilF, .bool false, .fn 112 [] [.pp [.bool false, .int .i64 1, .int .i64 0] 0], .bool false, .fn 112 [] [.pp [.bool false, .int .i64 0, .int .i64 1] 0], .bool false, .fn 112 [] [.pp [.bool false, .int .i64 0, .int .i64 0] 0], .bool false, .fn 112 [] [.pp [.bool true, .int .i64 0, .int .i64 0] 0], .bool true, .fn 113 [] [], .bool true, .fn 113 [] [], .bool true, .fn 113 [] [], .bool true, .fn 113 [] [], .bool false, .fn 114 [] [.pp [.fn 82 [] []] 0], .bool false, .fn 114 [] [.pp [.fn 82 [] []] 0], .bool false, .fn 115 [] [.pp [.int .i64 1] 0], .bool false, .fn 115 [] [.pp [.int .i64 (-1)] 0], .bool false, .fn 114 [] [.pp [.fn 82 [] []] 0], .bool false, .fn 114 [] [.pp [.fn 82 [] []] 0], .bool false, .fn 84 [] [], .bool false, .fn 114 [] [.pp [.fn 85 [] []] 0], .bool false, .fn 86 [] [], .bool false, .fn 116 [] [], .bool false, .fn 116 [] [], .bool false, .fn 116 [] [], .bool false, .fn 117 [] [], .bool false, .fn 117 [] [], .bool false, .fn 117 [] [], .bool true, .fn 89 [] []]
def argsU (ll : List (List Nat)) : List AV := ll.map fun a => .sl (i64L a) a.length false
def ctE (l : List Sg) (ns : List Nd) (nl nn : Bool) (ll : List (List Nat)) (k : Nat) : Env := [(0, .sl (sgL l) l.length nl), (1, .sl (ndL ns) ns.length nn), (4, .ptr 0 0 0), (5, .ptr 1 0 0), (7, .sl (argsU ll) ns.length true), (9, .sl ruL 25 true), (30, .sl (ndL ns) ns.length nn), (31, .int .i64 (ns.length : Int)), (32, .int .i64 (k : Int))]
def ctD : List (Nat × List AV) := [(50, [.ptr 0 0 0, .ptr 1 0 0])]
def ct1 : Nat × Blk := (1, ⟨[.int .i64 0], 0, false, 0, 0, true⟩)
def ct3 (sg : Ty) : Nat × Blk := (3, ⟨tyC sg, 0, false, 0, 0, true⟩)
def ctT (ts : List Ty) : Blk := ⟨tyL ts, 0, false, 0, 3, true⟩
def ctN (op : Int) (x : Nd) : Blk := ⟨[.int .i64 op, .bool x.neg, .str x.num, .str x.den, .str x.name], 0, false, 0, 0, true⟩
theorem ty_snoc (own : List Ty) (t : Ty) : List.take (own.length * 3) (tyL own) ++ [AV.bool t.tr, .int .i64 t.m, .int .i64 t.d] = tyL (own ++ [t]) := by
 rw [List.take_of_length_le (by rw [tyL_len]; omega), tyL_app]; simp [tyL, tyC]
theorem ciN_0 {nt : Nat} (hn : 84 ≤ nt) (l : List Sg) (ns : List Nd) (nl nn : Bool) (ll : List (List Nat)) (k : Nat) (ag : List Nat) (i : Nat) (x : Nd) (sg : Ty) (ts : List Ty) (j : Nat) (rj : List AV) (t : Ty) (rt : List AV) (hw : AV.int .i64 (IntKind.wrap .i64 ((i : Int) + ((1 : Nat) : Int))) = .int .i64 ((i + 1 : Nat) : Int))  (hj : (List.drop ((Int.toNat (i : Int)) * 1) (i64L ag)) = [AV.int .i64 (j : Int)] ++ rj) (ht : (List.drop ((0 + (Int.toNat (j : Int))) * 3) (tyL ts)) = tyC t ++ rt) (h0 : (decide (((0 : Nat) : Int) ≤ (j : Int))) = true) (h1 : (decide ((j : Int) < (ts.length : Int))) = true) (h2 : (decide (((0 : Nat) : Int) ≤ (i : Int))) = true) (h3 : (decide ((i : Int) < (ag.length : Int))) = true) (h4 : lit true (decide ((i : Int) < (ag.length : Int))) = true)  : ExecOk prog ap [] nt (loopBody 2 (bodyOf f30)) ⟨(ctE l ns nl nn ll k ++ [(11, .ptr 2 0 0), (12, .ptr 3 0 0), (49, .sl (i64L ag) ag.length false), (50, .int .i64 (ag.length : Int)), (13, .nilS), (51, .int .i64 (i : Int))]), [(0, ⟨[.ref 4 0 0 ts.length], 0, false, 0, 0, false⟩), ct1, (2, ctN x.op x), ct3 sg, (4, ctT ts)], .dead, ctD⟩ (.normal) ⟨(ctE l ns nl nn ll k ++ [(11, .ptr 2 0 0), (12, .ptr 3 0 0), (49, .sl (i64L ag) ag.length false), (50, .int .i64 (ag.length : Int)), (13, .ref 4 0 0 1), (51, .int .i64 (((i + 1) : Nat) : Int))]), [(0, ⟨[.ref 5 0 0 ts.length], 0, false, 0, 0, false⟩), ct1, (2, ctN x.op x), ct3 sg, (4, ⟨[.bool t.tr, .int .i64 t.m, .int .i64 t.d], 0, false, 0, 3, true⟩), (5, ctT ts)], .dead, ctD⟩ := pJ 30 [] 2 1 (.n 3 (.a (chk_of [.bool, .int .i64, .int .i64] ht rfl) (.c h0 (.c h1 (.k 2 h2 (.c h3 (.c h4 .nil))))))) (.v 62 (.eq hw) (.v 59 (.rd [.bool, .int .i64, .int .i64] ht rfl) (.v 53 (.ppt hj) .nil))) hn
theorem ciN_1 {nt : Nat} (hn : 84 ≤ nt) (l : List Sg) (ns : List Nd) (nl nn : Bool) (ll : List (List Nat)) (k : Nat) (ag : List Nat) (i : Nat) (x : Nd) (sg : Ty) (ts : List Ty)   (h0 : lit false (decide ((i : Int) < (ag.length : Int))) = true)  : ExecOk prog ap [] nt (loopBody 2 (bodyOf f30)) ⟨(ctE l ns nl nn ll k ++ [(11, .ptr 2 0 0), (12, .ptr 3 0 0), (49, .sl (i64L ag) ag.length false), (50, .int .i64 (ag.length : Int)), (13, .nilS), (51, .int .i64 (i : Int))]), [(0, ⟨[.ref 4 0 0 ts.length], 0, false, 0, 0, false⟩), ct1, (2, ctN x.op x), ct3 sg, (4, ctT ts)], .dead, ctD⟩ (.exit 2) ⟨(ctE l ns nl nn ll k ++ [(11, .ptr 2 0 0), (12, .ptr 3 0 0), (13, .nilS)]), [(0, ⟨[.ref 4 0 0 ts.length], 0, false, 0, 0, false⟩), ct1, (2, ctN x.op x), ct3 sg, (4, ctT ts)], .dead, ctD⟩ := pJ 30 [] 1 0 (.c h0 .nil) (.nil) hn
theorem ciC_0 {nt : Nat} (hn : 84 ≤ nt) (l : List Sg) (ns : List Nd) (nl nn : Bool) (ll : List (List Nat)) (k : Nat) (ag : List Nat) (i : Nat) (x : Nd) (sg : Ty) (ts own : List Ty) (j : Nat) (rj : List AV) (t : Ty) (rt : List AV) (hw : AV.int .i64 (IntKind.wrap .i64 ((i : Int) + ((1 : Nat) : Int))) = .int .i64 ((i + 1 : Nat) : Int))  (hj : (List.drop ((Int.toNat (i : Int)) * 1) (i64L ag)) = [AV.int .i64 (j : Int)] ++ rj) (ht : (List.drop ((0 + (Int.toNat (j : Int))) * 3) (tyL ts)) = tyC t ++ rt) (h0 : (Nat.ble (own.length + 1) 1099511627776) = true) (h1 : (Nat.ble (own.length * 3) (List.length (tyL own))) = true) (h2 : (decide (((0 : Nat) : Int) ≤ (j : Int))) = true) (h3 : (decide ((j : Int) < (ts.length : Int))) = true) (h4 : (decide (((0 : Nat) : Int) ≤ (i : Int))) = true) (h5 : (decide ((i : Int) < (ag.length : Int))) = true) (h6 : lit true (decide ((i : Int) < (ag.length : Int))) = true)  : ExecOk prog ap [] nt (loopBody 2 (bodyOf f30)) ⟨(ctE l ns nl nn ll k ++ [(11, .ptr 2 0 0), (12, .ptr 3 0 0), (49, .sl (i64L ag) ag.length false), (50, .int .i64 (ag.length : Int)), (13, .ref 4 0 0 own.length), (51, .int .i64 (i : Int))]), [(0, ⟨[.ref 5 0 0 ts.length], 0, false, 0, 0, false⟩), ct1, (2, ctN x.op x), ct3 sg, (4, ctT own), (5, ctT ts)], .dead, ctD⟩ (.normal) ⟨(ctE l ns nl nn ll k ++ [(11, .ptr 2 0 0), (12, .ptr 3 0 0), (49, .sl (i64L ag) ag.length false), (50, .int .i64 (ag.length : Int)), (13, .ref 4 0 0 (own.length + 1)), (51, .int .i64 (((i + 1) : Nat) : Int))]), [(0, ⟨[.ref 5 0 0 ts.length], 0, false, 0, 0, false⟩), ct1, (2, ctN x.op x), ct3 sg, (4, ⟨(tyL (own ++ [t])), 0, false, 0, 3, true⟩), (5, ctT ts)], .dead, ctD⟩ := pJ 30 [] 1 1 (.k 1 h0 (.c h1 (.n 1 (.a (chk_of [.bool, .int .i64, .int .i64] ht rfl) (.c h2 (.c h3 (.k 2 h4 (.c h5 (.c h6 .nil))))))))) (.v 62 (.eq hw) (.b 61 (ty_snoc own t) (.v 59 (.rd [.bool, .int .i64, .int .i64] ht rfl) (.v 53 (.ppt hj) .nil)))) hn
theorem ciC_1 {nt : Nat} (hn : 84 ≤ nt) (l : List Sg) (ns : List Nd) (nl nn : Bool) (ll : List (List Nat)) (k : Nat) (ag : List Nat) (i : Nat) (x : Nd) (sg : Ty) (ts own : List Ty)   (h0 : lit false (decide ((i : Int) < (ag.length : Int))) = true)  : ExecOk prog ap [] nt (loopBody 2 (bodyOf f30)) ⟨(ctE l ns nl nn ll k ++ [(11, .ptr 2 0 0), (12, .ptr 3 0 0), (49, .sl (i64L ag) ag.length false), (50, .int .i64 (ag.length : Int)), (13, .ref 4 0 0 own.length), (51, .int .i64 (i : Int))]), [(0, ⟨[.ref 5 0 0 ts.length], 0, false, 0, 0, false⟩), ct1, (2, ctN x.op x), ct3 sg, (4, ctT own), (5, ctT ts)], .dead, ctD⟩ (.exit 2) ⟨(ctE l ns nl nn ll k ++ [(11, .ptr 2 0 0), (12, .ptr 3 0 0), (13, .ref 4 0 0 own.length)]), [(0, ⟨[.ref 5 0 0 ts.length], 0, false, 0, 0, false⟩), ct1, (2, ctN x.op x), ct3 sg, (4, ctT own), (5, ctT ts)], .dead, ctD⟩ := pJ 30 [] 1 0 (.c h0 .nil) (.nil) hn
theorem ciZ_0 {nt : Nat} (hn : 84 ≤ nt) (l : List Sg) (ns : List Nd) (nl nn : Bool) (ll : List (List Nat)) (k : Nat) (ag : List Nat) (i : Nat) (x : Nd) (sg : Ty)   (h0 : lit false (decide ((i : Int) < (ag.length : Int))) = true)  : ExecOk prog ap [] nt (loopBody 2 (bodyOf f30)) ⟨(ctE l ns nl nn ll k ++ [(11, .ptr 2 0 0), (12, .ptr 3 0 0), (49, .sl (i64L ag) ag.length false), (50, .int .i64 (ag.length : Int)), (13, .nilS), (51, .int .i64 (i : Int))]), [(0, ⟨[.nilS], 0, false, 0, 0, true⟩), ct1, (2, ctN x.op x), ct3 sg], .dead, ctD⟩ (.exit 2) ⟨(ctE l ns nl nn ll k ++ [(11, .ptr 2 0 0), (12, .ptr 3 0 0), (13, .nilS)]), [(0, ⟨[.nilS], 0, false, 0, 0, true⟩), ct1, (2, ctN x.op x), ct3 sg], .dead, ctD⟩ := pJ 30 [] 1 0 (.c h0 .nil) (.nil) hn
def c3SZ (op : Int) (l : List Sg) (ns : List Nd) (nl nn : Bool) (ll : List (List Nat)) (k : Nat) (x : Nd) (sg : Ty) (ts own : List Ty) : St := ⟨(ctE l ns nl nn ll k ++ [(11, .ptr 2 0 0), (12, .ptr 3 0 0), (13, .nilS)]), [(0, ⟨[.nilS], 0, false, 0, 0, true⟩), ct1, (2, ctN op x), ct3 sg], .dead, ctD⟩
def c3EZ (op : Int) (l : List Sg) (ns : List Nd) (nl nn : Bool) (ll : List (List Nat)) (k : Nat) (x : Nd) (sg : Ty) (ts own : List Ty) (q : Ty) (gd : Bool) : St := ⟨(ctE l ns nl nn ll k ++ [(16, .ptr 4 0 0), (17, .bool gd)]), [(0, ⟨[.nilS], 0, false, 0, 0, true⟩), ct1, (2, ctN op x), ct3 sg, (4, ⟨[.bool q.tr, .int .i64 q.m, .int .i64 q.d], 0, false, 0, 0, true⟩)], .dead, ctD⟩
def S3Z (op : Int) (f : Nat) (cap : List AV) : Prop := ∀ (l : List Sg) (ns : List Nd) (nl nn : Bool) (ll : List (List Nat)) (k : Nat) (x : Nd) (sg : Ty) (ts own : List Ty) (q : Ty) (gd : Bool), CO f (.agg (tyC sg) :: .nilS :: cap) (.ret (.tup [.agg (tyC q), .bool gd])) → LoopOk prog ap [] 84 (regC 19 (bodyOf f30)) (c3SZ op l ns nl nn ll k x sg ts own) .normal (c3EZ op l ns nl nn ll k x sg ts own q gd)
theorem s3Z1 : S3Z 1 112 [.pp [.bool false, .int .i64 1, .int .i64 0] 0] := fun l ns nl nn ll k x sg ts own q gd c0 nt hn => pJ 30 [] 0 0 (.n 8 .nil) (.c c0 .nil) hn
theorem s3Z2 : S3Z 2 112 [.pp [.bool false, .int .i64 0, .int .i64 1] 0] := fun l ns nl nn ll k x sg ts own q gd c0 nt hn => pJ 30 [] 0 0 (.n 8 .nil) (.c c0 .nil) hn
theorem s3Z3 : S3Z 3 112 [.pp [.bool false, .int .i64 0, .int .i64 0] 0] := fun l ns nl nn ll k x sg ts own q gd c0 nt hn => pJ 30 [] 0 0 (.n 8 .nil) (.c c0 .nil) hn
theorem s3Z4 : S3Z 4 112 [.pp [.bool true, .int .i64 0, .int .i64 0] 0] := fun l ns nl nn ll k x sg ts own q gd c0 nt hn => pJ 30 [] 0 0 (.n 8 .nil) (.c c0 .nil) hn
theorem s3Z5 : S3Z 5 113 [] := fun l ns nl nn ll k x sg ts own q gd c0 nt hn => pJ 30 [] 0 0 (.n 8 .nil) (.c c0 .nil) hn
theorem s3Z6 : S3Z 6 113 [] := fun l ns nl nn ll k x sg ts own q gd c0 nt hn => pJ 30 [] 0 0 (.n 8 .nil) (.c c0 .nil) hn
theorem s3Z7 : S3Z 7 113 [] := fun l ns nl nn ll k x sg ts own q gd c0 nt hn => pJ 30 [] 0 0 (.n 8 .nil) (.c c0 .nil) hn
theorem s3Z8 : S3Z 8 113 [] := fun l ns nl nn ll k x sg ts own q gd c0 nt hn => pJ 30 [] 0 0 (.n 8 .nil) (.c c0 .nil) hn
def c3SN (op : Int) (l : List Sg) (ns : List Nd) (nl nn : Bool) (ll : List (List Nat)) (k : Nat) (x : Nd) (sg : Ty) (ts own : List Ty) : St := ⟨(ctE l ns nl nn ll k ++ [(11, .ptr 2 0 0), (12, .ptr 3 0 0), (13, .nilS)]), [(0, ⟨[.ref 4 0 0 ts.length], 0, false, 0, 0, false⟩), ct1, (2, ctN op x), ct3 sg, (4, ctT ts)], .dead, ctD⟩
def c3EN (op : Int) (l : List Sg) (ns : List Nd) (nl nn : Bool) (ll : List (List Nat)) (k : Nat) (x : Nd) (sg : Ty) (ts own : List Ty) (q : Ty) (gd : Bool) : St := ⟨(ctE l ns nl nn ll k ++ [(16, .ptr 4 0 0), (17, .bool gd)]), [(0, ⟨[.ref 5 0 0 ts.length], 0, false, 0, 0, false⟩), ct1, (2, ctN op x), ct3 sg, (4, ⟨[.bool q.tr, .int .i64 q.m, .int .i64 q.d], 0, false, 0, 0, true⟩), (5, ctT ts)], .dead, ctD⟩
def S3N (op : Int) (f : Nat) (cap : List AV) : Prop := ∀ (l : List Sg) (ns : List Nd) (nl nn : Bool) (ll : List (List Nat)) (k : Nat) (x : Nd) (sg : Ty) (ts own : List Ty) (q : Ty) (gd : Bool), CO f (.agg (tyC sg) :: .nilS :: cap) (.ret (.tup [.agg (tyC q), .bool gd])) → LoopOk prog ap [] 84 (regC 19 (bodyOf f30)) (c3SN op l ns nl nn ll k x sg ts own) .normal (c3EN op l ns nl nn ll k x sg ts own q gd)
theorem s3N1 : S3N 1 112 [.pp [.bool false, .int .i64 1, .int .i64 0] 0] := fun l ns nl nn ll k x sg ts own q gd c0 nt hn => pJ 30 [] 0 0 (.n 8 .nil) (.c c0 .nil) hn
theorem s3N2 : S3N 2 112 [.pp [.bool false, .int .i64 0, .int .i64 1] 0] := fun l ns nl nn ll k x sg ts own q gd c0 nt hn => pJ 30 [] 0 0 (.n 8 .nil) (.c c0 .nil) hn
theorem s3N3 : S3N 3 112 [.pp [.bool false, .int .i64 0, .int .i64 0] 0] := fun l ns nl nn ll k x sg ts own q gd c0 nt hn => pJ 30 [] 0 0 (.n 8 .nil) (.c c0 .nil) hn
theorem s3N4 : S3N 4 112 [.pp [.bool true, .int .i64 0, .int .i64 0] 0] := fun l ns nl nn ll k x sg ts own q gd c0 nt hn => pJ 30 [] 0 0 (.n 8 .nil) (.c c0 .nil) hn
theorem s3N5 : S3N 5 113 [] := fun l ns nl nn ll k x sg ts own q gd c0 nt hn => pJ 30 [] 0 0 (.n 8 .nil) (.c c0 .nil) hn
theorem s3N6 : S3N 6 113 [] := fun l ns nl nn ll k x sg ts own q gd c0 nt hn => pJ 30 [] 0 0 (.n 8 .nil) (.c c0 .nil) hn
theorem s3N7 : S3N 7 113 [] := fun l ns nl nn ll k x sg ts own q gd c0 nt hn => pJ 30 [] 0 0 (.n 8 .nil) (.c c0 .nil) hn
theorem s3N8 : S3N 8 113 [] := fun l ns nl nn ll k x sg ts own q gd c0 nt hn => pJ 30 [] 0 0 (.n 8 .nil) (.c c0 .nil) hn
def c3SC (op : Int) (l : List Sg) (ns : List Nd) (nl nn : Bool) (ll : List (List Nat)) (k : Nat) (x : Nd) (sg : Ty) (ts own : List Ty) : St := ⟨(ctE l ns nl nn ll k ++ [(11, .ptr 2 0 0), (12, .ptr 3 0 0), (13, .ref 4 0 0 own.length)]), [(0, ⟨[.ref 5 0 0 ts.length], 0, false, 0, 0, false⟩), ct1, (2, ctN op x), ct3 sg, (4, ctT own), (5, ctT ts)], .dead, ctD⟩
def c3EC (op : Int) (l : List Sg) (ns : List Nd) (nl nn : Bool) (ll : List (List Nat)) (k : Nat) (x : Nd) (sg : Ty) (ts own : List Ty) (q : Ty) (gd : Bool) : St := ⟨(ctE l ns nl nn ll k ++ [(16, .ptr 5 0 0), (17, .bool gd)]), [(0, ⟨[.ref 6 0 0 ts.length], 0, false, 0, 0, false⟩), ct1, (2, ctN op x), ct3 sg, (4, ⟨(tyL own), 0, true, (List.length (tyL own)), 3, true⟩), (5, ⟨[.bool q.tr, .int .i64 q.m, .int .i64 q.d], 0, false, 0, 0, true⟩), (6, ctT ts)], .dead, ctD⟩
def S3C (op : Int) (f : Nat) (cap : List AV) : Prop := ∀ (l : List Sg) (ns : List Nd) (nl nn : Bool) (ll : List (List Nat)) (k : Nat) (x : Nd) (sg : Ty) (ts own : List Ty) (q : Ty) (gd : Bool), CO f (.agg (tyC sg) :: .sl (List.take (own.length * 3) (tyL own)) own.length true :: cap) (.ret (.tup [.agg (tyC q), .bool gd])) → LoopOk prog ap [] 84 (regC 19 (bodyOf f30)) (c3SC op l ns nl nn ll k x sg ts own) .normal (c3EC op l ns nl nn ll k x sg ts own q gd)
theorem s3C9 : S3C 9 114 [.pp [.fn 82 [] []] 0] := fun l ns nl nn ll k x sg ts own q gd c0 nt hn => pJ 30 [] 0 0 (.n 8 .nil) (.c c0 .nil) hn
theorem s3C10 : S3C 10 114 [.pp [.fn 82 [] []] 0] := fun l ns nl nn ll k x sg ts own q gd c0 nt hn => pJ 30 [] 0 0 (.n 8 .nil) (.c c0 .nil) hn
theorem s3C11 : S3C 11 115 [.pp [.int .i64 1] 0] := fun l ns nl nn ll k x sg ts own q gd c0 nt hn => pJ 30 [] 0 0 (.n 8 .nil) (.c c0 .nil) hn
theorem s3C12 : S3C 12 115 [.pp [.int .i64 (-1)] 0] := fun l ns nl nn ll k x sg ts own q gd c0 nt hn => pJ 30 [] 0 0 (.n 8 .nil) (.c c0 .nil) hn
theorem s3C13 : S3C 13 114 [.pp [.fn 82 [] []] 0] := fun l ns nl nn ll k x sg ts own q gd c0 nt hn => pJ 30 [] 0 0 (.n 8 .nil) (.c c0 .nil) hn
theorem s3C14 : S3C 14 114 [.pp [.fn 82 [] []] 0] := fun l ns nl nn ll k x sg ts own q gd c0 nt hn => pJ 30 [] 0 0 (.n 8 .nil) (.c c0 .nil) hn
theorem s3C15 : S3C 15 84 [] := fun l ns nl nn ll k x sg ts own q gd c0 nt hn => pJ 30 [] 0 0 (.n 8 .nil) (.c c0 .nil) hn
theorem s3C16 : S3C 16 114 [.pp [.fn 85 [] []] 0] := fun l ns nl nn ll k x sg ts own q gd c0 nt hn => pJ 30 [] 0 0 (.n 8 .nil) (.c c0 .nil) hn
theorem s3C17 : S3C 17 86 [] := fun l ns nl nn ll k x sg ts own q gd c0 nt hn => pJ 30 [] 0 0 (.n 8 .nil) (.c c0 .nil) hn
theorem s3C18 : S3C 18 116 [] := fun l ns nl nn ll k x sg ts own q gd c0 nt hn => pJ 30 [] 0 0 (.n 8 .nil) (.c c0 .nil) hn
theorem s3C19 : S3C 19 116 [] := fun l ns nl nn ll k x sg ts own q gd c0 nt hn => pJ 30 [] 0 0 (.n 8 .nil) (.c c0 .nil) hn
theorem s3C20 : S3C 20 116 [] := fun l ns nl nn ll k x sg ts own q gd c0 nt hn => pJ 30 [] 0 0 (.n 8 .nil) (.c c0 .nil) hn
theorem s3C21 : S3C 21 117 [] := fun l ns nl nn ll k x sg ts own q gd c0 nt hn => pJ 30 [] 0 0 (.n 8 .nil) (.c c0 .nil) hn
theorem s3C22 : S3C 22 117 [] := fun l ns nl nn ll k x sg ts own q gd c0 nt hn => pJ 30 [] 0 0 (.n 8 .nil) (.c c0 .nil) hn
theorem s3C23 : S3C 23 117 [] := fun l ns nl nn ll k x sg ts own q gd c0 nt hn => pJ 30 [] 0 0 (.n 8 .nil) (.c c0 .nil) hn
theorem s3C24 : S3C 24 89 [] := fun l ns nl nn ll k x sg ts own q gd c0 nt hn => pJ 30 [] 0 0 (.n 8 .nil) (.c c0 .nil) hn
end Go.Proofs.Tryz
