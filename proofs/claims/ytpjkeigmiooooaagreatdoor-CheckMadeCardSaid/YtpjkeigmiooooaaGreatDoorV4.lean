/- The law CheckMade returns true for every input: expressions that are made of a type have it, and their nodes the types of the reference model. No conditions beyond the given row. -/
import Derived.Test.YtpjkeigmiooooaaGreatDoorV3
import Derived.Test.YtpjkeigmiooooaaGreatDoorM5
import Derived.Test.YtpjkeigmiooooaaGreatDoorV1
import Derived.Test.YtpjkeigmiooooaaGreatDoorM4
import Derived.Test.YtpjkeigmiooooaaGreatDoorCards
import Derived.Test.YtpjkeigmiooooaaGreatDoorTie
import Derived.Deep.DeepHandedRow
set_option linter.unusedSimpArgs false
set_option linter.unusedVariables false
set_option maxRecDepth 100000
open Go AM
namespace Go.Proofs.Tryz
theorem ctZ_0 {nt : Nat} (hn : 84 ≤ nt) (l : List Sg) (ns : List Nd) (nl nn : Bool) (ll : List (List Nat)) (k : Nat) (sg q : Ty) (gd : Bool) (x : Nd) (r : List Nd) (rs ra : List AV) (ag : List Nat) (hw : AV.int .i64 (IntKind.wrap .i64 ((k : Int) + ((1 : Nat) : Int))) = .int .i64 ((k + 1 : Nat) : Int))  (hdr : (List.drop ((Int.toNat (k : Int)) * 5) (ndL ns)) = ndC x ++ ndL r) (hrow : (List.drop ((Int.toNat x.op) * 2) ruL) = [AV.bool (namI x.op)] ++ rs) (hag : (List.drop ((Int.toNat (k : Int)) * 1) (argsU ll)) = [AV.sl (i64L ag) ag.length false] ++ ra) (h0 : lit false (!gd) = true) (h1 : (decide (((0 : Nat) : Int) ≤ (k : Int))) = true) (h2 : (decide ((k : Int) < (ns.length : Int))) = true) (h3 : lit true (namI x.op) = true) (h4 : (decide (((0 : Nat) : Int) ≤ x.op)) = true) (h5 : (decide (x.op < ((25 : Nat) : Int))) = true) (h6 : lit true (decide ((k : Int) < (ns.length : Int))) = true) (c0 : CO 53 [.sl (sgL l) l.length nl, .agg [.int .i64 x.op, .bool x.neg, .str x.num, .str x.den, .str x.name]] (.ret (.agg [.bool sg.tr, .int .i64 sg.m, .int .i64 sg.d]))) (l0 : LoopOk prog ap [] 84 (.block 2 (.loop (loopBody 2 (bodyOf f30)))) ⟨[(0, .sl (sgL l) l.length nl), (1, .sl (ndL ns) ns.length nn), (4, .ptr 0 0 0), (5, .ptr 1 0 0), (6, .dead), (7, .sl (argsU ll) ns.length true), (9, .sl ruL 25 true), (10, .int .i64 (k : Int)), (11, .ptr 2 0 0), (12, .ptr 3 0 0), (13, .nilS), (15, .dead), (16, .dead), (17, .dead), (21, .dead), (30, .sl (ndL ns) ns.length nn), (31, .int .i64 (ns.length : Int)), (32, .int .i64 (k : Int)), (33, .bool (decide ((k : Int) < (ns.length : Int)))), (42, .bool (namI x.op)), (49, .sl (i64L ag) ag.length false), (50, .int .i64 (ag.length : Int)), (51, .int .i64 0), (52, .dead), (76, .dead)], [(0, ⟨[.nilS], 0, false, 0, 0, true⟩), ct1, (2, ctN x.op x), ct3 sg], .dead, ctD⟩ (.normal) ⟨(ctE l ns nl nn ll k ++ [(11, .ptr 2 0 0), (12, .ptr 3 0 0), (13, .nilS)]), [(0, ⟨[.nilS], 0, false, 0, 0, true⟩), ct1, (2, ctN x.op x), ct3 sg], .dead, ctD⟩) (l1 : LoopOk prog ap [] 84 (regC 19 (bodyOf f30)) ⟨(ctE l ns nl nn ll k ++ [(11, .ptr 2 0 0), (12, .ptr 3 0 0), (13, .nilS)]), [(0, ⟨[.nilS], 0, false, 0, 0, true⟩), ct1, (2, ctN x.op x), ct3 sg], .dead, ctD⟩ (.normal) ⟨(ctE l ns nl nn ll k ++ [(16, .ptr 4 0 0), (17, .bool gd)]), [(0, ⟨[.nilS], 0, false, 0, 0, true⟩), ct1, (2, ctN x.op x), ct3 sg, (4, ⟨[.bool q.tr, .int .i64 q.m, .int .i64 q.d], 0, false, 0, 0, true⟩)], .dead, ctD⟩) : ExecOk prog ap [] nt (loopBody 0 (bodyOf f30)) ⟨(ctE l ns nl nn ll k), [(0, ⟨[.nilS], 0, false, 0, 0, true⟩), ct1], .dead, ctD⟩ (.normal) ⟨[(0, .sl (sgL l) l.length nl), (1, .sl (ndL ns) ns.length nn), (4, .ptr 0 0 0), (5, .ptr 1 0 0), (7, .sl (argsU ll) ns.length true), (9, .sl ruL 25 true), (30, .sl (ndL ns) ns.length nn), (31, .int .i64 (ns.length : Int)), (32, .int .i64 (((k + 1) : Nat) : Int))], [(0, ⟨[.ref 2 0 0 1], 0, false, 0, 0, false⟩), ct1, (2, ⟨[.bool q.tr, .int .i64 q.m, .int .i64 q.d], 0, false, 0, 3, true⟩)], .dead, ctD⟩ := pN 30 [2, 1019] 4 3 (.k 8 h0 (.k 1 h1 (.c h2 (.k 6 h3 (.k 1 h4 (.c h5 (.k 7 h1 (.c h2 (.c h6 .nil))))))))) (.v 82 (.eq hw) (.l l1 (.l l0 (.v 48 (.ppt hag) (.c c0 (.v 40 (.ppt hrow) (.v 35 (.ppt hdr) .nil))))))) hn
theorem ctZ_1 {nt : Nat} (hn : 84 ≤ nt) (l : List Sg) (ns : List Nd) (nl nn : Bool) (ll : List (List Nat)) (k : Nat) (q : Ty) (gd : Bool) (x : Nd) (r : List Nd) (rs ra : List AV) (ag : List Nat) (hw : AV.int .i64 (IntKind.wrap .i64 ((k : Int) + ((1 : Nat) : Int))) = .int .i64 ((k + 1 : Nat) : Int))  (hdr : (List.drop ((Int.toNat (k : Int)) * 5) (ndL ns)) = ndC x ++ ndL r) (hrow : (List.drop ((Int.toNat x.op) * 2) ruL) = [AV.bool (namI x.op)] ++ rs) (hag : (List.drop ((Int.toNat (k : Int)) * 1) (argsU ll)) = [AV.sl (i64L ag) ag.length false] ++ ra) (h0 : lit false (!gd) = true) (h1 : (decide (((0 : Nat) : Int) ≤ (k : Int))) = true) (h2 : (decide ((k : Int) < (ns.length : Int))) = true) (h3 : lit false (namI x.op) = true) (h4 : (decide (((0 : Nat) : Int) ≤ x.op)) = true) (h5 : (decide (x.op < ((25 : Nat) : Int))) = true) (h6 : lit true (decide ((k : Int) < (ns.length : Int))) = true) (l0 : LoopOk prog ap [] 84 (.block 2 (.loop (loopBody 2 (bodyOf f30)))) ⟨[(0, .sl (sgL l) l.length nl), (1, .sl (ndL ns) ns.length nn), (4, .ptr 0 0 0), (5, .ptr 1 0 0), (6, .dead), (7, .sl (argsU ll) ns.length true), (9, .sl ruL 25 true), (10, .int .i64 (k : Int)), (11, .ptr 2 0 0), (12, .ptr 3 0 0), (13, .nilS), (15, .dead), (16, .dead), (17, .dead), (21, .dead), (30, .sl (ndL ns) ns.length nn), (31, .int .i64 (ns.length : Int)), (32, .int .i64 (k : Int)), (33, .bool (decide ((k : Int) < (ns.length : Int)))), (42, .bool (namI x.op)), (49, .sl (i64L ag) ag.length false), (50, .int .i64 (ag.length : Int)), (51, .int .i64 0), (52, .dead), (76, .dead)], [(0, ⟨[.nilS], 0, false, 0, 0, true⟩), ct1, (2, ctN x.op x), (3, ⟨[.bool false, .int .i64 0, .int .i64 0], 0, false, 0, 0, true⟩)], .dead, ctD⟩ (.normal) ⟨(ctE l ns nl nn ll k ++ [(11, .ptr 2 0 0), (12, .ptr 3 0 0), (13, .nilS)]), [(0, ⟨[.nilS], 0, false, 0, 0, true⟩), ct1, (2, ctN x.op x), (3, ⟨[.bool false, .int .i64 0, .int .i64 0], 0, false, 0, 0, true⟩)], .dead, ctD⟩) (l1 : LoopOk prog ap [] 84 (regC 19 (bodyOf f30)) ⟨(ctE l ns nl nn ll k ++ [(11, .ptr 2 0 0), (12, .ptr 3 0 0), (13, .nilS)]), [(0, ⟨[.nilS], 0, false, 0, 0, true⟩), ct1, (2, ctN x.op x), (3, ⟨[.bool false, .int .i64 0, .int .i64 0], 0, false, 0, 0, true⟩)], .dead, ctD⟩ (.normal) ⟨(ctE l ns nl nn ll k ++ [(16, .ptr 4 0 0), (17, .bool gd)]), [(0, ⟨[.nilS], 0, false, 0, 0, true⟩), ct1, (2, ctN x.op x), (3, ⟨[.bool false, .int .i64 0, .int .i64 0], 0, false, 0, 0, true⟩), (4, ⟨[.bool q.tr, .int .i64 q.m, .int .i64 q.d], 0, false, 0, 0, true⟩)], .dead, ctD⟩) : ExecOk prog ap [] nt (loopBody 0 (bodyOf f30)) ⟨(ctE l ns nl nn ll k), [(0, ⟨[.nilS], 0, false, 0, 0, true⟩), ct1], .dead, ctD⟩ (.normal) ⟨[(0, .sl (sgL l) l.length nl), (1, .sl (ndL ns) ns.length nn), (4, .ptr 0 0 0), (5, .ptr 1 0 0), (7, .sl (argsU ll) ns.length true), (9, .sl ruL 25 true), (30, .sl (ndL ns) ns.length nn), (31, .int .i64 (ns.length : Int)), (32, .int .i64 (((k + 1) : Nat) : Int))], [(0, ⟨[.ref 2 0 0 1], 0, false, 0, 0, false⟩), ct1, (2, ⟨[.bool q.tr, .int .i64 q.m, .int .i64 q.d], 0, false, 0, 3, true⟩)], .dead, ctD⟩ := pN 30 [2, 1019] 4 1 (.k 8 h0 (.k 1 h1 (.c h2 (.c h3 (.k 1 h4 (.c h5 (.k 7 h1 (.c h2 (.c h6 .nil))))))))) (.v 82 (.eq hw) (.l l1 (.l l0 (.v 48 (.ppt hag) (.v 40 (.ppt hrow) (.v 35 (.ppt hdr) .nil)))))) hn
theorem ctZ_2 {nt : Nat} (hn : 84 ≤ nt) (l : List Sg) (ns : List Nd) (nl nn : Bool) (ll : List (List Nat)) (k : Nat)   (h0 : lit false (decide ((k : Int) < (ns.length : Int))) = true)  : ExecOk prog ap [] nt (loopBody 0 (bodyOf f30)) ⟨(ctE l ns nl nn ll k), [(0, ⟨[.nilS], 0, false, 0, 0, true⟩), ct1], .dead, ctD⟩ (.exit 0) ⟨[(4, .ptr 0 0 0), (5, .ptr 1 0 0)], [(0, ⟨[.nilS], 0, false, 0, 0, true⟩), ct1], .dead, ctD⟩ := pN 30 [2, 1019] 1 0 (.c h0 .nil) (.nil) hn
theorem cuZ_0 {nt : Nat} (hn : 84 ≤ nt) (l : List Sg) (ns : List Nd) (nl nn : Bool) (ll : List (List Nat)) (k : Nat) (x : Nd) (r : List Nd) (rs : List AV)  (hdr : (List.drop ((Int.toNat (k : Int)) * 5) (ndL ns)) = ndC x ++ ndL r) (hrow : (List.drop ((Int.toNat x.op) * 2) ruL) = [AV.bool (namI x.op)] ++ rs) (h0 : lit true (namI x.op) = true) (h1 : (decide (((0 : Nat) : Int) ≤ x.op)) = true) (h2 : (decide (x.op < ((25 : Nat) : Int))) = true) (h3 : (decide (((0 : Nat) : Int) ≤ (k : Int))) = true) (h4 : (decide ((k : Int) < (ns.length : Int))) = true) (h5 : lit true (decide ((k : Int) < (ns.length : Int))) = true) (c0 : CO 53 [.sl (sgL l) l.length nl, .agg [.int .i64 x.op, .bool x.neg, .str x.num, .str x.den, .str x.name]] (.pan (.ifc 63 (.int .i64 12)))) : ExecOk prog ap [] nt (loopBody 0 (bodyOf f30)) ⟨(ctE l ns nl nn ll k), [(0, ⟨[.nilS], 0, false, 0, 0, true⟩), ct1], .dead, ctD⟩ (.panic (.ifc 63 (.int .i64 12))) ⟨[(4, .ptr 0 0 0), (5, .ptr 1 0 0)], [(0, ⟨[.nilS], 0, false, 0, 0, true⟩), ct1], .dead, ctD⟩ := pN 30 [2, 1019] 2 3 (.k 5 h0 (.k 1 h1 (.c h2 (.k 7 h3 (.c h4 (.c h5 .nil)))))) (.c c0 (.v 40 (.ppt hrow) (.v 35 (.ppt hdr) .nil))) hn
theorem ctN_0 {nt : Nat} (hn : 84 ≤ nt) (l : List Sg) (ns : List Nd) (nl nn : Bool) (ll : List (List Nat)) (ts : List Ty) (k : Nat) (sg q : Ty) (gd : Bool) (x : Nd) (r : List Nd) (rs ra : List AV) (ag : List Nat) (hw : AV.int .i64 (IntKind.wrap .i64 ((k : Int) + ((1 : Nat) : Int))) = .int .i64 ((k + 1 : Nat) : Int))  (hdr : (List.drop ((Int.toNat (k : Int)) * 5) (ndL ns)) = ndC x ++ ndL r) (hrow : (List.drop ((Int.toNat x.op) * 2) ruL) = [AV.bool (namI x.op)] ++ rs) (hag : (List.drop ((Int.toNat (k : Int)) * 1) (argsU ll)) = [AV.sl (i64L ag) ag.length false] ++ ra) (h0 : (Nat.ble (ts.length + 1) 1099511627776) = true) (h1 : (Nat.ble (ts.length * 3) (List.length (tyL ts))) = true) (h2 : lit false (!gd) = true) (h3 : (decide (((0 : Nat) : Int) ≤ (k : Int))) = true) (h4 : (decide ((k : Int) < (ns.length : Int))) = true) (h5 : lit true (namI x.op) = true) (h6 : (decide (((0 : Nat) : Int) ≤ x.op)) = true) (h7 : (decide (x.op < ((25 : Nat) : Int))) = true) (h8 : lit true (decide ((k : Int) < (ns.length : Int))) = true) (c0 : CO 53 [.sl (sgL l) l.length nl, .agg [.int .i64 x.op, .bool x.neg, .str x.num, .str x.den, .str x.name]] (.ret (.agg [.bool sg.tr, .int .i64 sg.m, .int .i64 sg.d]))) (l0 : LoopOk prog ap [] 84 (.block 2 (.loop (loopBody 2 (bodyOf f30)))) ⟨[(0, .sl (sgL l) l.length nl), (1, .sl (ndL ns) ns.length nn), (4, .ptr 0 0 0), (5, .ptr 1 0 0), (6, .dead), (7, .sl (argsU ll) ns.length true), (9, .sl ruL 25 true), (10, .int .i64 (k : Int)), (11, .ptr 2 0 0), (12, .ptr 3 0 0), (13, .nilS), (15, .dead), (16, .dead), (17, .dead), (21, .dead), (30, .sl (ndL ns) ns.length nn), (31, .int .i64 (ns.length : Int)), (32, .int .i64 (k : Int)), (33, .bool (decide ((k : Int) < (ns.length : Int)))), (42, .bool (namI x.op)), (49, .sl (i64L ag) ag.length false), (50, .int .i64 (ag.length : Int)), (51, .int .i64 0), (52, .dead), (76, .dead)], [(0, ⟨[.ref 4 0 0 ts.length], 0, false, 0, 0, false⟩), ct1, (2, ctN x.op x), ct3 sg, (4, ctT ts)], .dead, ctD⟩ (.normal) ⟨(ctE l ns nl nn ll k ++ [(11, .ptr 2 0 0), (12, .ptr 3 0 0), (13, .nilS)]), [(0, ⟨[.ref 4 0 0 ts.length], 0, false, 0, 0, false⟩), ct1, (2, ctN x.op x), ct3 sg, (4, ctT ts)], .dead, ctD⟩) (l1 : LoopOk prog ap [] 84 (regC 19 (bodyOf f30)) ⟨(ctE l ns nl nn ll k ++ [(11, .ptr 2 0 0), (12, .ptr 3 0 0), (13, .nilS)]), [(0, ⟨[.ref 4 0 0 ts.length], 0, false, 0, 0, false⟩), ct1, (2, ctN x.op x), ct3 sg, (4, ctT ts)], .dead, ctD⟩ (.normal) ⟨(ctE l ns nl nn ll k ++ [(16, .ptr 4 0 0), (17, .bool gd)]), [(0, ⟨[.ref 5 0 0 ts.length], 0, false, 0, 0, false⟩), ct1, (2, ctN x.op x), ct3 sg, (4, ⟨[.bool q.tr, .int .i64 q.m, .int .i64 q.d], 0, false, 0, 0, true⟩), (5, ctT ts)], .dead, ctD⟩) : ExecOk prog ap [] nt (loopBody 0 (bodyOf f30)) ⟨(ctE l ns nl nn ll k), [(0, ⟨[.ref 2 0 0 ts.length], 0, false, 0, 0, false⟩), ct1, (2, ctT ts)], .dead, ctD⟩ (.normal) ⟨[(0, .sl (sgL l) l.length nl), (1, .sl (ndL ns) ns.length nn), (4, .ptr 0 0 0), (5, .ptr 1 0 0), (7, .sl (argsU ll) ns.length true), (9, .sl ruL 25 true), (30, .sl (ndL ns) ns.length nn), (31, .int .i64 (ns.length : Int)), (32, .int .i64 (((k + 1) : Nat) : Int))], [(0, ⟨[.ref 2 0 0 (ts.length + 1)], 0, false, 0, 0, false⟩), ct1, (2, ⟨(tyL (ts ++ [q])), 0, false, 0, 3, true⟩)], .dead, ctD⟩ := pN 30 [2, 1019] 3 3 (.k 2 h0 (.c h1 (.k 5 h2 (.k 1 h3 (.c h4 (.k 6 h5 (.k 1 h6 (.c h7 (.k 7 h3 (.c h4 (.c h8 .nil))))))))))) (.v 82 (.eq hw) (.b 81 (ty_snoc ts q) (.l l1 (.l l0 (.v 48 (.ppt hag) (.c c0 (.v 40 (.ppt hrow) (.v 35 (.ppt hdr) .nil)))))))) hn
theorem ctN_1 {nt : Nat} (hn : 84 ≤ nt) (l : List Sg) (ns : List Nd) (nl nn : Bool) (ll : List (List Nat)) (ts : List Ty) (k : Nat) (q : Ty) (gd : Bool) (x : Nd) (r : List Nd) (rs ra : List AV) (ag : List Nat) (hw : AV.int .i64 (IntKind.wrap .i64 ((k : Int) + ((1 : Nat) : Int))) = .int .i64 ((k + 1 : Nat) : Int))  (hdr : (List.drop ((Int.toNat (k : Int)) * 5) (ndL ns)) = ndC x ++ ndL r) (hrow : (List.drop ((Int.toNat x.op) * 2) ruL) = [AV.bool (namI x.op)] ++ rs) (hag : (List.drop ((Int.toNat (k : Int)) * 1) (argsU ll)) = [AV.sl (i64L ag) ag.length false] ++ ra) (h0 : (Nat.ble (ts.length + 1) 1099511627776) = true) (h1 : (Nat.ble (ts.length * 3) (List.length (tyL ts))) = true) (h2 : lit false (!gd) = true) (h3 : (decide (((0 : Nat) : Int) ≤ (k : Int))) = true) (h4 : (decide ((k : Int) < (ns.length : Int))) = true) (h5 : lit false (namI x.op) = true) (h6 : (decide (((0 : Nat) : Int) ≤ x.op)) = true) (h7 : (decide (x.op < ((25 : Nat) : Int))) = true) (h8 : lit true (decide ((k : Int) < (ns.length : Int))) = true) (l0 : LoopOk prog ap [] 84 (.block 2 (.loop (loopBody 2 (bodyOf f30)))) ⟨[(0, .sl (sgL l) l.length nl), (1, .sl (ndL ns) ns.length nn), (4, .ptr 0 0 0), (5, .ptr 1 0 0), (6, .dead), (7, .sl (argsU ll) ns.length true), (9, .sl ruL 25 true), (10, .int .i64 (k : Int)), (11, .ptr 2 0 0), (12, .ptr 3 0 0), (13, .nilS), (15, .dead), (16, .dead), (17, .dead), (21, .dead), (30, .sl (ndL ns) ns.length nn), (31, .int .i64 (ns.length : Int)), (32, .int .i64 (k : Int)), (33, .bool (decide ((k : Int) < (ns.length : Int)))), (42, .bool (namI x.op)), (49, .sl (i64L ag) ag.length false), (50, .int .i64 (ag.length : Int)), (51, .int .i64 0), (52, .dead), (76, .dead)], [(0, ⟨[.ref 4 0 0 ts.length], 0, false, 0, 0, false⟩), ct1, (2, ctN x.op x), (3, ⟨[.bool false, .int .i64 0, .int .i64 0], 0, false, 0, 0, true⟩), (4, ctT ts)], .dead, ctD⟩ (.normal) ⟨(ctE l ns nl nn ll k ++ [(11, .ptr 2 0 0), (12, .ptr 3 0 0), (13, .nilS)]), [(0, ⟨[.ref 4 0 0 ts.length], 0, false, 0, 0, false⟩), ct1, (2, ctN x.op x), (3, ⟨[.bool false, .int .i64 0, .int .i64 0], 0, false, 0, 0, true⟩), (4, ctT ts)], .dead, ctD⟩) (l1 : LoopOk prog ap [] 84 (regC 19 (bodyOf f30)) ⟨(ctE l ns nl nn ll k ++ [(11, .ptr 2 0 0), (12, .ptr 3 0 0), (13, .nilS)]), [(0, ⟨[.ref 4 0 0 ts.length], 0, false, 0, 0, false⟩), ct1, (2, ctN x.op x), (3, ⟨[.bool false, .int .i64 0, .int .i64 0], 0, false, 0, 0, true⟩), (4, ctT ts)], .dead, ctD⟩ (.normal) ⟨(ctE l ns nl nn ll k ++ [(16, .ptr 4 0 0), (17, .bool gd)]), [(0, ⟨[.ref 5 0 0 ts.length], 0, false, 0, 0, false⟩), ct1, (2, ctN x.op x), (3, ⟨[.bool false, .int .i64 0, .int .i64 0], 0, false, 0, 0, true⟩), (4, ⟨[.bool q.tr, .int .i64 q.m, .int .i64 q.d], 0, false, 0, 0, true⟩), (5, ctT ts)], .dead, ctD⟩) : ExecOk prog ap [] nt (loopBody 0 (bodyOf f30)) ⟨(ctE l ns nl nn ll k), [(0, ⟨[.ref 2 0 0 ts.length], 0, false, 0, 0, false⟩), ct1, (2, ctT ts)], .dead, ctD⟩ (.normal) ⟨[(0, .sl (sgL l) l.length nl), (1, .sl (ndL ns) ns.length nn), (4, .ptr 0 0 0), (5, .ptr 1 0 0), (7, .sl (argsU ll) ns.length true), (9, .sl ruL 25 true), (30, .sl (ndL ns) ns.length nn), (31, .int .i64 (ns.length : Int)), (32, .int .i64 (((k + 1) : Nat) : Int))], [(0, ⟨[.ref 2 0 0 (ts.length + 1)], 0, false, 0, 0, false⟩), ct1, (2, ⟨(tyL (ts ++ [q])), 0, false, 0, 3, true⟩)], .dead, ctD⟩ := pN 30 [2, 1019] 3 1 (.k 2 h0 (.c h1 (.k 5 h2 (.k 1 h3 (.c h4 (.c h5 (.k 1 h6 (.c h7 (.k 7 h3 (.c h4 (.c h8 .nil))))))))))) (.v 82 (.eq hw) (.b 81 (ty_snoc ts q) (.l l1 (.l l0 (.v 48 (.ppt hag) (.v 40 (.ppt hrow) (.v 35 (.ppt hdr) .nil))))))) hn
theorem ctN_2 {nt : Nat} (hn : 84 ≤ nt) (l : List Sg) (ns : List Nd) (nl nn : Bool) (ll : List (List Nat)) (ts : List Ty) (k : Nat)   (h0 : lit false (decide ((k : Int) < (ns.length : Int))) = true)  : ExecOk prog ap [] nt (loopBody 0 (bodyOf f30)) ⟨(ctE l ns nl nn ll k), [(0, ⟨[.ref 2 0 0 ts.length], 0, false, 0, 0, false⟩), ct1, (2, ctT ts)], .dead, ctD⟩ (.exit 0) ⟨[(4, .ptr 0 0 0), (5, .ptr 1 0 0)], [(0, ⟨[.ref 2 0 0 ts.length], 0, false, 0, 0, false⟩), ct1, (2, ctT ts)], .dead, ctD⟩ := pN 30 [2, 1019] 1 0 (.c h0 .nil) (.nil) hn
theorem cuN_0 {nt : Nat} (hn : 84 ≤ nt) (l : List Sg) (ns : List Nd) (nl nn : Bool) (ll : List (List Nat)) (ts : List Ty) (k : Nat) (x : Nd) (r : List Nd) (rs : List AV)  (hdr : (List.drop ((Int.toNat (k : Int)) * 5) (ndL ns)) = ndC x ++ ndL r) (hrow : (List.drop ((Int.toNat x.op) * 2) ruL) = [AV.bool (namI x.op)] ++ rs) (h0 : lit true (namI x.op) = true) (h1 : (decide (((0 : Nat) : Int) ≤ x.op)) = true) (h2 : (decide (x.op < ((25 : Nat) : Int))) = true) (h3 : (decide (((0 : Nat) : Int) ≤ (k : Int))) = true) (h4 : (decide ((k : Int) < (ns.length : Int))) = true) (h5 : lit true (decide ((k : Int) < (ns.length : Int))) = true) (c0 : CO 53 [.sl (sgL l) l.length nl, .agg [.int .i64 x.op, .bool x.neg, .str x.num, .str x.den, .str x.name]] (.pan (.ifc 63 (.int .i64 12)))) : ExecOk prog ap [] nt (loopBody 0 (bodyOf f30)) ⟨(ctE l ns nl nn ll k), [(0, ⟨[.ref 2 0 0 ts.length], 0, false, 0, 0, false⟩), ct1, (2, ctT ts)], .dead, ctD⟩ (.panic (.ifc 63 (.int .i64 12))) ⟨[(4, .ptr 0 0 0), (5, .ptr 1 0 0)], [(0, ⟨[.ref 2 0 0 ts.length], 0, false, 0, 0, false⟩), ct1, (2, ctT ts)], .dead, ctD⟩ := pN 30 [2, 1019] 2 3 (.k 5 h0 (.k 1 h1 (.c h2 (.k 7 h3 (.c h4 (.c h5 .nil)))))) (.c c0 (.v 40 (.ppt hrow) (.v 35 (.ppt hdr) .nil))) hn
theorem ctC_0 {nt : Nat} (hn : 84 ≤ nt) (l : List Sg) (ns : List Nd) (nl nn : Bool) (ll : List (List Nat)) (ts own : List Ty) (k : Nat) (sg q : Ty) (gd : Bool) (x : Nd) (r : List Nd) (rs ra : List AV) (ag : List Nat)  (hdr : (List.drop ((Int.toNat (k : Int)) * 5) (ndL ns)) = ndC x ++ ndL r) (hrow : (List.drop ((Int.toNat x.op) * 2) ruL) = [AV.bool (namI x.op)] ++ rs) (hag : (List.drop ((Int.toNat (k : Int)) * 1) (argsU ll)) = [AV.sl (i64L ag) ag.length false] ++ ra) (h0 : lit true (!gd) = true) (h1 : (decide (((0 : Nat) : Int) ≤ (k : Int))) = true) (h2 : (decide ((k : Int) < (ns.length : Int))) = true) (h3 : lit true (namI x.op) = true) (h4 : (decide (((0 : Nat) : Int) ≤ x.op)) = true) (h5 : (decide (x.op < ((25 : Nat) : Int))) = true) (h6 : lit true (decide ((k : Int) < (ns.length : Int))) = true) (c0 : CO 53 [.sl (sgL l) l.length nl, .agg [.int .i64 x.op, .bool x.neg, .str x.num, .str x.den, .str x.name]] (.ret (.agg [.bool sg.tr, .int .i64 sg.m, .int .i64 sg.d]))) (l0 : LoopOk prog ap [] 84 (.block 2 (.loop (loopBody 2 (bodyOf f30)))) ⟨[(0, .sl (sgL l) l.length nl), (1, .sl (ndL ns) ns.length nn), (4, .ptr 0 0 0), (5, .ptr 1 0 0), (6, .dead), (7, .sl (argsU ll) ns.length true), (9, .sl ruL 25 true), (10, .int .i64 (k : Int)), (11, .ptr 2 0 0), (12, .ptr 3 0 0), (13, .nilS), (15, .dead), (16, .dead), (17, .dead), (21, .dead), (30, .sl (ndL ns) ns.length nn), (31, .int .i64 (ns.length : Int)), (32, .int .i64 (k : Int)), (33, .bool (decide ((k : Int) < (ns.length : Int)))), (42, .bool (namI x.op)), (49, .sl (i64L ag) ag.length false), (50, .int .i64 (ag.length : Int)), (51, .int .i64 0), (52, .dead), (76, .dead)], [(0, ⟨[.ref 4 0 0 ts.length], 0, false, 0, 0, false⟩), ct1, (2, ctN x.op x), ct3 sg, (4, ctT ts)], .dead, ctD⟩ (.normal) ⟨(ctE l ns nl nn ll k ++ [(11, .ptr 2 0 0), (12, .ptr 3 0 0), (13, .ref 4 0 0 own.length)]), [(0, ⟨[.ref 5 0 0 ts.length], 0, false, 0, 0, false⟩), ct1, (2, ctN x.op x), ct3 sg, (4, ctT own), (5, ctT ts)], .dead, ctD⟩) (l1 : LoopOk prog ap [] 84 (regC 19 (bodyOf f30)) ⟨(ctE l ns nl nn ll k ++ [(11, .ptr 2 0 0), (12, .ptr 3 0 0), (13, .ref 4 0 0 own.length)]), [(0, ⟨[.ref 5 0 0 ts.length], 0, false, 0, 0, false⟩), ct1, (2, ctN x.op x), ct3 sg, (4, ctT own), (5, ctT ts)], .dead, ctD⟩ (.normal) ⟨(ctE l ns nl nn ll k ++ [(16, .ptr 5 0 0), (17, .bool gd)]), [(0, ⟨[.ref 6 0 0 ts.length], 0, false, 0, 0, false⟩), ct1, (2, ctN x.op x), ct3 sg, (4, ⟨(tyL own), 0, true, (List.length (tyL own)), 3, true⟩), (5, ⟨[.bool q.tr, .int .i64 q.m, .int .i64 q.d], 0, false, 0, 0, true⟩), (6, ctT ts)], .dead, ctD⟩) : ExecOk prog ap [] nt (loopBody 0 (bodyOf f30)) ⟨(ctE l ns nl nn ll k), [(0, ⟨[.ref 2 0 0 ts.length], 0, false, 0, 0, false⟩), ct1, (2, ctT ts)], .dead, ctD⟩ (.panic (.ifc 63 (.int .i64 13))) ⟨[(4, .ptr 0 0 0), (5, .ptr 1 0 0)], [(0, ⟨[.ref 2 0 0 ts.length], 0, false, 0, 0, false⟩), ct1, (2, ctT ts)], .dead, ctD⟩ := pN 30 [2, 1019] 3 7 (.c h0 (.k 1 h1 (.c h2 (.k 6 h3 (.k 1 h4 (.c h5 (.k 7 h1 (.c h2 (.c h6 .nil))))))))) (.l l1 (.l l0 (.v 48 (.ppt hag) (.c c0 (.v 40 (.ppt hrow) (.v 35 (.ppt hdr) .nil)))))) hn
theorem ctC_1 {nt : Nat} (hn : 84 ≤ nt) (l : List Sg) (ns : List Nd) (nl nn : Bool) (ll : List (List Nat)) (ts own : List Ty) (k : Nat) (sg q : Ty) (gd : Bool) (x : Nd) (r : List Nd) (rs ra : List AV) (ag : List Nat) (hw : AV.int .i64 (IntKind.wrap .i64 ((k : Int) + ((1 : Nat) : Int))) = .int .i64 ((k + 1 : Nat) : Int))  (hdr : (List.drop ((Int.toNat (k : Int)) * 5) (ndL ns)) = ndC x ++ ndL r) (hrow : (List.drop ((Int.toNat x.op) * 2) ruL) = [AV.bool (namI x.op)] ++ rs) (hag : (List.drop ((Int.toNat (k : Int)) * 1) (argsU ll)) = [AV.sl (i64L ag) ag.length false] ++ ra) (h0 : (Nat.ble (ts.length + 1) 1099511627776) = true) (h1 : (Nat.ble (ts.length * 3) (List.length (tyL ts))) = true) (h2 : lit false (!gd) = true) (h3 : (decide (((0 : Nat) : Int) ≤ (k : Int))) = true) (h4 : (decide ((k : Int) < (ns.length : Int))) = true) (h5 : lit true (namI x.op) = true) (h6 : (decide (((0 : Nat) : Int) ≤ x.op)) = true) (h7 : (decide (x.op < ((25 : Nat) : Int))) = true) (h8 : lit true (decide ((k : Int) < (ns.length : Int))) = true) (c0 : CO 53 [.sl (sgL l) l.length nl, .agg [.int .i64 x.op, .bool x.neg, .str x.num, .str x.den, .str x.name]] (.ret (.agg [.bool sg.tr, .int .i64 sg.m, .int .i64 sg.d]))) (l0 : LoopOk prog ap [] 84 (.block 2 (.loop (loopBody 2 (bodyOf f30)))) ⟨[(0, .sl (sgL l) l.length nl), (1, .sl (ndL ns) ns.length nn), (4, .ptr 0 0 0), (5, .ptr 1 0 0), (6, .dead), (7, .sl (argsU ll) ns.length true), (9, .sl ruL 25 true), (10, .int .i64 (k : Int)), (11, .ptr 2 0 0), (12, .ptr 3 0 0), (13, .nilS), (15, .dead), (16, .dead), (17, .dead), (21, .dead), (30, .sl (ndL ns) ns.length nn), (31, .int .i64 (ns.length : Int)), (32, .int .i64 (k : Int)), (33, .bool (decide ((k : Int) < (ns.length : Int)))), (42, .bool (namI x.op)), (49, .sl (i64L ag) ag.length false), (50, .int .i64 (ag.length : Int)), (51, .int .i64 0), (52, .dead), (76, .dead)], [(0, ⟨[.ref 4 0 0 ts.length], 0, false, 0, 0, false⟩), ct1, (2, ctN x.op x), ct3 sg, (4, ctT ts)], .dead, ctD⟩ (.normal) ⟨(ctE l ns nl nn ll k ++ [(11, .ptr 2 0 0), (12, .ptr 3 0 0), (13, .ref 4 0 0 own.length)]), [(0, ⟨[.ref 5 0 0 ts.length], 0, false, 0, 0, false⟩), ct1, (2, ctN x.op x), ct3 sg, (4, ctT own), (5, ctT ts)], .dead, ctD⟩) (l1 : LoopOk prog ap [] 84 (regC 19 (bodyOf f30)) ⟨(ctE l ns nl nn ll k ++ [(11, .ptr 2 0 0), (12, .ptr 3 0 0), (13, .ref 4 0 0 own.length)]), [(0, ⟨[.ref 5 0 0 ts.length], 0, false, 0, 0, false⟩), ct1, (2, ctN x.op x), ct3 sg, (4, ctT own), (5, ctT ts)], .dead, ctD⟩ (.normal) ⟨(ctE l ns nl nn ll k ++ [(16, .ptr 5 0 0), (17, .bool gd)]), [(0, ⟨[.ref 6 0 0 ts.length], 0, false, 0, 0, false⟩), ct1, (2, ctN x.op x), ct3 sg, (4, ⟨(tyL own), 0, true, (List.length (tyL own)), 3, true⟩), (5, ⟨[.bool q.tr, .int .i64 q.m, .int .i64 q.d], 0, false, 0, 0, true⟩), (6, ctT ts)], .dead, ctD⟩) : ExecOk prog ap [] nt (loopBody 0 (bodyOf f30)) ⟨(ctE l ns nl nn ll k), [(0, ⟨[.ref 2 0 0 ts.length], 0, false, 0, 0, false⟩), ct1, (2, ctT ts)], .dead, ctD⟩ (.normal) ⟨[(0, .sl (sgL l) l.length nl), (1, .sl (ndL ns) ns.length nn), (4, .ptr 0 0 0), (5, .ptr 1 0 0), (7, .sl (argsU ll) ns.length true), (9, .sl ruL 25 true), (30, .sl (ndL ns) ns.length nn), (31, .int .i64 (ns.length : Int)), (32, .int .i64 (((k + 1) : Nat) : Int))], [(0, ⟨[.ref 2 0 0 (ts.length + 1)], 0, false, 0, 0, false⟩), ct1, (2, ⟨(tyL (ts ++ [q])), 0, false, 0, 3, true⟩)], .dead, ctD⟩ := pN 30 [2, 1019] 3 3 (.k 2 h0 (.c h1 (.k 5 h2 (.k 1 h3 (.c h4 (.k 6 h5 (.k 1 h6 (.c h7 (.k 7 h3 (.c h4 (.c h8 .nil))))))))))) (.v 82 (.eq hw) (.b 81 (ty_snoc ts q) (.l l1 (.l l0 (.v 48 (.ppt hag) (.c c0 (.v 40 (.ppt hrow) (.v 35 (.ppt hdr) .nil)))))))) hn
theorem ctC_2 {nt : Nat} (hn : 84 ≤ nt) (l : List Sg) (ns : List Nd) (nl nn : Bool) (ll : List (List Nat)) (ts own : List Ty) (k : Nat) (q : Ty) (gd : Bool) (x : Nd) (r : List Nd) (rs ra : List AV) (ag : List Nat)  (hdr : (List.drop ((Int.toNat (k : Int)) * 5) (ndL ns)) = ndC x ++ ndL r) (hrow : (List.drop ((Int.toNat x.op) * 2) ruL) = [AV.bool (namI x.op)] ++ rs) (hag : (List.drop ((Int.toNat (k : Int)) * 1) (argsU ll)) = [AV.sl (i64L ag) ag.length false] ++ ra) (h0 : lit true (!gd) = true) (h1 : (decide (((0 : Nat) : Int) ≤ (k : Int))) = true) (h2 : (decide ((k : Int) < (ns.length : Int))) = true) (h3 : lit false (namI x.op) = true) (h4 : (decide (((0 : Nat) : Int) ≤ x.op)) = true) (h5 : (decide (x.op < ((25 : Nat) : Int))) = true) (h6 : lit true (decide ((k : Int) < (ns.length : Int))) = true) (l0 : LoopOk prog ap [] 84 (.block 2 (.loop (loopBody 2 (bodyOf f30)))) ⟨[(0, .sl (sgL l) l.length nl), (1, .sl (ndL ns) ns.length nn), (4, .ptr 0 0 0), (5, .ptr 1 0 0), (6, .dead), (7, .sl (argsU ll) ns.length true), (9, .sl ruL 25 true), (10, .int .i64 (k : Int)), (11, .ptr 2 0 0), (12, .ptr 3 0 0), (13, .nilS), (15, .dead), (16, .dead), (17, .dead), (21, .dead), (30, .sl (ndL ns) ns.length nn), (31, .int .i64 (ns.length : Int)), (32, .int .i64 (k : Int)), (33, .bool (decide ((k : Int) < (ns.length : Int)))), (42, .bool (namI x.op)), (49, .sl (i64L ag) ag.length false), (50, .int .i64 (ag.length : Int)), (51, .int .i64 0), (52, .dead), (76, .dead)], [(0, ⟨[.ref 4 0 0 ts.length], 0, false, 0, 0, false⟩), ct1, (2, ctN x.op x), (3, ⟨[.bool false, .int .i64 0, .int .i64 0], 0, false, 0, 0, true⟩), (4, ctT ts)], .dead, ctD⟩ (.normal) ⟨(ctE l ns nl nn ll k ++ [(11, .ptr 2 0 0), (12, .ptr 3 0 0), (13, .ref 4 0 0 own.length)]), [(0, ⟨[.ref 5 0 0 ts.length], 0, false, 0, 0, false⟩), ct1, (2, ctN x.op x), (3, ⟨[.bool false, .int .i64 0, .int .i64 0], 0, false, 0, 0, true⟩), (4, ctT own), (5, ctT ts)], .dead, ctD⟩) (l1 : LoopOk prog ap [] 84 (regC 19 (bodyOf f30)) ⟨(ctE l ns nl nn ll k ++ [(11, .ptr 2 0 0), (12, .ptr 3 0 0), (13, .ref 4 0 0 own.length)]), [(0, ⟨[.ref 5 0 0 ts.length], 0, false, 0, 0, false⟩), ct1, (2, ctN x.op x), (3, ⟨[.bool false, .int .i64 0, .int .i64 0], 0, false, 0, 0, true⟩), (4, ctT own), (5, ctT ts)], .dead, ctD⟩ (.normal) ⟨(ctE l ns nl nn ll k ++ [(16, .ptr 5 0 0), (17, .bool gd)]), [(0, ⟨[.ref 6 0 0 ts.length], 0, false, 0, 0, false⟩), ct1, (2, ctN x.op x), (3, ⟨[.bool false, .int .i64 0, .int .i64 0], 0, false, 0, 0, true⟩), (4, ⟨(tyL own), 0, true, (List.length (tyL own)), 3, true⟩), (5, ⟨[.bool q.tr, .int .i64 q.m, .int .i64 q.d], 0, false, 0, 0, true⟩), (6, ctT ts)], .dead, ctD⟩) : ExecOk prog ap [] nt (loopBody 0 (bodyOf f30)) ⟨(ctE l ns nl nn ll k), [(0, ⟨[.ref 2 0 0 ts.length], 0, false, 0, 0, false⟩), ct1, (2, ctT ts)], .dead, ctD⟩ (.panic (.ifc 63 (.int .i64 13))) ⟨[(4, .ptr 0 0 0), (5, .ptr 1 0 0)], [(0, ⟨[.ref 2 0 0 ts.length], 0, false, 0, 0, false⟩), ct1, (2, ctT ts)], .dead, ctD⟩ := pN 30 [2, 1019] 3 5 (.c h0 (.k 1 h1 (.c h2 (.c h3 (.k 1 h4 (.c h5 (.k 7 h1 (.c h2 (.c h6 .nil))))))))) (.l l1 (.l l0 (.v 48 (.ppt hag) (.v 40 (.ppt hrow) (.v 35 (.ppt hdr) .nil))))) hn
theorem ctC_3 {nt : Nat} (hn : 84 ≤ nt) (l : List Sg) (ns : List Nd) (nl nn : Bool) (ll : List (List Nat)) (ts own : List Ty) (k : Nat) (q : Ty) (gd : Bool) (x : Nd) (r : List Nd) (rs ra : List AV) (ag : List Nat) (hw : AV.int .i64 (IntKind.wrap .i64 ((k : Int) + ((1 : Nat) : Int))) = .int .i64 ((k + 1 : Nat) : Int))  (hdr : (List.drop ((Int.toNat (k : Int)) * 5) (ndL ns)) = ndC x ++ ndL r) (hrow : (List.drop ((Int.toNat x.op) * 2) ruL) = [AV.bool (namI x.op)] ++ rs) (hag : (List.drop ((Int.toNat (k : Int)) * 1) (argsU ll)) = [AV.sl (i64L ag) ag.length false] ++ ra) (h0 : (Nat.ble (ts.length + 1) 1099511627776) = true) (h1 : (Nat.ble (ts.length * 3) (List.length (tyL ts))) = true) (h2 : lit false (!gd) = true) (h3 : (decide (((0 : Nat) : Int) ≤ (k : Int))) = true) (h4 : (decide ((k : Int) < (ns.length : Int))) = true) (h5 : lit false (namI x.op) = true) (h6 : (decide (((0 : Nat) : Int) ≤ x.op)) = true) (h7 : (decide (x.op < ((25 : Nat) : Int))) = true) (h8 : lit true (decide ((k : Int) < (ns.length : Int))) = true) (l0 : LoopOk prog ap [] 84 (.block 2 (.loop (loopBody 2 (bodyOf f30)))) ⟨[(0, .sl (sgL l) l.length nl), (1, .sl (ndL ns) ns.length nn), (4, .ptr 0 0 0), (5, .ptr 1 0 0), (6, .dead), (7, .sl (argsU ll) ns.length true), (9, .sl ruL 25 true), (10, .int .i64 (k : Int)), (11, .ptr 2 0 0), (12, .ptr 3 0 0), (13, .nilS), (15, .dead), (16, .dead), (17, .dead), (21, .dead), (30, .sl (ndL ns) ns.length nn), (31, .int .i64 (ns.length : Int)), (32, .int .i64 (k : Int)), (33, .bool (decide ((k : Int) < (ns.length : Int)))), (42, .bool (namI x.op)), (49, .sl (i64L ag) ag.length false), (50, .int .i64 (ag.length : Int)), (51, .int .i64 0), (52, .dead), (76, .dead)], [(0, ⟨[.ref 4 0 0 ts.length], 0, false, 0, 0, false⟩), ct1, (2, ctN x.op x), (3, ⟨[.bool false, .int .i64 0, .int .i64 0], 0, false, 0, 0, true⟩), (4, ctT ts)], .dead, ctD⟩ (.normal) ⟨(ctE l ns nl nn ll k ++ [(11, .ptr 2 0 0), (12, .ptr 3 0 0), (13, .ref 4 0 0 own.length)]), [(0, ⟨[.ref 5 0 0 ts.length], 0, false, 0, 0, false⟩), ct1, (2, ctN x.op x), (3, ⟨[.bool false, .int .i64 0, .int .i64 0], 0, false, 0, 0, true⟩), (4, ctT own), (5, ctT ts)], .dead, ctD⟩) (l1 : LoopOk prog ap [] 84 (regC 19 (bodyOf f30)) ⟨(ctE l ns nl nn ll k ++ [(11, .ptr 2 0 0), (12, .ptr 3 0 0), (13, .ref 4 0 0 own.length)]), [(0, ⟨[.ref 5 0 0 ts.length], 0, false, 0, 0, false⟩), ct1, (2, ctN x.op x), (3, ⟨[.bool false, .int .i64 0, .int .i64 0], 0, false, 0, 0, true⟩), (4, ctT own), (5, ctT ts)], .dead, ctD⟩ (.normal) ⟨(ctE l ns nl nn ll k ++ [(16, .ptr 5 0 0), (17, .bool gd)]), [(0, ⟨[.ref 6 0 0 ts.length], 0, false, 0, 0, false⟩), ct1, (2, ctN x.op x), (3, ⟨[.bool false, .int .i64 0, .int .i64 0], 0, false, 0, 0, true⟩), (4, ⟨(tyL own), 0, true, (List.length (tyL own)), 3, true⟩), (5, ⟨[.bool q.tr, .int .i64 q.m, .int .i64 q.d], 0, false, 0, 0, true⟩), (6, ctT ts)], .dead, ctD⟩) : ExecOk prog ap [] nt (loopBody 0 (bodyOf f30)) ⟨(ctE l ns nl nn ll k), [(0, ⟨[.ref 2 0 0 ts.length], 0, false, 0, 0, false⟩), ct1, (2, ctT ts)], .dead, ctD⟩ (.normal) ⟨[(0, .sl (sgL l) l.length nl), (1, .sl (ndL ns) ns.length nn), (4, .ptr 0 0 0), (5, .ptr 1 0 0), (7, .sl (argsU ll) ns.length true), (9, .sl ruL 25 true), (30, .sl (ndL ns) ns.length nn), (31, .int .i64 (ns.length : Int)), (32, .int .i64 (((k + 1) : Nat) : Int))], [(0, ⟨[.ref 2 0 0 (ts.length + 1)], 0, false, 0, 0, false⟩), ct1, (2, ⟨(tyL (ts ++ [q])), 0, false, 0, 3, true⟩)], .dead, ctD⟩ := pN 30 [2, 1019] 3 1 (.k 2 h0 (.c h1 (.k 5 h2 (.k 1 h3 (.c h4 (.c h5 (.k 1 h6 (.c h7 (.k 7 h3 (.c h4 (.c h8 .nil))))))))))) (.v 82 (.eq hw) (.b 81 (ty_snoc ts q) (.l l1 (.l l0 (.v 48 (.ppt hag) (.v 40 (.ppt hrow) (.v 35 (.ppt hdr) .nil))))))) hn
theorem s3Z_ok {op : Int} (h1 : 1 ≤ op) (h2 : op ≤ 8) (l : List Sg) (ns : List Nd) (nl nn : Bool) (ll : List (List Nat)) (k : Nat) (x : Nd) (sg : Ty) (ts own : List Ty) : LoopOk prog ap [] 84 (regC 19 (bodyOf f30)) (c3SZ op l ns nl nn ll k x sg ts own) .normal (c3EZ op l ns nl nn ll k x sg ts own (ruleN op.toNat sg []).2 (ruleN op.toNat sg []).1) := by
 have : op = 1 ∨ op = 2 ∨ op = 3 ∨ op = 4 ∨ op = 5 ∨ op = 6 ∨ op = 7 ∨ op = 8 := by omega
 rcases this with rfl | rfl | rfl | rfl | rfl | rfl | rfl | rfl
 ·exact s3Z1 l ns nl nn ll k x sg ts own _ _ ((clN1 false sg).args (FitsL.cons (Fits.refl _) (FitsL.cons (Fits.nilS false rfl) (FitsL.refl _))))
 ·exact s3Z2 l ns nl nn ll k x sg ts own _ _ ((clN2 false sg).args (FitsL.cons (Fits.refl _) (FitsL.cons (Fits.nilS false rfl) (FitsL.refl _))))
 ·exact s3Z3 l ns nl nn ll k x sg ts own _ _ ((clN3 false sg).args (FitsL.cons (Fits.refl _) (FitsL.cons (Fits.nilS false rfl) (FitsL.refl _))))
 ·exact s3Z4 l ns nl nn ll k x sg ts own _ _ ((clN4 false sg).args (FitsL.cons (Fits.refl _) (FitsL.cons (Fits.nilS false rfl) (FitsL.refl _))))
 ·exact s3Z5 l ns nl nn ll k x sg ts own _ _ ((clN5 false sg).args (FitsL.cons (Fits.refl _) (FitsL.cons (Fits.nilS false rfl) (FitsL.refl _))))
 ·exact s3Z6 l ns nl nn ll k x sg ts own _ _ ((clN6 false sg).args (FitsL.cons (Fits.refl _) (FitsL.cons (Fits.nilS false rfl) (FitsL.refl _))))
 ·exact s3Z7 l ns nl nn ll k x sg ts own _ _ ((clN7 false sg).args (FitsL.cons (Fits.refl _) (FitsL.cons (Fits.nilS false rfl) (FitsL.refl _))))
 ·exact s3Z8 l ns nl nn ll k x sg ts own _ _ ((clN8 false sg).args (FitsL.cons (Fits.refl _) (FitsL.cons (Fits.nilS false rfl) (FitsL.refl _))))
theorem s3N_ok {op : Int} (h1 : 1 ≤ op) (h2 : op ≤ 8) (l : List Sg) (ns : List Nd) (nl nn : Bool) (ll : List (List Nat)) (k : Nat) (x : Nd) (sg : Ty) (ts own : List Ty) : LoopOk prog ap [] 84 (regC 19 (bodyOf f30)) (c3SN op l ns nl nn ll k x sg ts own) .normal (c3EN op l ns nl nn ll k x sg ts own (ruleN op.toNat sg []).2 (ruleN op.toNat sg []).1) := by
 have : op = 1 ∨ op = 2 ∨ op = 3 ∨ op = 4 ∨ op = 5 ∨ op = 6 ∨ op = 7 ∨ op = 8 := by omega
 rcases this with rfl | rfl | rfl | rfl | rfl | rfl | rfl | rfl
 ·exact s3N1 l ns nl nn ll k x sg ts own _ _ ((clN1 false sg).args (FitsL.cons (Fits.refl _) (FitsL.cons (Fits.nilS false rfl) (FitsL.refl _))))
 ·exact s3N2 l ns nl nn ll k x sg ts own _ _ ((clN2 false sg).args (FitsL.cons (Fits.refl _) (FitsL.cons (Fits.nilS false rfl) (FitsL.refl _))))
 ·exact s3N3 l ns nl nn ll k x sg ts own _ _ ((clN3 false sg).args (FitsL.cons (Fits.refl _) (FitsL.cons (Fits.nilS false rfl) (FitsL.refl _))))
 ·exact s3N4 l ns nl nn ll k x sg ts own _ _ ((clN4 false sg).args (FitsL.cons (Fits.refl _) (FitsL.cons (Fits.nilS false rfl) (FitsL.refl _))))
 ·exact s3N5 l ns nl nn ll k x sg ts own _ _ ((clN5 false sg).args (FitsL.cons (Fits.refl _) (FitsL.cons (Fits.nilS false rfl) (FitsL.refl _))))
 ·exact s3N6 l ns nl nn ll k x sg ts own _ _ ((clN6 false sg).args (FitsL.cons (Fits.refl _) (FitsL.cons (Fits.nilS false rfl) (FitsL.refl _))))
 ·exact s3N7 l ns nl nn ll k x sg ts own _ _ ((clN7 false sg).args (FitsL.cons (Fits.refl _) (FitsL.cons (Fits.nilS false rfl) (FitsL.refl _))))
 ·exact s3N8 l ns nl nn ll k x sg ts own _ _ ((clN8 false sg).args (FitsL.cons (Fits.refl _) (FitsL.cons (Fits.nilS false rfl) (FitsL.refl _))))
theorem s3C_ok {op : Int} (h1 : 9 ≤ op) (h2 : op ≤ 24) (l : List Sg) (ns : List Nd) (nl nn : Bool) (ll : List (List Nat)) (k : Nat) (x : Nd) (sg : Ty) (ts own : List Ty) (ha : own.length = arI op) (hr : ∀ t ∈ own, rightQ t = true) : LoopOk prog ap [] 84 (regC 19 (bodyOf f30)) (c3SC op l ns nl nn ll k x sg ts own) .normal (c3EC op l ns nl nn ll k x sg ts own (ruleN op.toNat sg own).2 (ruleN op.toNat sg own).1) := by
 have : op = 9 ∨ op = 10 ∨ op = 11 ∨ op = 12 ∨ op = 13 ∨ op = 14 ∨ op = 15 ∨ op = 16 ∨ op = 17 ∨ op = 18 ∨ op = 19 ∨ op = 20 ∨ op = 21 ∨ op = 22 ∨ op = 23 ∨ op = 24 := by omega
 rcases this with rfl | rfl | rfl | rfl | rfl | rfl | rfl | rfl | rfl | rfl | rfl | rfl | rfl | rfl | rfl | rfl
 ·obtain ⟨a, b, rfl⟩ := len2 ha rfl
  have e : ruleN 9 sg [a, b] = ruleC 9 sg [a, b] := Prod.ext (ruleS9 sg a b (hr a (by simp)) (hr b (by simp))).1 (ruleS9 sg a b (hr a (by simp)) (hr b (by simp))).2
  have h := s3C9 l ns nl nn ll k x sg ts [a, b] _ _ (clN9 true sg a b)
  rw [← e] at h
  exact h
 ·obtain ⟨a, b, rfl⟩ := len2 ha rfl
  have e : ruleN 10 sg [a, b] = ruleC 10 sg [a, b] := Prod.ext (ruleS10 sg a b (hr a (by simp)) (hr b (by simp))).1 (ruleS10 sg a b (hr a (by simp)) (hr b (by simp))).2
  have h := s3C10 l ns nl nn ll k x sg ts [a, b] _ _ (clN10 true sg a b)
  rw [← e] at h
  exact h
 ·obtain ⟨a, b, rfl⟩ := len2 ha rfl
  have e : ruleN 11 sg [a, b] = ruleC 11 sg [a, b] := Prod.ext (ruleS11 sg a b (hr a (by simp)) (hr b (by simp))).1 (ruleS11 sg a b (hr a (by simp)) (hr b (by simp))).2
  have h := s3C11 l ns nl nn ll k x sg ts [a, b] _ _ (clN11 true sg a b)
  rw [← e] at h
  exact h
 ·obtain ⟨a, b, rfl⟩ := len2 ha rfl
  have e : ruleN 12 sg [a, b] = ruleC 12 sg [a, b] := Prod.ext (ruleS12 sg a b (hr a (by simp)) (hr b (by simp))).1 (ruleS12 sg a b (hr a (by simp)) (hr b (by simp))).2
  have h := s3C12 l ns nl nn ll k x sg ts [a, b] _ _ (clN12 true sg a b)
  rw [← e] at h
  exact h
 ·obtain ⟨a, b, rfl⟩ := len2 ha rfl
  have e : ruleN 13 sg [a, b] = ruleC 13 sg [a, b] := Prod.ext (ruleS13 sg a b (hr a (by simp)) (hr b (by simp))).1 (ruleS13 sg a b (hr a (by simp)) (hr b (by simp))).2
  have h := s3C13 l ns nl nn ll k x sg ts [a, b] _ _ (clN13 true sg a b)
  rw [← e] at h
  exact h
 ·obtain ⟨a, b, rfl⟩ := len2 ha rfl
  have e : ruleN 14 sg [a, b] = ruleC 14 sg [a, b] := Prod.ext (ruleS14 sg a b (hr a (by simp)) (hr b (by simp))).1 (ruleS14 sg a b (hr a (by simp)) (hr b (by simp))).2
  have h := s3C14 l ns nl nn ll k x sg ts [a, b] _ _ (clN14 true sg a b)
  rw [← e] at h
  exact h
 ·obtain ⟨a, b, c, rfl⟩ := len3 ha rfl
  have e : ruleN 15 sg [a, b, c] = ruleC 15 sg [a, b, c] := Prod.ext (ruleS15 sg a b c (hr a (by simp)) (hr b (by simp)) (hr c (by simp))).1 (ruleS15 sg a b c (hr a (by simp)) (hr b (by simp)) (hr c (by simp))).2
  have h := s3C15 l ns nl nn ll k x sg ts [a, b, c] _ _ (clN15 true sg a b c)
  rw [← e] at h
  exact h
 ·obtain ⟨a, b, rfl⟩ := len2 ha rfl
  have e : ruleN 16 sg [a, b] = ruleC 16 sg [a, b] := Prod.ext (ruleS16 sg a b (hr a (by simp)) (hr b (by simp))).1 (ruleS16 sg a b (hr a (by simp)) (hr b (by simp))).2
  have h := s3C16 l ns nl nn ll k x sg ts [a, b] _ _ (clN16 true sg a b)
  rw [← e] at h
  exact h
 ·obtain ⟨a, b, rfl⟩ := len2 ha rfl
  have e : ruleN 17 sg [a, b] = ruleC 17 sg [a, b] := Prod.ext (ruleS17 sg a b (hr a (by simp)) (hr b (by simp))).1 (ruleS17 sg a b (hr a (by simp)) (hr b (by simp))).2
  have h := s3C17 l ns nl nn ll k x sg ts [a, b] _ _ (clN17 true sg a b)
  rw [← e] at h
  exact h
 ·obtain ⟨a, b, rfl⟩ := len2 ha rfl
  have e : ruleN 18 sg [a, b] = ruleC 18 sg [a, b] := Prod.ext (ruleS18 sg a b (hr a (by simp)) (hr b (by simp))).1 (ruleS18 sg a b (hr a (by simp)) (hr b (by simp))).2
  have h := s3C18 l ns nl nn ll k x sg ts [a, b] _ _ (clN18 true sg a b)
  rw [← e] at h
  exact h
 ·obtain ⟨a, b, rfl⟩ := len2 ha rfl
  have e : ruleN 19 sg [a, b] = ruleC 19 sg [a, b] := Prod.ext (ruleS19 sg a b (hr a (by simp)) (hr b (by simp))).1 (ruleS19 sg a b (hr a (by simp)) (hr b (by simp))).2
  have h := s3C19 l ns nl nn ll k x sg ts [a, b] _ _ (clN19 true sg a b)
  rw [← e] at h
  exact h
 ·obtain ⟨a, rfl⟩ := len1 ha rfl
  have e : ruleN 20 sg [a] = ruleC 20 sg [a] := Prod.ext (ruleS20 sg a (hr a (by simp))).1 (ruleS20 sg a (hr a (by simp))).2
  have h := s3C20 l ns nl nn ll k x sg ts [a] _ _ (clN20 true sg a)
  rw [← e] at h
  exact h
 ·obtain ⟨a, rfl⟩ := len1 ha rfl
  have e : ruleN 21 sg [a] = ruleC 21 sg [a] := Prod.ext (ruleS21 sg a (hr a (by simp))).1 (ruleS21 sg a (hr a (by simp))).2
  have h := s3C21 l ns nl nn ll k x sg ts [a] _ _ (clN21 true sg a)
  rw [← e] at h
  exact h
 ·obtain ⟨a, rfl⟩ := len1 ha rfl
  have e : ruleN 22 sg [a] = ruleC 22 sg [a] := Prod.ext (ruleS22 sg a (hr a (by simp))).1 (ruleS22 sg a (hr a (by simp))).2
  have h := s3C22 l ns nl nn ll k x sg ts [a] _ _ (clN22 true sg a)
  rw [← e] at h
  exact h
 ·obtain ⟨a, rfl⟩ := len1 ha rfl
  have e : ruleN 23 sg [a] = ruleC 23 sg [a] := Prod.ext (ruleS23 sg a (hr a (by simp))).1 (ruleS23 sg a (hr a (by simp))).2
  have h := s3C23 l ns nl nn ll k x sg ts [a] _ _ (clN23 true sg a)
  rw [← e] at h
  exact h
 ·obtain ⟨a, rfl⟩ := len1 ha rfl
  have e : ruleN 24 sg [a] = ruleC 24 sg [a] := Prod.ext (ruleS24 sg a (hr a (by simp))).1 (ruleS24 sg a (hr a (by simp))).2
  have h := s3C24 l ns nl nn ll k x sg ts [a] _ _ (clN24 true sg a)
  rw [← e] at h
  exact h
theorem rule_right {op : Int} (h1 : 1 ≤ op) (h2 : op ≤ 24) (sg : Ty) (own : List Ty) (ha : own.length = arI op) (hr : ∀ t ∈ own, rightQ t = true) (hs : rightQ sg = true) (hq : (ruleN op.toNat sg own).1 = true) : rightQ (ruleN op.toNat sg own).2 = true := by
 rcases op_cases h1 h2 with rfl | rfl | rfl | rfl | rfl | rfl | rfl | rfl | rfl | rfl | rfl | rfl | rfl | rfl | rfl | rfl | rfl | rfl | rfl | rfl | rfl | rfl | rfl | rfl
 ·obtain rfl := len0 ha rfl
  exact rfl
 ·obtain rfl := len0 ha rfl
  exact rfl
 ·obtain rfl := len0 ha rfl
  exact rfl
 ·obtain rfl := len0 ha rfl
  exact rfl
 ·obtain rfl := len0 ha rfl
  exact hs
 ·obtain rfl := len0 ha rfl
  exact hs
 ·obtain rfl := len0 ha rfl
  exact hs
 ·obtain rfl := len0 ha rfl
  exact hs
 ·obtain ⟨a, b, rfl⟩ := len2 ha rfl
  exact hr a (by simp)
 ·obtain ⟨a, b, rfl⟩ := len2 ha rfl
  exact hr a (by simp)
 ·obtain ⟨a, b, rfl⟩ := len2 ha rfl
  exact ((Bool.and_eq_true _ _).mp hq).2
 ·obtain ⟨a, b, rfl⟩ := len2 ha rfl
  exact ((Bool.and_eq_true _ _).mp hq).2
 ·obtain ⟨a, b, rfl⟩ := len2 ha rfl
  exact hr a (by simp)
 ·obtain ⟨a, b, rfl⟩ := len2 ha rfl
  exact hr a (by simp)
 ·obtain ⟨a, b, c, rfl⟩ := len3 ha rfl
  exact hr b (by simp)
 ·obtain ⟨a, b, rfl⟩ := len2 ha rfl
  exact rfl
 ·obtain ⟨a, b, rfl⟩ := len2 ha rfl
  exact rfl
 ·obtain ⟨a, b, rfl⟩ := len2 ha rfl
  exact rfl
 ·obtain ⟨a, b, rfl⟩ := len2 ha rfl
  exact rfl
 ·obtain ⟨a, rfl⟩ := len1 ha rfl
  exact rfl
 ·obtain ⟨a, rfl⟩ := len1 ha rfl
  exact hr a (by simp)
 ·obtain ⟨a, rfl⟩ := len1 ha rfl
  exact hr a (by simp)
 ·obtain ⟨a, rfl⟩ := len1 ha rfl
  exact hr a (by simp)
 ·obtain ⟨a, rfl⟩ := len1 ha rfl
  exact hs
theorem findR_right {l : List Sg} {op : Int} {nm : List UInt8} {t : Ty} (h : findR l op nm = some t) : rightQ t = true := by
 unfold findR at h
 cases hf : l.find? fun s => hitR s op nm with
 | none => rw [hf] at h; cases h
 | some s =>
  rw [hf] at h
  have := List.find?_some hf
  simp only [Option.map_some, Option.some.injEq] at h
  subst h
  simp only [hitR, Bool.and_eq_true] at this
  exact this.2.2.2.1
theorem zT_right : rightQ zT = true := by simp [rightQ, zT, unitQ]
theorem find_getD_right (l : List Sg) (op : Int) (nm : List UInt8) : rightQ ((findR l op nm).getD zT) = true := by
 cases h : findR l op nm with
 | none => exact zT_right
 | some t => exact findR_right h
theorem typR_right {l : List Sg} {x : Nd} {own : List Ty} (h1 : 1 ≤ x.op) (h2 : x.op ≤ 24) (ha : own.length = arI x.op) (hr : ∀ t ∈ own, rightQ t = true) (h : (typR l x own).2 = 0) : rightQ (typR l x own).1 = true := by
 unfold typR ofR at h ⊢
 have h3 := rule_right h1 h2 ((findR l x.op x.name).getD zT) own ha hr (find_getD_right l x.op x.name)
 cases hc : namI x.op && !(findR l x.op x.name).isSome with
 | true => rw [hc] at h; simp at h
 | false =>
  rw [hc] at h
  cases hq : (ruleN x.op.toNat ((findR l x.op x.name).getD zT) own).1 with
  | true => simp only [cond_false, cond_true]; exact h3 hq
  | false => rw [hq] at h; simp at h
theorem ru_drop {op : Int} (h1 : 1 ≤ op) (h2 : op ≤ 24) : ∃ rs, List.drop ((Int.toNat op) * 2) ruL = [AV.bool (namI op)] ++ rs := by
 rcases op_cases h1 h2 with rfl | rfl | rfl | rfl | rfl | rfl | rfl | rfl | rfl | rfl | rfl | rfl | rfl | rfl | rfl | rfl | rfl | rfl | rfl | rfl | rfl | rfl | rfl | rfl <;> exact ⟨_, rfl⟩
theorem ag_drop {ll : List (List Nat)} {k : Nat} (h : k < ll.length) : List.drop (Int.toNat (k : Int) * 1) (argsU ll) = [AV.sl (i64L (ll.getD k [])) (ll.getD k []).length false] ++ argsU (ll.drop (k + 1)) := by
 unfold argsU
 rw [c_toNat, Nat.mul_one, ← List.map_drop, List.drop_eq_getElem_cons h, List.getD_eq_getElem?_getD, List.getElem?_eq_getElem h]
 rfl
theorem i64_drop {a : List Nat} {i : Nat} (h : i < a.length) : List.drop (Int.toNat (i : Int) * 1) (i64L a) = [AV.int .i64 ((a.getD i 0 : Nat) : Int)] ++ i64L (a.drop (i + 1)) := by
 unfold i64L
 rw [c_toNat, Nat.mul_one, ← List.map_drop, List.drop_eq_getElem_cons h, List.getD_eq_getElem?_getD, List.getElem?_eq_getElem h]
 rfl
def ciE (l : List Sg) (ns : List Nd) (nl nn : Bool) (ll : List (List Nat)) (k : Nat) (ag : List Nat) (i : Nat) (v : AV) : Env := ctE l ns nl nn ll k ++ [(11, .ptr 2 0 0), (12, .ptr 3 0 0), (49, .sl (i64L ag) ag.length false), (50, .int .i64 (ag.length : Int)), (13, v), (51, .int .i64 (i : Int))]
def ciH (x : Nd) (sg : Ty) (ts : List Ty) : List Ty → Hp
 | [] => [(0, ⟨[.ref 4 0 0 ts.length], 0, false, 0, 0, false⟩), ct1, (2, ctN x.op x), ct3 sg, (4, ctT ts)]
 | y :: r => [(0, ⟨[.ref 5 0 0 ts.length], 0, false, 0, 0, false⟩), ct1, (2, ctN x.op x), ct3 sg, (4, ctT (y :: r)), (5, ctT ts)]
def ciV : List Ty → AV
 | [] => .nilS
 | y :: r => .ref 4 0 0 (y :: r).length
theorem ciH_ne {x : Nd} {sg : Ty} {ts own : List Ty} (h : own ≠ []) : ciH x sg ts own = [(0, ⟨[.ref 5 0 0 ts.length], 0, false, 0, 0, false⟩), ct1, (2, ctN x.op x), ct3 sg, (4, ctT own), (5, ctT ts)] := by cases own with | nil => exact absurd rfl h | cons _ _ => rfl
theorem ciV_ne {own : List Ty} (h : own ≠ []) : ciV own = .ref 4 0 0 own.length := by cases own with | nil => exact absurd rfl h | cons _ _ => rfl
def ciSt (l : List Sg) (ns : List Nd) (nl nn : Bool) (ll : List (List Nat)) (k : Nat) (ag : List Nat) (x : Nd) (sg : Ty) (ts : List Ty) (p : Nat × List Ty) : St := ⟨ciE l ns nl nn ll k ag p.1 (ciV p.2), ciH x sg ts p.2, .dead, ctD⟩
def ciOut (l : List Sg) (ns : List Nd) (nl nn : Bool) (ll : List (List Nat)) (k : Nat) (x : Nd) (sg : Ty) (ts own : List Ty) : St := ⟨ctE l ns nl nn ll k ++ [(11, .ptr 2 0 0), (12, .ptr 3 0 0), (13, ciV own)], ciH x sg ts own, .dead, ctD⟩
theorem ci_loop {nt : Nat} (hn : 84 ≤ nt) (l : List Sg) (ns : List Nd) (nl nn : Bool) (ll : List (List Nat)) (k : Nat) (ag : List Nat) (x : Nd) (sg : Ty) (ts : List Ty) (ha : ag.length < 2 ^ 38) (hj : ∀ j ∈ ag, j < ts.length) : ∀ (d i : Nat) (own : List Ty), i + d = ag.length → own.length ≤ i → LoopR prog ap [] nt (loopBody 2 (bodyOf f30)) (fun _ => .exit 2) (ciSt l ns nl nn ll k ag x sg ts) (ciOut l ns nl nn ll k x sg ts) (i, own) (own ++ pickT ts (ag.drop i)) := by
 intro d
 induction d with
 | zero =>
  intro i own hi ho
  rw [List.drop_of_length_le (by omega)]
  simp only [pickT, List.map_nil, List.append_nil]
  have hi' : i = ag.length := by omega
  subst hi'
  have hx : lit false (decide ((ag.length : Int) < (ag.length : Int))) = true := by rw [d_lt]; simp [lit]
  refine .done ?_
  cases own with
  | nil => exact ciN_1 hn l ns nl nn ll k ag ag.length x sg ts hx
  | cons y r => exact ciC_1 hn l ns nl nn ll k ag ag.length x sg ts (y :: r) hx
 | succ d ih =>
  intro i own hi ho
  have hia : i < ag.length := by omega
  have hjm : ag.getD i 0 ∈ ag := by rw [List.getD_eq_getElem?_getD, List.getElem?_eq_getElem hia]; exact List.getElem_mem hia
  have hjt := hj _ hjm
  have hnext := ih (i + 1) (own ++ [ts.getD (ag.getD i 0) zT]) (by omega) (by simp; omega)
  have e : ag.drop i = ag.getD i 0 :: ag.drop (i + 1) := by
   rw [List.drop_eq_getElem_cons hia, List.getD_eq_getElem?_getD, List.getElem?_eq_getElem hia]; rfl
  have e2 : own ++ pickT ts (ag.drop i) = own ++ [ts.getD (ag.getD i 0) zT] ++ pickT ts (ag.drop (i + 1)) := by rw [e]; simp [pickT]
  rw [e2]
  refine .next ?_ hnext
  have hne2 : own ++ [ts.getD (ag.getD i 0) zT] ≠ [] := by simp
  have hx : lit true (decide ((i : Int) < (ag.length : Int))) = true := by rw [d_lt]; simp [lit]; omega
  unfold ciSt
  dsimp only
  rw [ciV_ne hne2, ciH_ne hne2]
  cases own with
  | nil => exact ciN_0 hn l ns nl nn ll k ag i x sg ts (ag.getD i 0) _ _ _ (wk1 (by omega)) (i64_drop hia) (tyL_drop hjt) (decide_eq_true (by omega)) (decide_eq_true (by omega)) (decide_eq_true (by omega)) (decide_eq_true (by omega)) hx
  | cons y r =>
   have h := ciC_0 hn l ns nl nn ll k ag i x sg ts (y :: r) (ag.getD i 0) _ _ _ (wk1 (by omega)) (i64_drop hia) (tyL_drop hjt) (by simp at ho ⊢; omega) (by rw [tyL_len]; simp) (decide_eq_true (by omega)) (decide_eq_true (by omega)) (decide_eq_true (by omega)) (decide_eq_true (by omega)) hx
   rw [List.length_append, List.length_singleton]
   exact h
theorem ctyN_0 (l : List Sg) (ns : List Nd) (nl nn : Bool) (ll : List (List Nat)) (ts : List Ty) (w e : Int) (h0 : lit true (!(w == ((0 : Nat) : Int))) = true) (c0 : CO 49 [.sl (ndL ns) ns.length nn] (.ret (.int .i64 w))) : CO 30 [.sl (sgL l) l.length nl, .sl (ndL ns) ns.length nn] (.ret (.tup [.nilS, .int .i64 w])) := pK [0] 1 1 (.k 4 h0 .nil) (.c c0 .nil)
theorem ctyN_1 (l : List Sg) (ns : List Nd) (nl nn : Bool) (ll : List (List Nat)) (ts : List Ty) (w e : Int) (h0 : lit false (!(w == ((0 : Nat) : Int))) = true) (c0 : CO 49 [.sl (ndL ns) ns.length nn] (.ret (.int .i64 w))) (c1 : CO 51 [.sl (ndL ns) ns.length nn] (.ret (.tup [.sl (argsU ll) ns.length true, .bool true]))) (c2 : CO 52 [] (.ret (.sl ruL 25 true))) (l0 : LoopOk prog ap [] 84 (.block 0 (.loop (loopBody 0 (bodyOf f30)))) ⟨[(0, .sl (sgL l) l.length nl), (1, .sl (ndL ns) ns.length nn), (4, .ptr 0 0 0), (5, .ptr 1 0 0), (6, .int .i64 w), (7, .sl (argsU ll) ns.length true), (9, .sl ruL 25 true), (10, .dead), (11, .dead), (12, .dead), (13, .dead), (15, .dead), (16, .dead), (17, .dead), (21, .bool (!(w == ((0 : Nat) : Int)))), (30, .sl (ndL ns) ns.length nn), (31, .int .i64 (ns.length : Int)), (32, .int .i64 0), (33, .dead), (42, .dead), (49, .dead), (50, .dead), (51, .dead), (52, .dead), (76, .dead)], [(0, ⟨[.nilS], 0, false, 0, 0, true⟩), ct1], .dead, ctD⟩ (.normal) ⟨[(4, .ptr 0 0 0), (5, .ptr 1 0 0)], [(0, ⟨[.ref 2 0 0 ts.length], 0, false, 0, 0, false⟩), ct1, (2, ctT ts)], .dead, ctD⟩) : CO 30 [.sl (sgL l) l.length nl, .sl (ndL ns) ns.length nn] (.ret (.tup [.own (List.take (ts.length * 3) (tyL ts)) ts.length 3, .int .i64 0])) := pK [0] 2 0 (.k 6 h0 .nil) (.l l0 (.c c2 (.c c1 (.c c0 .nil))))
theorem ctyP_1 (l : List Sg) (ns : List Nd) (nl nn : Bool) (ll : List (List Nat)) (ts : List Ty) (w e : Int) (h0 : lit false (!(w == ((0 : Nat) : Int))) = true) (c0 : CO 49 [.sl (ndL ns) ns.length nn] (.ret (.int .i64 w))) (c1 : CO 51 [.sl (ndL ns) ns.length nn] (.ret (.tup [.sl (argsU ll) ns.length true, .bool true]))) (c2 : CO 52 [] (.ret (.sl ruL 25 true))) (l0 : LoopOk prog ap [] 84 (.block 0 (.loop (loopBody 0 (bodyOf f30)))) ⟨[(0, .sl (sgL l) l.length nl), (1, .sl (ndL ns) ns.length nn), (4, .ptr 0 0 0), (5, .ptr 1 0 0), (6, .int .i64 w), (7, .sl (argsU ll) ns.length true), (9, .sl ruL 25 true), (10, .dead), (11, .dead), (12, .dead), (13, .dead), (15, .dead), (16, .dead), (17, .dead), (21, .bool (!(w == ((0 : Nat) : Int)))), (30, .sl (ndL ns) ns.length nn), (31, .int .i64 (ns.length : Int)), (32, .int .i64 0), (33, .dead), (42, .dead), (49, .dead), (50, .dead), (51, .dead), (52, .dead), (76, .dead)], [(0, ⟨[.nilS], 0, false, 0, 0, true⟩), ct1], .dead, ctD⟩ (.panic (.ifc 63 (.int .i64 e))) ⟨[(4, .ptr 0 0 0), (5, .ptr 1 0 0)], [(0, ⟨[.ref 2 0 0 ts.length], 0, false, 0, 0, false⟩), ct1, (2, ctT ts)], .dead, ctD⟩) : CO 30 [.sl (sgL l) l.length nl, .sl (ndL ns) ns.length nn] (.ret (.tup [.nilS, .int .i64 e])) := pK [0] 2 2 (.k 5 h0 .nil) (.l l0 (.c c2 (.c c1 (.c c0 .nil))))
theorem ctyQ_1 (l : List Sg) (ns : List Nd) (nl nn : Bool) (ll : List (List Nat)) (ts : List Ty) (w e : Int) (h0 : lit false (!(w == ((0 : Nat) : Int))) = true) (c0 : CO 49 [.sl (ndL ns) ns.length nn] (.ret (.int .i64 w))) (c1 : CO 51 [.sl (ndL ns) ns.length nn] (.ret (.tup [.sl (argsU ll) ns.length true, .bool true]))) (c2 : CO 52 [] (.ret (.sl ruL 25 true))) (l0 : LoopOk prog ap [] 84 (.block 0 (.loop (loopBody 0 (bodyOf f30)))) ⟨[(0, .sl (sgL l) l.length nl), (1, .sl (ndL ns) ns.length nn), (4, .ptr 0 0 0), (5, .ptr 1 0 0), (6, .int .i64 w), (7, .sl (argsU ll) ns.length true), (9, .sl ruL 25 true), (10, .dead), (11, .dead), (12, .dead), (13, .dead), (15, .dead), (16, .dead), (17, .dead), (21, .bool (!(w == ((0 : Nat) : Int)))), (30, .sl (ndL ns) ns.length nn), (31, .int .i64 (ns.length : Int)), (32, .int .i64 0), (33, .dead), (42, .dead), (49, .dead), (50, .dead), (51, .dead), (52, .dead), (76, .dead)], [(0, ⟨[.nilS], 0, false, 0, 0, true⟩), ct1], .dead, ctD⟩ (.panic (.ifc 63 (.int .i64 e))) ⟨[(4, .ptr 0 0 0), (5, .ptr 1 0 0)], [(0, ⟨[.nilS], 0, false, 0, 0, true⟩), ct1], .dead, ctD⟩) : CO 30 [.sl (sgL l) l.length nl, .sl (ndL ns) ns.length nn] (.ret (.tup [.nilS, .int .i64 e])) := pK [0] 2 2 (.k 5 h0 .nil) (.l l0 (.c c2 (.c c1 (.c c0 .nil))))
def ctH : List Ty → Hp
 | [] => [(0, ⟨[.nilS], 0, false, 0, 0, true⟩), ct1]
 | x :: r => [(0, ⟨[.ref 2 0 0 (x :: r).length], 0, false, 0, 0, false⟩), ct1, (2, ctT (x :: r))]
theorem ctH_ne {ts : List Ty} (h : ts ≠ []) : ctH ts = [(0, ⟨[.ref 2 0 0 ts.length], 0, false, 0, 0, false⟩), ct1, (2, ctT ts)] := by cases ts with | nil => exact absurd rfl h | cons _ _ => rfl
def ctSt (l : List Sg) (ns : List Nd) (nl nn : Bool) (ll : List (List Nat)) (p : Nat × List Ty) : St := ⟨ctE l ns nl nn ll p.1, ctH p.2, .dead, ctD⟩
def ctOut (q : List Ty × Int) : St := ⟨[(4, .ptr 0 0 0), (5, .ptr 1 0 0)], ctH q.1, .dead, ctD⟩
def ctX (q : List Ty × Int) : AExit := if q.2 = 0 then .exit 0 else .panic (.ifc 63 (.int .i64 q.2))
theorem ctx_ne (q : List Ty × Int) : ctX q ≠ .normal := by unfold ctX; split <;> simp
theorem ofR_e (named fo : Bool) (sg : Ty) (op : Nat) (ts : List Ty) : ofR named fo sg op ts = if named && !fo then (zT, 12) else if (ruleN op sg ts).1 then ((ruleN op sg ts).2, 0) else (zT, 13) := by
 unfold ofR zT
 cases named && !fo <;> cases (ruleN op sg ts).1 <;> rfl
theorem rule0 {op : Int} (h1 : 1 ≤ op) (h2 : op ≤ 8) (sg : Ty) : (ruleN op.toNat sg []).1 = true := by
 have : op = 1 ∨ op = 2 ∨ op = 3 ∨ op = 4 ∨ op = 5 ∨ op = 6 ∨ op = 7 ∨ op = 8 := by omega
 rcases this with rfl | rfl | rfl | rfl | rfl | rfl | rfl | rfl <;> rfl
theorem arI_0 {op : Int} (h1 : 1 ≤ op) (h2 : op ≤ 24) (h : arI op = 0) : op ≤ 8 := by
 by_cases h3 : op < 9
 ·omega
 ·exfalso
  have : op = 9 ∨ op = 10 ∨ op = 11 ∨ op = 12 ∨ op = 13 ∨ op = 14 ∨ op = 15 ∨ op = 16 ∨ op = 17 ∨ op = 18 ∨ op = 19 ∨ op = 20 ∨ op = 21 ∨ op = 22 ∨ op = 23 ∨ op = 24 := by omega
  rcases this with rfl | rfl | rfl | rfl | rfl | rfl | rfl | rfl | rfl | rfl | rfl | rfl | rfl | rfl | rfl | rfl <;> simp [arI] at h
theorem arI_pos {op : Int} (h1 : 1 ≤ op) (h : arI op ≠ 0) : 9 ≤ op := by
 by_cases h3 : op < 9
 ·exfalso
  have : op = 1 ∨ op = 2 ∨ op = 3 ∨ op = 4 ∨ op = 5 ∨ op = 6 ∨ op = 7 ∨ op = 8 := by omega
  rcases this with rfl | rfl | rfl | rfl | rfl | rfl | rfl | rfl <;> simp [arI] at h
 ·omega
theorem ct_round {nt : Nat} (hn : 84 ≤ nt) (l : List Sg) (ns p r : List Nd) (nl nn : Bool) (ll : List (List Nat)) (x : Nd) (ts : List Ty) (hns : ns = p ++ x :: r) (hle : ns.length < 2 ^ 38) (hlg : l.length < 2 ^ 40) (hll : ll.length = ns.length) (hts : ts.length = p.length) (h1 : 1 ≤ x.op) (h2 : x.op ≤ 24) (ha : (ll.getD p.length []).length = arI x.op) (hj : ∀ j ∈ ll.getD p.length [], j < p.length) (hr : ∀ t ∈ ts, rightQ t = true) :
  ((typR l x (pickT ts (ll.getD p.length []))).2 = 0 → ExecOk prog ap [] nt (loopBody 0 (bodyOf f30)) (ctSt l ns nl nn ll (p.length, ts)) .normal (ctSt l ns nl nn ll (p.length + 1, ts ++ [(typR l x (pickT ts (ll.getD p.length []))).1]))) ∧
  (¬ (typR l x (pickT ts (ll.getD p.length []))).2 = 0 → ExecOk prog ap [] nt (loopBody 0 (bodyOf f30)) (ctSt l ns nl nn ll (p.length, ts)) (ctX (ts, (typR l x (pickT ts (ll.getD p.length []))).2)) (ctOut (ts, (typR l x (pickT ts (ll.getD p.length []))).2))) := by
 have hlen : p.length + (r.length + 1) = ns.length := by rw [hns]; simp
 have hdr : List.drop (Int.toNat (p.length : Int) * 5) (ndL ns) = ndC x ++ ndL r := by rw [hns]; exact nd_drop rfl
 obtain ⟨rs, hrow⟩ := ru_drop h1 h2
 have hag := ag_drop (ll := ll) (k := p.length) (by omega)
 have hsig : ∀ t, findR l x.op x.name = some t → namI x.op = true → CO 53 [.sl (sgL l) l.length nl, .agg (ndC x)] (.ret (.agg (tyC t))) := fun t h hm => sig_some l nl x t hlg (by rw [← find_eq l x.name hm]; exact h)
 have hsigN : findR l x.op x.name = none → namI x.op = true → CO 53 [.sl (sgL l) l.length nl, .agg (ndC x)] (.pan (.ifc 63 (.int .i64 12))) := fun h hm => sig_none l nl x hlg (by rw [← find_eq l x.name hm]; exact h)
 have hfn := find_not l (op := x.op) x.name
 have hrp : ∀ t ∈ pickT ts (ll.getD p.length []), rightQ t = true := by
  intro t ht
  obtain ⟨j, hj1, rfl⟩ := List.mem_map.1 ht
  have := hj j hj1
  rw [List.getD_eq_getElem?_getD, List.getElem?_eq_getElem (by omega)]
  exact hr _ (List.getElem_mem _)
 have hpl : (pickT ts (ll.getD p.length [])).length = arI x.op := by simp [pickT]; exact ha
 have har := arI_le x.op
 have hin : ts ≠ [] → ∀ sg nt, 84 ≤ nt → LoopR prog ap [] nt (loopBody 2 (bodyOf f30)) (fun _ => .exit 2) (ciSt l ns nl nn ll p.length (ll.getD p.length []) x sg ts) (ciOut l ns nl nn ll p.length x sg ts) (0, []) (pickT ts (ll.getD p.length [])) := by
  intro _ sg nt hn
  have h := ci_loop hn l ns nl nn ll p.length (ll.getD p.length []) x sg ts (by omega) (by rw [hts]; exact hj) (ll.getD p.length []).length 0 [] (by omega) (by simp)
  rwa [List.nil_append, List.drop_zero] at h
 have g0 : decide (((0 : Nat) : Int) ≤ (p.length : Int)) = true := decide_eq_true (by omega)
 have g1 : decide ((p.length : Int) < (ns.length : Int)) = true := decide_eq_true (by omega)
 have g2 : lit true (decide ((p.length : Int) < (ns.length : Int))) = true := by rw [g1]; rfl
 have g3 : decide (((0 : Nat) : Int) ≤ x.op) = true := decide_eq_true (by omega)
 have g4 : decide (x.op < ((25 : Nat) : Int)) = true := decide_eq_true (by omega)
 have hw := wk1 (i := p.length) (by omega)
 have hown0 : ts = [] → ll.getD p.length [] = [] := by
  intro h
  cases hh : ll.getD p.length [] with
  | nil => rfl
  | cons j _ => have h4 := hj j (by rw [hh]; simp); rw [h] at hts; simp at hts; omega
 unfold typR
 rw [ofR_e]
 generalize hA : ll.getD p.length [] = ag at *
 cases hm : namI x.op && !(findR l x.op x.name).isSome with
 | true =>
  simp only [if_true]
  refine ⟨fun h => absurd h (by decide), fun _ => ?_⟩
  rw [Bool.and_eq_true] at hm
  have hno : findR l x.op x.name = none := by cases hf : findR l x.op x.name with | none => rfl | some t => rw [hf] at hm; simp at hm
  have hs := hsigN hno hm.1
  have hm1 : lit true (namI x.op) = true := hm.1
  rcases Decidable.em (ts = []) with hT | hT
  ·subst hT
   exact cuZ_0 hn l ns nl nn ll p.length x r rs hdr hrow hm1 g3 g4 g0 g1 g2 hs
  ·unfold ctSt ctOut
   dsimp only
   rw [ctH_ne hT]
   exact cuN_0 hn l ns nl nn ll ts p.length x r rs hdr hrow hm1 g3 g4 g0 g1 g2 hs
 | false =>
  simp only [Bool.false_eq_true, if_false]
  have hsg : (namI x.op = true ∧ CO 53 [.sl (sgL l) l.length nl, .agg (ndC x)] (.ret (.agg (tyC ((findR l x.op x.name).getD zT))))) ∨ (namI x.op = false ∧ (findR l x.op x.name).getD zT = zT) := by
   cases hnm : namI x.op with
   | false => right; rw [hfn hnm]; exact ⟨rfl, rfl⟩
   | true =>
    left
    rw [hnm] at hm
    cases hf : findR l x.op x.name with
    | none => rw [hf] at hm; simp at hm
    | some t => exact ⟨rfl, hsig t hf hnm⟩
  generalize (findR l x.op x.name).getD zT = sg at *
  by_cases hz : ag = []
  ·subst hz
   have h8 := arI_0 h1 h2 ha.symm
   have hg := rule0 h1 h8 sg
   have hp0 : pickT ts [] = [] := rfl
   rw [hp0] at *
   simp only [hg, if_true]
   refine ⟨fun _ => ?_, fun h => absurd trivial h⟩
   rcases Decidable.em (ts = []) with hT | hT
   ·subst hT
    have l1 := s3Z_ok h1 h8 l ns nl nn ll p.length x sg [] []
    rw [hg] at l1
    rcases hsg with ⟨hs1, hs2⟩ | ⟨hs1, rfl⟩
    ·exact ctZ_0 hn l ns nl nn ll p.length sg _ true x r rs _ [] hw hdr hrow hag rfl g0 g1 hs1 g3 g4 g2 hs2 (fun nt hnt => (LoopR.blk (id := 2) (e := fun _ : Unit => AExit.exit 2) (st := fun _ : Unit => (⟨ciE l ns nl nn ll p.length [] 0 .nilS, [(0, ⟨[.nilS], 0, false, 0, 0, true⟩), ct1, (2, ctN x.op x), ct3 sg], .dead, ctD⟩ : St)) (out := fun _ : Unit => (⟨ctE l ns nl nn ll p.length ++ [(11, .ptr 2 0 0), (12, .ptr 3 0 0), (13, .nilS)], [(0, ⟨[.nilS], 0, false, 0, 0, true⟩), ct1, (2, ctN x.op x), ct3 sg], .dead, ctD⟩ : St)) (a := ()) (r := ()) (e' := .normal) (fun nt hn => .done (ciZ_0 hn l ns nl nn ll p.length [] 0 x sg rfl)) (by simp) rfl (Less.of ⟨rfl, rfl, rfl, rfl, rfl, rfl, rfl, rfl, rfl, rfl, rfl, rfl, rfl, rfl, rfl, trivial⟩) (Less.refl _)) nt hnt) l1
    ·exact ctZ_1 hn l ns nl nn ll p.length _ true x r rs _ [] hw hdr hrow hag rfl g0 g1 (by rw [hs1]; rfl) g3 g4 g2 (fun nt hnt => (LoopR.blk (id := 2) (e := fun _ : Unit => AExit.exit 2) (st := fun _ : Unit => (⟨ciE l ns nl nn ll p.length [] 0 .nilS, [(0, ⟨[.nilS], 0, false, 0, 0, true⟩), ct1, (2, ctN x.op x), ct3 zT], .dead, ctD⟩ : St)) (out := fun _ : Unit => (⟨ctE l ns nl nn ll p.length ++ [(11, .ptr 2 0 0), (12, .ptr 3 0 0), (13, .nilS)], [(0, ⟨[.nilS], 0, false, 0, 0, true⟩), ct1, (2, ctN x.op x), ct3 zT], .dead, ctD⟩ : St)) (a := ()) (r := ()) (e' := .normal) (fun nt hn => .done (ciZ_0 hn l ns nl nn ll p.length [] 0 x zT rfl)) (by simp) rfl (Less.of ⟨rfl, rfl, rfl, rfl, rfl, rfl, rfl, rfl, rfl, rfl, rfl, rfl, rfl, rfl, rfl, trivial⟩) (Less.refl _)) nt hnt) l1
   ·have l1 := s3N_ok h1 h8 l ns nl nn ll p.length x sg ts []
    rw [hg] at l1
    have hin2 := hin hT sg
    have hL : ∀ q : Ty, ts ++ [q] ≠ [] := by simp
    have htl : ts.length < 2 ^ 38 := by omega
    unfold ctSt
    dsimp only
    rw [ctH_ne hT, ctH_ne (hL _), List.length_append, List.length_singleton]
    have f0 : Nat.ble (ts.length + 1) 1099511627776 = true := by simp; omega
    have f1 : Nat.ble (ts.length * 3) (List.length (tyL ts)) = true := by rw [tyL_len]; simp
    rcases hsg with ⟨hs1, hs2⟩ | ⟨hs1, rfl⟩
    ·exact ctN_0 hn l ns nl nn ll ts p.length sg _ true x r rs _ [] hw hdr hrow hag f0 f1 rfl g0 g1 hs1 g3 g4 g2 hs2 (fun nt hnt => (LoopR.blk (id := 2) (e' := .normal) hin2 (by simp) rfl (Less.of ⟨rfl, rfl, rfl, rfl, rfl, rfl, rfl, rfl, rfl, rfl, rfl, rfl, rfl, rfl, rfl, trivial⟩) (Less.refl _)) nt hnt) l1
    ·exact ctN_1 hn l ns nl nn ll ts p.length _ true x r rs _ [] hw hdr hrow hag f0 f1 rfl g0 g1 (by rw [hs1]; rfl) g3 g4 g2 (fun nt hnt => (LoopR.blk (id := 2) (e' := .normal) hin2 (by simp) rfl (Less.of ⟨rfl, rfl, rfl, rfl, rfl, rfl, rfl, rfl, rfl, rfl, rfl, rfl, rfl, rfl, rfl, trivial⟩) (Less.refl _)) nt hnt) l1
  ·have h9 := arI_pos h1 (by rw [← ha]; intro h; exact hz (List.eq_nil_of_length_eq_zero h))
   have hT : ts ≠ [] := fun h => hz (hown0 h)
   have hin2 := hin hT sg
   have hne : pickT ts ag ≠ [] := by intro h; apply hz; simpa [pickT] using h
   have l1 := s3C_ok h9 h2 l ns nl nn ll p.length x sg ts (pickT ts ag) hpl hrp
   generalize pickT ts ag = own at *
   have hL : ∀ q : Ty, ts ++ [q] ≠ [] := by simp
   have f0 : Nat.ble (ts.length + 1) 1099511627776 = true := by simp; omega
   have f1 : Nat.ble (ts.length * 3) (List.length (tyL ts)) = true := by rw [tyL_len]; simp
   have hin3 := fun nt hn => hin2 nt hn
   unfold ciOut at hin3
   have hloop := LoopR.blk (id := 2) (e' := .normal) (s' := ⟨ctE l ns nl nn ll p.length ++ [(11, .ptr 2 0 0), (12, .ptr 3 0 0), (13, .ref 4 0 0 own.length)], [(0, ⟨[.ref 5 0 0 ts.length], 0, false, 0, 0, false⟩), ct1, (2, ctN x.op x), ct3 sg, (4, ctT own), (5, ctT ts)], .dead, ctD⟩) (s := ciSt l ns nl nn ll p.length ag x sg ts (0, [])) hin3 (by simp) rfl (Less.refl _) (by rw [ciV_ne hne, ciH_ne hne]; exact Less.refl _)
   cases hg : (ruleN x.op.toNat sg own).1 with
   | true =>
    rw [hg] at l1
    simp only [if_true]
    refine ⟨fun _ => ?_, fun h => absurd trivial h⟩
    unfold ctSt
    dsimp only
    rw [ctH_ne hT, ctH_ne (hL _), List.length_append, List.length_singleton]
    rcases hsg with ⟨hs1, hs2⟩ | ⟨hs1, rfl⟩
    ·exact ctC_1 hn l ns nl nn ll ts own p.length sg _ true x r rs _ ag hw hdr hrow hag f0 f1 rfl g0 g1 hs1 g3 g4 g2 hs2 (fun nt hnt => (hloop nt hnt).weak (Less.of ⟨rfl, rfl, rfl, rfl, rfl, rfl, rfl, rfl, rfl, rfl, rfl, rfl, rfl, rfl, rfl, trivial⟩) (Less.refl _)) l1
    ·exact ctC_3 hn l ns nl nn ll ts own p.length _ true x r rs _ ag hw hdr hrow hag f0 f1 rfl g0 g1 (by rw [hs1]; rfl) g3 g4 g2 (fun nt hnt => (hloop nt hnt).weak (Less.of ⟨rfl, rfl, rfl, rfl, rfl, rfl, rfl, rfl, rfl, rfl, rfl, rfl, rfl, rfl, rfl, trivial⟩) (Less.refl _)) l1
   | false =>
    rw [hg] at l1
    simp only [Bool.false_eq_true, if_false]
    refine ⟨fun h => absurd h (by decide), fun _ => ?_⟩
    unfold ctSt ctOut
    dsimp only
    rw [ctH_ne hT]
    rcases hsg with ⟨hs1, hs2⟩ | ⟨hs1, rfl⟩
    ·exact ctC_0 hn l ns nl nn ll ts own p.length sg _ false x r rs _ ag hdr hrow hag rfl g0 g1 hs1 g3 g4 g2 hs2 (fun nt hnt => (hloop nt hnt).weak (Less.of ⟨rfl, rfl, rfl, rfl, rfl, rfl, rfl, rfl, rfl, rfl, rfl, rfl, rfl, rfl, rfl, trivial⟩) (Less.refl _)) l1
    ·exact ctC_2 hn l ns nl nn ll ts own p.length _ false x r rs _ ag hdr hrow hag rfl g0 g1 (by rw [hs1]; rfl) g3 g4 g2 (fun nt hnt => (hloop nt hnt).weak (Less.of ⟨rfl, rfl, rfl, rfl, rfl, rfl, rfl, rfl, rfl, rfl, rfl, rfl, rfl, rfl, rfl, trivial⟩) (Less.refl _)) l1
def typsP (l : List Sg) : List Nd → Nat → List Nat → List Ty → List Ty × Int
 | [], _, _, ts => (ts, 0)
 | x :: r, k, st, ts => if (typR l x (pickT ts (st.drop (st.length - arI x.op)))).2 = 0 then typsP l r (k + 1) (st.take (st.length - arI x.op) ++ [k]) (ts ++ [(typR l x (pickT ts (st.drop (st.length - arI x.op)))).1]) else (ts, (typR l x (pickT ts (st.drop (st.length - arI x.op)))).2)
theorem typsR_P (l : List Sg) : ∀ (r : List Nd) (k : Nat) (st : List Nat) (ts : List Ty), typsR l r k st ts = if (typsP l r k st ts).2 = 0 then .inl (typsP l r k st ts).1 else .inr (typsP l r k st ts).2 := by
 intro r
 induction r with
 | nil => intro k st ts; simp [typsR, typsP]
 | cons x r ih =>
  intro k st ts
  simp only [typsR, typsP]
  split
  ·exact ih _ _ _
  ·rfl
theorem ct_loop {nt : Nat} (hn : 84 ≤ nt) (l : List Sg) (ns : List Nd) (nl nn : Bool) (hle : ns.length < 2 ^ 38) (hlg : l.length < 2 ^ 40) (e0 : Nat) : ∀ (r p : List Nd) (st : List Nat) (done : List (List Nat)) (ts : List Ty), p ++ r = ns → chkR r st.length = .inl e0 → (∀ j ∈ st, j < p.length) → done.length = p.length → ts.length = p.length → (∀ t ∈ ts, rightQ t = true) → argsQ ns = done ++ argR r p.length st → LoopR prog ap [] nt (loopBody 0 (bodyOf f30)) ctX (ctSt l ns nl nn (argsQ ns)) ctOut (p.length, ts) (typsP l r p.length st ts) := by
 intro r
 induction r with
 | nil =>
  intro p st done ts h hc hst hd hts hrt ha
  have hp : p.length = ns.length := by rw [← h]; simp
  simp only [typsP]
  refine .done ?_
  have hq : lit false (decide ((p.length : Int) < (ns.length : Int))) = true := by rw [hp, d_lt]; simp [lit]
  rcases Decidable.em (ts = []) with hT | hT
  ·subst hT
   exact ctZ_2 hn l ns nl nn (argsQ ns) p.length hq
  ·unfold ctSt ctOut
   dsimp only
   rw [ctH_ne hT]
   exact ctN_2 hn l ns nl nn (argsQ ns) ts p.length hq
 | cons x r ih =>
  intro p st done ts h hc hst hd hts hrt ha
  obtain ⟨⟨h1, h2⟩, har, hc2⟩ := chkR_le hc
  have hst2 : (st.take (st.length - arI x.op) ++ [p.length]).length = st.length - arI x.op + 1 := by
   rw [List.length_append, List.length_take, List.length_singleton, Nat.min_eq_left (by omega)]
  have hget : (argsQ ns).getD p.length [] = st.drop (st.length - arI x.op) := by
   rw [ha]
   simp only [argR]
   rw [← hd, List.getD_eq_getElem?_getD, List.getElem?_append_right (Nat.le_refl _), Nat.sub_self]
   rfl
  have hlen : (argsQ ns).length = ns.length := by unfold argsQ; rw [argR_len]
  have hal : ((argsQ ns).getD p.length []).length = arI x.op := by rw [hget, List.length_drop]; omega
  have hjs : ∀ j ∈ (argsQ ns).getD p.length [], j < p.length := by rw [hget]; exact fun j hj => hst j (List.mem_of_mem_drop hj)
  obtain ⟨s1, s2⟩ := ct_round hn l ns p r nl nn (argsQ ns) x ts h.symm hle hlg hlen hts h1 h2 hal hjs hrt
  have hrp : ∀ t ∈ pickT ts ((argsQ ns).getD p.length []), rightQ t = true := by
   intro t ht
   obtain ⟨j, hj1, rfl⟩ := List.mem_map.1 ht
   have := hjs j hj1
   rw [List.getD_eq_getElem?_getD, List.getElem?_eq_getElem (by omega)]
   exact hrt _ (List.getElem_mem _)
  have hright := typR_right (l := l) h1 h2 (by simp [pickT]; exact hal) hrp
  rw [hget] at s1 s2 hright
  simp only [typsP]
  split
  ·rename_i he
   have hnext := ih (p ++ [x]) (st.take (st.length - arI x.op) ++ [p.length]) (done ++ [st.drop (st.length - arI x.op)]) (ts ++ [(typR l x (pickT ts (st.drop (st.length - arI x.op)))).1]) (by simp [h]) (by rw [hst2]; exact hc2) (by
    intro j hj
    rcases List.mem_append.mp hj with hj | hj
    ·have := hst j (List.mem_of_mem_take hj); simp; omega
    ·simp at hj; simp; omega) (by simp [hd]) (by simp [hts]) (by
    intro t ht
    rcases List.mem_append.mp ht with ht | ht
    ·exact hrt t ht
    ·simp at ht; subst ht; exact hright he) (by rw [ha]; simp only [argR, List.length_append, List.length_singleton, List.append_assoc, List.singleton_append])
   rw [List.length_append, List.length_singleton] at hnext
   exact .next (s1 he) hnext
  ·rename_i he
   exact .done (s2 he)
theorem argsU_ok (ns : List Nd) (nn : Bool) (hsm : ∀ x ∈ ns, x.sm) (hc : checkQ ns = 0) : CO 51 [.sl (ndL ns) ns.length nn] (.ret (.tup [.sl (argsU (argsQ ns)) ns.length true, .bool true])) := args_ok ns nn hsm hc
theorem rulesS_ok : CO 52 [] (.ret (.sl ruL 25 true)) := rules_ok.thaw (by simp)
theorem typsP_len (l : List Sg) (ns : List Nd) (h : (typsP l ns 0 [] []).2 = 0) : (typsP l ns 0 [] []).1.length = ns.length := by
 have h1 := typsR_P l ns 0 [] []
 rw [if_pos h] at h1
 have := typsR_len l ns 0 [] [] _ h1
 simpa using this
theorem ctypes_ok (l : List Sg) (ns : List Nd) (nl nn : Bool) (hlg : l.length < 2 ^ 40) (hsm : ∀ x ∈ ns, x.sm) : CO 30 [.sl (sgL l) l.length nl, .sl (ndL ns) ns.length nn] (.ret (typesO (typesQ l ns))) := by
 have hck := check_ok ns nn hsm
 unfold typesQ
 by_cases hc : checkQ ns = 0
 ·rw [if_pos hc]
  have ha := argsU_ok ns nn hsm hc
  obtain ⟨h60, hin⟩ := checkQ_inl hc
  rw [hc] at hck
  have hloop := fun nt (hn : 84 ≤ nt) => ct_loop hn l ns nl nn (by omega) hlg 1 ns [] [] [] [] rfl hin (by simp) rfl rfl (by simp) rfl
  rw [List.length_nil] at hloop
  rw [typsR_P]
  have hlen := typsP_len l ns
  have h0 : 0 < ns.length := by
   cases ns with
   | nil => simp [chkR] at hin
   | cons _ _ => simp
  generalize typsP l ns 0 [] [] = q at *
  obtain ⟨ts, e⟩ := q
  dsimp only at hlen ⊢
  by_cases he : e = 0
  ·subst he
   have hl := hlen rfl
   rw [if_pos rfl]
   have hT : ts ≠ [] := by intro h; subst h; simp at hl; omega
   have htk : List.take (ts.length * 3) (tyL ts) = tyL ts := List.take_of_length_le (by rw [tyL_len]; omega)
   have l0 := LoopR.blk (id := 0) (e' := .normal) (s' := ⟨[(4, .ptr 0 0 0), (5, .ptr 1 0 0)], [(0, ⟨[.ref 2 0 0 ts.length], 0, false, 0, 0, false⟩), ct1, (2, ctT ts)], .dead, ctD⟩) (s := ctSt l ns nl nn (argsQ ns) (0, [])) hloop (ctx_ne _) rfl (Less.refl _) (by unfold ctOut; dsimp only; rw [ctH_ne hT]; exact Less.refl _)
   have hb := ctyN_1 l ns nl nn (argsQ ns) ts 0 0 rfl hck ha rulesS_ok (fun nt hnt => (l0 nt hnt).weak (Less.of ⟨rfl, rfl, rfl, rfl, rfl, rfl, rfl, rfl, rfl, trivial⟩) (Less.refl _))
   have hb := hb.thaw (by simp)
   simp only [thawO, List.map_cons, List.map_nil, thaw, htk] at hb
   exact hb
  ·rw [if_neg he]
   rcases Decidable.em (ts = []) with hT | hT
   ·subst hT
    have l0 := LoopR.blk (id := 0) (e' := .panic (.ifc 63 (.int .i64 e))) (s' := ctOut ([], e)) (s := ctSt l ns nl nn (argsQ ns) (0, [])) hloop (ctx_ne _) (by unfold ctX; dsimp only; rw [if_neg he]; rfl) (Less.refl _) (Less.refl _)
    exact ctyQ_1 l ns nl nn (argsQ ns) [] 0 e rfl hck ha rulesS_ok (fun nt hnt => (l0 nt hnt).weak (Less.of ⟨rfl, rfl, rfl, rfl, rfl, rfl, rfl, rfl, rfl, trivial⟩) (Less.refl _))
   ·have l0 := LoopR.blk (id := 0) (e' := .panic (.ifc 63 (.int .i64 e))) (s' := ⟨[(4, .ptr 0 0 0), (5, .ptr 1 0 0)], [(0, ⟨[.ref 2 0 0 ts.length], 0, false, 0, 0, false⟩), ct1, (2, ctT ts)], .dead, ctD⟩) (s := ctSt l ns nl nn (argsQ ns) (0, [])) hloop (ctx_ne _) (by unfold ctX; dsimp only; rw [if_neg he]; rfl) (Less.refl _) (by unfold ctOut; dsimp only; rw [ctH_ne hT]; exact Less.refl _)
    exact ctyP_1 l ns nl nn (argsQ ns) ts 0 e rfl hck ha rulesS_ok (fun nt hnt => (l0 nt hnt).weak (Less.of ⟨rfl, rfl, rfl, rfl, rfl, rfl, rfl, rfl, rfl, trivial⟩) (Less.refl _))
 ·rw [if_neg hc]
  exact ctyN_0 l ns nl nn (argsQ ns) [] (checkQ ns) 0 (by simpa [lit] using hc) hck
theorem cpN_0 (l : List Sg) (ns : List Nd) (nl nn : Bool) (ts : List Ty) (e : Int) (h0 : (chk .bool (List.headD (List.drop ((Int.toNat (IntKind.wrap .i64 ((ts.length : Int) - ((1 : Nat) : Int)))) * 3) (tyL ts)) .dead)) = true) (h1 : (chk (.int .i64) (List.headD (List.tail (List.drop ((Int.toNat (IntKind.wrap .i64 ((ts.length : Int) - ((1 : Nat) : Int)))) * 3) (tyL ts))) .dead)) = true) (h2 : (chk (.int .i64) (List.headD (List.tail (List.tail (List.drop ((Int.toNat (IntKind.wrap .i64 ((ts.length : Int) - ((1 : Nat) : Int)))) * 3) (tyL ts)))) .dead)) = true) (h3 : (decide (((0 : Nat) : Int) ≤ (IntKind.wrap .i64 ((ts.length : Int) - ((1 : Nat) : Int))))) = true) (h4 : (decide ((IntKind.wrap .i64 ((ts.length : Int) - ((1 : Nat) : Int))) < (ts.length : Int))) = true) (c0 : CO 30 [.sl (sgL l) l.length nl, .sl (ndL ns) ns.length nn] (.ret (.tup [.sl (tyL ts) ts.length true, .int .i64 0]))) : CO 35 [.sl (sgL l) l.length nl, .sl (ndL ns) ns.length nn] (.ret (.tup [.agg [.bool (AV.toBool (List.headD (List.drop ((Int.toNat (IntKind.wrap .i64 ((ts.length : Int) - ((1 : Nat) : Int)))) * 3) (tyL ts)) .dead)), .int .i64 (AV.toInt (List.headD (List.tail (List.drop ((Int.toNat (IntKind.wrap .i64 ((ts.length : Int) - ((1 : Nat) : Int)))) * 3) (tyL ts))) .dead)), .int .i64 (AV.toInt (List.headD (List.tail (List.tail (List.drop ((Int.toNat (IntKind.wrap .i64 ((ts.length : Int) - ((1 : Nat) : Int)))) * 3) (tyL ts)))) .dead))], .int .i64 0])) := pK [] 1 0 (.k 4 h0 (.c h1 (.c h2 (.c h3 (.c h4 (.n 1 .nil)))))) (.c c0 .nil)
theorem cpE_0 (l : List Sg) (ns : List Nd) (nl nn : Bool) (ts : List Ty) (e : Int) (h0 : lit true (!(e == ((0 : Nat) : Int))) = true) (c0 : CO 30 [.sl (sgL l) l.length nl, .sl (ndL ns) ns.length nn] (.ret (.tup [.nilS, .int .i64 e]))) : CO 35 [.sl (sgL l) l.length nl, .sl (ndL ns) ns.length nn] (.ret (.tup [.agg [.bool false, .int .i64 0, .int .i64 0], .int .i64 e])) := pK [] 1 1 (.k 4 h0 .nil) (.c c0 .nil)
theorem ctype_ok (l : List Sg) (ns : List Nd) (nl nn : Bool) (hlg : l.length < 2 ^ 40) (hsm : ∀ x ∈ ns, x.sm) : CO 35 [.sl (sgL l) l.length nl, .sl (ndL ns) ns.length nn] (.ret (.tup [.agg (tyC (typeQ l ns).1), .int .i64 (typeQ l ns).2])) := by
 have ht := ctypes_ok l ns nl nn hlg hsm
 unfold typeQ
 cases hq : typesQ l ns with
 | inl ts =>
  rw [hq] at ht
  obtain ⟨h1, h2, h3⟩ := typesQ_len hq
  have hj : ts.length - 1 < ts.length := by omega
  have hd := tyL_drop hj
  rw [Nat.zero_add] at hd
  have hw : IntKind.wrap .i64 ((ts.length : Int) - ((1 : Nat) : Int)) = ((ts.length - 1 : Nat) : Int) := by rw [w64_id] <;> omega
  have hb := cpN_0 l ns nl nn ts 0
  rw [hw, hd] at hb
  exact hb rfl rfl rfl (decide_eq_true (by omega)) (decide_eq_true (by omega)) ht
 | inr e =>
  rw [hq] at ht
  exact cpE_0 l ns nl nn [] e (by simpa [lit] using typesQ_err hq) ht
theorem sa_1 {nt : Nat} (hn : 26 ≤ nt) (ts : List Ty) (k : Nat) (t : Ty) (r : List AV) (hw : AV.int .i64 (IntKind.wrap .i64 ((k : Int) + ((1 : Nat) : Int))) = .int .i64 ((k + 1 : Nat) : Int))  (ht : (List.drop ((Int.toNat (k : Int)) * 3) (tyL ts)) = tyC t ++ r) (h0 : lit false (!((t.tr == t.tr) && ((t.m == t.m) && ((t.d == t.d) && true)))) = true) (h1 : (decide (((0 : Nat) : Int) ≤ (k : Int))) = true) (h2 : (decide ((k : Int) < (ts.length : Int))) = true) (h3 : lit true (decide ((k : Int) < (ts.length : Int))) = true)  : ExecOk prog ap [] nt (loopBody 0 (bodyOf f37)) ⟨[(0, .sl (tyL ts) ts.length true), (1, .sl (tyL ts) ts.length true), (5, .int .i64 (k : Int))], [], .dead, []⟩ (.normal) ⟨[(0, .sl (tyL ts) ts.length true), (1, .sl (tyL ts) ts.length true), (5, .int .i64 (((k + 1) : Nat) : Int))], [], .dead, []⟩ := pN 37 [] 2 1 (.c h0 (.k 3 h1 (.c h2 (.k 3 h1 (.c h2 (.c h3 .nil)))))) (.v 16 (.eq hw) (.v 23 (.ppt ht) (.v 19 (.ppt ht) .nil))) hn
theorem sa_2 {nt : Nat} (hn : 26 ≤ nt) (ts : List Ty) (k : Nat)   (h0 : lit false (decide ((k : Int) < (ts.length : Int))) = true)  : ExecOk prog ap [] nt (loopBody 0 (bodyOf f37)) ⟨[(0, .sl (tyL ts) ts.length true), (1, .sl (tyL ts) ts.length true), (5, .int .i64 (k : Int))], [], .dead, []⟩ (.exit 0) ⟨[], [], .dead, []⟩ := pN 37 [] 1 0 (.c h0 .nil) (.nil) hn
theorem saN_0 (ts : List Ty) (h0 : lit false (!((ts.length : Int) == (ts.length : Int))) = true) (l0 : LoopOk prog ap [] 26 (.block 0 (.loop (loopBody 0 (bodyOf f37)))) ⟨[(0, .sl (tyL ts) ts.length true), (1, .sl (tyL ts) ts.length true), (4, .bool false), (5, .int .i64 0), (10, .bool (!((ts.length : Int) == (ts.length : Int)))), (14, .dead), (25, .dead)], [], .dead, []⟩ (.normal) ⟨[], [], .dead, []⟩) : CO 37 [.sl (tyL ts) ts.length true, .sl (tyL ts) ts.length true] (.ret (.bool true)) := pK [0] 1 0 (.c h0 .nil) (.l l0 .nil)
theorem saZ_0    : CO 37 [.nilS, .nilS] (.ret (.bool true)) := pK [] 2 0 (.n 2 .nil) (.nil)
theorem smN_0 (l : List Sg) (ns : List Nd) (nl nn : Bool) (ts : List Ty) (e : Int) (t : Ty) (h0 : lit true ((t.tr == t.tr) && ((t.m == t.m) && ((t.d == t.d) && true))) = true) (c0 : CO 30 [.sl (sgL l) l.length nl, .sl (ndL ns) ns.length nn] (.ret (.tup [.sl (tyL ts) ts.length true, .int .i64 0]))) (c1 : CO 34 [.sl (sgL l) l.length nl, .sl (ndL ns) ns.length nn] (.ret (.tup [.sl (tyL ts) ts.length true, .int .i64 0]))) (c2 : CO 35 [.sl (sgL l) l.length nl, .sl (ndL ns) ns.length nn] (.ret (.tup [.agg [.bool t.tr, .int .i64 t.m, .int .i64 t.d], .int .i64 0]))) (c3 : CO 36 [.sl (sgL l) l.length nl, .sl (ndL ns) ns.length nn] (.ret (.tup [.agg [.bool t.tr, .int .i64 t.m, .int .i64 t.d], .int .i64 0]))) (c4 : CO 37 [.sl (tyL ts) ts.length true, .sl (tyL ts) ts.length true] (.ret (.bool true))) : CO 12 [.sl (sgL l) l.length nl, .sl (ndL ns) ns.length nn] (.ret (.bool true)) := pK [] 3 7 (.c h0 (.n 10 .nil)) (.c c4 (.c c3 (.c c2 (.c c1 (.c c0 .nil)))))
theorem smE_0 (l : List Sg) (ns : List Nd) (nl nn : Bool) (ts : List Ty) (e : Int) (t : Ty) (h0 : lit true ((t.tr == t.tr) && ((t.m == t.m) && ((t.d == t.d) && true))) = true) (h1 : lit true (e == e) = true) (c0 : CO 30 [.sl (sgL l) l.length nl, .sl (ndL ns) ns.length nn] (.ret (.tup [.nilS, .int .i64 e]))) (c1 : CO 34 [.sl (sgL l) l.length nl, .sl (ndL ns) ns.length nn] (.ret (.tup [.nilS, .int .i64 e]))) (c2 : CO 35 [.sl (sgL l) l.length nl, .sl (ndL ns) ns.length nn] (.ret (.tup [.agg [.bool t.tr, .int .i64 t.m, .int .i64 t.d], .int .i64 e]))) (c3 : CO 36 [.sl (sgL l) l.length nl, .sl (ndL ns) ns.length nn] (.ret (.tup [.agg [.bool t.tr, .int .i64 t.m, .int .i64 t.d], .int .i64 e]))) (c4 : CO 37 [.nilS, .nilS] (.ret (.bool true))) : CO 12 [.sl (sgL l) l.length nl, .sl (ndL ns) ns.length nn] (.ret (.bool (e == e))) := pK [] 3 7 (.c h0 (.k 7 h1 (.n 2 .nil))) (.c c4 (.c c3 (.c c2 (.c c1 (.c c0 .nil)))))
theorem sa_loop {nt : Nat} (hn : 26 ≤ nt) (ts : List Ty) (hl : ts.length < 2 ^ 38) : ∀ (d k : Nat), k + d = ts.length → LoopR prog ap [] nt (loopBody 0 (bodyOf f37)) (fun _ => .exit 0) (fun k : Nat => (⟨[(0, .sl (tyL ts) ts.length true), (1, .sl (tyL ts) ts.length true), (5, .int .i64 (k : Int))], [], .dead, []⟩ : St)) (fun _ : Unit => (⟨[], [], .dead, []⟩ : St)) k () := by
 intro d
 induction d with
 | zero =>
  intro k h
  exact .done (sa_2 hn ts k (by rw [d_lt]; simp [lit]; omega))
 | succ d ih =>
  intro k h
  have hk : k < ts.length := by omega
  have ht := tyL_drop hk
  rw [Nat.zero_add] at ht
  refine .next ?_ (ih (k + 1) (by omega))
  exact sa_1 hn ts k _ _ (wk1 (by omega)) ht (by simp [lit]) (decide_eq_true (by omega)) (decide_eq_true (by omega)) (by rw [d_lt]; simp [lit]; omega)
theorem same_eq (ts : List Ty) (hl : ts.length < 2 ^ 38) : CO 37 [.sl (tyL ts) ts.length true, .sl (tyL ts) ts.length true] (.ret (.bool true)) :=
 saN_0 ts (by simp [lit]) (fun nt hnt => (LoopR.blk (id := 0) (e' := .normal) (fun nt hn => sa_loop hn ts hl ts.length 0 (by omega)) (by simp) rfl (Less.of ⟨rfl, rfl, rfl, trivial⟩) (Less.refl _)) nt hnt)
theorem same_ok (l : List Sg) (ns : List Nd) (nl nn : Bool) (hlg : l.length < 2 ^ 40) (hsm : ∀ x ∈ ns, x.sm) : CO 12 [.sl (sgL l) l.length nl, .sl (ndL ns) ns.length nn] (.ret (.bool true)) := by
 have h1 := ctypes_ok l ns nl nn hlg hsm
 have h2 := types_ok l ns nl nn hlg hsm
 have h3 := ctype_ok l ns nl nn hlg hsm
 have h4 := type_ok l ns nl nn hlg hsm
 unfold typeQ at h3 h4
 have hx : ∀ t : Ty, ((t.tr == t.tr) && ((t.m == t.m) && ((t.d == t.d) && true))) = true := fun t => by simp
 cases hq : typesQ l ns with
 | inl ts =>
  rw [hq] at h1 h2 h3 h4
  obtain ⟨k1, k2, k3⟩ := typesQ_len hq
  exact smN_0 l ns nl nn ts 0 _ (hx _) h1 h2 h3 h4 (same_eq ts (by omega))
 | inr e =>
  rw [hq] at h1 h2 h3 h4
  have h := smE_0 l ns nl nn [] e _ (hx _) (by simp [lit]) h1 h2 h3 h4 saZ_0
  rwa [beq_self_eq_true] at h
def sigsQ : List Sg := [⟨5, [105, 110, 99, 111, 109, 101], ⟨false, 1, 0⟩⟩, ⟨5, [107, 105, 100, 115], ⟨false, 0, 0⟩⟩, ⟨5, [115, 105, 110, 103, 108, 101], ⟨true, 0, 0⟩⟩, ⟨5, [115, 116, 97, 121], ⟨false, 0, 1⟩⟩, ⟨6, [112, 111, 111, 114], ⟨true, 0, 0⟩⟩, ⟨6, [116, 97, 120], ⟨false, 1, 0⟩⟩, ⟨7, [112, 111, 111, 114], ⟨true, 0, 0⟩⟩, ⟨7, [116, 97, 120], ⟨false, 1, 0⟩⟩, ⟨8, [112, 111, 111, 114], ⟨true, 0, 0⟩⟩, ⟨8, [116, 97, 120], ⟨false, 1, 0⟩⟩, ⟨24, [115, 99, 97, 108, 101], ⟨false, 1, 0⟩⟩, ⟨24, [116, 101, 114, 109], ⟨false, 0, 1⟩⟩]
theorem sm_all {ns : List Nd} (h : ns.all (fun x => Nat.ble (x.num.length + 1) 8589934592 && Nat.ble (x.den.length + 1) 8589934592) = true) : ∀ x ∈ ns, x.sm := by
 intro x hx
 have := List.all_eq_true.1 h x hx
 rw [Bool.and_eq_true] at this
 exact ⟨Nat.le_of_ble_eq_true this.1, Nat.le_of_ble_eq_true this.2⟩
theorem toK {p q : Prop} (h : p) (e : p = q) : q := e ▸ h
def saSg0 : List Sg := [⟨5, [105, 110, 99, 111, 109, 101], ⟨false, 1, 0⟩⟩, ⟨5, [115, 116, 97, 121], ⟨false, 0, 1⟩⟩, ⟨6, [112, 111, 111, 114], ⟨true, 0, 0⟩⟩, ⟨24, [115, 99, 97, 108, 101], ⟨false, 1, 0⟩⟩]
def saNd1 : List Nd := [⟨5, false, [], [], [105, 110, 99, 111, 109, 101]⟩, ⟨3, false, [1], [10], []⟩, ⟨11, false, [], [], []⟩]
def saNd2 : List Nd := [⟨5, false, [], [], [105, 110, 99, 111, 109, 101]⟩, ⟨5, false, [], [], [115, 116, 97, 121]⟩, ⟨12, false, [], [], []⟩]
def saNd3 : List Nd := [⟨6, false, [], [], [112, 111, 111, 114]⟩, ⟨1, false, [], [1], []⟩, ⟨5, false, [], [], [105, 110, 99, 111, 109, 101]⟩, ⟨24, false, [], [], [115, 99, 97, 108, 101]⟩, ⟨15, false, [], [], []⟩]
def saNd4 : List Nd := [⟨5, false, [], [], [105, 110, 99, 111, 109, 101]⟩, ⟨3, false, [5], [1], []⟩, ⟨9, false, [], [], []⟩]
def saNd5 : List Nd := [⟨6, false, [], [], [112, 111, 111, 114]⟩, ⟨3, false, [1], [1], []⟩, ⟨18, false, [], [], []⟩]
def saNd6 : List Nd := [⟨5, false, [], [], [115, 116, 97, 121]⟩, ⟨24, false, [], [], [115, 99, 97, 108, 101]⟩]
def saNd7 : List Nd := [⟨5, false, [], [], [112, 111, 111, 114]⟩]
def saNd8 : List Nd := [⟨5, false, [], [], [110, 111, 110, 101]⟩, ⟨5, false, [], [], [115, 116, 97, 121]⟩, ⟨9, false, [], [], []⟩]
def saNd9 : List Nd := [⟨6, false, [], [], [112, 111, 111, 114]⟩, ⟨4, false, [1], [1], []⟩, ⟨17, false, [], [], []⟩]
def saNd10 : List Nd := [⟨2, false, [1], [1], []⟩, ⟨2, false, [2], [1], []⟩, ⟨16, false, [], [], []⟩]
theorem k0 : CO 26 [.int .i64 1, .int .i64 0] (.ret (.agg [.bool false, .int .i64 1, .int .i64 0])) := cK (.nil)
theorem k1 : CO 25 [] (.ret (.agg [.bool true, .int .i64 0, .int .i64 0])) := cK (.nil)
theorem k2 : CO 24 [.int .i64 5, .str [105, 110, 99, 111, 109, 101]] (.ret (.agg [.int .i64 5, .bool false, .str [], .str [], .str [105, 110, 99, 111, 109, 101]])) := cK (.nil)
theorem k3 : CO 24 [.int .i64 5, .str [115, 116, 97, 121]] (.ret (.agg [.int .i64 5, .bool false, .str [], .str [], .str [115, 116, 97, 121]])) := cK (.nil)
theorem k4 : CO 24 [.int .i64 6, .str [112, 111, 111, 114]] (.ret (.agg [.int .i64 6, .bool false, .str [], .str [], .str [112, 111, 111, 114]])) := cK (.nil)
theorem k5 : CO 24 [.int .i64 24, .str [115, 99, 97, 108, 101]] (.ret (.agg [.int .i64 24, .bool false, .str [], .str [], .str [115, 99, 97, 108, 101]])) := cK (.nil)
theorem k6 : CO 26 [.int .i64 0, .int .i64 1] (.ret (.agg [.bool false, .int .i64 0, .int .i64 1])) := cK (.nil)
theorem k7 : CO 19 [.int .i64 1] (.ret (.agg [.bool false, .str [1], .str [1]])) := toK (ofI_ok 1 (by decide) (by decide)) (by kernel_rfl)
theorem k8 : CO 19 [.int .i64 10] (.ret (.agg [.bool false, .str [10], .str [1]])) := toK (ofI_ok 10 (by decide) (by decide)) (by kernel_rfl)
theorem k9 : CO 46 [.agg [.bool false, .str [1], .str [1]], .agg [.bool false, .str [10], .str [1]]] (.ret (.tup [.agg [.bool false, .str [1], .str [10]], .bool true])) := toK (quoS false 1 10 (by decide) (by decide) (by decide) (by decide)) (by kernel_rfl)
theorem k10 : CO 27 [.int .i64 3, .int .i64 1, .int .i64 10] (.ret (.agg [.int .i64 3, .bool false, .str [1], .str [10], .str []])) := cK (.c k9 (.c k8 (.c k7 .nil)))
theorem k11 : CO 24 [.int .i64 11, .str []] (.ret (.agg [.int .i64 11, .bool false, .str [], .str [], .str []])) := cK (.nil)
theorem k12 : CO 35 [.sl (sgL saSg0) 4 true, .sl (ndL saNd1) 3 true] (.ret (.tup [.agg [.bool false, .int .i64 1, .int .i64 0], .int .i64 0])) := toK (ctype_ok saSg0 saNd1 true true (by decide) (sm_all (by kernel_rfl))) (by kernel_rfl)
theorem k13 : CO 17 [.sl (sgL saSg0) 4 true, .sl (ndL saNd1) 3 true, .agg [.bool false, .int .i64 1, .int .i64 0]] (.ret (.bool true)) := cK (.c k12 .nil)
theorem k14 : CO 24 [.int .i64 12, .str []] (.ret (.agg [.int .i64 12, .bool false, .str [], .str [], .str []])) := cK (.nil)
theorem k15 : CO 26 [.int .i64 1, .int .i64 (-1)] (.ret (.agg [.bool false, .int .i64 1, .int .i64 (-1)])) := cK (.nil)
theorem k16 : CO 35 [.sl (sgL saSg0) 4 true, .sl (ndL saNd2) 3 true] (.ret (.tup [.agg [.bool false, .int .i64 1, .int .i64 (-1)], .int .i64 0])) := toK (ctype_ok saSg0 saNd2 true true (by decide) (sm_all (by kernel_rfl))) (by kernel_rfl)
theorem k17 : CO 17 [.sl (sgL saSg0) 4 true, .sl (ndL saNd2) 3 true, .agg [.bool false, .int .i64 1, .int .i64 (-1)]] (.ret (.bool true)) := cK (.c k16 .nil)
theorem k18 : CO 19 [.int .i64 0] (.ret (.agg [.bool false, .str [], .str [1]])) := toK (ofI_ok 0 (by decide) (by decide)) (by kernel_rfl)
theorem k19 : CO 46 [.agg [.bool false, .str [], .str [1]], .agg [.bool false, .str [1], .str [1]]] (.ret (.tup [.agg [.bool false, .str [], .str [1]], .bool true])) := toK (quoS false 0 1 (by decide) (by decide) (by decide) (by decide)) (by kernel_rfl)
theorem k20 : CO 27 [.int .i64 1, .int .i64 0, .int .i64 1] (.ret (.agg [.int .i64 1, .bool false, .str [], .str [1], .str []])) := cK (.c k19 (.c k7 (.c k18 .nil)))
theorem k21 : CO 24 [.int .i64 15, .str []] (.ret (.agg [.int .i64 15, .bool false, .str [], .str [], .str []])) := cK (.nil)
theorem k22 : CO 35 [.sl (sgL saSg0) 4 true, .sl (ndL saNd3) 5 true] (.ret (.tup [.agg [.bool false, .int .i64 1, .int .i64 0], .int .i64 0])) := toK (ctype_ok saSg0 saNd3 true true (by decide) (sm_all (by kernel_rfl))) (by kernel_rfl)
theorem k23 : CO 17 [.sl (sgL saSg0) 4 true, .sl (ndL saNd3) 5 true, .agg [.bool false, .int .i64 1, .int .i64 0]] (.ret (.bool true)) := cK (.c k22 .nil)
theorem k24 : CO 19 [.int .i64 5] (.ret (.agg [.bool false, .str [5], .str [1]])) := toK (ofI_ok 5 (by decide) (by decide)) (by kernel_rfl)
theorem k25 : CO 46 [.agg [.bool false, .str [5], .str [1]], .agg [.bool false, .str [1], .str [1]]] (.ret (.tup [.agg [.bool false, .str [5], .str [1]], .bool true])) := toK (quoS false 5 1 (by decide) (by decide) (by decide) (by decide)) (by kernel_rfl)
theorem k26 : CO 27 [.int .i64 3, .int .i64 5, .int .i64 1] (.ret (.agg [.int .i64 3, .bool false, .str [5], .str [1], .str []])) := cK (.c k25 (.c k7 (.c k24 .nil)))
theorem k27 : CO 24 [.int .i64 9, .str []] (.ret (.agg [.int .i64 9, .bool false, .str [], .str [], .str []])) := cK (.nil)
theorem k28 : CO 30 [.sl (sgL saSg0) 4 true, .sl (ndL saNd4) 3 true] (.ret (.tup [.nilS, .int .i64 13])) := toK (ctypes_ok saSg0 saNd4 true true (by decide) (sm_all (by kernel_rfl))) (by kernel_rfl)
theorem k29 : CO 28 [.sl (sgL saSg0) 4 true, .sl (ndL saNd4) 3 true, .int .i64 13] (.ret (.bool true)) := cK (.c k28 .nil)
theorem k30 : CO 46 [.agg [.bool false, .str [1], .str [1]], .agg [.bool false, .str [1], .str [1]]] (.ret (.tup [.agg [.bool false, .str [1], .str [1]], .bool true])) := toK (quoS false 1 1 (by decide) (by decide) (by decide) (by decide)) (by kernel_rfl)
theorem k31 : CO 27 [.int .i64 3, .int .i64 1, .int .i64 1] (.ret (.agg [.int .i64 3, .bool false, .str [1], .str [1], .str []])) := cK (.c k30 (.c k7 (.c k7 .nil)))
theorem k32 : CO 24 [.int .i64 18, .str []] (.ret (.agg [.int .i64 18, .bool false, .str [], .str [], .str []])) := cK (.nil)
theorem k33 : CO 30 [.sl (sgL saSg0) 4 true, .sl (ndL saNd5) 3 true] (.ret (.tup [.nilS, .int .i64 13])) := toK (ctypes_ok saSg0 saNd5 true true (by decide) (sm_all (by kernel_rfl))) (by kernel_rfl)
theorem k34 : CO 28 [.sl (sgL saSg0) 4 true, .sl (ndL saNd5) 3 true, .int .i64 13] (.ret (.bool true)) := cK (.c k33 .nil)
theorem k35 : CO 30 [.sl (sgL saSg0) 4 true, .sl (ndL saNd6) 2 true] (.ret (.tup [.nilS, .int .i64 13])) := toK (ctypes_ok saSg0 saNd6 true true (by decide) (sm_all (by kernel_rfl))) (by kernel_rfl)
theorem k36 : CO 28 [.sl (sgL saSg0) 4 true, .sl (ndL saNd6) 2 true, .int .i64 13] (.ret (.bool true)) := cK (.c k35 .nil)
theorem k37 : CO 24 [.int .i64 5, .str [112, 111, 111, 114]] (.ret (.agg (ndL saNd7))) := cK (.nil)
theorem k38 : CO 30 [.sl (sgL saSg0) 4 true, .sl (ndL saNd7) 1 true] (.ret (.tup [.nilS, .int .i64 12])) := toK (ctypes_ok saSg0 saNd7 true true (by decide) (sm_all (by kernel_rfl))) (by kernel_rfl)
theorem k39 : CO 28 [.sl (sgL saSg0) 4 true, .sl (ndL saNd7) 1 true, .int .i64 12] (.ret (.bool true)) := cK (.c k38 .nil)
theorem k40 : CO 24 [.int .i64 5, .str [110, 111, 110, 101]] (.ret (.agg [.int .i64 5, .bool false, .str [], .str [], .str [110, 111, 110, 101]])) := cK (.nil)
theorem k41 : CO 30 [.sl (sgL saSg0) 4 true, .sl (ndL saNd8) 3 true] (.ret (.tup [.nilS, .int .i64 12])) := toK (ctypes_ok saSg0 saNd8 true true (by decide) (sm_all (by kernel_rfl))) (by kernel_rfl)
theorem k42 : CO 28 [.sl (sgL saSg0) 4 true, .sl (ndL saNd8) 3 true, .int .i64 12] (.ret (.bool true)) := cK (.c k41 .nil)
theorem k43 : CO 27 [.int .i64 4, .int .i64 1, .int .i64 1] (.ret (.agg [.int .i64 4, .bool false, .str [1], .str [1], .str []])) := cK (.c k30 (.c k7 (.c k7 .nil)))
theorem k44 : CO 24 [.int .i64 17, .str []] (.ret (.agg [.int .i64 17, .bool false, .str [], .str [], .str []])) := cK (.nil)
theorem k45 : CO 35 [.sl (sgL saSg0) 4 true, .sl (ndL saNd9) 3 true] (.ret (.tup [.agg [.bool true, .int .i64 0, .int .i64 0], .int .i64 0])) := toK (ctype_ok saSg0 saNd9 true true (by decide) (sm_all (by kernel_rfl))) (by kernel_rfl)
theorem k46 : CO 17 [.sl (sgL saSg0) 4 true, .sl (ndL saNd9) 3 true, .agg [.bool true, .int .i64 0, .int .i64 0]] (.ret (.bool true)) := cK (.c k45 .nil)
theorem k47 : CO 27 [.int .i64 2, .int .i64 1, .int .i64 1] (.ret (.agg [.int .i64 2, .bool false, .str [1], .str [1], .str []])) := cK (.c k30 (.c k7 (.c k7 .nil)))
theorem k48 : CO 19 [.int .i64 2] (.ret (.agg [.bool false, .str [2], .str [1]])) := toK (ofI_ok 2 (by decide) (by decide)) (by kernel_rfl)
theorem k49 : CO 46 [.agg [.bool false, .str [2], .str [1]], .agg [.bool false, .str [1], .str [1]]] (.ret (.tup [.agg [.bool false, .str [2], .str [1]], .bool true])) := toK (quoS false 2 1 (by decide) (by decide) (by decide) (by decide)) (by kernel_rfl)
theorem k50 : CO 27 [.int .i64 2, .int .i64 2, .int .i64 1] (.ret (.agg [.int .i64 2, .bool false, .str [2], .str [1], .str []])) := cK (.c k49 (.c k7 (.c k48 .nil)))
theorem k51 : CO 24 [.int .i64 16, .str []] (.ret (.agg [.int .i64 16, .bool false, .str [], .str [], .str []])) := cK (.nil)
theorem k52 : CO 35 [.sl (sgL saSg0) 4 true, .sl (ndL saNd10) 3 true] (.ret (.tup [.agg [.bool true, .int .i64 0, .int .i64 0], .int .i64 0])) := toK (ctype_ok saSg0 saNd10 true true (by decide) (sm_all (by kernel_rfl))) (by kernel_rfl)
theorem k53 : CO 17 [.sl (sgL saSg0) 4 true, .sl (ndL saNd10) 3 true, .agg [.bool true, .int .i64 0, .int .i64 0]] (.ret (.bool true)) := cK (.c k52 .nil)
theorem k54 : CO 22 [.agg [.bool true, .int .i64 0, .int .i64 0], .agg [.bool false, .str [2], .str [1]]] (.ret (.bool false)) := toK (value_ok ⟨true, 0, 0⟩ false [2] [1] (by decide) (by decide)) (by kernel_rfl)
theorem k55 : CO 22 [.agg [.bool true, .int .i64 0, .int .i64 0], .agg [.bool false, .str [1], .str [1]]] (.ret (.bool true)) := toK (value_ok ⟨true, 0, 0⟩ false [1] [1] (by decide) (by decide)) (by kernel_rfl)
theorem k56 : CO 19 [.int .i64 (-1)] (.ret (.agg [.bool true, .str [1], .str [1]])) := toK (ofI_ok (-1) (by decide) (by decide)) (by kernel_rfl)
theorem k57 : CO 19 [.int .i64 3] (.ret (.agg [.bool false, .str [3], .str [1]])) := toK (ofI_ok 3 (by decide) (by decide)) (by kernel_rfl)
theorem k58 : CO 46 [.agg [.bool true, .str [1], .str [1]], .agg [.bool false, .str [3], .str [1]]] (.ret (.tup [.agg [.bool true, .str [1], .str [3]], .bool true])) := toK (quoS true 1 3 (by decide) (by decide) (by decide) (by decide)) (by kernel_rfl)
theorem k59 : CO 27 [.int .i64 1, .int .i64 (-1), .int .i64 3] (.ret (.agg [.int .i64 1, .bool true, .str [1], .str [3], .str []])) := cK (.c k58 (.c k57 (.c k56 .nil)))
theorem k60 : CO 22 [.agg [.bool false, .int .i64 1, .int .i64 0], .agg [.bool true, .str [1], .str [3]]] (.ret (.bool true)) := toK (value_ok ⟨false, 1, 0⟩ true [1] [3] (by decide) (by decide)) (by kernel_rfl)
theorem k61 : CO 20 [.agg [.int .i64 (-3), .int .i64 3]] (.ret (.bool true)) := toK (unit_ok ⟨false, (-3), 3⟩) (by kernel_rfl)
theorem k62 : CO 20 [.agg [.int .i64 4, .int .i64 0]] (.ret (.bool false)) := toK (unit_ok ⟨false, 4, 0⟩) (by kernel_rfl)
theorem k63 : CO 11 [] (.ret (.bool true)) := cK (.c k62 (.c k61 (.c k60 (.c k59 (.c k55 (.c k7 (.c k54 (.c k48 (.c k53 (.c k51 (.c k50 (.c k47 (.c k46 (.c k44 (.c k43 (.c k42 (.c k27 (.c k40 (.c k39 (.c k37 (.c k36 (.c k34 (.c k32 (.c k31 (.c k29 (.c k27 (.c k26 (.c k23 (.c k21 (.c k20 (.c k17 (.c k15 (.c k14 (.c k13 (.c k11 (.c k10 (.c k6 (.c k5 (.c k4 (.c k3 (.c k2 (.c k1 (.c k0 .nil)))))))))))))))))))))))))))))))))))))))))))
theorem sanity_ok : CO 11 [] (.ret (.bool true)) := k63
theorem sq0 : CO 26 [.int .i64 1, .int .i64 0] (.ret (.agg [.bool false, .int .i64 1, .int .i64 0])) := cK (.nil)
theorem sq1 : CO 26 [.int .i64 0, .int .i64 0] (.ret (.agg [.bool false, .int .i64 0, .int .i64 0])) := cK (.nil)
theorem sq2 : CO 25 [] (.ret (.agg [.bool true, .int .i64 0, .int .i64 0])) := cK (.nil)
theorem sq3 : CO 26 [.int .i64 0, .int .i64 1] (.ret (.agg [.bool false, .int .i64 0, .int .i64 1])) := cK (.nil)
theorem sq4 : CO 14 [] (.ret (.own [.int .i64 5, .str [105, 110, 99, 111, 109, 101], .bool false, .int .i64 1, .int .i64 0, .int .i64 5, .str [107, 105, 100, 115], .bool false, .int .i64 0, .int .i64 0, .int .i64 5, .str [115, 105, 110, 103, 108, 101], .bool true, .int .i64 0, .int .i64 0, .int .i64 5, .str [115, 116, 97, 121], .bool false, .int .i64 0, .int .i64 1, .int .i64 6, .str [112, 111, 111, 114], .bool true, .int .i64 0, .int .i64 0, .int .i64 6, .str [116, 97, 120], .bool false, .int .i64 1, .int .i64 0, .int .i64 7, .str [112, 111, 111, 114], .bool true, .int .i64 0, .int .i64 0, .int .i64 7, .str [116, 97, 120], .bool false, .int .i64 1, .int .i64 0, .int .i64 8, .str [112, 111, 111, 114], .bool true, .int .i64 0, .int .i64 0, .int .i64 8, .str [116, 97, 120], .bool false, .int .i64 1, .int .i64 0, .int .i64 24, .str [115, 99, 97, 108, 101], .bool false, .int .i64 1, .int .i64 0, .int .i64 24, .str [116, 101, 114, 109], .bool false, .int .i64 0, .int .i64 1] 12 5)) := cK (.c sq3 (.c sq2 (.c sq2 (.c sq2 (.c sq3 (.c sq2 (.c sq1 (.c sq0 .nil))))))))
theorem sigs_ok : CO 14 [] (.ret (.own (sgL sigsQ) 12 5)) := sq4
inductive Tm (l : List Sg) : List Nd → Ty → Prop where
 | n0 {x : Nd} {t : Ty} : wrongQ x = 0 → arI x.op = 0 → typR l x [] = (t, 0) → Tm l [x] t
 | n1 {x : Nd} {t ta : Ty} {a : List Nd} : Tm l a ta → wrongQ x = 0 → arI x.op = 1 → typR l x [ta] = (t, 0) → Tm l (a ++ [x]) t
 | n2 {x : Nd} {t ta tb : Ty} {a b : List Nd} : Tm l a ta → Tm l b tb → wrongQ x = 0 → arI x.op = 2 → typR l x [ta, tb] = (t, 0) → Tm l (a ++ b ++ [x]) t
 | n3 {x : Nd} {t ta tb tc : Ty} {a b c : List Nd} : Tm l a ta → Tm l b tb → Tm l c tc → wrongQ x = 0 → arI x.op = 3 → typR l x [ta, tb, tc] = (t, 0) → Tm l (a ++ b ++ c ++ [x]) t
theorem Tm.ne {l : List Sg} {e : List Nd} {t : Ty} (h : Tm l e t) : e ≠ [] := by cases h <;> simp
def qN (op : Int) (q : RQ) : Nd := ⟨op, q.neg, natS q.n, natS q.d, []⟩
theorem q_fits {q : RQ} (h : q.ok) (hn : q.n < 64) (hd : q.d < 64) : fitsQ q.neg (natS q.n) (natS q.d) = true := by
 unfold fitsQ
 rw [isQ_of q h, val_natS, val_natS]
 have h1 : lenN q.n ≤ 6 := lenN_le (by omega)
 have h2 : lenN q.d ≤ 6 := lenN_le (by omega)
 simp; omega
theorem q_sm {op : Int} {q : RQ} (hn : q.n < 64) (hd : q.d < 64) : (qN op q).sm := by
 have h1 := natS_small (x := q.n) (by omega)
 have h2 := natS_small (x := q.d) (by omega)
 exact ⟨by show (natS q.n).length < _; omega, by show (natS q.d).length < _; omega⟩
theorem lit_wrong {q : RQ} (h : q.ok) (hn : q.n < 64) (hd : q.d < 64) : ∀ op : Int, op = 1 ∨ op = 2 ∨ op = 3 → wrongQ (qN op q) = 0 := by
 intro op ho
 have hf := q_fits h hn hd
 have e : numQ (qN op q) = true := by rcases ho with rfl | rfl | rfl <;> exact hf
 unfold wrongQ
 rw [e]
 rcases ho with rfl | rfl | rfl <;> rfl
theorem fq0 : CO 90 [.sl (sgL sigsQ) 12 true, .int .i64 5, .str [105, 110, 99, 111, 109, 101]] (.ret (.tup [.agg [.bool false, .int .i64 1, .int .i64 0], .bool true])) := toK (find_ok sigsQ true 5 [105, 110, 99, 111, 109, 101] (by decide)) (by kernel_rfl)
theorem fq1 : CO 90 [.sl (sgL sigsQ) 12 true, .int .i64 5, .str [107, 105, 100, 115]] (.ret (.tup [.agg [.bool false, .int .i64 0, .int .i64 0], .bool true])) := toK (find_ok sigsQ true 5 [107, 105, 100, 115] (by decide)) (by kernel_rfl)
theorem fq2 : CO 90 [.sl (sgL sigsQ) 12 true, .int .i64 5, .str [115, 105, 110, 103, 108, 101]] (.ret (.tup [.agg [.bool true, .int .i64 0, .int .i64 0], .bool true])) := toK (find_ok sigsQ true 5 [115, 105, 110, 103, 108, 101] (by decide)) (by kernel_rfl)
theorem fq3 : CO 90 [.sl (sgL sigsQ) 12 true, .int .i64 5, .str [115, 116, 97, 121]] (.ret (.tup [.agg [.bool false, .int .i64 0, .int .i64 1], .bool true])) := toK (find_ok sigsQ true 5 [115, 116, 97, 121] (by decide)) (by kernel_rfl)
theorem fq4 : CO 90 [.sl (sgL sigsQ) 12 true, .int .i64 6, .str [112, 111, 111, 114]] (.ret (.tup [.agg [.bool true, .int .i64 0, .int .i64 0], .bool true])) := toK (find_ok sigsQ true 6 [112, 111, 111, 114] (by decide)) (by kernel_rfl)
theorem fq5 : CO 90 [.sl (sgL sigsQ) 12 true, .int .i64 6, .str [116, 97, 120]] (.ret (.tup [.agg [.bool false, .int .i64 1, .int .i64 0], .bool true])) := toK (find_ok sigsQ true 6 [116, 97, 120] (by decide)) (by kernel_rfl)
theorem fq6 : CO 90 [.sl (sgL sigsQ) 12 true, .int .i64 7, .str [112, 111, 111, 114]] (.ret (.tup [.agg [.bool true, .int .i64 0, .int .i64 0], .bool true])) := toK (find_ok sigsQ true 7 [112, 111, 111, 114] (by decide)) (by kernel_rfl)
theorem fq7 : CO 90 [.sl (sgL sigsQ) 12 true, .int .i64 7, .str [116, 97, 120]] (.ret (.tup [.agg [.bool false, .int .i64 1, .int .i64 0], .bool true])) := toK (find_ok sigsQ true 7 [116, 97, 120] (by decide)) (by kernel_rfl)
theorem fq8 : CO 90 [.sl (sgL sigsQ) 12 true, .int .i64 8, .str [112, 111, 111, 114]] (.ret (.tup [.agg [.bool true, .int .i64 0, .int .i64 0], .bool true])) := toK (find_ok sigsQ true 8 [112, 111, 111, 114] (by decide)) (by kernel_rfl)
theorem fq9 : CO 90 [.sl (sgL sigsQ) 12 true, .int .i64 8, .str [116, 97, 120]] (.ret (.tup [.agg [.bool false, .int .i64 1, .int .i64 0], .bool true])) := toK (find_ok sigsQ true 8 [116, 97, 120] (by decide)) (by kernel_rfl)
theorem fq10 : CO 90 [.sl (sgL sigsQ) 12 true, .int .i64 24, .str [115, 99, 97, 108, 101]] (.ret (.tup [.agg [.bool false, .int .i64 1, .int .i64 0], .bool true])) := toK (find_ok sigsQ true 24 [115, 99, 97, 108, 101] (by decide)) (by kernel_rfl)
theorem fq11 : CO 90 [.sl (sgL sigsQ) 12 true, .int .i64 24, .str [116, 101, 114, 109]] (.ret (.tup [.agg [.bool false, .int .i64 0, .int .i64 1], .bool true])) := toK (find_ok sigsQ true 24 [116, 101, 114, 109] (by decide)) (by kernel_rfl)
def opN (op : Int) : Nd := ⟨op, false, [], [], []⟩
theorem opN_sm (op : Int) : (opN op).sm := ⟨by show 0 < _; omega, by show 0 < _; omega⟩
theorem ofI_good {v : Int} (h : 0 ≤ v) (h' : v < 64) : (ofI v).ok ∧ (ofI v).n < 64 ∧ (ofI v).d < 64 := by
 refine ⟨int_okQ (fun hn => ?_), by simp only [ofI]; omega, by simp [ofI]⟩
 simp only [decide_eq_true_eq] at hn
 omega
theorem sm1 {x : Nd} (h : x.sm) : ∀ y ∈ [x], y.sm := by intro y hy; simp at hy; subst hy; exact h
theorem const_M (xs : List Int) (nn : Bool) (k : Nat) (hl : xs.length < 2 ^ 62) (hk : k ≤ xs.length) : ∃ (e : List Nd) (k2 : Nat), k2 ≤ xs.length ∧ Tm sigsQ e ⟨false, 1, 0⟩ ∧ (∀ x ∈ e, x.sm) ∧ e.length ≤ 1 ∧ CallOk prog ap 93 [.ptr 0 0 0, .agg (tyC ⟨false, 1, 0⟩)] [dB xs nn k] (.ret (.own (ndL e) e.length 5)) [dB xs nn k2] := by
 obtain ⟨w, k1, hk1, h1, h2, h3, _, c0⟩ := ratio_ok xs nn k hl hk (-8) (by omega) (by omega)
 exact ⟨[qN 1 w], k1, hk1, .n0 (lit_wrong h1 h2 h3 1 (by simp)) rfl (by kernel_rfl), sm1 (q_sm h2 h3), by simp, pK [] 1 1 (.n 7 .nil) (.c c0 .nil)⟩
theorem const_D (xs : List Int) (nn : Bool) (k : Nat) (hl : xs.length < 2 ^ 62) (hk : k ≤ xs.length) : ∃ (e : List Nd) (k2 : Nat), k2 ≤ xs.length ∧ Tm sigsQ e ⟨false, 0, 1⟩ ∧ (∀ x ∈ e, x.sm) ∧ e.length ≤ 1 ∧ CallOk prog ap 93 [.ptr 0 0 0, .agg (tyC ⟨false, 0, 1⟩)] [dB xs nn k] (.ret (.own (ndL e) e.length 5)) [dB xs nn k2] := by
 obtain ⟨w, k1, hk1, h1, h2, h3, _, c0⟩ := ratio_ok xs nn k hl hk (-8) (by omega) (by omega)
 exact ⟨[qN 2 w], k1, hk1, .n0 (lit_wrong h1 h2 h3 2 (by simp)) rfl (by kernel_rfl), sm1 (q_sm h2 h3), by simp, pK [] 2 2 (.n 8 .nil) (.c c0 .nil)⟩
theorem const_P (xs : List Int) (nn : Bool) (k : Nat) (hl : xs.length < 2 ^ 62) (hk : k ≤ xs.length) : ∃ (e : List Nd) (k2 : Nat), k2 ≤ xs.length ∧ Tm sigsQ e ⟨false, 0, 0⟩ ∧ (∀ x ∈ e, x.sm) ∧ e.length ≤ 1 ∧ CallOk prog ap 93 [.ptr 0 0 0, .agg (tyC ⟨false, 0, 0⟩)] [dB xs nn k] (.ret (.own (ndL e) e.length 5)) [dB xs nn k2] := by
 obtain ⟨w, k1, hk1, h1, h2, h3, _, c0⟩ := ratio_ok xs nn k hl hk (-8) (by omega) (by omega)
 exact ⟨[qN 3 w], k1, hk1, .n0 (lit_wrong h1 h2 h3 3 (by simp)) rfl (by kernel_rfl), sm1 (q_sm h2 h3), by simp, pK [] 4 0 (.n 12 .nil) (.c c0 .nil)⟩
theorem const_R (xs : List Int) (nn : Bool) (k : Nat) (hl : xs.length < 2 ^ 62) (hk : k ≤ xs.length) : ∃ (e : List Nd) (k2 : Nat), k2 ≤ xs.length ∧ Tm sigsQ e ⟨false, 1, -1⟩ ∧ (∀ x ∈ e, x.sm) ∧ e.length ≤ 5 ∧ CallOk prog ap 93 [.ptr 0 0 0, .agg (tyC ⟨false, 1, -1⟩)] [dB xs nn k] (.ret (.own (ndL e) e.length 5)) [dB xs nn k2] := by
 obtain ⟨w, k1, hk1, h1, h2, h3, _, c0⟩ := ratio_ok xs nn k hl hk (-8) (by omega) (by omega)
 obtain ⟨r1, k2, hr1, hk2, c1⟩ := next_ok xs nn k1 3 hl hk1 (by omega) (by omega)
 obtain ⟨r2, k3, hr2, hk3, c3⟩ := next_ok xs nn k2 3 hl hk2 (by omega) (by omega)
 have e1 : IntKind.wrap .i64 (((1 : Nat) : Int) + (r1 : Int)) = 1 + (r1 : Int) := w64_id (by omega) (by omega)
 have e2 : IntKind.wrap .i64 (((1 : Nat) : Int) + (r2 : Int)) = 1 + (r2 : Int) := w64_id (by omega) (by omega)
 have c2 := ofI_ok (1 + (r1 : Int)) (by omega) (by omega)
 have c4 := ofI_ok (1 + (r2 : Int)) (by omega) (by omega)
 obtain ⟨a1, a2, a3⟩ := ofI_good (v := 1 + (r1 : Int)) (by omega) (by omega)
 obtain ⟨b1, b2, b3⟩ := ofI_good (v := 1 + (r2 : Int)) (by omega) (by omega)
 have m1 : Tm sigsQ ([qN 3 w] ++ [qN 1 (ofI (1 + (r1 : Int)))] ++ [opN 11]) ⟨false, 1, 0⟩ := .n2 (.n0 (t := ⟨false, 0, 0⟩) (lit_wrong h1 h2 h3 3 (by simp)) rfl (by kernel_rfl)) (.n0 (t := ⟨false, 1, 0⟩) (lit_wrong a1 a2 a3 1 (by simp)) rfl (by kernel_rfl)) (by kernel_rfl) rfl (by kernel_rfl)
 have m2 : Tm sigsQ ([qN 3 w] ++ [qN 1 (ofI (1 + (r1 : Int)))] ++ [opN 11] ++ [qN 2 (ofI (1 + (r2 : Int)))] ++ [opN 12]) ⟨false, 1, -1⟩ := .n2 m1 (.n0 (t := ⟨false, 0, 1⟩) (lit_wrong b1 b2 b3 2 (by simp)) rfl (by kernel_rfl)) (by kernel_rfl) rfl (by kernel_rfl)
 have hq : ∀ x ∈ [qN 3 w] ++ [qN 1 (ofI (1 + (r1 : Int)))] ++ [opN 11] ++ [qN 2 (ofI (1 + (r2 : Int)))] ++ [opN 12], x.sm := by
  intro x hx
  simp only [List.mem_append, List.mem_singleton] at hx
  rcases hx with (((rfl | rfl) | rfl) | rfl) | rfl
  ·exact q_sm h2 h3
  ·exact q_sm a2 a3
  ·exact opN_sm _
  ·exact q_sm b2 b3
  ·exact opN_sm _
 generalize ofI (1 + (r1 : Int)) = q1 at *
 generalize ofI (1 + (r2 : Int)) = q2 at *
 exact ⟨_, k3, hk3, m2, hq, by simp, pK [] 12 92 (.n 28 .nil) (.c (show CO 19 [.int .i64 (IntKind.wrap .i64 (((1 : Nat) : Int) + (r2 : Int)))] (.ret (qA q2)) by rw [e2]; exact c4) (.c c3 (.c (show CO 19 [.int .i64 (IntKind.wrap .i64 (((1 : Nat) : Int) + (r1 : Int)))] (.ret (qA q1)) by rw [e1]; exact c2) (.c c1 (.c c0 .nil)))))⟩
theorem leaf_M (xs : List Int) (nn : Bool) (k : Nat) (hl : xs.length < 2 ^ 62) (hk : k ≤ xs.length) : ∃ (e : List Nd) (k2 : Nat), k2 ≤ xs.length ∧ Tm sigsQ e ⟨false, 1, 0⟩ ∧ (∀ x ∈ e, x.sm) ∧ e.length ≤ 1 ∧ CallOk prog ap 57 [.sl (sgL sigsQ) 12 true, .ptr 0 0 0, .agg (tyC ⟨false, 1, 0⟩)] [dB xs nn k] (.ret (.own (ndL e) e.length 5)) [dB xs nn k2] := by
 obtain ⟨r, k1, hr, hk1, c0⟩ := next_ok xs nn k 6 hl hk (by omega) (by omega)
 have this : r = 0 ∨ r = 1 ∨ r = 2 ∨ r = 3 ∨ r = 4 ∨ r = 5 := by omega
 rcases this with rfl | rfl | rfl | rfl | rfl | rfl
 ·exact ⟨[⟨5, false, [], [], [105, 110, 99, 111, 109, 101]⟩], k1, hk1, .n0 (by kernel_rfl) rfl (by kernel_rfl), sm1 ⟨by simp, by simp⟩, by simp, pK [] 51 1240180127100655 (.n 276 .nil) (.c c0 (.c fq11 (.c fq10 (.c fq9 (.c fq8 (.c fq7 (.c fq6 (.c fq5 (.c fq4 (.c fq3 (.c fq2 (.c fq1 (.c fq0 .nil)))))))))))))⟩
 ·exact ⟨[⟨6, false, [], [], [116, 97, 120]⟩], k1, hk1, .n0 (by kernel_rfl) rfl (by kernel_rfl), sm1 ⟨by simp, by simp⟩, by simp, pK [] 51 1240180127100655 (.n 276 .nil) (.c c0 (.c fq11 (.c fq10 (.c fq9 (.c fq8 (.c fq7 (.c fq6 (.c fq5 (.c fq4 (.c fq3 (.c fq2 (.c fq1 (.c fq0 .nil)))))))))))))⟩
 ·exact ⟨[⟨7, false, [], [], [116, 97, 120]⟩], k1, hk1, .n0 (by kernel_rfl) rfl (by kernel_rfl), sm1 ⟨by simp, by simp⟩, by simp, pK [] 51 1240180127100655 (.n 276 .nil) (.c c0 (.c fq11 (.c fq10 (.c fq9 (.c fq8 (.c fq7 (.c fq6 (.c fq5 (.c fq4 (.c fq3 (.c fq2 (.c fq1 (.c fq0 .nil)))))))))))))⟩
 ·exact ⟨[⟨8, false, [], [], [116, 97, 120]⟩], k1, hk1, .n0 (by kernel_rfl) rfl (by kernel_rfl), sm1 ⟨by simp, by simp⟩, by simp, pK [] 51 1240180127100655 (.n 276 .nil) (.c c0 (.c fq11 (.c fq10 (.c fq9 (.c fq8 (.c fq7 (.c fq6 (.c fq5 (.c fq4 (.c fq3 (.c fq2 (.c fq1 (.c fq0 .nil)))))))))))))⟩
 ·obtain ⟨e, k2, hk2, h1, h2, h3, cc⟩ := const_M xs nn k1 hl hk1
  have h : CallOk prog ap 57 [.sl (sgL sigsQ) 12 true, .ptr 0 0 0, .agg (tyC ⟨false, 1, 0⟩)] [dB xs nn k] (.ret (.own (List.take (e.length * 5) (ndL e)) e.length 5)) [dB xs nn k2] := pK [] 52 114280220258031 (.n 274 .nil) (.c cc (.c c0 (.c fq11 (.c fq10 (.c fq9 (.c fq8 (.c fq7 (.c fq6 (.c fq5 (.c fq4 (.c fq3 (.c fq2 (.c fq1 (.c fq0 .nil))))))))))))))
  rw [List.take_of_length_le (by rw [ndL_len]; omega)] at h
  exact ⟨e, k2, hk2, h1, h2, h3, h⟩
 ·obtain ⟨e, k2, hk2, h1, h2, h3, cc⟩ := const_M xs nn k1 hl hk1
  have h : CallOk prog ap 57 [.sl (sgL sigsQ) 12 true, .ptr 0 0 0, .agg (tyC ⟨false, 1, 0⟩)] [dB xs nn k] (.ret (.own (List.take (e.length * 5) (ndL e)) e.length 5)) [dB xs nn k2] := pK [] 52 114280220258031 (.n 274 .nil) (.c cc (.c c0 (.c fq11 (.c fq10 (.c fq9 (.c fq8 (.c fq7 (.c fq6 (.c fq5 (.c fq4 (.c fq3 (.c fq2 (.c fq1 (.c fq0 .nil))))))))))))))
  rw [List.take_of_length_le (by rw [ndL_len]; omega)] at h
  exact ⟨e, k2, hk2, h1, h2, h3, h⟩
theorem leaf_D (xs : List Int) (nn : Bool) (k : Nat) (hl : xs.length < 2 ^ 62) (hk : k ≤ xs.length) : ∃ (e : List Nd) (k2 : Nat), k2 ≤ xs.length ∧ Tm sigsQ e ⟨false, 0, 1⟩ ∧ (∀ x ∈ e, x.sm) ∧ e.length ≤ 1 ∧ CallOk prog ap 57 [.sl (sgL sigsQ) 12 true, .ptr 0 0 0, .agg (tyC ⟨false, 0, 1⟩)] [dB xs nn k] (.ret (.own (ndL e) e.length 5)) [dB xs nn k2] := by
 obtain ⟨r, k1, hr, hk1, c0⟩ := next_ok xs nn k 3 hl hk (by omega) (by omega)
 have this : r = 0 ∨ r = 1 ∨ r = 2 := by omega
 rcases this with rfl | rfl | rfl
 ·exact ⟨[⟨5, false, [], [], [115, 116, 97, 121]⟩], k1, hk1, .n0 (by kernel_rfl) rfl (by kernel_rfl), sm1 ⟨by simp, by simp⟩, by simp, pK [] 51 1239076303730551 (.n 246 .nil) (.c c0 (.c fq11 (.c fq10 (.c fq9 (.c fq8 (.c fq7 (.c fq6 (.c fq5 (.c fq4 (.c fq3 (.c fq2 (.c fq1 (.c fq0 .nil)))))))))))))⟩
 ·obtain ⟨e, k2, hk2, h1, h2, h3, cc⟩ := const_D xs nn k1 hl hk1
  have h : CallOk prog ap 57 [.sl (sgL sigsQ) 12 true, .ptr 0 0 0, .agg (tyC ⟨false, 0, 1⟩)] [dB xs nn k] (.ret (.own (List.take (e.length * 5) (ndL e)) e.length 5)) [dB xs nn k2] := pK [] 52 113176396887927 (.n 244 .nil) (.c cc (.c c0 (.c fq11 (.c fq10 (.c fq9 (.c fq8 (.c fq7 (.c fq6 (.c fq5 (.c fq4 (.c fq3 (.c fq2 (.c fq1 (.c fq0 .nil))))))))))))))
  rw [List.take_of_length_le (by rw [ndL_len]; omega)] at h
  exact ⟨e, k2, hk2, h1, h2, h3, h⟩
 ·obtain ⟨e, k2, hk2, h1, h2, h3, cc⟩ := const_D xs nn k1 hl hk1
  have h : CallOk prog ap 57 [.sl (sgL sigsQ) 12 true, .ptr 0 0 0, .agg (tyC ⟨false, 0, 1⟩)] [dB xs nn k] (.ret (.own (List.take (e.length * 5) (ndL e)) e.length 5)) [dB xs nn k2] := pK [] 52 113176396887927 (.n 244 .nil) (.c cc (.c c0 (.c fq11 (.c fq10 (.c fq9 (.c fq8 (.c fq7 (.c fq6 (.c fq5 (.c fq4 (.c fq3 (.c fq2 (.c fq1 (.c fq0 .nil))))))))))))))
  rw [List.take_of_length_le (by rw [ndL_len]; omega)] at h
  exact ⟨e, k2, hk2, h1, h2, h3, h⟩
theorem leaf_P (xs : List Int) (nn : Bool) (k : Nat) (hl : xs.length < 2 ^ 62) (hk : k ≤ xs.length) : ∃ (e : List Nd) (k2 : Nat), k2 ≤ xs.length ∧ Tm sigsQ e ⟨false, 0, 0⟩ ∧ (∀ x ∈ e, x.sm) ∧ e.length ≤ 1 ∧ CallOk prog ap 57 [.sl (sgL sigsQ) 12 true, .ptr 0 0 0, .agg (tyC ⟨false, 0, 0⟩)] [dB xs nn k] (.ret (.own (ndL e) e.length 5)) [dB xs nn k2] := by
 obtain ⟨r, k1, hr, hk1, c0⟩ := next_ok xs nn k 3 hl hk (by omega) (by omega)
 have this : r = 0 ∨ r = 1 ∨ r = 2 := by omega
 rcases this with rfl | rfl | rfl
 ·exact ⟨[⟨5, false, [], [], [107, 105, 100, 115]⟩], k1, hk1, .n0 (by kernel_rfl) rfl (by kernel_rfl), sm1 ⟨by simp, by simp⟩, by simp, pK [] 51 1239076303728375 (.n 246 .nil) (.c c0 (.c fq11 (.c fq10 (.c fq9 (.c fq8 (.c fq7 (.c fq6 (.c fq5 (.c fq4 (.c fq3 (.c fq2 (.c fq1 (.c fq0 .nil)))))))))))))⟩
 ·obtain ⟨e, k2, hk2, h1, h2, h3, cc⟩ := const_P xs nn k1 hl hk1
  have h : CallOk prog ap 57 [.sl (sgL sigsQ) 12 true, .ptr 0 0 0, .agg (tyC ⟨false, 0, 0⟩)] [dB xs nn k] (.ret (.own (List.take (e.length * 5) (ndL e)) e.length 5)) [dB xs nn k2] := pK [] 52 113176396885751 (.n 244 .nil) (.c cc (.c c0 (.c fq11 (.c fq10 (.c fq9 (.c fq8 (.c fq7 (.c fq6 (.c fq5 (.c fq4 (.c fq3 (.c fq2 (.c fq1 (.c fq0 .nil))))))))))))))
  rw [List.take_of_length_le (by rw [ndL_len]; omega)] at h
  exact ⟨e, k2, hk2, h1, h2, h3, h⟩
 ·obtain ⟨e, k2, hk2, h1, h2, h3, cc⟩ := const_P xs nn k1 hl hk1
  have h : CallOk prog ap 57 [.sl (sgL sigsQ) 12 true, .ptr 0 0 0, .agg (tyC ⟨false, 0, 0⟩)] [dB xs nn k] (.ret (.own (List.take (e.length * 5) (ndL e)) e.length 5)) [dB xs nn k2] := pK [] 52 113176396885751 (.n 244 .nil) (.c cc (.c c0 (.c fq11 (.c fq10 (.c fq9 (.c fq8 (.c fq7 (.c fq6 (.c fq5 (.c fq4 (.c fq3 (.c fq2 (.c fq1 (.c fq0 .nil))))))))))))))
  rw [List.take_of_length_le (by rw [ndL_len]; omega)] at h
  exact ⟨e, k2, hk2, h1, h2, h3, h⟩
theorem leaf_T (xs : List Int) (nn : Bool) (k : Nat) (hl : xs.length < 2 ^ 62) (hk : k ≤ xs.length) : ∃ (e : List Nd) (k2 : Nat), k2 ≤ xs.length ∧ Tm sigsQ e ⟨true, 0, 0⟩ ∧ (∀ x ∈ e, x.sm) ∧ e.length ≤ 1 ∧ CallOk prog ap 57 [.sl (sgL sigsQ) 12 true, .ptr 0 0 0, .agg (tyC ⟨true, 0, 0⟩)] [dB xs nn k] (.ret (.own (ndL e) e.length 5)) [dB xs nn k2] := by
 obtain ⟨r, k1, hr, hk1, c0⟩ := next_ok xs nn k 6 hl hk (by omega) (by omega)
 have this : r = 0 ∨ r = 1 ∨ r = 2 ∨ r = 3 ∨ r = 4 ∨ r = 5 := by omega
 rcases this with rfl | rfl | rfl | rfl | rfl | rfl
 ·exact ⟨[⟨5, false, [], [], [115, 105, 110, 103, 108, 101]⟩], k1, hk1, .n0 (by kernel_rfl) rfl (by kernel_rfl), sm1 ⟨by simp, by simp⟩, by simp, pK [] 51 1239145292689271 (.n 276 .nil) (.c c0 (.c fq11 (.c fq10 (.c fq9 (.c fq8 (.c fq7 (.c fq6 (.c fq5 (.c fq4 (.c fq3 (.c fq2 (.c fq1 (.c fq0 .nil)))))))))))))⟩
 ·exact ⟨[⟨6, false, [], [], [112, 111, 111, 114]⟩], k1, hk1, .n0 (by kernel_rfl) rfl (by kernel_rfl), sm1 ⟨by simp, by simp⟩, by simp, pK [] 51 1239145292689271 (.n 276 .nil) (.c c0 (.c fq11 (.c fq10 (.c fq9 (.c fq8 (.c fq7 (.c fq6 (.c fq5 (.c fq4 (.c fq3 (.c fq2 (.c fq1 (.c fq0 .nil)))))))))))))⟩
 ·exact ⟨[⟨7, false, [], [], [112, 111, 111, 114]⟩], k1, hk1, .n0 (by kernel_rfl) rfl (by kernel_rfl), sm1 ⟨by simp, by simp⟩, by simp, pK [] 51 1239145292689271 (.n 276 .nil) (.c c0 (.c fq11 (.c fq10 (.c fq9 (.c fq8 (.c fq7 (.c fq6 (.c fq5 (.c fq4 (.c fq3 (.c fq2 (.c fq1 (.c fq0 .nil)))))))))))))⟩
 ·exact ⟨[⟨8, false, [], [], [112, 111, 111, 114]⟩], k1, hk1, .n0 (by kernel_rfl) rfl (by kernel_rfl), sm1 ⟨by simp, by simp⟩, by simp, pK [] 51 1239145292689271 (.n 276 .nil) (.c c0 (.c fq11 (.c fq10 (.c fq9 (.c fq8 (.c fq7 (.c fq6 (.c fq5 (.c fq4 (.c fq3 (.c fq2 (.c fq1 (.c fq0 .nil)))))))))))))⟩
 ·obtain ⟨s, k2, hs, hk2, c1⟩ := next_ok xs nn k1 2 hl hk1 (by omega) (by omega)
  have this : s = 0 ∨ s = 1 := by omega
  rcases this with rfl | rfl
  ·have c2 := ofI_ok ((0 : Nat) : Int) (by decide) (by decide)
   exact ⟨[qN 4 (ofI ((0 : Nat) : Int))], k2, hk2, .n0 (by kernel_rfl) rfl (by kernel_rfl), sm1 (q_sm (by decide) (by decide)), by simp, pK [] 52 2365045199531895 (.n 271 .nil) (.c c2 (.c c1 (.c c0 (.c fq11 (.c fq10 (.c fq9 (.c fq8 (.c fq7 (.c fq6 (.c fq5 (.c fq4 (.c fq3 (.c fq2 (.c fq1 (.c fq0 .nil)))))))))))))))⟩
  ·have c2 := ofI_ok ((1 : Nat) : Int) (by decide) (by decide)
   exact ⟨[qN 4 (ofI ((1 : Nat) : Int))], k2, hk2, .n0 (by kernel_rfl) rfl (by kernel_rfl), sm1 (q_sm (by decide) (by decide)), by simp, pK [] 52 2365045199531895 (.n 271 .nil) (.c c2 (.c c1 (.c c0 (.c fq11 (.c fq10 (.c fq9 (.c fq8 (.c fq7 (.c fq6 (.c fq5 (.c fq4 (.c fq3 (.c fq2 (.c fq1 (.c fq0 .nil)))))))))))))))⟩
 ·obtain ⟨s, k2, hs, hk2, c1⟩ := next_ok xs nn k1 2 hl hk1 (by omega) (by omega)
  have this : s = 0 ∨ s = 1 := by omega
  rcases this with rfl | rfl
  ·have c2 := ofI_ok ((0 : Nat) : Int) (by decide) (by decide)
   exact ⟨[qN 4 (ofI ((0 : Nat) : Int))], k2, hk2, .n0 (by kernel_rfl) rfl (by kernel_rfl), sm1 (q_sm (by decide) (by decide)), by simp, pK [] 52 2365045199531895 (.n 271 .nil) (.c c2 (.c c1 (.c c0 (.c fq11 (.c fq10 (.c fq9 (.c fq8 (.c fq7 (.c fq6 (.c fq5 (.c fq4 (.c fq3 (.c fq2 (.c fq1 (.c fq0 .nil)))))))))))))))⟩
  ·have c2 := ofI_ok ((1 : Nat) : Int) (by decide) (by decide)
   exact ⟨[qN 4 (ofI ((1 : Nat) : Int))], k2, hk2, .n0 (by kernel_rfl) rfl (by kernel_rfl), sm1 (q_sm (by decide) (by decide)), by simp, pK [] 52 2365045199531895 (.n 271 .nil) (.c c2 (.c c1 (.c c0 (.c fq11 (.c fq10 (.c fq9 (.c fq8 (.c fq7 (.c fq6 (.c fq5 (.c fq4 (.c fq3 (.c fq2 (.c fq1 (.c fq0 .nil)))))))))))))))⟩
theorem leaf_R (xs : List Int) (nn : Bool) (k : Nat) (hl : xs.length < 2 ^ 62) (hk : k ≤ xs.length) : ∃ (e : List Nd) (k2 : Nat), k2 ≤ xs.length ∧ Tm sigsQ e ⟨false, 1, -1⟩ ∧ (∀ x ∈ e, x.sm) ∧ e.length ≤ 5 ∧ CallOk prog ap 57 [.sl (sgL sigsQ) 12 true, .ptr 0 0 0, .agg (tyC ⟨false, 1, -1⟩)] [dB xs nn k] (.ret (.own (ndL e) e.length 5)) [dB xs nn k2] := by
 obtain ⟨r, k1, hr, hk1, c0⟩ := next_ok xs nn k 2 hl hk (by omega) (by omega)
 have this : r = 0 ∨ r = 1 := by omega
 rcases this with rfl | rfl
 ·obtain ⟨e, k2, hk2, h1, h2, h3, cc⟩ := const_R xs nn k1 hl hk1
  have h : CallOk prog ap 57 [.sl (sgL sigsQ) 12 true, .ptr 0 0 0, .agg (tyC ⟨false, 1, -1⟩)] [dB xs nn k] (.ret (.own (List.take (e.length * 5) (ndL e)) e.length 5)) [dB xs nn k2] := pK [] 51 56588198442871 (.n 235 .nil) (.c cc (.c c0 (.c fq11 (.c fq10 (.c fq9 (.c fq8 (.c fq7 (.c fq6 (.c fq5 (.c fq4 (.c fq3 (.c fq2 (.c fq1 (.c fq0 .nil))))))))))))))
  rw [List.take_of_length_le (by rw [ndL_len]; omega)] at h
  exact ⟨e, k2, hk2, h1, h2, h3, h⟩
 ·obtain ⟨e, k2, hk2, h1, h2, h3, cc⟩ := const_R xs nn k1 hl hk1
  have h : CallOk prog ap 57 [.sl (sgL sigsQ) 12 true, .ptr 0 0 0, .agg (tyC ⟨false, 1, -1⟩)] [dB xs nn k] (.ret (.own (List.take (e.length * 5) (ndL e)) e.length 5)) [dB xs nn k2] := pK [] 51 56588198442871 (.n 235 .nil) (.c cc (.c c0 (.c fq11 (.c fq10 (.c fq9 (.c fq8 (.c fq7 (.c fq6 (.c fq5 (.c fq4 (.c fq3 (.c fq2 (.c fq1 (.c fq0 .nil))))))))))))))
  rw [List.take_of_length_le (by rw [ndL_len]; omega)] at h
  exact ⟨e, k2, hk2, h1, h2, h3, h⟩
theorem nd_cat {n : Nat} (a b : List Nd) (h : n = a.length) : List.take (n * 5) (ndL a) ++ ndL b = ndL (a ++ b) := by
 rw [List.take_of_length_le (by rw [ndL_len]; omega), ndL_app]
theorem nd_one {n : Nat} (a : List Nd) (x : Nd) (h : n = a.length) : List.take (n * 5) (ndL a) ++ [AV.int .i64 x.op, .bool x.neg, .str x.num, .str x.den, .str x.name] = ndL (a ++ [x]) := by
 rw [List.take_of_length_le (by rw [ndL_len]; omega), ndL_app]; rfl
theorem af1_0 (x : Nd) (a : List Nd) (h0 : (Nat.ble (a.length + 1) 1099511627776) = true) (h1 : (Nat.ble (a.length * 5) (List.length (ndL a))) = true) (h2 : (Nat.beq (List.length (ndL a)) (a.length * 5)) = true) (h3 : (Nat.ble a.length 1099511627776) = true) (h4 : lit false (Nat.beq a.length 0) = true)  : CO 58 [.agg [.int .i64 x.op, .bool x.neg, .str x.num, .str x.den, .str x.name], .sl [.sl (ndL a) a.length true] 1 true] (.ret (.own (List.take ((a.length + 1) * 5) (ndL (a ++ [x]))) (a.length + 1) 5)) := pK [] 3 1 (.k 1 h0 (.c h1 (.k 7 h2 (.c h3 (.c h4 (.n 4 .nil)))))) (.b 22 (nd_one a x rfl) (.b 18 (Eq.refl (ndL a)) .nil))
theorem after1 (x : Nd) (a : List Nd) (ne : a ≠ []) (ha : a.length < 1000) : CO 58 [.agg (ndC x), .sl [.sl (ndL a) a.length true] 1 true] (.ret (.own (ndL (a ++ [x])) (a ++ [x]).length 5)) := by
 have hp : 0 < a.length := by cases a with | nil => exact absurd rfl ne | cons _ _ => simp
 have hb : Nat.beq a.length 0 = false := by cases ha : a.length with | zero => omega | succ n => rfl
 have h := af1_0 x a (by first | (simp [ndL_len]; done) | (simp [ndL_len]; omega) | omega) (by first | (simp [ndL_len]; done) | (simp [ndL_len]; omega) | omega) (by first | (simp [ndL_len]; done) | (simp [ndL_len]; omega) | omega) (by first | (simp [ndL_len]; done) | (simp [ndL_len]; omega) | omega) (litF hb)
 rw [List.take_of_length_le (by rw [ndL_len]; first | (simp; done) | (simp; omega))] at h
 rw [show (a ++ [x]).length = a.length + 1 by simp [Nat.add_assoc]]
 exact h
theorem af2_0 (x : Nd) (a b : List Nd) (h0 : (Nat.ble ((a.length + b.length) + 1) 1099511627776) = true) (h1 : (Nat.ble ((a.length + b.length) * 5) (List.length (ndL (a ++ b)))) = true) (h2 : (Nat.beq (List.length (ndL b)) (b.length * 5)) = true) (h3 : (Nat.ble (a.length + b.length) 1099511627776) = true) (h4 : (Nat.ble (a.length * 5) (List.length (ndL a))) = true) (h5 : (Nat.beq (List.length (ndL a)) (a.length * 5)) = true) (h6 : (Nat.ble a.length 1099511627776) = true) (h7 : lit false (Nat.beq a.length 0) = true)  : CO 58 [.agg [.int .i64 x.op, .bool x.neg, .str x.num, .str x.den, .str x.name], .sl [.sl (ndL a) a.length true, .sl (ndL b) b.length true] 2 true] (.ret (.own (List.take (((a.length + b.length) + 1) * 5) (ndL (a ++ b ++ [x]))) ((a.length + b.length) + 1) 5)) := pK [] 4 5 (.k 1 h0 (.c h1 (.k 7 h2 (.c h3 (.c h4 (.k 5 h5 (.c h6 (.c h7 (.n 4 .nil))))))))) (.b 22 (nd_one (a ++ b) x List.length_append.symm) (.b 18 (nd_cat a b rfl) (.b 18 (Eq.refl (ndL a)) .nil)))
theorem after2 (x : Nd) (a b : List Nd) (ne : a ≠ []) (ha : a.length < 1000) (hb : b.length < 1000) : CO 58 [.agg (ndC x), .sl [.sl (ndL a) a.length true, .sl (ndL b) b.length true] 2 true] (.ret (.own (ndL (a ++ b ++ [x])) (a ++ b ++ [x]).length 5)) := by
 have hp : 0 < a.length := by cases a with | nil => exact absurd rfl ne | cons _ _ => simp
 have hb : Nat.beq a.length 0 = false := by cases ha : a.length with | zero => omega | succ n => rfl
 have h := af2_0 x a b (by first | (simp [ndL_len]; done) | (simp [ndL_len]; omega) | omega) (by first | (simp [ndL_len]; done) | (simp [ndL_len]; omega) | omega) (by first | (simp [ndL_len]; done) | (simp [ndL_len]; omega) | omega) (by first | (simp [ndL_len]; done) | (simp [ndL_len]; omega) | omega) (by first | (simp [ndL_len]; done) | (simp [ndL_len]; omega) | omega) (by first | (simp [ndL_len]; done) | (simp [ndL_len]; omega) | omega) (by first | (simp [ndL_len]; done) | (simp [ndL_len]; omega) | omega) (litF hb)
 rw [List.take_of_length_le (by rw [ndL_len]; first | (simp; done) | (simp; omega))] at h
 rw [show (a ++ b ++ [x]).length = a.length + b.length + 1 by simp [Nat.add_assoc]]
 exact h
theorem af3_0 (x : Nd) (a b c : List Nd) (h0 : (Nat.ble (((a.length + b.length) + c.length) + 1) 1099511627776) = true) (h1 : (Nat.ble (((a.length + b.length) + c.length) * 5) (List.length (ndL (a ++ b ++ c)))) = true) (h2 : (Nat.beq (List.length (ndL c)) (c.length * 5)) = true) (h3 : (Nat.ble ((a.length + b.length) + c.length) 1099511627776) = true) (h4 : (Nat.ble ((a.length + b.length) * 5) (List.length (ndL (a ++ b)))) = true) (h5 : (Nat.beq (List.length (ndL b)) (b.length * 5)) = true) (h6 : (Nat.ble (a.length + b.length) 1099511627776) = true) (h7 : (Nat.ble (a.length * 5) (List.length (ndL a))) = true) (h8 : (Nat.beq (List.length (ndL a)) (a.length * 5)) = true) (h9 : (Nat.ble a.length 1099511627776) = true) (h10 : lit false (Nat.beq a.length 0) = true)  : CO 58 [.agg [.int .i64 x.op, .bool x.neg, .str x.num, .str x.den, .str x.name], .sl [.sl (ndL a) a.length true, .sl (ndL b) b.length true, .sl (ndL c) c.length true] 3 true] (.ret (.own (List.take ((((a.length + b.length) + c.length) + 1) * 5) (ndL (a ++ b ++ c ++ [x]))) (((a.length + b.length) + c.length) + 1) 5)) := pK [] 5 13 (.k 1 h0 (.c h1 (.k 7 h2 (.c h3 (.c h4 (.k 5 h5 (.c h6 (.c h7 (.k 5 h8 (.c h9 (.c h10 (.n 4 .nil)))))))))))) (.b 22 (nd_one (a ++ b ++ c) x (by rw [List.length_append, List.length_append])) (.b 18 (nd_cat (a ++ b) c List.length_append.symm) (.b 18 (nd_cat a b rfl) (.b 18 (Eq.refl (ndL a)) .nil))))
theorem after3 (x : Nd) (a b c : List Nd) (ne : a ≠ []) (ha : a.length < 1000) (hb : b.length < 1000) (hc : c.length < 1000) : CO 58 [.agg (ndC x), .sl [.sl (ndL a) a.length true, .sl (ndL b) b.length true, .sl (ndL c) c.length true] 3 true] (.ret (.own (ndL (a ++ b ++ c ++ [x])) (a ++ b ++ c ++ [x]).length 5)) := by
 have hp : 0 < a.length := by cases a with | nil => exact absurd rfl ne | cons _ _ => simp
 have hb : Nat.beq a.length 0 = false := by cases ha : a.length with | zero => omega | succ n => rfl
 have h := af3_0 x a b c (by first | (simp [ndL_len]; done) | (simp [ndL_len]; omega) | omega) (by first | (simp [ndL_len]; done) | (simp [ndL_len]; omega) | omega) (by first | (simp [ndL_len]; done) | (simp [ndL_len]; omega) | omega) (by first | (simp [ndL_len]; done) | (simp [ndL_len]; omega) | omega) (by first | (simp [ndL_len]; done) | (simp [ndL_len]; omega) | omega) (by first | (simp [ndL_len]; done) | (simp [ndL_len]; omega) | omega) (by first | (simp [ndL_len]; done) | (simp [ndL_len]; omega) | omega) (by first | (simp [ndL_len]; done) | (simp [ndL_len]; omega) | omega) (by first | (simp [ndL_len]; done) | (simp [ndL_len]; omega) | omega) (by first | (simp [ndL_len]; done) | (simp [ndL_len]; omega) | omega) (litF hb)
 rw [List.take_of_length_le (by rw [ndL_len]; first | (simp; done) | (simp; omega))] at h
 rw [show (a ++ b ++ c ++ [x]).length = a.length + b.length + c.length + 1 by simp [Nat.add_assoc]]
 exact h
def tM : Ty := ⟨false, 1, 0⟩
def tD : Ty := ⟨false, 0, 1⟩
def tP : Ty := ⟨false, 0, 0⟩
def plainT (t : Ty) : Prop := t = tM ∨ t = tD ∨ t = tP ∨ t = tT
def bL : Nat → Nat
 | 0 => 1
 | n + 1 => 3 * bL n + 1
def Mk (f : Nat) (pre post : List AV) (t : Ty) (bnd : Nat) (xs : List Int) (nn : Bool) (k : Nat) : Prop := ∃ (e : List Nd) (k2 : Nat), k2 ≤ xs.length ∧ Tm sigsQ e t ∧ (∀ x ∈ e, x.sm) ∧ e.length ≤ bnd ∧ CallOk prog ap f (pre ++ .agg (tyC t) :: post) [dB xs nn k] (.ret (.own (ndL e) e.length 5)) [dB xs nn k2]
abbrev Made (t : Ty) (lv : Int) (bnd : Nat) (xs : List Int) (nn : Bool) (k : Nat) : Prop := Mk 38 [.sl (sgL sigsQ) 12 true, .ptr 0 0 0] [.int .i64 lv] t bnd xs nn k
theorem mkD {f : Nat} {pre post : List AV} {t : Ty} {bnd k k2 : Nat} {xs : List Int} {nn : Bool} {e : List Nd} (hk : k2 ≤ xs.length) (h1 : Tm sigsQ e t) (h2 : ∀ x ∈ e, x.sm) (h3 : e.length ≤ bnd) (h : CallOk prog ap f (pre ++ .agg (tyC t) :: post) [dB xs nn k] (.ret (.own (List.take (e.length * 5) (ndL e)) e.length 5)) [dB xs nn k2]) : Mk f pre post t bnd xs nn k := by
 rw [List.take_of_length_le (by rw [ndL_len]; omega)] at h
 exact ⟨e, k2, hk, h1, h2, h3, h⟩
theorem ndtk (a : List Nd) : List.take (a.length * 5) (ndL a) = ndL a := List.take_of_length_le (by rw [ndL_len]; omega)
theorem af1t (x : Nd) (a : List Nd) (ne : a ≠ []) (ha : a.length < 1000) : CO 58 [.agg (ndC x), .sl [.sl (List.take (a.length * 5) (ndL a)) a.length true] 1 true] (.ret (.own (ndL (a ++ [x])) (a ++ [x]).length 5)) := by
 simp only [ndtk]
 exact after1 x a ne ha
theorem smA1 {a : List Nd} {x : Nd} (ha : ∀ y ∈ a, y.sm) (hx : x.sm) : ∀ y ∈ a ++ [x], y.sm := by
 intro y hy
 simp only [List.mem_append, List.mem_singleton] at hy
 rcases hy with hy | rfl
 ·exact ha y hy
 ·exact hx
theorem af2t (x : Nd) (a b : List Nd) (ne : a ≠ []) (ha : a.length < 1000) (hb : b.length < 1000) : CO 58 [.agg (ndC x), .sl [.sl (List.take (a.length * 5) (ndL a)) a.length true, .sl (List.take (b.length * 5) (ndL b)) b.length true] 2 true] (.ret (.own (ndL (a ++ b ++ [x])) (a ++ b ++ [x]).length 5)) := by
 simp only [ndtk]
 exact after2 x a b ne ha hb
theorem smA2 {a b : List Nd} {x : Nd} (ha : ∀ y ∈ a, y.sm) (hb : ∀ y ∈ b, y.sm) (hx : x.sm) : ∀ y ∈ a ++ b ++ [x], y.sm := by
 intro y hy
 simp only [List.mem_append, List.mem_singleton] at hy
 rcases hy with (hy | hy) | rfl
 ·exact ha y hy
 ·exact hb y hy
 ·exact hx
theorem af3t (x : Nd) (a b c : List Nd) (ne : a ≠ []) (ha : a.length < 1000) (hb : b.length < 1000) (hc : c.length < 1000) : CO 58 [.agg (ndC x), .sl [.sl (List.take (a.length * 5) (ndL a)) a.length true, .sl (List.take (b.length * 5) (ndL b)) b.length true, .sl (List.take (c.length * 5) (ndL c)) c.length true] 3 true] (.ret (.own (ndL (a ++ b ++ c ++ [x])) (a ++ b ++ c ++ [x]).length 5)) := by
 simp only [ndtk]
 exact after3 x a b c ne ha hb hc
theorem smA3 {a b c : List Nd} {x : Nd} (ha : ∀ y ∈ a, y.sm) (hb : ∀ y ∈ b, y.sm) (hc : ∀ y ∈ c, y.sm) (hx : x.sm) : ∀ y ∈ a ++ b ++ c ++ [x], y.sm := by
 intro y hy
 simp only [List.mem_append, List.mem_singleton] at hy
 rcases hy with ((hy | hy) | hy) | rfl
 ·exact ha y hy
 ·exact hb y hy
 ·exact hc y hy
 ·exact hx
theorem leaf_ok {t : Ty} (ht : plainT t) (xs : List Int) (nn : Bool) (k : Nat) (hl : xs.length < 2 ^ 62) (hk : k ≤ xs.length) : Mk 57 [.sl (sgL sigsQ) 12 true, .ptr 0 0 0] [] t 1 xs nn k := by
 rcases ht with rfl | rfl | rfl | rfl
 ·exact leaf_M xs nn k hl hk
 ·exact leaf_D xs nn k hl hk
 ·exact leaf_P xs nn k hl hk
 ·exact leaf_T xs nn k hl hk
theorem made0 {t : Ty} (ht : plainT t) (xs : List Int) (nn : Bool) (k : Nat) (hl : xs.length < 2 ^ 62) (hk : k ≤ xs.length) : Made t 0 1 xs nn k := by
 obtain ⟨e, k2, hk2, h1, h2, h3, c0⟩ := leaf_ok ht xs nn k hl hk
 refine mkD hk2 h1 h2 h3 ?_
 rcases ht with rfl | rfl | rfl | rfl
 ·exact pK [] 2 3 (.n 5 .nil) (.c c0 .nil)
 ·exact pK [] 2 3 (.n 5 .nil) (.c c0 .nil)
 ·exact pK [] 2 3 (.n 5 .nil) (.c c0 .nil)
 ·exact pK [] 2 3 (.n 5 .nil) (.c c0 .nil)
theorem madeR (xs : List Int) (nn : Bool) (k : Nat) (hl : xs.length < 2 ^ 62) (hk : k ≤ xs.length) : Made ⟨false, 1, -1⟩ 0 5 xs nn k := by
 obtain ⟨e, k2, hk2, h1, h2, h3, c0⟩ := leaf_R xs nn k hl hk
 exact mkD hk2 h1 h2 h3 (pK [] 2 3 (.n 5 .nil) (.c c0 .nil))
def kT : Nat → Ty
 | 0 => tM
 | 1 => tD
 | _ => tP
theorem kd0 : CO 26 [.int .i64 1, .int .i64 0] (.ret (.agg [.bool false, .int .i64 1, .int .i64 0])) := cK (.nil)
theorem kd1 : CO 26 [.int .i64 0, .int .i64 1] (.ret (.agg [.bool false, .int .i64 0, .int .i64 1])) := cK (.nil)
theorem kd2 : CO 26 [.int .i64 0, .int .i64 0] (.ret (.agg [.bool false, .int .i64 0, .int .i64 0])) := cK (.nil)
theorem kd3 : CO 25 [] (.ret (.agg [.bool true, .int .i64 0, .int .i64 0])) := cK (.nil)
theorem kd4 : CO 26 [.int .i64 1, .int .i64 (-1)] (.ret (.agg [.bool false, .int .i64 1, .int .i64 (-1)])) := cK (.nil)
theorem kd5 : CO 18 [.int .i64 0, .int .i64 5] (.ret (.int .i64 0)) := cK (.nil)
theorem kd6 : CO 15 [.int .i64 0] (.ret (.agg [.bool false, .int .i64 1, .int .i64 0])) := cK (.c kd5 (.c kd4 (.c kd3 (.c kd2 (.c kd1 (.c kd0 .nil))))))
theorem kd7 : CO 18 [.int .i64 1, .int .i64 5] (.ret (.int .i64 1)) := cK (.nil)
theorem kd8 : CO 15 [.int .i64 1] (.ret (.agg [.bool false, .int .i64 0, .int .i64 1])) := cK (.c kd7 (.c kd4 (.c kd3 (.c kd2 (.c kd1 (.c kd0 .nil))))))
theorem kd9 : CO 18 [.int .i64 2, .int .i64 5] (.ret (.int .i64 2)) := cK (.nil)
theorem kd10 : CO 15 [.int .i64 2] (.ret (.agg [.bool false, .int .i64 0, .int .i64 0])) := cK (.c kd9 (.c kd4 (.c kd3 (.c kd2 (.c kd1 (.c kd0 .nil))))))
theorem kind3 {u : Nat} (hu : u < 3) : CO 15 [.int .i64 (u : Int)] (.ret (.agg (tyC (kT u)))) ∧ plainT (kT u) := by
 rcases (show u = 0 ∨ u = 1 ∨ u = 2 by omega) with rfl | rfl | rfl
 ·exact ⟨kd6, by simp [plainT, kT]⟩
 ·exact ⟨kd8, by simp [plainT, kT]⟩
 ·exact ⟨kd10, by simp [plainT, kT]⟩
theorem pT : plainT tT := by simp [plainT]
theorem pP : plainT tP := by simp [plainT]
def numT (t : Ty) : Prop := t = tM ∨ t = tD ∨ t = tP
theorem numT.pl {t : Ty} (h : numT t) : plainT t := by rcases h with rfl | rfl | rfl <;> simp [plainT]
theorem mcT0 {xs : List Int} {nn : Bool} {k lv r0 k1 s k2 : Nat} (hl : xs.length < 2 ^ 62) (hlv : lv < 2 ^ 62) (hb : bL lv < 300) (ih : ∀ t, plainT t → ∀ k, k ≤ xs.length → Made t (lv : Int) (bL lv) xs nn k) (z0 : ((r0 : Int) == ((0 : Nat) : Int)) = false) (zl : (decide ((((lv + 1) : Nat) : Int) ≤ ((0 : Nat) : Int))) = false) (hk2 : k2 ≤ xs.length) (c0 : CallOk prog ap 56 [.ptr 0 0 0, .int .i64 5] [dB xs nn k] (.ret (.int .i64 (r0 : Int))) [dB xs nn k1]) (c1 : CallOk prog ap 56 [.ptr 0 0 0, .int .i64 5] [dB xs nn k1] (.ret (.int .i64 (s : Int))) [dB xs nn k2]) (hs : s = 0 ∨ s = 1) : Made tT ((lv + 1 : Nat) : Int) (bL (lv + 1)) xs nn k := by
 obtain ⟨u, k3, hu, hk3, cu⟩ := next_ok xs nn k2 3 hl hk2 (by omega) (by omega)
 obtain ⟨r, k4, hr, hk4, cr⟩ := next_ok xs nn k3 2 hl hk3 (by omega) (by omega)
 have hkd := (kind3 hu).1
 obtain ⟨e0, k5, hk5, t0, m0, b0, d0⟩ := ih (kT u) (kind3 hu).2 k4 hk4
 obtain ⟨e1, k6, hk6, t1, m1, b1, d1⟩ := ih (kT u) (kind3 hu).2 k5 hk5
 have h58 := af2t (opN (16 + (r : Int))) e0 e1 t0.ne (by omega) (by omega)
 have hW : wrongQ (opN (16 + (r : Int))) = 0 := by rcases (show u = 0 ∨ u = 1 ∨ u = 2 by omega) with rfl | rfl | rfl <;> rcases (show r = 0 ∨ r = 1 by omega) with rfl | rfl <;> kernel_rfl
 have hA : arI (opN (16 + (r : Int))).op = 2 := by rcases (show u = 0 ∨ u = 1 ∨ u = 2 by omega) with rfl | rfl | rfl <;> rcases (show r = 0 ∨ r = 1 by omega) with rfl | rfl <;> rfl
 have hT : typR sigsQ (opN (16 + (r : Int))) [(kT u), (kT u)] = (tT, 0) := by rcases (show u = 0 ∨ u = 1 ∨ u = 2 by omega) with rfl | rfl | rfl <;> rcases (show r = 0 ∨ r = 1 by omega) with rfl | rfl <;> kernel_rfl
 refine mkD (e := e0 ++ e1 ++ [opN (16 + (r : Int))]) hk6 (.n2 t0 t1 hW hA hT) (smA2 m0 m1 (opN_sm _)) (by simp [bL]; omega) ?_
 rcases hs with rfl | rfl
 ·rcases (show u = 0 ∨ u = 1 ∨ u = 2 by omega) with rfl | rfl | rfl <;> rcases (show r = 0 ∨ r = 1 by omega) with rfl | rfl <;> exact pK [] 5 28 (.k 11 (litF z0) (.c (litF zl) .nil)) (.c h58 (.c d1 (.c d0 (.c cr (.c hkd (.c cu (.c c1 (.v 27 (.eq (wkm hlv)) (.c c0 .nil)))))))))
 ·rcases (show u = 0 ∨ u = 1 ∨ u = 2 by omega) with rfl | rfl | rfl <;> rcases (show r = 0 ∨ r = 1 by omega) with rfl | rfl <;> exact pK [] 5 20 (.k 11 (litF z0) (.c (litF zl) .nil)) (.c h58 (.c d1 (.c d0 (.c cr (.c hkd (.c cu (.c c1 (.v 27 (.eq (wkm hlv)) (.c c0 .nil)))))))))
theorem mcT2 {xs : List Int} {nn : Bool} {k lv r0 k1 s k2 : Nat} (hl : xs.length < 2 ^ 62) (hlv : lv < 2 ^ 62) (hb : bL lv < 300) (ih : ∀ t, plainT t → ∀ k, k ≤ xs.length → Made t (lv : Int) (bL lv) xs nn k) (z0 : ((r0 : Int) == ((0 : Nat) : Int)) = false) (zl : (decide ((((lv + 1) : Nat) : Int) ≤ ((0 : Nat) : Int))) = false) (hk2 : k2 ≤ xs.length) (c0 : CallOk prog ap 56 [.ptr 0 0 0, .int .i64 5] [dB xs nn k] (.ret (.int .i64 (r0 : Int))) [dB xs nn k1]) (c1 : CallOk prog ap 56 [.ptr 0 0 0, .int .i64 5] [dB xs nn k1] (.ret (.int .i64 (s : Int))) [dB xs nn k2]) (hs : s = 2) : Made tT ((lv + 1 : Nat) : Int) (bL (lv + 1)) xs nn k := by
 obtain ⟨e0, k3, hk3, t0, m0, b0, d0⟩ := ih tT pT k2 hk2
 have h58 := af1t (opN 20) e0 t0.ne (by omega)
 have hW : wrongQ (opN 20) = 0 := by kernel_rfl
 have hA : arI (opN 20).op = 1 := by rfl
 have hT : typR sigsQ (opN 20) [tT] = (tT, 0) := by kernel_rfl
 refine mkD (e := e0 ++ [opN 20]) hk3 (.n1 t0 hW hA hT) (smA1 m0 (opN_sm _)) (by simp [bL]; omega) ?_
 subst hs
 exact pK [] 6 36 (.k 8 (litF z0) (.c (litF zl) .nil)) (.c h58 (.c d0 (.c c1 (.v 27 (.eq (wkm hlv)) (.c c0 .nil)))))
theorem mcT3 {xs : List Int} {nn : Bool} {k lv r0 k1 s k2 : Nat} (hl : xs.length < 2 ^ 62) (hlv : lv < 2 ^ 62) (hb : bL lv < 300) (ih : ∀ t, plainT t → ∀ k, k ≤ xs.length → Made t (lv : Int) (bL lv) xs nn k) (z0 : ((r0 : Int) == ((0 : Nat) : Int)) = false) (zl : (decide ((((lv + 1) : Nat) : Int) ≤ ((0 : Nat) : Int))) = false) (hk2 : k2 ≤ xs.length) (c0 : CallOk prog ap 56 [.ptr 0 0 0, .int .i64 5] [dB xs nn k] (.ret (.int .i64 (r0 : Int))) [dB xs nn k1]) (c1 : CallOk prog ap 56 [.ptr 0 0 0, .int .i64 5] [dB xs nn k1] (.ret (.int .i64 (s : Int))) [dB xs nn k2]) (hs : s = 3) : Made tT ((lv + 1 : Nat) : Int) (bL (lv + 1)) xs nn k := by
 obtain ⟨e0, k3, hk3, t0, m0, b0, d0⟩ := ih tT pT k2 hk2
 obtain ⟨e1, k4, hk4, t1, m1, b1, d1⟩ := ih tT pT k3 hk3
 obtain ⟨e2, k5, hk5, t2, m2, b2, d2⟩ := ih tT pT k4 hk4
 have h58 := af3t (opN 15) e0 e1 e2 t0.ne (by omega) (by omega) (by omega)
 have hW : wrongQ (opN 15) = 0 := by kernel_rfl
 have hA : arI (opN 15).op = 3 := by rfl
 have hT : typR sigsQ (opN 15) [tT, tT, tT] = (tT, 0) := by kernel_rfl
 refine mkD (e := e0 ++ e1 ++ e2 ++ [opN 15]) hk5 (.n3 t0 t1 t2 hW hA hT) (smA3 m0 m1 m2 (opN_sm _)) (by simp [bL]; omega) ?_
 subst hs
 exact pK [] 7 68 (.k 15 (litF z0) (.c (litF zl) .nil)) (.c h58 (.c d2 (.c d1 (.c d0 (.c c1 (.v 27 (.eq (wkm hlv)) (.c c0 .nil)))))))
theorem mcT4 {xs : List Int} {nn : Bool} {k lv r0 k1 s k2 : Nat} (hl : xs.length < 2 ^ 62) (hlv : lv < 2 ^ 62) (hb : bL lv < 300) (ih : ∀ t, plainT t → ∀ k, k ≤ xs.length → Made t (lv : Int) (bL lv) xs nn k) (z0 : ((r0 : Int) == ((0 : Nat) : Int)) = false) (zl : (decide ((((lv + 1) : Nat) : Int) ≤ ((0 : Nat) : Int))) = false) (hk2 : k2 ≤ xs.length) (c0 : CallOk prog ap 56 [.ptr 0 0 0, .int .i64 5] [dB xs nn k] (.ret (.int .i64 (r0 : Int))) [dB xs nn k1]) (c1 : CallOk prog ap 56 [.ptr 0 0 0, .int .i64 5] [dB xs nn k1] (.ret (.int .i64 (s : Int))) [dB xs nn k2]) (hs : s = 4) : Made tT ((lv + 1 : Nat) : Int) (bL (lv + 1)) xs nn k := by
 obtain ⟨r, k3, hr, hk3, cr⟩ := next_ok xs nn k2 2 hl hk2 (by omega) (by omega)
 obtain ⟨e0, k4, hk4, t0, m0, b0, d0⟩ := ih tT pT k3 hk3
 obtain ⟨e1, k5, hk5, t1, m1, b1, d1⟩ := ih tT pT k4 hk4
 have h58 := af2t (opN (18 + (r : Int))) e0 e1 t0.ne (by omega) (by omega)
 have hW : wrongQ (opN (18 + (r : Int))) = 0 := by rcases (show r = 0 ∨ r = 1 by omega) with rfl | rfl <;> kernel_rfl
 have hA : arI (opN (18 + (r : Int))).op = 2 := by rcases (show r = 0 ∨ r = 1 by omega) with rfl | rfl <;> rfl
 have hT : typR sigsQ (opN (18 + (r : Int))) [tT, tT] = (tT, 0) := by rcases (show r = 0 ∨ r = 1 by omega) with rfl | rfl <;> kernel_rfl
 refine mkD (e := e0 ++ e1 ++ [opN (18 + (r : Int))]) hk5 (.n2 t0 t1 hW hA hT) (smA2 m0 m1 (opN_sm _)) (by simp [bL]; omega) ?_
 subst hs
 rcases (show r = 0 ∨ r = 1 by omega) with rfl | rfl <;> exact pK [] 7 4 (.k 12 (litF z0) (.c (litF zl) .nil)) (.c h58 (.c d1 (.c d0 (.c cr (.c c1 (.v 27 (.eq (wkm hlv)) (.c c0 .nil)))))))
def opF (r : Nat) : Int := ([9, 10, 13, 14] : List Int).getD r 0
theorem n26 : CO 26 [.int .i64 0, .int .i64 0] (.ret (.agg (tyC tP))) := cK .nil
theorem n25 : CO 25 [] (.ret (.agg (tyC tT))) := cK .nil
theorem mcN0 {xs : List Int} {nn : Bool} {k lv r0 k1 s k2 : Nat} (hl : xs.length < 2 ^ 62) (hlv : lv < 2 ^ 62) (hb : bL lv < 300) (ih : ∀ t, plainT t → ∀ k, k ≤ xs.length → Made t (lv : Int) (bL lv) xs nn k) (z0 : ((r0 : Int) == ((0 : Nat) : Int)) = false) (zl : (decide ((((lv + 1) : Nat) : Int) ≤ ((0 : Nat) : Int))) = false) (hk2 : k2 ≤ xs.length) (c0 : CallOk prog ap 56 [.ptr 0 0 0, .int .i64 5] [dB xs nn k] (.ret (.int .i64 (r0 : Int))) [dB xs nn k1]) (c1 : CallOk prog ap 56 [.ptr 0 0 0, .int .i64 7] [dB xs nn k1] (.ret (.int .i64 (s : Int))) [dB xs nn k2]) (hs : s = 0 ∨ s = 1) {t : Ty} (ht : numT t) : Made t ((lv + 1 : Nat) : Int) (bL (lv + 1)) xs nn k := by
 obtain ⟨r, k3, hr, hk3, cr⟩ := next_ok xs nn k2 4 hl hk2 (by omega) (by omega)
 obtain ⟨e0, k4, hk4, t0, m0, b0, d0⟩ := ih t ht.pl k3 hk3
 obtain ⟨e1, k5, hk5, t1, m1, b1, d1⟩ := ih t ht.pl k4 hk4
 have h58 := af2t (opN (opF r)) e0 e1 t0.ne (by omega) (by omega)
 have hW : wrongQ (opN (opF r)) = 0 := by rcases ht with rfl | rfl | rfl <;> rcases (show r = 0 ∨ r = 1 ∨ r = 2 ∨ r = 3 by omega) with rfl | rfl | rfl | rfl <;> kernel_rfl
 have hA : arI (opN (opF r)).op = 2 := by rcases ht with rfl | rfl | rfl <;> rcases (show r = 0 ∨ r = 1 ∨ r = 2 ∨ r = 3 by omega) with rfl | rfl | rfl | rfl <;> rfl
 have hT : typR sigsQ (opN (opF r)) [t, t] = (t, 0) := by rcases ht with rfl | rfl | rfl <;> rcases (show r = 0 ∨ r = 1 ∨ r = 2 ∨ r = 3 by omega) with rfl | rfl | rfl | rfl <;> kernel_rfl
 refine mkD (e := e0 ++ e1 ++ [opN (opF r)]) hk5 (.n2 t0 t1 hW hA hT) (smA2 m0 m1 (opN_sm _)) (by simp [bL]; omega) ?_
 rcases hs with rfl | rfl
 ·rcases ht with rfl | rfl | rfl <;> rcases (show r = 0 ∨ r = 1 ∨ r = 2 ∨ r = 3 by omega) with rfl | rfl | rfl | rfl <;> exact pK [] 5 24 (.k 13 (litF z0) (.c (litF zl) .nil)) (.c h58 (.c d1 (.c d0 (.c cr (.c c1 (.v 27 (.eq (wkm hlv)) (.c c0 .nil)))))))
 ·rcases ht with rfl | rfl | rfl <;> rcases (show r = 0 ∨ r = 1 ∨ r = 2 ∨ r = 3 by omega) with rfl | rfl | rfl | rfl <;> exact pK [] 5 16 (.k 13 (litF z0) (.c (litF zl) .nil)) (.c h58 (.c d1 (.c d0 (.c cr (.c c1 (.v 27 (.eq (wkm hlv)) (.c c0 .nil)))))))
theorem mcN2 {xs : List Int} {nn : Bool} {k lv r0 k1 s k2 : Nat} (hl : xs.length < 2 ^ 62) (hlv : lv < 2 ^ 62) (hb : bL lv < 300) (ih : ∀ t, plainT t → ∀ k, k ≤ xs.length → Made t (lv : Int) (bL lv) xs nn k) (z0 : ((r0 : Int) == ((0 : Nat) : Int)) = false) (zl : (decide ((((lv + 1) : Nat) : Int) ≤ ((0 : Nat) : Int))) = false) (hk2 : k2 ≤ xs.length) (c0 : CallOk prog ap 56 [.ptr 0 0 0, .int .i64 5] [dB xs nn k] (.ret (.int .i64 (r0 : Int))) [dB xs nn k1]) (c1 : CallOk prog ap 56 [.ptr 0 0 0, .int .i64 7] [dB xs nn k1] (.ret (.int .i64 (s : Int))) [dB xs nn k2]) (hs : s = 2) {t : Ty} (ht : numT t) : Made t ((lv + 1 : Nat) : Int) (bL (lv + 1)) xs nn k := by
 obtain ⟨e0, k3, hk3, t0, m0, b0, d0⟩ := ih t ht.pl k2 hk2
 obtain ⟨e1, k4, hk4, t1, m1, b1, d1⟩ := ih tP pP k3 hk3
 have h58 := af2t (opN 11) e0 e1 t0.ne (by omega) (by omega)
 have hW : wrongQ (opN 11) = 0 := by rcases ht with rfl | rfl | rfl <;> kernel_rfl
 have hA : arI (opN 11).op = 2 := by rcases ht with rfl | rfl | rfl <;> rfl
 have hT : typR sigsQ (opN 11) [t, tP] = (t, 0) := by rcases ht with rfl | rfl | rfl <;> kernel_rfl
 refine mkD (e := e0 ++ e1 ++ [opN 11]) hk4 (.n2 t0 t1 hW hA hT) (smA2 m0 m1 (opN_sm _)) (by simp [bL]; omega) ?_
 subst hs
 rcases ht with rfl | rfl | rfl <;> exact pK [] 6 32 (.k 8 (litF z0) (.c (litF zl) .nil)) (.c h58 (.c d1 (.c n26 (.c d0 (.c c1 (.v 27 (.eq (wkm hlv)) (.c c0 .nil)))))))
theorem mcN3 {xs : List Int} {nn : Bool} {k lv r0 k1 s k2 : Nat} (hl : xs.length < 2 ^ 62) (hlv : lv < 2 ^ 62) (hb : bL lv < 300) (ih : ∀ t, plainT t → ∀ k, k ≤ xs.length → Made t (lv : Int) (bL lv) xs nn k) (z0 : ((r0 : Int) == ((0 : Nat) : Int)) = false) (zl : (decide ((((lv + 1) : Nat) : Int) ≤ ((0 : Nat) : Int))) = false) (hk2 : k2 ≤ xs.length) (c0 : CallOk prog ap 56 [.ptr 0 0 0, .int .i64 5] [dB xs nn k] (.ret (.int .i64 (r0 : Int))) [dB xs nn k1]) (c1 : CallOk prog ap 56 [.ptr 0 0 0, .int .i64 7] [dB xs nn k1] (.ret (.int .i64 (s : Int))) [dB xs nn k2]) (hs : s = 3) {t : Ty} (ht : numT t) : Made t ((lv + 1 : Nat) : Int) (bL (lv + 1)) xs nn k := by
 obtain ⟨e0, k3, hk3, t0, m0, b0, d0⟩ := ih t ht.pl k2 hk2
 obtain ⟨e1, k4, hk4, t1, m1, b1, d1⟩ := ih tP pP k3 hk3
 have h58 := af2t (opN 12) e0 e1 t0.ne (by omega) (by omega)
 have hW : wrongQ (opN 12) = 0 := by rcases ht with rfl | rfl | rfl <;> kernel_rfl
 have hA : arI (opN 12).op = 2 := by rcases ht with rfl | rfl | rfl <;> rfl
 have hT : typR sigsQ (opN 12) [t, tP] = (t, 0) := by rcases ht with rfl | rfl | rfl <;> kernel_rfl
 refine mkD (e := e0 ++ e1 ++ [opN 12]) hk4 (.n2 t0 t1 hW hA hT) (smA2 m0 m1 (opN_sm _)) (by simp [bL]; omega) ?_
 subst hs
 rcases ht with rfl | rfl | rfl <;> exact pK [] 7 64 (.k 9 (litF z0) (.c (litF zl) .nil)) (.c h58 (.c d1 (.c n26 (.c d0 (.c c1 (.v 27 (.eq (wkm hlv)) (.c c0 .nil)))))))
theorem mcN4 {xs : List Int} {nn : Bool} {k lv r0 k1 s k2 : Nat} (hl : xs.length < 2 ^ 62) (hlv : lv < 2 ^ 62) (hb : bL lv < 300) (ih : ∀ t, plainT t → ∀ k, k ≤ xs.length → Made t (lv : Int) (bL lv) xs nn k) (z0 : ((r0 : Int) == ((0 : Nat) : Int)) = false) (zl : (decide ((((lv + 1) : Nat) : Int) ≤ ((0 : Nat) : Int))) = false) (hk2 : k2 ≤ xs.length) (c0 : CallOk prog ap 56 [.ptr 0 0 0, .int .i64 5] [dB xs nn k] (.ret (.int .i64 (r0 : Int))) [dB xs nn k1]) (c1 : CallOk prog ap 56 [.ptr 0 0 0, .int .i64 7] [dB xs nn k1] (.ret (.int .i64 (s : Int))) [dB xs nn k2]) (hs : s = 4) {t : Ty} (ht : numT t) : Made t ((lv + 1 : Nat) : Int) (bL (lv + 1)) xs nn k := by
 obtain ⟨e0, k3, hk3, t0, m0, b0, d0⟩ := ih tT pT k2 hk2
 obtain ⟨e1, k4, hk4, t1, m1, b1, d1⟩ := ih t ht.pl k3 hk3
 obtain ⟨e2, k5, hk5, t2, m2, b2, d2⟩ := ih t ht.pl k4 hk4
 have h58 := af3t (opN 15) e0 e1 e2 t0.ne (by omega) (by omega) (by omega)
 have hW : wrongQ (opN 15) = 0 := by rcases ht with rfl | rfl | rfl <;> kernel_rfl
 have hA : arI (opN 15).op = 3 := by rcases ht with rfl | rfl | rfl <;> rfl
 have hT : typR sigsQ (opN 15) [tT, t, t] = (t, 0) := by rcases ht with rfl | rfl | rfl <;> kernel_rfl
 refine mkD (e := e0 ++ e1 ++ e2 ++ [opN 15]) hk5 (.n3 t0 t1 t2 hW hA hT) (smA3 m0 m1 m2 (opN_sm _)) (by simp [bL]; omega) ?_
 subst hs
 rcases ht with rfl | rfl | rfl <;> exact pK [] 8 128 (.k 13 (litF z0) (.c (litF zl) .nil)) (.c h58 (.c d2 (.c d1 (.c d0 (.c n25 (.c c1 (.v 27 (.eq (wkm hlv)) (.c c0 .nil))))))))
theorem by_wrong {q : RQ} (h : q.ok) (hn : q.n < 64) (hd : q.d < 64) (hp : q.neg = false ∧ 0 < q.n) {op : Int} (ho : op = 21 ∨ op = 22 ∨ op = 23) : wrongQ (qN op q) = 0 := by
 have hf := q_fits h hn hd
 have hs : sgnQ q.neg (natS q.n) (natS q.d) = 1 := by
  unfold sgnQ
  rw [if_pos ⟨isQ_of q h, by rw [val_natS]; exact hp.2⟩, hp.1]; rfl
 have hs2 : decide (((0 : Nat) : Int) < sgnQ q.neg (natS q.n) (natS q.d)) = true := by rw [hs]; rfl
 have e : numQ (qN op q) = true := by
  have : (fitsQ q.neg (natS q.n) (natS q.d) && decide (((0 : Nat) : Int) < sgnQ q.neg (natS q.n) (natS q.d))) = true := by rw [hf, hs2]; rfl
  rcases ho with rfl | rfl | rfl <;> exact this
 unfold wrongQ
 rw [e]
 rcases ho with rfl | rfl | rfl <;> rfl
theorem mcN5 {xs : List Int} {nn : Bool} {k lv r0 k1 s k2 : Nat} (hl : xs.length < 2 ^ 62) (hlv : lv < 2 ^ 62) (hb : bL lv < 300) (ih : ∀ t, plainT t → ∀ k, k ≤ xs.length → Made t (lv : Int) (bL lv) xs nn k) (z0 : ((r0 : Int) == ((0 : Nat) : Int)) = false) (zl : (decide ((((lv + 1) : Nat) : Int) ≤ ((0 : Nat) : Int))) = false) (hk2 : k2 ≤ xs.length) (c0 : CallOk prog ap 56 [.ptr 0 0 0, .int .i64 5] [dB xs nn k] (.ret (.int .i64 (r0 : Int))) [dB xs nn k1]) (c1 : CallOk prog ap 56 [.ptr 0 0 0, .int .i64 7] [dB xs nn k1] (.ret (.int .i64 (s : Int))) [dB xs nn k2]) (hs : s = 5) {t : Ty} (ht : numT t) : Made t ((lv + 1 : Nat) : Int) (bL (lv + 1)) xs nn k := by
 obtain ⟨r, k3, hr, hk3, cr⟩ := next_ok xs nn k2 3 hl hk2 (by omega) (by omega)
 obtain ⟨w, k4, hk4, w1, w2, w3, w4, cw⟩ := ratio_ok xs nn k3 hl hk3 1 (by omega) (by omega)
 obtain ⟨e0, k5, hk5, t0, m0, b0, d0⟩ := ih t ht.pl k4 hk4
 have h58 := af1t (qN (21 + (r : Int)) w) e0 t0.ne (by omega)
 have hW : wrongQ (qN (21 + (r : Int)) w) = 0 := by exact by_wrong w1 w2 w3 (w4 rfl) (by omega)
 have hA : arI (qN (21 + (r : Int)) w).op = 1 := by rcases ht with rfl | rfl | rfl <;> rcases (show r = 0 ∨ r = 1 ∨ r = 2 by omega) with rfl | rfl | rfl <;> rfl
 have hT : typR sigsQ (qN (21 + (r : Int)) w) [t] = (t, 0) := by rcases ht with rfl | rfl | rfl <;> rcases (show r = 0 ∨ r = 1 ∨ r = 2 by omega) with rfl | rfl | rfl <;> kernel_rfl
 refine mkD (e := e0 ++ [qN (21 + (r : Int)) w]) hk5 (.n1 t0 hW hA hT) (smA1 m0 (q_sm w2 w3)) (by simp [bL]; omega) ?_
 subst hs
 rcases ht with rfl | rfl | rfl <;> rcases (show r = 0 ∨ r = 1 ∨ r = 2 by omega) with rfl | rfl | rfl <;> exact pK [] 9 256 (.k 11 (litF z0) (.c (litF zl) .nil)) (.c h58 (.c d0 (.c cw (.c cr (.c c1 (.v 27 (.eq (wkm hlv)) (.c c0 .nil)))))))
theorem fr0 : CO 90 [.sl (sgL sigsQ) 12 true, .int .i64 24, .str [105, 110, 99, 111, 109, 101]] (.ret (.tup [.agg [.bool false, .int .i64 0, .int .i64 0], .bool false])) := toK (find_ok sigsQ true 24 [105, 110, 99, 111, 109, 101] (by decide)) (by kernel_rfl)
theorem fr1 : CO 90 [.sl (sgL sigsQ) 12 true, .int .i64 24, .str [107, 105, 100, 115]] (.ret (.tup [.agg [.bool false, .int .i64 0, .int .i64 0], .bool false])) := toK (find_ok sigsQ true 24 [107, 105, 100, 115] (by decide)) (by kernel_rfl)
theorem fr2 : CO 90 [.sl (sgL sigsQ) 12 true, .int .i64 24, .str [115, 105, 110, 103, 108, 101]] (.ret (.tup [.agg [.bool false, .int .i64 0, .int .i64 0], .bool false])) := toK (find_ok sigsQ true 24 [115, 105, 110, 103, 108, 101] (by decide)) (by kernel_rfl)
theorem fr3 : CO 90 [.sl (sgL sigsQ) 12 true, .int .i64 24, .str [115, 116, 97, 121]] (.ret (.tup [.agg [.bool false, .int .i64 0, .int .i64 0], .bool false])) := toK (find_ok sigsQ true 24 [115, 116, 97, 121] (by decide)) (by kernel_rfl)
theorem fr4 : CO 90 [.sl (sgL sigsQ) 12 true, .int .i64 24, .str [112, 111, 111, 114]] (.ret (.tup [.agg [.bool false, .int .i64 0, .int .i64 0], .bool false])) := toK (find_ok sigsQ true 24 [112, 111, 111, 114] (by decide)) (by kernel_rfl)
theorem fr5 : CO 90 [.sl (sgL sigsQ) 12 true, .int .i64 24, .str [116, 97, 120]] (.ret (.tup [.agg [.bool false, .int .i64 0, .int .i64 0], .bool false])) := toK (find_ok sigsQ true 24 [116, 97, 120] (by decide)) (by kernel_rfl)
theorem fr6 : CO 90 [.sl (sgL sigsQ) 12 true, .int .i64 24, .str [115, 99, 97, 108, 101]] (.ret (.tup [.agg [.bool false, .int .i64 1, .int .i64 0], .bool true])) := toK (find_ok sigsQ true 24 [115, 99, 97, 108, 101] (by decide)) (by kernel_rfl)
theorem fr7 : CO 90 [.sl (sgL sigsQ) 12 true, .int .i64 24, .str [116, 101, 114, 109]] (.ret (.tup [.agg [.bool false, .int .i64 0, .int .i64 1], .bool true])) := toK (find_ok sigsQ true 24 [116, 101, 114, 109] (by decide)) (by kernel_rfl)
theorem rated_M {xs : List Int} {nn : Bool} {k : Nat} (hl : xs.length < 2 ^ 62) (hk : k ≤ xs.length) : ∃ k2, k2 ≤ xs.length ∧ CallOk prog ap 60 [.sl (sgL sigsQ) 12 true, .ptr 0 0 0, .agg (tyC tM)] [dB xs nn k] (.ret (.tup [.str [115, 99, 97, 108, 101], .bool true])) [dB xs nn k2] := by
 obtain ⟨r, k1, hr, hk1, c0⟩ := next_ok xs nn k 1 hl hk (by omega) (by omega)
 obtain rfl : r = 0 := by omega
 exact ⟨k1, hk1, pK [] 51 262856579813649 (.n 125 .nil) (.c c0 (.c fr7 (.c fr6 (.c fr5 (.c fr4 (.c fr5 (.c fr4 (.c fr5 (.c fr4 (.c fr3 (.c fr2 (.c fr1 (.c fr0 .nil)))))))))))))⟩
theorem rated_D {xs : List Int} {nn : Bool} {k : Nat} (hl : xs.length < 2 ^ 62) (hk : k ≤ xs.length) : ∃ k2, k2 ≤ xs.length ∧ CallOk prog ap 60 [.sl (sgL sigsQ) 12 true, .ptr 0 0 0, .agg (tyC tD)] [dB xs nn k] (.ret (.tup [.str [116, 101, 114, 109], .bool true])) [dB xs nn k2] := by
 obtain ⟨r, k1, hr, hk1, c0⟩ := next_ok xs nn k 1 hl hk (by omega) (by omega)
 obtain rfl : r = 0 := by omega
 exact ⟨k1, hk1, pK [] 51 271652672835857 (.n 125 .nil) (.c c0 (.c fr7 (.c fr6 (.c fr5 (.c fr4 (.c fr5 (.c fr4 (.c fr5 (.c fr4 (.c fr3 (.c fr2 (.c fr1 (.c fr0 .nil)))))))))))))⟩
theorem rated_P {xs : List Int} {nn : Bool} {k : Nat} : CallOk prog ap 60 [.sl (sgL sigsQ) 12 true, .ptr 0 0 0, .agg (tyC tP)] [dB xs nn k] (.ret (.tup [.str [], .bool false])) [dB xs nn k] := pK [] 50 693865137901841 (.n 116 .nil) (.c fr7 (.c fr6 (.c fr5 (.c fr4 (.c fr5 (.c fr4 (.c fr5 (.c fr4 (.c fr3 (.c fr2 (.c fr1 (.c fr0 .nil))))))))))))
theorem mcN6M {xs : List Int} {nn : Bool} {k lv r0 k1 s k2 : Nat} (hl : xs.length < 2 ^ 62) (hlv : lv < 2 ^ 62) (hb : bL lv < 300) (ih : ∀ t, plainT t → ∀ k, k ≤ xs.length → Made t (lv : Int) (bL lv) xs nn k) (z0 : ((r0 : Int) == ((0 : Nat) : Int)) = false) (zl : (decide ((((lv + 1) : Nat) : Int) ≤ ((0 : Nat) : Int))) = false) (hk2 : k2 ≤ xs.length) (c0 : CallOk prog ap 56 [.ptr 0 0 0, .int .i64 5] [dB xs nn k] (.ret (.int .i64 (r0 : Int))) [dB xs nn k1]) (c1 : CallOk prog ap 56 [.ptr 0 0 0, .int .i64 7] [dB xs nn k1] (.ret (.int .i64 (s : Int))) [dB xs nn k2]) (hs : s = 6) : Made tM ((lv + 1 : Nat) : Int) (bL (lv + 1)) xs nn k := by
 obtain ⟨k3, hk3, cr⟩ := rated_M (nn := nn) hl hk2
 obtain ⟨e0, k4, hk4, t0, m0, b0, d0⟩ := ih tM (by simp [plainT]) k3 hk3
 have h58 := af1t ((⟨24, false, [], [], [115, 99, 97, 108, 101]⟩ : Nd)) e0 t0.ne (by omega)
 have hW : wrongQ ((⟨24, false, [], [], [115, 99, 97, 108, 101]⟩ : Nd)) = 0 := by kernel_rfl
 have hA : arI ((⟨24, false, [], [], [115, 99, 97, 108, 101]⟩ : Nd)).op = 1 := by rfl
 have hT : typR sigsQ ((⟨24, false, [], [], [115, 99, 97, 108, 101]⟩ : Nd)) [tM] = (tM, 0) := by kernel_rfl
 refine mkD (e := e0 ++ [(⟨24, false, [], [], [115, 99, 97, 108, 101]⟩ : Nd)]) hk4 (.n1 t0 hW hA hT) (smA1 m0 (⟨by simp, by simp⟩)) (by simp [bL]; omega) ?_
 subst hs
 exact pK [] 10 0 (.k 15 (litF z0) (.c (litF zl) .nil)) (.c h58 (.c d0 (.c cr (.c c1 (.v 27 (.eq (wkm hlv)) (.c c0 .nil))))))
theorem mcN6D {xs : List Int} {nn : Bool} {k lv r0 k1 s k2 : Nat} (hl : xs.length < 2 ^ 62) (hlv : lv < 2 ^ 62) (hb : bL lv < 300) (ih : ∀ t, plainT t → ∀ k, k ≤ xs.length → Made t (lv : Int) (bL lv) xs nn k) (z0 : ((r0 : Int) == ((0 : Nat) : Int)) = false) (zl : (decide ((((lv + 1) : Nat) : Int) ≤ ((0 : Nat) : Int))) = false) (hk2 : k2 ≤ xs.length) (c0 : CallOk prog ap 56 [.ptr 0 0 0, .int .i64 5] [dB xs nn k] (.ret (.int .i64 (r0 : Int))) [dB xs nn k1]) (c1 : CallOk prog ap 56 [.ptr 0 0 0, .int .i64 7] [dB xs nn k1] (.ret (.int .i64 (s : Int))) [dB xs nn k2]) (hs : s = 6) : Made tD ((lv + 1 : Nat) : Int) (bL (lv + 1)) xs nn k := by
 obtain ⟨k3, hk3, cr⟩ := rated_D (nn := nn) hl hk2
 obtain ⟨e0, k4, hk4, t0, m0, b0, d0⟩ := ih tD (by simp [plainT]) k3 hk3
 have h58 := af1t ((⟨24, false, [], [], [116, 101, 114, 109]⟩ : Nd)) e0 t0.ne (by omega)
 have hW : wrongQ ((⟨24, false, [], [], [116, 101, 114, 109]⟩ : Nd)) = 0 := by kernel_rfl
 have hA : arI ((⟨24, false, [], [], [116, 101, 114, 109]⟩ : Nd)).op = 1 := by rfl
 have hT : typR sigsQ ((⟨24, false, [], [], [116, 101, 114, 109]⟩ : Nd)) [tD] = (tD, 0) := by kernel_rfl
 refine mkD (e := e0 ++ [(⟨24, false, [], [], [116, 101, 114, 109]⟩ : Nd)]) hk4 (.n1 t0 hW hA hT) (smA1 m0 (⟨by simp, by simp⟩)) (by simp [bL]; omega) ?_
 subst hs
 exact pK [] 10 0 (.k 15 (litF z0) (.c (litF zl) .nil)) (.c h58 (.c d0 (.c cr (.c c1 (.v 27 (.eq (wkm hlv)) (.c c0 .nil))))))
theorem mcN7 {xs : List Int} {nn : Bool} {k lv r0 k1 s k2 : Nat} (hl : xs.length < 2 ^ 62) (hlv : lv < 2 ^ 62) (hb : bL lv < 300) (ih : ∀ t, plainT t → ∀ k, k ≤ xs.length → Made t (lv : Int) (bL lv) xs nn k) (z0 : ((r0 : Int) == ((0 : Nat) : Int)) = false) (zl : (decide ((((lv + 1) : Nat) : Int) ≤ ((0 : Nat) : Int))) = false) (hk2 : k2 ≤ xs.length) (c0 : CallOk prog ap 56 [.ptr 0 0 0, .int .i64 5] [dB xs nn k] (.ret (.int .i64 (r0 : Int))) [dB xs nn k1]) (c1 : CallOk prog ap 56 [.ptr 0 0 0, .int .i64 7] [dB xs nn k1] (.ret (.int .i64 (s : Int))) [dB xs nn k2]) (hs : s = 6) : Made tP ((lv + 1 : Nat) : Int) (bL (lv + 1)) xs nn k := by
 obtain ⟨e, k3, hk3, h1, h2, h3, cc⟩ := leaf_P xs nn k2 hl hk2
 have cr := rated_P (xs := xs) (nn := nn) (k := k2)
 refine mkD hk3 h1 h2 (by simp [bL]; omega) ?_
 subst hs
 exact pK [] 10 512 (.k 15 (litF z0) (.c (litF zl) .nil)) (.c cc (.c cr (.c c1 (.v 27 (.eq (wkm hlv)) (.c c0 .nil)))))
theorem made_step {t : Ty} (ht : plainT t) {xs : List Int} {nn : Bool} {k lv : Nat} (hl : xs.length < 2 ^ 62) (hk : k ≤ xs.length) (hlv : lv < 2 ^ 62) (hb : bL lv < 300) (ih : ∀ t, plainT t → ∀ k, k ≤ xs.length → Made t (lv : Int) (bL lv) xs nn k) : Made t ((lv + 1 : Nat) : Int) (bL (lv + 1)) xs nn k := by
 have zl : (decide ((((lv + 1) : Nat) : Int) ≤ ((0 : Nat) : Int))) = false := decide_eq_false (by omega)
 obtain ⟨r0, k1, hr0, hk1, c0⟩ := next_ok xs nn k 5 hl hk (by omega) (by omega)
 by_cases hz : r0 = 0
 ·subst hz
  obtain ⟨e, k2, hk2, h1, h2, h3, cc⟩ := leaf_ok ht xs nn k1 hl hk1
  refine mkD hk2 h1 h2 (by simp [bL]; omega) ?_
  rcases ht with rfl | rfl | rfl | rfl
  ·exact pK [] 2 2 (.k 4 (litF zl) .nil) (.c cc (.c c0 .nil))
  ·exact pK [] 2 2 (.k 4 (litF zl) .nil) (.c cc (.c c0 .nil))
  ·exact pK [] 2 2 (.k 4 (litF zl) .nil) (.c cc (.c c0 .nil))
  ·exact pK [] 2 2 (.k 4 (litF zl) .nil) (.c cc (.c c0 .nil))
 ·have z0 : ((r0 : Int) == ((0 : Nat) : Int)) = false := by simp; omega
  have go : ∀ t, numT t → Made t ((lv + 1 : Nat) : Int) (bL (lv + 1)) xs nn k := by
   intro t ht
   obtain ⟨s, k2, hs, hk2, c1⟩ := next_ok xs nn k1 7 hl hk1 (by omega) (by omega)
   rcases (show (s = 0 ∨ s = 1) ∨ s = 2 ∨ s = 3 ∨ s = 4 ∨ s = 5 ∨ s = 6 by omega) with h | h | h | h | h | h
   ·exact mcN0 hl hlv hb ih z0 zl hk2 c0 c1 h ht
   ·exact mcN2 hl hlv hb ih z0 zl hk2 c0 c1 h ht
   ·exact mcN3 hl hlv hb ih z0 zl hk2 c0 c1 h ht
   ·exact mcN4 hl hlv hb ih z0 zl hk2 c0 c1 h ht
   ·exact mcN5 hl hlv hb ih z0 zl hk2 c0 c1 h ht
   ·rcases ht with rfl | rfl | rfl
    ·exact mcN6M hl hlv hb ih z0 zl hk2 c0 c1 h
    ·exact mcN6D hl hlv hb ih z0 zl hk2 c0 c1 h
    ·exact mcN7 hl hlv hb ih z0 zl hk2 c0 c1 h
  rcases ht with rfl | rfl | rfl | rfl
  ·exact go _ (.inl rfl)
  ·exact go _ (.inr (.inl rfl))
  ·exact go _ (.inr (.inr rfl))
  ·obtain ⟨s, k2, hs, hk2, c1⟩ := next_ok xs nn k1 5 hl hk1 (by omega) (by omega)
   rcases (show (s = 0 ∨ s = 1) ∨ s = 2 ∨ s = 3 ∨ s = 4 by omega) with h | h | h | h
   ·exact mcT0 hl hlv hb ih z0 zl hk2 c0 c1 h
   ·exact mcT2 hl hlv hb ih z0 zl hk2 c0 c1 h
   ·exact mcT3 hl hlv hb ih z0 zl hk2 c0 c1 h
   ·exact mcT4 hl hlv hb ih z0 zl hk2 c0 c1 h
theorem made1 {xs : List Int} {nn : Bool} (hl : xs.length < 2 ^ 62) (t : Ty) (ht : plainT t) (k : Nat) (hk : k ≤ xs.length) : Made t ((1 : Nat) : Int) (bL 1) xs nn k :=
 made_step (lv := 0) ht hl hk (by omega) (by decide) fun _ ht k hk => made0 ht xs nn k hl hk
theorem made2 {xs : List Int} {nn : Bool} (hl : xs.length < 2 ^ 62) (t : Ty) (ht : plainT t) (k : Nat) (hk : k ≤ xs.length) : Made t ((2 : Nat) : Int) (bL 2) xs nn k :=
 made_step (lv := 1) ht hl hk (by omega) (by decide) fun t ht k hk => made1 hl t ht k hk
def kindT (t : Ty) : Prop := plainT t ∨ t = ⟨false, 1, -1⟩
theorem Made_ok {t : Ty} (ht : kindT t) (xs : List Int) (nn : Bool) (hl : xs.length < 2 ^ 62) : ∃ e : List Nd, Tm sigsQ e t ∧ (∀ x ∈ e, x.sm) ∧ e.length ≤ 13 ∧ CO 16 [.sl (sgL sigsQ) 12 true, .agg (tyC t), .sl (iL xs) xs.length nn] (.ret (.own (ndL e) e.length 5)) := by
 rcases ht with (rfl | rfl | rfl | rfl) | rfl
 ·obtain ⟨e, k2, hk2, h1, h2, h3, c0⟩ := made2 (nn := nn) hl tM (by simp [plainT]) 0 (by omega)
  have h : CO 16 [.sl (sgL sigsQ) 12 true, .agg (tyC tM), .sl (iL xs) xs.length nn] (.ret (.own (List.take (e.length * 5) (ndL e)) e.length 5)) := pK [] 4 1 (.n 11 .nil) (.c c0 (.c kd6 .nil))
  rw [ndtk] at h
  exact ⟨e, h1, h2, by have : bL 2 = 13 := rfl; omega, h⟩
 ·obtain ⟨e, k2, hk2, h1, h2, h3, c0⟩ := made2 (nn := nn) hl tD (by simp [plainT]) 0 (by omega)
  have h : CO 16 [.sl (sgL sigsQ) 12 true, .agg (tyC tD), .sl (iL xs) xs.length nn] (.ret (.own (List.take (e.length * 5) (ndL e)) e.length 5)) := pK [] 4 3 (.n 14 .nil) (.c c0 (.c kd8 (.c kd6 .nil)))
  rw [ndtk] at h
  exact ⟨e, h1, h2, by have : bL 2 = 13 := rfl; omega, h⟩
 ·obtain ⟨e, k2, hk2, h1, h2, h3, c0⟩ := made2 (nn := nn) hl tP (by simp [plainT]) 0 (by omega)
  have h : CO 16 [.sl (sgL sigsQ) 12 true, .agg (tyC tP), .sl (iL xs) xs.length nn] (.ret (.own (List.take (e.length * 5) (ndL e)) e.length 5)) := pK [] 4 7 (.n 17 .nil) (.c c0 (.c kd10 (.c kd8 (.c kd6 .nil))))
  rw [ndtk] at h
  exact ⟨e, h1, h2, by have : bL 2 = 13 := rfl; omega, h⟩
 ·obtain ⟨e, k2, hk2, h1, h2, h3, c0⟩ := made2 (nn := nn) hl tT (by simp [plainT]) 0 (by omega)
  have h : CO 16 [.sl (sgL sigsQ) 12 true, .agg (tyC tT), .sl (iL xs) xs.length nn] (.ret (.own (List.take (e.length * 5) (ndL e)) e.length 5)) := pK [] 4 0 (.n 8 .nil) (.c c0 .nil)
  rw [ndtk] at h
  exact ⟨e, h1, h2, by have : bL 2 = 13 := rfl; omega, h⟩
 ·obtain ⟨e, k2, hk2, h1, h2, h3, c0⟩ := madeR xs nn 0 hl (by omega)
  have h : CO 16 [.sl (sgL sigsQ) 12 true, .agg (tyC ⟨false, 1, -1⟩), .sl (iL xs) xs.length nn] (.ret (.own (List.take (e.length * 5) (ndL e)) e.length 5)) := pK [] 4 15 (.n 17 .nil) (.c c0 (.c kd10 (.c kd8 (.c kd6 .nil))))
  rw [ndtk] at h
  exact ⟨e, h1, h2, by have : bL 2 = 13 := rfl; omega, h⟩
theorem chk_step {x : Nd} {r : List Nd} {d : Nat} (hw : wrongQ x = 0) (h : arI x.op ≤ d) : chkR (x :: r) d = chkR r (d - arI x.op + 1) := by
 simp only [chkR]
 rw [if_pos hw, if_neg (by omega)]
theorem typ_step {l : List Sg} {x : Nd} {r : List Nd} {k : Nat} {st ws : List Nat} {ts own : List Ty} {t : Ty} (ha : ws.length = arI x.op) (ho : pickT ts ws = own) (ht : typR l x own = (t, 0)) : typsR l (x :: r) k (st ++ ws) ts = typsR l r (k + 1) (st ++ [k]) (ts ++ [t]) := by
 have h1 : (st ++ ws).length - arI x.op = st.length := by rw [List.length_append]; omega
 simp only [typsR, h1, List.drop_left, List.take_left]
 rw [ho, ht]
 simp
theorem pick_at (ts ua rest : List Ty) (ta : Ty) : (ts ++ (ua ++ [ta]) ++ rest).getD (ts.length + ua.length) zT = ta := by
 rw [List.append_assoc, List.append_assoc, List.getD_eq_getElem?_getD, List.getElem?_append_right (by omega), List.getElem?_append_right (by omega)]
 simp
structure Runs (l : List Sg) (e : List Nd) (t : Ty) (u : List Ty) : Prop where
 len : e.length = u.length + 1
 chk : ∀ r d, chkR (e ++ r) d = chkR r (d + 1)
 typ : ∀ r k st ts, ts.length = k → typsR l (e ++ r) k st ts = typsR l r (k + e.length) (st ++ [k + u.length]) (ts ++ (u ++ [t]))
theorem Tm.runs {l : List Sg} {e : List Nd} {t : Ty} (h : Tm l e t) : ∃ u, Runs l e t u := by
 induction h with
 | @n0 x t hw ha ht =>
  refine ⟨[], rfl, fun r d => ?_, fun r k st ts hk => ?_⟩
  ·rw [List.singleton_append, chk_step hw (by omega), ha]; rfl
  ·have := typ_step (l := l) (x := x) (r := r) (k := k) (st := st) (ws := []) (ts := ts) (own := []) (t := t) (by rw [ha]; rfl) rfl ht
   rw [List.append_nil] at this
   simpa using this
 | @n1 x t ta a _ hw ha ht iha =>
  obtain ⟨ua, h1, h2, h3⟩ := iha
  refine ⟨ua ++ [ta], by simp [h1], fun r d => ?_, fun r k st ts hk => ?_⟩
  ·rw [List.append_assoc, h2, List.singleton_append, chk_step hw (by omega), ha]; rfl
  ·have := typ_step (l := l) (x := x) (r := r) (k := k + a.length) (st := st) (ws := [k + ua.length]) (ts := ts ++ (ua ++ [ta])) (own := [ta]) (t := t) (by rw [ha]; rfl) (by
    have := pick_at ts ua [] ta
    rw [List.append_nil, hk] at this
    simp only [pickT, List.map_cons, List.map_nil]
    rw [this]) ht
   rw [List.append_assoc, h3 _ k st ts hk, List.singleton_append, this]
   simp [h1, Nat.add_assoc]
 | @n2 x t ta tb a b _ _ hw ha ht iha ihb =>
  obtain ⟨ua, h1, h2, h3⟩ := iha
  obtain ⟨ub, g1, g2, g3⟩ := ihb
  refine ⟨ua ++ [ta] ++ (ub ++ [tb]), by simp [h1, g1]; omega, fun r d => ?_, fun r k st ts hk => ?_⟩
  ·rw [List.append_assoc, List.append_assoc, h2, g2, List.singleton_append, chk_step hw (by omega), ha]; rfl
  ·have hk2 : (ts ++ (ua ++ [ta])).length = k + a.length := by simp [hk, h1]
   have := typ_step (l := l) (x := x) (r := r) (k := k + a.length + b.length) (st := st) (ws := [k + ua.length, k + a.length + ub.length]) (ts := ts ++ (ua ++ [ta]) ++ (ub ++ [tb])) (own := [ta, tb]) (t := t) (by rw [ha]; rfl) (by
    have p1 := pick_at ts ua (ub ++ [tb]) ta
    have p2 := pick_at (ts ++ (ua ++ [ta])) ub [] tb
    rw [hk] at p1
    rw [List.append_nil, hk2] at p2
    simp only [pickT, List.map_cons, List.map_nil]
    rw [p1, p2]) ht
   rw [List.append_assoc, List.append_assoc, h3 _ k st ts hk, g3 _ _ _ _ hk2, List.singleton_append, List.append_assoc, List.singleton_append, this]
   refine congr (congr (congrArg (typsR l r) ?_) ?_) ?_
   ·simp; omega
   ·congr 2; simp; omega
   ·simp
 | @n3 x t ta tb tc a b c _ _ _ hw ha ht iha ihb ihc =>
  obtain ⟨ua, h1, h2, h3⟩ := iha
  obtain ⟨ub, g1, g2, g3⟩ := ihb
  obtain ⟨uc, f1, f2, f3⟩ := ihc
  refine ⟨ua ++ [ta] ++ (ub ++ [tb]) ++ (uc ++ [tc]), by simp [h1, g1, f1]; omega, fun r d => ?_, fun r k st ts hk => ?_⟩
  ·rw [List.append_assoc, List.append_assoc, List.append_assoc, h2, g2, f2, List.singleton_append, chk_step hw (by omega), ha]; rfl
  ·have hk2 : (ts ++ (ua ++ [ta])).length = k + a.length := by simp [hk, h1]
   have hk3 : (ts ++ (ua ++ [ta]) ++ (ub ++ [tb])).length = k + a.length + b.length := by simp [hk, h1, g1]; omega
   have := typ_step (l := l) (x := x) (r := r) (k := k + a.length + b.length + c.length) (st := st) (ws := [k + ua.length, k + a.length + ub.length, k + a.length + b.length + uc.length]) (ts := ts ++ (ua ++ [ta]) ++ (ub ++ [tb]) ++ (uc ++ [tc])) (own := [ta, tb, tc]) (t := t) (by rw [ha]; rfl) (by
    have p1 := pick_at ts ua ((ub ++ [tb]) ++ (uc ++ [tc])) ta
    have p2 := pick_at (ts ++ (ua ++ [ta])) ub (uc ++ [tc]) tb
    have p3 := pick_at (ts ++ (ua ++ [ta]) ++ (ub ++ [tb])) uc [] tc
    rw [hk, ← List.append_assoc] at p1
    rw [hk2] at p2
    rw [List.append_nil, hk3] at p3
    simp only [pickT, List.map_cons, List.map_nil]
    rw [p1, p2, p3]) ht
   rw [List.append_assoc, List.append_assoc, List.append_assoc, h3 _ k st ts hk, g3 _ _ _ _ hk2, f3 _ _ _ _ hk3, List.singleton_append, List.append_assoc, List.append_assoc, List.singleton_append, List.singleton_append, this]
   refine congr (congr (congrArg (typsR l r) ?_) ?_) ?_
   ·simp; omega
   ·congr 2; simp; omega
   ·simp
theorem Tm.check {l : List Sg} {e : List Nd} {t : Ty} (h : Tm l e t) (he : e.length ≤ 60) : checkQ e = 0 := by
 obtain ⟨u, h1, h2, h3⟩ := h.runs
 have := h2 [] 0
 rw [List.append_nil] at this
 unfold checkQ
 rw [if_neg (by omega), this]
 simp [chkR]
theorem Tm.types {l : List Sg} {e : List Nd} {t : Ty} (h : Tm l e t) (he : e.length ≤ 60) : ∃ u, u.length + 1 = e.length ∧ typesQ l e = .inl (u ++ [t]) := by
 obtain ⟨u, h1, h2, h3⟩ := h.runs
 have := h3 [] 0 [] [] rfl
 rw [List.append_nil] at this
 refine ⟨u, h1.symm, ?_⟩
 unfold typesQ
 rw [if_pos (h.check he), this]
 simp [typsR]
theorem Tm.type {l : List Sg} {e : List Nd} {t : Ty} (h : Tm l e t) (he : e.length ≤ 60) : typeQ l e = (t, 0) := by
 obtain ⟨u, h1, h2⟩ := h.types he
 unfold typeQ
 rw [h2]
 simp
theorem minL_e (k n : Nat) : AV.int .i64 (if (k : Int) < (n : Int) then (k : Int) else (n : Int)) = .int .i64 ((min k n : Nat) : Int) := by
 congr 1
 split <;> omega
theorem sl_take (k : Nat) (x : List Int) (nn : Bool) : AV.sl (List.take ((Int.toNat ((min k x.length : Nat) : Int)) * 1) (iL x)) ((Int.toNat ((min k x.length : Nat) : Int)) - 0) nn = .sl (iL (x.take k)) (x.take k).length nn := by
 rw [c_toNat, Nat.mul_one, Nat.sub_zero, List.length_take]
 congr 1
 unfold iL
 rw [← List.map_take]
 congr 1
 rcases Nat.le_total k x.length with h | h
 ·rw [Nat.min_eq_left h]
 ·rw [Nat.min_eq_right h, List.take_of_length_le (Nat.le_refl _), List.take_of_length_le h]
theorem cut0 (k n : Nat) : decide (((0 : Nat) : Int) ≤ ((min k n : Nat) : Int)) = true := decide_eq_true (by omega)
theorem cut1 (k n : Nat) : decide (((min k n : Nat) : Int) ≤ (n : Int)) = true := decide_eq_true (by omega)
theorem eqT_self (t : Ty) : ((t.tr == t.tr) && ((t.m == t.m) && ((t.d == t.d) && true))) = true := by simp
theorem is_true (l : List Sg) (ns : List Nd) (nl nn : Bool) (t : Ty) (hlg : l.length < 2 ^ 40) (hsm : ∀ x ∈ ns, x.sm) (h : typeQ l ns = (t, 0)) : CO 17 [.sl (sgL l) l.length nl, .sl (ndL ns) ns.length nn, .agg (tyC t)] (.ret (.bool true)) := by
 have c0 := ctype_ok l ns nl nn hlg hsm
 rw [h] at c0
 have h := (pK [] 1 1 (.n 8 .nil) (.c c0 .nil) : CO 17 [.sl (sgL l) l.length nl, .sl (ndL ns) ns.length nn, .agg (tyC t)] (.ret (.bool ((t.tr == t.tr) && ((t.m == t.m) && ((t.d == t.d) && true))))))
 rwa [eqT_self] at h
theorem kind_T (q : Int) : ∃ t, kindT t ∧ CO 15 [.int .i64 q] (.ret (.agg (tyC t))) := by
 obtain ⟨k, hk, h⟩ := kind_ok q
 rcases (show k = 0 ∨ k = 1 ∨ k = 2 ∨ k = 3 ∨ k = 4 by omega) with rfl | rfl | rfl | rfl | rfl
 ·exact ⟨tM, .inl (by simp [plainT]), h⟩
 ·exact ⟨tD, .inl (by simp [plainT]), h⟩
 ·exact ⟨tP, .inl (by simp [plainT]), h⟩
 ·exact ⟨tT, .inl (by simp [plainT]), h⟩
 ·exact ⟨⟨false, 1, -1⟩, .inr rfl, h⟩
theorem cmade_ok (x : List Int) (nn : Bool) (kind : Int) : CO 4 [.sl (iL x) x.length nn, .int .i64 kind] (.ret (.bool true)) := by
 obtain ⟨t, ht, ck⟩ := kind_T kind
 have h80 : (x.take 80).length < 2 ^ 62 := by rw [List.length_take]; omega
 obtain ⟨e, h1, h2, h3, cm⟩ := Made_ok ht (x.take 80) nn h80
 have hi := is_true sigsQ e true true t (by decide) h2 (h1.type (by omega))
 have hs := same_ok sigsQ e true true (by decide) h2
 rw [← ndtk e] at hi hs
 exact pK [] 2 3 (.k 6 (cut0 80 x.length) (.c (cut1 80 x.length) (.n 4 .nil))) (.c hs (.c sigs_ok (.c hi (.c sigs_ok (.c cm (.v 17 (.eq (sl_take 80 x nn)) (.v 16 (.eq (minL_e 80 x.length)) (.c sigs_ok (.c ck (.c sanity_ok .nil))))))))))
theorem in_of {x : List Value} (h : FlatV [.int .i64] x) : ∃ a : Int, x.map avLeaf = [AV.int .i64 a] := by
 rcases h with _ | @⟨_, a, _, _, h⟩ | _ | _
 cases h
 exact ⟨a, rfl⟩
theorem iL_flat (l : List Int) : (l.flatMap fun a => [AV.int .i64 a]) = iL l := by
 induction l with
 | nil => rfl
 | cons a r ih => rw [List.flatMap_cons, ih]; rfl
end Go.Proofs.Tryz
set_option maxRecDepth 100000
open Go AM Go.ChangeShapes Go.WideShapes Go.ChangeAt Go.RowKit
namespace Go.Proofs.Tryz
noncomputable def litsOf (t : TypeId) (d : DataW Unit) : List Lit := ((litCells prog 6 t d 0).getD []).map (·.2)
open Go.Proofs.YtpjkeigmiooooaaGreatDoor
def laidL : List (String × DataW Unit) := [("unicode/utf8.acceptRanges", Rows.laid_unicode_utf8_acceptRanges), ("tithing/expr.table", Rows.laid_tithing_expr_table), ("tithing/check.truth", Rows.laid_tithing_check_truth), ("tithing/check.cash", Rows.laid_tithing_check_cash), ("tithing/check.days", Rows.laid_tithing_check_days), ("tithing/check.plain", Rows.laid_tithing_check_plain), ("unicode/utf8.first", Rows.laid_unicode_utf8_first)]
theorem noHandles : laidL.filter (fun x => x.2.handleName?.isSome) = [] := by kernel_rfl
theorem globW_of {W : World} (h : laidMetH prog laidL W) : GlobW ap W := by
 have c (i : Nat) (n : String) (d : DataW Unit) (hm : laidL[i]? = some (n, d)) (g : Nat) (t : TypeId) (hg : prog.globalNamed n = some g) (ht : (prog.globals[g]?).map (·.type) = some t)
   (hl : litCells prog 6 t d 0 = some ((litsOf t d).zipIdx.map fun (l, i) => (i, l))) := laid_cells h noHandles (List.mem_of_getElem? hm) hg ht hl
 have c0 := c 1 _ _ rfl 0 105 (by kernel_rfl) (by kernel_rfl) (by kernel_rfl)
 have c1 := c 2 _ _ rfl 1 28 (by kernel_rfl) (by kernel_rfl) (by kernel_rfl)
 have c2 := c 3 _ _ rfl 2 28 (by kernel_rfl) (by kernel_rfl) (by kernel_rfl)
 have c3 := c 4 _ _ rfl 3 28 (by kernel_rfl) (by kernel_rfl) (by kernel_rfl)
 have c4 := c 5 _ _ rfl 4 28 (by kernel_rfl) (by kernel_rfl) (by kernel_rfl)
 have c6 := c 0 _ _ rfl 6 184 (by kernel_rfl) (by kernel_rfl) (by kernel_rfl)
 have key (k : Nat) (t : TypeId) (d : DataW Unit) (hx : (ap.gl[k]?).join = some ((litsOf t d).map litAV)) (ho : (litsOf t d).all litOk = true) (hc : ∀ (j : Nat) (l : Lit), (litsOf t d)[j]? = some l → W.cell? ⟨k, j, none⟩ = some (litVal l)) :
   ∀ xs, (ap.gl[k]?).join = some xs → ∃ ls : List Lit, xs = ls.map litAV ∧ ls.all litOk = true ∧ ∀ (j : Nat) (l : Lit), ls[j]? = some l → W.cell? ⟨k, j, none⟩ = some (litVal l) := by
  intro xs hxs
  rw [hx] at hxs
  cases hxs
  exact ⟨_, rfl, ho, hc⟩
 intro k
 match k with
 | 0 => exact key 0 _ _ (by kernel_rfl) (by kernel_rfl) c0
 | 1 => exact key 1 _ _ (by kernel_rfl) (by kernel_rfl) c1
 | 2 => exact key 2 _ _ (by kernel_rfl) (by kernel_rfl) c2
 | 3 => exact key 3 _ _ (by kernel_rfl) (by kernel_rfl) c3
 | 4 => exact key 4 _ _ (by kernel_rfl) (by kernel_rfl) c4
 | 5 => intro xs hxs; exact absurd (show (none : Option (List AV)) = some xs from hxs) (by simp)
 | 6 => exact key 6 _ _ (by kernel_rfl) (by kernel_rfl) c6
 | 7 => intro xs hxs; exact absurd (show (none : Option (List AV)) = some xs from hxs) (by simp)
 | k + 8 =>
  intro xs hxs
  have : ap.gl.length = 8 := by kernel_rfl
  rw [List.getElem?_eq_none (by omega)] at hxs
  cases hxs
theorem own : ownKnob prog.godebug = none := by kernel_rfl
theorem laidOut : laidOutB prog = true := by kernel_rfl
noncomputable def setG (t : TypeId) (d : DataW Unit) : Obj → Obj
 | .cells _ t' fr => .cells ((litsOf t d).map litVal).toArray t' fr
 | o => o
noncomputable def laidWorld (os : Os) : World :=
 let w := World.holding prog os ⟨#[], #[], []⟩
 {w with heap := ((((((w.heap.modify 0 (setG 105 Rows.laid_tithing_expr_table)).modify 1 (setG 28 Rows.laid_tithing_check_truth)).modify 2 (setG 28 Rows.laid_tithing_check_cash)).modify 3 (setG 28 Rows.laid_tithing_check_days)).modify 4 (setG 28 Rows.laid_tithing_check_plain)).modify 5 (setG 181 Rows.laid_unicode_utf8_first)).modify 6 (setG 184 Rows.laid_unicode_utf8_acceptRanges) }
end Go.Proofs.Tryz
set_option maxRecDepth 100000
open Go AM Go.ChangeShapes Go.WideShapes Go.ChangeAt Go.RowKit
namespace Go.Proofs.YtpjkeigmiooooaaGreatDoor.made
open Go.Proofs.Tryz
theorem laid_met (os : Os) : laidMet Tryz.prog Rows.checkMadeRow.laid ((laidWorld os).forCall (fun _ _ => 0) ⟨#[], #[.slice none 0 0, .int .i64 0], []⟩).memory :=
 laidMet_of_run' 8 (by kernel_rfl) (by kernel_rfl)
theorem reads (os : Os) {H : Type} (enc : TypeId × Value → H) : ∃ places, DataW.whole enc Tryz.prog ((laidWorld os).forCall (fun _ _ => 0) ⟨#[], #[.slice none 0 0, .int .i64 0], []⟩).memory Tryz.f4.params.toList Rows.checkMadeSpec.vars false [.slice none 0 0, .int .i64 0] 8 = some ([.nil, .lit (.int .i64 0)], [], places) :=
 ⟨[], by kernel_rfl⟩
theorem contract (H : Type) (enc : TypeId × Value → H) (W : World) (base : Nat) (args : Array Value) (ds gs : List (DataW H)) (before : List MemPlace)
  (hval : ∀ (j : Nat) t v, Tryz.f4.params[j]? = some t → args[j]? = some v → Value.okWide Tryz.prog W .any base t v)
  (hW : DataW.Whole enc Tryz.prog Tryz.f4.params.toList Rows.checkMadeSpec.vars false W args.toList ds gs before) (hL : laidMetH Tryz.prog Rows.checkMadeRow.laid W) :
  Calls Tryz.prog 4 args W fun e W' => ∃ v, e = .returned v ∧ Rows.checkMadeSpec.post enc Tryz.prog Tryz.f4 false true false false W args v W' := by
 have hW' := hW
 obtain ⟨pp, qq, hA0, hV, rfl, hfz, hnd⟩ := hW
 have hA : DataW.TrodAll enc Tryz.prog W 0 (fun _ => true) true Tryz.f4.params.toList args.toList ds pp := hA0
 obtain ⟨al⟩ := args
 simp only at hA hW' hval ⊢
 rw [Tryz.params4] at hA hval
 obtain ⟨v0, vs0, d0, ds0, p0, q0, rfl, rfl, rfl, h0, hA0⟩ := trodAll_cons hA
 obtain ⟨v1, vs1, d1, ds1, p1, q1, rfl, rfl, rfl, h1, hA1⟩ := trodAll_cons hA0
 obtain ⟨rfl, rfl, rfl⟩ := trodAll_nil hA1
 obtain ⟨rfl, rfl⟩ := trodVars_none hV
 obtain ⟨L0, f0, pr0⟩ := open_slF (t := 34) (e := 3) (n := 4) (ks := [.int .i64]) (by kernel_rfl) (by kernel_rfl) (by kernel_rfl) (hval 0 34 v0 rfl rfl) h0
 obtain ⟨x, e0, n0⟩ := flat_list (fun a : Int => [AV.int .i64 a]) (L := L0) (fun x hx => in_of (f0 x hx))
 rw [e0, n0, iL_flat] at pr0
 obtain ⟨kind, rfl⟩ := okWide_int (k := .i64) (by kernel_rfl) (hval 1 3 v1 rfl rfl)
 have hv : PRL (worldS W) [.sl (iL x) x.length false, .int .i64 kind] [v0, .int .i64 kind] := by
  simp only [PRL, and_true]
  exact ⟨pr0, by simp only [PR]⟩
 refine (call_entry (cmade_ok x false kind) (globW_of hL) hv).mono fun e W' ⟨he, hb⟩ => ?_
 subst he
 exact ⟨_, rfl, law_post laidOut (by kernel_rfl) hW' rfl (tb := 4) rfl (by kernel_rfl) rfl hb⟩
theorem lifted (os : Os) (started : os.Started) (H : Type) (enc : TypeId × Value → H) (F : Stop.Interp) :
  ReturnsInHanded {} Tryz.checked os 4 .any ((OpenSpec.ofChange Rows.checkMadeSpec).preRow enc Tryz.prog Tryz.f4 Rows.checkMadeRow.domain false Rows.checkMadeRow.laid) (((OpenSpec.ofChange Rows.checkMadeSpec).at F).post enc Tryz.prog Tryz.f4 false true false false) := by
 obtain ⟨places, hx⟩ := reads os enc
 refine returnsInHanded_of_row (C := Tryz.checked) (s := OpenSpec.ofChange Rows.checkMadeSpec) own started (by kernel_rfl) Tryz.func4
  (witness_row_at (enc := enc) (C := Tryz.checked) false (laidWorld os) #[.slice none 0 0, .int .i64 0] rfl (by kernel_rfl) (by kernel_rfl) (by kernel_rfl)
   (OpenSpec.preRow_of_cond 8 hx (by kernel_rfl) (fun k hk => by cases hk) (by kernel_rfl) (laid_met os))) ?_
 intro W base args ds gs before hval hW _ _ _ hL _ _
 exact contract H enc W base args ds gs before hval hW hL
theorem said : Rows.CheckMadeSaid :=
 OpenClaim.holds_of_cond 4 Tryz.f4 rfl rfl rfl rfl rfl rfl rfl ⟨rfl, rfl, rfl, rfl, rfl⟩ rfl rfl rfl rfl rfl (by kernel_rfl) Tryz.func4 (by kernel_rfl)
  (of_decide_eq_true (by kernel_rfl)) (by unfold Func.isWrapper; first | (rw [if_pos (by decide +kernel)]; kernel_rfl) | (rw [if_neg (by decide +kernel)]; exact ⟨rfl, rfl⟩))
  (fun os started H enc _ F => by rw [OpenClaim.pre_eq_preRow]; exact lifted os started H enc F)
theorem plain (f : FuncId) (fn : Func) (hf : Tryz.pinned.checked.prog.funcNamed Rows.checkMadeRow.func = some f) (hfn : Tryz.pinned.checked.prog.funcs[f]? = some fn) :
  true = Tryz.pinned.checked.prog.looks [] ∧ ∀ (j : Nat) t, fn.params[j]? = some t → Tryz.pinned.checked.prog.wantsStandIn t = false := by
 obtain rfl : f = 4 := Option.some.inj ((show Tryz.prog.funcNamed Rows.checkMadeRow.func = some 4 by kernel_rfl).symm.trans hf) |>.symm
 obtain rfl : fn = Tryz.f4 := (Option.some.inj (Tryz.func4.symm.trans hfn)).symm
 refine ⟨by kernel_rfl, fun j t ht => ?_⟩
 have hall : Tryz.f4.params.toList.all (fun t => !Tryz.prog.wantsStandIn t) = true := by kernel_rfl
 have := List.all_eq_true.1 hall t (by simpa using Array.mem_of_getElem? ht)
 show Tryz.prog.wantsStandIn t = false
 simpa using this
theorem card : Rows.CheckMadeCardSaid :=
 Claim7.holds_tied_plain_at .later [] _ _ _ _ said (fun _ h => by cases h) (by kernel_rfl) (fun _ h => by cases h) checkMade_row_tie rfl ⟨rfl, rfl⟩ (by kernel_rfl) rfl plain (by kernel_rfl)
end Go.Proofs.YtpjkeigmiooooaaGreatDoor.made
