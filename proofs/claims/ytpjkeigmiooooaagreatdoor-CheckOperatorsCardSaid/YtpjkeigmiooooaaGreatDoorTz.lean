/- The tables are those of the program; what the rows' listed variables hold; a world for the witness. No conditions. -/
import Derived.Test.YtpjkeigmiooooaaGreatDoorAp
import Derived.Test.YtpjkeigmiooooaaGreatDoorChecked
import Derived.Eval
import Derived.Test.YtpjkeigmiooooaaGreatDoorAm4
import Derived.Test.YtpjkeigmiooooaaGreatDoorCards
import Derived.Test.YtpjkeigmiooooaaGreatDoorTie
import Derived.Deep.DeepHandedRow

open Go AM
namespace Go.Proofs.Tryz
theorem am_ty : (List.range ap.nty).map ap.ty.get = (List.range ap.nty).map (tiOf Tryz.prog) := by kernel_rfl
noncomputable def amHas (i : Nat) : Bool := match ap.fn.get i with | some _ => true | _ => false
theorem am_fn : (List.range ap.nfn).map (fun i => (ap.fn.get i).map AF.fn) = (List.range ap.nfn).map fun i => match amHas i with | true => Tryz.prog.funcs[i]? | false => none := by kernel_rfl
theorem am_good : (List.range ap.nfn).all (fun i => fnGood (ap.fn.get i)) = true := by kernel_rfl
theorem apOk : ApOk Tryz.prog ap := apOk_of am_ty
theorem fnOk : FnOk Tryz.prog ap := fnOk_of am_fn am_good
theorem mixed : Tryz.prog.follows .mixedOrders = true := Tryz.checked.mixed
end Go.Proofs.Tryz

namespace Go.Proofs.Tryz
open Go AM
theorem good : GoodP Tryz.prog ap := ⟨apOk, mixed, fnOk⟩
/-- A call that shares nothing. -/
abbrev CO (f : Nat) (args : List AV) (out : Out) : Prop := CallOk Tryz.prog ap f args [] out []
end Go.Proofs.Tryz

set_option maxRecDepth 100000
open Go AM Go.ChangeShapes Go.WideShapes Go.ChangeAt Go.RowKit
namespace Go.Proofs.Tryz

noncomputable def litsOf (t : TypeId) (d : DataW Unit) : List Lit := ((litCells Tryz.prog 6 t d 0).getD []).map (·.2)
open Go.Proofs.YtpjkeigmiooooaaGreatDoor

/-- The list of the rows. -/
def laidL : List (String × DataW Unit) := [("unicode/utf8.acceptRanges", Rows.laid_unicode_utf8_acceptRanges), ("tithing/expr.table", Rows.laid_tithing_expr_table), ("tithing/check.truth", Rows.laid_tithing_check_truth), ("tithing/check.cash", Rows.laid_tithing_check_cash), ("tithing/check.days", Rows.laid_tithing_check_days), ("tithing/check.plain", Rows.laid_tithing_check_plain), ("unicode/utf8.first", Rows.laid_unicode_utf8_first)]

theorem noHandles : laidL.filter (fun x => x.2.handleName?.isSome) = [] := by kernel_rfl

theorem globW_of {W : World} (h : laidMetH Tryz.prog laidL W) : GlobW ap W := by
  have c (i : Nat) (n : String) (d : DataW Unit) (hm : laidL[i]? = some (n, d)) (g : Nat) (t : TypeId) (hg : Tryz.prog.globalNamed n = some g) (ht : (Tryz.prog.globals[g]?).map (·.type) = some t)
      (hl : litCells Tryz.prog 6 t d 0 = some ((litsOf t d).zipIdx.map fun (l, i) => (i, l))) := laid_cells h noHandles (List.mem_of_getElem? hm) hg ht hl
  have c0 := c 1 _ _ rfl 0 105 (by kernel_rfl) (by kernel_rfl) (by kernel_rfl)
  have c1 := c 2 _ _ rfl 1 28 (by kernel_rfl) (by kernel_rfl) (by kernel_rfl)
  have c2 := c 3 _ _ rfl 2 28 (by kernel_rfl) (by kernel_rfl) (by kernel_rfl)
  have c3 := c 4 _ _ rfl 3 28 (by kernel_rfl) (by kernel_rfl) (by kernel_rfl)
  have c4 := c 5 _ _ rfl 4 28 (by kernel_rfl) (by kernel_rfl) (by kernel_rfl)
  have c6 := c 0 _ _ rfl 6 184 (by kernel_rfl) (by kernel_rfl) (by kernel_rfl)
  have key (k : Nat) (t : TypeId) (d : DataW Unit) (hx : (ap.gl[k]?).join = some ((litsOf t d).map litAV)) (ho : (litsOf t d).all litOk = true) (hc : ∀ (j : Nat) (l : Lit), (litsOf t d)[j]? = some l → W.cell? ⟨k, j, none⟩ = some (litVal l)) :
      ∀ xs, (ap.gl[k]?).join = some xs → ∃ ls : List Lit, xs = ls.map litAV ∧ ls.all litOk = true ∧ ∀ (j : Nat) (l : Lit), ls[j]? = some l → W.cell? ⟨k, j, none⟩ = some (litVal l) := by
    intro xs hxs
    rw [hx] at hxs
    cases hxs
    exact ⟨_, rfl, ho, hc⟩
  intro k
  match k with
  | 0 => exact key 0 _ _ (by kernel_rfl) (by kernel_rfl) c0
  | 1 => exact key 1 _ _ (by kernel_rfl) (by kernel_rfl) c1
  | 2 => exact key 2 _ _ (by kernel_rfl) (by kernel_rfl) c2
  | 3 => exact key 3 _ _ (by kernel_rfl) (by kernel_rfl) c3
  | 4 => exact key 4 _ _ (by kernel_rfl) (by kernel_rfl) c4
  | 5 => intro xs hxs; exact absurd (show (none : Option (List AV)) = some xs from hxs) (by simp)
  | 6 => exact key 6 _ _ (by kernel_rfl) (by kernel_rfl) c6
  | 7 => intro xs hxs; exact absurd (show (none : Option (List AV)) = some xs from hxs) (by simp)
  | k + 8 =>
    intro xs hxs
    have : ap.gl.length = 8 := by kernel_rfl
    rw [List.getElem?_eq_none (by omega)] at hxs
    cases hxs

theorem own : ownKnob Tryz.prog.godebug = none := by kernel_rfl
theorem laidOut : laidOutB Tryz.prog = true := by kernel_rfl

/-- A variable's cells. -/
noncomputable def setG (t : TypeId) (d : DataW Unit) : Obj → Obj
  | .cells _ t' fr => .cells ((litsOf t d).map litVal).toArray t' fr
  | o => o
/-- A world for the witness: the settled one, the listed variables holding what they are listed with. -/
noncomputable def laidWorld (os : Os) : World :=
  let w := World.holding Tryz.prog os ⟨#[], #[], []⟩
  { w with heap := ((((((w.heap.modify 0 (setG 105 Rows.laid_tithing_expr_table)).modify 1 (setG 28 Rows.laid_tithing_check_truth)).modify 2 (setG 28 Rows.laid_tithing_check_cash)).modify 3 (setG 28 Rows.laid_tithing_check_days)).modify 4 (setG 28 Rows.laid_tithing_check_plain)).modify 5 (setG 181 Rows.laid_unicode_utf8_first)).modify 6 (setG 184 Rows.laid_unicode_utf8_acceptRanges) }

end Go.Proofs.Tryz
