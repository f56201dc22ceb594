/-
  From the condition of a row of this seat to what the tables and errors of strconv and the type of errors hold; and a world that meets the condition.
-/
import Derived.Test.YtcabflannjeigaaGreatDoorMZi
import Derived.Test.YtcabflannjeigaaGreatDoorMYz
import Derived.LaidHandle
namespace Go.Proofs.YtcabflannjeigaaGreatDoorTold
open Go.ChangeShapes Go.WideShapes Go.RowKit Go.Proofs.YtcabflannjeigaaGreatDoor
def laidL : List (String × DataW Unit) := [("math/bits.deBruijn32tab", Rows.laid_math_bits_deBruijn32tab), ("math/bits.deBruijn64tab", Rows.laid_math_bits_deBruijn64tab), ("internal/strconv.uint64pow10", Rows.laid_internal_strconv_uint64pow10), ("errors.errorType", Rows.laid_errors_errorType), ("strconv.ErrRange", Rows.laid_strconv_ErrRange), ("strconv.ErrSyntax", Rows.laid_strconv_ErrSyntax)]
theorem own : ownKnob Tryz.prog.godebug = none := by kernel_rfl
theorem laidOut : laidOutB Tryz.prog = true := by kernel_rfl
theorem et : Tryz.prog.globalNamed "errors.errorType" = some 0 := by kernel_rfl
theorem rt : (Tryz.prog.cutTypes.find? (·.1 == "internal/reflectlite.rtype")).map (·.2) = some 171 := by kernel_rfl
theorem oneRow : ((List.range 262).filter fun t => Tryz.prog.rowNamed t [101, 114, 114, 111, 114]) = [31] := by kernel_rfl
theorem tsize : Tryz.prog.types.size = 262 := by kernel_rfl
theorem parts {W : World} (h : laidMetH Tryz.prog laidL W) : laidMet Tryz.prog YtcabflannjeigaaGreatDoorStr.laidL W ∧ handlesMet Tryz.prog [("errors.errorType", Rows.laid_errors_errorType)] W := h
theorem hold_of_laid {W : World} (h : laidMetH Tryz.prog laidL W) : TryzStr.hold W := YtcabflannjeigaaGreatDoorStr.hold_of_laid (parts h).1
/-- What the condition gives: the variable's one cell. -/
theorem handle_of_laid {W : World} (h : laidMetH Tryz.prog laidL W) : W.cell? ⟨0, 0, none⟩ = some Tryztold.handle := by
  obtain ⟨name, u, ty, e1, e2, e3, e4, e5⟩ := (parts h).2 _ (List.mem_singleton.2 rfl)
  have en : name = [101, 114, 114, 111, 114] := (Option.some.inj e1).symm
  subst en
  obtain rfl := Option.some.inj (rt.symm.trans e2)
  have hm : ty ∈ (List.range 262).filter fun t => Tryz.prog.rowNamed t [101, 114, 114, 111, 114] := List.mem_filter.2 ⟨List.mem_range.2 (by rw [← tsize]; exact e3), e4⟩
  rw [oneRow] at hm
  obtain rfl := List.mem_singleton.1 hm
  have hh : typeHandle Tryz.prog 31 = .pointer (some ⟨7, 31, none⟩) := by kernel_rfl
  rw [hh] at e5
  have := World.var?_cell et e5 0
  simpa [Tryztold.handle] using this
noncomputable def laidWorld (os : Os) : World := YtcabflannjeigaaGreatDoorStr.laidWorld os
theorem laidWorld_met (os : Os) (args : Array Value) : laidMetH Tryz.prog laidL ((laidWorld os).forCall (fun _ _ => 0) ⟨#[], args, []⟩).memory :=
  laidMetH_of_parts (YtcabflannjeigaaGreatDoorStr.laid_met os args) (by kernel_rfl)
end Go.Proofs.YtcabflannjeigaaGreatDoorTold
