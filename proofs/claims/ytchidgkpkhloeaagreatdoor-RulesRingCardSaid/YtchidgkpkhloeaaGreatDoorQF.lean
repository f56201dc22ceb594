/-
  Plain laws: letters, flat dims, squares.
-/
import Derived.Test.YtchidgkpkhloeaaGreatDoorMF
import Derived.Test.YtchidgkpkhloeaaGreatDoorQO
namespace Ab
open Go
set_option linter.unusedVariables false
set_option linter.unusedSimpArgs false
def lettersB (i : Nat) : ByteArray := ⟨#[UInt8.ofNat (97 + i / 26 % 26), UInt8.ofNat (97 + i % 26)]⟩
theorem letters_some : ∀ i : Nat, i < 101 → (match P68 (i : Int) with | some b => decide (b = lettersB i) | none => false) = true := by decide +kernel
theorem P68_eq (i : Nat) (h : i < 101) : P68 (i : Int) = some (lettersB i) := by
  have := letters_some i h
  split at this
  · rename_i b hb; rw [hb]; simpa using this
  · cases this
end Ab
