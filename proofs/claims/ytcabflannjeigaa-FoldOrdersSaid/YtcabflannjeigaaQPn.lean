/-
  Plain laws: the document's number of a place.
-/
import Derived.Test.YtcabflannjeigaaC3
import Derived.Test.YtcabflannjeigaaC4
namespace Ab
open Go
set_option linter.unusedVariables false

theorem P140_eq {o : List Dim} {p : List Int} (ok : OutOk o) (hf : Fit o p) : P140 o p = some ((numN o p : Nat) : Int) := by
  have hlen := ok.len
  have hpl := hf.len
  have hsame : S140_L1 o p = S49_L1 o p := by
    funext x
    simp only [S140_L1, S49_L1]
    cases lookI o x.2 <;> cases lookI p x.2 <;> rfl
  have h := P49_eq hf.len (by omega : p.length ≤ 9223372036854775807)
  rw [numW_eq ok hf] at h
  rw [← h]
  simp only [P140, S140, P49, S49, hsame]
end Ab
