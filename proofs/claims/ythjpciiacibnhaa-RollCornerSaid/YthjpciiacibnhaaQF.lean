/-
  Plain laws: letters, flat dims, squares.
-/
import Derived.Test.YthjpciiacibnhaaMF
import Derived.Test.YthjpciiacibnhaaQO
namespace Ab
open Go
set_option linter.unusedVariables false
set_option linter.unusedSimpArgs false

def lettersB (i : Nat) : ByteArray := ⟨#[UInt8.ofNat (97 + i / 26 % 26), UInt8.ofNat (97 + i % 26)]⟩
theorem letters_some : ∀ i : Nat, i < 101 → (match P68 (i : Int) with | some b => decide (b = lettersB i) | none => false) = true := by decide +kernel
theorem P68_eq (i : Nat) (h : i < 101) : P68 (i : Int) = some (lettersB i) := by
  have := letters_some i h
  split at this
  · rename_i b hb; rw [hb]; simpa using this
  · cases this
def flatM (i : Nat) : Member := ⟨lettersB i, 0, 1, ⟨#[]⟩⟩
def flatD (name : ByteArray) (n : Nat) : Dim := ⟨name, 0, ⟨⟨#[97, 108, 108]⟩, -1, 0, ⟨#[]⟩⟩ :: (List.range n).map flatM⟩
theorem P50_eq (name : ByteArray) (n : Nat) (h : n ≤ 100) : P50 name (n : Int) = some (flatD name n) := by
  have hs := seq_loop (B := S50_L1 P68 (n : Int)) (fun i => ((i : Int), (name, (0 : Int), (flatD name i).members))) n (fun i hi => by
    have e : ((i : Nat) : Int) < ((n : Nat) : Int) := by omega
    have hr : (flatD name i).members.length + 1 ≤ roomA := by simp [flatD]; unfold roomA; omega
    have em : (flatD name (i + 1)).members = (flatD name i).members ++ [flatM i] := by
      simp [flatD, List.range_succ]
    simp only [S50_L1, e, decide_true, br_true, P68_eq i (by omega), bno_s, List.length_singleton, ck_pos hr, nxO_s, em]
    rw [wiid (by omega) (by omega)]
    rfl)
  have hs : lpO (S50_L1 P68 (n : Int)) (0, (name, 0, [⟨⟨#[97, 108, 108]⟩, -1, 0, ⟨#[]⟩⟩])) = some (.inl ((n : Int), (name, 0, (flatD name n).members))) := hs.trans (lpO_dn (by simp [S50_L1]))
  simp only [P50, S50, lp_eq, hs, jn_l]
  rfl
def squareO (n : Nat) : List Dim := [flatD ⟨#[120]⟩ n, flatD ⟨#[121]⟩ n]
theorem P22_eq (n : Nat) (h : n ≤ 100) : P22 (n : Int) = some (squareO n) := by
  simp only [P22, S22, P50_eq _ n h, bno_s]; rfl
end Ab
