/-
  Functions of the program as typed code, what they come to, and their contracts: written by program (mk.py).
-/
import Derived.Test.YtcabflannjeigaaGreatDoorB2
import Derived.KernelRfl
import Derived.Test.YtcabflannjeigaaGreatDoorMCl
import Derived.Test.YtcabflannjeigaaGreatDoorMI
import Derived.Test.YtcabflannjeigaaGreatDoorC2
import Derived.Test.YtcabflannjeigaaGreatDoorMSl
namespace Ab
open Go
set_option linter.unusedVariables false
set_option maxRecDepth 100000

/- tallyhall/input.Own -/
noncomputable def S72_L1 (F76s : (List Int) → (Option (List Int))) (y1 : (List Entry)) (x2 : (Int × (List Entry))) : Option (LR (Int × (List Entry)) (List Entry)) :=
  br (decide (x2.1 < ((List.length y1 : Nat) : Int)))
  (ck (decide (0 ≤ x2.1 ∧ x2.1 < ((List.length x2.2 : Nat) : Int))) <|
  bno ((x2.2)[(Int.toNat x2.1)]?) fun y3 =>
  bno (F76s (Entry.at_ y3)) fun y4 =>
  ck (decide (0 ≤ x2.1 ∧ x2.1 < ((List.length x2.2 : Nat) : Int))) <|
  bno ((x2.2)[(Int.toNat x2.1)]?) fun y5 =>
  nxO (some (wi (x2.1 + (1 : Int)), List.set x2.2 (Int.toNat x2.1) (Entry.mk y4 (Entry.n y5)))))
  (dnO (some (x2.1, x2.2)))
noncomputable def S72 (F76s : (List Int) → (Option (List Int))) (F79 : (List Entry) → (Option (List Entry))) (a0 : (List Entry)) : Option (List Entry) :=
  bno (F79 a0) fun y1 =>
  lp (S72_L1 F76s y1) ((0 : Int), y1) fun x6 =>
  some x6.2
noncomputable def P72 (a0 : (List Entry)) : Option (List Entry) := S72 P76s P79 a0
/- tallyhall/input.do -/
noncomputable def S71 (F58 : (List Dim) → (List Int) → (Option Err)) (F59 : (List Dim) → (List Int) → (Option Bool)) (F60 : Int → (Option Bool)) (F73 : (List Entry) → (List Int) → (Option (Int × Bool))) (F76s : (List Int) → (Option (List Int))) (F77 : (List Entry) → Int → Int → (Option (List Entry))) (F78 : (List Entry) → Int → (List Entry) → (Option (List Entry))) (a0 : (List Dim)) (a1 : (List Entry)) (a2 : Edit) : Option ((List Entry) × Err) :=
  bno (F58 a0 (Edit.at_ a2)) fun y1 =>
  br (!(Err.isNil y1))
  (some (([] : List Entry), y1))
  (bno (F73 a1 (Edit.at_ a2)) fun y2 =>
  jn (σ := Bool) (α := ((List Entry) × Err)) (br (Edit.clear a2)
  (inlO (some (!y2.2)))
  (inlO (some false))) fun x3 =>
  br x3
  (some (([] : List Entry), Err.no (5 : Int)))
  (br (Edit.clear a2)
  (bno (F77 a1 y2.1 (wi (y2.1 + (1 : Int)))) fun y4 =>
  some (y4, Err.nil))
  (bno (F59 a0 (Edit.at_ a2)) fun y5 =>
  br (!y5)
  (some (([] : List Entry), Err.no (6 : Int)))
  (bno (F60 (Edit.n a2)) fun y6 =>
  br (!y6)
  (some (([] : List Entry), Err.no (1 : Int)))
  (br y2.2
  (ck (decide (0 ≤ y2.1 ∧ y2.1 < ((List.length a1 : Nat) : Int))) <|
  bno ((a1)[(Int.toNat y2.1)]?) fun y7 =>
  some (List.set a1 (Int.toNat y2.1) (Entry.mk (Entry.at_ y7) (Edit.n a2)), Err.nil))
  (bno (F76s (Edit.at_ a2)) fun y8 =>
  bno (F78 a1 y2.1 ([Entry.mk y8 (Edit.n a2)] : List Entry)) fun y9 =>
  some (y9, Err.nil)))))))
noncomputable def P71 (a0 : (List Dim)) (a1 : (List Entry)) (a2 : Edit) : Option ((List Entry) × Err) := S71 P58 P59 P60 P73 P76s P77 P78 a0 a1 a2
/- tallyhall/input.one -/
noncomputable def S55 (F27 : (List Dim) → (List Entry) → (Option Err)) (F71 : (List Dim) → (List Entry) → Edit → (Option ((List Entry) × Err))) (F72 : (List Entry) → (Option (List Entry))) (a0 : (List Dim)) (a1 : (List Entry)) (a2 : Edit) : Option ((List Entry) × Err) :=
  bno (F27 a0 a1) fun y1 =>
  br (!(Err.isNil y1))
  (some (([] : List Entry), y1))
  (bno (F72 a1) fun y2 =>
  bno (F71 a0 y2 a2) fun y3 =>
  some (y3.1, y3.2))
noncomputable def P55 (a0 : (List Dim)) (a1 : (List Entry)) (a2 : Edit) : Option ((List Entry) × Err) := S55 P27 P71 P72 a0 a1 a2
/- tallyhall/input.Set -/
noncomputable def S25 (F55 : (List Dim) → (List Entry) → Edit → (Option ((List Entry) × Err))) (a0 : (List Dim)) (a1 : (List Entry)) (a2 : (List Int)) (a3 : Int) : Option ((List Entry) × Err) :=
  bno (F55 a0 a1 (Edit.mk a2 a3 false)) fun y1 =>
  some (y1.1, y1.2)
noncomputable def P25 (a0 : (List Dim)) (a1 : (List Entry)) (a2 : (List Int)) (a3 : Int) : Option ((List Entry) × Err) := S25 P55 a0 a1 a2 a3
noncomputable def k25 : CSpec := ⟨25, [(.st .outl), (.sl .entry), (.sl .int), .int], (.tp [(.sl .entry), .err]), fun x => P25 x.1 x.2.1 x.2.2.1 x.2.2.2, false, []⟩
/- tallyhall/input.Clear -/
end Ab
