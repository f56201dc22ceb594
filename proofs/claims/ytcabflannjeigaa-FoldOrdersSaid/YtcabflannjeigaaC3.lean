import Derived.Test.YtcabflannjeigaaB2
import Derived.KernelRfl
import Derived.Test.YtcabflannjeigaaC1
section
namespace Ab
open Go
set_option linter.unusedVariables false
set_option maxRecDepth 100000

/- tallyhall/tallyref1.Size -/
/- tallyhall/tallyref1.Where -/
/- tallyhall/tallyref1.Name -/
/- tallyhall/tallyref1.Dim -/
/- tallyhall/tallyref1.Outline -/
/- tallyhall/tallyref1.Parts -/
noncomputable def S100_L1 (a0 : Dim) (a1 : Int) (x1 : ((List Int) × Int)) : Option (LR ((List Int) × Int) (List Int)) :=
  br (decide (x1.2 < ((List.length (Dim.members a0) : Nat) : Int)))
  (bno (lookI (Dim.members a0) x1.2) fun y2 =>
  jn (σ := (List Int)) (α := (LR ((List Int) × Int) (List Int))) (br (decide ((Member.parent y2) = a1))
  (ck (decide (List.length x1.1 + List.length ([x1.2] : List Int) ≤ roomA)) <|
  inlO (some (x1.1 ++ ([x1.2] : List Int))))
  (inlO (some x1.1))) fun x3 =>
  nxO (some (x3, wi (x1.2 + (1 : Int)))))
  (dnO (some (x1.1, x1.2)))
noncomputable def S100 (a0 : Dim) (a1 : Int) : Option (List Int) :=
  lp (S100_L1 a0 a1) (([] : List Int), (0 : Int)) fun x4 =>
  some x4.1
noncomputable def P100 (a0 : Dim) (a1 : Int) : Option (List Int) := S100 a0 a1
/- tallyhall/tallyref1.Leaf -/
/- tallyhall/tallyref1.Weight -/
/- tallyhall/tallyref1.Leafs -/
end Ab
end

section
namespace Ab
open Go
set_option linter.unusedVariables false
set_option maxRecDepth 100000

/- tallyhall/tallyref1.Place -/
/- tallyhall/tallyref1.Right -/
/- tallyhall/tallyref1.LeafPlace -/
/- tallyhall/tallyref1.Less -/
/- tallyhall/tallyref1.Entries -/
/- tallyhall/tallyref1.PlaceWeight -/
/- tallyhall/tallyref1.Number -/
noncomputable def S140_L1 (a0 : (List Dim)) (a1 : (List Int)) (x1 : (Int × Int)) : Option (LR (Int × Int) Int) :=
  br (decide (x1.2 < ((List.length a1 : Nat) : Int)))
  (bno (lookI a0 x1.2) fun y2 =>
  bno (lookI a1 x1.2) fun y3 =>
  nxO (some (wi ((wi (x1.1 * ((List.length (Dim.members y2) : Nat) : Int))) + y3), wi (x1.2 + (1 : Int)))))
  (dnO (some (x1.1, x1.2)))
noncomputable def S140 (a0 : (List Dim)) (a1 : (List Int)) : Option Int :=
  lp (S140_L1 a0 a1) ((0 : Int), (0 : Int)) fun x4 =>
  some x4.1
noncomputable def P140 (a0 : (List Dim)) (a1 : (List Int)) : Option Int := S140 a0 a1
/- tallyhall/tallyref1.At -/
noncomputable def S142_L1 (a0 : (List Dim)) (x1 : (Int × Int × (List Int))) : Option (LR (Int × Int × (List Int)) (List Int)) :=
  br (decide ((0 : Int) ≤ x1.2.1))
  (bno (lookI a0 x1.2.1) fun y2 =>
  ck (decide (¬ ((List.length (Dim.members y2) : Nat) : Int) = 0)) <|
  ck (decide (0 ≤ x1.2.1 ∧ x1.2.1 < ((List.length x1.2.2 : Nat) : Int))) <|
  bno ((x1.2.2)[(Int.toNat x1.2.1)]?) fun y3 =>
  ck (decide (¬ ((List.length (Dim.members y2) : Nat) : Int) = 0)) <|
  nxO (some (wi (Int.tdiv x1.1 ((List.length (Dim.members y2) : Nat) : Int)), wi (x1.2.1 - (1 : Int)), List.set x1.2.2 (Int.toNat x1.2.1) (Int.tmod x1.1 ((List.length (Dim.members y2) : Nat) : Int)))))
  (dnO (some (x1.1, x1.2.1, x1.2.2)))
noncomputable def S142 (a0 : (List Dim)) (a1 : Int) : Option (List Int) :=
  ck (decide (0 ≤ ((List.length a0 : Nat) : Int) ∧ ((List.length a0 : Nat) : Int) ≤ ((List.length a0 : Nat) : Int) ∧ ((List.length a0 : Nat) : Int) ≤ roomA)) <|
  lp (S142_L1 a0) (a1, wi (((List.length a0 : Nat) : Int) - (1 : Int)), List.replicate (Int.toNat ((List.length a0 : Nat) : Int)) (0 : Int)) fun x4 =>
  some x4.2.2
noncomputable def P142 (a0 : (List Dim)) (a1 : Int) : Option (List Int) := S142 a0 a1
/- tallyhall/tallyref1.Roll -/
/- tallyhall/tallyref1.RollLeafs -/
end Ab
end

section
namespace Ab
open Go
set_option linter.unusedVariables false
set_option maxRecDepth 100000

/- tallyhall/tallyref1.Find -/
/- tallyhall/tallyref1.Input -/
/- tallyhall/tallyref1.Edit -/
/- tallyhall/tallysame.Entries -/
/- tallyhall/tallyref1.Edits -/
end Ab
end
