/-
  Functions of the program as typed code, what they come to, and their contracts: written by program (mk.py).
-/
import Derived.Test.YtchidgkpkhloeaaGreatDoorB2
import Derived.KernelRfl
import Derived.Test.YtchidgkpkhloeaaGreatDoorC3
import Derived.Test.YtchidgkpkhloeaaGreatDoorMRc
namespace Ab
open Go
set_option linter.unusedVariables false
set_option maxRecDepth 100000
noncomputable def S240_L1 (F97 : ByteArray → (Option Int)) (a0 : (List Node)) (x1 : (Int × (List Int))) : Option (LR (Int × (List Int)) Int) :=
  br (decide (x1.1 < ((List.length a0 : Nat) : Int)))
  (jn (σ := (List Int)) (α := (LR (Int × (List Int)) Int)) (bno (lookI a0 x1.1) fun y2 =>
  jn (σ := Bool) (α := (Sum (List Int) (LR (Int × (List Int)) Int))) (br (decide ((Node.op y2) < (1 : Int)))
  (inlO (some true))
  (inlO (some (decide ((6 : Int) < (Node.op y2)))))) fun x3 =>
  br x3
  (inrO (finO (some (1 : Int))))
  (br (decide ((Node.op y2) = (1 : Int)))
  (jn (σ := Bool) (α := (Sum (List Int) (LR (Int × (List Int)) Int))) (br (decide ((Node.n y2) < (0 : Int)))
  (inlO (some true))
  (inlO (some (decide ((1000000 : Int) < (Node.n y2)))))) fun x4 =>
  br x4
  (inrO (finO (some (1 : Int))))
  (jn (σ := Bool) (α := (Sum (List Int) (LR (Int × (List Int)) Int))) (br (decide (¬ (Node.name y2) = (⟨#[]⟩ : ByteArray)))
  (inlO (some true))
  (br (decide (¬ (Node.left y2) = (0 : Int)))
  (inlO (some true))
  (inlO (some (decide (¬ (Node.right y2) = (0 : Int))))))) fun x5 =>
  br x5
  (inrO (finO (some (3 : Int))))
  (inlO (some x1.2))))
  (br (decide ((Node.op y2) = (2 : Int)))
  (bno (F97 (Node.name y2)) fun y6 =>
  br (decide (¬ y6 = (0 : Int)))
  (inrO (finO (some (2 : Int))))
  (jn (σ := Bool) (α := (Sum (List Int) (LR (Int × (List Int)) Int))) (br (decide (¬ (Node.n y2) = (0 : Int)))
  (inlO (some true))
  (br (decide (¬ (Node.left y2) = (0 : Int)))
  (inlO (some true))
  (inlO (some (decide (¬ (Node.right y2) = (0 : Int))))))) fun x7 =>
  br x7
  (inrO (finO (some (3 : Int))))
  (inlO (some x1.2))))
  (jn (σ := Bool) (α := (Sum (List Int) (LR (Int × (List Int)) Int))) (br (decide ((Node.left y2) < (0 : Int)))
  (inlO (some true))
  (br (decide (x1.1 ≤ (Node.left y2)))
  (inlO (some true))
  (br (decide ((Node.right y2) < (0 : Int)))
  (inlO (some true))
  (inlO (some (decide (x1.1 ≤ (Node.right y2)))))))) fun x8 =>
  br x8
  (inrO (finO (some (1 : Int))))
  (jn (σ := Bool) (α := (Sum (List Int) (LR (Int × (List Int)) Int))) (br (decide (¬ (Node.n y2) = (0 : Int)))
  (inlO (some true))
  (inlO (some (decide (¬ (Node.name y2) = (⟨#[]⟩ : ByteArray)))))) fun x9 =>
  br x9
  (inrO (finO (some (3 : Int))))
  (ck (decide (0 ≤ Node.left y2 ∧ Node.left y2 < ((List.length x1.2 : Nat) : Int))) <|
  bno ((x1.2)[(Int.toNat (Node.left y2))]?) fun y10 =>
  ck (decide (0 ≤ Node.left y2 ∧ Node.left y2 < ((List.length x1.2 : Nat) : Int))) <|
  bno ((x1.2)[(Int.toNat (Node.left y2))]?) fun y11 =>
  ck (decide (0 ≤ Node.right y2 ∧ Node.right y2 < ((List.length (List.set x1.2 (Int.toNat (Node.left y2)) (wi (y10 + (1 : Int)))) : Nat) : Int))) <|
  bno ((List.set x1.2 (Int.toNat (Node.left y2)) (wi (y10 + (1 : Int))))[(Int.toNat (Node.right y2))]?) fun y12 =>
  ck (decide (0 ≤ Node.right y2 ∧ Node.right y2 < ((List.length (List.set x1.2 (Int.toNat (Node.left y2)) (wi (y10 + (1 : Int)))) : Nat) : Int))) <|
  bno ((List.set x1.2 (Int.toNat (Node.left y2)) (wi (y10 + (1 : Int))))[(Int.toNat (Node.right y2))]?) fun y13 =>
  inlO (some (List.set (List.set x1.2 (Int.toNat (Node.left y2)) (wi (y10 + (1 : Int)))) (Int.toNat (Node.right y2)) (wi (y12 + (1 : Int))))))))))) fun x14 =>
  nxO (some (wi (x1.1 + (1 : Int)), x14)))
  (dnO (some (x1.1, x1.2)))
noncomputable def S240_L2 (a0 : (List Node)) (x15 : (Int × (List Int))) (x16 : Int) : Option (LR Int Int) :=
  br (decide (x16 < (wi (((List.length a0 : Nat) : Int) - (1 : Int)))))
  (ck (decide (0 ≤ x16 ∧ x16 < ((List.length x15.2 : Nat) : Int))) <|
  bno ((x15.2)[(Int.toNat x16)]?) fun y17 =>
  br (decide (¬ y17 = (1 : Int)))
  (finO (some (3 : Int)))
  (nxO (some (wi (x16 + (1 : Int))))))
  (dnO (some x16))
noncomputable def S240 (F97 : ByteArray → (Option Int)) (a0 : (List Node)) : Option Int :=
  br (decide (((List.length a0 : Nat) : Int) = (0 : Int)))
  (some (5 : Int))
  (br (decide ((30 : Int) < ((List.length a0 : Nat) : Int)))
  (some (4 : Int))
  (ck (decide (0 ≤ ((List.length a0 : Nat) : Int) ∧ ((List.length a0 : Nat) : Int) ≤ ((List.length a0 : Nat) : Int) ∧ ((List.length a0 : Nat) : Int) ≤ roomA)) <|
  lp (S240_L1 F97 a0) ((0 : Int), List.replicate (Int.toNat ((List.length a0 : Nat) : Int)) (0 : Int)) fun x15 =>
  lp (S240_L2 a0 x15) (0 : Int) fun x18 =>
  some (0 : Int)))
noncomputable def P240 (a0 : (List Node)) : Option Int := S240 P97 a0
end Ab
