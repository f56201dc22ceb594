/-
  Functions of the program as typed code, what they come to, and their contracts: written by program (mk.py).
-/
import Derived.Test.YtchidgkpkhloeaaGreatDoorB2
import Derived.KernelRfl
namespace Ab
open Go
set_option linter.unusedVariables false
set_option maxRecDepth 100000
noncomputable def S30 (a0 : Int) : Option Bool :=
  jn (σ := Bool) (α := Bool) (br (decide ((-1000000000000 : Int) ≤ a0))
  (inlO (some (decide (a0 ≤ (1000000000000 : Int)))))
  (inlO (some false))) fun x1 =>
  some x1
noncomputable def P30 (a0 : Int) : Option Bool := S30 a0
noncomputable def S8 (F30 : Int → (Option Bool)) (a0 : Int) : Option Cell :=
  bno (F30 a0) fun y1 =>
  br (!y1)
  (some (Cell.mk (2 : Int) (0 : Int)))
  (some (Cell.mk (1 : Int) a0))
noncomputable def P8 (a0 : Int) : Option Cell := S8 P30 a0
noncomputable def S33 (F8 : Int → (Option Cell)) (a0 : Cell) (a1 : Cell) (a2 : Int) : Option Cell :=
  jn (σ := Bool) (α := Cell) (br (decide ((Cell.k a0) = (2 : Int)))
  (inlO (some true))
  (inlO (some (decide ((Cell.k a1) = (2 : Int)))))) fun x1 =>
  br x1
  (some (Cell.mk (2 : Int) (0 : Int)))
  (jn (σ := Bool) (α := Cell) (br (decide ((Cell.k a0) = (0 : Int)))
  (inlO (some (decide ((Cell.k a1) = (0 : Int)))))
  (inlO (some false))) fun x2 =>
  br x2
  (some (Cell.mk (0 : Int) (0 : Int)))
  (bno (F8 (wi ((Cell.n a0) + (wi (a2 * (Cell.n a1)))))) fun y3 =>
  some y3))
noncomputable def P33 (a0 : Cell) (a1 : Cell) (a2 : Int) : Option Cell := S33 P8 a0 a1 a2
noncomputable def S32 (F33 : Cell → Cell → Int → (Option Cell)) (a0 : Cell) (a1 : Cell) : Option Cell :=
  bno (F33 a0 a1 (1 : Int)) fun y1 =>
  some y1
noncomputable def P32 (a0 : Cell) (a1 : Cell) : Option Cell := S32 P33 a0 a1
noncomputable def S52 (F30 : Int → (Option Bool)) (a0 : Cell) : Option Err :=
  jn (σ := Bool) (α := Err) (br (decide ((Cell.k a0) < (0 : Int)))
  (inlO (some true))
  (br (decide ((2 : Int) < (Cell.k a0)))
  (inlO (some true))
  (bno (F30 (Cell.n a0)) fun y1 =>
  br (!y1)
  (inlO (some true))
  (br (decide (¬ (Cell.k a0) = (1 : Int)))
  (inlO (some (decide (¬ (Cell.n a0) = (0 : Int)))))
  (inlO (some false)))))) fun x2 =>
  br x2
  (some (Err.no (1 : Int)))
  (some Err.nil)
noncomputable def P52 (a0 : Cell) : Option Err := S52 P30 a0
noncomputable def S31_32 (F32 : Cell → Cell → (Option Cell)) (F52 : Cell → (Option Err)) (a0 : Cell) (a1 : Cell) : Option (Cell × Err) :=
  bno (F52 a0) fun y1 =>
  br (!(Err.isNil y1))
  (some (Cell.mk (0 : Int) (0 : Int), y1))
  (bno (F52 a1) fun y2 =>
  br (!(Err.isNil y2))
  (some (Cell.mk (0 : Int) (0 : Int), y2))
  (bno (F32 a0 a1) fun y3 =>
  some (y3, Err.nil)))
noncomputable def P31_32 (a0 : Cell) (a1 : Cell) : Option (Cell × Err) := S31_32 P32 P52 a0 a1
noncomputable def S9 (F31_32 : Cell → Cell → (Option (Cell × Err))) (a0 : Cell) (a1 : Cell) : Option (Cell × Err) :=
  bno (F31_32 a0 a1) fun y1 =>
  some (y1.1, y1.2)
noncomputable def P9 (a0 : Cell) (a1 : Cell) : Option (Cell × Err) := S9 P31_32 a0 a1
noncomputable def S62 (a0 : Int) : Option Int :=
  some (maxT a0 (wi (0 - a0)))
noncomputable def P62 (a0 : Int) : Option Int := S62 a0
noncomputable def S34 (F62 : Int → (Option Int)) (F8 : Int → (Option Cell)) (a0 : Cell) (a1 : Cell) : Option Cell :=
  jn (σ := Bool) (α := Cell) (br (decide ((Cell.k a0) = (2 : Int)))
  (inlO (some true))
  (inlO (some (decide ((Cell.k a1) = (2 : Int)))))) fun x1 =>
  br x1
  (some (Cell.mk (2 : Int) (0 : Int)))
  (jn (σ := Bool) (α := Cell) (br (decide ((Cell.k a0) = (0 : Int)))
  (inlO (some true))
  (inlO (some (decide ((Cell.k a1) = (0 : Int)))))) fun x2 =>
  br x2
  (some (Cell.mk (0 : Int) (0 : Int)))
  (jn (σ := Bool) (α := Cell) (br (decide (¬ (Cell.n a0) = (0 : Int)))
  (bno (F62 (Cell.n a1)) fun y3 =>
  bno (F62 (Cell.n a0)) fun y4 =>
  ck (decide (¬ y4 = 0)) <|
  inlO (some (decide ((wi (Int.tdiv (1000000000000 : Int) y4)) < y3))))
  (inlO (some false))) fun x5 =>
  br x5
  (some (Cell.mk (2 : Int) (0 : Int)))
  (bno (F8 (wi ((Cell.n a0) * (Cell.n a1)))) fun y6 =>
  some y6)))
noncomputable def P34 (a0 : Cell) (a1 : Cell) : Option Cell := S34 P62 P8 a0 a1
noncomputable def S31_34 (F34 : Cell → Cell → (Option Cell)) (F52 : Cell → (Option Err)) (a0 : Cell) (a1 : Cell) : Option (Cell × Err) :=
  bno (F52 a0) fun y1 =>
  br (!(Err.isNil y1))
  (some (Cell.mk (0 : Int) (0 : Int), y1))
  (bno (F52 a1) fun y2 =>
  br (!(Err.isNil y2))
  (some (Cell.mk (0 : Int) (0 : Int), y2))
  (bno (F34 a0 a1) fun y3 =>
  some (y3, Err.nil)))
noncomputable def P31_34 (a0 : Cell) (a1 : Cell) : Option (Cell × Err) := S31_34 P34 P52 a0 a1
noncomputable def S10 (F31_34 : Cell → Cell → (Option (Cell × Err))) (a0 : Cell) (a1 : Cell) : Option (Cell × Err) :=
  bno (F31_34 a0 a1) fun y1 =>
  some (y1.1, y1.2)
noncomputable def P10 (a0 : Cell) (a1 : Cell) : Option (Cell × Err) := S10 P31_34 a0 a1
noncomputable def S35 (F8 : Int → (Option Cell)) (a0 : Cell) (a1 : Cell) : Option Cell :=
  jn (σ := Bool) (α := Cell) (br (decide ((Cell.k a0) = (2 : Int)))
  (inlO (some true))
  (inlO (some (decide ((Cell.k a1) = (2 : Int)))))) fun x1 =>
  br x1
  (some (Cell.mk (2 : Int) (0 : Int)))
  (jn (σ := Bool) (α := Cell) (br (decide ((Cell.k a0) = (0 : Int)))
  (inlO (some true))
  (inlO (some (decide ((Cell.k a1) = (0 : Int)))))) fun x2 =>
  br x2
  (some (Cell.mk (0 : Int) (0 : Int)))
  (br (decide ((Cell.n a1) = (0 : Int)))
  (some (Cell.mk (2 : Int) (0 : Int)))
  (ck (decide (¬ (Cell.n a1) = 0)) <|
  bno (F8 (wi (Int.tdiv (Cell.n a0) (Cell.n a1)))) fun y3 =>
  some y3)))
noncomputable def P35 (a0 : Cell) (a1 : Cell) : Option Cell := S35 P8 a0 a1
noncomputable def S31_35 (F35 : Cell → Cell → (Option Cell)) (F52 : Cell → (Option Err)) (a0 : Cell) (a1 : Cell) : Option (Cell × Err) :=
  bno (F52 a0) fun y1 =>
  br (!(Err.isNil y1))
  (some (Cell.mk (0 : Int) (0 : Int), y1))
  (bno (F52 a1) fun y2 =>
  br (!(Err.isNil y2))
  (some (Cell.mk (0 : Int) (0 : Int), y2))
  (bno (F35 a0 a1) fun y3 =>
  some (y3, Err.nil)))
noncomputable def P31_35 (a0 : Cell) (a1 : Cell) : Option (Cell × Err) := S31_35 P35 P52 a0 a1
noncomputable def S11 (F31_35 : Cell → Cell → (Option (Cell × Err))) (a0 : Cell) (a1 : Cell) : Option (Cell × Err) :=
  bno (F31_35 a0 a1) fun y1 =>
  some (y1.1, y1.2)
noncomputable def P11 (a0 : Cell) (a1 : Cell) : Option (Cell × Err) := S11 P31_35 a0 a1
noncomputable def S36 (F33 : Cell → Cell → Int → (Option Cell)) (a0 : Cell) (a1 : Cell) : Option Cell :=
  bno (F33 a0 a1 (-1 : Int)) fun y1 =>
  some y1
noncomputable def P36 (a0 : Cell) (a1 : Cell) : Option Cell := S36 P33 a0 a1
noncomputable def S31_36 (F36 : Cell → Cell → (Option Cell)) (F52 : Cell → (Option Err)) (a0 : Cell) (a1 : Cell) : Option (Cell × Err) :=
  bno (F52 a0) fun y1 =>
  br (!(Err.isNil y1))
  (some (Cell.mk (0 : Int) (0 : Int), y1))
  (bno (F52 a1) fun y2 =>
  br (!(Err.isNil y2))
  (some (Cell.mk (0 : Int) (0 : Int), y2))
  (bno (F36 a0 a1) fun y3 =>
  some (y3, Err.nil)))
noncomputable def P31_36 (a0 : Cell) (a1 : Cell) : Option (Cell × Err) := S31_36 P36 P52 a0 a1
noncomputable def S12 (F31_36 : Cell → Cell → (Option (Cell × Err))) (a0 : Cell) (a1 : Cell) : Option (Cell × Err) :=
  bno (F31_36 a0 a1) fun y1 =>
  some (y1.1, y1.2)
noncomputable def P12 (a0 : Cell) (a1 : Cell) : Option (Cell × Err) := S12 P31_36 a0 a1
end Ab
