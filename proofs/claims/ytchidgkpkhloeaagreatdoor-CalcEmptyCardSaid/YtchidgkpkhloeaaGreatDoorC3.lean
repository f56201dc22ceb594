import Derived.Test.YtchidgkpkhloeaaGreatDoorB2
import Derived.KernelRfl
import Derived.Test.YtchidgkpkhloeaaGreatDoorC1
section
namespace Ab
open Go
set_option linter.unusedVariables false
set_option maxRecDepth 100000
noncomputable def S97_L1 (a0 : ByteArray) (x2 : Int) : Option (LR Int Int) :=
  br (decide (x2 < ((ByteArray.size a0 : Nat) : Int)))
  (jn (σ := Bool) (α := (LR Int Int)) (bno (lookI (ByteArray.data a0).toList x2) fun y3 =>
  br (decide (((UInt8.toNat y3 : Nat) : Int) < (97 : Int)))
  (inlO (some true))
  (bno (lookI (ByteArray.data a0).toList x2) fun y4 =>
  inlO (some (decide ((122 : Int) < ((UInt8.toNat y4 : Nat) : Int)))))) fun x5 =>
  br x5
  (finO (some (2 : Int)))
  (nxO (some (wi (x2 + (1 : Int))))))
  (dnO (some x2))
noncomputable def S97 (a0 : ByteArray) : Option Int :=
  jn (σ := Bool) (α := Int) (br (decide (a0 = (⟨#[]⟩ : ByteArray)))
  (inlO (some true))
  (inlO (some (decide ((8 : Int) < ((ByteArray.size a0 : Nat) : Int)))))) fun x1 =>
  br x1
  (some (2 : Int))
  (lp (S97_L1 a0) (0 : Int) fun x6 =>
  some (0 : Int))
noncomputable def P97 (a0 : ByteArray) : Option Int := S97 a0
end Ab
end
section
namespace Ab
open Go
set_option linter.unusedVariables false
set_option maxRecDepth 100000
end Ab
end
section
namespace Ab
open Go
set_option linter.unusedVariables false
set_option maxRecDepth 100000
end Ab
end
