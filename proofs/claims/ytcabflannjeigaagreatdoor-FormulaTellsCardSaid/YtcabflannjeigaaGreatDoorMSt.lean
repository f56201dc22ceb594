/-
  strconv.Itoa and strconv.Atoi as functions of the abstract machine, by what the seat's program is known to answer.
-/
import Derived.Test.YtcabflannjeigaaGreatDoorB2
import Derived.Lib.ItoaNum
import Derived.Lib.AtoiAll
namespace Ab
open Go Go.RowKit
set_option linter.unusedVariables false
set_option linter.unusedSimpArgs false

/-- What the kit's contracts say of them, at this seat, where the package-level variables hold what they hold at the begin. -/
def ItoaAt (S : Seat) (id : Nat) : Prop := ∀ g, assoc g S.fns = some id → ∀ (n : Int) (w : World), -9223372036854775808 ≤ n → n ≤ 9223372036854775807 → S.hold w →
  Calls S.P g #[.int .i64 n] w fun e w' => e = .returned (.string ⟨(Lib.itoa n).toArray⟩) ∧ KeepO (fun _ => False) w w'
def atoiV (s : ByteArray) : Int × Err :=
  match Lib.atoiAll s.data.toList with
  | .ok v => (v, .nil)
  | .range => (Lib.atoiSat s.data.toList, .oth 4)
  | _ => (0, .oth 4)
noncomputable def P157 (n : Int) : Option ByteArray := ck (decide (-9223372036854775808 ≤ n ∧ n ≤ 9223372036854775807)) (some ⟨(Lib.itoa n).toArray⟩)
noncomputable def k157 : CSpec := ⟨157, [.int], .str, fun x => P157 x, false, []⟩
theorem r157 {S : Seat} (h : ItoaAt S 157) : Rt S k157 := fun (n : Int) (y : ByteArray) hy => by
  obtain ⟨h1, h2⟩ := ck_some (show P157 n = some y from hy)
  obtain ⟨h0, h1⟩ := of_decide_eq_true h1
  obtain rfl := Option.some.inj h2
  intro g hg
  show RealM S g [.v (.int .i64 n)] (.v (.string _)) []
  refine realM_of (fun A w vs hl hA ha => ?_) (by simp [isOwn])
  obtain ⟨x0, rfl⟩ : ∃ x0, vs = #[x0] := by
    obtain ⟨l⟩ := vs
    match l, hl with
    | [x0], _ => exact ⟨x0, rfl⟩
  obtain rfl : x0 = .int .i64 n := VR.v_inv (σ := fun _ => none) (.of0 (ha 0 _ rfl))
  refine (h g hg n w h0 h1 hA.2.2.2).mono ?_
  rintro e w' ⟨rfl, hk⟩
  exact ⟨_, rfl, hk, fun _ => none, by simp, by simp, rfl, .v _⟩
end Ab
