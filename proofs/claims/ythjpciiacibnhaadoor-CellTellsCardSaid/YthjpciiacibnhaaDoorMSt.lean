/-
  strconv.Itoa and strconv.Atoi as functions of the abstract machine, by what the seat's program is known to answer.
-/
import Derived.Test.YthjpciiacibnhaaDoorB2
import Derived.Lib.ItoaNum
import Derived.Lib.AtoiAll
namespace Ab
open Go Go.RowKit
set_option linter.unusedVariables false
set_option linter.unusedSimpArgs false

/-- What the kit's contracts say of them, at this seat, where the package-level variables hold what they hold at the begin. -/
def ItoaAt (S : Seat) (id : Nat) : Prop := ∀ g, assoc g S.fns = some id → ∀ (n : Int) (w : World), -9223372036854775808 ≤ n → n ≤ 9223372036854775807 → S.hold w →
  Calls S.P g #[.int .i64 n] w fun e w' => e = .returned (.string ⟨(Lib.itoa n).toArray⟩) ∧ KeepO (fun _ => False) w w'
def atoiV (s : ByteArray) : Int × Err :=
  match Lib.atoiAll s.data.toList with
  | .ok v => (v, .nil)
  | .range => (Lib.atoiSat s.data.toList, .oth 4)
  | _ => (0, .oth 4)
def AtoiAt (S : Seat) (id : Nat) : Prop := ∀ g, assoc g S.fns = some id → ∀ (s : ByteArray) (w : World), s.size ≤ 281474976710656 → S.hold w →
  Calls S.P g #[.string s] w fun e w' => (∃ u, e = .returned (.tuple #[.int .i64 (atoiV s).1, u]) ∧ (match (atoiV s).2 with | .nil => u = .nilIface | .no _ => False | .oth k => ∃ T x, u = .iface T x ∧ assoc T S.tys = some k)) ∧ KeepO (fun _ => False) w w'

noncomputable def P157 (n : Int) : Option ByteArray := ck (decide (-9223372036854775808 ≤ n ∧ n ≤ 9223372036854775807)) (some ⟨(Lib.itoa n).toArray⟩)
noncomputable def k157 : CSpec := ⟨157, [.int], .str, fun x => P157 x, false, []⟩
theorem r157 {S : Seat} (h : ItoaAt S 157) : Rt S k157 := fun (n : Int) (y : ByteArray) hy => by
  obtain ⟨h1, h2⟩ := ck_some (show P157 n = some y from hy)
  obtain ⟨h0, h1⟩ := of_decide_eq_true h1
  obtain rfl := Option.some.inj h2
  intro g hg
  show RealM S g [.v (.int .i64 n)] (.v (.string _)) []
  refine realM_of (fun A w vs hl hA ha => ?_) (by simp [isOwn])
  obtain ⟨x0, rfl⟩ : ∃ x0, vs = #[x0] := by
    obtain ⟨l⟩ := vs
    match l, hl with
    | [x0], _ => exact ⟨x0, rfl⟩
  obtain rfl : x0 = .int .i64 n := VR.v_inv (σ := fun _ => none) (.of0 (ha 0 _ rfl))
  refine (h g hg n w h0 h1 hA.2.2.2).mono ?_
  rintro e w' ⟨rfl, hk⟩
  exact ⟨_, rfl, hk, fun _ => none, by simp, by simp, rfl, .v _⟩
noncomputable def P167 (s : ByteArray) : Option (Int × Err) := ck (decide (s.size ≤ 281474976710656)) (some (atoiV s))
noncomputable def k167 : CSpec := ⟨167, [.str], .tp [.int, .err], fun x => P167 x, false, []⟩
theorem r167 {S : Seat} (h : AtoiAt S 167) : Rt S k167 := fun (s : ByteArray) (y : Int × Err) hy => by
  obtain ⟨h1, h2⟩ := ck_some (show P167 s = some y from hy)
  have h1 := of_decide_eq_true h1
  obtain rfl := Option.some.inj h2
  intro g hg
  show RealM S g [.v (.string s)] (.tup [.v (.int .i64 (atoiV s).1), (atoiV s).2.av]) []
  refine realM_of (fun A w vs hl hA ha => ?_) (by simp [isOwn])
  obtain ⟨x0, rfl⟩ : ∃ x0, vs = #[x0] := by
    obtain ⟨l⟩ := vs
    match l, hl with
    | [x0], _ => exact ⟨x0, rfl⟩
  obtain rfl : x0 = .string s := VR.v_inv (σ := fun _ => none) (.of0 (ha 0 _ rfl))
  refine (h g hg s w h1 hA.2.2.2).mono ?_
  rintro e w' ⟨⟨u, rfl, hu⟩, hk⟩
  refine ⟨_, rfl, hk, fun _ => none, by simp, by simp, ?_⟩
  refine ⟨#[.int .i64 (atoiV s).1, u], rfl, rfl, fun i x hx => ?_⟩
  match i, hx with
  | 0, hx => cases hx; exact ⟨rfl, .v _⟩
  | 1, hx =>
    cases hx
    generalize (atoiV s).2 = q at hu
    cases q with
    | nil => subst hu; exact ⟨rfl, .v _⟩
    | no k => exact hu.elim
    | oth k => obtain ⟨T, x, rfl, hT⟩ := hu; exact ⟨rfl, .ifc hT (.bot _)⟩
  | i + 2, hx => simp at hx
end Ab
