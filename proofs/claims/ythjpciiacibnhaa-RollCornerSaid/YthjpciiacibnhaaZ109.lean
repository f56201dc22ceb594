/-
  Proved here: the law tallyhall/tallylaw4.RollCorner returns true and changes nothing that was there (the row's statement RollCornerSaid). No condition: for all arguments that may come in.
-/
import Derived.Test.YthjpciiacibnhaaLF
import Derived.Test.YthjpciiacibnhaaV109
import Derived.Test.YthjpciiacibnhaaQ109
import Derived.WalkKit
import Derived.ProofKit
import Derived.OpenShut
import Derived.ShutString
import Derived.ChangeOld
import Derived.Below
namespace Go.Proofs.Ythjpciiacibnhaa.rollCornerDone
open Go.ChangeShapes Go.WideShapes Go.ChangeAt Go.RowKit
set_option linter.unusedVariables false

theorem own : ownKnob Try.prog.godebug = none := by kernel_rfl
theorem laidOut : laidOutB Try.prog = true := by kernel_rfl

set_option maxRecDepth 100000 in
theorem lifted (os : Os) (started : os.Started) (H : Type) (enc : TypeId × Value → H) :
    ReturnsInHanded {} Try.checked os 4 .any (Rows.rollCornerSpec.pre6 enc Try.prog Try.f4 Rows.rollCornerRow.domain false) (Rows.rollCornerSpec.post enc Try.prog Try.f4 false true false false) := by
  refine returnsInHanded_of_change (C := Try.checked) own started (by kernel_rfl) Try.func4
    (ChangeSpec.witness6 (enc := enc) (C := Try.checked) false ⟨#[], #[.int .i64 0, .slice none 0 0], []⟩ 8 (by kernel_rfl) (by kernel_rfl) (by kernel_rfl) (by kernel_rfl)) ?_
  intro W base args ds gs before hval0 hW hcnd _
  have hval : ∀ (j : Nat) t v, Try.f4.params[j]? = some t → args[j]? = some v → Value.okWide Try.prog W .any base t v := hval0
  have hW' := hW
  obtain ⟨p, q, hA0, hV, rfl, hfz, hnd⟩ := hW
  have hA : DataW.TrodAll enc Try.prog W 0 (fun _ => true) true Try.f4.params.toList args.toList ds p := hA0
  rw [Try.params4] at hA hval
  clear hA0 hval0
  obtain ⟨v0, vs0, d0, ds0, p0, q0, hargs, rfl, rfl, h0, r0⟩ := trodAll_cons hA
  obtain ⟨v1, vs1, d1, ds1, p1, q1, rfl, rfl, rfl, h1, r1⟩ := trodAll_cons r0
  obtain ⟨rfl, rfl, rfl⟩ := trodAll_nil r1
  obtain rfl : args = #[v0, v1] := by cases args; simp_all
  obtain ⟨rfl, rfl⟩ := trodVars_none hV
  obtain ⟨x0, g0, k0⟩ := Ab.open_arg (S := Ab.Try.seat) (sh := .int) (by kernel_rfl) (hval 0 _ v0 rfl rfl) h0
  have lt0 : ∀ x ∈ p0, x.block < W.heap.size := by have k := h0; obtain ⟨m, hm⟩ := k; exact DataW.trod_lt m _ _ _ hm
  obtain ⟨x1, g1, k1⟩ := Ab.open_arg (S := Ab.Try.seat) (sh := (.sl .int)) (by kernel_rfl) (hval 1 _ v1 rfl rfl) h1
  have lt1 : ∀ x ∈ p1, x.block < W.heap.size := by have k := h1; obtain ⟨m, hm⟩ := k; exact DataW.trod_lt m _ _ _ hm
  have walk : Calls Try.prog 4 #[v0, v1] W fun e w' => e = .returned (.bool true) ∧ Below W.heap.size W w' :=
    Ab.law_calls (S := Ab.Try.seat) (A := fun b => b < W.heap.size) (id := 109) (args := Ab.encAL [.int, (.sl .int)] (x0, x1)) (by kernel_rfl) (Ab.Try.R109 (x0, x1) true (Ab.p109 x0 g0 x1 g1)) rfl ⟨fun b hb => hb, fun p hp => (by cases hp)⟩ fun i c hc => by
      rcases i with _ | _ | i
      · obtain rfl := Option.some.inj (show some (Ab.encA .int x0) = some c from hc); exact k0
      · obtain rfl := Option.some.inj (show some (Ab.encA (.sl .int) x1) = some c from hc); exact k1
      · exact absurd hc (by simp [Ab.encAL])
  refine walk.mono fun e W' ⟨he, bel⟩ => ?_
  subst he
  exact ⟨_, rfl, _, _, _, [], _, [], hW', trodAll_mk1 (shut_bool Try.underlying4 _), (trodAll_cons_mk (Below.trod laidOut (by kernel_rfl) (of_decide_eq_true (by kernel_rfl)) h0 bel lt0) (trodAll_cons_mk (Below.trod laidOut (by kernel_rfl) (of_decide_eq_true (by kernel_rfl)) h1 bel lt1) trodAll_mk0)), rfl, bel.frame _, fun h => by cases h⟩

theorem over : Rows.rollCornerRow.holds Try.pinned (OpenSpec.ofChange Rows.rollCornerSpec) :=
  OpenClaim.holds_of_wide 4 Try.f4 rfl rfl rfl rfl rfl rfl rfl ⟨rfl, rfl, rfl, rfl, rfl⟩ rfl rfl rfl rfl rfl (by kernel_rfl) Try.func4 (by kernel_rfl)
    (of_decide_eq_true (by kernel_rfl)) (by unfold Func.isWrapper; first | (rw [if_pos (by decide +kernel)]; kernel_rfl) | (rw [if_neg (by decide +kernel)]; exact ⟨rfl, rfl⟩))
    (fun os started H enc _ => lifted os started H enc)

theorem proved : Rows.RollCornerSaid := over
#print axioms proved
end Go.Proofs.Ythjpciiacibnhaa.rollCornerDone
