/-
  Proved here: the law tallyhall/tallylaw1.FoldOrders returns true and changes nothing that was there (the row's statement FoldOrdersSaid). No condition: for all arguments that may come in.
-/
import Derived.Test.YtcabflannjeigaaLF
import Derived.Test.YtcabflannjeigaaV208
import Derived.Test.YtcabflannjeigaaQ208
import Derived.WalkKit
import Derived.ProofKit
import Derived.OpenShut
import Derived.ShutString
import Derived.ChangeOld
import Derived.Below
import Derived.SizedLaws
import Derived.Test.YtcabflannjeigaaLH
namespace Go.Proofs.Ytcabflannjeigaa.foldOrdersDone
open Go.ChangeShapes Go.WideShapes Go.ChangeAt Go.RowKit
set_option linter.unusedVariables false

theorem own : ownKnob Try.prog.godebug = none := by kernel_rfl
theorem laidOut : laidOutB Try.prog = true := by kernel_rfl

set_option maxRecDepth 100000 in
theorem lifted (os : Os) (started : os.Started) (H : Type) (enc : TypeId × Value → H) :
    ReturnsInHanded {} Try.checked os 3 .any (Rows.foldOrdersSpec.pre6 enc Try.prog Try.f3 Rows.foldOrdersRow.domain false) (Rows.foldOrdersSpec.post enc Try.prog Try.f3 false true false false) := by
  refine returnsInHanded_of_change_sized (C := Try.checked) own started (by kernel_rfl) Try.func3
    (ChangeSpec.witness6 (enc := enc) (C := Try.checked) false ⟨#[], #[.agg #[.slice none 0 0], .slice none 0 0, .slice none 0 0, .slice none 0 0, .slice none 0 0], []⟩ 8 (by kernel_rfl) (by kernel_rfl) (by kernel_rfl) (by kernel_rfl)) ?_
  intro W base args ds gs before hval0 hW hcnd hsz _
  have hval : ∀ (j : Nat) t v, Try.f3.params[j]? = some t → args[j]? = some v → Value.okWide Try.prog W .any base t v := hval0
  have hW' := hW
  obtain ⟨p, q, hA0, hV, rfl, hfz, hnd⟩ := hW
  have hA : DataW.TrodAll enc Try.prog W 0 (fun _ => true) true Try.f3.params.toList args.toList ds p := hA0
  rw [Try.params3] at hA hval
  clear hA0 hval0
  obtain ⟨v0, vs0, d0, ds0, p0, q0, hargs, rfl, rfl, h0, r0⟩ := trodAll_cons hA
  obtain ⟨v1, vs1, d1, ds1, p1, q1, rfl, rfl, rfl, h1, r1⟩ := trodAll_cons r0
  obtain ⟨v2, vs2, d2, ds2, p2, q2, rfl, rfl, rfl, h2, r2⟩ := trodAll_cons r1
  obtain ⟨v3, vs3, d3, ds3, p3, q3, rfl, rfl, rfl, h3, r3⟩ := trodAll_cons r2
  obtain ⟨v4, vs4, d4, ds4, p4, q4, rfl, rfl, rfl, h4, r4⟩ := trodAll_cons r3
  obtain ⟨rfl, rfl, rfl⟩ := trodAll_nil r4
  obtain rfl : args = #[v0, v1, v2, v3, v4] := by cases args; simp_all
  obtain ⟨rfl, rfl⟩ := trodVars_none hV
  obtain ⟨x0, g0, k0⟩ := Ab.open_arg (S := Ab.Try.seat) (sh := (.st .outl)) (by kernel_rfl) (hval 0 _ v0 rfl rfl) h0
  have lt0 : ∀ x ∈ p0, x.block < W.heap.size := by have k := h0; obtain ⟨m, hm⟩ := k; exact DataW.trod_lt m _ _ _ hm
  obtain ⟨x1, g1, k1⟩ := Ab.open_arg (S := Ab.Try.seat) (sh := (.sl .entry)) (by kernel_rfl) (hval 1 _ v1 rfl rfl) h1
  have lt1 : ∀ x ∈ p1, x.block < W.heap.size := by have k := h1; obtain ⟨m, hm⟩ := k; exact DataW.trod_lt m _ _ _ hm
  obtain ⟨x2, g2, k2⟩ := Ab.open_arg (S := Ab.Try.seat) (sh := (.sl .int)) (by kernel_rfl) (hval 2 _ v2 rfl rfl) h2
  have lt2 : ∀ x ∈ p2, x.block < W.heap.size := by have k := h2; obtain ⟨m, hm⟩ := k; exact DataW.trod_lt m _ _ _ hm
  obtain ⟨x3, g3, k3⟩ := Ab.open_arg (S := Ab.Try.seat) (sh := (.sl .int)) (by kernel_rfl) (hval 3 _ v3 rfl rfl) h3
  have lt3 : ∀ x ∈ p3, x.block < W.heap.size := by have k := h3; obtain ⟨m, hm⟩ := k; exact DataW.trod_lt m _ _ _ hm
  obtain ⟨x4, g4, k4⟩ := Ab.open_arg (S := Ab.Try.seat) (sh := (.sl .int)) (by kernel_rfl) (hval 4 _ v4 rfl rfl) h4
  have lt4 : ∀ x ∈ p4, x.block < W.heap.size := by have k := h4; obtain ⟨m, hm⟩ := k; exact DataW.trod_lt m _ _ _ hm
  have hb2 : x2.length * 8 ≤ 140737488351232 := by
    rcases Ab.sl_bound k2 h2 Try.underlying26 with e | ⟨es, sp, e, hlen⟩
    · rw [e]; simp
    · have h1 := sized_slice hsz (j := 2) (t := 26) (e := 3) (elems := es) (spare := sp) rfl (by show some d2 = _; rw [e]) Try.underlying26
      have h2 : Try.checked.prog.bytesOf 3 = 8 := by kernel_rfl
      have h3 : reachBytes = 140737488351232 := rfl
      rw [h2] at h1; omega
  have hb3 : x3.length * 8 ≤ 140737488351232 := by
    rcases Ab.sl_bound k3 h3 Try.underlying26 with e | ⟨es, sp, e, hlen⟩
    · rw [e]; simp
    · have h1 := sized_slice hsz (j := 3) (t := 26) (e := 3) (elems := es) (spare := sp) rfl (by show some d3 = _; rw [e]) Try.underlying26
      have h2 : Try.checked.prog.bytesOf 3 = 8 := by kernel_rfl
      have h3 : reachBytes = 140737488351232 := rfl
      rw [h2] at h1; omega
  have walk : Calls Try.prog 3 #[v0, v1, v2, v3, v4] W fun e w' => e = .returned (.bool true) ∧ Below W.heap.size W w' :=
    Ab.law_calls (S := Ab.Try.seat) (A := fun b => b < W.heap.size) (id := 208) (args := Ab.encAL [(.st .outl), (.sl .entry), (.sl .int), (.sl .int), (.sl .int)] (x0, x1, x2, x3, x4)) (by kernel_rfl) (Ab.Try.R208 (x0, x1, x2, x3, x4) true (Ab.p208 x0 g0 x1 g1 x2 hb2 x3 hb3 x4 g4)) rfl ⟨fun b hb => hb, fun p hp => (by cases hp), fun b hb => (by cases hb), trivial⟩ fun i c hc => by
      rcases i with _ | _ | _ | _ | _ | i
      · obtain rfl := Option.some.inj (show some (Ab.encA (.st .outl) x0) = some c from hc); exact k0
      · obtain rfl := Option.some.inj (show some (Ab.encA (.sl .entry) x1) = some c from hc); exact k1
      · obtain rfl := Option.some.inj (show some (Ab.encA (.sl .int) x2) = some c from hc); exact k2
      · obtain rfl := Option.some.inj (show some (Ab.encA (.sl .int) x3) = some c from hc); exact k3
      · obtain rfl := Option.some.inj (show some (Ab.encA (.sl .int) x4) = some c from hc); exact k4
      · exact absurd hc (by simp [Ab.encAL])
  refine walk.mono fun e W' ⟨he, bel⟩ => ?_
  subst he
  exact ⟨_, rfl, _, _, _, [], _, [], hW', trodAll_mk1 (shut_bool Try.underlying4 _), (trodAll_cons_mk (Below.trod laidOut (by kernel_rfl) (of_decide_eq_true (by kernel_rfl)) h0 bel lt0) (trodAll_cons_mk (Below.trod laidOut (by kernel_rfl) (of_decide_eq_true (by kernel_rfl)) h1 bel lt1) (trodAll_cons_mk (Below.trod laidOut (by kernel_rfl) (of_decide_eq_true (by kernel_rfl)) h2 bel lt2) (trodAll_cons_mk (Below.trod laidOut (by kernel_rfl) (of_decide_eq_true (by kernel_rfl)) h3 bel lt3) (trodAll_cons_mk (Below.trod laidOut (by kernel_rfl) (of_decide_eq_true (by kernel_rfl)) h4 bel lt4) trodAll_mk0))))), rfl, bel.frame _, fun h => by cases h⟩

theorem over : Rows.foldOrdersRow.holds Try.pinned (OpenSpec.ofChange Rows.foldOrdersSpec) :=
  OpenClaim.holds_of_wide 3 Try.f3 rfl rfl rfl rfl rfl rfl rfl ⟨rfl, rfl, rfl, rfl, rfl⟩ rfl rfl rfl rfl rfl (by kernel_rfl) Try.func3 (by kernel_rfl)
    (of_decide_eq_true (by kernel_rfl)) (by unfold Func.isWrapper; first | (rw [if_pos (by decide +kernel)]; kernel_rfl) | (rw [if_neg (by decide +kernel)]; exact ⟨rfl, rfl⟩))
    (fun os started H enc _ => lifted os started H enc)

theorem proved : Rows.FoldOrdersSaid := over
#print axioms proved
end Go.Proofs.Ytcabflannjeigaa.foldOrdersDone
