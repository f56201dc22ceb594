/-
  Proved here: the law tallyhall/tallylaw2.FormulaBack returns true and changes nothing that was there (the tied card FormulaBackCardSaid). No condition: for all arguments that may come in.
-/
import Derived.Test.YtcabflannjeigaaDoorLF
import Derived.Test.YtcabflannjeigaaDoorV290
import Derived.Test.YtcabflannjeigaaDoorQ290
import Derived.Test.YtcabflannjeigaaDoorMZh
import Derived.Test.YtcabflannjeigaaDoorTie
import Derived.Test.YtcabflannjeigaaDoorCards
import Derived.SevenTiedAt
import Derived.WalkKit
import Derived.ProofKit
import Derived.OpenShut
import Derived.ShutString
import Derived.ChangeOld
import Derived.Below
import Derived.ChangeMaps5
import Derived.SizedLaws
namespace Go.Proofs.YtcabflannjeigaaDoor.formulaBackDone
open Go.ChangeShapes Go.WideShapes Go.ChangeAt Go.RowKit
open YtcabflannjeigaaDoorStr
set_option linter.unusedVariables false

set_option maxRecDepth 100000 in
theorem lifted (os : Os) (started : os.Started) (H : Type) (enc : TypeId × Value → H) :
    ReturnsInHanded {} Tryd.checked os 6 .any (fun w args => (Rows.formulaBackSpec.pre enc Tryd.prog Tryd.f6 [] false w args ∧ laidMetH Tryd.prog laidL w) ∧ sizedMet enc Tryd.prog Tryd.f6 (OpenSpec.ofChange Rows.formulaBackSpec) false w args)
      (Rows.formulaBackSpec.post enc Tryd.prog Tryd.f6 false true false false) := by
  refine returnsInHanded_of_change_and (C := Tryd.checked) (X := fun w _ => laidMetH Tryd.prog laidL w) (fun _ _ _ hh h => h.of_heap hh) own started (by kernel_rfl) Tryd.func6
    (ChangeSpec.witness_at (enc := enc) (C := Tryd.checked) (os := os) (X := fun w _ => laidMetH Tryd.prog laidL w) false (laidWorld os) #[.slice none 0 0, .string ⟨#[]⟩, .slice none 0 0, .slice none 0 0] 8 rfl (by kernel_rfl) (by kernel_rfl) (by kernel_rfl) (by kernel_rfl) (by kernel_rfl) (laidWorld_met os _)) ?_
  intro W base args ds gs before hval0 hW _ _ hL _
  have hval : ∀ (j : Nat) t v, Tryd.f6.params[j]? = some t → args[j]? = some v → Value.okWide Tryd.prog W .any base t v := hval0
  have hW' := hW
  obtain ⟨p, q, hA0, hV, rfl, hfz, hnd⟩ := hW
  have hA : DataW.TrodAll enc Tryd.prog W 0 (fun _ => true) true Tryd.f6.params.toList args.toList ds p := hA0
  rw [Tryd.params6] at hA hval
  clear hA0 hval0
  obtain ⟨v0, vs0, d0, ds0, p0, q0, hargs, rfl, rfl, h0, r0⟩ := trodAll_cons hA
  obtain ⟨v1, vs1, d1, ds1, p1, q1, rfl, rfl, rfl, h1, r1⟩ := trodAll_cons r0
  obtain ⟨v2, vs2, d2, ds2, p2, q2, rfl, rfl, rfl, h2, r2⟩ := trodAll_cons r1
  obtain ⟨v3, vs3, d3, ds3, p3, q3, rfl, rfl, rfl, h3, r3⟩ := trodAll_cons r2
  obtain ⟨rfl, rfl, rfl⟩ := trodAll_nil r3
  obtain rfl : args = #[v0, v1, v2, v3] := by cases args; simp_all
  obtain ⟨rfl, rfl⟩ := trodVars_none hV
  obtain ⟨x0, g0, k0⟩ := Ab.open_arg (S := Ab.Tryd.seat) (sh := (.sl .node)) (by kernel_rfl) (hval 0 _ v0 rfl rfl) h0
  have lt0 : ∀ x ∈ p0, x.block < W.heap.size := by have k := h0; obtain ⟨m, hm⟩ := k; exact DataW.trod_lt m _ _ _ hm
  obtain ⟨x1, g1, k1⟩ := Ab.open_arg (S := Ab.Tryd.seat) (sh := .str) (by kernel_rfl) (hval 1 _ v1 rfl rfl) h1
  have lt1 : ∀ x ∈ p1, x.block < W.heap.size := by have k := h1; obtain ⟨m, hm⟩ := k; exact DataW.trod_lt m _ _ _ hm
  obtain ⟨x2, g2, k2⟩ := Ab.open_arg (S := Ab.Tryd.seat) (sh := (.sl .str)) (by kernel_rfl) (hval 2 _ v2 rfl rfl) h2
  have lt2 : ∀ x ∈ p2, x.block < W.heap.size := by have k := h2; obtain ⟨m, hm⟩ := k; exact DataW.trod_lt m _ _ _ hm
  obtain ⟨x3, g3, k3⟩ := Ab.open_arg (S := Ab.Tryd.seat) (sh := (.sl .cell)) (by kernel_rfl) (hval 3 _ v3 rfl rfl) h3
  have lt3 : ∀ x ∈ p3, x.block < W.heap.size := by have k := h3; obtain ⟨m, hm⟩ := k; exact DataW.trod_lt m _ _ _ hm
  have hH : TrydStr.hold W := hold_of_laid hL
  have hinv : Ab.Inv Ab.Tryd.seat W := ⟨fun p hp => (by cases hp), TrydStr.more_lt hH, hH⟩
  have walk : Calls Tryd.prog 6 #[v0, v1, v2, v3] W fun e w' => e = .returned (.bool true) ∧ Below W.heap.size W w' :=
    Ab.law_calls (S := Ab.Tryd.seat) (A := fun b => b < W.heap.size) (id := 290) (args := Ab.encAL [(.sl .node), .str, (.sl .str), (.sl .cell)] (x0, x1, x2, x3)) (by kernel_rfl) (Ab.Tryd.R290 (x0, x1, x2, x3) true (Ab.p290 x0 g0 x1 g1 x2 g2 x3 g3)) rfl ⟨fun b hb => hb, hinv⟩ fun i c hc => by
      rcases i with _ | _ | _ | _ | i
      · obtain rfl := Option.some.inj (show some (Ab.encA (.sl .node) x0) = some c from hc); exact k0
      · obtain rfl := Option.some.inj (show some (Ab.encA .str x1) = some c from hc); exact k1
      · obtain rfl := Option.some.inj (show some (Ab.encA (.sl .str) x2) = some c from hc); exact k2
      · obtain rfl := Option.some.inj (show some (Ab.encA (.sl .cell) x3) = some c from hc); exact k3
      · exact absurd hc (by simp [Ab.encAL])
  refine walk.mono fun e W' ⟨he, bel⟩ => ?_
  subst he
  exact ⟨_, rfl, _, _, _, [], _, [], hW', trodAll_mk1 (shut_bool Tryd.underlying4 _), (trodAll_cons_mk (Below.trod laidOut (by kernel_rfl) (of_decide_eq_true (by kernel_rfl)) h0 bel lt0) (trodAll_cons_mk (Below.trod laidOut (by kernel_rfl) (of_decide_eq_true (by kernel_rfl)) h1 bel lt1) (trodAll_cons_mk (Below.trod laidOut (by kernel_rfl) (of_decide_eq_true (by kernel_rfl)) h2 bel lt2) (trodAll_cons_mk (Below.trod laidOut (by kernel_rfl) (of_decide_eq_true (by kernel_rfl)) h3 bel lt3) trodAll_mk0)))), rfl, bel.frame _, fun h => by cases h⟩

theorem holds : Rows.FormulaBackSaid :=
  OpenClaim.holds_of_wide 6 Tryd.f6 rfl rfl rfl rfl rfl rfl rfl ⟨rfl, rfl, rfl, rfl, rfl⟩ rfl rfl rfl rfl rfl (by kernel_rfl) Tryd.func6 (by kernel_rfl)
    (of_decide_eq_true (by kernel_rfl)) (by unfold Func.isWrapper; first | (rw [if_pos (by decide +kernel)]; kernel_rfl) | (rw [if_neg (by decide +kernel)]; exact ⟨rfl, rfl⟩))
    (fun os started H enc _ => lifted os started H enc)

theorem proved : Rows.FormulaBackCardSaid :=
  Claim7.holds_tied_plain_at .later [] [.data, .data, .data, .sentinel, .sentinel] true (true, "91071eefd03b15e351d9cd431dcb5829dd3dc956a76fb7f51e95dce5cd07e011") true
    holds (fun _ h => by cases h) (by kernel_rfl) (fun _ h => by cases h) formulaBack_row_tie rfl ⟨rfl, rfl⟩ (by kernel_rfl) rfl
    (fun f fn hf hfn => by
      obtain rfl : f = 6 := Option.some.inj ((show Tryd.prog.funcNamed "tallyhall/tallylaw2.FormulaBack" = some 6 by kernel_rfl).symm.trans hf) |>.symm
      obtain rfl : fn = Tryd.f6 := (Option.some.inj (Tryd.func6.symm.trans hfn)).symm
      exact ⟨by kernel_rfl, fun j t ht => by
        rw [Tryd.params6] at ht
        have hm : t ∈ [22, 9, 23, 24] := by simpa using Array.mem_of_getElem? ht
        have hall : ([22, 9, 23, 24].all fun u => !Tryd.prog.wantsStandIn u) = true := by kernel_rfl
        exact (show Tryd.prog.wantsStandIn t = false by simpa using List.all_eq_true.1 hall t hm)⟩)
    (by kernel_rfl)
#print axioms proved
end Go.Proofs.YtcabflannjeigaaDoor.formulaBackDone
