/-
  Proved here: the law tallyhall/tallytop.TopSpread returns true and changes nothing that was there (the tied card TopSpreadCardSaid). No condition: for all arguments that may come in.
-/
import Derived.Test.YtckaniphjiniiaaGreatDoorV402
import Derived.Test.YtckaniphjiniiaaGreatDoorY402
import Derived.Test.YtckaniphjiniiaaGreatDoorK0
import Derived.Test.YtckaniphjiniiaaGreatDoorCards
import Derived.SevenTiedAt
import Derived.ChangeMaps5
namespace Go.Proofs.YtckaniphjiniiaaGreatDoor.topSpreadDone
open Go.ChangeShapes Go.WideShapes Go.ChangeAt Go.RowKit
open YtckaniphjiniiaaGreatDoorStr
set_option linter.unusedVariables false
set_option maxRecDepth 100000 in
theorem lifted (os : Os) (started : os.Started) (H : Type) (enc : TypeId × Value → H) :
    ReturnsInHanded {} Tryz.checked os 3 .any (fun w args => (Rows.topSpreadSpec.pre enc Tryz.prog Tryz.f3 [] false w args ∧ laidMetH Tryz.prog zmr w) ∧ sizedMet enc Tryz.prog Tryz.f3 (OpenSpec.ofChange Rows.topSpreadSpec) false w args)
      (Rows.topSpreadSpec.post enc Tryz.prog Tryz.f3 false true false false) := by
  refine returnsInHanded_of_change_and (C := Tryz.checked) (X := fun w _ => laidMetH Tryz.prog zmr w) (fun _ _ _ hh h => h.of_heap hh) own started (by kernel_rfl) Tryz.func3
    (ChangeSpec.witness_at (enc := enc) (C := Tryz.checked) (os := os) (X := fun w _ => laidMetH Tryz.prog zmr w) false (zex os) #[.agg #[.slice none 0 0], .slice none 0 0, .slice none 0 0, .int .i64 0, .int .i64 0, .int .i64 0] 8 rfl (by kernel_rfl) (by kernel_rfl) (by kernel_rfl) (by kernel_rfl) (by kernel_rfl) (zg5 os _)) ?_
  intro W base args ds gs before hval0 hW _ _ hL _
  have hval : ∀ (j : Nat) t v, Tryz.f3.params[j]? = some t → args[j]? = some v → Value.okWide Tryz.prog W .any base t v := hval0
  have hW' := hW
  obtain ⟨p, q, hA0, hV, rfl, hfz, hnd⟩ := hW
  have hA : DataW.TrodAll enc Tryz.prog W 0 (fun _ => true) true Tryz.f3.params.toList args.toList ds p := hA0
  rw [Tryz.params3] at hA hval
  clear hA0 hval0
  obtain ⟨v0, vs0, d0, ds0, p0, q0, hargs, rfl, rfl, h0, r0⟩ := trodAll_cons hA
  obtain ⟨v1, vs1, d1, ds1, p1, q1, rfl, rfl, rfl, h1, r1⟩ := trodAll_cons r0
  obtain ⟨v2, vs2, d2, ds2, p2, q2, rfl, rfl, rfl, h2, r2⟩ := trodAll_cons r1
  obtain ⟨v3, vs3, d3, ds3, p3, q3, rfl, rfl, rfl, h3, r3⟩ := trodAll_cons r2
  obtain ⟨v4, vs4, d4, ds4, p4, q4, rfl, rfl, rfl, h4, r4⟩ := trodAll_cons r3
  obtain ⟨v5, vs5, d5, ds5, p5, q5, rfl, rfl, rfl, h5, r5⟩ := trodAll_cons r4
  obtain ⟨rfl, rfl, rfl⟩ := trodAll_nil r5
  obtain rfl : args = #[v0, v1, v2, v3, v4, v5] := by cases args; simp_all
  obtain ⟨rfl, rfl⟩ := trodVars_none hV
  obtain ⟨x0, g0, k0⟩ := Ab.open_arg (S := Ab.Tryz.seat) (sh := (.st .outl)) (by kernel_rfl) (hval 0 _ v0 rfl rfl) h0
  have lt0 : ∀ x ∈ p0, x.block < W.heap.size := by have k := h0; obtain ⟨m, hm⟩ := k; exact DataW.trod_lt m _ _ _ hm
  obtain ⟨x1, g1, k1⟩ := Ab.open_arg (S := Ab.Tryz.seat) (sh := (.sl .entry)) (by kernel_rfl) (hval 1 _ v1 rfl rfl) h1
  have lt1 : ∀ x ∈ p1, x.block < W.heap.size := by have k := h1; obtain ⟨m, hm⟩ := k; exact DataW.trod_lt m _ _ _ hm
  obtain ⟨x2, g2, k2⟩ := Ab.open_arg (S := Ab.Tryz.seat) (sh := (.sl .int)) (by kernel_rfl) (hval 2 _ v2 rfl rfl) h2
  have lt2 : ∀ x ∈ p2, x.block < W.heap.size := by have k := h2; obtain ⟨m, hm⟩ := k; exact DataW.trod_lt m _ _ _ hm
  obtain ⟨x3, g3, k3⟩ := Ab.open_arg (S := Ab.Tryz.seat) (sh := .int) (by kernel_rfl) (hval 3 _ v3 rfl rfl) h3
  have lt3 : ∀ x ∈ p3, x.block < W.heap.size := by have k := h3; obtain ⟨m, hm⟩ := k; exact DataW.trod_lt m _ _ _ hm
  obtain ⟨x4, g4, k4⟩ := Ab.open_arg (S := Ab.Tryz.seat) (sh := .int) (by kernel_rfl) (hval 4 _ v4 rfl rfl) h4
  have lt4 : ∀ x ∈ p4, x.block < W.heap.size := by have k := h4; obtain ⟨m, hm⟩ := k; exact DataW.trod_lt m _ _ _ hm
  obtain ⟨x5, g5, k5⟩ := Ab.open_arg (S := Ab.Tryz.seat) (sh := .int) (by kernel_rfl) (hval 5 _ v5 rfl rfl) h5
  have lt5 : ∀ x ∈ p5, x.block < W.heap.size := by have k := h5; obtain ⟨m, hm⟩ := k; exact DataW.trod_lt m _ _ _ hm
  have hH : TryzStr.hold W := ziO hL
  have hinv : Ab.Inv Ab.Tryz.seat W := ⟨fun p hp => (by cases hp), TryzStr.more_lt hH, hH⟩
  have walk : Calls Tryz.prog 3 #[v0, v1, v2, v3, v4, v5] W fun e w' => e = .returned (.bool true) ∧ Below W.heap.size W w' :=
    Ab.law_calls (S := Ab.Tryz.seat) (A := fun b => b < W.heap.size) (id := 402) (args := Ab.encAL [(.st .outl), (.sl .entry), (.sl .int), .int, .int, .int] (x0, x1, x2, x3, x4, x5)) (by kernel_rfl) (Ab.Tryz.R402 (x0, x1, x2, x3, x4, x5) true (Ab.p402 x0 g0 x1 g1 x2 g2.1 x3 x4 x5)) rfl ⟨fun b hb => hb, hinv⟩ fun i c hc => by
      rcases i with _ | _ | _ | _ | _ | _ | i
      · obtain rfl := Option.some.inj (show some (Ab.encA (.st .outl) x0) = some c from hc); exact k0
      · obtain rfl := Option.some.inj (show some (Ab.encA (.sl .entry) x1) = some c from hc); exact k1
      · obtain rfl := Option.some.inj (show some (Ab.encA (.sl .int) x2) = some c from hc); exact k2
      · obtain rfl := Option.some.inj (show some (Ab.encA .int x3) = some c from hc); exact k3
      · obtain rfl := Option.some.inj (show some (Ab.encA .int x4) = some c from hc); exact k4
      · obtain rfl := Option.some.inj (show some (Ab.encA .int x5) = some c from hc); exact k5
      · exact absurd hc (by simp [Ab.encAL])
  refine walk.mono fun e W' ⟨he, bel⟩ => ?_
  subst he
  exact ⟨_, rfl, _, _, _, [], _, [], hW', trodAll_mk1 (shut_bool Tryz.underlying4 _), (trodAll_cons_mk (Below.trod zcz (by kernel_rfl) (of_decide_eq_true (by kernel_rfl)) h0 bel lt0) (trodAll_cons_mk (Below.trod zcz (by kernel_rfl) (of_decide_eq_true (by kernel_rfl)) h1 bel lt1) (trodAll_cons_mk (Below.trod zcz (by kernel_rfl) (of_decide_eq_true (by kernel_rfl)) h2 bel lt2) (trodAll_cons_mk (Below.trod zcz (by kernel_rfl) (of_decide_eq_true (by kernel_rfl)) h3 bel lt3) (trodAll_cons_mk (Below.trod zcz (by kernel_rfl) (of_decide_eq_true (by kernel_rfl)) h4 bel lt4) (trodAll_cons_mk (Below.trod zcz (by kernel_rfl) (of_decide_eq_true (by kernel_rfl)) h5 bel lt5) trodAll_mk0)))))), rfl, bel.frame _, fun h => by cases h⟩
theorem holds : Rows.TopSpreadSaid :=
  OpenClaim.holds_of_wide 3 Tryz.f3 rfl rfl rfl rfl rfl rfl rfl ⟨rfl, rfl, rfl, rfl, rfl⟩ rfl rfl rfl rfl rfl (by as_aux_lemma => kernel_rfl) Tryz.func3 closed
    (of_decide_eq_true (by as_aux_lemma => kernel_rfl)) (by unfold Func.isWrapper; first | (rw [if_pos (by decide +kernel)]; kernel_rfl) | (rw [if_neg (by decide +kernel)]; exact ⟨rfl, rfl⟩))
    (fun os started H enc _ => lifted os started H enc)
theorem proved : Rows.TopSpreadCardSaid :=
  Claim7.holds_tied_plain_at .later [] [.data, .data, .data, .sentinel, .sentinel] true (true, "fd74c2b88fe01ab7f5336ae096f7e1976ed89b972316d9dcbcee1be2602422e7") true
    holds (fun _ h => by cases h) (by kernel_rfl) (fun _ h => by cases h) topSpread_row_tie rfl ⟨rfl, rfl⟩ (by kernel_rfl) rfl
    (fun f fn hf hfn => by
      obtain rfl : f = 3 := Option.some.inj ((show Tryz.prog.funcNamed "tallyhall/tallytop.TopSpread" = some 3 by kernel_rfl).symm.trans hf) |>.symm
      obtain rfl : fn = Tryz.f3 := (Option.some.inj (Tryz.func3.symm.trans hfn)).symm
      exact ⟨by kernel_rfl, fun j t ht => by
        rw [Tryz.params3] at ht
        have hm : t ∈ [24, 25, 27, 3, 3, 3] := by simpa using Array.mem_of_getElem? ht
        have hall : ([24, 25, 27, 3, 3, 3].all fun u => !Tryz.prog.wantsStandIn u) = true := by kernel_rfl
        exact (show Tryz.prog.wantsStandIn t = false by simpa using List.all_eq_true.1 hall t hm)⟩)
    (by kernel_rfl)
#print axioms proved
end Go.Proofs.YtckaniphjiniiaaGreatDoor.topSpreadDone
