/-
  Proved here: the law tallyhall/tallylaw1.PlaceBack returns true and changes nothing that was there (the tied card PlaceBackUptoCardSaid).
-/
import Derived.Test.YthjpciiacibnhaaDoorLF
import Derived.Test.YthjpciiacibnhaaDoorV116
import Derived.Test.YthjpciiacibnhaaDoorQ116
import Derived.Test.YthjpciiacibnhaaDoorMZu
import Derived.Test.YthjpciiacibnhaaDoorTie
import Derived.Test.YthjpciiacibnhaaDoorCards
import Derived.SevenTiedAt
import Derived.WalkKit
import Derived.ProofKit
import Derived.OpenShut
import Derived.ShutString
import Derived.ChangeOld
import Derived.Below
import Derived.Deep.DeepHandedRow
import Derived.ChangeMaps5
import Derived.SizedLaws
namespace Go.Proofs.YthjpciiacibnhaaDoor.placeBackDone
open Go.ChangeShapes Go.WideShapes Go.ChangeAt Go.RowKit
open YthjpciiacibnhaaDoorSep
set_option linter.unusedVariables false

theorem reads (os : Os) {H : Type} (enc : TypeId × Value → H) : ∃ places, DataW.whole enc Tryd.prog ((laidWorld os).forCall (fun _ _ => 0) ⟨#[], #[.agg #[.slice none 0 0], .slice none 0 0, .int .i64 0, .string ⟨#[]⟩], []⟩).memory Tryd.f4.params.toList Rows.placeBackSpec.vars false #[Value.agg #[.slice none 0 0], .slice none 0 0, .int .i64 0, .string ⟨#[]⟩].toList 8 = some ([.agg [.nil], .nil, .lit (.int .i64 0), .lit (.string [])], [], places) :=
  ⟨[], by kernel_rfl⟩

set_option maxRecDepth 100000 in
theorem lifted (os : Os) (started : os.Started) (H : Type) (enc : TypeId × Value → H) (F : Stop.Interp) :
    ReturnsInHanded {} Tryd.checked os 4 .any ((Rows.OpenSpec.upto Rows.placeBackSpec).preRow enc Tryd.prog Tryd.f4 Rows.placeBackUptoRow.domain false Rows.placeBackUptoRow.laid) (((Rows.OpenSpec.upto Rows.placeBackSpec).at F).post enc Tryd.prog Tryd.f4 false true false false) := by
  obtain ⟨places, hx⟩ := reads os enc
  refine returnsInHanded_of_row (C := Tryd.checked) (s := Rows.OpenSpec.upto Rows.placeBackSpec) own started (by kernel_rfl) Tryd.func4
    (witness_row_at (enc := enc) (C := Tryd.checked) false (laidWorld os) #[.agg #[.slice none 0 0], .slice none 0 0, .int .i64 0, .string ⟨#[]⟩] rfl (by kernel_rfl) (by kernel_rfl) (by kernel_rfl)
      (OpenSpec.preRow_of_cond 8 hx (by kernel_rfl) (fun k hk => by cases hk; kernel_rfl) (by kernel_rfl) (metBack os _))) ?_
  intro W base args ds gs before hval0 hW _ hcond _ hL hsh _
  have hval : ∀ (j : Nat) t v, Tryd.f4.params[j]? = some t → args[j]? = some v → Value.okWide Tryd.prog W .any base t v := hval0
  have hW' := hW
  obtain ⟨p, q, hA0, hV, rfl, hfz, hnd⟩ := hW
  have hA : DataW.TrodAll enc Tryd.prog W 0 (fun _ => true) true Tryd.f4.params.toList args.toList ds p := hA0
  rw [Tryd.params4] at hA hval
  clear hA0 hval0
  obtain ⟨v0, vs0, d0, ds0, p0, q0, hargs, rfl, rfl, h0, r0⟩ := trodAll_cons hA
  obtain ⟨v1, vs1, d1, ds1, p1, q1, rfl, rfl, rfl, h1, r1⟩ := trodAll_cons r0
  obtain ⟨v2, vs2, d2, ds2, p2, q2, rfl, rfl, rfl, h2, r2⟩ := trodAll_cons r1
  obtain ⟨v3, vs3, d3, ds3, p3, q3, rfl, rfl, rfl, h3, r3⟩ := trodAll_cons r2
  obtain ⟨rfl, rfl, rfl⟩ := trodAll_nil r3
  obtain rfl : args = #[v0, v1, v2, v3] := by cases args; simp_all
  obtain ⟨rfl, rfl⟩ := trodVars_none hV
  obtain ⟨s3, rfl, rfl, _, _⟩ := Go.ChangeMaps.open_string Tryd.underlying9 (hval 3 _ v3 rfl rfl) h3
  have hs3 : s3.size ≤ 1048576 := by have h1 := of_decide_eq_true (hcond _ rfl); simp only [Rows.uptoBulkAll, Rows.uptoBulk, List.cons_append, List.nil_append] at h1; have h3 : s3.data.toList.length = s3.size := (by simp); omega
  obtain ⟨x0, g0, k0⟩ := Ab.open_arg (S := Ab.Tryd.seat) (sh := (.st .outl)) (by kernel_rfl) (hval 0 _ v0 rfl rfl) h0
  have lt0 : ∀ x ∈ p0, x.block < W.heap.size := by have k := h0; obtain ⟨m, hm⟩ := k; exact DataW.trod_lt m _ _ _ hm
  obtain ⟨x1, g1, k1⟩ := Ab.open_arg (S := Ab.Tryd.seat) (sh := (.sl .int)) (by kernel_rfl) (hval 1 _ v1 rfl rfl) h1
  have lt1 : ∀ x ∈ p1, x.block < W.heap.size := by have k := h1; obtain ⟨m, hm⟩ := k; exact DataW.trod_lt m _ _ _ hm
  obtain ⟨x2, g2, k2⟩ := Ab.open_arg (S := Ab.Tryd.seat) (sh := .int) (by kernel_rfl) (hval 2 _ v2 rfl rfl) h2
  have lt2 : ∀ x ∈ p2, x.block < W.heap.size := by have k := h2; obtain ⟨m, hm⟩ := k; exact DataW.trod_lt m _ _ _ hm
  obtain ⟨x3, g3, k3⟩ := Ab.open_arg (S := Ab.Tryd.seat) (sh := .str) (by kernel_rfl) (hval 3 _ _ rfl rfl) h3
  obtain rfl : x3 = s3 := by have e := Ab.VR.v_inv (σ := fun _ => none) (.of0 k3); injection e with e; exact e.symm
  have lt3 : ∀ x ∈ p3, x.block < W.heap.size := by have k := h3; obtain ⟨m, hm⟩ := k; exact DataW.trod_lt m _ _ _ hm
  have hH : TrydSep.hold W := TrydSep.hold_of_shaped hsh
  have hinv : Ab.Inv Ab.Tryd.seat W := ⟨fun p hp => (by cases hp), TrydSep.more_lt hH, hH⟩
  have walk : Calls Tryd.prog 4 #[v0, v1, v2, (.string x3)] W fun e w' => e = .returned (.bool true) ∧ Below W.heap.size W w' :=
    Ab.law_calls (S := Ab.Tryd.seat) (A := fun b => b < W.heap.size) (id := 116) (args := Ab.encAL [(.st .outl), (.sl .int), .int, .str] (x0, x1, x2, x3)) (by kernel_rfl) (Ab.Tryd.R116 (x0, x1, x2, x3) true (Ab.p116 x0 x1 g1.1 x2 x3 hs3)) rfl ⟨fun b hb => hb, hinv⟩ fun i c hc => by
      rcases i with _ | _ | _ | _ | i
      · obtain rfl := Option.some.inj (show some (Ab.encA (.st .outl) x0) = some c from hc); exact k0
      · obtain rfl := Option.some.inj (show some (Ab.encA (.sl .int) x1) = some c from hc); exact k1
      · obtain rfl := Option.some.inj (show some (Ab.encA .int x2) = some c from hc); exact k2
      · obtain rfl := Option.some.inj (show some (Ab.encA .str x3) = some c from hc); exact k3
      · exact absurd hc (by simp [Ab.encAL])
  refine walk.mono fun e W' ⟨he, bel⟩ => ?_
  subst he
  exact ⟨_, rfl, _, _, _, [], _, [], hW', trodAll_mk1 (shut_bool Tryd.underlying4 _), (trodAll_cons_mk (Below.trod laidOut (by kernel_rfl) (of_decide_eq_true (by kernel_rfl)) h0 bel lt0) (trodAll_cons_mk (Below.trod laidOut (by kernel_rfl) (of_decide_eq_true (by kernel_rfl)) h1 bel lt1) (trodAll_cons_mk (Below.trod laidOut (by kernel_rfl) (of_decide_eq_true (by kernel_rfl)) h2 bel lt2) (trodAll_cons_mk (Below.trod laidOut (by kernel_rfl) (of_decide_eq_true (by kernel_rfl)) h3 bel lt3) trodAll_mk0)))), rfl, bel.frame _, fun h => by cases h⟩

theorem holds : Rows.PlaceBackUptoSaid :=
  OpenClaim.holds_of_cond 4 Tryd.f4 rfl rfl rfl rfl rfl rfl rfl ⟨rfl, rfl, rfl, rfl, rfl⟩ rfl rfl rfl rfl rfl (by kernel_rfl) Tryd.func4 (by kernel_rfl)
    (of_decide_eq_true (by kernel_rfl)) (by unfold Func.isWrapper; first | (rw [if_pos (by decide +kernel)]; kernel_rfl) | (rw [if_neg (by decide +kernel)]; exact ⟨rfl, rfl⟩))
    (fun os started H enc _ F => by rw [OpenClaim.pre_eq_preRow]; exact lifted os started H enc F)

theorem proved : Rows.PlaceBackUptoCardSaid :=
  Claim7.holds_tied_plain_at .later [] [.data, .pinned] true (true, "07439a52da2259307726a4aeb13e340d05615d2462143036e98b99d416635ca5") true
    holds (fun _ h => by cases h) (by kernel_rfl) (fun _ h => by cases h) placeBackUpto_row_tie rfl ⟨rfl, rfl⟩ (by kernel_rfl) rfl
    (fun f fn hf hfn => by
      obtain rfl : f = 4 := Option.some.inj ((show Tryd.prog.funcNamed "tallyhall/tallylaw1.PlaceBack" = some 4 by kernel_rfl).symm.trans hf) |>.symm
      obtain rfl : fn = Tryd.f4 := (Option.some.inj (Tryd.func4.symm.trans hfn)).symm
      exact ⟨by kernel_rfl, fun j t ht => by
        rw [Tryd.params4] at ht
        have hm : t ∈ [24, 27, 3, 9] := by simpa using Array.mem_of_getElem? ht
        have hall : ([24, 27, 3, 9].all fun u => !Tryd.prog.wantsStandIn u) = true := by kernel_rfl
        exact (show Tryd.prog.wantsStandIn t = false by simpa using List.all_eq_true.1 hall t hm)⟩)
    (by kernel_rfl)
#print axioms proved
end Go.Proofs.YthjpciiacibnhaaDoor.placeBackDone
