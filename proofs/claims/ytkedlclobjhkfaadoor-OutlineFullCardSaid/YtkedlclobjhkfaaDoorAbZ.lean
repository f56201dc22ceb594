/-
  From an answer in the abstract machine to a call that a row's statement asks for.
-/
import Derived.Test.YtkedlclobjhkfaaDoorAbS
import Derived.Below
namespace Ab
open Go Go.RowKit

/-- A law that answers true does, and leaves what was there as it was. -/
theorem law_calls {S : Seat} {g id : Nat} (hg : assoc g S.fns = some id) {args : List AV} (h : (realRets S).ret id args (.v (.bool true)) []) {A : Nat → Prop} {w : World} {vs : Array Value} (hl : vs.size = args.length) (hA : (∀ b, A b → b < w.heap.size) ∧ Inv S w)
    (ha : ∀ (i : Nat) (x : AV), args[i]? = some x → VR0 S A w x (vs.getD i undef)) : Calls S.P g vs w fun e w' => e = .returned (.bool true) ∧ Below w.heap.size w w' := by
  refine ((h g hg).2 A w vs hl hA ha).mono fun e w' ⟨v, he, hk, hr⟩ => ?_
  obtain ⟨β, _, _, _, hv⟩ := hr
  have : v = .bool true := (VR.of0 (σ := fun _ => none) hv).v_inv
  subst this
  exact ⟨he, ⟨hk.os, hk.tape, hk.output, hk.size, fun k hk' => hk.block k hk' fun e => e⟩⟩
end Ab
