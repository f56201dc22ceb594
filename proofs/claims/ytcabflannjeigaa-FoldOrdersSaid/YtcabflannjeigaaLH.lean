/-
  How long a slice is that comes in, by its reading.
-/
import Derived.Test.YtcabflannjeigaaLF
import Derived.ChangeArms
namespace Ab
open Go
set_option linter.unusedVariables false

theorem sl_bound {S : Seat} {A : Nat → Prop} {W : World} {H : Type} {enc : TypeId × Value → H} {P : Program} {base : Nat} {sp : Nat → Bool} {held : Bool} {t e : TypeId} {v : Value} {d : DataW H} {p : List MemPlace} {ty : Ty} {x : List ty.den}
    (k : VR0 S A W (encA (.sl ty) x) v) (h : DataW.Trod enc P W base sp held t v d p) (ht : P.underlying t = some (.slice e)) :
    x = [] ∨ ∃ es spare, d = .slice es spare ∧ es.length = x.length := by
  obtain ⟨fuel, hf⟩ := h
  have k' : VR0 S A W (.sl ty.z (x.map ty.cells)) v := k
  generalize hes : x.map ty.cells = es at k'
  have hl : es.length = x.length := by rw [← hes]; simp
  rcases DataW.trod_slice ht hf with ⟨h1, h2⟩ | ⟨a, len, cap, elems, rest, n, _, h1, h2, _, _, _, h3, _⟩
  · left
    cases k' with
    | sl hb hlen hz hcell hone hval =>
      simp [Value.cells] at h1
    | slnil _ => exact List.eq_nil_of_length_eq_zero hl.symm
    | slemp _ a cap => exact List.eq_nil_of_length_eq_zero hl.symm
  · right
    have hd : d = .slice (elems.map (·.1)) (rest.map (·.1)) := congrArg Prod.fst h2
    refine ⟨_, _, hd, ?_⟩
    rw [List.length_map, h3]
    cases k' with
    | sl hb hlen hz hcell hone hval =>
      simp only [Value.cells, List.cons.injEq, Value.slice.injEq, and_true] at h1
      omega
    | slnil _ => simp [Value.cells] at h1
    | slemp _ a' cap' =>
      simp only [Value.cells, List.cons.injEq, Value.slice.injEq, and_true] at h1
      simp at hl
      omega
end Ab
