/-
  Typed values over the abstract machine: what is shown of one function at a time; and laws for loops and ways, for plain reasoning.
-/
import Derived.Test.YtkedlclobjhkfaaDoorTK
import Derived.Test.YtkedlclobjhkfaaDoorAbY
namespace Ab
open Go Go.RowKit
set_option linter.unusedVariables false

section
variable {S : Seat}
def Ok1 (S : Seat) (id : Nat) (f : TFunc) : Prop := Ok (fun i => if i = id then some f.er else none) (realRets S)
def Rt (S : Seat) (c : CSpec) : Prop := ∀ x y, c.fn x = some y → (realRets S).ret c.f (encAL c.sig x) (encA c.res y) []
theorem CSound.nil : CSound S [] := fun c hc => by cases hc
theorem CSound.cons {c : CSpec} {r : List CSpec} (h : Rt S c) (hr : CSound S r) : CSound S (c :: r) := fun c' hc => by
  rcases List.mem_cons.1 hc with rfl | hc
  · exact h
  · exact hr c' hc
theorem Ok1.sound {id : Nat} {f : TFunc} {C : List CSpec} {sig : List Sh} {rs : Sh} (h : Ok1 S id f) (hC : CSound S C) (h1 : sig.all Sh.arg = true) (h2 : sig.length = f.np) (h3 : rs.ans = true) {x : Sh.denL sig} {y : rs.den} (hr : f.run C sig rs x = some y) :
    (realRets S).ret id (encAL sig x) (encA rs y) [] := tfun_sound h hC (if_pos rfl) h1 h2 h3 hr
theorem assoc_mem : ∀ (l : List (Nat × Nat)) (k v : Nat), assoc k l = some v → (k, v) ∈ l
  | [], _, _, h => by cases h
  | (a, b) :: r, k, v, h => by
    simp only [assoc] at h
    split at h
    · rename_i e; subst e; cases h; exact List.mem_cons_self
    · exact List.mem_cons_of_mem _ (assoc_mem r k v h)
def only (g id : Nat) (l : List (Nat × Nat)) : Bool := l.all fun p => match Nat.beq p.2 id with | true => Nat.beq p.1 g | false => true
theorem ok1_of (hS : Callable S) {g id : Nat} {fn : Func} {f : TFunc} (h1 : S.P.funcs[g]? = some fn) (h2 : cFunc S id fn = some f.er) (h3 : only g id S.fns = true) : Ok1 S id f := by
  refine ok_of hS (fun g' id' h f' hf => ?_) fun _ _ _ => .inr (drawOk hS)
  split at hf
  · rename_i e
    subst e
    cases hf
    have := List.all_eq_true.1 h3 _ (assoc_mem _ _ _ h)
    simp only [Nat.beq_refl] at this
    obtain rfl := Nat.eq_of_beq_eq_true this
    exact ⟨fn, h1, h2⟩
  · cases hf
/-- Whether all of a seat's named functions may be called. -/
def callB (P : Program) (l : List (Nat × Nat)) : Bool := l.all fun p => match P.funcs[p.1]? with | some fn => fn.body.isSome && !(fn.name == "runtime.NumGoroutine") | none => false
theorem callable_of (h : callB S.P S.fns = true) : Callable S := by
  intro g id hg
  have := List.all_eq_true.1 h _ (assoc_mem _ _ _ hg)
  simp only at this
  split at this
  · rename_i fn hf
    simp only [Bool.and_eq_true, Bool.not_eq_true'] at this
    exact ⟨fn, hf, this.1, this.2⟩
  · cases this
end

end Ab
