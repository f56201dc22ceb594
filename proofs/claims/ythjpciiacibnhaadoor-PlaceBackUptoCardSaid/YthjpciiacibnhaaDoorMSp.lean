/-
  strings.Split and strings.Join as functions of the abstract machine, by what the seat's program is known to answer.
-/
import Derived.Test.YthjpciiacibnhaaDoorB2
import Derived.Lib.Split
import Derived.Lib.SplitLaws
import Derived.Lib.Join
namespace Ab
open Go Go.RowKit
set_option linter.unusedVariables false
set_option linter.unusedSimpArgs false

def splitS (s sep : ByteArray) : List ByteArray := Lib.splitB sep 0 (Lib.countB s sep) s
def joinS (xs : List ByteArray) (sep : ByteArray) : ByteArray := ⟨(Lib.join (xs.map (·.data.toList)) sep.data.toList).toArray⟩
def SplitAt (S : Seat) (id : Nat) : Prop := ∀ g, assoc g S.fns = some id → ∀ (s sep : ByteArray) (w : World), s.size < 4294967281 → 1 ≤ sep.size → S.hold w →
  Calls S.P g #[.string s, .string sep] w fun e w' => e = .returned (.slice (some ⟨w.heap.size, 0, none⟩) (splitS s sep).length (splitS s sep).length) ∧ ∃ T, w' = w.alloc (.cells ((splitS s sep).map Value.string).toArray T)
def JoinAt (S : Seat) (id : Nat) : Prop := ∀ g, assoc g S.fns = some id →
  (∀ (a : Option Addr) (c : Nat) (sep : ByteArray) (w : World), Calls S.P g #[.slice a 0 c, .string sep] w fun e w' => e = .returned (.string ⟨#[]⟩) ∧ w' = w) ∧
  ∀ (bk o c : Nat) (xs : List ByteArray) (sep : ByteArray) (w : World), (∀ (j : Nat) x, xs[j]? = some x → w.cell? ⟨bk, o + j, none⟩ = some (.string x)) → bk < w.heap.size → xs.length ≤ 140737488355328 → xs.length ≤ c → (joinS xs sep).size ≤ 140737488355328 →
    Calls S.P g #[.slice (some ⟨bk, o, none⟩) xs.length c, .string sep] w fun e w' => e = .returned (.string (joinS xs sep)) ∧ KeepO (fun _ => False) w w'

noncomputable def P152 (s sep : ByteArray) : Option (List ByteArray) := ck (decide (s.size < 4294967281 ∧ 1 ≤ sep.size)) (some (splitS s sep))
noncomputable def k152 : CSpec := ⟨152, [.str, .str], .sl .str, fun x => P152 x.1 x.2, false, []⟩
theorem r152 {S : Seat} (h : SplitAt S 152) : Rt S k152 := fun (x : ByteArray × ByteArray) (y : List ByteArray) hy => by
  obtain ⟨s, sep⟩ := x
  obtain ⟨h1, h2⟩ := ck_some (show P152 s sep = some y from hy)
  obtain ⟨h0, h1⟩ := of_decide_eq_true h1
  obtain rfl := Option.some.inj h2
  intro g hg
  show RealM S g [.v (.string s), .v (.string sep)] (.sl 1 ((splitS s sep).map fun x => [AV.v (.string x)])) []
  refine realM_of (fun A w vs hl hA ha => ?_) (by simp [isOwn])
  obtain ⟨x0, x1, rfl⟩ : ∃ x0 x1, vs = #[x0, x1] := by
    obtain ⟨l⟩ := vs
    match l, hl with
    | [x0, x1], _ => exact ⟨x0, x1, rfl⟩
  obtain rfl : x0 = .string s := VR.v_inv (σ := fun _ => none) (.of0 (ha 0 _ rfl))
  obtain rfl : x1 = .string sep := VR.v_inv (σ := fun _ => none) (.of0 (ha 1 _ rfl))
  refine (h g hg s sep w h0 h1 hA.2.2.2).mono ?_
  rintro e w' ⟨rfl, T, rfl⟩
  refine ⟨_, rfl, ⟨rfl, rfl, rfl, by simp, fun k hk _ => by simp [World.alloc, -World.alloc_eq, Array.getElem?_push, Nat.ne_of_lt hk]⟩, fun _ => none, by simp, by simp, rfl, ?_⟩
  have e : (((splitS s sep).map fun x => [AV.v (.string x)]).length) = (splitS s sep).length := by simp
  rw [← e]
  refine .sl (u := fun j => match (splitS s sep)[j]? with | some x => .string x | none => .bool false) ⟨.inr (Nat.le_refl _), by simp, by simp⟩ (Nat.le_refl _) (by simp) (fun j hj => ?_) (fun j hj => ?_) (fun i es c x hes hx => ?_)
  · have hj' : j < (splitS s sep).length := by simpa using hj
    rw [Nat.zero_add, World.cell?_alloc_at _ _ _ _ rfl]
    simp [List.getElem?_eq_getElem hj']
  · split <;> rfl
  · simp only [List.getElem?_map, Option.map_eq_some_iff] at hes
    obtain ⟨y, hy, rfl⟩ := hes
    cases c with
    | zero =>
      cases hx
      simp only [Nat.mul_one, Nat.add_zero, hy]
      exact .v _
    | succ c => simp at hx
noncomputable def P154 (xs : List ByteArray) (sep : ByteArray) : Option ByteArray := ck (decide (xs.length ≤ 140737488355328 ∧ (joinS xs sep).size ≤ 140737488355328)) (some (joinS xs sep))
noncomputable def k154 : CSpec := ⟨154, [.sl .str, .str], .str, fun x => P154 x.1 x.2, false, []⟩
theorem r154 {S : Seat} (h : JoinAt S 154) : Rt S k154 := fun (x : List ByteArray × ByteArray) (y : ByteArray) hy => by
  obtain ⟨xs, sep⟩ := x
  obtain ⟨h1, h2⟩ := ck_some (show P154 xs sep = some y from hy)
  obtain ⟨h0, h1⟩ := of_decide_eq_true h1
  obtain rfl := Option.some.inj h2
  intro g hg
  show RealM S g [.sl 1 (xs.map fun x => [AV.v (.string x)]), .v (.string sep)] (.v (.string _)) []
  refine realM_of (fun A w vs hl hA ha => ?_) (by simp [isOwn])
  obtain ⟨x0, x1, rfl⟩ : ∃ x0 x1, vs = #[x0, x1] := by
    obtain ⟨l⟩ := vs
    match l, hl with
    | [x0, x1], _ => exact ⟨x0, x1, rfl⟩
  have hr : VR0 S A w (.sl 1 (xs.map fun x => [AV.v (.string x)])) x0 := ha 0 _ rfl
  obtain rfl : x1 = .string sep := VR.v_inv (σ := fun _ => none) (.of0 (ha 1 _ rfl))
  obtain ⟨hn, hm⟩ := h g hg
  have fin : ∀ (e : Ending) (w' : World), e = .returned (.string (joinS xs sep)) ∧ KeepO (fun _ => False) w w' → ∃ v, e = .returned v ∧ KeepO (fun _ => False) w w' ∧ RetR S A w w' (.v (.string (joinS xs sep))) v := by
    rintro e w' ⟨rfl, hk⟩
    exact ⟨_, rfl, hk, fun _ => none, by simp, by simp, rfl, .v _⟩
  generalize hxs : (xs.map fun x => [AV.v (.string x)]) = es at hr
  cases hr with
  | sl hb hlen hz hcell hone hval =>
    rename_i b o cap u
    have el : es.length = xs.length := by rw [← hxs]; simp
    rw [el] at hlen hcell ⊢
    refine (hm b o cap xs sep w (fun j x hj => ?_) (hA.1 _ hb) h0 hlen h1).mono fin
    have hj' : j < xs.length := (List.getElem?_eq_some_iff.1 hj).1
    rw [hcell j (by omega)]
    have := hval j [AV.v (.string x)] 0 (.v (.string x)) (by rw [← hxs]; simp [hj]) rfl
    rw [Nat.mul_one, Nat.add_zero] at this
    rw [VR.v_inv (σ := fun _ => none) (.of0 this)]
  | slnil _ =>
    have : xs = [] := by cases xs with | nil => rfl | cons a l => simp at hxs
    subst this
    exact (hn none 0 sep w).mono fun e w' ⟨he, hw⟩ => fin e w' ⟨he, hw ▸ .refl _ _⟩
  | slemp _ a cap =>
    have : xs = [] := by cases xs with | nil => rfl | cons a l => simp at hxs
    subst this
    exact (hn (some a) cap sep w).mono fun e w' ⟨he, hw⟩ => fin e w' ⟨he, hw ▸ .refl _ _⟩
end Ab
