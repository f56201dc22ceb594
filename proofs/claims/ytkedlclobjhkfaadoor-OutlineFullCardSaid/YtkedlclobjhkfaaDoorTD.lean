/-
  Typed values over the abstract machine: shapes, what they are read from and what they are.
-/
import Derived.Test.YtkedlclobjhkfaaDoorTC
namespace Ab
open Go Go.RowKit
set_option linter.unusedVariables false
set_option linter.unusedSimpArgs false
set_option linter.unnecessarySimpa false

/-! ### lists of values, one by one -/
def PN (as bs : List AV) : Prop := as.length = bs.length ∧ ∀ (i : Nat) (x y : AV), as[i]? = some x → bs[i]? = some y → Nz x y
theorem PN.nil : PN [] [] := ⟨rfl, fun i x y h => by simp at h⟩
theorem PN.cons {x y : AV} {as bs : List AV} (h : Nz x y) (hr : PN as bs) : PN (x :: as) (y :: bs) :=
  ⟨by simp [hr.1], fun i a b ha hb => by
    cases i with
    | zero => simp at ha hb; subst ha; subst hb; exact h
    | succ i => simp at ha hb; exact hr.2 i a b ha hb⟩
theorem PN.rfl (as : List AV) : PN as as := ⟨by simp, fun i x y h h1 => by rw [h] at h1; cases h1; exact .inl (Eq.refl _)⟩
def PK (as bs : List AV) : Prop := as.length = bs.length ∧ ∀ (i : Nat) (x y : AV), as[i]? = some x → bs[i]? = some y → Wk (fun _ => False) x y
theorem PK.nil : PK [] [] := ⟨rfl, fun i x y h => by simp at h⟩
theorem PK.cons {x y : AV} {as bs : List AV} (h : Wk (fun _ => False) x y) (hr : PK as bs) : PK (x :: as) (y :: bs) :=
  ⟨by simp [hr.1], fun i a b ha hb => by
    cases i with
    | zero => simp at ha hb; subst ha; subst hb; exact h
    | succ i => simp at ha hb; exact hr.2 i a b ha hb⟩
theorem PN.pk {as bs : List AV} (h : PN as bs) : PK as bs := ⟨h.1, fun i x y hx hy => (h.2 i x y hx hy).wk⟩

/-! ### what a shape's value is in the abstract machine -/
mutual
def encA : (sh : Sh) → sh.den → AV
  | .int, n => aI n
  | .u8, n => aU n
  | .bool, b => aB b
  | .str, s => aS s
  | .err, e => Err.av e
  | .unit, _ => .tup []
  | .sl t, xs => .sl t.z (List.map t.cells xs)
  | .ns _, none => aN
  | .ns t, some xs => .sl t.z (List.map t.cells xs)
  | .st t, x => .agg (t.cells x)
  | .bx t, x => .ep (t.cells x) 0
  | .own t, xs => .own t.z (List.map t.cells xs)
  | .fnc id caps, x => .fn id (encAL caps x)
  | .tp l, x => .tup (encAL l x)
def encAL : (l : List Sh) → Sh.denL l → List AV
  | [], _ => []
  | [x], v => [encA x v]
  | x :: y :: r, v => encA x v.1 :: encAL (y :: r) v.2
end

theorem dI_some {x : TV} {n : Int} (h : dI x = some n) : x = .i n := by cases x <;> simp_all [dI]
theorem dU_some {x : TV} {n : Int} (h : dU x = some n) : x = .u n := by cases x <;> simp_all [dU]
theorem dB_some {x : TV} {n : Bool} (h : dB x = some n) : x = .b n := by cases x <;> simp_all [dB]
theorem dS_some {x : TV} {n : ByteArray} (h : dS x = some n) : x = .s n := by cases x <;> simp_all [dS]
theorem dE_some {x : TV} {n : Err} (h : dE x = some n) : x = .e n := by cases x <;> simp_all [dE]
theorem castT_some {t t' : Ty} {xs : List t.den} {ys : List t'.den} (h : castT t' xs = some ys) : ∃ e : t = t', ys = e ▸ xs := by
  unfold castT at h
  split at h
  · rename_i e; exact ⟨e, (Option.some.inj h).symm⟩
  · cases h
theorem castE_some {t t' : Ty} {x : t.den} {y : t'.den} (h : castE t' x = some y) : ∃ e : t = t', y = e ▸ x := by
  unfold castE at h
  split at h
  · rename_i e; exact ⟨e, (Option.some.inj h).symm⟩
  · cases h
theorem dSl_ok {t : Ty} {x : TV} {xs : List t.den} (h : dSl t x = some xs) (hp : THp) : Nz (av1 hp x) (.sl t.z (xs.map t.cells)) ∧ (exact1 x = true → av1 hp x = .sl t.z (xs.map t.cells)) ∧ rf1 x = [] ∧ leaf x = true ∧ live1 [] x = true ∧ ok1 x = true := by
  cases x with
  | nl => simp only [dSl, Option.some.injEq] at h; subst h; exact ⟨.inr ⟨rfl, _, rfl⟩, fun h => by simp [exact1] at h, rfl, rfl, rfl, rfl⟩
  | sl t' ys => obtain ⟨rfl, rfl⟩ := castT_some h; exact ⟨.inl rfl, fun _ => rfl, rfl, rfl, rfl, rfl⟩
  | ns t' y =>
    cases y with
    | none => simp only [dSl, Option.some.injEq] at h; subst h; exact ⟨.inr ⟨rfl, _, rfl⟩, fun h => by simp [exact1] at h, rfl, rfl, rfl, rfl⟩
    | some ys => obtain ⟨rfl, rfl⟩ := castT_some h; exact ⟨.inl rfl, fun h => by simp [exact1] at h, rfl, rfl, rfl, rfl⟩
  | _ => simp [dSl] at h
theorem dNs_ok {t : Ty} {x : TV} {y : Option (List t.den)} (h : dNs t x = some y) (hp : THp) : av1 hp x = encA (.ns t) y ∧ rf1 x = [] ∧ leaf x = true ∧ live1 [] x = true ∧ ok1 x = true := by
  cases x with
  | nl => simp only [dNs, Option.some.injEq] at h; subst h; exact ⟨rfl, rfl, rfl, rfl, rfl⟩
  | sl t' ys =>
    simp only [dNs] at h
    split at h
    · rename_i zs hz
      obtain ⟨rfl, rfl⟩ := castT_some hz
      cases h
      exact ⟨rfl, rfl, rfl, rfl, rfl⟩
    · cases h
  | ns t' z =>
    simp only [dNs] at h
    obtain ⟨e, rfl⟩ := castE_some h
    cases e
    cases z <;> exact ⟨rfl, rfl, rfl, rfl, rfl⟩
  | _ => simp [dNs] at h

/-- The cells of a struct: each a leaf that leads nowhere. -/
def Flat1 (x : TV) : Prop := rf1 x = [] ∧ leaf x = true ∧ live1 [] x = true ∧ ok1 x = true
structure UnOk (hp : THp) (ty : Ty) (cs : List TV) (x : ty.den) : Prop where
  pn : PN (cs.map (av1 hp)) (ty.cells x)
  ex : cs.all exact1 = true → cs.map (av1 hp) = ty.cells x
  flat : ∀ y ∈ cs, Flat1 y
theorem flatI (n : Int) : Flat1 (.i n) := ⟨rfl, rfl, rfl, rfl⟩
theorem flatB (n : Bool) : Flat1 (.b n) := ⟨rfl, rfl, rfl, rfl⟩
theorem flatS (n : ByteArray) : Flat1 (.s n) := ⟨rfl, rfl, rfl, rfl⟩
theorem unTv_ok {ty : Ty} {cs : List TV} {x : ty.den} (h : unTv ty cs = some x) (hp : THp) : UnOk hp ty cs x := by
  unfold unTv at h
  split at h
  · obtain rfl := dI_some h; exact ⟨.rfl _, fun _ => rfl, by simp [flatI]⟩
  · obtain rfl := dB_some h; exact ⟨.rfl _, fun _ => rfl, by simp [flatB]⟩
  · obtain rfl := dS_some h; exact ⟨.rfl _, fun _ => rfl, by simp [flatS]⟩
  · split at h
    · rename_i h1 h2; obtain rfl := dI_some h1; obtain rfl := dI_some h2; cases h; exact ⟨.rfl _, fun _ => rfl, by simp [flatI]⟩
    · cases h
  · split at h
    · rename_i h1 h2 h3 h4; obtain rfl := dS_some h1; obtain rfl := dI_some h2; obtain rfl := dI_some h3; obtain rfl := dS_some h4; cases h; exact ⟨.rfl _, fun _ => rfl, by simp [flatI, flatS]⟩
    · cases h
  · split at h
    · rename_i h1 h2 h3; obtain rfl := dS_some h1; obtain rfl := dI_some h2
      obtain ⟨k1, k2, k3⟩ := dSl_ok h3 hp
      cases h
      exact ⟨.cons (.inl rfl) (.cons (.inl rfl) (.cons k1 .nil)), fun he => by simp at he; simp only [List.map_cons, List.map_nil, k2 he.2.2]; rfl, by simp [flatI, flatS]; exact k3⟩
    · cases h
  · obtain ⟨k1, k2, k3⟩ := dSl_ok h hp
    exact ⟨.cons k1 .nil, fun he => by simp at he; simp only [List.map_cons, List.map_nil, k2 he]; rfl, by simp; exact k3⟩
  · split at h
    · rename_i h1 h2 h3 h4 h5; obtain rfl := dI_some h1; obtain rfl := dI_some h2; obtain rfl := dS_some h3; obtain rfl := dI_some h4; obtain rfl := dI_some h5; cases h; exact ⟨.rfl _, fun _ => rfl, by simp [flatI, flatS]⟩
    · cases h
  · split at h
    · rename_i h1 h2; obtain rfl := dI_some h2
      obtain ⟨k1, k2, k3⟩ := dSl_ok h1 hp
      cases h
      exact ⟨.cons k1 (.cons (.inl rfl) .nil), fun he => by simp at he; simp only [List.map_cons, List.map_nil, k2 he.1]; rfl, by simp [flatI]; exact k3⟩
    · cases h
  · split at h
    · rename_i h1 h2 h3; obtain rfl := dI_some h2; obtain rfl := dB_some h3
      obtain ⟨k1, k2, k3⟩ := dSl_ok h1 hp
      cases h
      exact ⟨.cons k1 (.cons (.inl rfl) (.cons (.inl rfl) .nil)), fun he => by simp at he; simp only [List.map_cons, List.map_nil, k2 he.1]; rfl, by simp [flatI, flatB]; exact k3⟩
    · cases h
  · split at h
    · rename_i h1 h2 h3 h4 h5 h6; obtain rfl := dI_some h1; obtain rfl := dI_some h2; obtain rfl := dI_some h3; obtain rfl := dS_some h4; obtain rfl := dI_some h5; obtain rfl := dI_some h6; cases h; exact ⟨.rfl _, fun _ => rfl, by simp [flatI, flatS]⟩
    · cases h
  · split at h
    · rename_i h1 h2 h3
      obtain ⟨k1, k2, k3⟩ := dSl_ok h1 hp
      obtain ⟨l1, l2, l3⟩ := dSl_ok h2 hp
      obtain ⟨m1, m2, m3⟩ := dSl_ok h3 hp
      cases h
      exact ⟨.cons k1 (.cons l1 (.cons m1 .nil)), fun he => by simp at he; simp only [List.map_cons, List.map_nil, k2 he.1, l2 he.2.1, m2 he.2.2]; rfl, by simp; exact ⟨k3, l3, m3⟩⟩
    · cases h
  · split at h
    · rename_i h1 h2 h3; obtain rfl := dS_some h1; obtain rfl := dI_some h2; obtain rfl := dI_some h3; cases h; exact ⟨.rfl _, fun _ => rfl, by simp [flatI, flatS]⟩
    · cases h
  · obtain ⟨k1, k2, k3⟩ := dSl_ok h hp
    exact ⟨.cons k1 .nil, fun he => by simp at he; simp only [List.map_cons, List.map_nil, k2 he]; rfl, by simp; exact k3⟩
  · obtain ⟨k1, k3⟩ := dNs_ok h hp
    rename_i t a
    have e : Ty.cells (.ns t) x = [encA (.ns t) x] := by cases x <;> rfl
    exact ⟨by rw [e]; simp only [List.map_cons, List.map_nil, k1]; exact .rfl _, fun _ => by rw [e]; simp only [List.map_cons, List.map_nil, k1], by simp; exact k3⟩
  · cases h

theorem tvs_av (t : Ty) (x : t.den) (h : THp) : (tvs t x).map (av1 h) = t.cells x ∧ ∀ y ∈ tvs t x, Flat1 y ∧ ok1 y = true := by
  cases t <;> (try exact ⟨rfl, by simp [tvs, Flat1, rf1, leaf, live1, ok1]⟩)
  rename_i t
  cases x <;> exact ⟨rfl, by simp [tvs, Flat1, rf1, leaf, live1, ok1]⟩
theorem tvs_len (t : Ty) (x : t.den) : (tvs t x).length = (t.cells x).length := by
  have := congrArg List.length (tvs_av t x []).1
  simpa using this

/-! ### reading -/

/-- The heap, as the abstract machine has it. -/
def hpA (h : THp) : Nat → Option Blk := fun r => blk h (look r .gone h)
theorem toA_hpA (s : TSt) : s.toA.hp = hpA s.hp := rfl

theorem sl_row {h : THp} {s v : Nat} (hl : lv1 h (.lw s v) = .lw s v) : ∃ t xs, look s .gone h = .row v t xs := by
  cases hq : look s .gone h with
  | row v' t xs =>
    cases hb : v.beq v' with
    | true => rw [beq_iff] at hb; subst hb; exact ⟨t, xs, rfl⟩
    | false => simp [lv1, hq, hb] at hl
  | frz v' t xs => cases hb : v.beq v' <;> simp [lv1, hq, hb] at hl
  | _ => simp [lv1, hq] at hl
theorem sl_live {h : THp} {x : TV} (hl : lv1 h x = x) : live1 h x = true := by rw [← hl]; exact live_lv1 h x
theorem ok1_cell1 {h : THp} {x : TV} (hx : ok1 x = true) (hl : lv1 h x = x) : (av1 h x).cell1 = true := by
  cases x with
  | lw s v => obtain ⟨t, xs, hq⟩ := sl_row hl; simp [av1, hq, AV.cell1]
  | ls s v off len => have hl := sl_live hl; cases hq : look s .gone h <;> simp_all [live1, av1, AV.cell1]
  | pe s v i off => have hl := sl_live hl; cases hq : look s .gone h <;> simp_all [live1, av1, AV.cell1]
  | pv s off => rfl
  | e x => cases x <;> rfl
  | ns t x => cases x <;> rfl
  | k x =>
    simp only [ok1] at hx
    split at hx
    · rfl
    · rfl
    · cases hx
  | bot => simp [ok1] at hx
  | ud => simp [ok1] at hx
  | ag => simp [ok1] at hx
  | tp => simp [ok1] at hx
  | fn => simp [ok1] at hx
  | _ => rfl
theorem ok1_leaf {x : TV} (hx : ok1 x = true) : leaf x = true := by cases x <;> first | rfl | simp [ok1] at hx

theorem snap1_ok {h : THp} {x : TV} (hl : lv1 h x = x) (hf : ok1 (snapT h x) = true) : snap1 (hpA h) (av1 h x) = some (av1 h (snapT h x)) := by
  cases x with
  | lw s v =>
    obtain ⟨t, xs, hq⟩ := sl_row hl
    simp [snapT, hq, av1, snap1, hpA, blk, List.take_of_length_le]
  | ls s v off len => simp [snapT, ok1] at hf
  | pe s v i off => simp [snapT, ok1] at hf
  | pv s off => simp [snapT, ok1] at hf
  | e x => cases x <;> rfl
  | ns t x => cases x <;> rfl
  | ag => simp [lv1] at hl
  | tp => simp [lv1] at hl
  | fn => simp [lv1] at hl
  | bot => simp [snapT, ok1] at hf
  | ud => simp [snapT, ok1] at hf
  | _ => rfl
theorem snap2_ok {h : THp} {x : TV} (hl : lv1 h x = x) (hf : ok1 (snapT h x) = true) : snap2 (hpA h) (av1 h x) = some (av1 h (snapT h x)) := by
  rw [← snap1_ok hl hf]
  cases x with
  | pv s off => simp [snapT, ok1] at hf
  | lw s v => cases hq : look s .gone h <;> simp [av1, hq, snap2]
  | ls s v off len => simp [snapT, ok1] at hf
  | pe s v i off => simp [snapT, ok1] at hf
  | e x => cases x <;> rfl
  | ns t x => cases x <;> rfl
  | _ => rfl

theorem optAll_of {α β : Type} {f : α → Option β} {g : α → β} : ∀ {l : List α}, (∀ y ∈ l, f y = some (g y)) → optAll f l = some (l.map g)
  | [], _ => rfl
  | a :: r, h => by simp only [optAll, h a List.mem_cons_self, optAll_of fun y hy => h y (List.mem_cons_of_mem _ hy), List.map_cons]
theorem optAll_map {α β γ : Type} {f : β → Option γ} {g : α → β} : ∀ {l : List α}, optAll f (l.map g) = optAll (fun x => f (g x)) l
  | [] => rfl
  | a :: r => by simp only [List.map_cons, optAll, optAll_map]

theorem map_id_of {α : Type} {f : α → α} : ∀ {l : List α}, l.map f = l → ∀ y ∈ l, f y = y
  | a :: r, h, y, hy => by
    simp only [List.map_cons, List.cons.injEq] at h
    rcases List.mem_cons.1 hy with rfl | hy
    · exact h.1
    · exact map_id_of h.2 y hy
theorem lv2_ag {h : THp} {cs : List TV} (hl : lv2 h (.ag cs) = .ag cs) : ∀ y ∈ cs, lv1 h y = y := by
  simp only [lv2] at hl
  split at hl
  · exact map_id_of (TV.ag.inj hl)
  · cases hl
theorem lv_ag {h : THp} {cs : List TV} (hl : lv h (.ag cs) = .ag cs) : ∀ y ∈ cs, lv1 h y = y := lv2_ag hl
theorem lv_tp {h : THp} {cs : List TV} (hl : lv h (.tp cs) = .tp cs) : ∀ y ∈ cs, lv2 h y = y := by
  simp only [lv] at hl
  split at hl
  · exact map_id_of (TV.tp.inj hl)
  · cases hl
theorem lv_fn {h : THp} {f : Nat} {cs : List TV} (hl : lv h (.fn f cs) = .fn f cs) : ∀ y ∈ cs, lv2 h y = y := by
  simp only [lv] at hl
  split at hl
  · exact map_id_of (TV.fn.inj hl).2
  · cases hl
theorem lv_live1 {h : THp} {x : TV} (hx : leaf x = true) (hl : lv h x = x) : lv1 h x = x := by rwa [lv_leaf hx] at hl
theorem mk_ag {h : THp} {cs : List TV} (hl : ∀ y ∈ cs, lv1 h y = y) : lv2 h (.ag cs) = .ag cs := by
  simp only [lv2, List.all_eq_true.2 fun y hy => sl_live (hl y hy)]
  rw [List.map_congr_left hl, List.map_id']
theorem lv_lv2 {h : THp} {x : TV} (hl : lv2 h x = x) : lv h x = x := by
  by_cases hx : leaf x = true
  · rw [lv_leaf hx]; rwa [lv2_leaf hx] at hl
  · cases x with
    | ag cs => exact hl
    | tp => simp [lv2, lv1] at hl
    | fn => simp [lv2, lv1] at hl
    | _ => simp [leaf] at hx

theorem cellsT_ok {h : THp} {v : TV} {cs : List TV} (hl : lv h v = v) (hc : cellsT v = some cs) : (av h v).cells = some (cs.map (av1 h)) ∧ ∀ y ∈ cs, lv1 h y = y ∧ ok1 y = true := by
  by_cases hx : leaf v = true
  · have : (match ok1 v with | true => some [v] | false => none) = some cs := by cases v <;> first | exact hc | simp [leaf] at hx
    split at this
    · rename_i hb
      cases this
      have h1 := lv_live1 hx hl
      refine ⟨?_, by simp [h1, hb]⟩
      rw [av_leaf hx]
      have h2 := ok1_cell1 hb h1
      have : ∀ a : AV, a.cell1 = true → a.cells = some [a] := fun a ha => by cases a <;> first | (simp [AV.cell1] at ha; done) | simp only [AV.cells, ha, if_true]
      exact this _ h2
    · cases this
  · cases v with
    | ag ds =>
      simp only [cellsT] at hc
      split at hc
      · rename_i hb
        cases hc
        have h1 := lv_ag hl
        have h2 := List.all_eq_true.1 hb
        refine ⟨?_, fun y hy => ⟨h1 y hy, h2 y hy⟩⟩
        simp only [av, av2, AV.cells]
        rw [if_pos]
        rw [List.all_map, List.all_eq_true]
        exact fun y hy => ok1_cell1 (h2 y hy) (h1 y hy)
      · cases hc
    | tp => simp [cellsT, ok1] at hc
    | fn => simp [cellsT, ok1] at hc
    | _ => simp [leaf] at hx

theorem partT_ok {h : THp} {cs : List TV} {off : Nat} {n : Option Nat} {v : TV} (hl : ∀ y ∈ cs, lv1 h y = y) (hp : partT cs off n = some v) : partA (cs.map (av1 h)) off n = some (av h v) ∧ lv h v = v := by
  cases n with
  | none =>
    simp only [partT] at hp
    split at hp
    · rename_i x hx
      split at hp
      · rename_i hb
        cases hp
        have h1 := hl _ (List.mem_of_getElem? hx)
        have h2 := ok1_leaf hb
        refine ⟨?_, by rw [lv_leaf h2]; exact h1⟩
        simp only [partA, List.getElem?_map, hx, Option.map_some, av_leaf h2]
        rw [if_pos (ok1_cell1 hb h1)]
      · cases hp
    · cases hp
  | some n =>
    simp only [partT] at hp
    split at hp
    · rename_i hb
      cases hp
      have hb' : off + n ≤ cs.length := Nat.le_of_ble_eq_true hb
      refine ⟨?_, ?_⟩
      · simp only [partA, List.length_map]
        rw [if_pos hb']
        simp only [av, av2, List.map_take, List.map_drop]
      · exact lv_lv2 (mk_ag fun y hy => hl y (List.mem_of_mem_drop (List.mem_of_mem_take hy)))
    · cases hp

theorem flat_live {h : THp} {x : TV} (hx : Flat1 x) : lv1 h x = x := by
  obtain ⟨h1, h2, h3, h4⟩ := hx
  cases x <;> first | rfl | (simp [leaf] at h2; done) | (simp [rf1] at h1; done)

/-! ### what is handed to a function -/

theorem map_flat {h : THp} {cs : List TV} (hl : ∀ y ∈ cs, lv1 h y = y) (hf : ∀ y ∈ cs.map (snapT h), Flat1 y) : optAll (snap1 (hpA h)) (cs.map (av1 h)) = some ((cs.map (snapT h)).map (av1 h)) ∧ optAll (snap2 (hpA h)) (cs.map (av1 h)) = some ((cs.map (snapT h)).map (av1 h)) := by
  rw [optAll_map, optAll_map, List.map_map]
  exact ⟨optAll_of fun y hy => snap1_ok (hl y hy) (hf _ (List.mem_map.2 ⟨y, hy, rfl⟩)).2.2.2, optAll_of fun y hy => snap2_ok (hl y hy) (hf _ (List.mem_map.2 ⟨y, hy, rfl⟩)).2.2.2⟩

theorem dec2_ok {h : THp} {sh : Sh} {v : TV} {x : sh.den} (hl : lv2 h v = v) (hd : dec h sh v = some x) : ∃ a, snap2 (hpA h) (av2 h v) = some a ∧ Wk (fun _ => False) a (encA sh x) := by
  cases sh with
  | int => obtain rfl := dI_some hd; exact ⟨_, rfl, .rfl _⟩
  | u8 => obtain rfl := dU_some hd; exact ⟨_, rfl, .rfl _⟩
  | bool => obtain rfl := dB_some hd; exact ⟨_, rfl, .rfl _⟩
  | str => obtain rfl := dS_some hd; exact ⟨_, rfl, .rfl _⟩
  | err => obtain rfl := dE_some hd; refine ⟨_, ?_, .rfl _⟩; cases x <;> rfl
  | unit =>
    simp only [dec] at hd
    split at hd
    · simp [lv2, lv1] at hl
    · cases hd
  | sl t =>
    simp only [dec] at hd
    obtain ⟨k1, k2, k3, k4, k5, k6⟩ := dSl_ok hd h
    have hv : leaf v = true := by cases v <;> first | rfl | simp [snapT, dSl] at hd
    rw [lv2_leaf hv] at hl
    rw [av2_leaf hv]
    exact ⟨_, snap2_ok hl k6, k1.wk⟩
  | ns t =>
    simp only [dec] at hd
    obtain ⟨k1, k3, k4, k5, k6⟩ := dNs_ok hd h
    have hv : leaf v = true := by cases v <;> first | rfl | simp [snapT, dNs] at hd
    rw [lv2_leaf hv] at hl
    rw [av2_leaf hv]
    exact ⟨_, snap2_ok hl k6, by rw [k1]; exact .rfl _⟩
  | st t =>
    simp only [dec] at hd
    split at hd
    · rename_i cs
      have hu := unTv_ok hd h
      have := (map_flat (lv2_ag hl) hu.flat).2
      simp only [av2, snap2]
      have h1 : optAll (snap1 (hpA h)) (cs.map (av1 h)) = _ := (map_flat (lv2_ag hl) hu.flat).1
      rw [h1]
      exact ⟨_, rfl, .agg hu.pn.1 fun i x y hx hy => (hu.pn.2 i x y hx hy).wk⟩
    · cases hd
  | bx t =>
    simp only [dec] at hd
    split at hd
    · obtain ⟨rfl, rfl⟩ := castE_some hd
      exact ⟨_, rfl, .rfl _⟩
    · rename_i s
      split at hd
      · rename_i cs hq
        have hu := unTv_ok hd h
        have h1 := (map_flat (h := h) (cs := cs.map (lv1 h)) (fun y hy => by
          obtain ⟨z, hz, rfl⟩ := List.mem_map.1 hy
          exact lv1_idem h z) (by rw [List.map_map]; exact hu.flat)).1
        refine ⟨.ep ((cs.map (lv1 h)).map (snapT h) |>.map (av1 h)) 0, ?_, ?_⟩
        · have e : hpA h s = some (.var ((cs.map (lv1 h)).map (av1 h))) := by
            simp only [hpA, hq, blk, List.map_map]; rfl
          show snap2 (hpA h) (.pv s 0) = _
          simp only [snap2, e, h1]
        · have hpn := hu.pn
          rw [show (cs.map fun x => snapT h (lv1 h x)) = (cs.map (lv1 h)).map (snapT h) by rw [List.map_map]; rfl] at hpn
          exact .ep 0 hpn.1 hpn.2
      · cases hd
    · cases hd
  | own t => simp [dec] at hd
  | fnc id caps =>
    simp only [dec] at hd
    split at hd
    · simp [lv2, lv1] at hl
    · cases hd
  | tp l =>
    simp only [dec] at hd
    split at hd
    · simp [lv2, lv1] at hl
    · cases hd

theorem decL2_ok {h : THp} : ∀ {l : List Sh} {vs : List TV} {x : Sh.denL l}, (∀ v ∈ vs, lv2 h v = v) → decL h l vs = some x → ∃ as, optAll (snap2 (hpA h)) (vs.map (av2 h)) = some as ∧ PK as (encAL l x)
  | [], [], x, _, _ => ⟨[], rfl, .nil⟩
  | [], _ :: _, x, _, hd => by simp [decL] at hd
  | [sh], [], x, _, hd => by simp [decL] at hd
  | [sh], [v], x, hl, hd => by
    simp only [decL] at hd
    obtain ⟨a, h1, h2⟩ := dec2_ok (hl v (by simp)) hd
    exact ⟨[a], by simp [optAll, h1], .cons h2 .nil⟩
  | [sh], _ :: _ :: _, x, _, hd => by simp [decL] at hd
  | sh :: sh' :: r, [], x, _, hd => by simp [decL] at hd
  | sh :: sh' :: r, v :: vs, x, hl, hd => by
    simp only [decL] at hd
    split at hd
    · rename_i a b ha hb
      cases hd
      obtain ⟨a1, h1, h2⟩ := dec2_ok (hl v (by simp)) ha
      obtain ⟨as, h3, h4⟩ := decL2_ok (fun v hv => hl v (List.mem_cons_of_mem _ hv)) hb
      exact ⟨a1 :: as, by simp [optAll, h1, h3], .cons h2 h4⟩
    · cases hd

theorem dec_ok {h : THp} {sh : Sh} {v : TV} {x : sh.den} (hl : lv h v = v) (hd : dec h sh v = some x) : ∃ a, snap (hpA h) (av h v) = some a ∧ Wk (fun _ => False) a (encA sh x) := by
  by_cases h2 : lv2 h v = v
  · obtain ⟨a, k1, k2⟩ := dec2_ok h2 hd
    have e : av h v = av2 h v := by cases v <;> first | rfl | simp [lv2, lv1] at h2
    rw [e]
    by_cases hx : leaf v = true
    · refine ⟨a, ?_, k2⟩
      rw [av2_leaf hx] at k1 ⊢
      rw [← k1]
      cases v with
      | lw s v => cases hq : look s .gone h <;> simp [av1, hq, snap]
      | ls s v off len => cases hq : look s .gone h <;> simp [av1, hq, snap]
      | pe s v i off => cases hq : look s .gone h <;> simp [av1, hq, snap]
      | e x => cases x <;> rfl
      | ns t x => cases x <;> rfl
      | ag => simp [leaf] at hx
      | tp => simp [leaf] at hx
      | fn => simp [leaf] at hx
      | _ => rfl
    · cases v with
      | ag cs =>
        cases sh with
        | st t =>
          simp only [dec] at hd
          have hu := unTv_ok hd h
          simp only [av2, snap]
          have h1 : optAll (snap2 (hpA h)) (cs.map (av1 h)) = _ := (map_flat (lv2_ag h2) hu.flat).2
          rw [h1]
          exact ⟨_, rfl, .agg hu.pn.1 fun i x y hx hy => (hu.pn.2 i x y hx hy).wk⟩
        | _ => simp [dec, dI, dU, dB, dS, dE, snapT, dSl, dNs] at hd
      | tp => simp [lv2, lv1] at h2
      | fn => simp [lv2, lv1] at h2
      | _ => simp [leaf] at hx
  · cases v with
    | tp vs =>
      cases sh with
      | tp l =>
        simp only [dec] at hd
        obtain ⟨as, h1, h3⟩ := decL2_ok (lv_tp hl) hd
        simp only [av, snap, h1]
        exact ⟨_, rfl, .tup h3.1 h3.2⟩
      | unit =>
        simp only [dec] at hd
        split at hd
        · rename_i he; cases he; exact ⟨_, rfl, .rfl _⟩
        · cases hd
      | _ => simp [dec, dI, dU, dB, dS, dE, snapT, dSl, dNs] at hd
    | fn f vs =>
      cases sh with
      | fnc id caps =>
        simp only [dec] at hd
        split at hd
        · rename_i hb
          rw [beq_iff] at hb; subst hb
          obtain ⟨as, h1, h3⟩ := decL2_ok (lv_fn hl) hd
          simp only [av, snap, h1]
          exact ⟨_, rfl, .fn h3.1 h3.2⟩
        · cases hd
      | _ => simp [dec, dI, dU, dB, dS, dE, snapT, dSl, dNs] at hd
    | ag cs => exact absurd hl h2
    | _ => exact absurd hl h2

theorem decL_ok {h : THp} : ∀ {l : List Sh} {vs : List TV} {x : Sh.denL l}, (∀ v ∈ vs, lv h v = v) → decL h l vs = some x → ∃ as, optAll (snap (hpA h)) (vs.map (av h)) = some as ∧ PK as (encAL l x)
  | [], [], x, _, _ => ⟨[], rfl, .nil⟩
  | [], _ :: _, x, _, hd => by simp [decL] at hd
  | [sh], [], x, _, hd => by simp [decL] at hd
  | [sh], [v], x, hl, hd => by
    simp only [decL] at hd
    obtain ⟨a, h1, h2⟩ := dec_ok (hl v (by simp)) hd
    exact ⟨[a], by simp [optAll, h1], .cons h2 .nil⟩
  | [sh], _ :: _ :: _, x, _, hd => by simp [decL] at hd
  | sh :: sh' :: r, [], x, _, hd => by simp [decL] at hd
  | sh :: sh' :: r, v :: vs, x, hl, hd => by
    simp only [decL] at hd
    split at hd
    · rename_i a b ha hb
      cases hd
      obtain ⟨a1, h1, h2⟩ := dec_ok (hl v (by simp)) ha
      obtain ⟨as, h3, h4⟩ := decL_ok (fun v hv => hl v (List.mem_cons_of_mem _ hv)) hb
      exact ⟨a1 :: as, by simp [optAll, h1, h3], .cons h2 h4⟩
    · cases hd
end Ab
