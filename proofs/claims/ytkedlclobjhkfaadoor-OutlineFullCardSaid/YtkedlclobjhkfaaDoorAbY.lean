/-
  A region whose order is drawn answers as its operations in the text's order.
-/
import Derived.Test.YtkedlclobjhkfaaDoorAbS
import Derived.Test.YtkedlclobjhkfaaDoorAbU
namespace Ab
open Go Go.RowKit
set_option linter.unusedVariables false
set_option linter.unusedSimpArgs false
set_option linter.unnecessarySimpa false

/-! ### what stands before what -/

theorem foldl_bits (acc : List Nat) (k : Nat) : ∀ (l : List Nat) (s : Nat), (l.foldl (fun s j => s ||| (2 ^ j ||| acc.getD j 0)) s).testBit k = true → s.testBit k = true ∨ ∃ j ∈ l, k = j ∨ (acc.getD j 0).testBit k = true
  | [], s, h => .inl h
  | j :: l, s, h => by
    simp only [List.foldl_cons] at h
    rcases foldl_bits acc k l _ h with h | ⟨j', h1, h2⟩
    · simp only [Nat.testBit_or, Bool.or_eq_true] at h
      rcases h with h | h | h
      · exact .inl h
      · refine .inr ⟨j, List.mem_cons_self, .inl ?_⟩
        rw [Nat.testBit_two_pow] at h
        exact (of_decide_eq_true h).symm
      · exact .inr ⟨j, List.mem_cons_self, .inr h⟩
    · exact .inr ⟨j', List.mem_cons_of_mem _ h1, h2⟩

def stepB (acc : List Nat) (o : AOper) : List Nat := acc ++ [o.aft.foldl (fun s j => s ||| (2 ^ j ||| acc.getD j 0)) 0]
theorem befores_eq (l : List AOper) : befores l = l.foldl stepB [] := rfl

/-- Each entry: what is directly before, and what is before that. -/
def Closed (l : List AOper) (b : List Nat) (n : Nat) : Prop := b.length = n ∧ ∀ (i k : Nat) (o : AOper), i < n → l[i]? = some o → (b.getD i 0).testBit k = true → ∃ j ∈ o.aft, k = j ∨ (j < i ∧ (b.getD j 0).testBit k = true)

theorem befores_closed (l : List AOper) : ∀ (r p : List AOper) (acc : List Nat), l = p ++ r → (∀ (i j : Nat) (o : AOper), l[i]? = some o → j ∈ o.aft → j < i) → Closed l acc p.length → Closed l (r.foldl stepB acc) l.length
  | [], p, acc, h, _, hc => by
    simp only [List.append_nil] at h
    subst h
    exact hc
  | o :: r, p, acc, h, ha, hc => by
    have h' : l = (p ++ [o]) ++ r := by rw [h]; simp
    refine befores_closed l r (p ++ [o]) _ h' ha ⟨by simp [stepB, hc.1], fun i k o' hi ho hb => ?_⟩
    have hlen := hc.1
    by_cases hlt : i < p.length
    · have e : (stepB acc o).getD i 0 = acc.getD i 0 := by
        simp only [stepB, List.getD_eq_getElem?_getD]
        rw [List.getElem?_append_left (by omega)]
      rw [e] at hb
      obtain ⟨j, h1, h2⟩ := hc.2 i k o' hlt ho hb
      refine ⟨j, h1, h2.imp id fun ⟨h3, h4⟩ => ⟨h3, ?_⟩⟩
      have e2 : (stepB acc o).getD j 0 = acc.getD j 0 := by
        simp only [stepB, List.getD_eq_getElem?_getD]
        rw [List.getElem?_append_left (by omega)]
      rw [e2]
      exact h4
    · have hi' : i = p.length := by simp at hi; omega
      subst hi'
      have ho' : o' = o := by
        rw [h] at ho
        simp at ho
        exact ho.symm
      subst ho'
      have e : (stepB acc o').getD p.length 0 = o'.aft.foldl (fun s j => s ||| (2 ^ j ||| acc.getD j 0)) 0 := by
        simp only [stepB, List.getD_eq_getElem?_getD]
        rw [List.getElem?_append_right (by omega)]
        simp [hlen]
      rw [e] at hb
      rcases foldl_bits acc k _ _ hb with hb | ⟨j, h1, h2⟩
      · simp at hb
      · have hj := ha p.length j o' (by rw [h]; simp) h1
        refine ⟨j, h1, h2.imp id fun h3 => ⟨hj, ?_⟩⟩
        have e2 : (stepB acc o').getD j 0 = acc.getD j 0 := by
          simp only [stepB, List.getD_eq_getElem?_getD]
          rw [List.getElem?_append_left (by omega)]
        rw [e2]
        exact h3

theorem drawChk_spec {l : List AOper} (h : drawChk l = true) :
    (∀ (i j : Nat) (o : AOper), l[i]? = some o → j ∈ o.aft → j < i) ∧
    (∀ (i k : Nat) (o p : AOper), l[i]? = some o → l[k]? = some p → k < i → (((befores l).getD i 0).testBit k = true ∨ pairOk p o = true)) := by
  simp only [drawChk, List.all_eq_true, List.mem_range] at h
  have hi : ∀ (i : Nat) (o : AOper), l[i]? = some o → (o.aft.all fun j => Nat.blt j i) = true ∧ drawPairs l (befores l) i o = true := by
    intro i o ho
    have hlt : i < l.length := (List.getElem?_eq_some_iff.1 ho).1
    have := h i hlt
    rw [ho] at this
    simpa using this
  refine ⟨fun i j o ho hj => ?_, fun i k o p ho hk hlt => ?_⟩
  · have := List.all_eq_true.1 (hi i o ho).1 j hj
    simpa [Nat.blt_eq] using this
  · have := (hi i o ho).2
    simp only [drawPairs, List.all_eq_true, List.mem_range, Bool.or_eq_true] at this
    rcases this k hlt with h1 | h1
    · exact .inl h1
    · rw [hk] at h1; exact .inr h1

/-- What is listed is closed, and so what stands before an operation that is ready is listed. -/
theorem before_listed {l : List AOper} (hc : Closed l (befores l) l.length) {L : Nat → Prop} (hL : ∀ (i j : Nat) (o : AOper), L i → l[i]? = some o → j ∈ o.aft → L j) (hl : ∀ (i j : Nat) (o : AOper), l[i]? = some o → j ∈ o.aft → j < i) :
    ∀ (n i k : Nat) (o : AOper), i < n → l[i]? = some o → (∀ j ∈ o.aft, L j) → ((befores l).getD i 0).testBit k = true → L k := by
  intro n
  induction n with
  | zero => intro i k o hi; omega
  | succ n ih =>
    intro i k o hi ho ha hb
    obtain ⟨j, h1, h2⟩ := hc.2 i k o (List.getElem?_eq_some_iff.1 ho).1 ho hb
    rcases h2 with rfl | ⟨h3, h4⟩
    · exact ha _ h1
    · have hj : j < l.length := Nat.lt_trans h3 (List.getElem?_eq_some_iff.1 ho).1
      exact ih j k l[j] (by omega) (List.getElem?_eq_getElem hj) (fun j' hj' => hL j j' l[j] (ha j h1) (List.getElem?_eq_getElem hj) hj') h4

/-! ### the drawn order -/

theorem cOper_aft {S : Seat} {nt : Nat} {ops : Array Oper} {o : Oper} {a : AOper} (h : cOper S nt ops true o = some a) : a.aft = (o.after.toList.filter (Region.binds .any)).map (·.on) := by
  unfold cOper at h
  split at h
  · split at h
    · cases h; rfl
    · cases h
  · cases h

theorem listed_set {listed : Array Bool} {i j : Nat} (hi : i < listed.size) : (listed.setIfInBounds i true).getD j true = if j = i then true else listed.getD j true := by
  simp only [Array.getD_eq_getD_getElem?, Array.getElem?_setIfInBounds]
  by_cases h : i = j
  · subst h; simp [hi]
  · rw [if_neg h, if_neg (fun e => h e.symm)]

theorem mem_ready {ops : Array Oper} {listed : Array Bool} {i : Nat} : i ∈ Region.ready .any ops listed ↔ i < ops.size ∧ listed.getD i true = false ∧ ∃ o, ops[i]? = some o ∧ ∀ e ∈ o.after, Region.binds .any e = true → listed.getD e.on false = true := by
  simp only [Region.ready, List.mem_filter, List.mem_range, Bool.and_eq_true, Bool.not_eq_true']
  constructor
  · rintro ⟨h1, h2, h3⟩
    refine ⟨h1, h2, ops[i], Array.getElem?_eq_getElem h1, fun e he hb => ?_⟩
    rw [Array.getElem?_eq_getElem h1] at h3
    simp only [Option.map_some, Option.getD_some, Array.all_eq_true'] at h3
    have := h3 e he
    simpa [hb] using this
  · rintro ⟨h1, h2, o, h3, h4⟩
    refine ⟨h1, h2, ?_⟩
    rw [h3]
    simp only [Option.map_some, Option.getD_some, Array.all_eq_true']
    intro e he
    cases hb : Region.binds .any e with
    | false => simp
    | true => simp [h4 e he hb]

theorem drawOk {S : Seat} (hS : Callable S) : DrawOk S := by
  intro A0 O w0 nt ops la id st st' A σ w tm Q hla hdst hm hchk hr h hn hk
  obtain ⟨spec1, spec2⟩ := drawChk_spec hchk
  have hcl : Closed la (befores la) la.length := befores_closed la la [] [] rfl spec1 ⟨rfl, fun i k o hi => by simp at hi⟩
  obtain ⟨l1, l2⟩ := optAll_get hla
  have l1' : la.length = ops.size := by simpa using l1.symm
  refine wp_region_any hm ?_
  have key : ∀ (n : Nat) (R : List Nat) (listed : Array Bool) (st : ASt) (A : Nat → Prop) (σ : Nat → Option Nat) (w : World) (tm : Array Value), R.length = n → listed.size = ops.size → R.Pairwise (· < ·) → (∀ i, i ∈ R ↔ i < ops.size ∧ listed.getD i true = false) →
      (∀ (i j : Nat) (o : AOper), (i < la.length ∧ i ∉ R) → la[i]? = some o → j ∈ o.aft → (j < la.length ∧ j ∉ R)) → OpsR (realRets S) true (R.map fun i => la.getD i ⟨none, .mov (.t 0), none, []⟩) st st' → SRel S A0 O w0 A σ w st tm → tm.size = nt → wpAny S.P .any ops Q n listed ⟨tm, []⟩ w := by
    intro n
    induction n with
    | zero =>
      intro R listed st A σ w tm hlen hsz hpw hmem hcl' hr h hn
      have hR : R = [] := List.length_eq_zero_iff.1 hlen
      subst hR
      simp only [List.map_nil] at hr
      cases hr with
      | cv hq => cases hq
      | nil =>
      refine ⟨?_, hk w A σ tm h hn⟩
      refine List.eq_nil_iff_forall_not_mem.2 fun i hi => ?_
      obtain ⟨h1, h2, _⟩ := mem_ready.1 hi
      exact absurd ((hmem i).2 ⟨h1, h2⟩) (by simp)
    | succ n ih =>
      intro R listed st A σ w tm hlen hsz hpw hmem hcl' hr h hn
      have notin : ∀ j, j < ops.size → j ∉ R → listed.getD j true = true ∧ listed.getD j false = true := by
        intro j hj hjR
        have h1 : listed.getD j true = true := by
          cases hq : listed.getD j true with
          | true => rfl
          | false => exact absurd ((hmem j).2 ⟨hj, hq⟩) hjR
        refine ⟨h1, ?_⟩
        have hj' : j < listed.size := by omega
        simp only [Array.getD, hj', dif_pos] at h1 ⊢
        exact h1
      refine ⟨fun hnil => ?_, fun i hi => ?_⟩
      · exfalso
        match R, hlen, hpw, hmem with
        | i :: R, _, hpw, hmem =>
          have hi := (hmem i).1 List.mem_cons_self
          have hmr : i ∈ Region.ready .any ops listed := by
            refine mem_ready.2 ⟨hi.1, hi.2, ops[i], Array.getElem?_eq_getElem hi.1, fun e he hb => ?_⟩
            have hla' : la[i]? = some (la[i]'(by omega)) := List.getElem?_eq_getElem _
            obtain ⟨o, ho, hc⟩ := l2 i _ hla'
            have ho' : o = ops[i] := by simpa [hi.1] using ho.symm
            subst ho'
            have haft := cOper_aft hc
            have hj : e.on ∈ (la[i]'(by omega)).aft := by
              rw [haft]
              exact List.mem_map.2 ⟨e, List.mem_filter.2 ⟨by simpa using he, hb⟩, rfl⟩
            have hlt := spec1 i e.on _ hla' hj
            refine (notin e.on (by omega) fun hm => ?_).2
            rcases List.mem_cons.1 hm with hm | hm
            · omega
            · have := List.rel_of_pairwise_cons hpw hm
              omega
          rw [hnil] at hmr
          cases hmr
      · obtain ⟨h1, h2, o, ho, haft⟩ := mem_ready.1 hi
        have hiR : i ∈ R := (hmem i).2 ⟨h1, h2⟩
        obtain ⟨R1, R2, rfl⟩ := List.append_of_mem hiR
        have hla' : la[i]? = some (la[i]'(by omega)) := List.getElem?_eq_getElem _
        obtain ⟨o', ho', hc⟩ := l2 i _ hla'
        have : o' = o := by simpa [ho] using ho'.symm
        subst this
        have haL : ∀ j ∈ (la[i]'(by omega)).aft, j < la.length ∧ j ∉ R1 ++ i :: R2 := by
          intro j hj
          rw [cOper_aft hc] at hj
          obtain ⟨e, he, rfl⟩ := List.mem_map.1 hj
          obtain ⟨he1, he2⟩ := List.mem_filter.1 he
          have hl := haft e (by simpa using he1) he2
          have hlt : e.on < listed.size := by
            refine Nat.lt_of_not_le fun hge => ?_
            have hge' : ¬ e.on < listed.size := by omega
            simp [Array.getD, hge'] at hl
          refine ⟨by omega, fun hm => ?_⟩
          have := ((hmem _).1 hm).2
          simp only [Array.getD, hlt, dif_pos] at this hl
          rw [this] at hl
          cases hl
        have hpw' := List.pairwise_append.1 hpw
        have hpairs : ∀ k ∈ R1, pairOk (la.getD k ⟨none, .mov (.t 0), none, []⟩) (la.getD i ⟨none, .mov (.t 0), none, []⟩) = true := by
          intro k hkR
          have hki : k < i := hpw'.2.2 k hkR i List.mem_cons_self
          have hkl : k < la.length := by omega
          have e1 : la.getD k ⟨none, .mov (.t 0), none, []⟩ = la[k] := by simp [List.getD, hkl]
          have e2 : la.getD i ⟨none, .mov (.t 0), none, []⟩ = la[i]'(by omega) := by simp [List.getD, l1', h1]
          rw [e1, e2]
          rcases spec2 i k _ _ hla' (List.getElem?_eq_getElem hkl) hki with hb | hb
          · have := before_listed hcl (L := fun i' => i' < la.length ∧ i' ∉ R1 ++ i :: R2) hcl' spec1 (i + 1) i k _ (by omega) hla' haL hb
            exact absurd (List.mem_append.2 (.inl hkR)) this.2
          · exact hb
        rw [List.map_append, List.map_cons] at hr
        obtain ⟨s1, q1, q2⟩ := front (R1.map fun i => la.getD i ⟨none, .mov (.t 0), none, []⟩) (fun k hk => by
          obtain ⟨k', hk', rfl⟩ := List.mem_map.1 hk
          exact hpairs k' hk') hr
        have e2 : la.getD i ⟨none, .mov (.t 0), none, []⟩ = la[i]'(by omega) := by simp [List.getD, l1', h1]
        rw [e2] at q1
        refine oper_sound hS h hn ho hc q1.loud fun w' A' σ' tm' k1 k2 => ?_
        have hnot : i ∉ R1 ∧ i ∉ R2 := by
          refine ⟨fun hm => ?_, fun hm => ?_⟩
          · have := hpw'.2.2 i hm i List.mem_cons_self; omega
          · have := List.rel_of_pairwise_cons hpw'.2.1 hm; omega
        refine ih (R1 ++ R2) _ s1 A' σ' w' tm' (by simp at hlen ⊢; omega) (by simpa using hsz) ?_ ?_ ?_ (by rw [List.map_append]; exact q2) k1 k2
        · exact List.pairwise_append.2 ⟨hpw'.1, (List.pairwise_cons.1 hpw'.2.1).2, fun a ha b hb => hpw'.2.2 a ha b (List.mem_cons_of_mem _ hb)⟩
        · intro j
          rw [listed_set (by omega)]
          have := hmem j
          simp only [List.mem_append, List.mem_cons] at this ⊢
          by_cases hji : j = i
          · subst hji
            simp [hnot.1, hnot.2]
          · rw [if_neg hji, ← this]
            simp [hji]
        · intro i' j o2 hL hla2 hj
          by_cases hii : i' = i
          · subst hii
            rw [hla'] at hla2
            cases hla2
            have := haL j hj
            refine ⟨this.1, fun hm => this.2 ?_⟩
            simp only [List.mem_append, List.mem_cons] at hm ⊢
            exact hm.imp (fun h => h) .inr
          · have := hcl' i' j o2 ⟨hL.1, fun hm => hL.2 ?_⟩ hla2 hj
            · refine ⟨this.1, fun hm => this.2 ?_⟩
              simp only [List.mem_append, List.mem_cons] at hm ⊢
              exact hm.imp (fun h => h) .inr
            · simp only [List.mem_append, List.mem_cons] at hm ⊢
              exact hm.imp (fun h => h) fun h => h.resolve_left hii
  refine key ops.size (List.range ops.size) _ st A σ _ tm (by simp) (by simp) (List.pairwise_lt_range) ?_ ?_ ?_ h.drew hn
  · intro i
    rw [List.mem_range]
    refine ⟨fun hi => ⟨hi, by simp [Array.getD, hi]⟩, fun hi => hi.1⟩
  · intro i j o hi
    exact absurd (List.mem_range.2 (by omega)) hi.2
  · have : (List.range ops.size).map (fun i => la.getD i ⟨none, .mov (.t 0), none, []⟩) = la := by
      rw [← l1']
      refine List.ext_getElem? fun i => ?_
      by_cases hi : i < la.length
      · simp [hi, List.getD]
      · simp [hi]
    rw [this]
    exact hr
end Ab
