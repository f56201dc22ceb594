/-
  append; a string's bytes as a slice.
-/
import Derived.Test.YtkedlclobjhkfaaDoorAbL
namespace Ab
open Go Go.RowKit

section
variable {S : Seat} {A0 O : Nat → Prop} {w0 : World} {A : Nat → Prop} {σ : Nat → Option Nat} {w : World} {st st' : ASt} {tm : Array Value} {df : List Deferred} {o : Oper} {v : AV} {d : Nat}

/-- What append reads of its second argument: the cells 'news'. -/
def Src (w : World) (y : Value) (m : Nat) (news : List Value) : Prop :=
  ∃ b c, y = .slice b m c ∧ ((b = none ∧ m = 0 ∧ news = []) ∨ ∃ ad, b = some ad ∧ ∀ j u, news[j]? = some u → w.cell? (ad.add j) = some u)

theorem run_src {P : Program} {size m : Nat} {y : Value} {news : List Value} (h : Src w y m news) (hl : news.length = m * size) (w' : World) (hw : w'.heap = w.heap) :
    (Builtin.firstCells size m y).run P w' = .ok news.toArray w' ∧ ∃ b c, y = .slice b m c := by
  obtain ⟨b, c, rfl, ⟨rfl, rfl, rfl⟩ | ⟨ad, rfl, h2⟩⟩ := h
  · exact ⟨by simp [Builtin.firstCells], _, _, rfl⟩
  · exact ⟨run_firstCells_some (P := P) w' size m ad m c news hl (fun j u hj => by have := h2 j u hj; simpa [World.cell?, hw] using this), _, _, rfl⟩

/-- append in place. -/
theorem run_app_room {P : Program} (t ty e : TypeId) (i : TypeInfo) (ht : P.underlying t = some (.slice e)) (hi : P.info? e = some i)
    (g n cap : Nat) (cur : Array Value) (el : TypeId) (hg : w.heap[g]? = some (.cells cur el (0, 0))) {y : Value} {m : Nat} {news : List Value} (hy : Src w y m news) (hl : news.length = m * i.size) (h1 : ∀ u ∈ news, u.oneCell' = true)
    (hroom : n + m ≤ cap) (hfit : n * i.size + news.length ≤ cur.size) :
    (Builtin.append_ #[t, t] ty #[.slice (some ⟨g, 0, none⟩) n cap, y]).run P w =
      .ok (.slice (some ⟨g, 0, none⟩) (n + m) cap) (w.setRow g (cur.toList.take (n * i.size) ++ news ++ cur.toList.drop (n * i.size + news.length)).toArray) := by
  obtain ⟨hf, b, c, rfl⟩ := run_src (P := P) hy hl w rfl
  have hst := run_storeCells_at P g (n * i.size) el news 0 cur w hg (by simpa using hfit) h1
  simp only [Nat.add_zero] at hst
  simp [Builtin.append_, run_underlying ht, Go.sizeOf, typeInfo, hi, Builtin.lenOf, hroom, hf, Addr.add_lit, hst]

theorem run_app_nil0 {P : Program} (t ty e : TypeId) (i : TypeInfo) (ht : P.underlying t = some (.slice e)) (hi : P.info? e = some i) {y : Value} (hy : Src w y 0 []) :
    (Builtin.append_ #[t, t] ty #[.slice none 0 0, y]).run P w = .ok (.slice none 0 0) w := by
  obtain ⟨hf, b, c, rfl⟩ := run_src (P := P) (size := i.size) hy (by simp) w rfl
  simp [Builtin.append_, run_underlying ht, Go.sizeOf, typeInfo, hi, Builtin.lenOf, hf]

/-- append into new memory. -/
theorem run_app_grow {P : Program} (t ty e : TypeId) (i : TypeInfo) (z : Value) (ht : P.underlying t = some (.slice e)) (hi : P.info? e = some i) (hz : i.zero = some z)
    (a : Option Addr) (n cap : Nat) (olds : List Value) (hlo : olds.length = n * i.size) (holds : (a = none ∧ olds = []) ∨ ∃ ad, a = some ad ∧ ∀ j v, olds[j]? = some v → w.cell? (ad.add j) = some v)
    {y : Value} {m : Nat} {news : List Value} (hy : Src w y m news) (hl : news.length = m * i.size) (hg : cap < n + m) (h63 : ((n + m : Nat) : Int) ≤ 9223372036854775807) (hfit : Builtin.nextslicecap (n + m) cap * i.bytes ≤ 281474976710656) :
    (Builtin.append_ #[t, t] ty #[.slice a n cap, y]).run P w =
      .ok (.slice (some ⟨w.heap.size, 0, none⟩) (n + m) (grownCap w (n + m) cap e)) (w.drew.alloc (.cells (olds.toArray ++ news.toArray ++ Builtin.zeroCells z.cells (grownCap w (n + m) cap e - (n + m))) e)) := by
  have hn : ¬ (n + m ≤ cap) := by omega
  have h63' : ¬ (9223372036854775807 < ((n : Int) + (m : Int))) := by omega
  have h48' : ¬ (281474976710656 < Builtin.nextslicecap (n + m) cap * i.bytes) := by omega
  obtain ⟨hf, b, c, rfl⟩ := run_src (P := P) hy hl w.drew rfl
  have hfo : (Builtin.firstCells i.size n (.slice a n cap)).run P w.drew = .ok olds.toArray w.drew := by
    rcases holds with ⟨rfl, rfl⟩ | ⟨ad, rfl, h2⟩
    · simp [Builtin.firstCells]
    · exact run_firstCells_some (P := P) w.drew i.size n ad n cap olds hlo (by simpa using h2)
  simp [Builtin.append_, run_underlying ht, Go.sizeOf, typeInfo, zeroValue, hi, hz, Builtin.lenOf, hn, h63', h48', Question.forced, hf, hfo, newRow, grownCap]
  congr 2
  apply Array.ext'
  simp [List.append_assoc]

theorem elemsOf_src (h : SRel S A0 O w0 A σ w st tm) {z : Nat} {y : AV} {rv : Value} {ys : List (List AV)} (hv : VR S A σ w y rv) (he : elemsOf st.hp z y = some ys) :
    ∃ news, Src w rv ys.length news ∧ news.length = ys.length * z ∧ (∀ e ∈ ys, e.length = z) ∧ (∀ u ∈ news, u.oneCell' = true) ∧ ∀ (i : Nat) (e : List AV) (c : Nat) (x : AV), ys[i]? = some e → e[c]? = some x → VR0 S A w x (news.getD (i * z + c) undef) := by
  have mk : ∀ (b off cap : Nat) (u : Nat → Value), rv = .slice (some ⟨b, off, none⟩) ys.length cap → (∀ e ∈ ys, e.length = z) → (∀ j, j < ys.length * z → w.cell? ⟨b, off + j, none⟩ = some (u j)) → (∀ j, j < ys.length * z → (u j).oneCell' = true) →
      (∀ (i : Nat) (e : List AV) (c : Nat) (x : AV), ys[i]? = some e → e[c]? = some x → VR0 S A w x (u (i * z + c))) →
      ∃ news, Src w rv ys.length news ∧ news.length = ys.length * z ∧ (∀ e ∈ ys, e.length = z) ∧ (∀ u ∈ news, u.oneCell' = true) ∧ ∀ (i : Nat) (e : List AV) (c : Nat) (x : AV), ys[i]? = some e → e[c]? = some x → VR0 S A w x (news.getD (i * z + c) undef) := by
    intro b off cap u hr h0 h1 h2 h3
    refine ⟨(List.range (ys.length * z)).map u, ⟨_, _, hr, .inr ⟨_, rfl, fun j v hj => ?_⟩⟩, by simp, h0, fun v hv => ?_, fun i e c x hi hc => ?_⟩
    · simp only [List.getElem?_map, Option.map_eq_some_iff] at hj
      obtain ⟨k, hk, rfl⟩ := hj
      obtain ⟨hk1, hk2⟩ := List.getElem?_eq_some_iff.1 hk
      simp at hk1 hk2
      subst hk2
      rw [Addr.add_lit]
      exact h1 j hk1
    · rw [List.mem_map] at hv
      obtain ⟨k, hk, rfl⟩ := hv
      exact h2 k (by simpa using hk)
    · have hlt : i * z + c < ys.length * z := idx_lt (List.getElem?_eq_some_iff.1 hi).1 (by have := (List.getElem?_eq_some_iff.1 hc).1; have := h0 e (List.mem_of_getElem? hi); omega)
      have : ((List.range (ys.length * z)).map u).getD (i * z + c) undef = u (i * z + c) := by simp [List.getD, hlt]
      rw [this]
      exact h3 i e c x hi hc
  unfold elemsOf at he
  split at he
  · cases he
    rw [hv.v_inv]
    exact ⟨[], ⟨_, _, rfl, .inl ⟨rfl, rfl, rfl⟩⟩, by simp, by simp, by simp, by simp⟩
  · rename_i z' es
    split at he
    · rename_i hz
      subst hz
      cases he
      rcases hv.sl_inv with ⟨rfl, hr⟩ | ⟨b, o', cap, u, hr, k1, k2, k3, k4, k5, k6⟩ | ⟨rfl, a, cap, hr⟩
      · rw [hr]
        exact ⟨[], ⟨_, _, rfl, .inl ⟨rfl, rfl, rfl⟩⟩, by simp, by simp, by simp, by simp⟩
      · exact mk b o' cap u hr k3 k4 k5 k6
      · rw [hr]
        exact ⟨[], ⟨_, _, rfl, .inr ⟨_, rfl, by simp⟩⟩, by simp, by simp, by simp, by simp⟩
    · cases he
  · rename_i s z' off len
    split at he
    · rename_i z'' es hb
      split at he
      · rename_i hc
        cases he
        obtain ⟨hz1, hz2, hle⟩ := hc
        subst hz1
        subst hz2
        have hlen : ((es.drop off).take len).length = len := by simp; omega
        obtain ⟨k0, hbr⟩ := h.hp _ _ hb
        have h0 : ∀ e ∈ (es.drop off).take len, e.length = z'' := fun e he => k0 e (List.mem_of_mem_drop (List.mem_of_mem_take he))
        rcases hv.lsl_inv with ⟨rfl, rfl, _, hr⟩ | ⟨b, o', cap, cs, el, hr, k1, k2, k3, k4, k5, k6⟩
        · rw [hr]
          exact ⟨[], ⟨_, _, rfl, .inl ⟨rfl, by simp, rfl⟩⟩, by simp, by simp, by simp, by simp⟩
        · rcases hbr with ⟨j1, _⟩ | ⟨b', vs, el', j1, j2, j3, j5, j4⟩
          · rw [j1] at k1; cases k1
          · obtain rfl : b' = b := Option.some.inj (j1.symm.trans k1)
            by_cases hl0 : len = 0
            · subst hl0
              exact mk b' o' cap (fun _ => undef) (by rw [hlen]; exact hr) h0 (by simp) (by simp) (by simp)
            · have ho := k3 (.inl (by omega))
              subst ho
              have hsz : len * z'' + off * z'' ≤ es.length * z'' := by rw [← Nat.add_mul]; exact Nat.mul_le_mul_right _ (by omega)
              refine mk b' (off * z'') cap (fun j => vs.getD (off * z'' + j) undef) (by rw [hlen]; exact hr) h0 (fun j hj => ?_) (fun j hj => ?_) (fun i e c x hi hc => ?_)
              · rw [hlen] at hj
                have : off * z'' + j < vs.size := by omega
                simp [World.cell?, j2, this, Array.getD]
              · rw [hlen] at hj
                exact j5 _ (by omega)
              · have hlt : i < len := by have := (List.getElem?_eq_some_iff.1 hi).1; omega
                rw [List.getElem?_take_of_lt hlt, List.getElem?_drop] at hi
                have := j4 _ _ _ _ hi hc
                rwa [Nat.add_mul, Nat.add_assoc] at this
      · cases he
    · cases he
  · cases he

/-- Two rows, one behind the other. -/
theorem append_rel {R : AV → Value → Prop} {z : Nat} {es ys : List (List AV)} {olds news rest : List Value} (h1 : ∀ e ∈ es, e.length = z) (h2 : ∀ e ∈ ys, e.length = z) (hl1 : olds.length = es.length * z) (hl2 : news.length = ys.length * z)
    (r1 : ∀ (i : Nat) (e : List AV) (c : Nat) (x : AV), es[i]? = some e → e[c]? = some x → R x (olds.getD (i * z + c) undef)) (r2 : ∀ (i : Nat) (e : List AV) (c : Nat) (x : AV), ys[i]? = some e → e[c]? = some x → R x (news.getD (i * z + c) undef))
    (i : Nat) (e : List AV) (c : Nat) (x : AV) (hi : (es ++ ys)[i]? = some e) (hc : e[c]? = some x) : R x ((olds ++ news ++ rest).getD (i * z + c) undef) := by
  have hcl := (List.getElem?_eq_some_iff.1 hc).1
  by_cases hlt : i < es.length
  · rw [List.getElem?_append_left hlt] at hi
    have hez := h1 e (List.mem_of_getElem? hi)
    have hb : i * z + c < olds.length := by rw [hl1]; exact idx_lt hlt (by omega)
    have := r1 i e c x hi hc
    simpa [List.getD, List.append_assoc, List.getElem?_append_left hb] using this
  · rw [List.getElem?_append_right (by omega)] at hi
    have hez := h2 e (List.mem_of_getElem? hi)
    have hlt2 := (List.getElem?_eq_some_iff.1 hi).1
    have hb : (i - es.length) * z + c < news.length := by rw [hl2]; exact idx_lt hlt2 (by omega)
    have heq : i * z + c = olds.length + ((i - es.length) * z + c) := by
      rw [hl1, ← Nat.add_assoc, ← Nat.add_mul]
      congr 2
      omega
    have := r2 _ e c x hi hc
    rw [heq, List.append_assoc, List.getD_eq_getElem?_getD, List.getElem?_append_right (by omega), List.getElem?_append_left (by omega)]
    simpa [List.getD] using this

theorem list_toArray_getD (l : List Value) (j : Nat) : l.toArray.getD j undef = l.getD j undef := by simp [Array.getD_eq_getD_getElem?, List.getD]

theorem append_one {es_len ys_len z : Nat} {olds news rest : List Value} (hl1 : olds.length = es_len * z) (hl2 : news.length = ys_len * z) (h1 : ∀ u ∈ olds, u.oneCell' = true) (h2 : ∀ u ∈ news, u.oneCell' = true) (j : Nat) (hj : j < (es_len + ys_len) * z) :
    ((olds ++ news ++ rest).getD j undef).oneCell' = true := by
  have hb : j < (olds ++ news).length := by simp [hl1, hl2, ← Nat.add_mul]; exact hj
  have : (olds ++ news ++ rest).getD j undef = (olds ++ news)[j] := by rw [List.getD_eq_getElem?_getD, List.getElem?_append_left hb, List.getElem?_eq_getElem hb]; rfl
  rw [this]
  rcases List.mem_append.1 (List.getElem_mem hb) with h | h
  · exact h1 _ h
  · exact h2 _ h

theorem op_app (h : SRel S A0 O w0 A σ w st tm) {t e : TypeId} {i : TypeInfo} {z : Value} {x y : Operand} {x' y' : AOpd} (ho : o.op = .call { callee := .builtin .append, args := #[x, y], argTypes := #[t, t] }) (hu : S.P.underlying t = some (.slice e)) (hi : S.P.info? e = some i) (hz : i.zero = some z)
    (hzs : z.cells.size = i.size) (h128 : i.bytes ≤ 128) (h1 : cOpd S x = some x') (h2 : cOpd S y = some y') (ha : aop (.app i.size x' y') d st = some (v, st')) : OpOk S A0 O w0 w tm df o v st' := by
  have g1 := h.ev (df := df) h1
  have g2 := h.ev (df := df) h2
  have hrun : (execOp (Act.eval ⟨tm, df⟩) o).run S.P w = ((Builtin.append_ #[t, t] o.type #[Act.eval ⟨tm, df⟩ x, Act.eval ⟨tm, df⟩ y]).run S.P w).andThen fun a w' => .ok (.value a) w' := by
    simp [execOp, ho, resolve, invoke, builtin]
  have fits : ∀ n cap, n ≤ roomA → cap < n → Builtin.nextslicecap n cap * i.bytes ≤ 281474976710656 := fun n cap hn hc => growslice_fits hc (by
    have : n * i.bytes ≤ 1099511627776 * 128 := Nat.mul_le_mul (by simpa [roomA] using hn) h128
    omega)
  simp only [aop] at ha
  split at ha
  · rename_i ys hys
    obtain ⟨news, s1, s2, s3, s4, s5⟩ := elemsOf_src h g2.rel hys
    split at ha
    · rename_i he
      rw [he] at g1
      have e1 := g1.rel.v_inv
      rw [e1] at hrun
      split at ha
      · rename_i hroom
        split at ha
        · rename_i hd
          simp only [Option.some.injEq, Prod.mk.injEq] at ha; obtain ⟨rfl, rfl⟩ := ha
          by_cases hm : ys.length = 0
          · have hy0 : ys = [] := List.eq_nil_of_length_eq_zero hm
            subst hy0
            obtain rfl : news = [] := List.eq_nil_of_length_eq_zero (by simpa using s2)
            rw [run_app_nil0 t o.type e i hu hi s1] at hrun
            have hσd : σ d = none := by
              cases hq : σ d with
              | none => rfl
              | some b => exact absurd hd (h.dom d b hq).1
            refine ⟨_, w, A, σ, hrun, ⟨h.fr, fun s blk hb => ?_, fun k s hs => ?_, fun s cs hs s' hs' => ?_, fun s b hs => ?_, h.inj, h.Alt, h.Asub, h.keep, h.Olt⟩, .inl ⟨_, rfl, .lslnil hσd, fun s hs => ?_⟩⟩
            · simp only [ASt.setH, upd] at hb
              split at hb
              · rename_i e; subst e; cases hb; exact ⟨by simp, .inl ⟨hσd, rfl⟩⟩
              · exact h.hp s blk hb
            · simp only [ASt.setH, upd]
              split
              · simp
              · exact h.dang k s hs
            · simp only [ASt.setH, upd] at hs ⊢
              split
              · simp
              · split at hs
                · cases hs
                · exact h.dangV s cs hs s' hs'
            · obtain ⟨k1, k2⟩ := h.dom s b hs
              refine ⟨?_, k2⟩
              simp only [ASt.setH, upd]
              split
              · simp
              · exact k1
            · rw [AV.refs, List.mem_singleton] at hs
              subst hs
              simp [ASt.setH, upd]
          · have hr := run_app_grow (P := S.P) t o.type e i z hu hi hz none 0 0 [] (by simp) (.inl ⟨rfl, rfl⟩) s1 s2 (by omega) (by simp only [roomA] at hroom; omega) (by rw [Nat.zero_add]; exact fits _ _ hroom (by omega))
            rw [hr] at hrun
            simp only [Nat.zero_add] at hrun
            have hdr := h.drew
            have hcap := grownCap_ge w ys.length 0 e
            have hcapm := grownCap_le_maxLen w ys.length 0 e (by simp only [roomA] at hroom; unfold maxLen; omega)
            refine ⟨_, _, A, _, hrun, hdr.newBlk (el := e) hd (by simp [Blk.refs]) ⟨s3, .inr ⟨_, _, e, upd_same _ _ _, heap_alloc_new w.drew _, ?_, fun j hj => ?_, fun ii ee c xx hi' hc => ?_⟩⟩, .inl ⟨_, rfl, ?_, fun s hs => ?_⟩⟩
            · simp only [Array.size_append, List.size_toArray, List.length_nil, size_zeroCells, hzs, s2]; omega
            · have := append_one (es_len := 0) (ys_len := ys.length) (z := i.size) (olds := []) (news := news) (rest := (Builtin.zeroCells z.cells (grownCap w ys.length 0 e - ys.length)).toList) (by simp) s2 (by simp) s4 j (by simpa using hj)
              have e2 : ([].toArray ++ news.toArray ++ Builtin.zeroCells z.cells (grownCap w ys.length 0 e - ys.length)) = ([] ++ news ++ (Builtin.zeroCells z.cells (grownCap w ys.length 0 e - ys.length)).toList).toArray := by apply Array.ext'; simp
              rw [e2, list_toArray_getD]; exact this
            · have := append_rel (R := VR0 S A w) (es := []) (olds := []) (rest := (Builtin.zeroCells z.cells (grownCap w ys.length 0 e - ys.length)).toList) (by simp) s3 (by simp) s2 (by simp) s5 ii ee c xx (by simpa using hi') hc
              have e2 : ([].toArray ++ news.toArray ++ Builtin.zeroCells z.cells (grownCap w ys.length 0 e - ys.length)) = ([] ++ news ++ (Builtin.zeroCells z.cells (grownCap w ys.length 0 e - ys.length)).toList).toArray := by apply Array.ext'; simp
              rw [e2, list_toArray_getD]
              exact (VR0.heap (w := w) (w' := w.drew) rfl this).mono (fun _ h => h) fun b hb => heap_alloc_old w.drew _ b (h.Alt b hb)
            · refine .lsl (upd_same _ _ _) hcap (fun _ => by simp) (heap_alloc_new w.drew _) ?_ hcapm
              simp only [Array.size_append, List.size_toArray, List.length_nil, size_zeroCells, hzs, s2, Nat.zero_add, ← Nat.add_mul]
              exact Nat.mul_le_mul_right _ (by omega)
            · rw [AV.refs, List.mem_singleton] at hs
              subst hs
              simp [ASt.setH, upd]
        · cases ha
      · cases ha
    · rename_i s z' n he
      rw [he] at g1
      split at ha
      · rename_i z'' es hb
        split at ha
        · rename_i hc
          obtain ⟨hs1000, rfl, rfl, rfl, hroom⟩ := hc
          simp only [Option.some.injEq, Prod.mk.injEq] at ha; obtain ⟨rfl, rfl⟩ := ha
          obtain ⟨k0, hbr⟩ := h.hp _ _ hb
          have hsc := h.scrub s
          have hbs : (st.scrub s).hp s = some (.arr i.size es) := by simp [ASt.scrub, hb, scrubB]
          have hk0 : ∀ e ∈ es ++ ys, e.length = i.size := fun e he => (List.mem_append.1 he).elim (k0 e) (s3 e)
          have hlen : (es ++ ys).length = es.length + ys.length := List.length_append
          -- a row in new memory, under the old name
          have grow : ∀ (a : Option Addr) (cap : Nat) (olds : List Value), Act.eval ⟨tm, df⟩ x = .slice a es.length cap → olds.length = es.length * i.size → ((a = none ∧ olds = []) ∨ ∃ ad, a = some ad ∧ ∀ j v, olds[j]? = some v → w.cell? (ad.add j) = some v) →
              (∀ u ∈ olds, u.oneCell' = true) → (∀ (ii : Nat) (e : List AV) (c : Nat) (x : AV), es[ii]? = some e → e[c]? = some x → VR0 S A w x (olds.getD (ii * i.size + c) undef)) → cap < es.length + ys.length →
              OpOk S A0 O w0 w tm df o (.lsl s i.size 0 (es.length + ys.length)) ((st.scrub s).setH s (some (.arr i.size (es ++ ys)))) := by
            intro a cap olds e1 l1 l2 l3 l4 l5
            have hr := run_app_grow (P := S.P) t o.type e i z hu hi hz a es.length cap olds l1 l2 s1 s2 l5 (by simp only [roomA] at hroom; omega) (fits _ _ hroom l5)
            rw [e1, hr] at hrun
            simp only [Result.andThen_ok] at hrun
            have hcap := grownCap_ge w (es.length + ys.length) cap e
            have hcapm := grownCap_le_maxLen w (es.length + ys.length) cap e (by simp only [roomA] at hroom; unfold maxLen; omega)
            generalize hzc : Builtin.zeroCells z.cells (grownCap w (es.length + ys.length) cap e - (es.length + ys.length)) = zc at hrun
            have hzcs : zc.size = (grownCap w (es.length + ys.length) cap e - (es.length + ys.length)) * i.size := by rw [← hzc, size_zeroCells, hzs]
            have e2 : (olds.toArray ++ news.toArray ++ zc) = (olds ++ news ++ zc.toList).toArray := by apply Array.ext'; simp
            rw [e2] at hrun
            -- the state without the row
            have hmid : SRel S A0 O w0 A (fun k => if k = s then none else σ k) w.drew ((st.scrub s).setH s none) tm := by
              have hq := hsc.drew
              have nr : ∀ k, s ∉ ((st.scrub s).fr k).refs := fun k => scrub_refs s (st.fr k)
              have ks : ∀ s', s' ≠ s → KeepS σ (fun k => if k = s then none else σ k) w.drew w.drew s' := fun s' hne => ⟨by simp [hne], fun b cs el _ hb => ⟨cs, hb, rfl⟩⟩
              have nrB : ∀ s' cs, (st.scrub s).hp s' = some (.var cs) → s ∉ AV.refsL cs := by
                intro s' cs hcs hm
                simp only [ASt.scrub, Option.map_eq_some_iff] at hcs
                obtain ⟨b0, _, he⟩ := hcs
                cases b0 with
                | var cs0 =>
                  simp only [scrubB, Blk.var.injEq] at he
                  subst he
                  rw [mem_refsL] at hm
                  obtain ⟨xx, hx, hm⟩ := hm
                  rw [List.mem_map] at hx
                  obtain ⟨yy, _, rfl⟩ := hx
                  exact scrub_refs s yy hm
                | arr => simp [scrubB] at he
              refine ⟨fun k => (hq.fr k).mono (fun _ h => h) (fun _ _ => rfl) fun s' hs' => ks s' fun e => nr k (e ▸ hs'), fun s' blk hb' => ?_, fun k s' hs' => ?_, fun s' cs hcs s'' hs'' => ?_, fun s' b hs' => ?_, fun a1 a2 b b1 b2 => ?_, hq.Alt, hq.Asub, hq.keep, hq.Olt⟩
              · simp only [ASt.setH, upd] at hb'
                split at hb'
                · cases hb'
                · rename_i hne
                  refine (hq.hp s' blk hb').mono (fun _ h => h) (fun _ _ => rfl) (by simp [hne]) (fun _ _ => rfl) fun s'' hs'' => ks s'' fun e => ?_
                  subst e
                  cases blk with
                  | var cs => exact nrB s' cs hb' (by rw [Blk.refs] at hs''; exact hs'')
                  | arr => simp [Blk.refs] at hs''
              · simp only [ASt.setH, upd]
                split
                · rename_i e; subst e; exact absurd hs' (nr k)
                · exact hq.dang k s' hs'
              · simp only [ASt.setH, upd] at hcs ⊢
                split at hcs
                · cases hcs
                · split
                  · rename_i e; subst e; exact absurd hs'' (nrB s' cs hcs)
                  · exact hq.dangV s' cs hcs s'' hs''
              · split at hs'
                · cases hs'
                · rename_i hne
                  obtain ⟨d1, d2⟩ := hq.dom s' b hs'
                  exact ⟨by simp [ASt.setH, upd, hne]; exact d1, d2⟩
              · split at b1
                · cases b1
                · split at b2
                  · cases b2
                  · exact hq.inj a1 a2 b b1 b2
            have heq : ((st.scrub s).setH s none).setH s (some (.arr i.size (es ++ ys))) = (st.scrub s).setH s (some (.arr i.size (es ++ ys))) := by
              simp only [ASt.setH]
              congr 1
              funext k
              simp only [upd]
              split <;> rfl
            rw [← heq]
            refine ⟨_, _, A, _, hrun, hmid.newBlk (el := e) (by simp [ASt.setH, upd]) (by simp [Blk.refs]) ⟨hk0, .inr ⟨_, _, e, upd_same _ _ _, heap_alloc_new w.drew _, ?_, fun j hj => ?_, fun ii ee c xx hi' hc => ?_⟩⟩, .inl ⟨_, rfl, ?_, fun s' hs' => ?_⟩⟩
            · simp [l1, s2, Nat.add_mul]
            · rw [list_toArray_getD]; exact append_one l1 s2 l3 s4 j (by rw [hlen] at hj; exact hj)
            · rw [list_toArray_getD]
              exact (VR0.heap (w := w) (w' := w.drew) rfl (append_rel k0 s3 l1 s2 l4 s5 ii ee c xx hi' hc)).mono (fun _ h => h) fun b hb => heap_alloc_old w.drew _ b (h.Alt b hb)
            · refine .lsl (upd_same _ _ _) hcap (fun _ => by simp) (heap_alloc_new w.drew _) ?_ hcapm
              simp only [List.size_toArray, List.length_append, Array.length_toList, l1, s2, hzcs, Nat.zero_add, ← Nat.add_mul]
              exact Nat.mul_le_mul_right _ (by omega)
            · rw [AV.refs, List.mem_singleton] at hs'
              subst hs'
              simp [ASt.setH, upd]
          rcases g1.rel.lsl_inv with ⟨_, hn0, kσ, e1⟩ | ⟨b, o', cap, cs, el, e1, j1, j2, j3, j4, j5, j6⟩
          · have hes : es = [] := List.eq_nil_of_length_eq_zero hn0
            subst hes
            by_cases hm : ys.length = 0
            · have hy0 : ys = [] := List.eq_nil_of_length_eq_zero hm
              subst hy0
              obtain rfl : news = [] := List.eq_nil_of_length_eq_zero (by simpa using s2)
              rw [e1, run_app_nil0 t o.type e i hu hi s1] at hrun
              have heq : (st.scrub s).setH s (some (.arr i.size ([] ++ []))) = st.scrub s := by
                simp only [ASt.setH]
                cases hq : st.scrub s with
                | mk f p =>
                  simp only
                  congr 1
                  funext k
                  simp only [upd]
                  split
                  · rename_i e; subst e; rw [hq] at hbs; exact hbs.symm
                  · rfl
              rw [heq]
              exact ⟨_, w, A, σ, hrun, hsc, .inl ⟨_, rfl, .lslnil kσ, fun s' hs' => by rw [AV.refs, List.mem_singleton] at hs'; subst hs'; rw [hbs]; simp⟩⟩
            · exact grow none 0 [] e1 (by simp) (.inl ⟨rfl, rfl⟩) (by simp) (by simp) (by simp; omega)
          · rcases hbr with ⟨q1, _⟩ | ⟨b', vs, el', q1, q2, q3, q5, q4⟩
            · rw [q1] at j1; cases j1
            · obtain rfl : b' = b := Option.some.inj (q1.symm.trans j1)
              rw [q2] at j4
              simp only [Option.some.injEq, Obj.cells.injEq] at j4
              obtain ⟨e3, e4, _⟩ := j4
              subst e3
              subst e4
              have ho' := j3 (.inr rfl)
              simp only [Nat.zero_mul] at ho'
              subst ho'
              simp only [Nat.zero_add] at j5
              have hol : (vs.toList.take (es.length * i.size)).length = es.length * i.size := by simp; omega
              have hget : ∀ j, j < es.length * i.size → (vs.toList.take (es.length * i.size)).getD j undef = vs.getD j undef := by
                intro j hj
                simp [List.getD, Array.getD_eq_getD_getElem?, List.getElem?_take_of_lt hj]
              have hone : ∀ u ∈ vs.toList.take (es.length * i.size), u.oneCell' = true := by
                intro u hu
                obtain ⟨j, hj⟩ := List.mem_iff_getElem?.1 hu
                have hjl := (List.getElem?_eq_some_iff.1 hj).1
                rw [hol] at hjl
                have e3 := hget j hjl
                simp only [List.getD, hj, Option.getD_some] at e3
                rw [e3]
                exact q5 j hjl
              have hrel : ∀ (ii : Nat) (e : List AV) (c : Nat) (x : AV), es[ii]? = some e → e[c]? = some x → VR0 S A w x ((vs.toList.take (es.length * i.size)).getD (ii * i.size + c) undef) := by
                intro ii ee c xx hi' hc
                rw [hget _ (idx_lt (List.getElem?_eq_some_iff.1 hi').1 (by have := (List.getElem?_eq_some_iff.1 hc).1; have := k0 ee (List.mem_of_getElem? hi'); omega))]
                exact q4 _ _ _ _ hi' hc
              by_cases hr : es.length + ys.length ≤ cap
              · have hfit : es.length * i.size + news.length ≤ vs.size := by
                  rw [s2, ← Nat.add_mul]
                  exact Nat.le_trans (Nat.mul_le_mul_right _ hr) j5
                have hrr := run_app_room (P := S.P) t o.type e i hu hi b' es.length cap vs el' q2 s1 s2 s4 hr hfit
                rw [e1, hrr] at hrun
                simp only [Result.andThen_ok] at hrun
                generalize hnew : (vs.toList.take (es.length * i.size) ++ news ++ vs.toList.drop (es.length * i.size + news.length)) = nw at hrun
                have hsz : nw.toArray.size = vs.size := by rw [← hnew]; simp; omega
                have hA : ∀ c, A c → (w.setRow b' nw.toArray).heap[c]? = w.heap[c]? := fun c hc => setRow_other w b' c _ (fun e => (h.dom s b' q1).2.2.1 (e ▸ hc))
                refine ⟨_, _, A, σ, hrun, hsc.setBlk q1 q2 hsz (by simp [Blk.refs]) ⟨hk0, .inr ⟨b', _, el', q1, setRow_heap w b' vs _ el' _ q2, ?_, fun j hj => ?_, fun ii ee c xx hi' hc => ?_⟩⟩, .inl ⟨_, rfl, ?_, fun s' hs' => ?_⟩⟩
                · rw [hsz, hlen]; exact Nat.le_trans (Nat.mul_le_mul_right _ hr) j5
                · rw [list_toArray_getD, ← hnew]; exact append_one hol s2 hone s4 j (by rw [hlen] at hj; exact hj)
                · rw [list_toArray_getD]
                  have hx := (append_rel (rest := vs.toList.drop (es.length * i.size + news.length)) k0 s3 hol s2 hrel s5 ii ee c xx hi' hc).mono (w' := w.setRow b' nw.toArray) (fun _ h => h) hA
                  rw [hnew] at hx
                  exact hx
                · exact .lsl q1 hr (fun _ => by simp) (setRow_heap w b' vs _ el' _ q2) (by rw [hsz]; simpa using j5) j6
                · rw [AV.refs, List.mem_singleton] at hs'
                  subst hs'
                  simp [ASt.setH, upd]
              · exact grow _ cap _ e1 hol (.inr ⟨_, rfl, fun j v hj => by
                  have hjl := (List.getElem?_eq_some_iff.1 hj).1
                  rw [hol] at hjl
                  rw [List.getElem?_take_of_lt hjl] at hj
                  rw [Addr.add_lit, Nat.zero_add, cell_of_row w b' j vs el' _ q2]
                  simpa using hj⟩) hone hrel (by omega)
        · cases ha
      · cases ha
    · cases ha
  · cases ha
end
end Ab
