/-
  All operations of the real machine that the abstract one has.
-/
import Derived.Test.YtkedlclobjhkfaaDoorAbO
namespace Ab
open Go Go.RowKit
set_option linter.unusedVariables false
set_option linter.unusedSimpArgs false
set_option linter.unnecessarySimpa false

section
variable {S : Seat} {A0 O : Nat → Prop} {w0 : World} {A : Nat → Prop} {σ : Nat → Option Nat} {w : World} {st st' : ASt} {tm : Array Value} {df : List Deferred} {o : Oper} {v : AV} {d : Nat}

theorem cField_some {P : Program} {t : TypeId} {f : Nat} {fl : Field} (h : cField P t f = some fl) : ∃ fs, P.underlying t = some (.struct fs) ∧ fs[f]? = some fl := by
  unfold cField at h
  split at h
  · rename_i fs hu; exact ⟨fs, hu, h⟩
  · cases h

theorem op_binOp (h : SRel S A0 O w0 A σ w st tm) {op : BinOp} {t u : TypeId} {x y : Operand} (ho : o.op = .binOp op t x y u) {a : AOp} (hc : cBin S op t x y = some a) (ha : aop a d st = some (v, st')) : OpOk S A0 O w0 w tm df o v st' := by
  unfold cBin at hc
  split at hc
  · rename_i k x' y' hu hx hy
    have : a = .bin .int op x' y' := by cases op <;> simp at hc <;> exact hc.symm
    subst this
    exact op_bin h ho (fun e => by cases e) hx hy ha
  · rename_i x' y' hu hx hy
    have : a = .bin .str op x' y' := by cases op <;> simp at hc <;> exact hc.symm
    subst this
    exact op_bin h ho (fun e => by cases e) hx hy ha
  · rename_i x' y' hu hx hy
    have : a = .bin .bool op x' y' := by cases op <;> simp at hc <;> exact hc.symm
    subst this
    exact op_bin h ho (fun _ => hu) hx hy ha
  · rename_i fs x' y' hu hx hy
    split at hc
    · rename_i hg
      split at hc
      · rename_i l _ hl
        cases hc
        exact op_eqa (neg := false) h (by simpa using ho) hu hg.1 hg.2 (by assumption) hx hy ha
      · rename_i l _ hl
        cases hc
        exact op_eqa (neg := true) h (by simpa using ho) hu hg.1 hg.2 (by assumption) hx hy ha
      · cases hc
    · cases hc
  · rename_i ms x' y' hu hx hy
    split at hc
    · split at hc
      · cases hc
        rename_i hn
        exact op_eqnI (neg := false) (z := x) h (by simpa using ho) hu (.inl ⟨rfl, hn⟩) hx ha
      · split at hc
        · cases hc
          rename_i hn
          exact op_eqnI (neg := false) (z := y) h (by simpa using ho) hu (.inr ⟨rfl, hn⟩) hy ha
        · cases hc
    · split at hc
      · cases hc
        rename_i hn
        exact op_eqnI (neg := true) (z := x) h (by simpa using ho) hu (.inl ⟨rfl, hn⟩) hx ha
      · split at hc
        · cases hc
          rename_i hn
          exact op_eqnI (neg := true) (z := y) h (by simpa using ho) hu (.inr ⟨rfl, hn⟩) hy ha
        · cases hc
    · cases hc
  · rename_i e x' y' hu hx hy
    split at hc
    · cases hc
      exact op_eqnS (neg := false) h (by simpa using ho) hu hx ha
    · cases hc
      exact op_eqnS (neg := true) h (by simpa using ho) hu hx ha
    · cases hc
  · cases hc

theorem op_conv (h : SRel S A0 O w0 A σ w st tm) {s t : TypeId} {x : Operand} (ho : o.op = .convert s t x) {a : AOp} (hc : cConv S s t x = some a) (ha : aop a d st = some (v, st')) : OpOk S A0 O w0 w tm df o v st' := by
  unfold cConv at hc
  split at hc
  · rename_i k0 k x' hs ht hx
    cases hc
    exact op_cvi h ho hs ht hx ha
  · rename_i e x' hs ht hx
    split at hc
    · rename_i he hz
      cases hc
      exact op_cvs (i := default) h ho hs ht he hx ha
    · cases hc
  · cases hc

theorem op_builtin (h : SRel S A0 O w0 A σ w st tm) {c : Call} (ho : o.op = .call c) {a : AOp} (hc : cCall S c o.type = some a) (ha : aop a d st = some (v, st')) : OpOk S A0 O w0 w tm df o v st' := by
  obtain ⟨callee, args, tys⟩ := c
  unfold cCall at hc
  split at hc
  · split at hc
    · split at hc
      · cases hc; simp [aop] at ha
      · cases hc
    · cases hc
  · split at hc
    · cases hc; simp [aop] at ha
    · cases hc
  · rename_i hcal
    simp only at hcal
    subst hcal
    split at hc
    · rename_i x t hx ht
      have hargs : args = #[x] := by simpa using congrArg List.toArray hx
      have htys : tys = #[t] := by simpa using congrArg List.toArray ht
      subst hargs
      subst htys
      split at hc
      · rename_i hu
        simp only [Option.map_eq_some_iff] at hc
        obtain ⟨x', hx', rfl⟩ := hc
        exact op_lenS h ho hu hx' ha
      · rename_i e hu
        simp only [Option.map_eq_some_iff] at hc
        obtain ⟨x', hx', rfl⟩ := hc
        exact op_len h ho hu hx' ha
      · cases hc
    · cases hc
  · rename_i hcal
    simp only at hcal
    subst hcal
    split at hc
    · rename_i x y t u hx ht
      have hargs : args = #[x, y] := by simpa using congrArg List.toArray hx
      have htys : tys = #[t, u] := by simpa using congrArg List.toArray ht
      subst hargs
      subst htys
      split at hc
      · rename_i e z zs x' y' he hz hx' hy'
        split at hc
        · rename_i htu
          subst htu
          cases hc
          obtain ⟨hu, i, hi, hsz, h0, h1, h2⟩ := cElem_some he
          rw [he] at hz
          obtain ⟨i', zv, k1, k2, k3, k4, k5, k6⟩ := cZero_some hz
          simp only [Option.getD_some] at k1
          obtain rfl : i' = i := Option.some.inj (k1.symm.trans hi)
          simp only at hsz
          subst hsz
          exact op_app h ho hu hi k2 k4 h2 hx' hy' ha
        · cases hc
      · cases hc
    · cases hc
  · rename_i hcal
    simp only at hcal
    subst hcal
    split at hc
    · rename_i x y hx
      have hargs : args = #[x, y] := by simpa using congrArg List.toArray hx
      subst hargs
      split at hc
      · rename_i x' y' hx' hy'
        cases hc
        exact op_max h ho hx' hy' ha
      · cases hc
    · cases hc
  · cases hc

theorem op_all (h : SRel S A0 O w0 A σ w st tm) {a : AOp} (hc : cOp S o.op o.type = some a) (ha : aop a d st = some (v, st')) : OpOk S A0 O w0 w tm df o v st' := by
  unfold cOp at hc
  split at hc
  · rename_i x ho
    simp only [Option.map_eq_some_iff] at hc
    obtain ⟨x', hx, rfl⟩ := hc
    exact op_mov h (.inl ho) hx ha
  · rename_i x ho
    simp only [Option.map_eq_some_iff] at hc
    obtain ⟨x', hx, rfl⟩ := hc
    exact op_mov h (.inr ho) hx ha
  · rename_i e x ho
    simp only [Option.map_eq_some_iff] at hc
    obtain ⟨x', hx, rfl⟩ := hc
    exact op_box h ho hx ha
  · rename_i e ho
    simp only [Option.map_eq_some_iff] at hc
    obtain ⟨z, hz, rfl⟩ := hc
    exact op_alloc h ho hz ha
  · rename_i t ps ho
    split at hc
    · rename_i fs zero l hu hz hl
      split at hc
      · rename_i szs hs
        cases hc
        exact op_build h ho hu hz hl hs ha
      · cases hc
    · cases hc
  · rename_i t len ps ho
    split at hc
    · rename_i e z zero l he hz hl
      split at hc
      · rename_i hlen
        cases hc
        obtain ⟨hu, i, hi, hsz, h0, h1, h2⟩ := cElem_some he
        rw [he] at hz
        obtain ⟨i', zv, k1, k2, k3, k4, k5, k6⟩ := cZero_some hz
        simp only [Option.getD_some] at k1
        obtain rfl : i' = i := Option.some.inj (k1.symm.trans hi)
        simp only at hsz
        subst hsz
        subst k3
        exact op_bslice h ho hu hi k2 k4 h0 h1 k6 hl hlen ha
      · cases hc
    · cases hc
  · rename_i t x ho
    split at hc
    · rename_i n x' hn hx
      cases hc
      exact op_load h ho hn hx ha
    · cases hc
  · rename_i t a' x ho
    split at hc
    · rename_i z a2 x2 hz h1 h2
      cases hc
      exact op_store h ho hz h1 h2 ha
    · cases hc
  · rename_i x ho
    simp only [Option.map_eq_some_iff] at hc
    obtain ⟨x', hx, rfl⟩ := hc
    exact op_chk h ho hx ha
  · rename_i op t x y u ho
    exact op_binOp h ho hc ha
  · rename_i op t x ho
    split at hc
    · simp only [Option.map_eq_some_iff] at hc
      obtain ⟨x', hx, rfl⟩ := hc
      exact op_un h ho hx ha
    · simp only [Option.map_eq_some_iff] at hc
      obtain ⟨x', hx, rfl⟩ := hc
      exact op_un h ho hx ha
    · cases hc
  · rename_i s t x ho
    exact op_conv h ho hc ha
  · rename_i t x ho
    split at hc
    · rename_i k x' i hk hx hu
      cases hc
      exact op_ifc h ho hx hk (.inl ⟨i, hu⟩) ha
    · rename_i k x' fs hk hx hu
      cases hc
      exact op_ifc h ho hx hk (.inr ⟨fs, hu⟩) ha
    · cases hc
  · rename_i f first caps ho
    split at hc
    · rename_i hf
      split at hc
      · rename_i id l hid hl
        cases hc
        exact op_mkfn h ho hf hid hl ha
      · cases hc
    · cases hc
  · rename_i t l c ho
    split at hc
    · rename_i e z zero l' c' he hz hl hc'
      cases hc
      obtain ⟨hu, i, hi, hsz, h0, h1, h2⟩ := cElem_some he
      rw [he] at hz
      obtain ⟨i', zv, k1, k2, k3, k4, k5, k6⟩ := cZero_some hz
      simp only [Option.getD_some] at k1
      obtain rfl : i' = i := Option.some.inj (k1.symm.trans hi)
      simp only at hsz
      subst hsz
      subst k3
      exact op_mksl h ho hu hi k2 k4 h0 h2 k6 hl hc' ha
    · cases hc
  · rename_i t x lo hi ho
    split at hc
    · rename_i x' lo' hi' hu hx hlo hhi
      cases hc
      exact op_slcS h ho hu hx hlo hhi ha
    · rename_i e0 x' lo' hi' hu hx hlo hhi
      split at hc
      · rename_i e z he
        cases hc
        obtain ⟨hu', i, hi2, hsz, h0, h1, h2⟩ := cElem_some he
        simp only at hsz
        subst hsz
        exact op_slc h ho hu' hi2 h0 hx hlo hhi ha
      · cases hc
    · cases hc
  · rename_i t x f ho
    split at hc
    · rename_i fl x' hf hx
      split at hc
      · rename_i n hn
        split at hc
        · rename_i h0
          cases hc
          obtain ⟨fs, hu, hfl⟩ := cField_some hf
          exact op_fa h ho hu hfl hn h0 hx ha
        · cases hc
      · cases hc
    · cases hc
  · rename_i t x f ho
    split at hc
    · rename_i fl x' hf hx
      split at hc
      · rename_i n hn
        cases hc
        obtain ⟨fs, hu, hfl⟩ := cField_some hf
        exact op_fld h ho hu hfl hn hx ha
      · cases hc
    · cases hc
  · rename_i t x i ho
    split at hc
    · rename_i e z x' i' he hx hi
      cases hc
      obtain ⟨hu, inf, hinf, hsz, h0, h1, h2⟩ := cElem_some he
      simp only at hsz
      subst hsz
      exact op_ia h ho hu hinf hx hi ha
    · cases hc
  · rename_i t x i ho
    split at hc
    · rename_i x' i' hu hx hi
      cases hc
      exact op_ix h ho hu hx hi ha
    · cases hc
  · rename_i x i ho
    simp only [Option.map_eq_some_iff] at hc
    obtain ⟨x', hx, rfl⟩ := hc
    exact op_ext h ho hx ha
  · rename_i c a' b ho
    split at hc
    · rename_i c' a2 b2 h1 h2 h3
      cases hc
      exact op_pick h ho h1 h2 h3 ha
    · cases hc
  · rename_i c ho
    exact op_builtin h ho hc ha
  · cases hc
end
end Ab
