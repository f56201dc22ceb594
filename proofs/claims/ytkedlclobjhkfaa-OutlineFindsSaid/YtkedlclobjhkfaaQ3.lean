/-
  Plain law: OutlineFinds answers true.
-/
import Derived.Test.YtkedlclobjhkfaaW3
import Derived.Test.YtkedlclobjhkfaaQO
namespace Ab
open Go
set_option linter.unusedVariables false
set_option linter.unusedSimpArgs false

theorem where_found {d : Dim} (h : DimOk d) {i : Nat} {m : Member} (hi : d.members[i]? = some m) : whereM d.members m.name = i := by
  obtain ⟨hlt, rfl⟩ := List.getElem?_eq_some_iff.1 hi
  unfold whereM idxOf
  have : d.members.findIdx? (fun x => decide (x.name = d.members[i].name)) = some i := by
    rw [List.findIdx?_eq_some_iff_getElem]
    refine ⟨hlt, by simp, fun j hj => ?_⟩
    have hm := h.mem i _ hi
    unfold memErr at hm
    by_cases h1 : nameBad d.members[i].name = true
    · rw [if_pos h1] at hm; cases hm
    rw [if_neg h1] at hm
    by_cases h2 : ((d.members.take i).any fun x => decide (x.name = d.members[i].name)) = true
    · rw [if_pos h2] at hm; cases hm
    simp only [List.any_eq_true, not_exists, not_and] at h2
    exact h2 d.members[j] (by rw [List.mem_take_iff_getElem]; exact ⟨j, by omega, rfl⟩)
  rw [this]

theorem p3 (o : List Dim) (ho : Lst Dim.gd o) : P3 o = some true := by
  simp only [P3, S3, P13_eq, P14_eq, bno_s, errOf_nil]
  have f1 : DimOk (Dim.mk (⟨#[97]⟩ : ByteArray) (0 : Int) ([Member.mk (⟨#[98]⟩ : ByteArray) (-1 : Int) (0 : Int) (⟨#[]⟩ : ByteArray), Member.mk (⟨#[99]⟩ : ByteArray) (0 : Int) (0 : Int) (⟨#[]⟩ : ByteArray)] : List Member)) := by
    rw [← dim_ok]; decide +kernel
  have f2 : whereM ([Member.mk (⟨#[98]⟩ : ByteArray) (-1 : Int) (0 : Int) (⟨#[]⟩ : ByteArray), Member.mk (⟨#[99]⟩ : ByteArray) (0 : Int) (0 : Int) (⟨#[]⟩ : ByteArray)] : List Member) (⟨#[99]⟩ : ByteArray) = 1 := by decide +kernel
  simp only [dim_ok.2 f1, f2, if_true]
  simp
  by_cases hok : (outErr o).2.2 = 0
  · have ok := out_ok.1 hok
    simp only [hok, decide_true, Bool.not_true, br_false]
    have hlen : o.length ≤ 4 := ok.len.2
    have inner : ∀ (i : Nat) (d : Dim), o[i]? = some d → lpO (S3_L1 P13 o (i : Int)) 0 = some (.inl (d.members.length : Int)) := by
      intro i d hi
      have hd := ok.dims d (List.mem_of_getElem? hi)
      have hl := hd.len
      rw [nat_loop d.members.length fun j hj => ?_, lpO_dn (y := (d.members.length : Int))]
      · simp [S3_L1, lookI_nat, hi]
      · have e : ((j : Nat) : Int) < ((d.members.length : Nat) : Int) := by omega
        simp only [S3_L1, lookI_nat, hi, bno_s, e, decide_true, br_true, List.getElem?_eq_getElem hj, P13_eq, dim_ok.2 hd, if_true, where_found hd (List.getElem?_eq_getElem hj)]
        rw [wiid (by omega) (by omega)]
        have : ¬ ((j : Int) < 0) := by omega
        simp [this]
    have outer : lpO (S3_L2 P13 P15 o) 0 = some (.inl (o.length : Int)) := by
      rw [nat_loop o.length fun i hi => ?_, lpO_dn (y := (o.length : Int))]
      · simp [S3_L2]
      · have e : ((i : Nat) : Int) < ((o.length : Nat) : Int) := by omega
        have hd := ok.dims o[i] (List.getElem_mem hi)
        simp only [S3_L2, e, decide_true, br_true, lookI_nat, List.getElem?_eq_getElem hi, bno_s, P15_eq, dim_ok1 hd]
        simp only [lp_eq, inner i _ (List.getElem?_eq_getElem hi)]
        rw [wiid (by omega) (by omega)]
        simp [errOf]
    simp only [lp_eq, outer, jn_l]
  · simp [hok]
end Ab
