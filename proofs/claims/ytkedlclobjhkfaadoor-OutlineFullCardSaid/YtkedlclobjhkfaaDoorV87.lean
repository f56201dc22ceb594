/-
  The seat's program for the abstract machine, and the contracts of all functions that the law reaches: written by program (genlaw.py).
-/
import Derived.Test.YtkedlclobjhkfaaDoorMF
import Derived.Test.YtkedlclobjhkfaaDoorMO
import Derived.Test.YtkedlclobjhkfaaDoorMP
import Derived.Test.YtkedlclobjhkfaaDoorMS
import Derived.Test.YtkedlclobjhkfaaDoorMX
import Derived.Test.YtkedlclobjhkfaaDoorW87
import Derived.Test.YtkedlclobjhkfaaDoorMYd
import Derived.Test.YtkedlclobjhkfaaDoorRows
import Derived.KernelRfl
namespace Ab.Tryd
open Go Go.Proofs
def fns : List (Nat × Nat) := [(3, 87), (4, 88), (5, 89), (6, 90), (7, 91), (8, 50), (9, 68), (10, 14), (11, 92), (12, 93), (13, 94), (14, 95), (15, 15), (16, 96), (17, 13), (18, 41), (19, 97), (20, 22), (21, 98), (22, 19), (23, 17), (24, 16), (25, 99), (26, 100), (27, 101), (28, 102), (29, 18), (30, 20), (31, 103), (32, 104), (33, 38), (34, 39), (35, 40), (36, 105), (37, 51), (38, 106), (39, 42), (40, 37), (41, 66), (42, 67), (43, 69), (44, 43), (45, 48), (46, 46), (47, 44), (48, 45), (49, 47), (50, 65), (51, 107), (52, 63), (53, 64), (54, 75), (58, 169)]
def tys : List (Nat × Nat) := [(67, 1)]
noncomputable def seat : Seat := { P := Tryd.prog, fns, tys, muts := [], own := [], glob := [(0, Go.Proofs.Trydtold.handle)] }
theorem callable : Callable seat := callable_of (by kernel_rfl)
theorem o67 : Ok1 seat 67 tf67 := ok1_of callable Tryd.func42 (by kernel_rfl) (by kernel_rfl)
theorem R67 : Rt seat k67 := r67 o67
theorem o75 : Ok1 seat 75 tf75 := ok1_of callable Tryd.func54 (by kernel_rfl) (by kernel_rfl)
theorem R75_67 : Rt seat k75_67 := r75_67 o75 R67
theorem o66 : Ok1 seat 66 tf66 := ok1_of callable Tryd.func41 (by kernel_rfl) (by kernel_rfl)
theorem R66_67 : Rt seat k66_67 := r66_67 o66 R75_67
theorem o41 : Ok1 seat 41 tf41 := ok1_of callable Tryd.func18 (by kernel_rfl) (by kernel_rfl)
theorem R41 : Rt seat k41 := r41 o41 R66_67
theorem o64 : Ok1 seat 64 tf64 := ok1_of callable Tryd.func53 (by kernel_rfl) (by kernel_rfl)
theorem R64 : Rt seat k64 := r64 o64
theorem o63 : Ok1 seat 63 tf63 := ok1_of callable Tryd.func52 (by kernel_rfl) (by kernel_rfl)
theorem R63_64 : Rt seat k63_64 := r63_64 o63 R64
theorem o37 : Ok1 seat 37 tf37 := ok1_of callable Tryd.func40 (by kernel_rfl) (by kernel_rfl)
theorem R37 : Rt seat k37 := r37 o37 R63_64
theorem o42 : Ok1 seat 42 tf42 := ok1_of callable Tryd.func39 (by kernel_rfl) (by kernel_rfl)
theorem R42 : Rt seat k42 := r42 o42 R37 R41
theorem o15 : Ok1 seat 15 tf15 := ok1_of callable Tryd.func15 (by kernel_rfl) (by kernel_rfl)
theorem R15 : Rt seat k15 := r15 o15 R41 R42
theorem o39 : Ok1 seat 39 tf39 := ok1_of callable Tryd.func34 (by kernel_rfl) (by kernel_rfl)
theorem R39 : Rt seat k39 := r39 o39
theorem o65 : Ok1 seat 65 tf65 := ok1_of callable Tryd.func50 (by kernel_rfl) (by kernel_rfl)
theorem R65_39 : Rt seat k65_39 := r65_39 o65 R39
theorem o38 : Ok1 seat 38 tf38 := ok1_of callable Tryd.func33 (by kernel_rfl) (by kernel_rfl)
theorem R38_39 : Rt seat k38_39 := r38_39 o38 R65_39
theorem o40 : Ok1 seat 40 tf40 := ok1_of callable Tryd.func35 (by kernel_rfl) (by kernel_rfl)
theorem R40 : Rt seat k40 := r40 o40
theorem o14 : Ok1 seat 14 tf14 := ok1_of callable Tryd.func10 (by kernel_rfl) (by kernel_rfl)
theorem R14 : Rt seat k14 := r14 o14 R15 R38_39 R40
theorem o68 : Ok1 seat 68 tf68 := ok1_of callable Tryd.func9 (by kernel_rfl) (by kernel_rfl)
theorem R68 : Rt seat k68 := r68 o68
theorem o50 : Ok1 seat 50 tf50 := ok1_of callable Tryd.func8 (by kernel_rfl) (by kernel_rfl)
theorem R50 : Rt seat k50 := r50 o50 R68
theorem R105a (x : Err) (y : Int) (hy : P105 x = some y) : (realRets seat).ret 105 (encAL [.err] x) (encA .int y) [] := by
  intro g hg
  have hall : only 36 105 fns = true := by kernel_rfl
  have hm := List.all_eq_true.1 hall _ (assoc_mem _ _ _ hg)
  have hg' : g = 36 := by simpa using hm
  subst hg'
  refine ⟨rfl, fun A w vs hl hA ha => ?_⟩
  have hvs : vs.size = 1 := by cases x <;> exact hl
  obtain ⟨v, rfl⟩ : ∃ v, vs = #[v] := ⟨vs[0], by
    apply Array.ext
    · simpa using hvs
    · intro i h1 h2
      obtain rfl : i = 0 := by omega
      rfl⟩
  cases x with
  | nil =>
    obtain rfl : y = 0 := (Option.some.inj hy).symm
    have hv : VR0 seat A w (.v .nilIface) v := ha 0 _ rfl
    obtain rfl : v = .nilIface := VR.v_inv (σ := fun _ => none) (.of0 hv)
    refine (Go.Proofs.Trydtold.told_nil w).mono fun e w' ⟨he, hw⟩ => ?_
    subst hw
    exact ⟨_, he, .refl _ _, fun _ => none, by simp, by simp, rfl, .v _⟩
  | no n =>
    obtain rfl : y = n := (Option.some.inj hy).symm
    have hv : VR0 seat A w (.ifc 1 (aI y)) v := ha 0 _ rfl
    obtain ⟨T, u, rfl, hT, hu⟩ : ∃ T u, v = .iface T u ∧ assoc T tys = some 1 ∧ VR0 seat A w (aI y) u := by cases hv with | ifc h1 h2 => exact ⟨_, _, rfl, h1, h2⟩
    obtain rfl : u = .int .i64 y := VR.v_inv (σ := fun _ => none) (.of0 hu)
    obtain rfl : T = 67 := by
      have := assoc_mem _ _ _ hT
      simpa [tys] using this
    refine (Go.Proofs.Trydtold.told_no y w (hA.2 (0, _) (List.mem_singleton.2 rfl))).mono fun e w' ⟨he, hb⟩ => ?_
    exact ⟨_, he, ⟨hb.os, hb.tape, hb.output, hb.size, fun k hk _ => hb.block k hk⟩, fun _ => none, by simp, by simp, rfl, .v _⟩
  | oth t => cases hy
theorem R105 : Rt seat k105 := R105a
theorem o92 : Ok1 seat 92 tf92 := ok1_of callable Tryd.func11 (by kernel_rfl) (by kernel_rfl)
theorem R92 : Rt seat k92 := r92 o92 R105
theorem o51 : Ok1 seat 51 tf51 := ok1_of callable Tryd.func37 (by kernel_rfl) (by kernel_rfl)
theorem R51 : Rt seat k51 := r51 o51 R14
theorem o93 : Ok1 seat 93 tf93 := ok1_of callable Tryd.func12 (by kernel_rfl) (by kernel_rfl)
theorem R93 : Rt seat k93 := r93 o93 R40 R51
theorem o87 : Ok1 seat 87 tf87 := ok1_of callable Tryd.func3 (by kernel_rfl) (by kernel_rfl)
theorem R87 : Rt seat k87 := r87 o87 R14 R50 R68 R92 R93
end Ab.Tryd
