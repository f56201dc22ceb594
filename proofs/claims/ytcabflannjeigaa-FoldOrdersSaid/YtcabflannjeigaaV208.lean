/-
  The seat's program for the abstract machine, and the contracts of all functions that the law reaches: written by program (genlaw.py).
-/
import Derived.Test.YtcabflannjeigaaMC
import Derived.Test.YtcabflannjeigaaMCl
import Derived.Test.YtcabflannjeigaaMFo
import Derived.Test.YtcabflannjeigaaMFt
import Derived.Test.YtcabflannjeigaaMI
import Derived.Test.YtcabflannjeigaaMO
import Derived.Test.YtcabflannjeigaaC2
import Derived.Test.YtcabflannjeigaaMRo
import Derived.Test.YtcabflannjeigaaC1
import Derived.Test.YtcabflannjeigaaMSo
import Derived.Test.YtcabflannjeigaaMT
import Derived.Test.YtcabflannjeigaaW208
import Derived.Test.YtcabflannjeigaaMSvd
import Derived.Test.YtcabflannjeigaaRows
import Derived.KernelRfl
namespace Ab.Try
open Go Go.Proofs
def fns : List (Nat × Nat) := [(3, 208), (4, 209), (5, 8), (6, 24), (7, 132), (8, 110), (9, 21), (10, 210), (11, 211), (12, 54), (13, 30), (14, 114), (15, 49), (16, 27), (17, 58), (18, 113), (19, 40), (20, 212), (21, 213), (22, 214), (23, 47), (24, 69), (25, 33), (26, 70), (27, 51), (28, 59), (29, 60), (30, 61), (31, 45), (32, 215), (33, 216), (34, 217), (35, 76), (36, 14), (37, 44), (38, 74), (39, 48), (40, 218), (41, 219), (42, 220), (43, 221), (44, 222), (45, 223), (46, 224), (47, 225), (48, 226), (49, 227), (50, 198), (51, 15), (52, 38), (53, 39), (54, 81), (55, 228), (56, 229), (57, 230), (58, 231), (59, 232), (60, 84), (61, 41), (62, 42), (63, 65), (64, 233), (65, 66), (66, 67), (67, 37), (68, 75), (69, 63), (70, 64)]
def tys : List (Nat × Nat) := [(54, 1)]
noncomputable def seat : Seat := { P := Try.prog, fns, tys, muts := [(54, [1])], own := [76, 21] }
theorem callable : Callable seat := callable_of (by kernel_rfl)
theorem o48 : Ok1 seat 48 tf48 := ok1_of callable Try.func39 (by kernel_rfl) (by kernel_rfl)
theorem R48 : Rt seat k48 := r48 o48
theorem o45 : Ok1 seat 45 tf45 := ok1_of callable Try.func31 (by kernel_rfl) (by kernel_rfl)
theorem R45 : Rt seat k45 := r45 o45 R48
theorem o113 : Ok1 seat 113 tf113 := ok1_of callable Try.func18 (by kernel_rfl) (by kernel_rfl)
theorem R113 : Rt seat k113 := r113 o113 R45
theorem o67 : Ok1 seat 67 tf67 := ok1_of callable Try.func66 (by kernel_rfl) (by kernel_rfl)
theorem R67 : Rt seat k67 := r67 o67
theorem o75 : Ok1 seat 75 tf75 := ok1_of callable Try.func68 (by kernel_rfl) (by kernel_rfl)
theorem R75_67 : Rt seat k75_67 := r75_67 o75 R67
theorem o66 : Ok1 seat 66 tf66 := ok1_of callable Try.func65 (by kernel_rfl) (by kernel_rfl)
theorem R66_67 : Rt seat k66_67 := r66_67 o66 R75_67
theorem o41 : Ok1 seat 41 tf41 := ok1_of callable Try.func61 (by kernel_rfl) (by kernel_rfl)
theorem R41 : Rt seat k41 := r41 o41 R66_67
theorem o64 : Ok1 seat 64 tf64 := ok1_of callable Try.func70 (by kernel_rfl) (by kernel_rfl)
theorem R64 : Rt seat k64 := r64 o64
theorem o63 : Ok1 seat 63 tf63 := ok1_of callable Try.func69 (by kernel_rfl) (by kernel_rfl)
theorem R63_64 : Rt seat k63_64 := r63_64 o63 R64
theorem o37 : Ok1 seat 37 tf37 := ok1_of callable Try.func67 (by kernel_rfl) (by kernel_rfl)
theorem R37 : Rt seat k37 := r37 o37 R63_64
theorem o42 : Ok1 seat 42 tf42 := ok1_of callable Try.func62 (by kernel_rfl) (by kernel_rfl)
theorem R42 : Rt seat k42 := r42 o42 R37 R41
theorem o15 : Ok1 seat 15 tf15 := ok1_of callable Try.func51 (by kernel_rfl) (by kernel_rfl)
theorem R15 : Rt seat k15 := r15 o15 R41 R42
theorem o39 : Ok1 seat 39 tf39 := ok1_of callable Try.func53 (by kernel_rfl) (by kernel_rfl)
theorem R39 : Rt seat k39 := r39 o39
theorem o65 : Ok1 seat 65 tf65 := ok1_of callable Try.func63 (by kernel_rfl) (by kernel_rfl)
theorem R65_39 : Rt seat k65_39 := r65_39 o65 R39
theorem o38 : Ok1 seat 38 tf38 := ok1_of callable Try.func52 (by kernel_rfl) (by kernel_rfl)
theorem R38_39 : Rt seat k38_39 := r38_39 o38 R65_39
theorem o40 : Ok1 seat 40 tf40 := ok1_of callable Try.func19 (by kernel_rfl) (by kernel_rfl)
theorem R40 : Rt seat k40 := r40 o40
theorem o14 : Ok1 seat 14 tf14 := ok1_of callable Try.func36 (by kernel_rfl) (by kernel_rfl)
theorem R14 : Rt seat k14 := r14 o14 R15 R38_39 R40
theorem o51 : Ok1 seat 51 tf51 := ok1_of callable Try.func27 (by kernel_rfl) (by kernel_rfl)
theorem R51 : Rt seat k51 := r51 o51 R14
theorem o58 : Ok1 seat 58 tf58 := ok1_of callable Try.func17 (by kernel_rfl) (by kernel_rfl)
theorem R58 : Rt seat k58 := r58 o58
theorem o47 : Ok1 seat 47 tf47 := ok1_of callable Try.func23 (by kernel_rfl) (by kernel_rfl)
theorem R47 : Rt seat k47 := r47 o47
theorem o44 : Ok1 seat 44 tf44 := ok1_of callable Try.func37 (by kernel_rfl) (by kernel_rfl)
theorem R44 : Rt seat k44 := r44 o44 R47
theorem o59 : Ok1 seat 59 tf59 := ok1_of callable Try.func28 (by kernel_rfl) (by kernel_rfl)
theorem R59 : Rt seat k59 := r59 o59 R44
theorem o60 : Ok1 seat 60 tf60 := ok1_of callable Try.func29 (by kernel_rfl) (by kernel_rfl)
theorem R60 : Rt seat k60 := r60 o60
theorem o84 : Ok1 seat 84 tf84 := ok1_of callable Try.func60 (by kernel_rfl) (by kernel_rfl)
theorem R84 : Rt seat k84 := r84 o84
theorem o81 : Ok1 seat 81 tf81 := ok1_of callable Try.func54 (by kernel_rfl) (by kernel_rfl)
theorem R81 : Rt seat k81 := r81 o81 R84
theorem o74 : Ok1 seat 74 tf74 := ok1_of callable Try.func38 (by kernel_rfl) (by kernel_rfl)
theorem R74 : Rt seat k74 := r74 o74 R81
theorem o61 : Ok1 seat 61 tf61 := ok1_of callable Try.func30 (by kernel_rfl) (by kernel_rfl)
theorem R61 : Rt seat k61 := r61 o61 R74
theorem o27 : Ok1 seat 27 tf27 := ok1_of callable Try.func16 (by kernel_rfl) (by kernel_rfl)
theorem R27 : Rt seat k27 := r27 o27 R51 R58 R59 R60 R61
theorem o110 : Ok1 seat 110 tf110 := ok1_of callable Try.func8 (by kernel_rfl) (by kernel_rfl)
theorem R110 : Rt seat k110 := r110 o110 R113 R27 R58
theorem o114 : Ok1 seat 114 tf114 := ok1_of callable Try.func14 (by kernel_rfl) (by kernel_rfl)
theorem R114 : Rt seat k114 := r114 o114 R51 R58
theorem o49 : Ok1 seat 49 tf49 := ok1_of callable Try.func15 (by kernel_rfl) (by kernel_rfl)
theorem R49 : Rt seat k49 := r49 o49
theorem o132 : Ok1 seat 132 tf132 := ok1_of callable Try.func7 (by kernel_rfl) (by kernel_rfl)
theorem R132 : Rt seat k132 := r132 o132 R114 R49
theorem o30 : Ok1 seat 30 tf30 := ok1_of callable Try.func13 (by kernel_rfl) (by kernel_rfl)
theorem R30 : Rt seat k30 := r30 o30
theorem o8 : Ok1 seat 8 tf8 := ok1_of callable Try.func5 (by kernel_rfl) (by kernel_rfl)
theorem R8 : Rt seat k8 := r8 o8 R30
theorem o21 : Ok1 seat 21 tf21 := ok1_of callable Try.func9 (by kernel_rfl) (by kernel_rfl)
theorem R21 : Rt seat k21 := r21 o21 R27 R40 R49 R8
theorem o210_214 : SortedAt seat := fun g hg gc hgc => by
  have hall : only 10 210 fns = true := by kernel_rfl
  have hm := List.all_eq_true.1 hall _ (assoc_mem _ _ _ hg)
  have hg' : g = 10 := by simpa using hm
  subst hg'
  have hall2 : only 22 214 fns = true := by kernel_rfl
  have hm2 := List.all_eq_true.1 hall2 _ (assoc_mem _ _ _ hgc)
  have hg2 : gc = 22 := by simpa using hm2
  subst hg2
  exact fun Bs o sv zs w hB hc hI hb => Go.Proofs.TrySeq.sorted_calls Bs o sv zs w hB hc hI hb
theorem R210_214 : Rt seat k210_214 := r210_214 o210_214
theorem o211 : ValuesAt seat := fun g hg => by
  have hall : only 11 211 fns = true := by kernel_rfl
  have hm := List.all_eq_true.1 hall _ (assoc_mem _ _ _ hg)
  have hg' : g = 11 := by simpa using hm
  subst hg'
  exact ⟨22, by kernel_rfl, fun a len cap w => Go.Proofs.TrySeq.values_calls a len cap w⟩
theorem R211 : Rt seat k211 := r211 o211
theorem o33 : Ok1 seat 33 tf33 := ok1_of callable Try.func25 (by kernel_rfl) (by kernel_rfl)
theorem R33 : Rt seat k33 := r33 o33 R8
theorem o69 : Ok1 seat 69 tf69 := ok1_of callable Try.func24 (by kernel_rfl) (by kernel_rfl)
theorem R69 : Rt seat k69 := r69 o69
theorem o76 : Ok1 seat 76 tf76 := ok1_of callable Try.func35 (by kernel_rfl) (by kernel_rfl)
theorem R76 : Rt seat k76 := r76 o76
theorem o70 : Ok1 seat 70 tf70 := ok1_of callable Try.func26 (by kernel_rfl) (by kernel_rfl)
theorem R70 : Rt seat k70 := r70 o70 R76
theorem o54 : Ok1 seat 54 tf54 := ok1_of callable Try.func12 (by kernel_rfl) (by kernel_rfl)
theorem R54 : Rt seat k54 := r54 o54 R33 R47 R49 R69 R70
theorem o209 : Ok1 seat 209 tf209 := ok1_of callable Try.func4 (by kernel_rfl) (by kernel_rfl)
theorem R209 : Rt seat k209 := r209 o209 R21 R210_214 R211 R54
theorem o24 : Ok1 seat 24 tf24 := ok1_of callable Try.func6 (by kernel_rfl) (by kernel_rfl)
theorem R24 : Rt seat k24 := r24 o24
theorem o208 : Ok1 seat 208 tf208 := ok1_of callable Try.func3 (by kernel_rfl) (by kernel_rfl)
theorem R208 : Rt seat k208 := r208 o208 R110 R132 R209 R24 R8
end Ab.Try
