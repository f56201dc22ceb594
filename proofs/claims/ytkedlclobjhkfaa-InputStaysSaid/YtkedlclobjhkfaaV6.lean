/-
  The seat's program for the abstract machine, and the contracts of all functions that the law reaches: written by program (genlaw.py).
-/
import Derived.Test.YtkedlclobjhkfaaMC
import Derived.Test.YtkedlclobjhkfaaMCl
import Derived.Test.YtkedlclobjhkfaaMI
import Derived.Test.YtkedlclobjhkfaaMIn
import Derived.Test.YtkedlclobjhkfaaMO
import Derived.Test.YtkedlclobjhkfaaMP
import Derived.Test.YtkedlclobjhkfaaMS
import Derived.Test.YtkedlclobjhkfaaMSl
import Derived.Test.YtkedlclobjhkfaaMT
import Derived.Test.YtkedlclobjhkfaaW6
import Derived.Test.YtkedlclobjhkfaaRows
import Derived.KernelRfl
namespace Ab.Try
open Go Go.Proofs
def fns : List (Nat × Nat) := [(3, 0), (4, 1), (5, 2), (6, 3), (7, 4), (8, 5), (9, 6), (10, 7), (11, 8), (12, 9), (13, 10), (14, 11), (15, 12), (16, 13), (17, 14), (18, 15), (19, 16), (20, 17), (21, 18), (22, 19), (23, 20), (24, 21), (25, 22), (26, 23), (27, 24), (28, 25), (29, 26), (30, 27), (31, 28), (32, 29), (33, 30), (34, 31), (35, 32), (36, 33), (37, 34), (38, 35), (39, 36), (40, 37), (41, 38), (42, 39), (43, 40), (44, 41), (45, 42), (46, 43), (47, 44), (48, 45), (49, 46), (50, 47), (51, 48), (52, 49), (53, 50), (54, 51), (55, 52), (56, 53), (57, 54), (58, 55), (59, 56), (60, 57), (61, 58), (62, 59), (63, 60), (64, 61), (65, 62), (66, 63), (67, 64), (68, 65), (69, 66), (70, 67), (71, 68), (72, 69), (73, 70), (74, 71), (75, 72), (76, 73), (77, 74), (78, 75), (79, 76), (80, 77), (81, 78), (82, 79), (83, 80), (84, 81), (86, 83), (87, 84), (88, 85), (89, 86)]
def tys : List (Nat × Nat) := [(23, 1)]
noncomputable def seat : Seat := { P := Try.prog, fns, tys, muts := [(54, [1]), (71, [1001]), (77, [1000]), (78, [1000, 1002])], own := [53, 72, 76, 79] }
theorem callable : Callable seat := callable_of (by kernel_rfl)
theorem o67 : Ok1 seat 67 tf67 := ok1_of callable Try.func70 (by kernel_rfl) (by kernel_rfl)
theorem R67 : Rt seat k67 := r67 o67
theorem o75 : Ok1 seat 75 tf75 := ok1_of callable Try.func78 (by kernel_rfl) (by kernel_rfl)
theorem R75_67 : Rt seat k75_67 := r75_67 o75 R67
theorem o66 : Ok1 seat 66 tf66 := ok1_of callable Try.func69 (by kernel_rfl) (by kernel_rfl)
theorem R66_67 : Rt seat k66_67 := r66_67 o66 R75_67
theorem o41 : Ok1 seat 41 tf41 := ok1_of callable Try.func44 (by kernel_rfl) (by kernel_rfl)
theorem R41 : Rt seat k41 := r41 o41 R66_67
theorem o64 : Ok1 seat 64 tf64 := ok1_of callable Try.func67 (by kernel_rfl) (by kernel_rfl)
theorem R64 : Rt seat k64 := r64 o64
theorem o63 : Ok1 seat 63 tf63 := ok1_of callable Try.func66 (by kernel_rfl) (by kernel_rfl)
theorem R63_64 : Rt seat k63_64 := r63_64 o63 R64
theorem o37 : Ok1 seat 37 tf37 := ok1_of callable Try.func40 (by kernel_rfl) (by kernel_rfl)
theorem R37 : Rt seat k37 := r37 o37 R63_64
theorem o42 : Ok1 seat 42 tf42 := ok1_of callable Try.func45 (by kernel_rfl) (by kernel_rfl)
theorem R42 : Rt seat k42 := r42 o42 R37 R41
theorem o15 : Ok1 seat 15 tf15 := ok1_of callable Try.func18 (by kernel_rfl) (by kernel_rfl)
theorem R15 : Rt seat k15 := r15 o15 R41 R42
theorem o39 : Ok1 seat 39 tf39 := ok1_of callable Try.func42 (by kernel_rfl) (by kernel_rfl)
theorem R39 : Rt seat k39 := r39 o39
theorem o65 : Ok1 seat 65 tf65 := ok1_of callable Try.func68 (by kernel_rfl) (by kernel_rfl)
theorem R65_39 : Rt seat k65_39 := r65_39 o65 R39
theorem o38 : Ok1 seat 38 tf38 := ok1_of callable Try.func41 (by kernel_rfl) (by kernel_rfl)
theorem R38_39 : Rt seat k38_39 := r38_39 o38 R65_39
theorem o40 : Ok1 seat 40 tf40 := ok1_of callable Try.func43 (by kernel_rfl) (by kernel_rfl)
theorem R40 : Rt seat k40 := r40 o40
theorem o14 : Ok1 seat 14 tf14 := ok1_of callable Try.func17 (by kernel_rfl) (by kernel_rfl)
theorem R14 : Rt seat k14 := r14 o14 R15 R38_39 R40
theorem o51 : Ok1 seat 51 tf51 := ok1_of callable Try.func54 (by kernel_rfl) (by kernel_rfl)
theorem R51 : Rt seat k51 := r51 o51 R14
theorem o58 : Ok1 seat 58 tf58 := ok1_of callable Try.func61 (by kernel_rfl) (by kernel_rfl)
theorem R58 : Rt seat k58 := r58 o58
theorem o47 : Ok1 seat 47 tf47 := ok1_of callable Try.func50 (by kernel_rfl) (by kernel_rfl)
theorem R47 : Rt seat k47 := r47 o47
theorem o44 : Ok1 seat 44 tf44 := ok1_of callable Try.func47 (by kernel_rfl) (by kernel_rfl)
theorem R44 : Rt seat k44 := r44 o44 R47
theorem o59 : Ok1 seat 59 tf59 := ok1_of callable Try.func62 (by kernel_rfl) (by kernel_rfl)
theorem R59 : Rt seat k59 := r59 o59 R44
theorem o60 : Ok1 seat 60 tf60 := ok1_of callable Try.func63 (by kernel_rfl) (by kernel_rfl)
theorem R60 : Rt seat k60 := r60 o60
theorem o84 : Ok1 seat 84 tf84 := ok1_of callable Try.func87 (by kernel_rfl) (by kernel_rfl)
theorem R84 : Rt seat k84 := r84 o84
theorem o81 : Ok1 seat 81 tf81 := ok1_of callable Try.func84 (by kernel_rfl) (by kernel_rfl)
theorem R81 : Rt seat k81 := r81 o81 R84
theorem o74 : Ok1 seat 74 tf74 := ok1_of callable Try.func77 (by kernel_rfl) (by kernel_rfl)
theorem R74 : Rt seat k74 := r74 o74 R81
theorem o61 : Ok1 seat 61 tf61 := ok1_of callable Try.func64 (by kernel_rfl) (by kernel_rfl)
theorem R61 : Rt seat k61 := r61 o61 R74
theorem o27 : Ok1 seat 27 tf27 := ok1_of callable Try.func30 (by kernel_rfl) (by kernel_rfl)
theorem R27 : Rt seat k27 := r27 o27 R51 R58 R59 R60 R61
theorem o80 : Ok1 seat 80 tf80 := ok1_of callable Try.func83 (by kernel_rfl) (by kernel_rfl)
theorem R80_61 : Rt seat k80_61 := r80_61 o80 R61
theorem o73 : Ok1 seat 73 tf73 := ok1_of callable Try.func76 (by kernel_rfl) (by kernel_rfl)
theorem R73 : Rt seat k73 := r73 o73 R80_61
theorem o76 : Ok1 seat 76 tf76 := ok1_of callable Try.func79 (by kernel_rfl) (by kernel_rfl)
theorem R76s : Rt seat k76s := r76s o76
def slρ : Go.Shelf.Ren := ⟨fun n => match n with | 22 => 81 | 29 => 85 | 30 => 86 | 45 => 80 | _ => 0, fun n => match n with | 0 => 0 | 3 => 3 | 4 => 4 | 9 => 63 | 24 => 56 | 22 => 56 | 23 => 63 | _ => 0, fun n => n⟩
def slzc : Array Value := #[.slice none 0 0, .int .i64 0]
theorem slL : SlL Try.prog slρ slzc := ⟨by kernel_rfl, by kernel_rfl, by kernel_rfl, by kernel_rfl, by kernel_rfl, by kernel_rfl, by kernel_rfl, rfl, fun u hu => by
  simp only [slzc, List.mem_cons, List.not_mem_nil, or_false] at hu
  rcases hu with rfl | rfl <;> rfl⟩
theorem insL : InsL Try.prog slρ slzc := { slL with
  f22 := ⟨ "slices.Insert[[]tallyhall/api.Entry,tallyhall/api.Entry]", by kernel_rfl, by kernel_rfl⟩
  ov := fun args w => run_callFunc_extern (e := Extern.SlicesOverlaps.overlaps #[56, 56] #[4]) Try.func85 (by kernel_rfl) (by kernel_rfl) (by kernel_rfl) (by kernel_rfl) args w
  t24 := by kernel_rfl
  i24 := by kernel_rfl
  i9 := by kernel_rfl }
theorem delL : DelL Try.prog slρ slzc := { slL with
  f45 := ⟨ "slices.Delete[[]tallyhall/api.Entry,tallyhall/api.Entry]", by kernel_rfl, by kernel_rfl⟩
  t22 := by kernel_rfl
  i22 := by kernel_rfl
  i23 := by kernel_rfl }
theorem o77 : DelAt seat 77 := fun g hg => by
  have hall : only 80 77 fns = true := by kernel_rfl
  have hm := List.all_eq_true.1 hall _ (assoc_mem _ _ _ hg)
  have hg' : g = 80 := by simpa using hm
  subst hg'
  exact ⟨slρ, slzc, rfl, delL⟩
theorem o78 : InsAt seat 78 := fun g hg => by
  have hall : only 81 78 fns = true := by kernel_rfl
  have hm := List.all_eq_true.1 hall _ (assoc_mem _ _ _ hg)
  have hg' : g = 81 := by simpa using hm
  subst hg'
  exact ⟨slρ, slzc, rfl, insL⟩
theorem R77 : Rt seat k77 := r77 o77
theorem R78 : Rt seat k78 := r78 o78
theorem o71 : Ok1 seat 71 tf71 := ok1_of callable Try.func74 (by kernel_rfl) (by kernel_rfl)
theorem R71 : Rt seat k71 := r71 o71 R58 R59 R60 R73 R76s R77 R78
theorem o79 : Ok1 seat 79 tf79 := ok1_of callable Try.func82 (by kernel_rfl) (by kernel_rfl)
theorem R79 : Rt seat k79 := r79 o79
theorem o72 : Ok1 seat 72 tf72 := ok1_of callable Try.func75 (by kernel_rfl) (by kernel_rfl)
theorem R72 : Rt seat k72 := r72 o72 R76s R79
theorem o55 : Ok1 seat 55 tf55 := ok1_of callable Try.func58 (by kernel_rfl) (by kernel_rfl)
theorem R55 : Rt seat k55 := r55 o55 R27 R71 R72
theorem o25 : Ok1 seat 25 tf25 := ok1_of callable Try.func28 (by kernel_rfl) (by kernel_rfl)
theorem R25 : Rt seat k25 := r25 o25 R55
theorem o56 : Ok1 seat 56 tf56 := ok1_of callable Try.func59 (by kernel_rfl) (by kernel_rfl)
theorem R56 : Rt seat k56 := r56 o56 R27 R58
theorem o57 : Ok1 seat 57 tf57 := ok1_of callable Try.func60 (by kernel_rfl) (by kernel_rfl)
theorem R57 : Rt seat k57 := r57 o57 R73
theorem o26 : Ok1 seat 26 tf26 := ok1_of callable Try.func29 (by kernel_rfl) (by kernel_rfl)
theorem R26 : Rt seat k26 := r26 o26 R56 R57
theorem o28 : Ok1 seat 28 tf28 := ok1_of callable Try.func31 (by kernel_rfl) (by kernel_rfl)
theorem R28 : Rt seat k28 := r28 o28
theorem o29 : Ok1 seat 29 tf29 := ok1_of callable Try.func32 (by kernel_rfl) (by kernel_rfl)
theorem R29 : Rt seat k29 := r29 o29 R55
theorem o30 : Ok1 seat 30 tf30 := ok1_of callable Try.func33 (by kernel_rfl) (by kernel_rfl)
theorem R30 : Rt seat k30 := r30 o30
theorem o8 : Ok1 seat 8 tf8 := ok1_of callable Try.func11 (by kernel_rfl) (by kernel_rfl)
theorem R8 : Rt seat k8 := r8 o8 R30
theorem o6 : Ok1 seat 6 tf6 := ok1_of callable Try.func9 (by kernel_rfl) (by kernel_rfl)
theorem R6 : Rt seat k6 := r6 o6 R25 R26 R27 R28 R29 R8
end Ab.Try
