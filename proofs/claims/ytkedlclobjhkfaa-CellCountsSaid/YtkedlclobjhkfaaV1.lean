/-
  The seat's program for the abstract machine, and the contracts of all functions that the law reaches: written by program (genlaw.py).
-/
import Derived.Test.YtkedlclobjhkfaaMC
import Derived.Test.YtkedlclobjhkfaaW1
import Derived.Test.YtkedlclobjhkfaaRows
import Derived.KernelRfl
namespace Ab.Try
open Go Go.Proofs
def fns : List (Nat × Nat) := [(3, 0), (4, 1), (5, 2), (6, 3), (7, 4), (8, 5), (9, 6), (10, 7), (11, 8), (12, 9), (13, 10), (14, 11), (15, 12), (16, 13), (17, 14), (18, 15), (19, 16), (20, 17), (21, 18), (22, 19), (23, 20), (24, 21), (25, 22), (26, 23), (27, 24), (28, 25), (29, 26), (30, 27), (31, 28), (32, 29), (33, 30), (34, 31), (35, 32), (36, 33), (37, 34), (38, 35), (39, 36), (40, 37), (41, 38), (42, 39), (43, 40), (44, 41), (45, 42), (46, 43), (47, 44), (48, 45), (49, 46), (50, 47), (51, 48), (52, 49), (53, 50), (54, 51), (55, 52), (56, 53), (57, 54), (58, 55), (59, 56), (60, 57), (61, 58), (62, 59), (63, 60), (64, 61), (65, 62), (66, 63), (67, 64), (68, 65), (69, 66), (70, 67), (71, 68), (72, 69), (73, 70), (74, 71), (75, 72), (76, 73), (77, 74), (78, 75), (79, 76), (80, 77), (81, 78), (82, 79), (83, 80), (84, 81), (86, 83), (87, 84), (88, 85), (89, 86)]
def tys : List (Nat × Nat) := [(23, 1)]
noncomputable def seat : Seat := { P := Try.prog, fns, tys, muts := [], own := [] }
theorem callable : Callable seat := callable_of (by kernel_rfl)
theorem o62 : Ok1 seat 62 tf62 := ok1_of callable Try.func65 (by kernel_rfl) (by kernel_rfl)
theorem R62 : Rt seat k62 := r62 o62
theorem o30 : Ok1 seat 30 tf30 := ok1_of callable Try.func33 (by kernel_rfl) (by kernel_rfl)
theorem R30 : Rt seat k30 := r30 o30
theorem o8 : Ok1 seat 8 tf8 := ok1_of callable Try.func11 (by kernel_rfl) (by kernel_rfl)
theorem R8 : Rt seat k8 := r8 o8 R30
theorem o34 : Ok1 seat 34 tf34 := ok1_of callable Try.func37 (by kernel_rfl) (by kernel_rfl)
theorem R34 : Rt seat k34 := r34 o34 R62 R8
theorem o52 : Ok1 seat 52 tf52 := ok1_of callable Try.func55 (by kernel_rfl) (by kernel_rfl)
theorem R52 : Rt seat k52 := r52 o52 R30
theorem o31 : Ok1 seat 31 tf31 := ok1_of callable Try.func34 (by kernel_rfl) (by kernel_rfl)
theorem R31_34 : Rt seat k31_34 := r31_34 o31 R34 R52
theorem o10 : Ok1 seat 10 tf10 := ok1_of callable Try.func13 (by kernel_rfl) (by kernel_rfl)
theorem R10 : Rt seat k10 := r10 o10 R31_34
theorem o33 : Ok1 seat 33 tf33 := ok1_of callable Try.func36 (by kernel_rfl) (by kernel_rfl)
theorem R33 : Rt seat k33 := r33 o33 R8
theorem o32 : Ok1 seat 32 tf32 := ok1_of callable Try.func35 (by kernel_rfl) (by kernel_rfl)
theorem R32 : Rt seat k32 := r32 o32 R33
theorem R31_32 : Rt seat k31_32 := r31_32 o31 R32 R52
theorem o9 : Ok1 seat 9 tf9 := ok1_of callable Try.func12 (by kernel_rfl) (by kernel_rfl)
theorem R9 : Rt seat k9 := r9 o9 R31_32
theorem o1 : Ok1 seat 1 tf1 := ok1_of callable Try.func4 (by kernel_rfl) (by kernel_rfl)
theorem R1 : Rt seat k1 := r1 o1 R10 R8 R9
end Ab.Try
