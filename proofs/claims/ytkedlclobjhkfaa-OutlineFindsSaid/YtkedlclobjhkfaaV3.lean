/-
  The seat's program for the abstract machine, and the contracts of all functions that the law reaches: written by program (genlaw.py).
-/
import Derived.Test.YtkedlclobjhkfaaMO
import Derived.Test.YtkedlclobjhkfaaW3
import Derived.Test.YtkedlclobjhkfaaRows
import Derived.KernelRfl
namespace Ab.Try
open Go Go.Proofs
def fns : List (Nat × Nat) := [(3, 0), (4, 1), (5, 2), (6, 3), (7, 4), (8, 5), (9, 6), (10, 7), (11, 8), (12, 9), (13, 10), (14, 11), (15, 12), (16, 13), (17, 14), (18, 15), (19, 16), (20, 17), (21, 18), (22, 19), (23, 20), (24, 21), (25, 22), (26, 23), (27, 24), (28, 25), (29, 26), (30, 27), (31, 28), (32, 29), (33, 30), (34, 31), (35, 32), (36, 33), (37, 34), (38, 35), (39, 36), (40, 37), (41, 38), (42, 39), (43, 40), (44, 41), (45, 42), (46, 43), (47, 44), (48, 45), (49, 46), (50, 47), (51, 48), (52, 49), (53, 50), (54, 51), (55, 52), (56, 53), (57, 54), (58, 55), (59, 56), (60, 57), (61, 58), (62, 59), (63, 60), (64, 61), (65, 62), (66, 63), (67, 64), (68, 65), (69, 66), (70, 67), (71, 68), (72, 69), (73, 70), (74, 71), (75, 72), (76, 73), (77, 74), (78, 75), (79, 76), (80, 77), (81, 78), (82, 79), (83, 80), (84, 81), (86, 83), (87, 84), (88, 85), (89, 86)]
def tys : List (Nat × Nat) := [(23, 1)]
noncomputable def seat : Seat := { P := Try.prog, fns, tys, muts := [], own := [] }
theorem callable : Callable seat := callable_of (by kernel_rfl)
theorem o67 : Ok1 seat 67 tf67 := ok1_of callable Try.func70 (by kernel_rfl) (by kernel_rfl)
theorem R67 : Rt seat k67 := r67 o67
theorem o75 : Ok1 seat 75 tf75 := ok1_of callable Try.func78 (by kernel_rfl) (by kernel_rfl)
theorem R75_67 : Rt seat k75_67 := r75_67 o75 R67
theorem o66 : Ok1 seat 66 tf66 := ok1_of callable Try.func69 (by kernel_rfl) (by kernel_rfl)
theorem R66_67 : Rt seat k66_67 := r66_67 o66 R75_67
theorem o41 : Ok1 seat 41 tf41 := ok1_of callable Try.func44 (by kernel_rfl) (by kernel_rfl)
theorem R41 : Rt seat k41 := r41 o41 R66_67
theorem o64 : Ok1 seat 64 tf64 := ok1_of callable Try.func67 (by kernel_rfl) (by kernel_rfl)
theorem R64 : Rt seat k64 := r64 o64
theorem o63 : Ok1 seat 63 tf63 := ok1_of callable Try.func66 (by kernel_rfl) (by kernel_rfl)
theorem R63_64 : Rt seat k63_64 := r63_64 o63 R64
theorem o37 : Ok1 seat 37 tf37 := ok1_of callable Try.func40 (by kernel_rfl) (by kernel_rfl)
theorem R37 : Rt seat k37 := r37 o37 R63_64
theorem o42 : Ok1 seat 42 tf42 := ok1_of callable Try.func45 (by kernel_rfl) (by kernel_rfl)
theorem R42 : Rt seat k42 := r42 o42 R37 R41
theorem o15 : Ok1 seat 15 tf15 := ok1_of callable Try.func18 (by kernel_rfl) (by kernel_rfl)
theorem R15 : Rt seat k15 := r15 o15 R41 R42
theorem o13 : Ok1 seat 13 tf13 := ok1_of callable Try.func16 (by kernel_rfl) (by kernel_rfl)
theorem R13 : Rt seat k13 := r13 o13 R15 R37
theorem o39 : Ok1 seat 39 tf39 := ok1_of callable Try.func42 (by kernel_rfl) (by kernel_rfl)
theorem R39 : Rt seat k39 := r39 o39
theorem o65 : Ok1 seat 65 tf65 := ok1_of callable Try.func68 (by kernel_rfl) (by kernel_rfl)
theorem R65_39 : Rt seat k65_39 := r65_39 o65 R39
theorem o38 : Ok1 seat 38 tf38 := ok1_of callable Try.func41 (by kernel_rfl) (by kernel_rfl)
theorem R38_39 : Rt seat k38_39 := r38_39 o38 R65_39
theorem o40 : Ok1 seat 40 tf40 := ok1_of callable Try.func43 (by kernel_rfl) (by kernel_rfl)
theorem R40 : Rt seat k40 := r40 o40
theorem o14 : Ok1 seat 14 tf14 := ok1_of callable Try.func17 (by kernel_rfl) (by kernel_rfl)
theorem R14 : Rt seat k14 := r14 o14 R15 R38_39 R40
theorem o3 : Ok1 seat 3 tf3 := ok1_of callable Try.func6 (by kernel_rfl) (by kernel_rfl)
theorem R3 : Rt seat k3 := r3 o3 R13 R14 R15
end Ab.Try
