/-
  The seat's program for the abstract machine, and the contracts of all functions that the law reaches: written by program (genlaw.py).
-/
import Derived.Test.YtkedlclobjhkfaaMO
import Derived.Test.YtkedlclobjhkfaaMT
import Derived.Test.YtkedlclobjhkfaaW4
import Derived.Test.YtkedlclobjhkfaaRows
import Derived.KernelRfl
namespace Ab.Try
open Go Go.Proofs
def fns : List (Nat × Nat) := [(3, 0), (4, 1), (5, 2), (6, 3), (7, 4), (8, 5), (9, 6), (10, 7), (11, 8), (12, 9), (13, 10), (14, 11), (15, 12), (16, 13), (17, 14), (18, 15), (19, 16), (20, 17), (21, 18), (22, 19), (23, 20), (24, 21), (25, 22), (26, 23), (27, 24), (28, 25), (29, 26), (30, 27), (31, 28), (32, 29), (33, 30), (34, 31), (35, 32), (36, 33), (37, 34), (38, 35), (39, 36), (40, 37), (41, 38), (42, 39), (43, 40), (44, 41), (45, 42), (46, 43), (47, 44), (48, 45), (49, 46), (50, 47), (51, 48), (52, 49), (53, 50), (54, 51), (55, 52), (56, 53), (57, 54), (58, 55), (59, 56), (60, 57), (61, 58), (62, 59), (63, 60), (64, 61), (65, 62), (66, 63), (67, 64), (68, 65), (69, 66), (70, 67), (71, 68), (72, 69), (73, 70), (74, 71), (75, 72), (76, 73), (77, 74), (78, 75), (79, 76), (80, 77), (81, 78), (82, 79), (83, 80), (84, 81), (86, 83), (87, 84), (88, 85), (89, 86)]
def tys : List (Nat × Nat) := [(23, 1)]
noncomputable def seat : Seat := { P := Try.prog, fns, tys, muts := [], own := [] }
theorem callable : Callable seat := callable_of (by kernel_rfl)
theorem o67 : Ok1 seat 67 tf67 := ok1_of callable Try.func70 (by kernel_rfl) (by kernel_rfl)
theorem R67 : Rt seat k67 := r67 o67
theorem o75 : Ok1 seat 75 tf75 := ok1_of callable Try.func78 (by kernel_rfl) (by kernel_rfl)
theorem R75_67 : Rt seat k75_67 := r75_67 o75 R67
theorem o66 : Ok1 seat 66 tf66 := ok1_of callable Try.func69 (by kernel_rfl) (by kernel_rfl)
theorem R66_67 : Rt seat k66_67 := r66_67 o66 R75_67
theorem o41 : Ok1 seat 41 tf41 := ok1_of callable Try.func44 (by kernel_rfl) (by kernel_rfl)
theorem R41 : Rt seat k41 := r41 o41 R66_67
theorem o64 : Ok1 seat 64 tf64 := ok1_of callable Try.func67 (by kernel_rfl) (by kernel_rfl)
theorem R64 : Rt seat k64 := r64 o64
theorem o63 : Ok1 seat 63 tf63 := ok1_of callable Try.func66 (by kernel_rfl) (by kernel_rfl)
theorem R63_64 : Rt seat k63_64 := r63_64 o63 R64
theorem o37 : Ok1 seat 37 tf37 := ok1_of callable Try.func40 (by kernel_rfl) (by kernel_rfl)
theorem R37 : Rt seat k37 := r37 o37 R63_64
theorem o42 : Ok1 seat 42 tf42 := ok1_of callable Try.func45 (by kernel_rfl) (by kernel_rfl)
theorem R42 : Rt seat k42 := r42 o42 R37 R41
theorem o15 : Ok1 seat 15 tf15 := ok1_of callable Try.func18 (by kernel_rfl) (by kernel_rfl)
theorem R15 : Rt seat k15 := r15 o15 R41 R42
theorem o43 : Ok1 seat 43 tf43 := ok1_of callable Try.func46 (by kernel_rfl) (by kernel_rfl)
theorem R43 : Rt seat k43 := r43 o43 R15
theorem o47 : Ok1 seat 47 tf47 := ok1_of callable Try.func50 (by kernel_rfl) (by kernel_rfl)
theorem R47 : Rt seat k47 := r47 o47
theorem o44 : Ok1 seat 44 tf44 := ok1_of callable Try.func47 (by kernel_rfl) (by kernel_rfl)
theorem R44 : Rt seat k44 := r44 o44 R47
theorem o48 : Ok1 seat 48 tf48 := ok1_of callable Try.func51 (by kernel_rfl) (by kernel_rfl)
theorem R48 : Rt seat k48 := r48 o48
theorem o45 : Ok1 seat 45 tf45 := ok1_of callable Try.func48 (by kernel_rfl) (by kernel_rfl)
theorem R45 : Rt seat k45 := r45 o45 R48
theorem o16 : Ok1 seat 16 tf16 := ok1_of callable Try.func19 (by kernel_rfl) (by kernel_rfl)
theorem R16 : Rt seat k16 := r16 o16 R43 R44 R45
theorem o46 : Ok1 seat 46 tf46 := ok1_of callable Try.func49 (by kernel_rfl) (by kernel_rfl)
theorem R46 : Rt seat k46 := r46 o46 R44 R45
theorem o17 : Ok1 seat 17 tf17 := ok1_of callable Try.func20 (by kernel_rfl) (by kernel_rfl)
theorem R17 : Rt seat k17 := r17 o17 R43 R46
theorem o18 : Ok1 seat 18 tf18 := ok1_of callable Try.func21 (by kernel_rfl) (by kernel_rfl)
theorem R18 : Rt seat k18 := r18 o18 R43 R47
theorem o19 : Ok1 seat 19 tf19 := ok1_of callable Try.func22 (by kernel_rfl) (by kernel_rfl)
theorem R19 : Rt seat k19 := r19 o19 R43 R48
theorem o20 : Ok1 seat 20 tf20 := ok1_of callable Try.func23 (by kernel_rfl) (by kernel_rfl)
theorem R20 : Rt seat k20 := r20 o20 R43 R44
theorem o4 : Ok1 seat 4 tf4 := ok1_of callable Try.func7 (by kernel_rfl) (by kernel_rfl)
theorem R4 : Rt seat k4 := r4 o4 R16 R17 R18 R19 R20
end Ab.Try
