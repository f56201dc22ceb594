/-
  The seat's program for the abstract machine, and the contracts of all functions that the law reaches: written by program (genlaw.py).
-/
import Derived.Test.YthjpciiacibnhaaDoorMO
import Derived.Test.YthjpciiacibnhaaDoorMP
import Derived.Test.YthjpciiacibnhaaDoorMP2
import Derived.Test.YthjpciiacibnhaaDoorMPr
import Derived.Test.YthjpciiacibnhaaDoorMS
import Derived.Test.YthjpciiacibnhaaDoorMSp
import Derived.Test.YthjpciiacibnhaaDoorW116
import Derived.Test.YthjpciiacibnhaaDoorMSq
import Derived.Test.YthjpciiacibnhaaDoorRows
import Derived.KernelRfl
namespace Ab.Tryd
open Go Go.Proofs
def fns : List (Nat × Nat) := [(3, 115), (4, 116), (5, 117), (6, 118), (7, 119), (8, 120), (9, 121), (10, 122), (11, 123), (12, 124), (13, 110), (14, 92), (15, 125), (16, 126), (17, 127), (18, 128), (19, 129), (20, 130), (21, 111), (22, 131), (23, 98), (24, 132), (25, 133), (26, 28), (27, 22), (28, 112), (29, 27), (30, 134), (31, 26), (32, 135), (33, 25), (34, 136), (35, 29), (36, 137), (37, 9), (38, 8), (39, 138), (40, 139), (41, 10), (42, 12), (43, 114), (44, 140), (45, 141), (46, 106), (47, 93), (48, 142), (49, 143), (50, 144), (51, 52), (52, 145), (53, 146), (54, 147), (55, 148), (56, 11), (57, 149), (58, 150), (59, 151), (60, 58), (61, 113), (62, 105), (63, 94), (64, 46), (65, 103), (66, 102), (67, 59), (68, 51), (69, 152), (70, 37), (71, 153), (72, 40), (73, 69), (74, 49), (75, 154), (76, 50), (77, 72), (78, 71), (79, 60), (80, 61), (81, 155), (82, 56), (83, 57), (84, 55), (85, 31), (86, 32), (87, 33), (88, 30), (89, 156), (90, 157), (91, 34), (92, 36), (93, 158), (94, 96), (95, 159), (96, 160), (97, 35), (98, 161), (99, 45), (100, 107), (101, 95), (102, 44), (103, 100), (104, 14), (105, 162), (106, 63), (107, 64), (108, 163), (109, 164), (110, 165), (111, 166), (112, 68), (113, 79), (114, 76), (115, 73), (116, 77), (117, 78), (118, 74), (119, 167), (120, 168), (121, 62), (122, 48), (126, 169), (127, 97), (128, 47), (129, 15), (130, 38), (131, 39), (132, 170), (133, 171), (134, 172), (135, 173), (136, 174), (137, 80), (139, 83), (140, 81), (141, 175), (142, 176), (143, 177), (147, 41), (148, 42), (149, 65), (150, 178), (151, 179), (153, 180), (156, 85), (157, 84), (158, 181), (159, 182), (160, 183), (161, 184), (162, 185), (163, 186), (164, 187), (165, 188), (166, 189), (167, 66), (168, 67), (169, 190), (170, 191), (172, 192), (173, 193), (174, 86), (175, 194), (176, 195), (177, 196), (178, 197), (179, 198), (180, 199), (181, 200), (182, 201), (183, 75), (185, 202), (186, 203), (187, 204), (188, 205), (189, 206), (225, 207)]
def tys : List (Nat × Nat) := [(103, 1), (200, 4)]
noncomputable def seat : Seat := { P := Tryd.prog, fns, tys, muts := [(71, [1001]), (77, [1000]), (78, [1000, 1002])], own := [72, 76, 79], more := [1], hold := Go.Proofs.TrydSep.hold, holdK := Go.Proofs.TrydSep.holdK }
theorem callable : Callable seat := callable_of (by kernel_rfl)
theorem o152 : SplitAt seat 152 := fun g hg => by
  have hall : only 69 152 fns = true := by kernel_rfl
  have hm := List.all_eq_true.1 hall _ (assoc_mem _ _ _ hg)
  have hg' : g = 69 := by simpa using hm
  subst hg'
  exact fun s sep w h0 h1 hw => Go.Proofs.TrydSep.split_at s sep w h0 h1 hw
theorem R152 : Rt seat k152 := r152 o152
theorem o163 : Ok1 seat 163 tf163 := ok1_of callable Tryd.func108 (by kernel_rfl) (by kernel_rfl)
theorem R163 : Rt seat k163 := r163 o163
theorem o153 : Ok1 seat 153 tf153 := ok1_of callable Tryd.func71 (by kernel_rfl) (by kernel_rfl)
theorem R153 : Rt seat k153 := r153 o153 R163
theorem o64 : Ok1 seat 64 tf64 := ok1_of callable Tryd.func107 (by kernel_rfl) (by kernel_rfl)
theorem R64 : Rt seat k64 := r64 o64
theorem o63 : Ok1 seat 63 tf63 := ok1_of callable Tryd.func106 (by kernel_rfl) (by kernel_rfl)
theorem R63_64 : Rt seat k63_64 := r63_64 o63 R64
theorem o37 : Ok1 seat 37 tf37 := ok1_of callable Tryd.func70 (by kernel_rfl) (by kernel_rfl)
theorem R37 : Rt seat k37 := r37 o37 R63_64
theorem o67 : Ok1 seat 67 tf67 := ok1_of callable Tryd.func168 (by kernel_rfl) (by kernel_rfl)
theorem R67 : Rt seat k67 := r67 o67
theorem o75 : Ok1 seat 75 tf75 := ok1_of callable Tryd.func183 (by kernel_rfl) (by kernel_rfl)
theorem R75_67 : Rt seat k75_67 := r75_67 o75 R67
theorem o66 : Ok1 seat 66 tf66 := ok1_of callable Tryd.func167 (by kernel_rfl) (by kernel_rfl)
theorem R66_67 : Rt seat k66_67 := r66_67 o66 R75_67
theorem o41 : Ok1 seat 41 tf41 := ok1_of callable Tryd.func147 (by kernel_rfl) (by kernel_rfl)
theorem R41 : Rt seat k41 := r41 o41 R66_67
theorem o42 : Ok1 seat 42 tf42 := ok1_of callable Tryd.func148 (by kernel_rfl) (by kernel_rfl)
theorem R42 : Rt seat k42 := r42 o42 R37 R41
theorem o15 : Ok1 seat 15 tf15 := ok1_of callable Tryd.func129 (by kernel_rfl) (by kernel_rfl)
theorem R15 : Rt seat k15 := r15 o15 R41 R42
theorem o39 : Ok1 seat 39 tf39 := ok1_of callable Tryd.func131 (by kernel_rfl) (by kernel_rfl)
theorem R39 : Rt seat k39 := r39 o39
theorem o65 : Ok1 seat 65 tf65 := ok1_of callable Tryd.func149 (by kernel_rfl) (by kernel_rfl)
theorem R65_39 : Rt seat k65_39 := r65_39 o65 R39
theorem o38 : Ok1 seat 38 tf38 := ok1_of callable Tryd.func130 (by kernel_rfl) (by kernel_rfl)
theorem R38_39 : Rt seat k38_39 := r38_39 o38 R65_39
theorem o40 : Ok1 seat 40 tf40 := ok1_of callable Tryd.func72 (by kernel_rfl) (by kernel_rfl)
theorem R40 : Rt seat k40 := r40 o40
theorem o14 : Ok1 seat 14 tf14 := ok1_of callable Tryd.func104 (by kernel_rfl) (by kernel_rfl)
theorem R14 : Rt seat k14 := r14 o14 R15 R38_39 R40
theorem o51 : Ok1 seat 51 tf51 := ok1_of callable Tryd.func68 (by kernel_rfl) (by kernel_rfl)
theorem R51 : Rt seat k51 := r51 o51 R14
theorem o131 : Ok1 seat 131 tf131 := ok1_of callable Tryd.func22 (by kernel_rfl) (by kernel_rfl)
theorem R131 : Rt seat k131 := r131 o131 R152 R153 R37 R51
theorem o58 : Ok1 seat 58 tf58 := ok1_of callable Tryd.func60 (by kernel_rfl) (by kernel_rfl)
theorem R58 : Rt seat k58 := r58 o58
theorem o114 : Ok1 seat 114 tf114 := ok1_of callable Tryd.func43 (by kernel_rfl) (by kernel_rfl)
theorem R114 : Rt seat k114 := r114 o114 R51 R58
theorem o49 : Ok1 seat 49 tf49 := ok1_of callable Tryd.func74 (by kernel_rfl) (by kernel_rfl)
theorem R49 : Rt seat k49 := r49 o49
theorem o132 : Ok1 seat 132 tf132 := ok1_of callable Tryd.func24 (by kernel_rfl) (by kernel_rfl)
theorem R132 : Rt seat k132 := r132 o132 R114 R49
theorem o154 : JoinAt seat 154 := fun g hg => by
  have hall : only 75 154 fns = true := by kernel_rfl
  have hm := List.all_eq_true.1 hall _ (assoc_mem _ _ _ hg)
  have hg' : g = 75 := by simpa using hm
  subst hg'
  exact ⟨fun a c sep w => Go.Proofs.TrydSep.join_none a c sep w, fun bk o c xs sep w hc hb h0 h1 h2 => Go.Proofs.TrydSep.join_at bk o c xs sep w hc hb h0 h1 h2⟩
theorem R154 : Rt seat k154 := r154 o154
theorem o133 : Ok1 seat 133 tf133 := ok1_of callable Tryd.func25 (by kernel_rfl) (by kernel_rfl)
theorem R133 : Rt seat k133 := r133 o133 R114 R154
theorem o28 : Ok1 seat 28 tf28 := ok1_of callable Tryd.func26 (by kernel_rfl) (by kernel_rfl)
theorem R28 : Rt seat k28 := r28 o28
theorem o69 : Ok1 seat 69 tf69 := ok1_of callable Tryd.func73 (by kernel_rfl) (by kernel_rfl)
theorem R69 : Rt seat k69 := r69 o69
theorem o98 : Ok1 seat 98 tf98 := ok1_of callable Tryd.func23 (by kernel_rfl) (by kernel_rfl)
theorem R98 : Rt seat k98 := r98 o98 R40 R51 R69
theorem o116 : Ok1 seat 116 tf116 := ok1_of callable Tryd.func4 (by kernel_rfl) (by kernel_rfl)
theorem R116 : Rt seat k116 := r116 o116 R131 R132 R133 R28 R98
end Ab.Tryd
