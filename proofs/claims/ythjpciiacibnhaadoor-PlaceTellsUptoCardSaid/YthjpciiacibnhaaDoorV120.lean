/-
  The seat's program for the abstract machine, and the contracts of all functions that the law reaches: written by program (genlaw.py).
-/
import Derived.Test.YthjpciiacibnhaaDoorMO
import Derived.Test.YthjpciiacibnhaaDoorMP
import Derived.Test.YthjpciiacibnhaaDoorMP2
import Derived.Test.YthjpciiacibnhaaDoorMPr
import Derived.Test.YthjpciiacibnhaaDoorMR
import Derived.Test.YthjpciiacibnhaaDoorMR2
import Derived.Test.YthjpciiacibnhaaDoorMS
import Derived.Test.YthjpciiacibnhaaDoorMSp
import Derived.Test.YthjpciiacibnhaaDoorMT
import Derived.Test.YthjpciiacibnhaaDoorMX
import Derived.Test.YthjpciiacibnhaaDoorW120
import Derived.Test.YthjpciiacibnhaaDoorMYe
import Derived.Test.YthjpciiacibnhaaDoorMSq
import Derived.Test.YthjpciiacibnhaaDoorRows
import Derived.KernelRfl
namespace Ab.Tryd
open Go Go.Proofs
def fns : List (Nat × Nat) := [(3, 115), (4, 116), (5, 117), (6, 118), (7, 119), (8, 120), (9, 121), (10, 122), (11, 123), (12, 124), (13, 110), (14, 92), (15, 125), (16, 126), (17, 127), (18, 128), (19, 129), (20, 130), (21, 111), (22, 131), (23, 98), (24, 132), (25, 133), (26, 28), (27, 22), (28, 112), (29, 27), (30, 134), (31, 26), (32, 135), (33, 25), (34, 136), (35, 29), (36, 137), (37, 9), (38, 8), (39, 138), (40, 139), (41, 10), (42, 12), (43, 114), (44, 140), (45, 141), (46, 106), (47, 93), (48, 142), (49, 143), (50, 144), (51, 52), (52, 145), (53, 146), (54, 147), (55, 148), (56, 11), (57, 149), (58, 150), (59, 151), (60, 58), (61, 113), (62, 105), (63, 94), (64, 46), (65, 103), (66, 102), (67, 59), (68, 51), (69, 152), (70, 37), (71, 153), (72, 40), (73, 69), (74, 49), (75, 154), (76, 50), (77, 72), (78, 71), (79, 60), (80, 61), (81, 155), (82, 56), (83, 57), (84, 55), (85, 31), (86, 32), (87, 33), (88, 30), (89, 156), (90, 157), (91, 34), (92, 36), (93, 158), (94, 96), (95, 159), (96, 160), (97, 35), (98, 161), (99, 45), (100, 107), (101, 95), (102, 44), (103, 100), (104, 14), (105, 162), (106, 63), (107, 64), (108, 163), (109, 164), (110, 165), (111, 166), (112, 68), (113, 79), (114, 76), (115, 73), (116, 77), (117, 78), (118, 74), (119, 167), (120, 168), (121, 62), (122, 48), (126, 169), (127, 97), (128, 47), (129, 15), (130, 38), (131, 39), (132, 170), (133, 171), (134, 172), (135, 173), (136, 174), (137, 80), (139, 83), (140, 81), (141, 175), (142, 176), (143, 177), (147, 41), (148, 42), (149, 65), (150, 178), (151, 179), (153, 180), (156, 85), (157, 84), (158, 181), (159, 182), (160, 183), (161, 184), (162, 185), (163, 186), (164, 187), (165, 188), (166, 189), (167, 66), (168, 67), (169, 190), (170, 191), (172, 192), (173, 193), (174, 86), (175, 194), (176, 195), (177, 196), (178, 197), (179, 198), (180, 199), (181, 200), (182, 201), (183, 75), (185, 202), (186, 203), (187, 204), (188, 205), (189, 206), (225, 207)]
def tys : List (Nat × Nat) := [(103, 1), (200, 4)]
noncomputable def seat : Seat := { P := Tryd.prog, fns, tys, muts := [(71, [1001]), (77, [1000]), (78, [1000, 1002])], own := [72, 76, 79], glob := [(0, Go.Proofs.Trydtold.handle)], more := [1], hold := Go.Proofs.TrydSep.hold, holdK := Go.Proofs.TrydSep.holdK }
theorem callable : Callable seat := callable_of (by kernel_rfl)
theorem o106 : Ok1 seat 106 tf106 := ok1_of callable Tryd.func46 (by kernel_rfl) (by kernel_rfl)
theorem R106 : Rt seat k106 := r106 o106
theorem o67 : Ok1 seat 67 tf67 := ok1_of callable Tryd.func168 (by kernel_rfl) (by kernel_rfl)
theorem R67 : Rt seat k67 := r67 o67
theorem o75 : Ok1 seat 75 tf75 := ok1_of callable Tryd.func183 (by kernel_rfl) (by kernel_rfl)
theorem R75_67 : Rt seat k75_67 := r75_67 o75 R67
theorem o66 : Ok1 seat 66 tf66 := ok1_of callable Tryd.func167 (by kernel_rfl) (by kernel_rfl)
theorem R66_67 : Rt seat k66_67 := r66_67 o66 R75_67
theorem o41 : Ok1 seat 41 tf41 := ok1_of callable Tryd.func147 (by kernel_rfl) (by kernel_rfl)
theorem R41 : Rt seat k41 := r41 o41 R66_67
theorem o64 : Ok1 seat 64 tf64 := ok1_of callable Tryd.func107 (by kernel_rfl) (by kernel_rfl)
theorem R64 : Rt seat k64 := r64 o64
theorem o63 : Ok1 seat 63 tf63 := ok1_of callable Tryd.func106 (by kernel_rfl) (by kernel_rfl)
theorem R63_64 : Rt seat k63_64 := r63_64 o63 R64
theorem o37 : Ok1 seat 37 tf37 := ok1_of callable Tryd.func70 (by kernel_rfl) (by kernel_rfl)
theorem R37 : Rt seat k37 := r37 o37 R63_64
theorem o42 : Ok1 seat 42 tf42 := ok1_of callable Tryd.func148 (by kernel_rfl) (by kernel_rfl)
theorem R42 : Rt seat k42 := r42 o42 R37 R41
theorem o15 : Ok1 seat 15 tf15 := ok1_of callable Tryd.func129 (by kernel_rfl) (by kernel_rfl)
theorem R15 : Rt seat k15 := r15 o15 R41 R42
theorem o39 : Ok1 seat 39 tf39 := ok1_of callable Tryd.func131 (by kernel_rfl) (by kernel_rfl)
theorem R39 : Rt seat k39 := r39 o39
theorem o65 : Ok1 seat 65 tf65 := ok1_of callable Tryd.func149 (by kernel_rfl) (by kernel_rfl)
theorem R65_39 : Rt seat k65_39 := r65_39 o65 R39
theorem o38 : Ok1 seat 38 tf38 := ok1_of callable Tryd.func130 (by kernel_rfl) (by kernel_rfl)
theorem R38_39 : Rt seat k38_39 := r38_39 o38 R65_39
theorem o40 : Ok1 seat 40 tf40 := ok1_of callable Tryd.func72 (by kernel_rfl) (by kernel_rfl)
theorem R40 : Rt seat k40 := r40 o40
theorem o14 : Ok1 seat 14 tf14 := ok1_of callable Tryd.func104 (by kernel_rfl) (by kernel_rfl)
theorem R14 : Rt seat k14 := r14 o14 R15 R38_39 R40
theorem o51 : Ok1 seat 51 tf51 := ok1_of callable Tryd.func68 (by kernel_rfl) (by kernel_rfl)
theorem R51 : Rt seat k51 := r51 o51 R14
theorem o58 : Ok1 seat 58 tf58 := ok1_of callable Tryd.func60 (by kernel_rfl) (by kernel_rfl)
theorem R58 : Rt seat k58 := r58 o58
theorem o114 : Ok1 seat 114 tf114 := ok1_of callable Tryd.func43 (by kernel_rfl) (by kernel_rfl)
theorem R114 : Rt seat k114 := r114 o114 R51 R58
theorem o123 : Ok1 seat 123 tf123 := ok1_of callable Tryd.func11 (by kernel_rfl) (by kernel_rfl)
theorem R123 : Rt seat k123 := r123 o123
theorem o96 : Ok1 seat 96 tf96 := ok1_of callable Tryd.func94 (by kernel_rfl) (by kernel_rfl)
theorem R96 : Rt seat k96 := r96 o96
theorem o97 : Ok1 seat 97 tf97 := ok1_of callable Tryd.func127 (by kernel_rfl) (by kernel_rfl)
theorem R97 : Rt seat k97 := r97 o97
theorem o95 : Ok1 seat 95 tf95 := ok1_of callable Tryd.func101 (by kernel_rfl) (by kernel_rfl)
theorem R95 : Rt seat k95 := r95 o95 R96 R97
theorem o94 : Ok1 seat 94 tf94 := ok1_of callable Tryd.func63 (by kernel_rfl) (by kernel_rfl)
theorem R94 : Rt seat k94 := r94 o94 R106 R95
theorem o125 : Ok1 seat 125 tf125 := ok1_of callable Tryd.func15 (by kernel_rfl) (by kernel_rfl)
theorem R125 : Rt seat k125 := r125 o125 R94
theorem o100 : Ok1 seat 100 tf100 := ok1_of callable Tryd.func103 (by kernel_rfl) (by kernel_rfl)
theorem R100 : Rt seat k100 := r100 o100
theorem o102 : Ok1 seat 102 tf102 := ok1_of callable Tryd.func66 (by kernel_rfl) (by kernel_rfl)
theorem R102 : Rt seat k102 := r102 o102 R100
theorem o130 : Ok1 seat 130 tf130 := ok1_of callable Tryd.func20 (by kernel_rfl) (by kernel_rfl)
theorem R130 : Rt seat k130 := r130 o130 R102
theorem o152 : SplitAt seat 152 := fun g hg => by
  have hall : only 69 152 fns = true := by kernel_rfl
  have hm := List.all_eq_true.1 hall _ (assoc_mem _ _ _ hg)
  have hg' : g = 69 := by simpa using hm
  subst hg'
  exact fun s sep w h0 h1 hw => Go.Proofs.TrydSep.split_at s sep w h0 h1 hw
theorem R152 : Rt seat k152 := r152 o152
theorem o163 : Ok1 seat 163 tf163 := ok1_of callable Tryd.func108 (by kernel_rfl) (by kernel_rfl)
theorem R163 : Rt seat k163 := r163 o163
theorem o153 : Ok1 seat 153 tf153 := ok1_of callable Tryd.func71 (by kernel_rfl) (by kernel_rfl)
theorem R153 : Rt seat k153 := r153 o153 R163
theorem o131 : Ok1 seat 131 tf131 := ok1_of callable Tryd.func22 (by kernel_rfl) (by kernel_rfl)
theorem R131 : Rt seat k131 := r131 o131 R152 R153 R37 R51
theorem o49 : Ok1 seat 49 tf49 := ok1_of callable Tryd.func74 (by kernel_rfl) (by kernel_rfl)
theorem R49 : Rt seat k49 := r49 o49
theorem o132 : Ok1 seat 132 tf132 := ok1_of callable Tryd.func24 (by kernel_rfl) (by kernel_rfl)
theorem R132 : Rt seat k132 := r132 o132 R114 R49
theorem o154 : JoinAt seat 154 := fun g hg => by
  have hall : only 75 154 fns = true := by kernel_rfl
  have hm := List.all_eq_true.1 hall _ (assoc_mem _ _ _ hg)
  have hg' : g = 75 := by simpa using hm
  subst hg'
  exact ⟨fun a c sep w => Go.Proofs.TrydSep.join_none a c sep w, fun bk o c xs sep w hc hb h0 h1 h2 => Go.Proofs.TrydSep.join_at bk o c xs sep w hc hb h0 h1 h2⟩
theorem R154 : Rt seat k154 := r154 o154
theorem o133 : Ok1 seat 133 tf133 := ok1_of callable Tryd.func25 (by kernel_rfl) (by kernel_rfl)
theorem R133 : Rt seat k133 := r133 o133 R114 R154
theorem o140 : Ok1 seat 140 tf140 := ok1_of callable Tryd.func44 (by kernel_rfl) (by kernel_rfl)
theorem R140 : Rt seat k140 := r140 o140
theorem o47 : Ok1 seat 47 tf47 := ok1_of callable Tryd.func128 (by kernel_rfl) (by kernel_rfl)
theorem R47 : Rt seat k47 := r47 o47
theorem o44 : Ok1 seat 44 tf44 := ok1_of callable Tryd.func102 (by kernel_rfl) (by kernel_rfl)
theorem R44 : Rt seat k44 := r44 o44 R47
theorem o59 : Ok1 seat 59 tf59 := ok1_of callable Tryd.func67 (by kernel_rfl) (by kernel_rfl)
theorem R59 : Rt seat k59 := r59 o59 R44
theorem o141 : Ok1 seat 141 tf141 := ok1_of callable Tryd.func45 (by kernel_rfl) (by kernel_rfl)
theorem R141 : Rt seat k141 := r141 o141 R114 R59
theorem o142 : Ok1 seat 142 tf142 := ok1_of callable Tryd.func48 (by kernel_rfl) (by kernel_rfl)
theorem R142 : Rt seat k142 := r142 o142
theorem o158 : Ok1 seat 158 tf158 := ok1_of callable Tryd.func93 (by kernel_rfl) (by kernel_rfl)
theorem R158 : Rt seat k158 := r158 o158
theorem o143 : Ok1 seat 143 tf143 := ok1_of callable Tryd.func49 (by kernel_rfl) (by kernel_rfl)
theorem R143 : Rt seat k143 := r143 o143 R158 R96
theorem o28 : Ok1 seat 28 tf28 := ok1_of callable Tryd.func26 (by kernel_rfl) (by kernel_rfl)
theorem R28 : Rt seat k28 := r28 o28
theorem R105a (x : Err) (y : Int) (hy : P105 x = some y) : (realRets seat).ret 105 (encAL [.err] x) (encA .int y) [] := by
  intro g hg
  have hall : only 62 105 fns = true := by kernel_rfl
  have hm := List.all_eq_true.1 hall _ (assoc_mem _ _ _ hg)
  have hg' : g = 62 := by simpa using hm
  subst hg'
  refine realM_of (fun A w vs hl hA ha => ?_) (fun y hy => by
    simp only [encAL, List.mem_singleton] at hy
    subst hy
    cases x <;> rfl)
  have hvs : vs.size = 1 := by cases x <;> exact hl
  obtain ⟨v, rfl⟩ : ∃ v, vs = #[v] := ⟨vs[0], by
    apply Array.ext
    · simpa using hvs
    · intro i h1 h2
      obtain rfl : i = 0 := by omega
      rfl⟩
  cases x with
  | nil =>
    obtain rfl : y = 0 := (Option.some.inj hy).symm
    have hv : VR0 seat A w (.v .nilIface) v := ha 0 _ rfl
    obtain rfl : v = .nilIface := VR.v_inv (σ := fun _ => none) (.of0 hv)
    refine (Go.Proofs.Trydtold.told_nil w).mono fun e w' ⟨he, hw⟩ => ?_
    subst hw
    exact ⟨_, he, .refl _ _, fun _ => none, by simp, by simp, rfl, .v _⟩
  | no n =>
    obtain rfl : y = n := (Option.some.inj hy).symm
    have hv : VR0 seat A w (.ifc 1 (aI y)) v := ha 0 _ rfl
    obtain ⟨T, u, rfl, hT, hu⟩ : ∃ T u, v = .iface T u ∧ assoc T tys = some 1 ∧ VR0 seat A w (aI y) u := by cases hv with | ifc h1 h2 => exact ⟨_, _, rfl, h1, h2⟩
    obtain rfl : u = .int .i64 y := VR.v_inv (σ := fun _ => none) (.of0 hu)
    obtain rfl : T = 103 := by
      have := assoc_mem _ _ _ hT
      simpa [tys] using this
    refine (Go.Proofs.Trydtold.told_no y w (hA.2.1 (0, _) (List.mem_singleton.2 rfl))).mono fun e w' ⟨he, hb⟩ => ?_
    exact ⟨_, he, ⟨hb.os, hb.tape, hb.output, hb.size, fun k hk _ => hb.block k hk⟩, fun _ => none, by simp, by simp, rfl, .v _⟩
  | oth t => cases hy
theorem R105 : Rt seat k105 := fun x y hy => R105a x y hy
theorem o92 : Ok1 seat 92 tf92 := ok1_of callable Tryd.func14 (by kernel_rfl) (by kernel_rfl)
theorem R92 : Rt seat k92 := r92 o92 R105
theorem o93 : Ok1 seat 93 tf93 := ok1_of callable Tryd.func47 (by kernel_rfl) (by kernel_rfl)
theorem R93 : Rt seat k93 := r93 o93 R40 R51
theorem o69 : Ok1 seat 69 tf69 := ok1_of callable Tryd.func73 (by kernel_rfl) (by kernel_rfl)
theorem R69 : Rt seat k69 := r69 o69
theorem o98 : Ok1 seat 98 tf98 := ok1_of callable Tryd.func23 (by kernel_rfl) (by kernel_rfl)
theorem R98 : Rt seat k98 := r98 o98 R40 R51 R69
theorem o120 : Ok1 seat 120 tf120 := ok1_of callable Tryd.func8 (by kernel_rfl) (by kernel_rfl)
theorem R120 : Rt seat k120 := r120 o120 R106 R114 R123 R125 R130 R131 R132 R133 R140 R141 R142 R143 R28 R92 R93 R98
end Ab.Tryd
