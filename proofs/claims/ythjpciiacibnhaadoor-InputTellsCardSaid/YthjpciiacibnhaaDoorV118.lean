/-
  The seat's program for the abstract machine, and the contracts of all functions that the law reaches: written by program (genlaw.py).
-/
import Derived.Test.YthjpciiacibnhaaDoorMAl
import Derived.Test.YthjpciiacibnhaaDoorMCl
import Derived.Test.YthjpciiacibnhaaDoorMI
import Derived.Test.YthjpciiacibnhaaDoorMIn
import Derived.Test.YthjpciiacibnhaaDoorMO
import Derived.Test.YthjpciiacibnhaaDoorMP
import Derived.Test.YthjpciiacibnhaaDoorMR
import Derived.Test.YthjpciiacibnhaaDoorMR2
import Derived.Test.YthjpciiacibnhaaDoorMR3
import Derived.Test.YthjpciiacibnhaaDoorMS
import Derived.Test.YthjpciiacibnhaaDoorMSl
import Derived.Test.YthjpciiacibnhaaDoorMT
import Derived.Test.YthjpciiacibnhaaDoorMX
import Derived.Test.YthjpciiacibnhaaDoorW118
import Derived.Test.YthjpciiacibnhaaDoorMYe
import Derived.Test.YthjpciiacibnhaaDoorRows
import Derived.KernelRfl
namespace Ab.Tryd
open Go Go.Proofs
def fns : List (Nat × Nat) := [(3, 115), (4, 116), (5, 117), (6, 118), (7, 119), (8, 120), (9, 121), (10, 122), (11, 123), (12, 124), (13, 110), (14, 92), (15, 125), (16, 126), (17, 127), (18, 128), (19, 129), (20, 130), (21, 111), (22, 131), (23, 98), (24, 132), (25, 133), (26, 28), (27, 22), (28, 112), (29, 27), (30, 134), (31, 26), (32, 135), (33, 25), (34, 136), (35, 29), (36, 137), (37, 9), (38, 8), (39, 138), (40, 139), (41, 10), (42, 12), (43, 114), (44, 140), (45, 141), (46, 106), (47, 93), (48, 142), (49, 143), (50, 144), (51, 52), (52, 145), (53, 146), (54, 147), (55, 148), (56, 11), (57, 149), (58, 150), (59, 151), (60, 58), (61, 113), (62, 105), (63, 94), (64, 46), (65, 103), (66, 102), (67, 59), (68, 51), (69, 152), (70, 37), (71, 153), (72, 40), (73, 69), (74, 49), (75, 154), (76, 50), (77, 72), (78, 71), (79, 60), (80, 61), (81, 155), (82, 56), (83, 57), (84, 55), (85, 31), (86, 32), (87, 33), (88, 30), (89, 156), (90, 157), (91, 34), (92, 36), (93, 158), (94, 96), (95, 159), (96, 160), (97, 35), (98, 161), (99, 45), (100, 107), (101, 95), (102, 44), (103, 100), (104, 14), (105, 162), (106, 63), (107, 64), (108, 163), (109, 164), (110, 165), (111, 166), (112, 68), (113, 79), (114, 76), (115, 73), (116, 77), (117, 78), (118, 74), (119, 167), (120, 168), (121, 62), (122, 48), (126, 169), (127, 97), (128, 47), (129, 15), (130, 38), (131, 39), (132, 170), (133, 171), (134, 172), (135, 173), (136, 174), (137, 80), (139, 83), (140, 81), (141, 175), (142, 176), (143, 177), (147, 41), (148, 42), (149, 65), (150, 178), (151, 179), (153, 180), (156, 85), (157, 84), (158, 181), (159, 182), (160, 183), (161, 184), (162, 185), (163, 186), (164, 187), (165, 188), (166, 189), (167, 66), (168, 67), (169, 190), (170, 191), (172, 192), (173, 193), (174, 86), (175, 194), (176, 195), (177, 196), (178, 197), (179, 198), (180, 199), (181, 200), (182, 201), (183, 75), (185, 202), (186, 203), (187, 204), (188, 205), (189, 206), (225, 207)]
def tys : List (Nat × Nat) := [(103, 1), (200, 4)]
noncomputable def seat : Seat := { P := Tryd.prog, fns, tys, muts := [(71, [1001]), (77, [1000]), (78, [1000, 1002])], own := [72, 76, 79], glob := [(0, Go.Proofs.Trydtold.handle)] }
theorem callable : Callable seat := callable_of (by kernel_rfl)
theorem o67 : Ok1 seat 67 tf67 := ok1_of callable Tryd.func168 (by kernel_rfl) (by kernel_rfl)
theorem R67 : Rt seat k67 := r67 o67
theorem o75 : Ok1 seat 75 tf75 := ok1_of callable Tryd.func183 (by kernel_rfl) (by kernel_rfl)
theorem R75_67 : Rt seat k75_67 := r75_67 o75 R67
theorem o66 : Ok1 seat 66 tf66 := ok1_of callable Tryd.func167 (by kernel_rfl) (by kernel_rfl)
theorem R66_67 : Rt seat k66_67 := r66_67 o66 R75_67
theorem o41 : Ok1 seat 41 tf41 := ok1_of callable Tryd.func147 (by kernel_rfl) (by kernel_rfl)
theorem R41 : Rt seat k41 := r41 o41 R66_67
theorem o64 : Ok1 seat 64 tf64 := ok1_of callable Tryd.func107 (by kernel_rfl) (by kernel_rfl)
theorem R64 : Rt seat k64 := r64 o64
theorem o63 : Ok1 seat 63 tf63 := ok1_of callable Tryd.func106 (by kernel_rfl) (by kernel_rfl)
theorem R63_64 : Rt seat k63_64 := r63_64 o63 R64
theorem o37 : Ok1 seat 37 tf37 := ok1_of callable Tryd.func70 (by kernel_rfl) (by kernel_rfl)
theorem R37 : Rt seat k37 := r37 o37 R63_64
theorem o42 : Ok1 seat 42 tf42 := ok1_of callable Tryd.func148 (by kernel_rfl) (by kernel_rfl)
theorem R42 : Rt seat k42 := r42 o42 R37 R41
theorem o15 : Ok1 seat 15 tf15 := ok1_of callable Tryd.func129 (by kernel_rfl) (by kernel_rfl)
theorem R15 : Rt seat k15 := r15 o15 R41 R42
theorem o39 : Ok1 seat 39 tf39 := ok1_of callable Tryd.func131 (by kernel_rfl) (by kernel_rfl)
theorem R39 : Rt seat k39 := r39 o39
theorem o65 : Ok1 seat 65 tf65 := ok1_of callable Tryd.func149 (by kernel_rfl) (by kernel_rfl)
theorem R65_39 : Rt seat k65_39 := r65_39 o65 R39
theorem o38 : Ok1 seat 38 tf38 := ok1_of callable Tryd.func130 (by kernel_rfl) (by kernel_rfl)
theorem R38_39 : Rt seat k38_39 := r38_39 o38 R65_39
theorem o40 : Ok1 seat 40 tf40 := ok1_of callable Tryd.func72 (by kernel_rfl) (by kernel_rfl)
theorem R40 : Rt seat k40 := r40 o40
theorem o14 : Ok1 seat 14 tf14 := ok1_of callable Tryd.func104 (by kernel_rfl) (by kernel_rfl)
theorem R14 : Rt seat k14 := r14 o14 R15 R38_39 R40
theorem o51 : Ok1 seat 51 tf51 := ok1_of callable Tryd.func68 (by kernel_rfl) (by kernel_rfl)
theorem R51 : Rt seat k51 := r51 o51 R14
theorem o58 : Ok1 seat 58 tf58 := ok1_of callable Tryd.func60 (by kernel_rfl) (by kernel_rfl)
theorem R58 : Rt seat k58 := r58 o58
theorem o47 : Ok1 seat 47 tf47 := ok1_of callable Tryd.func128 (by kernel_rfl) (by kernel_rfl)
theorem R47 : Rt seat k47 := r47 o47
theorem o44 : Ok1 seat 44 tf44 := ok1_of callable Tryd.func102 (by kernel_rfl) (by kernel_rfl)
theorem R44 : Rt seat k44 := r44 o44 R47
theorem o59 : Ok1 seat 59 tf59 := ok1_of callable Tryd.func67 (by kernel_rfl) (by kernel_rfl)
theorem R59 : Rt seat k59 := r59 o59 R44
theorem o60 : Ok1 seat 60 tf60 := ok1_of callable Tryd.func79 (by kernel_rfl) (by kernel_rfl)
theorem R60 : Rt seat k60 := r60 o60
theorem o84 : Ok1 seat 84 tf84 := ok1_of callable Tryd.func157 (by kernel_rfl) (by kernel_rfl)
theorem R84 : Rt seat k84 := r84 o84
theorem o81 : Ok1 seat 81 tf81 := ok1_of callable Tryd.func140 (by kernel_rfl) (by kernel_rfl)
theorem R81 : Rt seat k81 := r81 o81 R84
theorem o74 : Ok1 seat 74 tf74 := ok1_of callable Tryd.func118 (by kernel_rfl) (by kernel_rfl)
theorem R74 : Rt seat k74 := r74 o74 R81
theorem o61 : Ok1 seat 61 tf61 := ok1_of callable Tryd.func80 (by kernel_rfl) (by kernel_rfl)
theorem R61 : Rt seat k61 := r61 o61 R74
theorem o27 : Ok1 seat 27 tf27 := ok1_of callable Tryd.func29 (by kernel_rfl) (by kernel_rfl)
theorem R27 : Rt seat k27 := r27 o27 R51 R58 R59 R60 R61
theorem o80 : Ok1 seat 80 tf80 := ok1_of callable Tryd.func137 (by kernel_rfl) (by kernel_rfl)
theorem R80_61 : Rt seat k80_61 := r80_61 o80 R61
theorem o73 : Ok1 seat 73 tf73 := ok1_of callable Tryd.func115 (by kernel_rfl) (by kernel_rfl)
theorem R73 : Rt seat k73 := r73 o73 R80_61
theorem o76 : Ok1 seat 76 tf76 := ok1_of callable Tryd.func114 (by kernel_rfl) (by kernel_rfl)
theorem R76s : Rt seat k76s := r76s o76
def slρ : Go.Shelf.Ren := ⟨fun n => match n with | 22 => 117 | 29 => 138 | 30 => 139 | 45 => 116 | _ => 0, fun n => match n with | 0 => 0 | 3 => 3 | 4 => 4 | 9 => 102 | 24 => 25 | 22 => 25 | 23 => 102 | _ => 0, fun n => n⟩
def slzc : Array Value := #[.slice none 0 0, .int .i64 0]
theorem slL : SlL Tryd.prog slρ slzc := ⟨by kernel_rfl, by kernel_rfl, by kernel_rfl, by kernel_rfl, by kernel_rfl, by kernel_rfl, by kernel_rfl, rfl, fun u hu => by
  simp only [slzc, List.mem_cons, List.not_mem_nil, or_false] at hu
  rcases hu with rfl | rfl <;> rfl⟩
theorem insL : InsL Tryd.prog slρ slzc := { slL with
  f22 := ⟨ "slices.Insert[[]tallyhall/api.Entry,tallyhall/api.Entry]", by kernel_rfl, by kernel_rfl⟩
  ov := fun args w => run_callFunc_extern (e := Extern.SlicesOverlaps.overlaps #[25, 25] #[4]) Tryd.func138 (by kernel_rfl) (by kernel_rfl) (by kernel_rfl) (by kernel_rfl) args w
  t24 := by kernel_rfl
  i24 := by kernel_rfl
  i9 := by kernel_rfl }
theorem delL : DelL Tryd.prog slρ slzc := { slL with
  f45 := ⟨ "slices.Delete[[]tallyhall/api.Entry,tallyhall/api.Entry]", by kernel_rfl, by kernel_rfl⟩
  t22 := by kernel_rfl
  i22 := by kernel_rfl
  i23 := by kernel_rfl }
theorem o77 : DelAt seat 77 := fun g hg => by
  have hall : only 116 77 fns = true := by kernel_rfl
  have hm := List.all_eq_true.1 hall _ (assoc_mem _ _ _ hg)
  have hg' : g = 116 := by simpa using hm
  subst hg'
  exact ⟨slρ, slzc, rfl, delL⟩
theorem o78 : InsAt seat 78 := fun g hg => by
  have hall : only 117 78 fns = true := by kernel_rfl
  have hm := List.all_eq_true.1 hall _ (assoc_mem _ _ _ hg)
  have hg' : g = 117 := by simpa using hm
  subst hg'
  exact ⟨slρ, slzc, rfl, insL⟩
theorem R77 : Rt seat k77 := r77 o77
theorem R78 : Rt seat k78 := r78 o78
theorem o71 : Ok1 seat 71 tf71 := ok1_of callable Tryd.func78 (by kernel_rfl) (by kernel_rfl)
theorem R71 : Rt seat k71 := r71 o71 R58 R59 R60 R73 R76s R77 R78
theorem o79 : Ok1 seat 79 tf79 := ok1_of callable Tryd.func113 (by kernel_rfl) (by kernel_rfl)
theorem R79 : Rt seat k79 := r79 o79
theorem o72 : Ok1 seat 72 tf72 := ok1_of callable Tryd.func77 (by kernel_rfl) (by kernel_rfl)
theorem R72 : Rt seat k72 := r72 o72 R76s R79
theorem o112 : Ok1 seat 112 tf112 := ok1_of callable Tryd.func28 (by kernel_rfl) (by kernel_rfl)
theorem R112 : Rt seat k112 := r112 o112 R27 R71 R72
theorem o123 : Ok1 seat 123 tf123 := ok1_of callable Tryd.func11 (by kernel_rfl) (by kernel_rfl)
theorem R123 : Rt seat k123 := r123 o123
theorem o106 : Ok1 seat 106 tf106 := ok1_of callable Tryd.func46 (by kernel_rfl) (by kernel_rfl)
theorem R106 : Rt seat k106 := r106 o106
theorem o96 : Ok1 seat 96 tf96 := ok1_of callable Tryd.func94 (by kernel_rfl) (by kernel_rfl)
theorem R96 : Rt seat k96 := r96 o96
theorem o97 : Ok1 seat 97 tf97 := ok1_of callable Tryd.func127 (by kernel_rfl) (by kernel_rfl)
theorem R97 : Rt seat k97 := r97 o97
theorem o95 : Ok1 seat 95 tf95 := ok1_of callable Tryd.func101 (by kernel_rfl) (by kernel_rfl)
theorem R95 : Rt seat k95 := r95 o95 R96 R97
theorem o94 : Ok1 seat 94 tf94 := ok1_of callable Tryd.func63 (by kernel_rfl) (by kernel_rfl)
theorem R94 : Rt seat k94 := r94 o94 R106 R95
theorem o125 : Ok1 seat 125 tf125 := ok1_of callable Tryd.func15 (by kernel_rfl) (by kernel_rfl)
theorem R125 : Rt seat k125 := r125 o125 R94
theorem o100 : Ok1 seat 100 tf100 := ok1_of callable Tryd.func103 (by kernel_rfl) (by kernel_rfl)
theorem R100 : Rt seat k100 := r100 o100
theorem o102 : Ok1 seat 102 tf102 := ok1_of callable Tryd.func66 (by kernel_rfl) (by kernel_rfl)
theorem R102 : Rt seat k102 := r102 o102 R100
theorem o130 : Ok1 seat 130 tf130 := ok1_of callable Tryd.func20 (by kernel_rfl) (by kernel_rfl)
theorem R130 : Rt seat k130 := r130 o130 R102
theorem o151 : Ok1 seat 151 tf151 := ok1_of callable Tryd.func59 (by kernel_rfl) (by kernel_rfl)
theorem R151 : Rt seat k151 := r151 o151
theorem o122 : Ok1 seat 122 tf122 := ok1_of callable Tryd.func10 (by kernel_rfl) (by kernel_rfl)
theorem R122 : Rt seat k122 := r122 o122 R123 R125 R130 R151
theorem o155 : Ok1 seat 155 tf155 := ok1_of callable Tryd.func81 (by kernel_rfl) (by kernel_rfl)
theorem R155 : Rt seat k155 := r155 o155 R151
theorem o134 : Ok1 seat 134 tf134 := ok1_of callable Tryd.func30 (by kernel_rfl) (by kernel_rfl)
theorem R134 : Rt seat k134 := r134 o134 R155
theorem o135 : Ok1 seat 135 tf135 := ok1_of callable Tryd.func32 (by kernel_rfl) (by kernel_rfl)
theorem R135 : Rt seat k135 := r135 o135 R123 R130 R155
theorem o28 : Ok1 seat 28 tf28 := ok1_of callable Tryd.func26 (by kernel_rfl) (by kernel_rfl)
theorem R28 : Rt seat k28 := r28 o28
theorem o136 : Ok1 seat 136 tf136 := ok1_of callable Tryd.func34 (by kernel_rfl) (by kernel_rfl)
theorem R136 : Rt seat k136 := r136 o136 R28
theorem o137 : Ok1 seat 137 tf137 := ok1_of callable Tryd.func36 (by kernel_rfl) (by kernel_rfl)
theorem R137 : Rt seat k137 := r137 o137 R122 R135
theorem o55 : Ok1 seat 55 tf55 := ok1_of callable Tryd.func84 (by kernel_rfl) (by kernel_rfl)
theorem R55 : Rt seat k55 := r55 o55 R27 R71 R72
theorem o25 : Ok1 seat 25 tf25 := ok1_of callable Tryd.func33 (by kernel_rfl) (by kernel_rfl)
theorem R25 : Rt seat k25 := r25 o25 R55
theorem o56 : Ok1 seat 56 tf56 := ok1_of callable Tryd.func82 (by kernel_rfl) (by kernel_rfl)
theorem R56 : Rt seat k56 := r56 o56 R27 R58
theorem o57 : Ok1 seat 57 tf57 := ok1_of callable Tryd.func83 (by kernel_rfl) (by kernel_rfl)
theorem R57 : Rt seat k57 := r57 o57 R73
theorem o26 : Ok1 seat 26 tf26 := ok1_of callable Tryd.func31 (by kernel_rfl) (by kernel_rfl)
theorem R26 : Rt seat k26 := r26 o26 R56 R57
theorem o29 : Ok1 seat 29 tf29 := ok1_of callable Tryd.func35 (by kernel_rfl) (by kernel_rfl)
theorem R29 : Rt seat k29 := r29 o29 R55
theorem R105a (x : Err) (y : Int) (hy : P105 x = some y) : (realRets seat).ret 105 (encAL [.err] x) (encA .int y) [] := by
  intro g hg
  have hall : only 62 105 fns = true := by kernel_rfl
  have hm := List.all_eq_true.1 hall _ (assoc_mem _ _ _ hg)
  have hg' : g = 62 := by simpa using hm
  subst hg'
  refine realM_of (fun A w vs hl hA ha => ?_) (fun y hy => by
    simp only [encAL, List.mem_singleton] at hy
    subst hy
    cases x <;> rfl)
  have hvs : vs.size = 1 := by cases x <;> exact hl
  obtain ⟨v, rfl⟩ : ∃ v, vs = #[v] := ⟨vs[0], by
    apply Array.ext
    · simpa using hvs
    · intro i h1 h2
      obtain rfl : i = 0 := by omega
      rfl⟩
  cases x with
  | nil =>
    obtain rfl : y = 0 := (Option.some.inj hy).symm
    have hv : VR0 seat A w (.v .nilIface) v := ha 0 _ rfl
    obtain rfl : v = .nilIface := VR.v_inv (σ := fun _ => none) (.of0 hv)
    refine (Go.Proofs.Trydtold.told_nil w).mono fun e w' ⟨he, hw⟩ => ?_
    subst hw
    exact ⟨_, he, .refl _ _, fun _ => none, by simp, by simp, rfl, .v _⟩
  | no n =>
    obtain rfl : y = n := (Option.some.inj hy).symm
    have hv : VR0 seat A w (.ifc 1 (aI y)) v := ha 0 _ rfl
    obtain ⟨T, u, rfl, hT, hu⟩ : ∃ T u, v = .iface T u ∧ assoc T tys = some 1 ∧ VR0 seat A w (aI y) u := by cases hv with | ifc h1 h2 => exact ⟨_, _, rfl, h1, h2⟩
    obtain rfl : u = .int .i64 y := VR.v_inv (σ := fun _ => none) (.of0 hu)
    obtain rfl : T = 103 := by
      have := assoc_mem _ _ _ hT
      simpa [tys] using this
    refine (Go.Proofs.Trydtold.told_no y w (hA.2.1 (0, _) (List.mem_singleton.2 rfl))).mono fun e w' ⟨he, hb⟩ => ?_
    exact ⟨_, he, ⟨hb.os, hb.tape, hb.output, hb.size, fun k hk _ => hb.block k hk⟩, fun _ => none, by simp, by simp, rfl, .v _⟩
  | oth t => cases hy
theorem R105 : Rt seat k105 := fun x y hy => R105a x y hy
theorem o92 : Ok1 seat 92 tf92 := ok1_of callable Tryd.func14 (by kernel_rfl) (by kernel_rfl)
theorem R92 : Rt seat k92 := r92 o92 R105
theorem o118 : Ok1 seat 118 tf118 := ok1_of callable Tryd.func6 (by kernel_rfl) (by kernel_rfl)
theorem R118 : Rt seat k118 := r118 o118 R112 R122 R123 R134 R135 R136 R137 R25 R26 R27 R29 R92
end Ab.Tryd
