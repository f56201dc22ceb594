/-
  The seat's program for the abstract machine, and the contracts of all functions that the law reaches: written by program (genlaw.py).
-/
import Derived.Test.YtcabflannjeigaaGreatDoorMC
import Derived.Test.YtcabflannjeigaaGreatDoorMCl
import Derived.Test.YtcabflannjeigaaGreatDoorMFo
import Derived.Test.YtcabflannjeigaaGreatDoorMFt
import Derived.Test.YtcabflannjeigaaGreatDoorMI
import Derived.Test.YtcabflannjeigaaGreatDoorMO
import Derived.Test.YtcabflannjeigaaGreatDoorC2
import Derived.Test.YtcabflannjeigaaGreatDoorC3
import Derived.Test.YtcabflannjeigaaGreatDoorMRc
import Derived.Test.YtcabflannjeigaaGreatDoorC1
import Derived.Test.YtcabflannjeigaaGreatDoorMSo
import Derived.Test.YtcabflannjeigaaGreatDoorMT
import Derived.Test.YtcabflannjeigaaGreatDoorMX
import Derived.Test.YtcabflannjeigaaGreatDoorW234
import Derived.Test.YtcabflannjeigaaGreatDoorMYz
import Derived.Test.YtcabflannjeigaaGreatDoorMSv
import Derived.Test.YtcabflannjeigaaGreatDoorRows
import Derived.KernelRfl
namespace Ab.Tryz
open Go Go.Proofs
def fns : List (Nat × Nat) := [(3, 234), (4, 235), (5, 236), (6, 122), (7, 237), (8, 21), (9, 92), (10, 24), (11, 238), (12, 239), (13, 209), (14, 125), (15, 106), (16, 144), (17, 23), (18, 240), (19, 241), (20, 242), (21, 243), (22, 244), (23, 245), (24, 246), (25, 247), (26, 248), (27, 249), (28, 123), (29, 130), (30, 151), (31, 134), (32, 142), (33, 27), (34, 40), (35, 8), (36, 49), (37, 105), (38, 100), (39, 146), (40, 140), (41, 250), (42, 210), (43, 211), (44, 54), (45, 94), (46, 51), (47, 52), (48, 53), (49, 97), (50, 251), (51, 252), (52, 159), (53, 253), (54, 254), (55, 255), (56, 256), (57, 257), (58, 258), (59, 259), (60, 102), (61, 155), (62, 58), (63, 59), (64, 60), (65, 61), (66, 30), (67, 107), (68, 150), (69, 212), (70, 213), (71, 214), (72, 47), (73, 69), (74, 33), (75, 70), (76, 95), (77, 14), (78, 41), (79, 157), (80, 260), (81, 261), (82, 217), (83, 262), (84, 263), (85, 264), (86, 44), (87, 74), (91, 169), (92, 215), (93, 216), (94, 76), (95, 96), (96, 15), (97, 38), (98, 39), (99, 66), (100, 67), (101, 168), (102, 265), (103, 266), (104, 267), (105, 268), (106, 269), (107, 270), (108, 271), (109, 272), (110, 273), (111, 227), (112, 198), (113, 274), (114, 275), (115, 276), (116, 277), (117, 278), (118, 81), (122, 218), (123, 219), (124, 220), (125, 221), (126, 222), (127, 223), (128, 224), (129, 225), (130, 226), (131, 42), (132, 65), (133, 75), (134, 177), (135, 279), (136, 229), (137, 230), (138, 280), (139, 281), (140, 282), (141, 191), (142, 283), (143, 284), (144, 285), (145, 84), (146, 228), (147, 231), (148, 232), (149, 37), (150, 186), (151, 187), (152, 188), (153, 189), (154, 286), (156, 167), (157, 233), (158, 63), (159, 64), (160, 197), (161, 199), (162, 200), (163, 201), (164, 175), (165, 176), (166, 205), (167, 206), (168, 181), (169, 182), (170, 183), (171, 184), (172, 185), (173, 194), (174, 195), (175, 196), (176, 203), (177, 204), (212, 207)]
def tys : List (Nat × Nat) := [(73, 1), (220, 4)]
noncomputable def seat : Seat := { P := Tryz.prog, fns, tys, muts := [(54, [1])], own := [53, 76, 21], glob := [(0, Go.Proofs.Tryztold.handle)] }
theorem callable : Callable seat := callable_of (by kernel_rfl)
theorem o106 : Ok1 seat 106 tf106 := ok1_of callable Tryz.func15 (by kernel_rfl) (by kernel_rfl)
theorem R106 : Rt seat k106 := r106 o106
theorem o123 : Ok1 seat 123 tf123 := ok1_of callable Tryz.func28 (by kernel_rfl) (by kernel_rfl)
theorem R123 : Rt seat k123 := r123 o123
theorem o96 : Ok1 seat 96 tf96 := ok1_of callable Tryz.func95 (by kernel_rfl) (by kernel_rfl)
theorem R96 : Rt seat k96 := r96 o96
theorem o97 : Ok1 seat 97 tf97 := ok1_of callable Tryz.func49 (by kernel_rfl) (by kernel_rfl)
theorem R97 : Rt seat k97 := r97 o97
theorem o95 : Ok1 seat 95 tf95 := ok1_of callable Tryz.func76 (by kernel_rfl) (by kernel_rfl)
theorem R95 : Rt seat k95 := r95 o95 R96 R97
theorem o94 : Ok1 seat 94 tf94 := ok1_of callable Tryz.func45 (by kernel_rfl) (by kernel_rfl)
theorem R94 : Rt seat k94 := r94 o94 R106 R95
theorem o125 : Ok1 seat 125 tf125 := ok1_of callable Tryz.func14 (by kernel_rfl) (by kernel_rfl)
theorem R125 : Rt seat k125 := r125 o125 R94
theorem o100 : Ok1 seat 100 tf100 := ok1_of callable Tryz.func38 (by kernel_rfl) (by kernel_rfl)
theorem R100 : Rt seat k100 := r100 o100
theorem o102 : Ok1 seat 102 tf102 := ok1_of callable Tryz.func60 (by kernel_rfl) (by kernel_rfl)
theorem R102 : Rt seat k102 := r102 o102 R100
theorem o130 : Ok1 seat 130 tf130 := ok1_of callable Tryz.func29 (by kernel_rfl) (by kernel_rfl)
theorem R130 : Rt seat k130 := r130 o130 R102
theorem o151 : Ok1 seat 151 tf151 := ok1_of callable Tryz.func30 (by kernel_rfl) (by kernel_rfl)
theorem R151 : Rt seat k151 := r151 o151
theorem o122 : Ok1 seat 122 tf122 := ok1_of callable Tryz.func6 (by kernel_rfl) (by kernel_rfl)
theorem R122 : Rt seat k122 := r122 o122 R123 R125 R130 R151
theorem o144 : Ok1 seat 144 tf144 := ok1_of callable Tryz.func16 (by kernel_rfl) (by kernel_rfl)
theorem R144 : Rt seat k144 := r144 o144
theorem o67 : Ok1 seat 67 tf67 := ok1_of callable Tryz.func100 (by kernel_rfl) (by kernel_rfl)
theorem R67 : Rt seat k67 := r67 o67
theorem o75 : Ok1 seat 75 tf75 := ok1_of callable Tryz.func133 (by kernel_rfl) (by kernel_rfl)
theorem R75_67 : Rt seat k75_67 := r75_67 o75 R67
theorem o66 : Ok1 seat 66 tf66 := ok1_of callable Tryz.func99 (by kernel_rfl) (by kernel_rfl)
theorem R66_67 : Rt seat k66_67 := r66_67 o66 R75_67
theorem o41 : Ok1 seat 41 tf41 := ok1_of callable Tryz.func78 (by kernel_rfl) (by kernel_rfl)
theorem R41 : Rt seat k41 := r41 o41 R66_67
theorem o64 : Ok1 seat 64 tf64 := ok1_of callable Tryz.func159 (by kernel_rfl) (by kernel_rfl)
theorem R64 : Rt seat k64 := r64 o64
theorem o63 : Ok1 seat 63 tf63 := ok1_of callable Tryz.func158 (by kernel_rfl) (by kernel_rfl)
theorem R63_64 : Rt seat k63_64 := r63_64 o63 R64
theorem o37 : Ok1 seat 37 tf37 := ok1_of callable Tryz.func149 (by kernel_rfl) (by kernel_rfl)
theorem R37 : Rt seat k37 := r37 o37 R63_64
theorem o42 : Ok1 seat 42 tf42 := ok1_of callable Tryz.func131 (by kernel_rfl) (by kernel_rfl)
theorem R42 : Rt seat k42 := r42 o42 R37 R41
theorem o15 : Ok1 seat 15 tf15 := ok1_of callable Tryz.func96 (by kernel_rfl) (by kernel_rfl)
theorem R15 : Rt seat k15 := r15 o15 R41 R42
theorem o39 : Ok1 seat 39 tf39 := ok1_of callable Tryz.func98 (by kernel_rfl) (by kernel_rfl)
theorem R39 : Rt seat k39 := r39 o39
theorem o65 : Ok1 seat 65 tf65 := ok1_of callable Tryz.func132 (by kernel_rfl) (by kernel_rfl)
theorem R65_39 : Rt seat k65_39 := r65_39 o65 R39
theorem o38 : Ok1 seat 38 tf38 := ok1_of callable Tryz.func97 (by kernel_rfl) (by kernel_rfl)
theorem R38_39 : Rt seat k38_39 := r38_39 o38 R65_39
theorem o40 : Ok1 seat 40 tf40 := ok1_of callable Tryz.func34 (by kernel_rfl) (by kernel_rfl)
theorem R40 : Rt seat k40 := r40 o40
theorem o14 : Ok1 seat 14 tf14 := ok1_of callable Tryz.func77 (by kernel_rfl) (by kernel_rfl)
theorem R14 : Rt seat k14 := r14 o14 R15 R38_39 R40
theorem o51 : Ok1 seat 51 tf51 := ok1_of callable Tryz.func46 (by kernel_rfl) (by kernel_rfl)
theorem R51 : Rt seat k51 := r51 o51 R14
theorem o58 : Ok1 seat 58 tf58 := ok1_of callable Tryz.func62 (by kernel_rfl) (by kernel_rfl)
theorem R58 : Rt seat k58 := r58 o58
theorem o47 : Ok1 seat 47 tf47 := ok1_of callable Tryz.func72 (by kernel_rfl) (by kernel_rfl)
theorem R47 : Rt seat k47 := r47 o47
theorem o44 : Ok1 seat 44 tf44 := ok1_of callable Tryz.func86 (by kernel_rfl) (by kernel_rfl)
theorem R44 : Rt seat k44 := r44 o44 R47
theorem o59 : Ok1 seat 59 tf59 := ok1_of callable Tryz.func63 (by kernel_rfl) (by kernel_rfl)
theorem R59 : Rt seat k59 := r59 o59 R44
theorem o60 : Ok1 seat 60 tf60 := ok1_of callable Tryz.func64 (by kernel_rfl) (by kernel_rfl)
theorem R60 : Rt seat k60 := r60 o60
theorem o84 : Ok1 seat 84 tf84 := ok1_of callable Tryz.func145 (by kernel_rfl) (by kernel_rfl)
theorem R84 : Rt seat k84 := r84 o84
theorem o81 : Ok1 seat 81 tf81 := ok1_of callable Tryz.func118 (by kernel_rfl) (by kernel_rfl)
theorem R81 : Rt seat k81 := r81 o81 R84
theorem o74 : Ok1 seat 74 tf74 := ok1_of callable Tryz.func87 (by kernel_rfl) (by kernel_rfl)
theorem R74 : Rt seat k74 := r74 o74 R81
theorem o61 : Ok1 seat 61 tf61 := ok1_of callable Tryz.func65 (by kernel_rfl) (by kernel_rfl)
theorem R61 : Rt seat k61 := r61 o61 R74
theorem o27 : Ok1 seat 27 tf27 := ok1_of callable Tryz.func33 (by kernel_rfl) (by kernel_rfl)
theorem R27 : Rt seat k27 := r27 o27 R51 R58 R59 R60 R61
theorem o49 : Ok1 seat 49 tf49 := ok1_of callable Tryz.func36 (by kernel_rfl) (by kernel_rfl)
theorem R49 : Rt seat k49 := r49 o49
theorem o30 : Ok1 seat 30 tf30 := ok1_of callable Tryz.func66 (by kernel_rfl) (by kernel_rfl)
theorem R30 : Rt seat k30 := r30 o30
theorem o8 : Ok1 seat 8 tf8 := ok1_of callable Tryz.func35 (by kernel_rfl) (by kernel_rfl)
theorem R8 : Rt seat k8 := r8 o8 R30
theorem o21 : Ok1 seat 21 tf21 := ok1_of callable Tryz.func8 (by kernel_rfl) (by kernel_rfl)
theorem R21 : Rt seat k21 := r21 o21 R27 R40 R49 R8
theorem o210_214 : SortedAt seat := fun g hg gc hgc => by
  have hall : only 42 210 fns = true := by kernel_rfl
  have hm := List.all_eq_true.1 hall _ (assoc_mem _ _ _ hg)
  have hg' : g = 42 := by simpa using hm
  subst hg'
  have hall2 : only 71 214 fns = true := by kernel_rfl
  have hm2 := List.all_eq_true.1 hall2 _ (assoc_mem _ _ _ hgc)
  have hg2 : gc = 71 := by simpa using hm2
  subst hg2
  exact fun Bs o sv zs w hB hc hI hb => Go.Proofs.TryzSeq.sorted_calls Bs o sv zs w hB hc hI hb
theorem R210_214 : Rt seat k210_214 := r210_214 o210_214
theorem o211 : ValuesAt seat := fun g hg => by
  have hall : only 43 211 fns = true := by kernel_rfl
  have hm := List.all_eq_true.1 hall _ (assoc_mem _ _ _ hg)
  have hg' : g = 43 := by simpa using hm
  subst hg'
  exact ⟨71, by kernel_rfl, fun a len cap w => Go.Proofs.TryzSeq.values_calls a len cap w⟩
theorem R211 : Rt seat k211 := r211 o211
theorem o33 : Ok1 seat 33 tf33 := ok1_of callable Tryz.func74 (by kernel_rfl) (by kernel_rfl)
theorem R33 : Rt seat k33 := r33 o33 R8
theorem o69 : Ok1 seat 69 tf69 := ok1_of callable Tryz.func73 (by kernel_rfl) (by kernel_rfl)
theorem R69 : Rt seat k69 := r69 o69
theorem o76 : Ok1 seat 76 tf76 := ok1_of callable Tryz.func94 (by kernel_rfl) (by kernel_rfl)
theorem R76 : Rt seat k76 := r76 o76
theorem o70 : Ok1 seat 70 tf70 := ok1_of callable Tryz.func75 (by kernel_rfl) (by kernel_rfl)
theorem R70 : Rt seat k70 := r70 o70 R76
theorem o54 : Ok1 seat 54 tf54 := ok1_of callable Tryz.func44 (by kernel_rfl) (by kernel_rfl)
theorem R54 : Rt seat k54 := r54 o54 R33 R47 R49 R69 R70
theorem o209 : Ok1 seat 209 tf209 := ok1_of callable Tryz.func13 (by kernel_rfl) (by kernel_rfl)
theorem R209 : Rt seat k209 := r209 o209 R21 R210_214 R211 R54
theorem o52 : Ok1 seat 52 tf52 := ok1_of callable Tryz.func47 (by kernel_rfl) (by kernel_rfl)
theorem R52 : Rt seat k52 := r52 o52 R30
theorem o53 : Ok1 seat 53 tf53 := ok1_of callable Tryz.func48 (by kernel_rfl) (by kernel_rfl)
theorem R53 : Rt seat k53 := r53 o53
theorem o23 : Ok1 seat 23 tf23 := ok1_of callable Tryz.func17 (by kernel_rfl) (by kernel_rfl)
theorem R23 : Rt seat k23 := r23 o23 R40 R51 R52 R53 R54
theorem o155 : Ok1 seat 155 tf155 := ok1_of callable Tryz.func61 (by kernel_rfl) (by kernel_rfl)
theorem R155 : Rt seat k155 := r155 o155 R151
theorem o134 : Ok1 seat 134 tf134 := ok1_of callable Tryz.func31 (by kernel_rfl) (by kernel_rfl)
theorem R134 : Rt seat k134 := r134 o134 R155
theorem o142 : Ok1 seat 142 tf142 := ok1_of callable Tryz.func32 (by kernel_rfl) (by kernel_rfl)
theorem R142 : Rt seat k142 := r142 o142
theorem o237 : Ok1 seat 237 tf237 := ok1_of callable Tryz.func7 (by kernel_rfl) (by kernel_rfl)
theorem R237 : Rt seat k237 := r237 o237 R106 R134 R142
theorem o238 : Ok1 seat 238 tf238 := ok1_of callable Tryz.func11 (by kernel_rfl) (by kernel_rfl)
theorem R238 : Rt seat k238 := r238 o238
theorem o140 : Ok1 seat 140 tf140 := ok1_of callable Tryz.func40 (by kernel_rfl) (by kernel_rfl)
theorem R140 : Rt seat k140 := r140 o140
theorem o150 : Ok1 seat 150 tf150 := ok1_of callable Tryz.func68 (by kernel_rfl) (by kernel_rfl)
theorem R150 : Rt seat k150 := r150 o150
theorem o146 : Ok1 seat 146 tf146 := ok1_of callable Tryz.func39 (by kernel_rfl) (by kernel_rfl)
theorem R146 : Rt seat k146 := r146 o146 R150
theorem o250 : Ok1 seat 250 tf250 := ok1_of callable Tryz.func41 (by kernel_rfl) (by kernel_rfl)
theorem R250 : Rt seat k250 := r250 o250
theorem o239 : Ok1 seat 239 tf239 := ok1_of callable Tryz.func12 (by kernel_rfl) (by kernel_rfl)
theorem R239 : Rt seat k239 := r239 o239 R100 R140 R142 R146 R250
theorem o24 : Ok1 seat 24 tf24 := ok1_of callable Tryz.func10 (by kernel_rfl) (by kernel_rfl)
theorem R24 : Rt seat k24 := r24 o24
theorem R105a (x : Err) (y : Int) (hy : P105 x = some y) : (realRets seat).ret 105 (encAL [.err] x) (encA .int y) [] := by
  intro g hg
  have hall : only 37 105 fns = true := by kernel_rfl
  have hm := List.all_eq_true.1 hall _ (assoc_mem _ _ _ hg)
  have hg' : g = 37 := by simpa using hm
  subst hg'
  refine realM_of (fun A w vs hl hA ha => ?_) (fun y hy => by
    simp only [encAL, List.mem_singleton] at hy
    subst hy
    cases x <;> rfl)
  have hvs : vs.size = 1 := by cases x <;> exact hl
  obtain ⟨v, rfl⟩ : ∃ v, vs = #[v] := ⟨vs[0], by
    apply Array.ext
    · simpa using hvs
    · intro i h1 h2
      obtain rfl : i = 0 := by omega
      rfl⟩
  cases x with
  | nil =>
    obtain rfl : y = 0 := (Option.some.inj hy).symm
    have hv : VR0 seat A w (.v .nilIface) v := ha 0 _ rfl
    obtain rfl : v = .nilIface := VR.v_inv (σ := fun _ => none) (.of0 hv)
    refine (Go.Proofs.Tryztold.told_nil w).mono fun e w' ⟨he, hw⟩ => ?_
    subst hw
    exact ⟨_, he, .refl _ _, fun _ => none, by simp, by simp, rfl, .v _⟩
  | no n =>
    obtain rfl : y = n := (Option.some.inj hy).symm
    have hv : VR0 seat A w (.ifc 1 (aI y)) v := ha 0 _ rfl
    obtain ⟨T, u, rfl, hT, hu⟩ : ∃ T u, v = .iface T u ∧ assoc T tys = some 1 ∧ VR0 seat A w (aI y) u := by cases hv with | ifc h1 h2 => exact ⟨_, _, rfl, h1, h2⟩
    obtain rfl : u = .int .i64 y := VR.v_inv (σ := fun _ => none) (.of0 hu)
    obtain rfl : T = 73 := by
      have := assoc_mem _ _ _ hT
      simpa [tys] using this
    refine (Go.Proofs.Tryztold.told_no y w (hA.2.1 (0, _) (List.mem_singleton.2 rfl))).mono fun e w' ⟨he, hb⟩ => ?_
    exact ⟨_, he, ⟨hb.os, hb.tape, hb.output, hb.size, fun k hk _ => hb.block k hk⟩, fun _ => none, by simp, by simp, rfl, .v _⟩
  | oth t => cases hy
theorem R105 : Rt seat k105 := fun x y hy => R105a x y hy
theorem o92 : Ok1 seat 92 tf92 := ok1_of callable Tryz.func9 (by kernel_rfl) (by kernel_rfl)
theorem R92 : Rt seat k92 := r92 o92 R105
theorem o234 : Ok1 seat 234 tf234 := ok1_of callable Tryz.func3 (by kernel_rfl) (by kernel_rfl)
theorem R234 : Rt seat k234 := r234 o234 R106 R122 R125 R144 R209 R21 R23 R237 R238 R239 R24 R92
end Ab.Tryz
