/-
  The seat's program for the abstract machine, and the contracts of all functions that the law reaches: written by program (genlaw.py).
-/
import Derived.Test.YtchidgkpkhloeaaGreatDoorMF
import Derived.Test.YtchidgkpkhloeaaGreatDoorMFm
import Derived.Test.YtchidgkpkhloeaaGreatDoorF1
import Derived.Test.YtchidgkpkhloeaaGreatDoorMO
import Derived.Test.YtchidgkpkhloeaaGreatDoorF2
import Derived.Test.YtchidgkpkhloeaaGreatDoorMRe
import Derived.Test.YtchidgkpkhloeaaGreatDoorMRu
import Derived.Test.YtchidgkpkhloeaaGreatDoorC1
import Derived.Test.YtchidgkpkhloeaaGreatDoorMSn
import Derived.Test.YtchidgkpkhloeaaGreatDoorMT
import Derived.Test.YtchidgkpkhloeaaGreatDoorW304
import Derived.Test.YtchidgkpkhloeaaGreatDoorF5
import Derived.Test.YtchidgkpkhloeaaGreatDoorMWr
import Derived.Test.YtchidgkpkhloeaaGreatDoorF6
import Derived.Test.YtchidgkpkhloeaaGreatDoorMNw
import Derived.Test.YtchidgkpkhloeaaGreatDoorD2
import Derived.Test.YtchidgkpkhloeaaGreatDoorRows
import Derived.KernelRfl
namespace Ab.Tryz
open Go Go.Proofs
def fns : List (Nat × Nat) := [(3, 304), (4, 305), (5, 306), (6, 307), (7, 308), (8, 309), (9, 310), (10, 311), (11, 312), (12, 313), (13, 314), (14, 68), (15, 315), (16, 316), (17, 92), (18, 22), (19, 317), (20, 318), (21, 319), (22, 320), (23, 321), (24, 322), (25, 323), (26, 104), (27, 324), (28, 123), (29, 325), (30, 326), (31, 327), (32, 328), (33, 130), (34, 140), (35, 329), (36, 330), (37, 331), (38, 8), (39, 332), (40, 333), (41, 110), (42, 98), (43, 132), (44, 334), (45, 335), (46, 336), (47, 337), (48, 142), (49, 24), (50, 128), (51, 338), (52, 25), (53, 339), (54, 340), (55, 341), (56, 105), (57, 50), (58, 342), (59, 58), (60, 49), (61, 69), (62, 59), (63, 343), (64, 213), (65, 344), (66, 345), (67, 346), (68, 94), (69, 14), (70, 95), (71, 247), (72, 96), (73, 347), (74, 100), (75, 348), (76, 250), (77, 102), (78, 349), (79, 350), (80, 351), (81, 352), (82, 353), (83, 30), (84, 40), (85, 27), (86, 113), (87, 51), (88, 114), (89, 122), (90, 354), (91, 28), (92, 106), (93, 55), (94, 15), (95, 355), (96, 356), (97, 357), (98, 303), (99, 358), (100, 107), (101, 44), (102, 70), (103, 216), (104, 217), (105, 359), (106, 38), (107, 39), (108, 97), (109, 257), (110, 240), (111, 360), (112, 361), (113, 60), (114, 61), (115, 45), (116, 125), (117, 151), (118, 134), (119, 243), (120, 292), (121, 146), (122, 71), (123, 72), (124, 41), (125, 42), (126, 248), (127, 37), (128, 47), (129, 302), (130, 362), (131, 363), (135, 169), (136, 76), (137, 218), (138, 219), (139, 220), (140, 221), (141, 222), (142, 223), (143, 224), (144, 225), (145, 226), (146, 227), (147, 198), (148, 65), (149, 262), (150, 253), (151, 57), (152, 298), (153, 364), (154, 33), (155, 74), (156, 48), (157, 155), (158, 150), (159, 291), (160, 147), (161, 148), (162, 73), (163, 77), (164, 78), (165, 79), (166, 66), (167, 67), (168, 258), (169, 259), (170, 241), (171, 63), (172, 64), (176, 228), (177, 229), (178, 230), (179, 231), (180, 232), (181, 84), (182, 274), (183, 34), (184, 35), (185, 81), (186, 160), (187, 80), (189, 83), (190, 75), (191, 263), (192, 264), (193, 251), (194, 252), (195, 233), (196, 62), (197, 85), (198, 275), (199, 276), (200, 277), (201, 278), (202, 86), (203, 191), (204, 283), (205, 284), (206, 285), (208, 167), (209, 175), (210, 176), (211, 181), (212, 182), (213, 183), (214, 184), (215, 185), (216, 194), (217, 195), (218, 196), (219, 157), (220, 203), (221, 204), (222, 168), (223, 177), (224, 186), (225, 187), (226, 188), (227, 189), (228, 197), (229, 199), (230, 200), (231, 201), (232, 205), (233, 206), (268, 207)]
def tys : List (Nat × Nat) := [(102, 1), (262, 4)]
noncomputable def seat : Seat := { P := Tryz.prog, fns, tys, muts := [(71, [1001]), (77, [1000]), (78, [1000, 1002]), (213, [0]), (302, [1000])], own := [72, 76, 79, 363, 343], glob := [(0, Go.Proofs.Tryztold.handle)], more := [4], hold := Go.Proofs.TryzStr.hold, holdK := Go.Proofs.TryzStr.holdK }
theorem callable : Callable seat := callable_of (by kernel_rfl)
theorem o67 : Ok1 seat 67 tf67 := ok1_of callable Tryz.func167 (by kernel_rfl) (by kernel_rfl)
theorem R67 : Rt seat k67 := r67 o67
theorem o75 : Ok1 seat 75 tf75 := ok1_of callable Tryz.func190 (by kernel_rfl) (by kernel_rfl)
theorem R75_67 : Rt seat k75_67 := r75_67 o75 R67
theorem o66 : Ok1 seat 66 tf66 := ok1_of callable Tryz.func166 (by kernel_rfl) (by kernel_rfl)
theorem R66_67 : Rt seat k66_67 := r66_67 o66 R75_67
theorem o41 : Ok1 seat 41 tf41 := ok1_of callable Tryz.func124 (by kernel_rfl) (by kernel_rfl)
theorem R41 : Rt seat k41 := r41 o41 R66_67
theorem o64 : Ok1 seat 64 tf64 := ok1_of callable Tryz.func172 (by kernel_rfl) (by kernel_rfl)
theorem R64 : Rt seat k64 := r64 o64
theorem o63 : Ok1 seat 63 tf63 := ok1_of callable Tryz.func171 (by kernel_rfl) (by kernel_rfl)
theorem R63_64 : Rt seat k63_64 := r63_64 o63 R64
theorem o37 : Ok1 seat 37 tf37 := ok1_of callable Tryz.func127 (by kernel_rfl) (by kernel_rfl)
theorem R37 : Rt seat k37 := r37 o37 R63_64
theorem o42 : Ok1 seat 42 tf42 := ok1_of callable Tryz.func125 (by kernel_rfl) (by kernel_rfl)
theorem R42 : Rt seat k42 := r42 o42 R37 R41
theorem o15 : Ok1 seat 15 tf15 := ok1_of callable Tryz.func94 (by kernel_rfl) (by kernel_rfl)
theorem R15 : Rt seat k15 := r15 o15 R41 R42
theorem o303 : ReachAt seat := fun g hg => by
  have hall : only 98 303 fns = true := by kernel_rfl
  have hm := List.all_eq_true.1 hall _ (assoc_mem _ _ _ hg)
  have hg' : g = 98 := by simpa using hm
  subst hg'
  exact fun n i v W b hR hs hb => Go.Proofs.TryzReach.reach_calls hR hs hb
theorem R303 : Rt seat k303 := r303 o303
theorem o251 : NodeAt seat := fun g hg => by
  have hall : only 193 251 fns = true := by kernel_rfl
  have hm := List.all_eq_true.1 hall _ (assoc_mem _ _ _ hg)
  have hg' : g = 193 := by simpa using hm
  subst hg'
  refine ⟨124, 102, by kernel_rfl, by kernel_rfl, fun T' hT => ?_, fun l lv k x W hk h6 hN hnm => Go.Proofs.TryzNode.node_calls l lv k x W hk h6 hN hnm⟩
  have := assoc_mem _ _ _ hT
  simpa [seat, tys] using this
theorem R251 : Rt seat k251 := r251 o251 R41
theorem o252 : Ok1 seat 252 tf252 := ok1_of callable Tryz.func194 (by kernel_rfl) (by kernel_rfl)
theorem R252 : Rt seat k252 := r252 o252
theorem o241 : Ok1 seat 241 tf241 := ok1_of callable Tryz.func170 (by kernel_rfl) (by kernel_rfl)
theorem R241 : Rt seat k241 := r241 o241 R251 R252
theorem o248 : ParseAt seat := fun g hg => by
  have hall : only 126 248 fns = true := by kernel_rfl
  have hm := List.all_eq_true.1 hall _ (assoc_mem _ _ _ hg)
  have hg' : g = 126 := by simpa using hm
  subst hg'
  exact ⟨170, 102, by kernel_rfl, by kernel_rfl, fun s W h => Go.Proofs.TryzRead.parse_long s h W, fun s f b W hs hr => Go.Proofs.TryzRead.parse_bad s hs f b hr W, fun s f i b l W hs hr hb => Go.Proofs.TryzRead.parse_short s hs f i b l hr hb W,
    fun s f i b l W R hs hr hb hR hck => Go.Proofs.TryzRead.parse_check s hs f i b l hr hb W R hR hck, fun s f i b l W hs hr hb hck => Go.Proofs.TryzRead.parse_done s hs f i b l hr hb W hck⟩
theorem R248 : Rt seat k248 := r248 o248 R241
theorem o355 : Ok1 seat 355 tf355 := ok1_of callable Tryz.func95 (by kernel_rfl) (by kernel_rfl)
theorem R355 : Rt seat k355 := r355 o355 R248
theorem o213 : SortIAt seat := fun g hg => by
  have hall : only 64 213 fns = true := by kernel_rfl
  have hm := List.all_eq_true.1 hall _ (assoc_mem _ _ _ hg)
  have hg' : g = 64 := by simpa using hm
  subst hg'
  exact ⟨fun blk cap ss w hH hb hs => Go.Proofs.Tryz.slices_Sort_int blk 0 cap ss w hH hb hs, fun p cap w => Go.Proofs.Tryz.slices_Sort_int_none p cap w⟩
theorem R213 : Rt seat k213 := r213 o213
theorem o302 : CompIAt seat := fun g hg => by
  have hall : only 129 302 fns = true := by kernel_rfl
  have hm := List.all_eq_true.1 hall _ (assoc_mem _ _ _ hg)
  have hg' : g = 129 := by simpa using hm
  subst hg'
  exact ⟨fun blk cap zs w hH h1 h2 => Go.Proofs.Tryz.slices_Compact_int blk 0 cap zs w hH h1 h2, fun a cap w => Go.Proofs.Tryz.slices_Compact_int_empty a cap w⟩
theorem R302 : Rt seat k302 := r302 o302
theorem o47 : Ok1 seat 47 tf47 := ok1_of callable Tryz.func128 (by kernel_rfl) (by kernel_rfl)
theorem R47 : Rt seat k47 := r47 o47
theorem o356 : Ok1 seat 356 tf356 := ok1_of callable Tryz.func96 (by kernel_rfl) (by kernel_rfl)
theorem R356 : Rt seat k356 := r356 o356 R213 R302 R37 R47
theorem o362 : Ok1 seat 362 tf362 := ok1_of callable Tryz.func130 (by kernel_rfl) (by kernel_rfl)
theorem R362 : Rt seat k362 := r362 o362
theorem o357 : Ok1 seat 357 tf357 := ok1_of callable Tryz.func97 (by kernel_rfl) (by kernel_rfl)
theorem R357 : Rt seat k357 := r357 o357 R362
theorem o340 : Ok1 seat 340 tf340 := ok1_of callable Tryz.func54 (by kernel_rfl) (by kernel_rfl)
theorem R340 : Rt seat k340 := r340 o340 R15 R303 R355 R356 R357
theorem o315 : Ok1 seat 315 tf315 := ok1_of callable Tryz.func15 (by kernel_rfl) (by kernel_rfl)
theorem R315 : Rt seat k315 := r315 o315 R340
theorem o358 : Ok1 seat 358 tf358 := ok1_of callable Tryz.func99 (by kernel_rfl) (by kernel_rfl)
theorem R358 : Rt seat k358 := r358 o358
theorem o359 : Ok1 seat 359 tf359 := ok1_of callable Tryz.func105 (by kernel_rfl) (by kernel_rfl)
theorem R359_358 : Rt seat k359_358 := r359_358 o359 R358
theorem o345 : Ok1 seat 345 tf345 := ok1_of callable Tryz.func66 (by kernel_rfl) (by kernel_rfl)
theorem R345_358 : Rt seat k345_358 := r345_358 o345 R359_358
theorem o341 : Ok1 seat 341 tf341 := ok1_of callable Tryz.func55 (by kernel_rfl) (by kernel_rfl)
theorem R341 : Rt seat k341 := r341 o341 R345_358
theorem o316 : Ok1 seat 316 tf316 := ok1_of callable Tryz.func16 (by kernel_rfl) (by kernel_rfl)
theorem R316 : Rt seat k316 := r316 o316 R340 R341
theorem o68 : Ok1 seat 68 tf68 := ok1_of callable Tryz.func14 (by kernel_rfl) (by kernel_rfl)
theorem R68 : Rt seat k68 := r68 o68
theorem R105a (x : Err) (y : Int) (hy : P105 x = some y) : (realRets seat).ret 105 (encAL [.err] x) (encA .int y) [] := by
  intro g hg
  have hall : only 56 105 fns = true := by kernel_rfl
  have hm := List.all_eq_true.1 hall _ (assoc_mem _ _ _ hg)
  have hg' : g = 56 := by simpa using hm
  subst hg'
  refine realM_of (fun A w vs hl hA ha => ?_) (fun y hy => by
    simp only [encAL, List.mem_singleton] at hy
    subst hy
    cases x <;> rfl)
  have hvs : vs.size = 1 := by cases x <;> exact hl
  obtain ⟨v, rfl⟩ : ∃ v, vs = #[v] := ⟨vs[0], by
    apply Array.ext
    · simpa using hvs
    · intro i h1 h2
      obtain rfl : i = 0 := by omega
      rfl⟩
  cases x with
  | nil =>
    obtain rfl : y = 0 := (Option.some.inj hy).symm
    have hv : VR0 seat A w (.v .nilIface) v := ha 0 _ rfl
    obtain rfl : v = .nilIface := VR.v_inv (σ := fun _ => none) (.of0 hv)
    refine (Go.Proofs.Tryztold.told_nil w).mono fun e w' ⟨he, hw⟩ => ?_
    subst hw
    exact ⟨_, he, .refl _ _, fun _ => none, by simp, by simp, rfl, .v _⟩
  | no n =>
    obtain rfl : y = n := (Option.some.inj hy).symm
    have hv : VR0 seat A w (.ifc 1 (aI y)) v := ha 0 _ rfl
    obtain ⟨T, u, rfl, hT, hu⟩ : ∃ T u, v = .iface T u ∧ assoc T tys = some 1 ∧ VR0 seat A w (aI y) u := by cases hv with | ifc h1 h2 => exact ⟨_, _, rfl, h1, h2⟩
    obtain rfl : u = .int .i64 y := VR.v_inv (σ := fun _ => none) (.of0 hu)
    obtain rfl : T = 102 := by
      have := assoc_mem _ _ _ hT
      simpa [tys] using this
    refine (Go.Proofs.Tryztold.told_no y w (hA.2.1 (0, _) (List.mem_singleton.2 rfl))).mono fun e w' ⟨he, hb⟩ => ?_
    exact ⟨_, he, ⟨hb.os, hb.tape, hb.output, hb.size, fun k hk _ => hb.block k hk⟩, fun _ => none, by simp, by simp, rfl, .v _⟩
  | oth t => cases hy
theorem R105 : Rt seat k105 := fun x y hy => R105a x y hy
theorem o92 : Ok1 seat 92 tf92 := ok1_of callable Tryz.func17 (by kernel_rfl) (by kernel_rfl)
theorem R92 : Rt seat k92 := r92 o92 R105
theorem o304 : Ok1 seat 304 tf304 := ok1_of callable Tryz.func3 (by kernel_rfl) (by kernel_rfl)
theorem R304 : Rt seat k304 := r304 o304 R315 R316 R68 R92
end Ab.Tryz
