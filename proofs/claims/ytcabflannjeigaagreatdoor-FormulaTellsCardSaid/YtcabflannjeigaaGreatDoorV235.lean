/-
  The seat's program for the abstract machine, and the contracts of all functions that the law reaches: written by program (genlaw.py).
-/
import Derived.Test.YtcabflannjeigaaGreatDoorMDa
import Derived.Test.YtcabflannjeigaaGreatDoorMFm
import Derived.Test.YtcabflannjeigaaGreatDoorMFp
import Derived.Test.YtcabflannjeigaaGreatDoorMFx
import Derived.Test.YtcabflannjeigaaGreatDoorMNo
import Derived.Test.YtcabflannjeigaaGreatDoorMO
import Derived.Test.YtcabflannjeigaaGreatDoorMPa
import Derived.Test.YtcabflannjeigaaGreatDoorC3
import Derived.Test.YtcabflannjeigaaGreatDoorMR4
import Derived.Test.YtcabflannjeigaaGreatDoorMRc
import Derived.Test.YtcabflannjeigaaGreatDoorC1
import Derived.Test.YtcabflannjeigaaGreatDoorMS3
import Derived.Test.YtcabflannjeigaaGreatDoorMSs
import Derived.Test.YtcabflannjeigaaGreatDoorMSt
import Derived.Test.YtcabflannjeigaaGreatDoorMX
import Derived.Test.YtcabflannjeigaaGreatDoorW235
import Derived.Test.YtcabflannjeigaaGreatDoorMYz
import Derived.Test.YtcabflannjeigaaGreatDoorMSi
import Derived.Test.YtcabflannjeigaaGreatDoorMSk
import Derived.Test.YtcabflannjeigaaGreatDoorMNw
import Derived.Test.YtcabflannjeigaaGreatDoorD2
import Derived.Test.YtcabflannjeigaaGreatDoorD1
import Derived.Test.YtcabflannjeigaaGreatDoorRows
import Derived.KernelRfl
namespace Ab.Tryz
open Go Go.Proofs
def fns : List (Nat × Nat) := [(3, 234), (4, 235), (5, 236), (6, 122), (7, 237), (8, 21), (9, 92), (10, 24), (11, 238), (12, 239), (13, 209), (14, 125), (15, 106), (16, 144), (17, 23), (18, 240), (19, 241), (20, 242), (21, 243), (22, 244), (23, 245), (24, 246), (25, 247), (26, 248), (27, 249), (28, 123), (29, 130), (30, 151), (31, 134), (32, 142), (33, 27), (34, 40), (35, 8), (36, 49), (37, 105), (38, 100), (39, 146), (40, 140), (41, 250), (42, 210), (43, 211), (44, 54), (45, 94), (46, 51), (47, 52), (48, 53), (49, 97), (50, 251), (51, 252), (52, 159), (53, 253), (54, 254), (55, 255), (56, 256), (57, 257), (58, 258), (59, 259), (60, 102), (61, 155), (62, 58), (63, 59), (64, 60), (65, 61), (66, 30), (67, 107), (68, 150), (69, 212), (70, 213), (71, 214), (72, 47), (73, 69), (74, 33), (75, 70), (76, 95), (77, 14), (78, 41), (79, 157), (80, 260), (81, 261), (82, 217), (83, 262), (84, 263), (85, 264), (86, 44), (87, 74), (91, 169), (92, 215), (93, 216), (94, 76), (95, 96), (96, 15), (97, 38), (98, 39), (99, 66), (100, 67), (101, 168), (102, 265), (103, 266), (104, 267), (105, 268), (106, 269), (107, 270), (108, 271), (109, 272), (110, 273), (111, 227), (112, 198), (113, 274), (114, 275), (115, 276), (116, 277), (117, 278), (118, 81), (122, 218), (123, 219), (124, 220), (125, 221), (126, 222), (127, 223), (128, 224), (129, 225), (130, 226), (131, 42), (132, 65), (133, 75), (134, 177), (135, 279), (136, 229), (137, 230), (138, 280), (139, 281), (140, 282), (141, 191), (142, 283), (143, 284), (144, 285), (145, 84), (146, 228), (147, 231), (148, 232), (149, 37), (150, 186), (151, 187), (152, 188), (153, 189), (154, 286), (156, 167), (157, 233), (158, 63), (159, 64), (160, 197), (161, 199), (162, 200), (163, 201), (164, 175), (165, 176), (166, 205), (167, 206), (168, 181), (169, 182), (170, 183), (171, 184), (172, 185), (173, 194), (174, 195), (175, 196), (176, 203), (177, 204), (212, 207)]
def tys : List (Nat × Nat) := [(73, 1), (220, 4)]
noncomputable def seat : Seat := { P := Tryz.prog, fns, tys, muts := [(54, [1]), (255, [0]), (256, [1000])], own := [53, 76, 21], glob := [(0, Go.Proofs.Tryztold.handle)], more := [1], hold := Go.Proofs.TryzStr.hold, holdK := Go.Proofs.TryzStr.holdK }
theorem callable : Callable seat := callable_of (by kernel_rfl)
theorem o97 : Ok1 seat 97 tf97 := ok1_of callable Tryz.func49 (by kernel_rfl) (by kernel_rfl)
theorem R97 : Rt seat k97 := r97 o97
theorem o240 : Ok1 seat 240 tf240 := ok1_of callable Tryz.func18 (by kernel_rfl) (by kernel_rfl)
theorem R240 : Rt seat k240 := r240 o240 R97
theorem o67 : Ok1 seat 67 tf67 := ok1_of callable Tryz.func100 (by kernel_rfl) (by kernel_rfl)
theorem R67 : Rt seat k67 := r67 o67
theorem o75 : Ok1 seat 75 tf75 := ok1_of callable Tryz.func133 (by kernel_rfl) (by kernel_rfl)
theorem R75_67 : Rt seat k75_67 := r75_67 o75 R67
theorem o66 : Ok1 seat 66 tf66 := ok1_of callable Tryz.func99 (by kernel_rfl) (by kernel_rfl)
theorem R66_67 : Rt seat k66_67 := r66_67 o66 R75_67
theorem o41 : Ok1 seat 41 tf41 := ok1_of callable Tryz.func78 (by kernel_rfl) (by kernel_rfl)
theorem R41 : Rt seat k41 := r41 o41 R66_67
theorem o251 : NodeAt seat := fun g hg => by
  have hall : only 50 251 fns = true := by kernel_rfl
  have hm := List.all_eq_true.1 hall _ (assoc_mem _ _ _ hg)
  have hg' : g = 50 := by simpa using hm
  subst hg'
  refine ⟨78, 73, by kernel_rfl, by kernel_rfl, fun T' hT => ?_, fun l lv k x W hk h6 hN hnm => Go.Proofs.TryzNode.node_calls l lv k x W hk h6 hN hnm⟩
  have := assoc_mem _ _ _ hT
  simpa [seat, tys] using this
theorem R251 : Rt seat k251 := r251 o251 R41
theorem o252 : Ok1 seat 252 tf252 := ok1_of callable Tryz.func51 (by kernel_rfl) (by kernel_rfl)
theorem R252 : Rt seat k252 := r252 o252
theorem o241 : Ok1 seat 241 tf241 := ok1_of callable Tryz.func19 (by kernel_rfl) (by kernel_rfl)
theorem R241 : Rt seat k241 := r241 o241 R251 R252
theorem o159 : Ok1 seat 159 tf159 := ok1_of callable Tryz.func52 (by kernel_rfl) (by kernel_rfl)
theorem R159 : Rt seat k159 := r159 o159
theorem o253 : Ok1 seat 253 tf253 := ok1_of callable Tryz.func53 (by kernel_rfl) (by kernel_rfl)
theorem R253 : Rt seat k253 := r253 o253
theorem o242 : Ok1 seat 242 tf242 := ok1_of callable Tryz.func20 (by kernel_rfl) (by kernel_rfl)
theorem R242 : Rt seat k242 := r242 o242 R159 R253
theorem o243 : Ok1 seat 243 tf243 := ok1_of callable Tryz.func21 (by kernel_rfl) (by kernel_rfl)
theorem R243 : Rt seat k243 := r243 o243
theorem o157 : ItoaAt seat 157 := fun g hg => by
  have hall : only 79 157 fns = true := by kernel_rfl
  have hm := List.all_eq_true.1 hall _ (assoc_mem _ _ _ hg)
  have hg' : g = 79 := by simpa using hm
  subst hg'
  exact fun n w h0 h1 hw => Go.Proofs.TryzStr.itoa_at n w h0 h1 hw
theorem R157 : Rt seat k157 := r157 o157
theorem o260 : Ok1 seat 260 tf260 := ok1_of callable Tryz.func80 (by kernel_rfl) (by kernel_rfl)
theorem R260 : Rt seat k260 := r260 o260
theorem o254 : Ok1 seat 254 tf254 := ok1_of callable Tryz.func54 (by kernel_rfl) (by kernel_rfl)
theorem R254 : Rt seat k254 := r254 o254 R157 R252 R260
theorem o244 : Ok1 seat 244 tf244 := ok1_of callable Tryz.func22 (by kernel_rfl) (by kernel_rfl)
theorem R244 : Rt seat k244 := r244 o244 R241 R254
theorem o255 : SortSAt seat := fun g hg => by
  have hall : only 55 255 fns = true := by kernel_rfl
  have hm := List.all_eq_true.1 hall _ (assoc_mem _ _ _ hg)
  have hg' : g = 55 := by simpa using hm
  subst hg'
  exact ⟨fun blk cap ss w hH hb hs => Go.Proofs.Tryz.slices_Sort_string blk 0 cap ss w hH hb hs, fun p cap w => Go.Proofs.Tryz.slices_Sort_string_none p cap w⟩
theorem R255 : Rt seat k255 := r255 o255
theorem o256 : CompSAt seat := fun g hg => by
  have hall : only 56 256 fns = true := by kernel_rfl
  have hm := List.all_eq_true.1 hall _ (assoc_mem _ _ _ hg)
  have hg' : g = 56 := by simpa using hm
  subst hg'
  exact ⟨fun blk cap zs w hH h1 h2 => Go.Proofs.Tryz.slices_Compact_string blk 0 cap zs w hH h1 h2, fun a cap w => Go.Proofs.Tryz.slices_Compact_string_empty a cap w⟩
theorem R256 : Rt seat k256 := r256 o256
theorem o245 : Ok1 seat 245 tf245 := ok1_of callable Tryz.func23 (by kernel_rfl) (by kernel_rfl)
theorem R245 : Rt seat k245 := r245 o245 R241 R255 R256
theorem o246 : Ok1 seat 246 tf246 := ok1_of callable Tryz.func24 (by kernel_rfl) (by kernel_rfl)
theorem R246 : Rt seat k246 := r246 o246
theorem o247 : ReadAt seat := fun g hg => by
  have hall : only 25 247 fns = true := by kernel_rfl
  have hm := List.all_eq_true.1 hall _ (assoc_mem _ _ _ hg)
  have hg' : g = 25 := by simpa using hm
  subst hg'
  exact ⟨18, by kernel_rfl, fun s W h => Go.Proofs.TryzRead.readI_long s h W, fun s f b W hs hr => Go.Proofs.TryzRead.readI_bad s hs f b hr W, fun s f i b l W hs hr hb => Go.Proofs.TryzRead.readI_short s hs f i b l hr hb W,
    fun s f i b l n W hs hr hb hn hck => Go.Proofs.TryzRead.readI_fault s hs f i b l n hr hb hn W hck, fun s f i b l W hs hr hb hck => Go.Proofs.TryzRead.readI_done s hs f i b l hr hb W hck⟩
theorem R247 : Rt seat k247 := r247 o247 R240
theorem o248 : ParseAt seat := fun g hg => by
  have hall : only 26 248 fns = true := by kernel_rfl
  have hm := List.all_eq_true.1 hall _ (assoc_mem _ _ _ hg)
  have hg' : g = 26 := by simpa using hm
  subst hg'
  exact ⟨19, 73, by kernel_rfl, by kernel_rfl, fun s W h => Go.Proofs.TryzRead.parse_long s h W, fun s f b W hs hr => Go.Proofs.TryzRead.parse_bad s hs f b hr W, fun s f i b l W hs hr hb => Go.Proofs.TryzRead.parse_short s hs f i b l hr hb W,
    fun s f i b l W R hs hr hb hR hck => Go.Proofs.TryzRead.parse_check s hs f i b l hr hb W R hR hck, fun s f i b l W hs hr hb hck => Go.Proofs.TryzRead.parse_done s hs f i b l hr hb W hck⟩
theorem R248 : Rt seat k248 := r248 o248 R241
theorem o249 : Ok1 seat 249 tf249 := ok1_of callable Tryz.func27 (by kernel_rfl) (by kernel_rfl)
theorem R249 : Rt seat k249 := r249 o249
theorem R105a (x : Err) (y : Int) (hy : P105 x = some y) : (realRets seat).ret 105 (encAL [.err] x) (encA .int y) [] := by
  intro g hg
  have hall : only 37 105 fns = true := by kernel_rfl
  have hm := List.all_eq_true.1 hall _ (assoc_mem _ _ _ hg)
  have hg' : g = 37 := by simpa using hm
  subst hg'
  refine realM_of (fun A w vs hl hA ha => ?_) (fun y hy => by
    simp only [encAL, List.mem_singleton] at hy
    subst hy
    cases x <;> rfl)
  have hvs : vs.size = 1 := by cases x <;> exact hl
  obtain ⟨v, rfl⟩ : ∃ v, vs = #[v] := ⟨vs[0], by
    apply Array.ext
    · simpa using hvs
    · intro i h1 h2
      obtain rfl : i = 0 := by omega
      rfl⟩
  cases x with
  | nil =>
    obtain rfl : y = 0 := (Option.some.inj hy).symm
    have hv : VR0 seat A w (.v .nilIface) v := ha 0 _ rfl
    obtain rfl : v = .nilIface := VR.v_inv (σ := fun _ => none) (.of0 hv)
    refine (Go.Proofs.Tryztold.told_nil w).mono fun e w' ⟨he, hw⟩ => ?_
    subst hw
    exact ⟨_, he, .refl _ _, fun _ => none, by simp, by simp, rfl, .v _⟩
  | no n =>
    obtain rfl : y = n := (Option.some.inj hy).symm
    have hv : VR0 seat A w (.ifc 1 (aI y)) v := ha 0 _ rfl
    obtain ⟨T, u, rfl, hT, hu⟩ : ∃ T u, v = .iface T u ∧ assoc T tys = some 1 ∧ VR0 seat A w (aI y) u := by cases hv with | ifc h1 h2 => exact ⟨_, _, rfl, h1, h2⟩
    obtain rfl : u = .int .i64 y := VR.v_inv (σ := fun _ => none) (.of0 hu)
    obtain rfl : T = 73 := by
      have := assoc_mem _ _ _ hT
      simpa [tys] using this
    refine (Go.Proofs.Tryztold.told_no y w (hA.2.1 (0, _) (List.mem_singleton.2 rfl))).mono fun e w' ⟨he, hb⟩ => ?_
    exact ⟨_, he, ⟨hb.os, hb.tape, hb.output, hb.size, fun k hk _ => hb.block k hk⟩, fun _ => none, by simp, by simp, rfl, .v _⟩
  | oth t => cases hy
theorem R105 : Rt seat k105 := fun x y hy => R105a x y hy
theorem o92 : Ok1 seat 92 tf92 := ok1_of callable Tryz.func9 (by kernel_rfl) (by kernel_rfl)
theorem R92 : Rt seat k92 := r92 o92 R105
theorem o235 : Ok1 seat 235 tf235 := ok1_of callable Tryz.func4 (by kernel_rfl) (by kernel_rfl)
theorem R235 : Rt seat k235 := r235 o235 R240 R241 R242 R243 R244 R245 R246 R247 R248 R249 R92
end Ab.Tryz
