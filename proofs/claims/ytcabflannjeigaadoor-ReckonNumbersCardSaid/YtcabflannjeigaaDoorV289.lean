/-
  The seat's program for the abstract machine, and the contracts of all functions that the law reaches: written by program (genlaw.py).
-/
import Derived.Test.YtcabflannjeigaaDoorMC
import Derived.Test.YtcabflannjeigaaDoorMFm
import Derived.Test.YtcabflannjeigaaDoorMNo
import Derived.Test.YtcabflannjeigaaDoorMO
import Derived.Test.YtcabflannjeigaaDoorMPa
import Derived.Test.YtcabflannjeigaaDoorMRc
import Derived.Test.YtcabflannjeigaaDoorMRk
import Derived.Test.YtcabflannjeigaaDoorMSs
import Derived.Test.YtcabflannjeigaaDoorW289
import Derived.Test.YtcabflannjeigaaDoorMSg
import Derived.Test.YtcabflannjeigaaDoorMSk
import Derived.Test.YtcabflannjeigaaDoorMNw
import Derived.Test.YtcabflannjeigaaDoorMPt
import Derived.Test.YtcabflannjeigaaDoorRows
import Derived.KernelRfl
namespace Ab.Tryd
open Go Go.Proofs
def fns : List (Nat × Nat) := [(3, 287), (4, 288), (5, 289), (6, 290), (7, 240), (8, 144), (9, 243), (10, 291), (11, 292), (12, 293), (13, 92), (14, 294), (15, 295), (16, 249), (17, 296), (18, 244), (19, 8), (20, 159), (21, 248), (22, 241), (23, 97), (24, 150), (25, 146), (26, 147), (27, 148), (28, 245), (29, 52), (30, 297), (31, 298), (32, 299), (33, 300), (34, 105), (35, 301), (36, 254), (37, 30), (38, 258), (39, 259), (40, 251), (41, 252), (42, 160), (43, 255), (44, 256), (45, 33), (46, 34), (47, 35), (48, 107), (49, 157), (50, 260), (51, 263), (52, 264), (53, 41), (54, 261), (55, 217), (56, 62), (60, 169), (61, 168), (62, 275), (63, 276), (64, 277), (65, 278), (66, 66), (67, 67), (68, 265), (69, 266), (70, 267), (71, 268), (72, 269), (73, 270), (74, 271), (75, 272), (76, 273), (77, 227), (78, 198), (82, 177), (83, 191), (84, 283), (85, 284), (86, 285), (87, 75), (88, 279), (89, 229), (90, 230), (91, 280), (92, 281), (93, 282), (94, 186), (95, 187), (96, 188), (97, 189), (99, 167), (100, 286), (101, 197), (102, 199), (103, 200), (104, 201), (105, 175), (106, 176), (107, 205), (108, 206), (109, 181), (110, 182), (111, 183), (112, 184), (113, 185), (114, 194), (115, 195), (116, 196), (117, 203), (118, 204), (153, 207)]
def tys : List (Nat × Nat) := [(61, 1), (157, 4)]
noncomputable def seat : Seat := { P := Tryd.prog, fns, tys, muts := [(255, [0]), (256, [1000])], own := [], more := [1], hold := Go.Proofs.TrydStr.hold, holdK := Go.Proofs.TrydStr.holdK }
theorem callable : Callable seat := callable_of (by kernel_rfl)
theorem o159 : Ok1 seat 159 tf159 := ok1_of callable Tryd.func20 (by kernel_rfl) (by kernel_rfl)
theorem R159 : Rt seat k159 := r159 o159
theorem o67 : Ok1 seat 67 tf67 := ok1_of callable Tryd.func67 (by kernel_rfl) (by kernel_rfl)
theorem R67 : Rt seat k67 := r67 o67
theorem o75 : Ok1 seat 75 tf75 := ok1_of callable Tryd.func87 (by kernel_rfl) (by kernel_rfl)
theorem R75_67 : Rt seat k75_67 := r75_67 o75 R67
theorem o66 : Ok1 seat 66 tf66 := ok1_of callable Tryd.func66 (by kernel_rfl) (by kernel_rfl)
theorem R66_67 : Rt seat k66_67 := r66_67 o66 R75_67
theorem o41 : Ok1 seat 41 tf41 := ok1_of callable Tryd.func53 (by kernel_rfl) (by kernel_rfl)
theorem R41 : Rt seat k41 := r41 o41 R66_67
theorem o251 : NodeAt seat := fun g hg => by
  have hall : only 40 251 fns = true := by kernel_rfl
  have hm := List.all_eq_true.1 hall _ (assoc_mem _ _ _ hg)
  have hg' : g = 40 := by simpa using hm
  subst hg'
  refine ⟨53, 61, by kernel_rfl, by kernel_rfl, fun T' hT => ?_, fun l lv k x W hk h6 hN hnm => Go.Proofs.TrydNode.node_calls l lv k x W hk h6 hN hnm⟩
  have := assoc_mem _ _ _ hT
  simpa [seat, tys] using this
theorem R251 : Rt seat k251 := r251 o251 R41
theorem o252 : Ok1 seat 252 tf252 := ok1_of callable Tryd.func41 (by kernel_rfl) (by kernel_rfl)
theorem R252 : Rt seat k252 := r252 o252
theorem o241 : Ok1 seat 241 tf241 := ok1_of callable Tryd.func22 (by kernel_rfl) (by kernel_rfl)
theorem R241 : Rt seat k241 := r241 o241 R251 R252
theorem o248 : ParseAt seat := fun g hg => by
  have hall : only 21 248 fns = true := by kernel_rfl
  have hm := List.all_eq_true.1 hall _ (assoc_mem _ _ _ hg)
  have hg' : g = 21 := by simpa using hm
  subst hg'
  exact ⟨22, 61, by kernel_rfl, by kernel_rfl, fun s W h => Go.Proofs.TrydRead.parse_long s h W, fun s f b W hs hr => Go.Proofs.TrydRead.parse_bad s hs f b hr W, fun s f i b l W hs hr hb => Go.Proofs.TrydRead.parse_short s hs f i b l hr hb W,
    fun s f i b l W R hs hr hb hR hck => Go.Proofs.TrydRead.parse_check s hs f i b l hr hb W R hR hck, fun s f i b l W hs hr hb hck => Go.Proofs.TrydRead.parse_done s hs f i b l hr hb W hck⟩
theorem R248 : Rt seat k248 := r248 o248 R241
theorem o255 : SortSAt seat := fun g hg => by
  have hall : only 43 255 fns = true := by kernel_rfl
  have hm := List.all_eq_true.1 hall _ (assoc_mem _ _ _ hg)
  have hg' : g = 43 := by simpa using hm
  subst hg'
  exact ⟨fun blk cap ss w hH hb hs => Go.Proofs.Tryd.slices_Sort_string blk 0 cap ss w hH hb hs, fun p cap w => Go.Proofs.Tryd.slices_Sort_string_none p cap w⟩
theorem R255 : Rt seat k255 := r255 o255
theorem o256 : CompSAt seat := fun g hg => by
  have hall : only 44 256 fns = true := by kernel_rfl
  have hm := List.all_eq_true.1 hall _ (assoc_mem _ _ _ hg)
  have hg' : g = 44 := by simpa using hm
  subst hg'
  exact ⟨fun blk cap zs w hH h1 h2 => Go.Proofs.Tryd.slices_Compact_string blk 0 cap zs w hH h1 h2, fun a cap w => Go.Proofs.Tryd.slices_Compact_string_empty a cap w⟩
theorem R256 : Rt seat k256 := r256 o256
theorem o245 : Ok1 seat 245 tf245 := ok1_of callable Tryd.func28 (by kernel_rfl) (by kernel_rfl)
theorem R245 : Rt seat k245 := r245 o245 R241 R255 R256
theorem o300 : Ok1 seat 300 tf300 := ok1_of callable Tryd.func33 (by kernel_rfl) (by kernel_rfl)
theorem R300 : Rt seat k300 := r300 o300
theorem o297 : Ok1 seat 297 tf297 := ok1_of callable Tryd.func30 (by kernel_rfl) (by kernel_rfl)
theorem R297 : Rt seat k297 := r297 o297 R300
theorem o299 : Ok1 seat 299 tf299 := ok1_of callable Tryd.func32 (by kernel_rfl) (by kernel_rfl)
theorem R299 : Rt seat k299 := r299 o299 R300
theorem o30 : Ok1 seat 30 tf30 := ok1_of callable Tryd.func37 (by kernel_rfl) (by kernel_rfl)
theorem R30 : Rt seat k30 := r30 o30
theorem o8 : Ok1 seat 8 tf8 := ok1_of callable Tryd.func19 (by kernel_rfl) (by kernel_rfl)
theorem R8 : Rt seat k8 := r8 o8 R30
theorem o33 : Ok1 seat 33 tf33 := ok1_of callable Tryd.func45 (by kernel_rfl) (by kernel_rfl)
theorem R33 : Rt seat k33 := r33 o33 R8
theorem o62 : Ok1 seat 62 tf62 := ok1_of callable Tryd.func56 (by kernel_rfl) (by kernel_rfl)
theorem R62 : Rt seat k62 := r62 o62
theorem o34 : Ok1 seat 34 tf34 := ok1_of callable Tryd.func46 (by kernel_rfl) (by kernel_rfl)
theorem R34 : Rt seat k34 := r34 o34 R62 R8
theorem o35 : Ok1 seat 35 tf35 := ok1_of callable Tryd.func47 (by kernel_rfl) (by kernel_rfl)
theorem R35 : Rt seat k35 := r35 o35 R8
theorem o298 : Ok1 seat 298 tf298 := ok1_of callable Tryd.func31 (by kernel_rfl) (by kernel_rfl)
theorem R298_299 : Rt seat k298_299 := r298_299 o298 R299 R33 R34 R35 R8
theorem o52 : Ok1 seat 52 tf52 := ok1_of callable Tryd.func29 (by kernel_rfl) (by kernel_rfl)
theorem R52 : Rt seat k52 := r52 o52 R30
theorem o293 : Ok1 seat 293 tf293 := ok1_of callable Tryd.func12 (by kernel_rfl) (by kernel_rfl)
theorem R293 : Rt seat k293 := r293 o293 R245 R297 R298_299 R52
theorem o289 : Ok1 seat 289 tf289 := ok1_of callable Tryd.func5 (by kernel_rfl) (by kernel_rfl)
theorem R289 : Rt seat k289 := r289 o289 R159 R248 R293 R8
end Ab.Tryd
