/-
  The seat's program for the abstract machine, and the contracts of all functions that the law reaches: written by program (genlaw.py).
-/
import Derived.Test.YtchidgkpkhloeaaDoorMFm
import Derived.Test.YtchidgkpkhloeaaDoorMNo
import Derived.Test.YtchidgkpkhloeaaDoorMO
import Derived.Test.YtchidgkpkhloeaaDoorMPa
import Derived.Test.YtchidgkpkhloeaaDoorMRe
import Derived.Test.YtchidgkpkhloeaaDoorMRu
import Derived.Test.YtchidgkpkhloeaaDoorMSn
import Derived.Test.YtchidgkpkhloeaaDoorMT
import Derived.Test.YtchidgkpkhloeaaDoorW365
import Derived.Test.YtchidgkpkhloeaaDoorE3
import Derived.Test.YtchidgkpkhloeaaDoorMWr
import Derived.Test.YtchidgkpkhloeaaDoorMSk2
import Derived.Test.YtchidgkpkhloeaaDoorMNw
import Derived.Test.YtchidgkpkhloeaaDoorD2
import Derived.Test.YtchidgkpkhloeaaDoorRows
import Derived.KernelRfl
namespace Ab.Tryd
open Go Go.Proofs
def fns : List (Nat × Nat) := [(3, 365), (4, 316), (5, 315), (6, 323), (7, 340), (8, 341), (9, 15), (10, 355), (11, 356), (12, 357), (13, 303), (14, 345), (15, 358), (16, 41), (17, 42), (18, 248), (19, 37), (20, 47), (21, 213), (22, 302), (23, 362), (24, 363), (25, 359), (26, 66), (27, 67), (28, 258), (29, 259), (30, 241), (31, 63), (32, 64), (33, 216), (34, 217), (35, 75), (36, 263), (37, 264), (38, 251), (39, 252), (40, 218), (41, 219), (42, 220), (43, 221), (44, 222), (45, 223), (46, 224), (47, 225), (48, 226), (49, 227), (50, 198), (51, 275), (52, 276), (53, 277), (54, 278), (55, 228), (56, 229), (57, 230), (58, 231), (59, 232), (60, 84), (61, 191), (62, 283), (63, 284), (64, 285), (65, 233), (67, 167), (68, 175), (69, 176), (70, 181), (71, 182), (72, 183), (73, 184), (74, 185), (75, 194), (76, 195), (77, 196), (78, 157), (79, 203), (80, 204), (81, 168), (82, 177), (83, 186), (84, 187), (85, 188), (86, 189), (87, 197), (88, 199), (89, 200), (90, 201), (91, 205), (92, 206)]
def tys : List (Nat × Nat) := [(41, 1), (110, 4)]
noncomputable def seat : Seat := { P := Tryd.prog, fns, tys, muts := [(213, [0]), (302, [1000])], own := [363], more := [3], hold := Go.Proofs.TrydStr.hold, holdK := Go.Proofs.TrydStr.holdK }
theorem callable : Callable seat := callable_of (by kernel_rfl)
theorem o67 : Ok1 seat 67 tf67 := ok1_of callable Tryd.func27 (by kernel_rfl) (by kernel_rfl)
theorem R67 : Rt seat k67 := r67 o67
theorem o75 : Ok1 seat 75 tf75 := ok1_of callable Tryd.func35 (by kernel_rfl) (by kernel_rfl)
theorem R75_67 : Rt seat k75_67 := r75_67 o75 R67
theorem o66 : Ok1 seat 66 tf66 := ok1_of callable Tryd.func26 (by kernel_rfl) (by kernel_rfl)
theorem R66_67 : Rt seat k66_67 := r66_67 o66 R75_67
theorem o41 : Ok1 seat 41 tf41 := ok1_of callable Tryd.func16 (by kernel_rfl) (by kernel_rfl)
theorem R41 : Rt seat k41 := r41 o41 R66_67
theorem o64 : Ok1 seat 64 tf64 := ok1_of callable Tryd.func32 (by kernel_rfl) (by kernel_rfl)
theorem R64 : Rt seat k64 := r64 o64
theorem o63 : Ok1 seat 63 tf63 := ok1_of callable Tryd.func31 (by kernel_rfl) (by kernel_rfl)
theorem R63_64 : Rt seat k63_64 := r63_64 o63 R64
theorem o37 : Ok1 seat 37 tf37 := ok1_of callable Tryd.func19 (by kernel_rfl) (by kernel_rfl)
theorem R37 : Rt seat k37 := r37 o37 R63_64
theorem o42 : Ok1 seat 42 tf42 := ok1_of callable Tryd.func17 (by kernel_rfl) (by kernel_rfl)
theorem R42 : Rt seat k42 := r42 o42 R37 R41
theorem o15 : Ok1 seat 15 tf15 := ok1_of callable Tryd.func9 (by kernel_rfl) (by kernel_rfl)
theorem R15 : Rt seat k15 := r15 o15 R41 R42
theorem o303 : ReachAt seat := fun g hg => by
  have hall : only 13 303 fns = true := by kernel_rfl
  have hm := List.all_eq_true.1 hall _ (assoc_mem _ _ _ hg)
  have hg' : g = 13 := by simpa using hm
  subst hg'
  exact fun n i v W b hR hs hb => Go.Proofs.TrydReach.reach_calls hR hs hb
theorem R303 : Rt seat k303 := r303 o303
theorem o251 : NodeAt seat := fun g hg => by
  have hall : only 38 251 fns = true := by kernel_rfl
  have hm := List.all_eq_true.1 hall _ (assoc_mem _ _ _ hg)
  have hg' : g = 38 := by simpa using hm
  subst hg'
  refine ⟨16, 41, by kernel_rfl, by kernel_rfl, fun T' hT => ?_, fun l lv k x W hk h6 hN hnm => Go.Proofs.TrydNode.node_calls l lv k x W hk h6 hN hnm⟩
  have := assoc_mem _ _ _ hT
  simpa [seat, tys] using this
theorem R251 : Rt seat k251 := r251 o251 R41
theorem o252 : Ok1 seat 252 tf252 := ok1_of callable Tryd.func39 (by kernel_rfl) (by kernel_rfl)
theorem R252 : Rt seat k252 := r252 o252
theorem o241 : Ok1 seat 241 tf241 := ok1_of callable Tryd.func30 (by kernel_rfl) (by kernel_rfl)
theorem R241 : Rt seat k241 := r241 o241 R251 R252
theorem o248 : ParseAt seat := fun g hg => by
  have hall : only 18 248 fns = true := by kernel_rfl
  have hm := List.all_eq_true.1 hall _ (assoc_mem _ _ _ hg)
  have hg' : g = 18 := by simpa using hm
  subst hg'
  exact ⟨30, 41, by kernel_rfl, by kernel_rfl, fun s W h => Go.Proofs.TrydRead.parse_long s h W, fun s f b W hs hr => Go.Proofs.TrydRead.parse_bad s hs f b hr W, fun s f i b l W hs hr hb => Go.Proofs.TrydRead.parse_short s hs f i b l hr hb W,
    fun s f i b l W R hs hr hb hR hck => Go.Proofs.TrydRead.parse_check s hs f i b l hr hb W R hR hck, fun s f i b l W hs hr hb hck => Go.Proofs.TrydRead.parse_done s hs f i b l hr hb W hck⟩
theorem R248 : Rt seat k248 := r248 o248 R241
theorem o355 : Ok1 seat 355 tf355 := ok1_of callable Tryd.func10 (by kernel_rfl) (by kernel_rfl)
theorem R355 : Rt seat k355 := r355 o355 R248
theorem o213 : SortIAt seat := fun g hg => by
  have hall : only 21 213 fns = true := by kernel_rfl
  have hm := List.all_eq_true.1 hall _ (assoc_mem _ _ _ hg)
  have hg' : g = 21 := by simpa using hm
  subst hg'
  exact ⟨fun blk cap ss w hH hb hs => Go.Proofs.Tryd.slices_Sort_int blk 0 cap ss w hH hb hs, fun p cap w => Go.Proofs.Tryd.slices_Sort_int_none p cap w⟩
theorem R213 : Rt seat k213 := r213 o213
theorem o302 : CompIAt seat := fun g hg => by
  have hall : only 22 302 fns = true := by kernel_rfl
  have hm := List.all_eq_true.1 hall _ (assoc_mem _ _ _ hg)
  have hg' : g = 22 := by simpa using hm
  subst hg'
  exact ⟨fun blk cap zs w hH h1 h2 => Go.Proofs.Tryd.slices_Compact_int blk 0 cap zs w hH h1 h2, fun a cap w => Go.Proofs.Tryd.slices_Compact_int_empty a cap w⟩
theorem R302 : Rt seat k302 := r302 o302
theorem o47 : Ok1 seat 47 tf47 := ok1_of callable Tryd.func20 (by kernel_rfl) (by kernel_rfl)
theorem R47 : Rt seat k47 := r47 o47
theorem o356 : Ok1 seat 356 tf356 := ok1_of callable Tryd.func11 (by kernel_rfl) (by kernel_rfl)
theorem R356 : Rt seat k356 := r356 o356 R213 R302 R37 R47
theorem o362 : Ok1 seat 362 tf362 := ok1_of callable Tryd.func23 (by kernel_rfl) (by kernel_rfl)
theorem R362 : Rt seat k362 := r362 o362
theorem o357 : Ok1 seat 357 tf357 := ok1_of callable Tryd.func12 (by kernel_rfl) (by kernel_rfl)
theorem R357 : Rt seat k357 := r357 o357 R362
theorem o340 : Ok1 seat 340 tf340 := ok1_of callable Tryd.func7 (by kernel_rfl) (by kernel_rfl)
theorem R340 : Rt seat k340 := r340 o340 R15 R303 R355 R356 R357
theorem o315 : Ok1 seat 315 tf315 := ok1_of callable Tryd.func5 (by kernel_rfl) (by kernel_rfl)
theorem R315 : Rt seat k315 := r315 o315 R340
theorem o358 : Ok1 seat 358 tf358 := ok1_of callable Tryd.func15 (by kernel_rfl) (by kernel_rfl)
theorem R358 : Rt seat k358 := r358 o358
theorem o359 : Ok1 seat 359 tf359 := ok1_of callable Tryd.func25 (by kernel_rfl) (by kernel_rfl)
theorem R359_358 : Rt seat k359_358 := r359_358 o359 R358
theorem o345 : Ok1 seat 345 tf345 := ok1_of callable Tryd.func14 (by kernel_rfl) (by kernel_rfl)
theorem R345_358 : Rt seat k345_358 := r345_358 o345 R359_358
theorem o341 : Ok1 seat 341 tf341 := ok1_of callable Tryd.func8 (by kernel_rfl) (by kernel_rfl)
theorem R341 : Rt seat k341 := r341 o341 R345_358
theorem o316 : Ok1 seat 316 tf316 := ok1_of callable Tryd.func4 (by kernel_rfl) (by kernel_rfl)
theorem R316 : Rt seat k316 := r316 o316 R340 R341
theorem o323 : Ok1 seat 323 tf323 := ok1_of callable Tryd.func6 (by kernel_rfl) (by kernel_rfl)
theorem R323 : Rt seat k323 := r323 o323 R340
theorem o365 : Ok1 seat 365 tf365 := ok1_of callable Tryd.func3 (by kernel_rfl) (by kernel_rfl)
theorem R365 : Rt seat k365 := r365 o365 R315 R316 R323
end Ab.Tryd
