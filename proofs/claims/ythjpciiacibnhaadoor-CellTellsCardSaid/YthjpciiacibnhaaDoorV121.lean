/-
  The seat's program for the abstract machine, and the contracts of all functions that the law reaches: written by program (genlaw.py).
-/
import Derived.Test.YthjpciiacibnhaaDoorMC
import Derived.Test.YthjpciiacibnhaaDoorMCe
import Derived.Test.YthjpciiacibnhaaDoorMRc
import Derived.Test.YthjpciiacibnhaaDoorMS
import Derived.Test.YthjpciiacibnhaaDoorMSt
import Derived.Test.YthjpciiacibnhaaDoorMX
import Derived.Test.YthjpciiacibnhaaDoorW121
import Derived.Test.YthjpciiacibnhaaDoorMYe
import Derived.Test.YthjpciiacibnhaaDoorMSh
import Derived.Test.YthjpciiacibnhaaDoorRows
import Derived.KernelRfl
namespace Ab.Tryd
open Go Go.Proofs
def fns : List (Nat × Nat) := [(3, 115), (4, 116), (5, 117), (6, 118), (7, 119), (8, 120), (9, 121), (10, 122), (11, 123), (12, 124), (13, 110), (14, 92), (15, 125), (16, 126), (17, 127), (18, 128), (19, 129), (20, 130), (21, 111), (22, 131), (23, 98), (24, 132), (25, 133), (26, 28), (27, 22), (28, 112), (29, 27), (30, 134), (31, 26), (32, 135), (33, 25), (34, 136), (35, 29), (36, 137), (37, 9), (38, 8), (39, 138), (40, 139), (41, 10), (42, 12), (43, 114), (44, 140), (45, 141), (46, 106), (47, 93), (48, 142), (49, 143), (50, 144), (51, 52), (52, 145), (53, 146), (54, 147), (55, 148), (56, 11), (57, 149), (58, 150), (59, 151), (60, 58), (61, 113), (62, 105), (63, 94), (64, 46), (65, 103), (66, 102), (67, 59), (68, 51), (69, 152), (70, 37), (71, 153), (72, 40), (73, 69), (74, 49), (75, 154), (76, 50), (77, 72), (78, 71), (79, 60), (80, 61), (81, 155), (82, 56), (83, 57), (84, 55), (85, 31), (86, 32), (87, 33), (88, 30), (89, 156), (90, 157), (91, 34), (92, 36), (93, 158), (94, 96), (95, 159), (96, 160), (97, 35), (98, 161), (99, 45), (100, 107), (101, 95), (102, 44), (103, 100), (104, 14), (105, 162), (106, 63), (107, 64), (108, 163), (109, 164), (110, 165), (111, 166), (112, 68), (113, 79), (114, 76), (115, 73), (116, 77), (117, 78), (118, 74), (119, 167), (120, 168), (121, 62), (122, 48), (126, 169), (127, 97), (128, 47), (129, 15), (130, 38), (131, 39), (132, 170), (133, 171), (134, 172), (135, 173), (136, 174), (137, 80), (139, 83), (140, 81), (141, 175), (142, 176), (143, 177), (147, 41), (148, 42), (149, 65), (150, 178), (151, 179), (153, 180), (156, 85), (157, 84), (158, 181), (159, 182), (160, 183), (161, 184), (162, 185), (163, 186), (164, 187), (165, 188), (166, 189), (167, 66), (168, 67), (169, 190), (170, 191), (172, 192), (173, 193), (174, 86), (175, 194), (176, 195), (177, 196), (178, 197), (179, 198), (180, 199), (181, 200), (182, 201), (183, 75), (185, 202), (186, 203), (187, 204), (188, 205), (189, 206), (225, 207)]
def tys : List (Nat × Nat) := [(103, 1), (200, 4)]
noncomputable def seat : Seat := { P := Tryd.prog, fns, tys, muts := [(71, [1001]), (77, [1000]), (78, [1000, 1002])], own := [72, 76, 79], glob := [(0, Go.Proofs.Trydtold.handle)], more := [2, 3, 4], hold := Go.Proofs.TrydStr.hold, holdK := Go.Proofs.TrydStr.holdK }
theorem callable : Callable seat := callable_of (by kernel_rfl)
theorem o62 : Ok1 seat 62 tf62 := ok1_of callable Tryd.func121 (by kernel_rfl) (by kernel_rfl)
theorem R62 : Rt seat k62 := r62 o62
theorem o30 : Ok1 seat 30 tf30 := ok1_of callable Tryd.func88 (by kernel_rfl) (by kernel_rfl)
theorem R30 : Rt seat k30 := r30 o30
theorem o8 : Ok1 seat 8 tf8 := ok1_of callable Tryd.func38 (by kernel_rfl) (by kernel_rfl)
theorem R8 : Rt seat k8 := r8 o8 R30
theorem o34 : Ok1 seat 34 tf34 := ok1_of callable Tryd.func91 (by kernel_rfl) (by kernel_rfl)
theorem R34 : Rt seat k34 := r34 o34 R62 R8
theorem o52 : Ok1 seat 52 tf52 := ok1_of callable Tryd.func51 (by kernel_rfl) (by kernel_rfl)
theorem R52 : Rt seat k52 := r52 o52 R30
theorem o31 : Ok1 seat 31 tf31 := ok1_of callable Tryd.func85 (by kernel_rfl) (by kernel_rfl)
theorem R31_34 : Rt seat k31_34 := r31_34 o31 R34 R52
theorem o10 : Ok1 seat 10 tf10 := ok1_of callable Tryd.func41 (by kernel_rfl) (by kernel_rfl)
theorem R10 : Rt seat k10 := r10 o10 R31_34
theorem o35 : Ok1 seat 35 tf35 := ok1_of callable Tryd.func97 (by kernel_rfl) (by kernel_rfl)
theorem R35 : Rt seat k35 := r35 o35 R8
theorem R31_35 : Rt seat k31_35 := r31_35 o31 R35 R52
theorem o11 : Ok1 seat 11 tf11 := ok1_of callable Tryd.func56 (by kernel_rfl) (by kernel_rfl)
theorem R11 : Rt seat k11 := r11 o11 R31_35
theorem o33 : Ok1 seat 33 tf33 := ok1_of callable Tryd.func87 (by kernel_rfl) (by kernel_rfl)
theorem R33 : Rt seat k33 := r33 o33 R8
theorem o36 : Ok1 seat 36 tf36 := ok1_of callable Tryd.func92 (by kernel_rfl) (by kernel_rfl)
theorem R36 : Rt seat k36 := r36 o36 R33
theorem R31_36 : Rt seat k31_36 := r31_36 o31 R36 R52
theorem o12 : Ok1 seat 12 tf12 := ok1_of callable Tryd.func42 (by kernel_rfl) (by kernel_rfl)
theorem R12 : Rt seat k12 := r12 o12 R31_36
theorem o157 : ItoaAt seat 157 := fun g hg => by
  have hall : only 90 157 fns = true := by kernel_rfl
  have hm := List.all_eq_true.1 hall _ (assoc_mem _ _ _ hg)
  have hg' : g = 90 := by simpa using hm
  subst hg'
  exact fun n w h0 h1 hw => Go.Proofs.TrydStr.itoa_at n w h0 h1 hw
theorem R157 : Rt seat k157 := r157 o157
theorem o167 : AtoiAt seat 167 := fun g hg => by
  have hall : only 119 167 fns = true := by kernel_rfl
  have hm := List.all_eq_true.1 hall _ (assoc_mem _ _ _ hg)
  have hg' : g = 119 := by simpa using hm
  subst hg'
  exact fun s w hs hw => (Go.Proofs.TrydStr.atoi_at s w hs hw).mono fun e w' ⟨⟨u, he, hu⟩, hk⟩ => ⟨⟨u, he, by
    generalize (atoiV s).2 = q at hu ⊢
    cases q with
    | nil => exact hu
    | no k => exact hu
    | oth k => obtain ⟨T, x, h1, rfl, rfl⟩ := hu; exact ⟨_, x, h1, by kernel_rfl⟩⟩, hk⟩
theorem R167 : Rt seat k167 := r167 o167
theorem o156 : Ok1 seat 156 tf156 := ok1_of callable Tryd.func89 (by kernel_rfl) (by kernel_rfl)
theorem R156 : Rt seat k156 := r156 o156 R157 R167
theorem o138 : Ok1 seat 138 tf138 := ok1_of callable Tryd.func39 (by kernel_rfl) (by kernel_rfl)
theorem R138 : Rt seat k138 := r138 o138 R156 R30 R8
theorem o139 : Ok1 seat 139 tf139 := ok1_of callable Tryd.func40 (by kernel_rfl) (by kernel_rfl)
theorem R139 : Rt seat k139 := r139 o139 R157 R52
theorem o144 : Ok1 seat 144 tf144 := ok1_of callable Tryd.func50 (by kernel_rfl) (by kernel_rfl)
theorem R144 : Rt seat k144 := r144 o144
theorem o159 : Ok1 seat 159 tf159 := ok1_of callable Tryd.func95 (by kernel_rfl) (by kernel_rfl)
theorem R159 : Rt seat k159 := r159 o159
theorem o145 : Ok1 seat 145 tf145 := ok1_of callable Tryd.func52 (by kernel_rfl) (by kernel_rfl)
theorem R145 : Rt seat k145 := r145 o145 R159
theorem o150 : Ok1 seat 150 tf150 := ok1_of callable Tryd.func58 (by kernel_rfl) (by kernel_rfl)
theorem R150 : Rt seat k150 := r150 o150
theorem o146 : Ok1 seat 146 tf146 := ok1_of callable Tryd.func53 (by kernel_rfl) (by kernel_rfl)
theorem R146 : Rt seat k146 := r146 o146 R150
theorem o160 : Ok1 seat 160 tf160 := ok1_of callable Tryd.func96 (by kernel_rfl) (by kernel_rfl)
theorem R160 : Rt seat k160 := r160 o160
theorem o147 : Ok1 seat 147 tf147 := ok1_of callable Tryd.func54 (by kernel_rfl) (by kernel_rfl)
theorem R147 : Rt seat k147 := r147 o147 R150 R160
theorem o148 : Ok1 seat 148 tf148 := ok1_of callable Tryd.func55 (by kernel_rfl) (by kernel_rfl)
theorem R148 : Rt seat k148 := r148 o148 R150 R160
theorem o161 : Ok1 seat 161 tf161 := ok1_of callable Tryd.func98 (by kernel_rfl) (by kernel_rfl)
theorem R161 : Rt seat k161 := r161 o161
theorem o149 : Ok1 seat 149 tf149 := ok1_of callable Tryd.func57 (by kernel_rfl) (by kernel_rfl)
theorem R149 : Rt seat k149 := r149 o149 R161
theorem o32 : Ok1 seat 32 tf32 := ok1_of callable Tryd.func86 (by kernel_rfl) (by kernel_rfl)
theorem R32 : Rt seat k32 := r32 o32 R33
theorem R31_32 : Rt seat k31_32 := r31_32 o31 R32 R52
theorem o9 : Ok1 seat 9 tf9 := ok1_of callable Tryd.func37 (by kernel_rfl) (by kernel_rfl)
theorem R9 : Rt seat k9 := r9 o9 R31_32
theorem R105a (x : Err) (y : Int) (hy : P105 x = some y) : (realRets seat).ret 105 (encAL [.err] x) (encA .int y) [] := by
  intro g hg
  have hall : only 62 105 fns = true := by kernel_rfl
  have hm := List.all_eq_true.1 hall _ (assoc_mem _ _ _ hg)
  have hg' : g = 62 := by simpa using hm
  subst hg'
  refine realM_of (fun A w vs hl hA ha => ?_) (fun y hy => by
    simp only [encAL, List.mem_singleton] at hy
    subst hy
    cases x <;> rfl)
  have hvs : vs.size = 1 := by cases x <;> exact hl
  obtain ⟨v, rfl⟩ : ∃ v, vs = #[v] := ⟨vs[0], by
    apply Array.ext
    · simpa using hvs
    · intro i h1 h2
      obtain rfl : i = 0 := by omega
      rfl⟩
  cases x with
  | nil =>
    obtain rfl : y = 0 := (Option.some.inj hy).symm
    have hv : VR0 seat A w (.v .nilIface) v := ha 0 _ rfl
    obtain rfl : v = .nilIface := VR.v_inv (σ := fun _ => none) (.of0 hv)
    refine (Go.Proofs.Trydtold.told_nil w).mono fun e w' ⟨he, hw⟩ => ?_
    subst hw
    exact ⟨_, he, .refl _ _, fun _ => none, by simp, by simp, rfl, .v _⟩
  | no n =>
    obtain rfl : y = n := (Option.some.inj hy).symm
    have hv : VR0 seat A w (.ifc 1 (aI y)) v := ha 0 _ rfl
    obtain ⟨T, u, rfl, hT, hu⟩ : ∃ T u, v = .iface T u ∧ assoc T tys = some 1 ∧ VR0 seat A w (aI y) u := by cases hv with | ifc h1 h2 => exact ⟨_, _, rfl, h1, h2⟩
    obtain rfl : u = .int .i64 y := VR.v_inv (σ := fun _ => none) (.of0 hu)
    obtain rfl : T = 103 := by
      have := assoc_mem _ _ _ hT
      simpa [tys] using this
    refine (Go.Proofs.Trydtold.told_no y w (hA.2.1 (0, _) (List.mem_singleton.2 rfl))).mono fun e w' ⟨he, hb⟩ => ?_
    exact ⟨_, he, ⟨hb.os, hb.tape, hb.output, hb.size, fun k hk _ => hb.block k hk⟩, fun _ => none, by simp, by simp, rfl, .v _⟩
  | oth t => cases hy
theorem R105 : Rt seat k105 := fun x y hy => R105a x y hy
theorem o92 : Ok1 seat 92 tf92 := ok1_of callable Tryd.func14 (by kernel_rfl) (by kernel_rfl)
theorem R92 : Rt seat k92 := r92 o92 R105
theorem o121 : Ok1 seat 121 tf121 := ok1_of callable Tryd.func9 (by kernel_rfl) (by kernel_rfl)
theorem R121 : Rt seat k121 := r121 o121 R10 R11 R12 R138 R139 R144 R145 R146 R147 R148 R149 R150 R52 R8 R9 R92
end Ab.Tryd
