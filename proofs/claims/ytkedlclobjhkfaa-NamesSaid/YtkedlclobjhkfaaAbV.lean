/-
  The seat's program, for the abstract machine: its functions' names, written by program (genseat.py).
-/
import Derived.Test.YtkedlclobjhkfaaAbY
import Derived.Test.YtkedlclobjhkfaaAbG
import Derived.Test.YtkedlclobjhkfaaRows
namespace Ab.Try
open Go Go.Proofs
def fns : List (Nat × Nat) := [(3, 0), (4, 1), (5, 2), (6, 3), (7, 4), (8, 5), (9, 6), (10, 7), (11, 8), (12, 9), (13, 10), (14, 11), (15, 12), (16, 13), (17, 14), (18, 15), (19, 16), (20, 17), (21, 18), (22, 19), (23, 20), (24, 21), (25, 22), (26, 23), (27, 24), (28, 25), (29, 26), (30, 27), (31, 28), (32, 29), (33, 30), (34, 31), (35, 32), (36, 33), (37, 34), (38, 35), (39, 36), (40, 37), (41, 38), (42, 39), (43, 40), (44, 41), (45, 42), (46, 43), (47, 44), (48, 45), (49, 46), (50, 47), (51, 48), (52, 49), (53, 50), (54, 51), (55, 52), (56, 53), (57, 54), (58, 55), (59, 56), (60, 57), (61, 58), (62, 59), (63, 60), (64, 61), (65, 62), (66, 63), (67, 64), (68, 65), (69, 66), (70, 67), (71, 68), (72, 69), (73, 70), (74, 71), (75, 72), (76, 73), (77, 74), (78, 75), (79, 76), (80, 77), (81, 78), (82, 79), (83, 80), (84, 81), (86, 83), (87, 84), (88, 85), (89, 86)]
def tys : List (Nat × Nat) := [(23, 1)]
noncomputable def seat : Seat := { P := Try.prog, fns, tys, muts := [], own := [] }
theorem c0 : cFunc seat 0 Try.f3 = some f0 := by kernel_rfl
theorem c1 : cFunc seat 1 Try.f4 = some f1 := by kernel_rfl
theorem c2 : cFunc seat 2 Try.f5 = some f2 := by kernel_rfl
theorem c3 : cFunc seat 3 Try.f6 = some f3 := by kernel_rfl
theorem c4 : cFunc seat 4 Try.f7 = some f4 := by kernel_rfl
theorem c5 : cFunc seat 5 Try.f8 = some f5 := by kernel_rfl
theorem c6 : cFunc seat 6 Try.f9 = some f6 := by kernel_rfl
theorem c7 : cFunc seat 7 Try.f10 = some f7 := by kernel_rfl
theorem c8 : cFunc seat 8 Try.f11 = some f8 := by kernel_rfl
theorem c9 : cFunc seat 9 Try.f12 = some f9 := by kernel_rfl
theorem c10 : cFunc seat 10 Try.f13 = some f10 := by kernel_rfl
theorem c11 : cFunc seat 11 Try.f14 = some f11 := by kernel_rfl
theorem c12 : cFunc seat 12 Try.f15 = some f12 := by kernel_rfl
theorem c13 : cFunc seat 13 Try.f16 = some f13 := by kernel_rfl
theorem c14 : cFunc seat 14 Try.f17 = some f14 := by kernel_rfl
theorem c15 : cFunc seat 15 Try.f18 = some f15 := by kernel_rfl
theorem c16 : cFunc seat 16 Try.f19 = some f16 := by kernel_rfl
theorem c17 : cFunc seat 17 Try.f20 = some f17 := by kernel_rfl
theorem c18 : cFunc seat 18 Try.f21 = some f18 := by kernel_rfl
theorem c19 : cFunc seat 19 Try.f22 = some f19 := by kernel_rfl
theorem c20 : cFunc seat 20 Try.f23 = some f20 := by kernel_rfl
theorem c21 : cFunc seat 21 Try.f24 = some f21 := by kernel_rfl
theorem c22 : cFunc seat 22 Try.f25 = some f22 := by kernel_rfl
theorem c23 : cFunc seat 23 Try.f26 = some f23 := by kernel_rfl
theorem c24 : cFunc seat 24 Try.f27 = some f24 := by kernel_rfl
theorem c25 : cFunc seat 25 Try.f28 = some f25 := by kernel_rfl
theorem c26 : cFunc seat 26 Try.f29 = some f26 := by kernel_rfl
theorem c27 : cFunc seat 27 Try.f30 = some f27 := by kernel_rfl
theorem c28 : cFunc seat 28 Try.f31 = some f28 := by kernel_rfl
theorem c29 : cFunc seat 29 Try.f32 = some f29 := by kernel_rfl
theorem c30 : cFunc seat 30 Try.f33 = some f30 := by kernel_rfl
theorem c31 : cFunc seat 31 Try.f34 = some f31 := by kernel_rfl
theorem c32 : cFunc seat 32 Try.f35 = some f32 := by kernel_rfl
theorem c33 : cFunc seat 33 Try.f36 = some f33 := by kernel_rfl
theorem c34 : cFunc seat 34 Try.f37 = some f34 := by kernel_rfl
theorem c35 : cFunc seat 35 Try.f38 = some f35 := by kernel_rfl
theorem c36 : cFunc seat 36 Try.f39 = some f36 := by kernel_rfl
theorem c37 : cFunc seat 37 Try.f40 = some f37 := by kernel_rfl
theorem c38 : cFunc seat 38 Try.f41 = some f38 := by kernel_rfl
theorem c39 : cFunc seat 39 Try.f42 = some f39 := by kernel_rfl
theorem c40 : cFunc seat 40 Try.f43 = some f40 := by kernel_rfl
theorem c41 : cFunc seat 41 Try.f44 = some f41 := by kernel_rfl
theorem c42 : cFunc seat 42 Try.f45 = some f42 := by kernel_rfl
theorem c43 : cFunc seat 43 Try.f46 = some f43 := by kernel_rfl
theorem c44 : cFunc seat 44 Try.f47 = some f44 := by kernel_rfl
theorem c45 : cFunc seat 45 Try.f48 = some f45 := by kernel_rfl
theorem c46 : cFunc seat 46 Try.f49 = some f46 := by kernel_rfl
theorem c47 : cFunc seat 47 Try.f50 = some f47 := by kernel_rfl
theorem c48 : cFunc seat 48 Try.f51 = some f48 := by kernel_rfl
theorem c49 : cFunc seat 49 Try.f52 = some f49 := by kernel_rfl
theorem c50 : cFunc seat 50 Try.f53 = some f50 := by kernel_rfl
theorem c51 : cFunc seat 51 Try.f54 = some f51 := by kernel_rfl
theorem c52 : cFunc seat 52 Try.f55 = some f52 := by kernel_rfl
theorem c54 : cFunc seat 54 Try.f57 = some f54 := by kernel_rfl
theorem c55 : cFunc seat 55 Try.f58 = some f55 := by kernel_rfl
theorem c56 : cFunc seat 56 Try.f59 = some f56 := by kernel_rfl
theorem c57 : cFunc seat 57 Try.f60 = some f57 := by kernel_rfl
theorem c58 : cFunc seat 58 Try.f61 = some f58 := by kernel_rfl
theorem c59 : cFunc seat 59 Try.f62 = some f59 := by kernel_rfl
theorem c60 : cFunc seat 60 Try.f63 = some f60 := by kernel_rfl
theorem c61 : cFunc seat 61 Try.f64 = some f61 := by kernel_rfl
theorem c62 : cFunc seat 62 Try.f65 = some f62 := by kernel_rfl
theorem c63 : cFunc seat 63 Try.f66 = some f63 := by kernel_rfl
theorem c64 : cFunc seat 64 Try.f67 = some f64 := by kernel_rfl
theorem c65 : cFunc seat 65 Try.f68 = some f65 := by kernel_rfl
theorem c66 : cFunc seat 66 Try.f69 = some f66 := by kernel_rfl
theorem c67 : cFunc seat 67 Try.f70 = some f67 := by kernel_rfl
theorem c68 : cFunc seat 68 Try.f71 = some f68 := by kernel_rfl
theorem c69 : cFunc seat 69 Try.f72 = some f69 := by kernel_rfl
theorem c70 : cFunc seat 70 Try.f73 = some f70 := by kernel_rfl
theorem c72 : cFunc seat 72 Try.f75 = some f72 := by kernel_rfl
theorem c73 : cFunc seat 73 Try.f76 = some f73 := by kernel_rfl
theorem c74 : cFunc seat 74 Try.f77 = some f74 := by kernel_rfl
theorem c75 : cFunc seat 75 Try.f78 = some f75 := by kernel_rfl
theorem c81 : cFunc seat 81 Try.f84 = some f81 := by kernel_rfl
theorem c83 : cFunc seat 83 Try.f86 = some f83 := by kernel_rfl
theorem c84 : cFunc seat 84 Try.f87 = some f84 := by kernel_rfl
theorem c85 : cFunc seat 85 Try.f88 = some f85 := by kernel_rfl
theorem c86 : cFunc seat 86 Try.f89 = some f86 := by kernel_rfl

theorem assoc_mem : ∀ (l : List (Nat × Nat)) (k v : Nat), assoc k l = some v → (k, v) ∈ l
  | [], _, _, h => by cases h
  | (a, b) :: r, k, v, h => by
    simp only [assoc] at h
    split at h
    · rename_i e; subst e; cases h; exact List.mem_cons_self
    · exact List.mem_cons_of_mem _ (assoc_mem r k v h)

theorem callable : Callable seat := by
  intro g id h
  have hm := assoc_mem _ _ _ h
  have all : ∀ p ∈ fns, ∃ fn, Try.prog.funcs[p.1]? = some fn ∧ fn.body.isSome = true ∧ (fn.name == "runtime.NumGoroutine") = false := by
    unfold fns
    exact List.forall_mem_cons.2 ⟨⟨_, Try.func3, by kernel_rfl, by kernel_rfl⟩, List.forall_mem_cons.2 ⟨⟨_, Try.func4, by kernel_rfl, by kernel_rfl⟩, List.forall_mem_cons.2 ⟨⟨_, Try.func5, by kernel_rfl, by kernel_rfl⟩, List.forall_mem_cons.2 ⟨⟨_, Try.func6, by kernel_rfl, by kernel_rfl⟩, List.forall_mem_cons.2 ⟨⟨_, Try.func7, by kernel_rfl, by kernel_rfl⟩, List.forall_mem_cons.2 ⟨⟨_, Try.func8, by kernel_rfl, by kernel_rfl⟩, List.forall_mem_cons.2 ⟨⟨_, Try.func9, by kernel_rfl, by kernel_rfl⟩, List.forall_mem_cons.2 ⟨⟨_, Try.func10, by kernel_rfl, by kernel_rfl⟩, List.forall_mem_cons.2 ⟨⟨_, Try.func11, by kernel_rfl, by kernel_rfl⟩, List.forall_mem_cons.2 ⟨⟨_, Try.func12, by kernel_rfl, by kernel_rfl⟩, List.forall_mem_cons.2 ⟨⟨_, Try.func13, by kernel_rfl, by kernel_rfl⟩, List.forall_mem_cons.2 ⟨⟨_, Try.func14, by kernel_rfl, by kernel_rfl⟩, List.forall_mem_cons.2 ⟨⟨_, Try.func15, by kernel_rfl, by kernel_rfl⟩, List.forall_mem_cons.2 ⟨⟨_, Try.func16, by kernel_rfl, by kernel_rfl⟩, List.forall_mem_cons.2 ⟨⟨_, Try.func17, by kernel_rfl, by kernel_rfl⟩, List.forall_mem_cons.2 ⟨⟨_, Try.func18, by kernel_rfl, by kernel_rfl⟩, List.forall_mem_cons.2 ⟨⟨_, Try.func19, by kernel_rfl, by kernel_rfl⟩, List.forall_mem_cons.2 ⟨⟨_, Try.func20, by kernel_rfl, by kernel_rfl⟩, List.forall_mem_cons.2 ⟨⟨_, Try.func21, by kernel_rfl, by kernel_rfl⟩, List.forall_mem_cons.2 ⟨⟨_, Try.func22, by kernel_rfl, by kernel_rfl⟩, List.forall_mem_cons.2 ⟨⟨_, Try.func23, by kernel_rfl, by kernel_rfl⟩, List.forall_mem_cons.2 ⟨⟨_, Try.func24, by kernel_rfl, by kernel_rfl⟩, List.forall_mem_cons.2 ⟨⟨_, Try.func25, by kernel_rfl, by kernel_rfl⟩, List.forall_mem_cons.2 ⟨⟨_, Try.func26, by kernel_rfl, by kernel_rfl⟩, List.forall_mem_cons.2 ⟨⟨_, Try.func27, by kernel_rfl, by kernel_rfl⟩, List.forall_mem_cons.2 ⟨⟨_, Try.func28, by kernel_rfl, by kernel_rfl⟩, List.forall_mem_cons.2 ⟨⟨_, Try.func29, by kernel_rfl, by kernel_rfl⟩, List.forall_mem_cons.2 ⟨⟨_, Try.func30, by kernel_rfl, by kernel_rfl⟩, List.forall_mem_cons.2 ⟨⟨_, Try.func31, by kernel_rfl, by kernel_rfl⟩, List.forall_mem_cons.2 ⟨⟨_, Try.func32, by kernel_rfl, by kernel_rfl⟩, List.forall_mem_cons.2 ⟨⟨_, Try.func33, by kernel_rfl, by kernel_rfl⟩, List.forall_mem_cons.2 ⟨⟨_, Try.func34, by kernel_rfl, by kernel_rfl⟩, List.forall_mem_cons.2 ⟨⟨_, Try.func35, by kernel_rfl, by kernel_rfl⟩, List.forall_mem_cons.2 ⟨⟨_, Try.func36, by kernel_rfl, by kernel_rfl⟩, List.forall_mem_cons.2 ⟨⟨_, Try.func37, by kernel_rfl, by kernel_rfl⟩, List.forall_mem_cons.2 ⟨⟨_, Try.func38, by kernel_rfl, by kernel_rfl⟩, List.forall_mem_cons.2 ⟨⟨_, Try.func39, by kernel_rfl, by kernel_rfl⟩, List.forall_mem_cons.2 ⟨⟨_, Try.func40, by kernel_rfl, by kernel_rfl⟩, List.forall_mem_cons.2 ⟨⟨_, Try.func41, by kernel_rfl, by kernel_rfl⟩, List.forall_mem_cons.2 ⟨⟨_, Try.func42, by kernel_rfl, by kernel_rfl⟩, List.forall_mem_cons.2 ⟨⟨_, Try.func43, by kernel_rfl, by kernel_rfl⟩, List.forall_mem_cons.2 ⟨⟨_, Try.func44, by kernel_rfl, by kernel_rfl⟩, List.forall_mem_cons.2 ⟨⟨_, Try.func45, by kernel_rfl, by kernel_rfl⟩, List.forall_mem_cons.2 ⟨⟨_, Try.func46, by kernel_rfl, by kernel_rfl⟩, List.forall_mem_cons.2 ⟨⟨_, Try.func47, by kernel_rfl, by kernel_rfl⟩, List.forall_mem_cons.2 ⟨⟨_, Try.func48, by kernel_rfl, by kernel_rfl⟩, List.forall_mem_cons.2 ⟨⟨_, Try.func49, by kernel_rfl, by kernel_rfl⟩, List.forall_mem_cons.2 ⟨⟨_, Try.func50, by kernel_rfl, by kernel_rfl⟩, List.forall_mem_cons.2 ⟨⟨_, Try.func51, by kernel_rfl, by kernel_rfl⟩, List.forall_mem_cons.2 ⟨⟨_, Try.func52, by kernel_rfl, by kernel_rfl⟩, List.forall_mem_cons.2 ⟨⟨_, Try.func53, by kernel_rfl, by kernel_rfl⟩, List.forall_mem_cons.2 ⟨⟨_, Try.func54, by kernel_rfl, by kernel_rfl⟩, List.forall_mem_cons.2 ⟨⟨_, Try.func55, by kernel_rfl, by kernel_rfl⟩, List.forall_mem_cons.2 ⟨⟨_, Try.func56, by kernel_rfl, by kernel_rfl⟩, List.forall_mem_cons.2 ⟨⟨_, Try.func57, by kernel_rfl, by kernel_rfl⟩, List.forall_mem_cons.2 ⟨⟨_, Try.func58, by kernel_rfl, by kernel_rfl⟩, List.forall_mem_cons.2 ⟨⟨_, Try.func59, by kernel_rfl, by kernel_rfl⟩, List.forall_mem_cons.2 ⟨⟨_, Try.func60, by kernel_rfl, by kernel_rfl⟩, List.forall_mem_cons.2 ⟨⟨_, Try.func61, by kernel_rfl, by kernel_rfl⟩, List.forall_mem_cons.2 ⟨⟨_, Try.func62, by kernel_rfl, by kernel_rfl⟩, List.forall_mem_cons.2 ⟨⟨_, Try.func63, by kernel_rfl, by kernel_rfl⟩, List.forall_mem_cons.2 ⟨⟨_, Try.func64, by kernel_rfl, by kernel_rfl⟩, List.forall_mem_cons.2 ⟨⟨_, Try.func65, by kernel_rfl, by kernel_rfl⟩, List.forall_mem_cons.2 ⟨⟨_, Try.func66, by kernel_rfl, by kernel_rfl⟩, List.forall_mem_cons.2 ⟨⟨_, Try.func67, by kernel_rfl, by kernel_rfl⟩, List.forall_mem_cons.2 ⟨⟨_, Try.func68, by kernel_rfl, by kernel_rfl⟩, List.forall_mem_cons.2 ⟨⟨_, Try.func69, by kernel_rfl, by kernel_rfl⟩, List.forall_mem_cons.2 ⟨⟨_, Try.func70, by kernel_rfl, by kernel_rfl⟩, List.forall_mem_cons.2 ⟨⟨_, Try.func71, by kernel_rfl, by kernel_rfl⟩, List.forall_mem_cons.2 ⟨⟨_, Try.func72, by kernel_rfl, by kernel_rfl⟩, List.forall_mem_cons.2 ⟨⟨_, Try.func73, by kernel_rfl, by kernel_rfl⟩, List.forall_mem_cons.2 ⟨⟨_, Try.func74, by kernel_rfl, by kernel_rfl⟩, List.forall_mem_cons.2 ⟨⟨_, Try.func75, by kernel_rfl, by kernel_rfl⟩, List.forall_mem_cons.2 ⟨⟨_, Try.func76, by kernel_rfl, by kernel_rfl⟩, List.forall_mem_cons.2 ⟨⟨_, Try.func77, by kernel_rfl, by kernel_rfl⟩, List.forall_mem_cons.2 ⟨⟨_, Try.func78, by kernel_rfl, by kernel_rfl⟩, List.forall_mem_cons.2 ⟨⟨_, Try.func79, by kernel_rfl, by kernel_rfl⟩, List.forall_mem_cons.2 ⟨⟨_, Try.func80, by kernel_rfl, by kernel_rfl⟩, List.forall_mem_cons.2 ⟨⟨_, Try.func81, by kernel_rfl, by kernel_rfl⟩, List.forall_mem_cons.2 ⟨⟨_, Try.func82, by kernel_rfl, by kernel_rfl⟩, List.forall_mem_cons.2 ⟨⟨_, Try.func83, by kernel_rfl, by kernel_rfl⟩, List.forall_mem_cons.2 ⟨⟨_, Try.func84, by kernel_rfl, by kernel_rfl⟩, List.forall_mem_cons.2 ⟨⟨_, Try.func86, by kernel_rfl, by kernel_rfl⟩, List.forall_mem_cons.2 ⟨⟨_, Try.func87, by kernel_rfl, by kernel_rfl⟩, List.forall_mem_cons.2 ⟨⟨_, Try.func88, by kernel_rfl, by kernel_rfl⟩, List.forall_mem_cons.2 ⟨⟨_, Try.func89, by kernel_rfl, by kernel_rfl⟩, List.forall_mem_nil _⟩⟩⟩⟩⟩⟩⟩⟩⟩⟩⟩⟩⟩⟩⟩⟩⟩⟩⟩⟩⟩⟩⟩⟩⟩⟩⟩⟩⟩⟩⟩⟩⟩⟩⟩⟩⟩⟩⟩⟩⟩⟩⟩⟩⟩⟩⟩⟩⟩⟩⟩⟩⟩⟩⟩⟩⟩⟩⟩⟩⟩⟩⟩⟩⟩⟩⟩⟩⟩⟩⟩⟩⟩⟩⟩⟩⟩⟩⟩⟩⟩⟩⟩⟩⟩⟩
  exact all _ hm

theorem ok : Ok G (realRets seat) := by
  refine ok_of callable (fun g id h => ?_) fun _ _ _ => .inr (drawOk callable)
  have hm := assoc_mem _ _ _ h
  have all : ∀ p ∈ fns, ∀ f, G p.2 = some f → ∃ fn, Try.prog.funcs[p.1]? = some fn ∧ cFunc seat p.2 fn = some f := by
    unfold fns
    exact List.forall_mem_cons.2 ⟨fun f hf => ⟨_, Try.func3, c0.trans hf⟩, List.forall_mem_cons.2 ⟨fun f hf => ⟨_, Try.func4, c1.trans hf⟩, List.forall_mem_cons.2 ⟨fun f hf => ⟨_, Try.func5, c2.trans hf⟩, List.forall_mem_cons.2 ⟨fun f hf => ⟨_, Try.func6, c3.trans hf⟩, List.forall_mem_cons.2 ⟨fun f hf => ⟨_, Try.func7, c4.trans hf⟩, List.forall_mem_cons.2 ⟨fun f hf => ⟨_, Try.func8, c5.trans hf⟩, List.forall_mem_cons.2 ⟨fun f hf => ⟨_, Try.func9, c6.trans hf⟩, List.forall_mem_cons.2 ⟨fun f hf => ⟨_, Try.func10, c7.trans hf⟩, List.forall_mem_cons.2 ⟨fun f hf => ⟨_, Try.func11, c8.trans hf⟩, List.forall_mem_cons.2 ⟨fun f hf => ⟨_, Try.func12, c9.trans hf⟩, List.forall_mem_cons.2 ⟨fun f hf => ⟨_, Try.func13, c10.trans hf⟩, List.forall_mem_cons.2 ⟨fun f hf => ⟨_, Try.func14, c11.trans hf⟩, List.forall_mem_cons.2 ⟨fun f hf => ⟨_, Try.func15, c12.trans hf⟩, List.forall_mem_cons.2 ⟨fun f hf => ⟨_, Try.func16, c13.trans hf⟩, List.forall_mem_cons.2 ⟨fun f hf => ⟨_, Try.func17, c14.trans hf⟩, List.forall_mem_cons.2 ⟨fun f hf => ⟨_, Try.func18, c15.trans hf⟩, List.forall_mem_cons.2 ⟨fun f hf => ⟨_, Try.func19, c16.trans hf⟩, List.forall_mem_cons.2 ⟨fun f hf => ⟨_, Try.func20, c17.trans hf⟩, List.forall_mem_cons.2 ⟨fun f hf => ⟨_, Try.func21, c18.trans hf⟩, List.forall_mem_cons.2 ⟨fun f hf => ⟨_, Try.func22, c19.trans hf⟩, List.forall_mem_cons.2 ⟨fun f hf => ⟨_, Try.func23, c20.trans hf⟩, List.forall_mem_cons.2 ⟨fun f hf => ⟨_, Try.func24, c21.trans hf⟩, List.forall_mem_cons.2 ⟨fun f hf => ⟨_, Try.func25, c22.trans hf⟩, List.forall_mem_cons.2 ⟨fun f hf => ⟨_, Try.func26, c23.trans hf⟩, List.forall_mem_cons.2 ⟨fun f hf => ⟨_, Try.func27, c24.trans hf⟩, List.forall_mem_cons.2 ⟨fun f hf => ⟨_, Try.func28, c25.trans hf⟩, List.forall_mem_cons.2 ⟨fun f hf => ⟨_, Try.func29, c26.trans hf⟩, List.forall_mem_cons.2 ⟨fun f hf => ⟨_, Try.func30, c27.trans hf⟩, List.forall_mem_cons.2 ⟨fun f hf => ⟨_, Try.func31, c28.trans hf⟩, List.forall_mem_cons.2 ⟨fun f hf => ⟨_, Try.func32, c29.trans hf⟩, List.forall_mem_cons.2 ⟨fun f hf => ⟨_, Try.func33, c30.trans hf⟩, List.forall_mem_cons.2 ⟨fun f hf => ⟨_, Try.func34, c31.trans hf⟩, List.forall_mem_cons.2 ⟨fun f hf => ⟨_, Try.func35, c32.trans hf⟩, List.forall_mem_cons.2 ⟨fun f hf => ⟨_, Try.func36, c33.trans hf⟩, List.forall_mem_cons.2 ⟨fun f hf => ⟨_, Try.func37, c34.trans hf⟩, List.forall_mem_cons.2 ⟨fun f hf => ⟨_, Try.func38, c35.trans hf⟩, List.forall_mem_cons.2 ⟨fun f hf => ⟨_, Try.func39, c36.trans hf⟩, List.forall_mem_cons.2 ⟨fun f hf => ⟨_, Try.func40, c37.trans hf⟩, List.forall_mem_cons.2 ⟨fun f hf => ⟨_, Try.func41, c38.trans hf⟩, List.forall_mem_cons.2 ⟨fun f hf => ⟨_, Try.func42, c39.trans hf⟩, List.forall_mem_cons.2 ⟨fun f hf => ⟨_, Try.func43, c40.trans hf⟩, List.forall_mem_cons.2 ⟨fun f hf => ⟨_, Try.func44, c41.trans hf⟩, List.forall_mem_cons.2 ⟨fun f hf => ⟨_, Try.func45, c42.trans hf⟩, List.forall_mem_cons.2 ⟨fun f hf => ⟨_, Try.func46, c43.trans hf⟩, List.forall_mem_cons.2 ⟨fun f hf => ⟨_, Try.func47, c44.trans hf⟩, List.forall_mem_cons.2 ⟨fun f hf => ⟨_, Try.func48, c45.trans hf⟩, List.forall_mem_cons.2 ⟨fun f hf => ⟨_, Try.func49, c46.trans hf⟩, List.forall_mem_cons.2 ⟨fun f hf => ⟨_, Try.func50, c47.trans hf⟩, List.forall_mem_cons.2 ⟨fun f hf => ⟨_, Try.func51, c48.trans hf⟩, List.forall_mem_cons.2 ⟨fun f hf => ⟨_, Try.func52, c49.trans hf⟩, List.forall_mem_cons.2 ⟨fun f hf => ⟨_, Try.func53, c50.trans hf⟩, List.forall_mem_cons.2 ⟨fun f hf => ⟨_, Try.func54, c51.trans hf⟩, List.forall_mem_cons.2 ⟨fun f hf => ⟨_, Try.func55, c52.trans hf⟩, List.forall_mem_cons.2 ⟨fun f hf => absurd (hf.symm.trans (by kernel_rfl : G 53 = none)) nofun, List.forall_mem_cons.2 ⟨fun f hf => ⟨_, Try.func57, c54.trans hf⟩, List.forall_mem_cons.2 ⟨fun f hf => ⟨_, Try.func58, c55.trans hf⟩, List.forall_mem_cons.2 ⟨fun f hf => ⟨_, Try.func59, c56.trans hf⟩, List.forall_mem_cons.2 ⟨fun f hf => ⟨_, Try.func60, c57.trans hf⟩, List.forall_mem_cons.2 ⟨fun f hf => ⟨_, Try.func61, c58.trans hf⟩, List.forall_mem_cons.2 ⟨fun f hf => ⟨_, Try.func62, c59.trans hf⟩, List.forall_mem_cons.2 ⟨fun f hf => ⟨_, Try.func63, c60.trans hf⟩, List.forall_mem_cons.2 ⟨fun f hf => ⟨_, Try.func64, c61.trans hf⟩, List.forall_mem_cons.2 ⟨fun f hf => ⟨_, Try.func65, c62.trans hf⟩, List.forall_mem_cons.2 ⟨fun f hf => ⟨_, Try.func66, c63.trans hf⟩, List.forall_mem_cons.2 ⟨fun f hf => ⟨_, Try.func67, c64.trans hf⟩, List.forall_mem_cons.2 ⟨fun f hf => ⟨_, Try.func68, c65.trans hf⟩, List.forall_mem_cons.2 ⟨fun f hf => ⟨_, Try.func69, c66.trans hf⟩, List.forall_mem_cons.2 ⟨fun f hf => ⟨_, Try.func70, c67.trans hf⟩, List.forall_mem_cons.2 ⟨fun f hf => ⟨_, Try.func71, c68.trans hf⟩, List.forall_mem_cons.2 ⟨fun f hf => ⟨_, Try.func72, c69.trans hf⟩, List.forall_mem_cons.2 ⟨fun f hf => ⟨_, Try.func73, c70.trans hf⟩, List.forall_mem_cons.2 ⟨fun f hf => absurd (hf.symm.trans (by kernel_rfl : G 71 = none)) nofun, List.forall_mem_cons.2 ⟨fun f hf => ⟨_, Try.func75, c72.trans hf⟩, List.forall_mem_cons.2 ⟨fun f hf => ⟨_, Try.func76, c73.trans hf⟩, List.forall_mem_cons.2 ⟨fun f hf => ⟨_, Try.func77, c74.trans hf⟩, List.forall_mem_cons.2 ⟨fun f hf => ⟨_, Try.func78, c75.trans hf⟩, List.forall_mem_cons.2 ⟨fun f hf => absurd (hf.symm.trans (by kernel_rfl : G 76 = none)) nofun, List.forall_mem_cons.2 ⟨fun f hf => absurd (hf.symm.trans (by kernel_rfl : G 77 = none)) nofun, List.forall_mem_cons.2 ⟨fun f hf => absurd (hf.symm.trans (by kernel_rfl : G 78 = none)) nofun, List.forall_mem_cons.2 ⟨fun f hf => absurd (hf.symm.trans (by kernel_rfl : G 79 = none)) nofun, List.forall_mem_cons.2 ⟨fun f hf => absurd (hf.symm.trans (by kernel_rfl : G 80 = none)) nofun, List.forall_mem_cons.2 ⟨fun f hf => ⟨_, Try.func84, c81.trans hf⟩, List.forall_mem_cons.2 ⟨fun f hf => ⟨_, Try.func86, c83.trans hf⟩, List.forall_mem_cons.2 ⟨fun f hf => ⟨_, Try.func87, c84.trans hf⟩, List.forall_mem_cons.2 ⟨fun f hf => ⟨_, Try.func88, c85.trans hf⟩, List.forall_mem_cons.2 ⟨fun f hf => ⟨_, Try.func89, c86.trans hf⟩, List.forall_mem_nil _⟩⟩⟩⟩⟩⟩⟩⟩⟩⟩⟩⟩⟩⟩⟩⟩⟩⟩⟩⟩⟩⟩⟩⟩⟩⟩⟩⟩⟩⟩⟩⟩⟩⟩⟩⟩⟩⟩⟩⟩⟩⟩⟩⟩⟩⟩⟩⟩⟩⟩⟩⟩⟩⟩⟩⟩⟩⟩⟩⟩⟩⟩⟩⟩⟩⟩⟩⟩⟩⟩⟩⟩⟩⟩⟩⟩⟩⟩⟩⟩⟩⟩⟩⟩⟩⟩
  exact all _ hm
end Ab.Try
