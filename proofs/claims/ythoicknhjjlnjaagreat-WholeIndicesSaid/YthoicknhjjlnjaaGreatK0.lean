/-
  The functions at hand.
-/
import Derived.Test.YthoicknhjjlnjaaGreatFd
import Derived.Test.YthoicknhjjlnjaaGreatProg
import Derived.KernelRfl
import Derived.DeepKeys4
namespace Go.Fx
open Go Go.Proofs
set_option maxRecDepth 100000
noncomputable def fns : List (FuncId × Func) := [(3, Tryz.f3), (4, Tryz.f4), (5, Tryz.f5), (6, Tryz.f6), (7, Tryz.f7), (8, Tryz.f8), (9, Tryz.f9), (10, Tryz.f10), (11, Tryz.f11), (12, Tryz.f12), (13, Tryz.f13), (14, Tryz.f14), (15, Tryz.f15), (16, Tryz.f16), (17, Tryz.f17), (18, Tryz.f18), (19, Tryz.f19), (20, Tryz.f20), (21, Tryz.f21), (22, Tryz.f22), (23, Tryz.f23), (24, Tryz.f24), (25, Tryz.f25), (26, Tryz.f26), (27, Tryz.f27), (28, Tryz.f28), (29, Tryz.f29), (30, Tryz.f30), (31, Tryz.f31), (32, Tryz.f32), (33, Tryz.f33), (34, Tryz.f34), (35, Tryz.f35), (36, Tryz.f36), (37, Tryz.f37), (38, Tryz.f38), (39, Tryz.f39), (40, Tryz.f40), (41, Tryz.f41), (42, Tryz.f42), (43, Tryz.f43), (44, Tryz.f44), (45, Tryz.f45), (46, Tryz.f46), (47, Tryz.f47), (48, Tryz.f48), (49, Tryz.f49), (50, Tryz.f50), (51, Tryz.f51), (52, Tryz.f52), (53, Tryz.f53), (54, Tryz.f54), (55, Tryz.f55), (56, Tryz.f56), (57, Tryz.f57), (58, Tryz.f58), (59, Tryz.f59), (60, Tryz.f60), (61, Tryz.f61), (62, Tryz.f62), (63, Tryz.f63), (66, Tryz.f66), (68, Tryz.f68), (69, Tryz.f69), (70, Tryz.f70), (71, Tryz.f71), (72, Tryz.f72), (73, Tryz.f73), (74, Tryz.f74), (75, Tryz.f75), (76, Tryz.f76), (87, Tryz.f87), (96, Tryz.f96), (97, Tryz.f97), (98, Tryz.f98), (99, Tryz.f99), (100, Tryz.f100), (101, Tryz.f101)]
theorem fns_ok : FnsOk Tryz.prog fns :=
  .cons Tryz.func3 (by kernel_rfl) (by kernel_rfl) <|
  .cons Tryz.func4 (by kernel_rfl) (by kernel_rfl) <|
  .cons Tryz.func5 (by kernel_rfl) (by kernel_rfl) <|
  .cons Tryz.func6 (by kernel_rfl) (by kernel_rfl) <|
  .cons Tryz.func7 (by kernel_rfl) (by kernel_rfl) <|
  .cons Tryz.func8 (by kernel_rfl) (by kernel_rfl) <|
  .cons Tryz.func9 (by kernel_rfl) (by kernel_rfl) <|
  .cons Tryz.func10 (by kernel_rfl) (by kernel_rfl) <|
  .cons Tryz.func11 (by kernel_rfl) (by kernel_rfl) <|
  .cons Tryz.func12 (by kernel_rfl) (by kernel_rfl) <|
  .cons Tryz.func13 (by kernel_rfl) (by kernel_rfl) <|
  .cons Tryz.func14 (by kernel_rfl) (by kernel_rfl) <|
  .cons Tryz.func15 (by kernel_rfl) (by kernel_rfl) <|
  .cons Tryz.func16 (by kernel_rfl) (by kernel_rfl) <|
  .cons Tryz.func17 (by kernel_rfl) (by kernel_rfl) <|
  .cons Tryz.func18 (by kernel_rfl) (by kernel_rfl) <|
  .cons Tryz.func19 (by kernel_rfl) (by kernel_rfl) <|
  .cons Tryz.func20 (by kernel_rfl) (by kernel_rfl) <|
  .cons Tryz.func21 (by kernel_rfl) (by kernel_rfl) <|
  .cons Tryz.func22 (by kernel_rfl) (by kernel_rfl) <|
  .cons Tryz.func23 (by kernel_rfl) (by kernel_rfl) <|
  .cons Tryz.func24 (by kernel_rfl) (by kernel_rfl) <|
  .cons Tryz.func25 (by kernel_rfl) (by kernel_rfl) <|
  .cons Tryz.func26 (by kernel_rfl) (by kernel_rfl) <|
  .cons Tryz.func27 (by kernel_rfl) (by kernel_rfl) <|
  .cons Tryz.func28 (by kernel_rfl) (by kernel_rfl) <|
  .cons Tryz.func29 (by kernel_rfl) (by kernel_rfl) <|
  .cons Tryz.func30 (by kernel_rfl) (by kernel_rfl) <|
  .cons Tryz.func31 (by kernel_rfl) (by kernel_rfl) <|
  .cons Tryz.func32 (by kernel_rfl) (by kernel_rfl) <|
  .cons Tryz.func33 (by kernel_rfl) (by kernel_rfl) <|
  .cons Tryz.func34 (by kernel_rfl) (by kernel_rfl) <|
  .cons Tryz.func35 (by kernel_rfl) (by kernel_rfl) <|
  .cons Tryz.func36 (by kernel_rfl) (by kernel_rfl) <|
  .cons Tryz.func37 (by kernel_rfl) (by kernel_rfl) <|
  .cons Tryz.func38 (by kernel_rfl) (by kernel_rfl) <|
  .cons Tryz.func39 (by kernel_rfl) (by kernel_rfl) <|
  .cons Tryz.func40 (by kernel_rfl) (by kernel_rfl) <|
  .cons Tryz.func41 (by kernel_rfl) (by kernel_rfl) <|
  .cons Tryz.func42 (by kernel_rfl) (by kernel_rfl) <|
  .cons Tryz.func43 (by kernel_rfl) (by kernel_rfl) <|
  .cons Tryz.func44 (by kernel_rfl) (by kernel_rfl) <|
  .cons Tryz.func45 (by kernel_rfl) (by kernel_rfl) <|
  .cons Tryz.func46 (by kernel_rfl) (by kernel_rfl) <|
  .cons Tryz.func47 (by kernel_rfl) (by kernel_rfl) <|
  .cons Tryz.func48 (by kernel_rfl) (by kernel_rfl) <|
  .cons Tryz.func49 (by kernel_rfl) (by kernel_rfl) <|
  .cons Tryz.func50 (by kernel_rfl) (by kernel_rfl) <|
  .cons Tryz.func51 (by kernel_rfl) (by kernel_rfl) <|
  .cons Tryz.func52 (by kernel_rfl) (by kernel_rfl) <|
  .cons Tryz.func53 (by kernel_rfl) (by kernel_rfl) <|
  .cons Tryz.func54 (by kernel_rfl) (by kernel_rfl) <|
  .cons Tryz.func55 (by kernel_rfl) (by kernel_rfl) <|
  .cons Tryz.func56 (by kernel_rfl) (by kernel_rfl) <|
  .cons Tryz.func57 (by kernel_rfl) (by kernel_rfl) <|
  .cons Tryz.func58 (by kernel_rfl) (by kernel_rfl) <|
  .cons Tryz.func59 (by kernel_rfl) (by kernel_rfl) <|
  .cons Tryz.func60 (by kernel_rfl) (by kernel_rfl) <|
  .cons Tryz.func61 (by kernel_rfl) (by kernel_rfl) <|
  .cons Tryz.func62 (by kernel_rfl) (by kernel_rfl) <|
  .cons Tryz.func63 (by kernel_rfl) (by kernel_rfl) <|
  .cons Tryz.func66 (by kernel_rfl) (by kernel_rfl) <|
  .cons Tryz.func68 (by kernel_rfl) (by kernel_rfl) <|
  .cons Tryz.func69 (by kernel_rfl) (by kernel_rfl) <|
  .cons Tryz.func70 (by kernel_rfl) (by kernel_rfl) <|
  .cons Tryz.func71 (by kernel_rfl) (by kernel_rfl) <|
  .cons Tryz.func72 (by kernel_rfl) (by kernel_rfl) <|
  .cons Tryz.func73 (by kernel_rfl) (by kernel_rfl) <|
  .cons Tryz.func74 (by kernel_rfl) (by kernel_rfl) <|
  .cons Tryz.func75 (by kernel_rfl) (by kernel_rfl) <|
  .cons Tryz.func76 (by kernel_rfl) (by kernel_rfl) <|
  .cons Tryz.func87 (by kernel_rfl) (by kernel_rfl) <|
  .cons Tryz.func96 (by kernel_rfl) (by kernel_rfl) <|
  .cons Tryz.func97 (by kernel_rfl) (by kernel_rfl) <|
  .cons Tryz.func98 (by kernel_rfl) (by kernel_rfl) <|
  .cons Tryz.func99 (by kernel_rfl) (by kernel_rfl) <|
  .cons Tryz.func100 (by kernel_rfl) (by kernel_rfl) <|
  .cons Tryz.func101 (by kernel_rfl) (by kernel_rfl) .nil
theorem mixed_ok : Tryz.prog.follows .mixedOrders = true := by kernel_rfl
theorem laidOut0 : laidOutB Tryz.prog = true := by kernel_rfl
noncomputable def keys : List (TypeId × Fl) := [(3, .int), (38, .op)]
theorem keys_ok : ∀ p ∈ keys, KeyOk Tryz.prog p.1 p.2 := fun p hp => by
  simp only [keys, List.mem_cons, List.not_mem_nil, or_false] at hp
  rcases hp with rfl | rfl
  · exact keyOk_int Tryz.underlying3
  · exact keyOk_op (b := 29) (c := 3) (s := Tryz.prog.types.size - 3) (Maps.Keyed.of_law (deep_law_laid laidOut0 (m := 5) (by omega) (of_decide_eq_true (by kernel_rfl)) (by kernel_rfl) (by kernel_rfl))) Tryz.underlying38 (by kernel_rfl) (by kernel_rfl) (by kernel_rfl) rfl rfl (by kernel_rfl) (by kernel_rfl) (by kernel_rfl) (by kernel_rfl) (by kernel_rfl) (by kernel_rfl) (by kernel_rfl) (by kernel_rfl) (by kernel_rfl) (by kernel_rfl)
noncomputable def els : List (TypeId × Fl) := [(3, .int), (4, .bool), (38, .op), (36, .mat), (30, .vec), (25, .seed)]
theorem els_ok : ∀ p ∈ els, ElOk Tryz.prog p.1 p.2 := fun p hp => by
  simp only [els, List.mem_cons, List.not_mem_nil, or_false] at hp
  rcases hp with rfl | rfl | rfl | rfl | rfl | rfl <;> exact elOk_of (by kernel_rfl) (by kernel_rfl) (by kernel_rfl)
noncomputable def env0 (l : List (FuncId × Contract)) (k u : List (FuncId × Nat × LoopSpec)) : Env := ⟨Tryz.prog, fns, l, keys, k, els, [], u⟩
theorem env0_ok {l : List (FuncId × Contract)} {k u : List (FuncId × Nat × LoopSpec)} (h : ConOk Tryz.prog l) : EnvOk (env0 l k u) := ⟨fns_ok, h, mixed_ok, keys_ok, els_ok, fun p hp => by cases hp⟩
end Go.Fx
