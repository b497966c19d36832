/-
  The functions at hand.
-/
import Derived.Test.YtcadkndjcneedaaGreatHb
import Derived.Test.YtcadkndjcneedaaGreatProg
import Derived.KernelRfl
import Derived.DeepKeys4
namespace Go.Fx
open Go Go.Proofs
set_option maxRecDepth 100000
noncomputable def fns : List (FuncId × Func) := [(3, Tryz.f3), (4, Tryz.f4), (5, Tryz.f5), (6, Tryz.f6), (7, Tryz.f7), (8, Tryz.f8), (9, Tryz.f9), (10, Tryz.f10), (11, Tryz.f11), (12, Tryz.f12), (13, Tryz.f13), (14, Tryz.f14), (15, Tryz.f15), (16, Tryz.f16), (17, Tryz.f17), (18, Tryz.f18), (19, Tryz.f19), (20, Tryz.f20), (21, Tryz.f21), (22, Tryz.f22), (23, Tryz.f23), (24, Tryz.f24), (25, Tryz.f25), (26, Tryz.f26), (27, Tryz.f27), (28, Tryz.f28), (29, Tryz.f29), (30, Tryz.f30), (31, Tryz.f31), (32, Tryz.f32), (33, Tryz.f33), (34, Tryz.f34), (35, Tryz.f35), (36, Tryz.f36), (37, Tryz.f37), (38, Tryz.f38), (39, Tryz.f39), (40, Tryz.f40), (41, Tryz.f41), (42, Tryz.f42), (43, Tryz.f43), (44, Tryz.f44), (45, Tryz.f45), (46, Tryz.f46), (47, Tryz.f47), (48, Tryz.f48), (49, Tryz.f49), (50, Tryz.f50), (51, Tryz.f51), (54, Tryz.f54), (55, Tryz.f55), (56, Tryz.f56), (57, Tryz.f57), (58, Tryz.f58), (59, Tryz.f59), (60, Tryz.f60), (61, Tryz.f61), (62, Tryz.f62), (63, Tryz.f63), (64, Tryz.f64), (65, Tryz.f65), (66, Tryz.f66), (67, Tryz.f67), (68, Tryz.f68), (69, Tryz.f69), (71, Tryz.f71), (72, Tryz.f72), (79, Tryz.f79), (84, Tryz.f84), (85, Tryz.f85), (86, Tryz.f86), (87, Tryz.f87), (88, Tryz.f88), (89, Tryz.f89), (90, Tryz.f90), (91, Tryz.f91), (92, Tryz.f92), (93, Tryz.f93), (94, Tryz.f94), (95, Tryz.f95), (96, Tryz.f96), (97, Tryz.f97), (106, Tryz.f106), (112, Tryz.f112), (113, Tryz.f113), (114, Tryz.f114), (115, Tryz.f115), (116, Tryz.f116), (117, Tryz.f117), (118, Tryz.f118), (123, Tryz.f123), (125, Tryz.f125)]
theorem fns_ok : FnsOk Tryz.prog fns :=
  .cons Tryz.func3 (by kernel_rfl) (by kernel_rfl) <|
  .cons Tryz.func4 (by kernel_rfl) (by kernel_rfl) <|
  .cons Tryz.func5 (by kernel_rfl) (by kernel_rfl) <|
  .cons Tryz.func6 (by kernel_rfl) (by kernel_rfl) <|
  .cons Tryz.func7 (by kernel_rfl) (by kernel_rfl) <|
  .cons Tryz.func8 (by kernel_rfl) (by kernel_rfl) <|
  .cons Tryz.func9 (by kernel_rfl) (by kernel_rfl) <|
  .cons Tryz.func10 (by kernel_rfl) (by kernel_rfl) <|
  .cons Tryz.func11 (by kernel_rfl) (by kernel_rfl) <|
  .cons Tryz.func12 (by kernel_rfl) (by kernel_rfl) <|
  .cons Tryz.func13 (by kernel_rfl) (by kernel_rfl) <|
  .cons Tryz.func14 (by kernel_rfl) (by kernel_rfl) <|
  .cons Tryz.func15 (by kernel_rfl) (by kernel_rfl) <|
  .cons Tryz.func16 (by kernel_rfl) (by kernel_rfl) <|
  .cons Tryz.func17 (by kernel_rfl) (by kernel_rfl) <|
  .cons Tryz.func18 (by kernel_rfl) (by kernel_rfl) <|
  .cons Tryz.func19 (by kernel_rfl) (by kernel_rfl) <|
  .cons Tryz.func20 (by kernel_rfl) (by kernel_rfl) <|
  .cons Tryz.func21 (by kernel_rfl) (by kernel_rfl) <|
  .cons Tryz.func22 (by kernel_rfl) (by kernel_rfl) <|
  .cons Tryz.func23 (by kernel_rfl) (by kernel_rfl) <|
  .cons Tryz.func24 (by kernel_rfl) (by kernel_rfl) <|
  .cons Tryz.func25 (by kernel_rfl) (by kernel_rfl) <|
  .cons Tryz.func26 (by kernel_rfl) (by kernel_rfl) <|
  .cons Tryz.func27 (by kernel_rfl) (by kernel_rfl) <|
  .cons Tryz.func28 (by kernel_rfl) (by kernel_rfl) <|
  .cons Tryz.func29 (by kernel_rfl) (by kernel_rfl) <|
  .cons Tryz.func30 (by kernel_rfl) (by kernel_rfl) <|
  .cons Tryz.func31 (by kernel_rfl) (by kernel_rfl) <|
  .cons Tryz.func32 (by kernel_rfl) (by kernel_rfl) <|
  .cons Tryz.func33 (by kernel_rfl) (by kernel_rfl) <|
  .cons Tryz.func34 (by kernel_rfl) (by kernel_rfl) <|
  .cons Tryz.func35 (by kernel_rfl) (by kernel_rfl) <|
  .cons Tryz.func36 (by kernel_rfl) (by kernel_rfl) <|
  .cons Tryz.func37 (by kernel_rfl) (by kernel_rfl) <|
  .cons Tryz.func38 (by kernel_rfl) (by kernel_rfl) <|
  .cons Tryz.func39 (by kernel_rfl) (by kernel_rfl) <|
  .cons Tryz.func40 (by kernel_rfl) (by kernel_rfl) <|
  .cons Tryz.func41 (by kernel_rfl) (by kernel_rfl) <|
  .cons Tryz.func42 (by kernel_rfl) (by kernel_rfl) <|
  .cons Tryz.func43 (by kernel_rfl) (by kernel_rfl) <|
  .cons Tryz.func44 (by kernel_rfl) (by kernel_rfl) <|
  .cons Tryz.func45 (by kernel_rfl) (by kernel_rfl) <|
  .cons Tryz.func46 (by kernel_rfl) (by kernel_rfl) <|
  .cons Tryz.func47 (by kernel_rfl) (by kernel_rfl) <|
  .cons Tryz.func48 (by kernel_rfl) (by kernel_rfl) <|
  .cons Tryz.func49 (by kernel_rfl) (by kernel_rfl) <|
  .cons Tryz.func50 (by kernel_rfl) (by kernel_rfl) <|
  .cons Tryz.func51 (by kernel_rfl) (by kernel_rfl) <|
  .cons Tryz.func54 (by kernel_rfl) (by kernel_rfl) <|
  .cons Tryz.func55 (by kernel_rfl) (by kernel_rfl) <|
  .cons Tryz.func56 (by kernel_rfl) (by kernel_rfl) <|
  .cons Tryz.func57 (by kernel_rfl) (by kernel_rfl) <|
  .cons Tryz.func58 (by kernel_rfl) (by kernel_rfl) <|
  .cons Tryz.func59 (by kernel_rfl) (by kernel_rfl) <|
  .cons Tryz.func60 (by kernel_rfl) (by kernel_rfl) <|
  .cons Tryz.func61 (by kernel_rfl) (by kernel_rfl) <|
  .cons Tryz.func62 (by kernel_rfl) (by kernel_rfl) <|
  .cons Tryz.func63 (by kernel_rfl) (by kernel_rfl) <|
  .cons Tryz.func64 (by kernel_rfl) (by kernel_rfl) <|
  .cons Tryz.func65 (by kernel_rfl) (by kernel_rfl) <|
  .cons Tryz.func66 (by kernel_rfl) (by kernel_rfl) <|
  .cons Tryz.func67 (by kernel_rfl) (by kernel_rfl) <|
  .cons Tryz.func68 (by kernel_rfl) (by kernel_rfl) <|
  .cons Tryz.func69 (by kernel_rfl) (by kernel_rfl) <|
  .cons Tryz.func71 (by kernel_rfl) (by kernel_rfl) <|
  .cons Tryz.func72 (by kernel_rfl) (by kernel_rfl) <|
  .cons Tryz.func79 (by kernel_rfl) (by kernel_rfl) <|
  .cons Tryz.func84 (by kernel_rfl) (by kernel_rfl) <|
  .cons Tryz.func85 (by kernel_rfl) (by kernel_rfl) <|
  .cons Tryz.func86 (by kernel_rfl) (by kernel_rfl) <|
  .cons Tryz.func87 (by kernel_rfl) (by kernel_rfl) <|
  .cons Tryz.func88 (by kernel_rfl) (by kernel_rfl) <|
  .cons Tryz.func89 (by kernel_rfl) (by kernel_rfl) <|
  .cons Tryz.func90 (by kernel_rfl) (by kernel_rfl) <|
  .cons Tryz.func91 (by kernel_rfl) (by kernel_rfl) <|
  .cons Tryz.func92 (by kernel_rfl) (by kernel_rfl) <|
  .cons Tryz.func93 (by kernel_rfl) (by kernel_rfl) <|
  .cons Tryz.func94 (by kernel_rfl) (by kernel_rfl) <|
  .cons Tryz.func95 (by kernel_rfl) (by kernel_rfl) <|
  .cons Tryz.func96 (by kernel_rfl) (by kernel_rfl) <|
  .cons Tryz.func97 (by kernel_rfl) (by kernel_rfl) <|
  .cons Tryz.func106 (by kernel_rfl) (by kernel_rfl) <|
  .cons Tryz.func112 (by kernel_rfl) (by kernel_rfl) <|
  .cons Tryz.func113 (by kernel_rfl) (by kernel_rfl) <|
  .cons Tryz.func114 (by kernel_rfl) (by kernel_rfl) <|
  .cons Tryz.func115 (by kernel_rfl) (by kernel_rfl) <|
  .cons Tryz.func116 (by kernel_rfl) (by kernel_rfl) <|
  .cons Tryz.func117 (by kernel_rfl) (by kernel_rfl) <|
  .cons Tryz.func118 (by kernel_rfl) (by kernel_rfl) <|
  .cons Tryz.func123 (by kernel_rfl) (by kernel_rfl) <|
  .cons Tryz.func125 (by kernel_rfl) (by kernel_rfl) .nil
theorem mixed_ok : Tryz.prog.follows .mixedOrders = true := by kernel_rfl
theorem laidOut0 : laidOutB Tryz.prog = true := by kernel_rfl
noncomputable def keys : List (TypeId × Fl) := [(3, .int), (44, .op)]
theorem keys_ok : ∀ p ∈ keys, KeyOk Tryz.prog p.1 p.2 := fun p hp => by
  simp only [keys, List.mem_cons, List.not_mem_nil, or_false] at hp
  rcases hp with rfl | rfl
  · exact keyOk_int Tryz.underlying3
  · exact keyOk_op (b := 39) (c := 3) (s := Tryz.prog.types.size - 3) (Maps.Keyed.of_law (deep_law_laid laidOut0 (m := 5) (by omega) (of_decide_eq_true (by kernel_rfl)) (by kernel_rfl) (by kernel_rfl))) Tryz.underlying44 (by kernel_rfl) (by kernel_rfl) (by kernel_rfl) rfl rfl (by kernel_rfl) (by kernel_rfl) (by kernel_rfl) (by kernel_rfl) (by kernel_rfl) (by kernel_rfl) (by kernel_rfl) (by kernel_rfl) (by kernel_rfl) (by kernel_rfl)
noncomputable def els : List (TypeId × Fl) := [(3, .int), (4, .bool), (44, .op), (42, .mat), (40, .vec)]
theorem els_ok : ∀ p ∈ els, ElOk Tryz.prog p.1 p.2 := fun p hp => by
  simp only [els, List.mem_cons, List.not_mem_nil, or_false] at hp
  rcases hp with rfl | rfl | rfl | rfl | rfl <;> exact elOk_of (by kernel_rfl) (by kernel_rfl) (by kernel_rfl)
noncomputable def env0 (l : List (FuncId × Contract)) (k u : List (FuncId × Nat × LoopSpec)) : Env := ⟨Tryz.prog, fns, l, keys, k, els, [], u⟩
theorem env0_ok {l : List (FuncId × Contract)} {k u : List (FuncId × Nat × LoopSpec)} (h : ConOk Tryz.prog l) : EnvOk (env0 l k u) := ⟨fns_ok, h, mixed_ok, keys_ok, els_ok, fun p hp => by cases hp⟩
end Go.Fx
