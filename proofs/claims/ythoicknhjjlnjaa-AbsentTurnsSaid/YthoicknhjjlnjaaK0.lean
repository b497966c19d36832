/-
  The functions at hand.
-/
import Derived.Test.YthoicknhjjlnjaaFc
import Derived.Test.YthoicknhjjlnjaaProg
import Derived.KernelRfl
import Derived.DeepKeys4
namespace Go.Fx
open Go Go.Proofs
set_option maxRecDepth 100000
noncomputable def fns : List (FuncId × Func) := [(3, Try.f3), (4, Try.f4), (5, Try.f5), (6, Try.f6), (7, Try.f7), (8, Try.f8), (9, Try.f9), (10, Try.f10), (11, Try.f11), (12, Try.f12), (13, Try.f13), (14, Try.f14), (15, Try.f15), (16, Try.f16), (17, Try.f17), (18, Try.f18), (19, Try.f19), (20, Try.f20), (21, Try.f21), (22, Try.f22), (23, Try.f23), (24, Try.f24), (25, Try.f25), (26, Try.f26), (27, Try.f27), (28, Try.f28), (29, Try.f29), (30, Try.f30), (31, Try.f31), (32, Try.f32), (35, Try.f35), (36, Try.f36), (37, Try.f37), (38, Try.f38), (39, Try.f39), (50, Try.f50), (51, Try.f51), (52, Try.f52), (53, Try.f53), (54, Try.f54), (55, Try.f55), (61, Try.f61), (62, Try.f62), (63, Try.f63), (64, Try.f64), (65, Try.f65), (66, Try.f66), (67, Try.f67), (69, Try.f69), (70, Try.f70)]
theorem fns_ok : FnsOk Try.prog fns :=
  .cons Try.func3 (by kernel_rfl) (by kernel_rfl) <|
  .cons Try.func4 (by kernel_rfl) (by kernel_rfl) <|
  .cons Try.func5 (by kernel_rfl) (by kernel_rfl) <|
  .cons Try.func6 (by kernel_rfl) (by kernel_rfl) <|
  .cons Try.func7 (by kernel_rfl) (by kernel_rfl) <|
  .cons Try.func8 (by kernel_rfl) (by kernel_rfl) <|
  .cons Try.func9 (by kernel_rfl) (by kernel_rfl) <|
  .cons Try.func10 (by kernel_rfl) (by kernel_rfl) <|
  .cons Try.func11 (by kernel_rfl) (by kernel_rfl) <|
  .cons Try.func12 (by kernel_rfl) (by kernel_rfl) <|
  .cons Try.func13 (by kernel_rfl) (by kernel_rfl) <|
  .cons Try.func14 (by kernel_rfl) (by kernel_rfl) <|
  .cons Try.func15 (by kernel_rfl) (by kernel_rfl) <|
  .cons Try.func16 (by kernel_rfl) (by kernel_rfl) <|
  .cons Try.func17 (by kernel_rfl) (by kernel_rfl) <|
  .cons Try.func18 (by kernel_rfl) (by kernel_rfl) <|
  .cons Try.func19 (by kernel_rfl) (by kernel_rfl) <|
  .cons Try.func20 (by kernel_rfl) (by kernel_rfl) <|
  .cons Try.func21 (by kernel_rfl) (by kernel_rfl) <|
  .cons Try.func22 (by kernel_rfl) (by kernel_rfl) <|
  .cons Try.func23 (by kernel_rfl) (by kernel_rfl) <|
  .cons Try.func24 (by kernel_rfl) (by kernel_rfl) <|
  .cons Try.func25 (by kernel_rfl) (by kernel_rfl) <|
  .cons Try.func26 (by kernel_rfl) (by kernel_rfl) <|
  .cons Try.func27 (by kernel_rfl) (by kernel_rfl) <|
  .cons Try.func28 (by kernel_rfl) (by kernel_rfl) <|
  .cons Try.func29 (by kernel_rfl) (by kernel_rfl) <|
  .cons Try.func30 (by kernel_rfl) (by kernel_rfl) <|
  .cons Try.func31 (by kernel_rfl) (by kernel_rfl) <|
  .cons Try.func32 (by kernel_rfl) (by kernel_rfl) <|
  .cons Try.func35 (by kernel_rfl) (by kernel_rfl) <|
  .cons Try.func36 (by kernel_rfl) (by kernel_rfl) <|
  .cons Try.func37 (by kernel_rfl) (by kernel_rfl) <|
  .cons Try.func38 (by kernel_rfl) (by kernel_rfl) <|
  .cons Try.func39 (by kernel_rfl) (by kernel_rfl) <|
  .cons Try.func50 (by kernel_rfl) (by kernel_rfl) <|
  .cons Try.func51 (by kernel_rfl) (by kernel_rfl) <|
  .cons Try.func52 (by kernel_rfl) (by kernel_rfl) <|
  .cons Try.func53 (by kernel_rfl) (by kernel_rfl) <|
  .cons Try.func54 (by kernel_rfl) (by kernel_rfl) <|
  .cons Try.func55 (by kernel_rfl) (by kernel_rfl) <|
  .cons Try.func61 (by kernel_rfl) (by kernel_rfl) <|
  .cons Try.func62 (by kernel_rfl) (by kernel_rfl) <|
  .cons Try.func63 (by kernel_rfl) (by kernel_rfl) <|
  .cons Try.func64 (by kernel_rfl) (by kernel_rfl) <|
  .cons Try.func65 (by kernel_rfl) (by kernel_rfl) <|
  .cons Try.func66 (by kernel_rfl) (by kernel_rfl) <|
  .cons Try.func67 (by kernel_rfl) (by kernel_rfl) <|
  .cons Try.func69 (by kernel_rfl) (by kernel_rfl) <|
  .cons Try.func70 (by kernel_rfl) (by kernel_rfl) .nil
theorem mixed_ok : Try.prog.follows .mixedOrders = true := by kernel_rfl
theorem laidOut0 : laidOutB Try.prog = true := by kernel_rfl
noncomputable def keys : List (TypeId × Fl) := [(3, .int), (40, .op)]
theorem keys_ok : ∀ p ∈ keys, KeyOk Try.prog p.1 p.2 := fun p hp => by
  simp only [keys, List.mem_cons, List.not_mem_nil, or_false] at hp
  rcases hp with rfl | rfl
  · exact keyOk_int Try.underlying3
  · exact keyOk_op (b := 23) (c := 3) (s := Try.prog.types.size - 3) (Maps.Keyed.of_law (deep_law_laid laidOut0 (m := 5) (by omega) (of_decide_eq_true (by kernel_rfl)) (by kernel_rfl) (by kernel_rfl))) Try.underlying40 (by kernel_rfl) (by kernel_rfl) (by kernel_rfl) rfl rfl (by kernel_rfl) (by kernel_rfl) (by kernel_rfl) (by kernel_rfl) (by kernel_rfl) (by kernel_rfl) (by kernel_rfl) (by kernel_rfl) (by kernel_rfl) (by kernel_rfl)
noncomputable def els : List (TypeId × Fl) := [(3, .int), (4, .bool), (40, .op), (38, .mat), (24, .vec)]
theorem els_ok : ∀ p ∈ els, ElOk Try.prog p.1 p.2 := fun p hp => by
  simp only [els, List.mem_cons, List.not_mem_nil, or_false] at hp
  rcases hp with rfl | rfl | rfl | rfl | rfl <;> exact elOk_of (by kernel_rfl) (by kernel_rfl) (by kernel_rfl)
noncomputable def env0 (l : List (FuncId × Contract)) (k u : List (FuncId × Nat × LoopSpec)) : Env := ⟨Try.prog, fns, l, keys, k, els, [], u⟩
theorem env0_ok {l : List (FuncId × Contract)} {k u : List (FuncId × Nat × LoopSpec)} (h : ConOk Try.prog l) : EnvOk (env0 l k u) := ⟨fns_ok, h, mixed_ok, keys_ok, els_ok, fun p hp => by cases hp⟩
end Go.Fx
