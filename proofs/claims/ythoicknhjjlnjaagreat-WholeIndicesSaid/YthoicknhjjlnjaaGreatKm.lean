/-
  slices.SortFunc at hand.
-/
import Derived.Test.YthoicknhjjlnjaaGreatK2
import Derived.Test.YthoicknhjjlnjaaGreatSx
import Derived.Shelf.Lay
import Derived.Ground.SlsfProg
namespace Go.Proofs
open Go.Shelf
shelf_lay_g SlLaysF0.n6 Slsf 6 at Tryz 44 as Tryz.sortLO
shelf_lay_g SlLaysF0.n6 Slsf 6 at Tryz 49 as Tryz.sortLV
end Go.Proofs
namespace Go.Fx
open Go Go.Proofs Go.Shelf Go.RowKit Go.Lib Go.Sort
theorem mut_sortO : MutSound Tryz.prog 44 ⟨.op, some 45, sortO, fun _ => True⟩ :=
  sort_mutO (ρ := Tryz.sortLO_ren) Tryz.sortLO Tryz.isAgg38 Tryz.sizeOf38 (enters_of Tryz.func45 (by kernel_rfl) rfl) s_opCompare
theorem mut_sortV : MutSound Tryz.prog 49 ⟨.vec, some 50, srtV, fun _ => True⟩ :=
  sort_mutV (ρ := Tryz.sortLV_ren) Tryz.sortLV Tryz.isAgg30 Tryz.sizeOf30 (enters_of Tryz.func50 (by kernel_rfl) rfl) s_hCompare
noncomputable def muts1 : List (FuncId × MutC) := [(44, ⟨.op, some 45, sortO, fun _ => True⟩), (49, ⟨.vec, some 50, srtV, fun _ => True⟩)]
noncomputable def env1 (l : List (FuncId × Contract)) (k u : List (FuncId × Nat × LoopSpec)) : Env := ⟨Tryz.prog, fns, l, keys, k, els, muts1, u⟩
theorem env1_ok {l : List (FuncId × Contract)} {k u : List (FuncId × Nat × LoopSpec)} (h : ConOk Tryz.prog l) : EnvOk (env1 l k u) := ⟨fns_ok, h, mixed_ok, keys_ok, els_ok, fun p hp => by
  have hp : p ∈ muts1 := hp
  simp only [muts1, List.mem_cons, List.not_mem_nil, or_false] at hp
  rcases hp with rfl | rfl
  · exact mut_sortO
  · exact mut_sortV⟩
end Go.Fx
