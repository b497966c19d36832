/-
  slices.SortFunc at hand.
-/
import Derived.Test.YtcadkndjcneedaaGreatK2
import Derived.Test.YtcadkndjcneedaaGreatSx
import Derived.Shelf.Lay
import Derived.Ground.SlsfProg
import Derived.Ground.SlgnProg
import Derived.Test.YtcadkndjcneedaaGreatSi
namespace Go.Proofs
open Go.Shelf
shelf_lay_g SlLaysF0.n6 Slsf 6 at Tryz 49 as Tryz.sortLO
shelf_lay_g SlLaysN.n53 Slgn 53 at Tryz 29 as Tryz.sortLI
end Go.Proofs
namespace Go.Fx
open Go Go.Proofs Go.Shelf Go.RowKit Go.Lib Go.Sort
theorem mut_sortO : MutSound Tryz.prog 49 ⟨.op, some 50, sortO, fun _ => True⟩ :=
  sort_mutO (ρ := Tryz.sortLO_ren) Tryz.sortLO Tryz.isAgg44 Tryz.sizeOf44 (enters_of Tryz.func50 (by kernel_rfl) rfl) s_opCompare
theorem mut_sortI : MutSound Tryz.prog 29 ⟨.int, none, srtI, fun _ => True⟩ :=
  sort_mutI (ρ := Tryz.sortLI_ren) Tryz.sortLI
noncomputable def muts1 : List (FuncId × MutC) := [(49, ⟨.op, some 50, sortO, fun _ => True⟩), (29, ⟨.int, none, srtI, fun _ => True⟩)]
noncomputable def env1 (l : List (FuncId × Contract)) (k u : List (FuncId × Nat × LoopSpec)) : Env := ⟨Tryz.prog, fns, l, keys, k, els, muts1, u⟩
theorem env1_ok {l : List (FuncId × Contract)} {k u : List (FuncId × Nat × LoopSpec)} (h : ConOk Tryz.prog l) : EnvOk (env1 l k u) := ⟨fns_ok, h, mixed_ok, keys_ok, els_ok, fun p hp => by
  have hp : p ∈ muts1 := hp
  simp only [muts1, List.mem_cons, List.not_mem_nil, or_false] at hp
  rcases hp with rfl | rfl
  · exact mut_sortO
  · exact mut_sortI⟩
end Go.Fx
