/-
  slices.SortFunc at hand.
-/
import Derived.Test.YtkmbomopkojgfaaK2
import Derived.Test.YtkmbomopkojgfaaSx
import Derived.Shelf.Lay
import Derived.Ground.SlsfProg
import Derived.Ground.SlgnProg
import Derived.Test.YtkmbomopkojgfaaSi
namespace Go.Proofs
open Go.Shelf
shelf_lay_g SlLaysF0.n6 Slsf 6 at Try 47 as Try.sortLO
shelf_lay_g SlLaysN.n53 Slgn 53 at Try 35 as Try.sortLI
end Go.Proofs
namespace Go.Fx
open Go Go.Proofs Go.Shelf Go.RowKit Go.Lib Go.Sort
theorem mut_sortO : MutSound Try.prog 47 ⟨.op, some 45, sortO, fun _ => True⟩ :=
  sort_mutO (ρ := Try.sortLO_ren) Try.sortLO Try.isAgg35 Try.sizeOf35 (enters_of Try.func45 (by kernel_rfl) rfl) s_opCompare
theorem mut_sortI : MutSound Try.prog 35 ⟨.int, none, srtI, fun _ => True⟩ :=
  sort_mutI (ρ := Try.sortLI_ren) Try.sortLI
noncomputable def muts1 : List (FuncId × MutC) := [(47, ⟨.op, some 45, sortO, fun _ => True⟩), (35, ⟨.int, none, srtI, fun _ => True⟩)]
noncomputable def env1 (l : List (FuncId × Contract)) (k u : List (FuncId × Nat × LoopSpec)) : Env := ⟨Try.prog, fns, l, keys, k, els, muts1, u⟩
theorem env1_ok {l : List (FuncId × Contract)} {k u : List (FuncId × Nat × LoopSpec)} (h : ConOk Try.prog l) : EnvOk (env1 l k u) := ⟨fns_ok, h, mixed_ok, keys_ok, els_ok, fun p hp => by
  have hp : p ∈ muts1 := hp
  simp only [muts1, List.mem_cons, List.not_mem_nil, or_false] at hp
  rcases hp with rfl | rfl
  · exact mut_sortO
  · exact mut_sortI⟩
end Go.Fx
