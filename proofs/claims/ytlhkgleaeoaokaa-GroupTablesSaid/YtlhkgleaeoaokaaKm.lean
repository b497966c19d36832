/-
  slices.SortFunc at hand.
-/
import Derived.Test.YtlhkgleaeoaokaaK6
import Derived.Test.YtlhkgleaeoaokaaSx
import Derived.Shelf.Lay
import Derived.Ground.SlsfProg
namespace Go.Proofs
open Go.Shelf
shelf_lay_g SlLaysF0.n6 Slsf 6 at Try 25 as Try.sortLO
end Go.Proofs
namespace Go.Fx
open Go Go.Proofs Go.Shelf Go.RowKit Go.Lib Go.Sort
theorem mut_sortO : MutSound Try.prog 25 ⟨.op, some 26, sortO, fun _ => True⟩ :=
  sort_mutO (ρ := Try.sortLO_ren) Try.sortLO Try.isAgg45 Try.sizeOf45 (enters_of Try.func26 (by kernel_rfl) rfl) s_opCompare
noncomputable def muts1 : List (FuncId × MutC) := [(25, ⟨.op, some 26, sortO, fun _ => True⟩)]
noncomputable def env1 (l : List (FuncId × Contract)) (k u : List (FuncId × Nat × LoopSpec)) : Env := ⟨Try.prog, fns, l, keys, k, els, muts1, u⟩
theorem env1_ok {l : List (FuncId × Contract)} {k u : List (FuncId × Nat × LoopSpec)} (h : ConOk Try.prog l) : EnvOk (env1 l k u) := ⟨fns_ok, h, mixed_ok, keys_ok, els_ok, fun p hp => by
  have hp : p ∈ muts1 := hp
  simp only [muts1, List.mem_cons, List.not_mem_nil, or_false] at hp
  subst hp; exact mut_sortO⟩
end Go.Fx
