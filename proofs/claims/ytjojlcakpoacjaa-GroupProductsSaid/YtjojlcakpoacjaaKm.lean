/-
  slices.SortFunc at hand.
-/
import Derived.Test.YtjojlcakpoacjaaK6
import Derived.Test.YtjojlcakpoacjaaGs
import Derived.Shelf.Lay
import Derived.Ground.SlsfProg
namespace Go.Proofs
open Go.Shelf
shelf_lay_g SlLaysF0.n6 Slsf 6 at Try 43 as Try.sortL
end Go.Proofs
namespace Go.Fx
open Go Go.Proofs Go.Shelf Go.RowKit Go.Lib Go.Sort
theorem mut_sort : MutSound Try.prog 43 ⟨.op, some 17, sortO⟩ :=
  sort_mut (ρ := Try.sortL_ren) Try.sortL Try.isAgg29 Try.sizeOf29 (enters_of Try.func17 (by kernel_rfl) rfl) s_opCompare
noncomputable def muts1 : List (FuncId × MutC) := [(43, ⟨.op, some 17, sortO⟩)]
noncomputable def env1 (l : List (FuncId × Contract)) (k : List (FuncId × Nat × LoopSpec)) : Env := ⟨Try.prog, fns, l, keys, k, els, muts1⟩
theorem env1_ok {l : List (FuncId × Contract)} {k : List (FuncId × Nat × LoopSpec)} (h : ConOk Try.prog l) : EnvOk (env1 l k) := ⟨fns_ok, h, mixed_ok, keys_ok, els_ok, fun p hp => by
  obtain rfl := List.mem_singleton.1 hp
  exact mut_sort⟩
end Go.Fx
