/-
  slices.SortFunc at hand.
-/
import Derived.Test.YthoicknhjjlnjaaK2
import Derived.Test.YthoicknhjjlnjaaSx
import Derived.Shelf.Lay
import Derived.Ground.SlsfProg
namespace Go.Proofs
open Go.Shelf
shelf_lay_g SlLaysF0.n6 Slsf 6 at Try 23 as Try.sortLV
end Go.Proofs
namespace Go.Fx
open Go Go.Proofs Go.Shelf Go.RowKit Go.Lib Go.Sort
theorem mut_sortV : MutSound Try.prog 23 ⟨.vec, some 24, srtV, fun _ => True⟩ :=
  sort_mutV (ρ := Try.sortLV_ren) Try.sortLV Try.isAgg24 Try.sizeOf24 (enters_of Try.func24 (by kernel_rfl) rfl) s_hCompare
noncomputable def muts1 : List (FuncId × MutC) := [(23, ⟨.vec, some 24, srtV, fun _ => True⟩)]
noncomputable def env1 (l : List (FuncId × Contract)) (k u : List (FuncId × Nat × LoopSpec)) : Env := ⟨Try.prog, fns, l, keys, k, els, muts1, u⟩
theorem env1_ok {l : List (FuncId × Contract)} {k u : List (FuncId × Nat × LoopSpec)} (h : ConOk Try.prog l) : EnvOk (env1 l k u) := ⟨fns_ok, h, mixed_ok, keys_ok, els_ok, fun p hp => by
  have hp : p ∈ muts1 := hp
  simp only [muts1, List.mem_cons, List.not_mem_nil, or_false] at hp
  subst hp; exact mut_sortV⟩
end Go.Fx
