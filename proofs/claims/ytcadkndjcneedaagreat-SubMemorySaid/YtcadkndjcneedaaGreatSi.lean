/-
  slices.Sort at whole numbers, by the library's own contract: what it leaves is the list in order.
-/
import Derived.Test.YtcadkndjcneedaaGreatSg
import Derived.Shelf.SortG.Plain
import Derived.Shelf.SortG.SortNone
set_option linter.unusedSimpArgs false
set_option linter.unusedVariables false
set_option linter.unusedSectionVars false
namespace Go.Fx
open Go Go.Proofs Go.Shelf Go.RowKit Go.Lib Go.Sort
def icm (a b : Int) : Int := a - b
theorem toI : TO (fun _ : Int => True) icm where
  anti a b _ _ := by unfold icm; omega
  zero a b _ _ h := by unfold icm at h; omega
  trans a b d _ _ _ h1 h2 := by unfold icm at *; omega
def srtI (l : List Int) : List Int := insG icm l
theorem srtI_merge (l : List Int) : (l.mergeSort fun x y => decide (x ≤ y)) = srtI l := by
  refine ordG_unique toI (fun _ _ => trivial) ?_ (insG_ord toI fun _ _ => trivial) ((List.mergeSort_perm _ _).trans (insG_perm l).symm)
  have h := List.pairwise_mergeSort (le := fun x y : Int => decide (x ≤ y)) (fun a b c h1 h2 => by
    rw [decide_eq_true_eq] at *; omega) (fun a b => by
    rw [Bool.or_eq_true, decide_eq_true_eq, decide_eq_true_eq]; omega) l
  refine h.imp fun {a b} h => ?_
  rw [decide_eq_true_eq] at h
  unfold icm; omega
theorem sort_runI {P : Program} {ρ : Ren} (L : SlLaysN.n53 P ρ) (w : World) (l : List Int) (v : Value) (hl : LRep w .int l v (fun _ => True) true) : Calls P (ρ.f 53) #[v] w fun e w' => e = .returned (.tuple #[]) ∧ w'.os = w.os ∧ w'.tape = w.tape ∧ OutD w w' ∧ w.heap.size ≤ w'.heap.size ∧
      (∀ b, b < w.heap.size → rowBlk v ≠ some b → w'.heap[b]? = w.heap[b]?) ∧ (srtI l).length = l.length ∧ LRep w' .int (srtI l) v (fun _ => True) true := by
  obtain ⟨h1, h2, h3⟩ := hl
  have hperm : (srtI l).Perm l := insG_perm (c := icm) l
  have hlen : (srtI l).length = l.length := hperm.length_eq
  have none : ∀ a cap, v = .slice a 0 cap → l = [] → Calls P (ρ.f 53) #[v] w fun e w' => e = .returned (.tuple #[]) ∧ w'.os = w.os ∧ w'.tape = w.tape ∧ OutD w w' ∧ w.heap.size ≤ w'.heap.size ∧
      (∀ b, b < w.heap.size → rowBlk v ≠ some b → w'.heap[b]? = w.heap[b]?) ∧ (srtI l).length = l.length ∧ LRep w' .int (srtI l) v (fun _ => True) true := fun a cap hv hn => by
    rw [hv]
    refine (AnyG.slices_Sort_int_none L a cap w).mono fun e w' he => ?_
    obtain ⟨rfl, rfl⟩ := he
    refine ⟨rfl, rfl, rfl, OutD.refl _, Nat.le_refl _, fun _ _ _ => rfl, hlen, ?_⟩
    have hs : srtI l = l := by rw [hn]; rfl
    rw [hs, ← hv]
    exact ⟨h1, h2, h3⟩
  rcases h3 with ⟨a, cap, e1, e2, _⟩ | ⟨blk, off, cap, cs, ty, fz, e1, e2, e3, _, e5, e6⟩
  · exact none a cap e1 e2
  by_cases hn : l = []
  · exact none _ cap (by rw [e1, hn]; rfl) hn
  obtain ⟨rfl, rfl, e7⟩ := e6 rfl
  have e2 : l.length ≤ cap := e2
  have e7 : cs.size = cap * 1 := e7
  have e7 : cs.size = cap := by omega
  have hblk : blk < w.heap.size := (Array.getElem?_eq_some_iff.1 e3).1
  have hcell : ∀ i (x : Int), l[i]? = some x → cs[i]? = some (Value.int .i64 x) := fun i x hx => by
    have := e5 i x hx 0 (Value.int .i64 x) rfl
    rwa [show 0 + i * Fl.int.ks.length + 0 = i by show 0 + i * 1 + 0 = i; omega] at this
  have hH : Holds (Value.int .i64) w blk 0 l.toArray := fun j hj => by
    have hj' : j < l.length := by simpa using hj
    have h := hcell j l[j] (List.getElem?_eq_getElem hj')
    constructor
    · unfold World.cell?
      simp only [Nat.zero_add, e3, Option.isSome_none, Bool.false_eq_true, if_false]
      rw [h, getElem!_pos l.toArray j hj]; rfl
    · unfold World.frozen?
      simp only [e3]
      simp
  have hsz : l.length < 4611686018427387904 := by
    have hb : l.length * 8 ≤ 140737488355328 := h2
    omega
  have hcon := AnyG.slices_Sort_int L blk 0 cap l w hH hblk hsz
  rw [e1]
  refine hcon.mono fun e w' he => ?_
  obtain ⟨rfl, n, os, rfl⟩ := he
  rw [srtI_merge]
  let F : Array Int := (srtI l).toArray
  have hF : F.size = l.length := by simp [F, hlen]
  have hle : l.length ≤ cs.size := by omega
  have hh1 : (putRow (Value.int .i64) (Sort.ahead w n) blk 0 F).heap[blk]? = some (.cells (putCells (Value.int .i64) 0 F cs) ty (0, 0)) := by
    show (w.heap.modify blk (onCells (putCells (Value.int .i64) 0 F)))[blk]? = _
    rw [Array.getElem?_modify, if_pos rfl, e3]
    rfl
  have hsize : (putRow (Value.int .i64) (Sort.ahead w n) blk 0 F).heap.size = w.heap.size := by
    show (w.heap.modify blk (onCells (putCells (Value.int .i64) 0 F))).size = _
    simp
  have hheap : ∀ b, b < w.heap.size → (grow (putRow (Value.int .i64) (Sort.ahead w n) blk 0 F) os).heap[b]? = (putRow (Value.int .i64) (Sort.ahead w n) blk 0 F).heap[b]? := fun b hb => by
    show ((putRow (Value.int .i64) (Sort.ahead w n) blk 0 F).heap ++ os)[b]? = _
    rw [Array.getElem?_append_left (by rw [hsize]; exact hb)]
  refine ⟨rfl, rfl, rfl, ⟨rfl, Nat.le_add_right _ _⟩, ?_, fun b hb hne => ?_, hlen, ?_⟩
  · show w.heap.size ≤ ((putRow (Value.int .i64) (Sort.ahead w n) blk 0 F).heap ++ os).size
    rw [Array.size_append, hsize]; omega
  · rw [hheap b hb]
    show (w.heap.modify blk (onCells (putCells (Value.int .i64) 0 F)))[b]? = _
    rw [Array.getElem?_modify, if_neg]
    intro e
    apply hne
    subst e
    unfold rowBlk
    simp only
    rw [if_neg]
    intro hc
    rw [hc] at e2
    exact hn (List.eq_nil_of_length_eq_zero (by omega))
  · refine ⟨fun x hx => h1 x (hperm.mem_iff.1 hx), by show (srtI l).length * 8 ≤ _; rw [hlen]; exact h2, .inr ⟨blk, 0, cap, putCells (Value.int .i64) 0 F cs, ty, (0, 0), by show _ = Value.slice _ (srtI l).length cap; rw [hlen]; rfl, by show (srtI l).length ≤ cap; rw [hlen]; exact e2, by rw [hheap blk hblk]; exact hh1, trivial, fun i x hx => ?_, fun _ => ⟨rfl, rfl, ?_⟩⟩⟩
    · intro k u hu
      have hk : k = 0 := by
        have : k < 1 := (List.getElem?_eq_some_iff.1 hu).1
        omega
      subst hk
      have hu' : u = Value.int .i64 x := (Option.some.inj hu).symm
      subst hu'
      have hx' : (srtI l)[i]? = some x := hx
      have hi : i < (srtI l).length := (List.getElem?_eq_some_iff.1 hx').1
      have hic : i < cs.size := by omega
      show (putCells (Value.int .i64) 0 F cs)[0 + i * 1 + 0]? = _
      rw [show 0 + i * 1 + 0 = i by omega]
      unfold putCells
      rw [Array.getElem?_mapIdx, Array.getElem?_eq_getElem hic, Option.map_some, if_pos ⟨Nat.zero_le _, by omega⟩, Nat.sub_zero]
      have hFi : i < F.size := by omega
      rw [getElem!_pos F i hFi]
      have : F[i] = x := by
        have := (List.getElem?_eq_some_iff.1 hx').2
        simpa [F] using this
      rw [this]
    · show (putCells (Value.int .i64) 0 F cs).size = cap * 1
      unfold putCells
      rw [Array.size_mapIdx]; omega
theorem sort_mutI {P : Program} {ρ : Ren} (L : SlLaysN.n53 P ρ) : MutSound P (ρ.f 53) ⟨.int, none, srtI, fun _ => True⟩ := fun w l v _ hl => sort_runI L w l v hl
end Go.Fx
