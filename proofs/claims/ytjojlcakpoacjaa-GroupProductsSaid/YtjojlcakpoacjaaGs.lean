/-
  slices.SortFunc at maps, by the library's own contract: what it leaves is the list in order.
-/
import Derived.Test.YtjojlcakpoacjaaGc
import Derived.Test.YtjojlcakpoacjaaE19
import Derived.Shelf.SlSortCmp.NoneTotal
set_option linter.unusedSimpArgs false
set_option linter.unusedVariables false
set_option linter.unusedSectionVars false
namespace Go.Fx
open Go Go.Proofs Go.Shelf Go.RowKit Go.Lib Go.Sort

/-- Maps whose numbers fit. -/
abbrev OkO : Type := { x : Op3 // Fl.op.okv x }
instance : Inhabited OkO := ⟨⟨Fl.op.dflt, dflt_okv .op⟩⟩
def encO (x : OkO) : List Value := Fl.op.vals x.1
def cfO (x y : OkO) : Int := cmpO x.1 y.1
theorem encO_len (x : OkO) : (encO x).length = 12 := vals_len .op x.1
theorem encO_one (x : OkO) : ∀ v ∈ encO x, v.oneCell' = true := fun v hv => by
  obtain ⟨⟨⟨a1, a2, a3, a4, a5, a6, a7, a8, a9⟩, ⟨b1, b2, b3⟩⟩, hx⟩ := x
  have hv : v ∈ [Value.int .i64 a1, .int .i64 a2, .int .i64 a3, .int .i64 a4, .int .i64 a5, .int .i64 a6, .int .i64 a7, .int .i64 a8, .int .i64 a9, .int .i64 b1, .int .i64 b2, .int .i64 b3] := hv
  simp only [List.mem_cons, List.not_mem_nil, or_false] at hv
  rcases hv with rfl | rfl | rfl | rfl | rfl | rfl | rfl | rfl | rfl | rfl | rfl | rfl <;> rfl
theorem ltO (x y : OkO) : ltOf cfO x y = decide (cmpO x.1 y.1 < 0) := rfl
theorem swoO : SWO (ltOf cfO) where
  irrefl x := by rw [ltO, decide_eq_false_iff_not, cmpO_zero.2 rfl]; decide
  trans x y z h1 h2 := by
    rw [ltO, decide_eq_true_eq] at *
    exact (cmpO_trans _ _ _).2.1 h1 (by omega)
  ntrans x y z h1 h2 := by
    rw [ltO, decide_eq_false_iff_not] at *
    have a1 := cmpO_anti x.1 y.1
    have a2 := cmpO_anti y.1 z.1
    have a3 := cmpO_anti x.1 z.1
    have := (cmpO_trans z.1 y.1 x.1).1 (by omega) (by omega)
    omega
theorem totO (x y : OkO) (h1 : ltOf cfO x y = false) (h2 : ltOf cfO y x = false) : x = y := by
  rw [ltO, decide_eq_false_iff_not] at h1 h2
  have a1 := cmpO_anti x.1 y.1
  exact Subtype.ext (cmpO_zero.1 (by omega))
theorem grown_world {W w' : World} (h : Below W.heap.size W w') : ∃ q os', w' = grow (W.drewN q) os' := by
  refine ⟨w'.drawn - W.drawn, w'.heap.extract W.heap.size w'.heap.size, ?_⟩
  have hh : w'.heap = W.heap ++ w'.heap.extract W.heap.size w'.heap.size := by
    apply Array.ext_getElem?
    intro k
    rw [Array.getElem?_append]
    have hs := h.size
    split
    · rename_i hk; exact h.block k hk
    · rename_i hk
      rw [Array.getElem?_extract]
      split
      · congr 1; omega
      · exact Array.getElem?_eq_none (by omega)
  have hd := h.drawn
  obtain ⟨heap, tape, drawn, os, out⟩ := w'
  simp only [grow, World.drewN, World.mk.injEq]
  exact ⟨hh, h.tape, by simp only at hd ⊢; omega, h.os, h.output⟩
def cmpC : Contract := { args := [.agg .op, .agg .op], res := [.int .i64], pre := fun _ => True, F := fun x => ((cmpO x.1 x.2.1 : Int), ()) }
theorem cmp_lays {P : Program} {g : Nat} (hC : Sound P g cmpC) (blk off size : Nat) (w : World) : CmpLays P g #[] encO 12 cfO blk off size w := fun m os dk _ x y => by
  have := hC (x.1, (y.1, ())) (sortWorldK encO 12 w blk off m dk os) [.agg (encO x).toArray, .agg (encO y).toArray] ⟨⟨rfl, x.2⟩, ⟨rfl, y.2⟩, trivial⟩ trivial
  rw [show (#[Value.agg (encO x).toArray, Value.agg (encO y).toArray] ++ #[] : Array Value) = [Value.agg (encO x).toArray, Value.agg (encO y).toArray].toArray by simp]
  refine this.mono fun e w' he => ?_
  obtain ⟨vs, own, rfl, hb, hr⟩ := he
  match vs, hr with
  | [v], hr =>
    have h1 : intIn .i64 (cmpO x.1 y.1) v := hr.1
    refine ⟨?_, grown_world hb⟩
    show Ending.returned v = _
    rw [h1.1]; rfl
  | [], hr => exact hr.elim
  | _ :: _ :: _, hr => exact hr.2.elim
theorem flat_at (d : Array OkO) (i c : Nat) (hi : i < d.size) (hc : c < 12) : (flatK encO 12 d)[i * 12 + c]? = (encO d[i])[c]? := by
  have hlt : i * 12 + c < d.size * 12 := by omega
  have e1 : (i * 12 + c) / 12 = i := by omega
  have e2 : (i * 12 + c) % 12 = c := by omega
  have hs : i * 12 + c < (flatK encO 12 d).size := by rw [size_flatK]; exact hlt
  rw [Array.getElem?_eq_getElem hs, ← getElem!_pos (flatK encO 12 d) (i * 12 + c) hs, get_flatK _ _ _ _ hlt, e1, e2, getElem!_pos d i hi]
  have hc' : c < (encO d[i]).length := by rw [encO_len]; exact hc
  rw [List.getElem?_eq_getElem hc', getElem!_pos (encO d[i]) c hc']
theorem sort_run {P : Program} {ρ : Ren} (L : SlLaysF0.n6 P ρ) (aE : ∀ w, (isAgg (ρ.t 24)).run P w = .ok true w) (zE : ∀ w, (Go.sizeOf (ρ.t 24)).run P w = .ok 12 w) {g : Nat} (eg : ∀ args w, (callFunc g args).run P w = .ok (.enter g args) w) (hC : Sound P g cmpC) :
    ∀ (w : World) (l : List Op3) (v : Value), LRep w Fl.op l v (fun _ => True) true → Calls P (ρ.f 6) #[v, .func (.func g) #[] #[]] w fun e w' => e = .returned (.tuple #[]) ∧ w'.os = w.os ∧ w'.tape = w.tape ∧ OutD w w' ∧ w.heap.size ≤ w'.heap.size ∧
      (∀ b, b < w.heap.size → rowBlk v ≠ some b → w'.heap[b]? = w.heap[b]?) ∧ (sortO l).length = l.length ∧ LRep w' Fl.op (sortO l) v (fun _ => True) true := by
  intro w l v hl
  obtain ⟨h1, h2, h3⟩ := hl
  have h1 : ∀ x : Op3, x ∈ l → Fl.op.okv x := h1
  have h2 : l.length * 96 ≤ 140737488355328 := h2
  have hperm := insO_perm l
  have hlen : (sortO l).length = l.length := hperm.length_eq
  have none : ∀ a cap, v = .slice a 0 cap → l = [] → Calls P (ρ.f 6) #[v, .func (.func g) #[] #[]] w fun e w' => e = .returned (.tuple #[]) ∧ w'.os = w.os ∧ w'.tape = w.tape ∧ OutD w w' ∧ w.heap.size ≤ w'.heap.size ∧
      (∀ b, b < w.heap.size → rowBlk v ≠ some b → w'.heap[b]? = w.heap[b]?) ∧ (sortO l).length = l.length ∧ LRep w' .op (sortO l) v (fun _ => True) true := fun a cap hv hn => by
    rw [hv]
    refine (AnyF.slices_SortFunc_none L a cap (.func (.func g) #[] #[]) w).mono fun e w' he => ?_
    obtain ⟨rfl, rfl⟩ := he
    refine ⟨rfl, rfl, rfl, OutD.refl _, Nat.le_refl _, fun _ _ _ => rfl, hlen, ?_⟩
    have hs : sortO l = l := by rw [hn]; rfl
    rw [hs, ← hv]
    exact ⟨h1, h2, h3⟩
  rcases h3 with ⟨a, cap, e1, e2, _⟩ | ⟨blk, off, cap, cs, ty, fz, e1, e2, e3, _, e5, e6⟩
  · exact none a cap e1 e2
  by_cases hn : l = []
  · exact none _ cap (by rw [e1, hn]; rfl) hn
  obtain ⟨rfl, rfl, e7⟩ := e6 rfl
  have e7 : cs.size = cap * 12 := e7
  have hblk : blk < w.heap.size := (Array.getElem?_eq_some_iff.1 e3).1
  let dl : List OkO := l.attachWith (fun x => Fl.op.okv x) h1
  have hdl : dl.map (·.1) = l := List.attachWith_map_subtype_val h1
  have hdlen : dl.length = l.length := by have := congrArg List.length hdl; rw [List.length_map] at this; exact this
  let d : Array OkO := dl.toArray
  have hds : d.size = l.length := by simp [d, hdlen]
  have hcell : ∀ (d' : Array OkO) (cs' : Array Value), (∀ t, t < d'.size * 12 → cs'[t]? = (flatK encO 12 d')[t]?) → ∀ i x, d'.toList[i]? = some x → CellsAt cs' (0 + i * 12) (Fl.op.vals x.1) := fun d' cs' hc i x hx k u hu => by
    have hi : i < d'.size := by simpa using (List.getElem?_eq_some_iff.1 hx).1
    have hk : k < 12 := by have := (List.getElem?_eq_some_iff.1 hu).1; rwa [show (Fl.op.vals x.1).length = 12 from vals_len .op x.1] at this
    have hxi : d'[i] = x := by simpa [hi] using hx
    rw [Nat.zero_add, hc _ (by omega), flat_at d' i k hi hk, hxi]
    exact hu
  have hflat : ∀ t, t < d.size * 12 → cs[t]? = (flatK encO 12 d)[t]? := fun t ht => by
    have hi : t / 12 < d.size := by omega
    have hk : t % 12 < 12 := Nat.mod_lt _ (by decide)
    have et : t = t / 12 * 12 + t % 12 := by omega
    have hil : t / 12 < l.length := by omega
    have hx : l[t / 12]? = some (d[t / 12]).1 := by
      rw [← hdl, List.getElem?_map]
      have : t / 12 < dl.length := by omega
      simp [d, this]
    have hlt : t % 12 < (encO d[t / 12]).length := by rw [encO_len]; exact hk
    have := e5 _ _ hx (t % 12) _ (List.getElem?_eq_getElem hlt)
    rw [Nat.zero_add] at this
    rw [et, flat_at d _ _ hi hk, List.getElem?_eq_getElem hlt]
    exact this
  have hH : HoldsK encO 12 w blk 0 d := fun t ht => by
    rw [size_flatK] at ht
    have h := hflat t ht
    have hs : t < (flatK encO 12 d).size := by rw [size_flatK]; exact ht
    rw [Array.getElem?_eq_getElem hs] at h
    constructor
    · unfold World.cell?
      simp only [Nat.zero_add, e3, Option.isSome_none, Bool.false_eq_true, if_false]
      rw [h, getElem!_pos (flatK encO 12 d) t hs]; rfl
    · unfold World.frozen?
      simp only [e3]
      simp
  have hsz : d.size < 4611686018427387904 := by
    have hb : l.length * 96 ≤ 140737488355328 := h2
    omega
  have hcon := AnyQ.slices_SortFunc_total L 12 aE zE encO encO_len encO_one cfO swoO g #[] blk 0 cap d w eg (cmp_lays hC blk 0 d.size w) hH hblk hsz totO
  rw [hds] at hcon
  rw [e1]
  refine hcon.mono fun e w' he => ?_
  obtain ⟨rfl, n, os, rfl⟩ := he
  -- what it leaves
  let rl : List OkO := d.toList.mergeSort fun x y => !(ltOf cfO) y x
  have hrperm : rl.Perm dl := List.mergeSort_perm _ _
  have hrl : rl.map (·.1) = sortO l := by
    refine ord_unique ?_ (insO_ord l) ((hrperm.map _).trans (by rw [hdl]; exact hperm.symm))
    have hp : rl.Pairwise fun a b => (!(ltOf cfO) b a) = true := List.pairwise_mergeSort (fun a b c h1 h2 => by
      rw [ltO, Bool.not_eq_true', decide_eq_false_iff_not] at *
      have a1 := cmpO_anti a.1 b.1
      have a2 := cmpO_anti b.1 c.1
      have a3 := cmpO_anti a.1 c.1
      have := (cmpO_trans a.1 b.1 c.1).1 (by omega) (by omega)
      omega) (fun a b => by
      rw [ltO, ltO, Bool.or_eq_true, Bool.not_eq_true', Bool.not_eq_true', decide_eq_false_iff_not, decide_eq_false_iff_not]
      have a1 := cmpO_anti a.1 b.1
      omega) _
    unfold ordO
    rw [List.pairwise_map]
    refine hp.imp fun {a b} h => ?_
    rw [ltO, Bool.not_eq_true', decide_eq_false_iff_not] at h
    have a1 := cmpO_anti a.1 b.1
    omega
  have hrlen : rl.length = l.length := by rw [hrperm.length_eq, hdlen]
  let F := flatK encO 12 rl.toArray
  have hF : F.size = l.length * 12 := by simp [F, hrlen]
  have hle : l.length * 12 ≤ cs.size := by rw [e7]; exact Nat.mul_le_mul_right _ e2
  have hh1 : (putRowK encO 12 (Sort.ahead w n) blk 0 rl.toArray).heap[blk]? = some (.cells (putCells id 0 F cs) ty (0, 0)) := by
    show (w.heap.modify blk (onCells (putCells id 0 F)))[blk]? = _
    rw [Array.getElem?_modify, if_pos rfl, e3]
    rfl
  have hsize : (putRowK encO 12 (Sort.ahead w n) blk 0 rl.toArray).heap.size = w.heap.size := by
    show (w.heap.modify blk (onCells (putCells id 0 F))).size = _
    simp
  have hheap : ∀ b, b < w.heap.size → (sortWorldK encO 12 w blk 0 n rl.toArray os).heap[b]? = (putRowK encO 12 (Sort.ahead w n) blk 0 rl.toArray).heap[b]? := fun b hb => by
    show ((putRowK encO 12 (Sort.ahead w n) blk 0 rl.toArray).heap ++ os)[b]? = _
    rw [Array.getElem?_append_left (by rw [hsize]; exact hb)]
  refine ⟨rfl, rfl, rfl, ⟨rfl, Nat.le_add_right _ _⟩, ?_, fun b hb hne => ?_, hlen, ?_⟩
  · show w.heap.size ≤ ((putRowK encO 12 (Sort.ahead w n) blk 0 rl.toArray).heap ++ os).size
    rw [Array.size_append, hsize]; omega
  · rw [hheap b hb]
    show (w.heap.modify blk (onCells (putCells id 0 F)))[b]? = _
    rw [Array.getElem?_modify, if_neg]
    intro e
    apply hne
    subst e
    unfold rowBlk
    simp only
    rw [if_neg]
    intro hc
    rw [hc] at e2
    exact hn (List.eq_nil_of_length_eq_zero (by omega))
  · refine ⟨fun x hx => h1 x (hperm.mem_iff.1 hx), by show List.length (α := Op3) (sortO l) * 96 ≤ 140737488355328; rw [hlen]; exact h2, .inr ⟨blk, 0, cap, putCells id 0 F cs, ty, (0, 0), by show Value.slice _ l.length cap = Value.slice _ (List.length (α := Op3) (sortO l)) cap; rw [hlen], by show List.length (α := Op3) (sortO l) ≤ cap; rw [hlen]; exact e2, by rw [hheap blk hblk]; exact hh1, trivial, fun i x hx => ?_, fun _ => ⟨rfl, rfl, ?_⟩⟩⟩
    · have hx' : (rl.map (·.1))[i]? = some x := by rw [hrl]; exact hx
      rw [List.getElem?_map] at hx'
      obtain ⟨y, hy, rfl⟩ := Option.map_eq_some_iff.1 hx'
      refine hcell rl.toArray _ (fun t ht => ?_) i y (by simpa using hy)
      have ht' : t < F.size := by rw [hF]; simpa [hrlen] using ht
      have htc : t < cs.size := by omega
      unfold putCells
      rw [Array.getElem?_mapIdx, Array.getElem?_eq_getElem htc, Option.map_some, if_pos ⟨Nat.zero_le _, by omega⟩, Nat.sub_zero]
      show some (F[t]!) = F[t]?
      rw [Array.getElem?_eq_getElem ht', getElem!_pos F t ht']
    · show (putCells id 0 F cs).size = cap * 12
      unfold putCells
      rw [Array.size_mapIdx]; exact e7
theorem sort_mut {P : Program} {ρ : Ren} (L : SlLaysF0.n6 P ρ) (aE : ∀ w, (isAgg (ρ.t 24)).run P w = .ok true w) (zE : ∀ w, (Go.sizeOf (ρ.t 24)).run P w = .ok 12 w) {g : Nat} (eg : ∀ args w, (callFunc g args).run P w = .ok (.enter g args) w) (hC : Sound P g cmpC) :
    MutSound P (ρ.f 6) ⟨.op, some g, sortO⟩ := fun w l v hl => sort_run L aE zE eg hC w l v hl
end Go.Fx
