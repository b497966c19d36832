/-
  slices.SortFunc at structs and arrays of numbers, by the library's own contract: what it leaves is the list in order.
-/
import Derived.Test.YtcadkndjcneedaaGreatSg
import Derived.Shelf.SlSortCmp.NoneTotal
set_option linter.unusedSimpArgs false
set_option linter.unusedVariables false
set_option linter.unusedSectionVars false
namespace Go.Fx
open Go Go.Proofs Go.Shelf Go.RowKit Go.Lib Go.Sort

theorem grown_world {W w' : World} (h : Below W.heap.size W w') : ∃ q os', w' = grow (W.drewN q) os' := by
  refine ⟨w'.drawn - W.drawn, w'.heap.extract W.heap.size w'.heap.size, ?_⟩
  have hh : w'.heap = W.heap ++ w'.heap.extract W.heap.size w'.heap.size := by
    apply Array.ext_getElem?
    intro k
    rw [Array.getElem?_append]
    have hs := h.size
    split
    · rename_i hk; exact h.block k hk
    · rename_i hk
      rw [Array.getElem?_extract]
      split
      · congr 1; omega
      · exact Array.getElem?_eq_none (by omega)
  have hd := h.drawn
  obtain ⟨heap, tape, drawn, os, out⟩ := w'
  simp only [grow, World.drewN, World.mk.injEq]
  exact ⟨hh, h.tape, by simp only at hd ⊢; omega, h.os, h.output⟩
theorem valsF_one (f : Fl) (x : f.ty) : ∀ v ∈ f.vals x, v.oneCell' = true := by
  intro v hv
  obtain ⟨c, hc, rfl⟩ := List.mem_map.1 hv
  have : ∀ (ks : List CK) (cs : List Cell), ∀ c ∈ cksc ks cs, c.lit.oneCell' = true ∨ c = .undef := by
    intro ks
    induction ks with
    | nil => intro cs c hc; cases hc
    | cons k ks ih =>
      intro cs c hc
      cases cs with
      | nil => cases hc
      | cons d cs =>
        rcases List.mem_cons.1 hc with rfl | hc
        · cases k <;> cases d <;> first | exact .inl rfl | exact .inr rfl
        · exact ih cs c hc
  have hu : ∀ c ∈ f.sw x, c ≠ .undef := by
    cases f <;> (intro c hc e; subst e; simp [Fl.sw, Fl.ks, Fl.enc, cksc, CK.sc, ckI, ckS, ckU] at hc)
  rcases this _ _ c hc with h | h
  · exact h
  · exact absurd h (hu c hc)
section
variable (f : Fl) (P : f.ty → Prop) (cf : f.ty → f.ty → Int)
/-- Those whose numbers fit, and that are P. -/
abbrev OkF : Type := { x : f.ty // f.okv x ∧ P x }
def encF (x : OkF f P) : List Value := f.vals x.1
def cfF (x y : OkF f P) : Int := cf x.1 y.1
def cmpCF : Contract := { args := [.agg f, .agg f], res := [.int .i64], pre := fun _ => True, F := fun x => ((cf x.1 x.2.1 : Int), ()) }
end
section
variable {f : Fl} {Pf : f.ty → Prop} {cf : f.ty → f.ty → Int}
theorem encF_len (x : OkF f Pf) : (encF f Pf x).length = f.ks.length := vals_len f x.1
theorem encF_one (x : OkF f Pf) : ∀ v ∈ encF f Pf x, v.oneCell' = true := valsF_one f x.1
theorem ltF (x y : OkF f Pf) : ltOf (cfF f Pf cf) x y = decide (cf x.1 y.1 < 0) := rfl
theorem swoF (hT : TO Pf cf) : SWO (ltOf (cfF f Pf cf)) where
  irrefl x := by rw [ltF, decide_eq_false_iff_not, hT.self x.2.2]; decide
  trans x y z h1 h2 := by
    rw [ltF, decide_eq_true_eq] at *
    exact hT.ltt x.2.2 y.2.2 z.2.2 h1 (by omega)
  ntrans x y z h1 h2 := by
    rw [ltF, decide_eq_false_iff_not] at *
    have a1 := hT.anti x.1 y.1 x.2.2 y.2.2
    have a2 := hT.anti y.1 z.1 y.2.2 z.2.2
    have a3 := hT.anti x.1 z.1 x.2.2 z.2.2
    have b1 := hT.anti y.1 x.1 y.2.2 x.2.2
    have b2 := hT.anti z.1 y.1 z.2.2 y.2.2
    have := hT.trans z.1 y.1 x.1 z.2.2 y.2.2 x.2.2 (by omega) (by omega)
    omega
theorem totF (hT : TO Pf cf) (x y : OkF f Pf) (h1 : ltOf (cfF f Pf cf) x y = false) (h2 : ltOf (cfF f Pf cf) y x = false) : x = y := by
  rw [ltF, decide_eq_false_iff_not] at h1 h2
  have a1 := hT.anti x.1 y.1 x.2.2 y.2.2
  have a2 := hT.anti y.1 x.1 y.2.2 x.2.2
  exact Subtype.ext (hT.zero _ _ x.2.2 y.2.2 (by omega))
theorem cmp_laysF [Inhabited (OkF f Pf)] {P : Program} {g : Nat} (hC : Sound P g (cmpCF f cf)) (blk off size : Nat) (w : World) : CmpLays P g #[] (encF f Pf) f.ks.length (cfF f Pf cf) blk off size w := fun m os dk _ x y => by
  have := hC (x.1, (y.1, ())) (sortWorldK (encF f Pf) f.ks.length w blk off m dk os) [.agg (encF f Pf x).toArray, .agg (encF f Pf y).toArray] ⟨⟨rfl, x.2.1⟩, ⟨rfl, y.2.1⟩, trivial⟩ trivial
  rw [show (#[Value.agg (encF f Pf x).toArray, Value.agg (encF f Pf y).toArray] ++ #[] : Array Value) = [Value.agg (encF f Pf x).toArray, Value.agg (encF f Pf y).toArray].toArray by simp]
  refine this.mono fun e w' he => ?_
  obtain ⟨vs, own, rfl, hb, hr⟩ := he
  match vs, hr with
  | [v], hr =>
    have h1 : intIn .i64 (cf x.1 y.1) v := hr.1
    refine ⟨?_, grown_world hb⟩
    show Ending.returned v = _
    rw [h1.1]; rfl
  | [], hr => exact hr.elim
  | _ :: _ :: _, hr => exact hr.2.elim
theorem nd_lt {i c n s : Nat} (hc : c < n) (hi : i < s) : i * n + c < s * n :=
  Nat.lt_of_lt_of_le (Nat.add_lt_add_left hc _) (by rw [← Nat.succ_mul]; exact Nat.mul_le_mul_right _ hi)
theorem nd_div {i c n : Nat} (hc : c < n) : (i * n + c) / n = i := by
  rw [Nat.add_comm, Nat.add_mul_div_right _ _ (by omega), Nat.div_eq_of_lt hc, Nat.zero_add]
theorem nd_mod {i c n : Nat} (hc : c < n) : (i * n + c) % n = c := by
  rw [Nat.add_comm, Nat.add_mul_mod_self_right, Nat.mod_eq_of_lt hc]
theorem flat_atF [Inhabited (OkF f Pf)] (d : Array (OkF f Pf)) (i c : Nat) (hi : i < d.size) (hc : c < f.ks.length) : (flatK (encF f Pf) f.ks.length d)[i * f.ks.length + c]? = (encF f Pf d[i])[c]? := by
  have hlt : i * f.ks.length + c < d.size * f.ks.length := nd_lt hc hi
  have hs : i * f.ks.length + c < (flatK (encF f Pf) f.ks.length d).size := by rw [size_flatK]; exact hlt
  rw [Array.getElem?_eq_getElem hs, ← getElem!_pos (flatK (encF f Pf) f.ks.length d) (i * f.ks.length + c) hs, get_flatK _ _ _ _ hlt, nd_div hc, nd_mod hc, getElem!_pos d i hi]
  have hc' : c < (encF f Pf d[i]).length := by rw [encF_len]; exact hc
  rw [List.getElem?_eq_getElem hc', getElem!_pos (encF f Pf d[i]) c hc']
theorem sort_runF (hT : TO Pf cf) {P : Program} {ρ : Ren} (L : SlLaysF0.n6 P ρ) (aE : ∀ w, (isAgg (ρ.t 24)).run P w = .ok true w) (zE : ∀ w, (Go.sizeOf (ρ.t 24)).run P w = .ok f.ks.length w) {g : Nat} (eg : ∀ args w, (callFunc g args).run P w = .ok (.enter g args) w) (hC : Sound P g (cmpCF f cf)) :
    ∀ (w : World) (l : List f.ty) (v : Value), (∀ x ∈ l, Pf x) → LRep w f l v (fun _ => True) true → Calls P (ρ.f 6) #[v, .func (.func g) #[] #[]] w fun e w' => e = .returned (.tuple #[]) ∧ w'.os = w.os ∧ w'.tape = w.tape ∧ OutD w w' ∧ w.heap.size ≤ w'.heap.size ∧
      (∀ b, b < w.heap.size → rowBlk v ≠ some b → w'.heap[b]? = w.heap[b]?) ∧ (insG cf l).length = l.length ∧ LRep w' f (insG cf l) v (fun _ => True) true := by
  intro w l v hPl hl
  obtain ⟨h1, h2, h3⟩ := hl
  have hperm := insG_perm (c := cf) l
  have hlen : (insG cf l).length = l.length := hperm.length_eq
  have none : ∀ a cap, v = .slice a 0 cap → l = [] → Calls P (ρ.f 6) #[v, .func (.func g) #[] #[]] w fun e w' => e = .returned (.tuple #[]) ∧ w'.os = w.os ∧ w'.tape = w.tape ∧ OutD w w' ∧ w.heap.size ≤ w'.heap.size ∧
      (∀ b, b < w.heap.size → rowBlk v ≠ some b → w'.heap[b]? = w.heap[b]?) ∧ (insG cf l).length = l.length ∧ LRep w' f (insG cf l) v (fun _ => True) true := fun a cap hv hn => by
    rw [hv]
    refine (AnyF.slices_SortFunc_none L a cap (.func (.func g) #[] #[]) w).mono fun e w' he => ?_
    obtain ⟨rfl, rfl⟩ := he
    refine ⟨rfl, rfl, rfl, OutD.refl _, Nat.le_refl _, fun _ _ _ => rfl, hlen, ?_⟩
    have hs : insG cf l = l := by rw [hn]; rfl
    rw [hs, ← hv]
    exact ⟨h1, h2, h3⟩
  rcases h3 with ⟨a, cap, e1, e2, _⟩ | ⟨blk, off, cap, cs, ty, fz, e1, e2, e3, _, e5, e6⟩
  · exact none a cap e1 e2
  by_cases hn : l = []
  · exact none _ cap (by rw [e1, hn]; rfl) hn
  obtain ⟨rfl, rfl, e7⟩ := e6 rfl
  have hkpos : 0 < f.ks.length := by cases f <;> decide
  have hbpos : 1 ≤ f.bytes := by cases f <;> decide
  have hok : ∀ x ∈ l, f.okv x ∧ Pf x := fun x hx => ⟨h1 x hx, hPl x hx⟩
  haveI : Inhabited (OkF f Pf) := by
    cases l with
    | nil => exact absurd rfl hn
    | cons x r => exact ⟨⟨x, hok x (List.mem_cons_self ..)⟩⟩
  have hblk : blk < w.heap.size := (Array.getElem?_eq_some_iff.1 e3).1
  let dl : List (OkF f Pf) := l.attachWith (fun x => f.okv x ∧ Pf x) hok
  have hdl : dl.map (·.1) = l := List.attachWith_map_subtype_val hok
  have hdlen : dl.length = l.length := by have := congrArg List.length hdl; rw [List.length_map] at this; exact this
  let d : Array (OkF f Pf) := dl.toArray
  have hds : d.size = l.length := by simp [d, hdlen]
  have hcell : ∀ (d' : Array (OkF f Pf)) (cs' : Array Value), (∀ t, t < d'.size * f.ks.length → cs'[t]? = (flatK (encF f Pf) f.ks.length d')[t]?) → ∀ i x, d'.toList[i]? = some x → CellsAt cs' (0 + i * f.ks.length) (f.vals x.1) := fun d' cs' hc i x hx k u hu => by
    have hi : i < d'.size := by simpa using (List.getElem?_eq_some_iff.1 hx).1
    have hk : k < f.ks.length := by have := (List.getElem?_eq_some_iff.1 hu).1; rwa [vals_len f] at this
    have hxi : d'[i] = x := by simpa [hi] using hx
    rw [Nat.zero_add, hc _ (nd_lt hk hi), flat_atF d' i k hi hk, hxi]
    exact hu
  have hflat : ∀ t, t < d.size * f.ks.length → cs[t]? = (flatK (encF f Pf) f.ks.length d)[t]? := fun t ht => by
    have hi : t / f.ks.length < d.size := Nat.div_lt_of_lt_mul (by rw [Nat.mul_comm]; exact ht)
    have hk : t % f.ks.length < f.ks.length := Nat.mod_lt _ hkpos
    have et : t = t / f.ks.length * f.ks.length + t % f.ks.length := (Nat.div_add_mod' t f.ks.length).symm
    have hil : t / f.ks.length < l.length := by omega
    have hx : l[t / f.ks.length]? = some (d[t / f.ks.length]).1 := by
      have h5 : (dl.map (·.1))[t / f.ks.length]? = some (d[t / f.ks.length]).1 := by
        rw [List.getElem?_map]
        have : t / f.ks.length < dl.length := by omega
        simp [d, this]
      rwa [hdl] at h5
    have hlt : t % f.ks.length < (encF f Pf d[t / f.ks.length]).length := by rw [encF_len]; exact hk
    have h6 := e5 _ _ hx (t % f.ks.length) _ (List.getElem?_eq_getElem hlt)
    rw [Nat.zero_add] at h6
    have h7 := flat_atF d _ _ hi hk
    rw [List.getElem?_eq_getElem hlt] at h7
    rw [← et] at h6 h7
    rw [h6, h7]
  have hH : HoldsK (encF f Pf) f.ks.length w blk 0 d := fun t ht => by
    rw [size_flatK] at ht
    have h := hflat t ht
    have hs : t < (flatK (encF f Pf) f.ks.length d).size := by rw [size_flatK]; exact ht
    rw [Array.getElem?_eq_getElem hs] at h
    constructor
    · unfold World.cell?
      simp only [Nat.zero_add, e3, Option.isSome_none, Bool.false_eq_true, if_false]
      rw [h, getElem!_pos (flatK (encF f Pf) f.ks.length d) t hs]; rfl
    · unfold World.frozen?
      simp only [e3]
      simp
  have hsz : d.size < 4611686018427387904 := by
    have hb : l.length * f.bytes ≤ 140737488355328 := h2
    have : l.length ≤ l.length * f.bytes := Nat.le_mul_of_pos_right _ hbpos
    omega
  have hcon := AnyQ.slices_SortFunc_total L f.ks.length aE zE (encF f Pf) encF_len encF_one (cfF f Pf cf) (swoF hT) g #[] blk 0 cap d w eg (cmp_laysF hC blk 0 d.size w) hH hblk hsz (totF hT)
  rw [hds] at hcon
  rw [e1]
  refine hcon.mono fun e w' he => ?_
  obtain ⟨rfl, n, os, rfl⟩ := he
  -- what it leaves
  let rl : List (OkF f Pf) := d.toList.mergeSort fun x y => !(ltOf (cfF f Pf cf)) y x
  have hrperm : rl.Perm dl := List.mergeSort_perm _ _
  have hrl : rl.map (·.1) = insG cf l := by
    have hpm : (rl.map (·.1)).Perm l := by rw [← hdl]; exact hrperm.map _
    refine ordG_unique hT (fun x hx => hPl x (hpm.mem_iff.1 hx)) ?_ (insG_ord hT hPl) (hpm.trans hperm.symm)
    have hp : rl.Pairwise fun a b => (!(ltOf (cfF f Pf cf)) b a) = true := List.pairwise_mergeSort (fun a b c h1 h2 => by
      rw [ltF, Bool.not_eq_true', decide_eq_false_iff_not] at *
      have a1 := hT.anti b.1 a.1 b.2.2 a.2.2
      have a2 := hT.anti c.1 b.1 c.2.2 b.2.2
      have a3 := hT.anti c.1 a.1 c.2.2 a.2.2
      have b1 := hT.anti a.1 b.1 a.2.2 b.2.2
      have b2 := hT.anti b.1 c.1 b.2.2 c.2.2
      have := hT.trans a.1 b.1 c.1 a.2.2 b.2.2 c.2.2 (by omega) (by omega)
      omega) (fun a b => by
      rw [ltF, ltF, Bool.or_eq_true, Bool.not_eq_true', Bool.not_eq_true', decide_eq_false_iff_not, decide_eq_false_iff_not]
      have a1 := hT.anti a.1 b.1 a.2.2 b.2.2
      omega) _
    unfold ordG
    rw [List.pairwise_map]
    refine hp.imp fun {a b} h => ?_
    rw [ltF, Bool.not_eq_true', decide_eq_false_iff_not] at h
    have a1 := hT.anti b.1 a.1 b.2.2 a.2.2
    omega
  have hrlen : rl.length = l.length := by rw [hrperm.length_eq, hdlen]
  let F := flatK (encF f Pf) f.ks.length rl.toArray
  have hF : F.size = l.length * f.ks.length := by simp [F, hrlen]
  have hle : l.length * f.ks.length ≤ cs.size := by rw [e7]; exact Nat.mul_le_mul_right _ e2
  have hh1 : (putRowK (encF f Pf) f.ks.length (Sort.ahead w n) blk 0 rl.toArray).heap[blk]? = some (.cells (putCells id 0 F cs) ty (0, 0)) := by
    show (w.heap.modify blk (onCells (putCells id 0 F)))[blk]? = _
    rw [Array.getElem?_modify, if_pos rfl, e3]
    rfl
  have hsize : (putRowK (encF f Pf) f.ks.length (Sort.ahead w n) blk 0 rl.toArray).heap.size = w.heap.size := by
    show (w.heap.modify blk (onCells (putCells id 0 F))).size = _
    simp
  have hheap : ∀ b, b < w.heap.size → (sortWorldK (encF f Pf) f.ks.length w blk 0 n rl.toArray os).heap[b]? = (putRowK (encF f Pf) f.ks.length (Sort.ahead w n) blk 0 rl.toArray).heap[b]? := fun b hb => by
    show ((putRowK (encF f Pf) f.ks.length (Sort.ahead w n) blk 0 rl.toArray).heap ++ os)[b]? = _
    rw [Array.getElem?_append_left (by rw [hsize]; exact hb)]
  refine ⟨rfl, rfl, rfl, ⟨rfl, Nat.le_add_right _ _⟩, ?_, fun b hb hne => ?_, hlen, ?_⟩
  · show w.heap.size ≤ ((putRowK (encF f Pf) f.ks.length (Sort.ahead w n) blk 0 rl.toArray).heap ++ os).size
    rw [Array.size_append, hsize]; omega
  · rw [hheap b hb]
    show (w.heap.modify blk (onCells (putCells id 0 F)))[b]? = _
    rw [Array.getElem?_modify, if_neg]
    intro e
    apply hne
    subst e
    unfold rowBlk
    simp only
    rw [if_neg]
    intro hc
    rw [hc] at e2
    exact hn (List.eq_nil_of_length_eq_zero (by omega))
  · refine ⟨fun x hx => h1 x (hperm.mem_iff.1 hx), by rw [hlen]; exact h2, .inr ⟨blk, 0, cap, putCells id 0 F cs, ty, (0, 0), by rw [hlen], by rw [hlen]; exact e2, by rw [hheap blk hblk]; exact hh1, trivial, fun i x hx => ?_, fun _ => ⟨rfl, rfl, ?_⟩⟩⟩
    · have hx' : (rl.map (·.1))[i]? = some x := by rw [hrl]; exact hx
      rw [List.getElem?_map] at hx'
      obtain ⟨y, hy, rfl⟩ := Option.map_eq_some_iff.1 hx'
      refine hcell rl.toArray _ (fun t ht => ?_) i y (by simpa using hy)
      have ht' : t < F.size := by rw [hF]; simpa [hrlen] using ht
      have htc : t < cs.size := by omega
      unfold putCells
      rw [Array.getElem?_mapIdx, Array.getElem?_eq_getElem htc, Option.map_some, if_pos ⟨Nat.zero_le _, by omega⟩, Nat.sub_zero]
      show some (F[t]!) = F[t]?
      rw [Array.getElem?_eq_getElem ht', getElem!_pos F t ht']
    · show (putCells id 0 F cs).size = cap * f.ks.length
      unfold putCells
      rw [Array.size_mapIdx]; exact e7
end
end Go.Fx
