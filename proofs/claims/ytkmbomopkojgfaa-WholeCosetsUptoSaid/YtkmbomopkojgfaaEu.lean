/-
  The engine, a law's open call once more: where the lists that come in are short.
-/
import Derived.Test.YtkmbomopkojgfaaE19
set_option linter.unusedSimpArgs false
set_option linter.unusedVariables false
set_option linter.unusedSectionVars false
namespace Go.Fx
open Go RowKit Go.ChangeShapes
def shtOf (K : Nat) : (s : Sh) → s.ty → Prop
  | .list f, l => l.length ≤ K
  | _, _ => True
def shtArgs (K : Nat) : (l : List Sh) → HL l → Prop
  | [], _ => True
  | s :: r, x => shtOf K s x.1 ∧ shtArgs K r x.2
theorem open_listU {H : Type} {enc : TypeId × Value → H} {P : Program} {w : World} {r : Reach} {b0 base : Nat} {sp : Nat → Bool} {held : Bool} {t e : TypeId} {v : Value} {d : DataW H} {ps : List MemPlace} (f : Fl) (hu : P.underlying t = some (.slice e)) (hk : kindsT P 8 e = some f.ks) (hc : P.cellsOf e = f.ks.length) (hb : P.bytesOf e = f.bytes)
    (hval : Value.okWide P w r b0 t v) (hd : DataW.Trod enc P w base sp held t v d ps) (hz : ∀ n ∈ d.weights P t, n ≤ reachBytes) {K : Nat} (hK : ∀ elems spare, d = DataW.slice elems spare → elems.length ≤ K) : ∃ l : List f.ty, LRep w f l v (fun _ => True) false ∧ l.length * f.bytes ≤ reach ∧ l.length ≤ K := by
  classical
  have hok : Cell.ok P w r b0 t v := by
    unfold Value.okWide at hval
    rw [hu] at hval
    unfold Cell.okWide at hval
    rw [hu] at hval
    exact hval
  unfold Cell.ok at hok
  rw [hu] at hok
  obtain ⟨fuel, hf⟩ := hd
  have nil : ∀ a cap, v = .slice a 0 cap → ∃ l : List f.ty, LRep w f l v (fun _ => True) false ∧ l.length * f.bytes ≤ reach ∧ l.length ≤ K := fun a cap e =>
    ⟨[], ⟨(fun x hx => by cases hx), by simp, .inl ⟨a, cap, e, rfl, fun h => by cases h⟩⟩, by simp, by simp⟩
  split at hok
  · rename_i h; cases h
  · rename_i h; cases h
  · rename_i h; cases h
  · rename_i h; cases h
  · rename_i h; cases h
  · rename_i h; cases h
  · exact nil _ _ rfl
  · rename_i h; cases h
  · rename_i e' a len cap he
    cases he
    obtain ⟨h1, h2, _, hsp, row, cells, hsh, _⟩ := hok
    rcases Go.Deep.open_slice hu hf with ⟨h0, _⟩ | ⟨a', len', cap', m, n, D, Pl, e1, _, hl, _, hm, e2, hx⟩
    · have h0 : [Value.slice (some a) len cap] = [.slice none 0 0] := h0
      cases h0
    · have e1 : [Value.slice (some a) len cap] = [.slice (some a') len' cap'] := e1
      cases e1
      cases e2
      obtain ⟨b, off, spot⟩ := a
      simp only at hsp
      subst hsp
      have hlm : len ≤ m := by rw [hm]; split <;> omega
      obtain ⟨c, ty, fz, hh⟩ : ∃ c ty fz, w.heap[b]? = some (.cells c ty fz) := by
        unfold World.shape? at hsh
        split at hsh
        · rename_i c el fz hh; exact ⟨c, el, fz, hh⟩
        · cases hsh
      have each : ∀ i, i < len → ∃ x : f.ty, CellsAt c (off + i * f.ks.length) (f.vals x) ∧ f.okv x := fun i hi => by
        obtain ⟨cs', q1, q2⟩ := hx i (Nat.lt_of_lt_of_le hi hlm)
        obtain ⟨_, hmt⟩ := kinds_trod 8 hk q2
        obtain ⟨x, x1, x2⟩ := of_kmatch (f := f) (cs := cs') hmt
        obtain ⟨_, _, hcell⟩ := World.cells?_some q1
        refine ⟨x, fun k v hv => ?_, x2⟩
        rw [x1] at hv
        have hk' : k < P.cellsOf e := by
          have := (List.getElem?_eq_some_iff.1 hv).1
          obtain ⟨_, hlen, _⟩ := World.cells?_some q1
          omega
        have h3 := hcell k hk'
        rw [hv, Addr.add_mid, Addr.add_mid] at h3
        unfold World.cell? at h3
        rw [hh] at h3
        simp only [Option.isSome_none, Bool.false_eq_true, if_false] at h3
        rw [hc] at h3
        exact h3
      let g : Nat → f.ty := fun i => if h : i < len then (each i h).choose else f.dflt
      have hg : ∀ i, i < len → CellsAt c (off + i * f.ks.length) (f.vals (g i)) ∧ f.okv (g i) := fun i hi => by
        have : g i = (each i hi).choose := dif_pos hi
        rw [this]
        exact (each i hi).choose_spec
      have hw : len * f.bytes ≤ reachBytes := by
        have := hz ((((List.range len).map D).length + ((List.range (m - len)).map fun j => D (len + j)).length) * P.bytesOf e) (by simp [DataW.weights, hu])
        rw [hb, List.length_map, List.length_range] at this
        exact Nat.le_trans (Nat.mul_le_mul_right _ (by omega)) this
      have hr : reachBytes = reach := by decide
      rw [hr] at hw
      refine ⟨(List.range len).map g, ⟨fun x hx => ?_, ?_, ?_⟩, by simpa using hw, by simpa using hK _ _ rfl⟩
      · obtain ⟨i, hi, rfl⟩ := List.mem_map.1 hx
        exact (hg i (List.mem_range.1 hi)).2
      · simp only [List.length_map, List.length_range]
        exact Nat.le_trans hw (by decide)
      · refine .inr ⟨b, off, cap, c, ty, fz, by simp, by simpa using hl, hh, trivial, fun i x hx => ?_, fun h => by cases h⟩
        have hi : i < len := by have := (List.getElem?_eq_some_iff.1 hx).1; simpa using this
        rw [List.getElem?_map, List.getElem?_range hi] at hx
        cases hx
        exact (hg i hi).1
  · exact hok.elim
theorem args_openU {H : Type} {enc : TypeId × Value → H} {P : Program} {W : World} {r : Reach} {b0 base : Nat} {sp : Nat → Bool} {held : Bool} {K : Nat} : ∀ {shs : List Sh} {ts : List TypeId} {vs : List Value} {ds : List (DataW H)} {ps : List MemPlace}, AllOk P shs ts → DataW.TrodAll enc P W base sp held ts vs ds ps →
    (∀ (j : Nat) t v, ts[j]? = some t → vs[j]? = some v → Value.okWide P W r b0 t v) → (∀ (j : Nat) t d, ts[j]? = some t → ds[j]? = some d → ∀ n ∈ d.weights P t, n ≤ reachBytes) → (∀ d ∈ ds, ∀ elems spare, d = DataW.slice elems spare → elems.length ≤ K) → ∃ x : HL shs, ArgsR W shs x vs ∧ rchArgs shs x ∧ shtArgs K shs x
  | [], [], _, _, _, _, h, _, _, _ => by
    obtain ⟨rfl, _, _⟩ := trodAll_nil h
    exact ⟨(), trivial, trivial, trivial⟩
  | s :: r, t :: ts, _, _, _, ha, h, hv, hz, hK => by
    obtain ⟨v, vs1, d, ds1, a, b, rfl, rfl, rfl, h1, h2⟩ := trodAll_cons h
    obtain ⟨y, hy, hy2, hy3⟩ := args_openU ha.2 h2 (fun j t v ht hv' => hv (j + 1) t v (by simpa using ht) (by simpa using hv')) (fun j t d ht hd => hz (j + 1) t d (by simpa using ht) (by simpa using hd)) fun d hd => hK d (List.mem_cons_of_mem _ hd)
    have hv0 := hv 0 t v rfl rfl
    have hz0 := hz 0 t d rfl rfl
    have key : ∃ x : s.ty, s.arg W x v ∧ rchOf s x ∧ shtOf K s x := by
      cases s with
      | int k => obtain ⟨n, hn⟩ := open_num ha.1 hv0 h1; exact ⟨n, hn, trivial, trivial⟩
      | bool => obtain ⟨b, hb⟩ := open_flag ha.1 hv0 h1; exact ⟨b, hb, trivial, trivial⟩
      | agg f => obtain ⟨x, e1, e2⟩ := open_agg f ha.1.1 ha.1.2 hv0 h1; exact ⟨x, ⟨e1, e2⟩, trivial, trivial⟩
      | list f =>
        obtain ⟨e, q1, q2, q3, q4⟩ := ha.1
        obtain ⟨l, g1, g2, g3⟩ := open_listU f q1 q2 q3 q4 hv0 h1 hz0 (hK d (List.mem_cons_self ..))
        exact ⟨l, g1, g2, g3⟩
      | lists f => exact ha.1.elim
      | map f => exact ha.1.elim
      | lit k z => exact ha.1.elim
    obtain ⟨x, hx, hx2, hx3⟩ := key
    exact ⟨(x, y), ⟨hx, hy⟩, ⟨hx2, hy2⟩, hx3, hy3⟩
  | [], _ :: _, _, _, _, ha, _, _, _, _ => ha.elim
  | _ :: _, [], _, _, _, ha, _, _, _, _ => ha.elim
/-- A law, called: it says true, and its post holds. -/
theorem law_callsU {H : Type} {enc : TypeId × Value → H} {P : Program} {f : FuncId} {fn : Func} {s : ChangeSpec} {C : Contract} {apart fresh handsOn : Bool} (hS : Sound P f C) {K : Nat} (hp : ∀ x, rchArgs C.args x → shtArgs K C.args x → C.pre x) (hR : ∀ (x : HL C.args) vs W' own n0, ResR W' own n0 C.res (C.F x) vs 0 → oneV vs = .bool true)
    (hl : laidOutB P = true) (hts : ∀ t ∈ fn.params.toList, P.readableRec t = true ∧ t < P.types.size) {tb : TypeId} (hr : fn.resultTypes = #[tb]) (htb : P.underlying tb = some .bool) (ha : AllOk P C.args fn.params.toList)
    (hv : s.vars = []) (hfn : ∀ ds : List (DataW H), ds.length = fn.params.toList.length → (s.fn H ds).results = [.lit (.bool true)] ∧ (s.fn H ds).args = ds ∧ (s.fn H ds).vars = [])
    {W : World} {base : Nat} {args : Array Value} {ds gs : List (DataW H)} {before : List MemPlace} (hval : ∀ (j : Nat) t v, fn.params[j]? = some t → args[j]? = some v → Value.okWide P W .any base t v)
    (hW : DataW.Whole enc P fn.params.toList s.vars apart W args.toList ds gs before) {vt : List TypeId} (hz : (DataW.weightsEach P (fn.params.toList ++ vt) (ds ++ gs)).all (· ≤ reachBytes) = true) (hK : ∀ d ∈ ds, ∀ elems spare, d = DataW.slice elems spare → elems.length ≤ K) :
    Calls P f args W fun e W' => ∃ v, e = .returned v ∧ s.post enc P fn apart fresh handsOn false W args v W' := by
  have hW0 := hW
  obtain ⟨p, q, hA, hV, rfl, _, _⟩ := hW
  have hgs : gs = [] := by
    rw [hv] at hV
    cases gs with
    | nil => rfl
    | cons _ _ => exact hV.elim
  subst hgs
  obtain ⟨x, hx, hx2, hx3⟩ := args_openU (K := K) ha hA (fun j t v ht hv' => hval j t v (by simpa using ht) (by simpa using hv')) (fun j t d ht hd n hn => by
    have hlt : j < fn.params.toList.length := (List.getElem?_eq_some_iff.1 ht).1
    have := List.all_eq_true.1 hz n (DataW.weights_mem_each (j := j) (t := t) (d := d) (by rw [List.getElem?_append_left hlt]; exact ht) (by rw [List.append_nil]; exact hd) n hn)
    simpa using this) hK
  have hc := hS x W args.toList hx (hp x hx2 hx3)
  refine Calls.mono (R := fun e w' => ∃ vs own, e = .returned (oneV vs) ∧ Below W.heap.size W w' ∧ ResR w' own W.heap.size C.res (C.F x) vs 0) (by simpa using hc) fun e W' he => ?_
  obtain ⟨vs, own, rfl, hb, hres⟩ := he
  rw [hR x vs W' own _ hres]
  have hd := hfn (ds ++ []) (by rw [List.append_nil]; exact trodAll_len hA)
  exact ⟨_, rfl, law_post hl hts hr htb hv hW0 hd.1 (by rw [hd.2.1, List.append_nil]) hd.2.2 hb⟩
end Go.Fx
