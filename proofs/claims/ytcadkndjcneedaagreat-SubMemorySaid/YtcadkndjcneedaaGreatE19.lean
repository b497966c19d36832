/-
  The engine, part five: a law's open call.
-/
import Derived.Test.YtcadkndjcneedaaGreatE18
import Derived.ProofKit
import Derived.SizedLaws
import Derived.Deep.Slices
set_option linter.unusedSimpArgs false
set_option linter.unusedVariables false
set_option linter.unusedSectionVars false
namespace Go.Fx
open Go RowKit Go.ChangeShapes

section
variable {H : Type} {enc : TypeId × Value → H} {P : Program}
theorem trodAll_below (hl : laidOutB P = true) {W W' : World} (hb : Below W.heap.size W W') : ∀ {ts : List TypeId} {vs : List Value} {ds : List (DataW H)} {ps : List MemPlace}, (∀ t ∈ ts, P.readableRec t = true ∧ t < P.types.size) →
    DataW.TrodAll enc P W 0 (fun _ => true) true ts vs ds ps → (∀ x ∈ ps, x.block < W.heap.size) → DataW.TrodAll enc P W' 0 (fun b => decide (b < W.heap.size)) true ts vs ds ps
  | [], _, _, _, _, h, _ => by
    obtain ⟨rfl, rfl, rfl⟩ := trodAll_nil h
    rfl
  | t :: ts, _, _, _, ht, h, hlt => by
    obtain ⟨v, vs1, d, ds1, a, b, rfl, rfl, rfl, h1, h2⟩ := trodAll_cons h
    obtain ⟨r1, r2⟩ := ht t (List.mem_cons_self ..)
    exact ⟨a, b, Go.RowKit.Below.trod hl r1 r2 h1 hb.toBelow (fun x hx => hlt x (List.mem_append_left _ hx)), trodAll_below hl hb (fun t ht' => ht t (List.mem_cons_of_mem _ ht')) h2 (fun x hx => hlt x (List.mem_append_right _ hx)), rfl⟩
theorem trod_true {W : World} {base : Nat} {sp : Nat → Bool} {held : Bool} {t : TypeId} (ht : P.underlying t = some .bool) (b : Bool) : DataW.Trod enc P W base sp held t (.bool b) (.lit (.bool b)) [] :=
  ⟨1, by simp [DataW.trod, Value.cells, ht]⟩
/-- Behind a law that says true and turns nothing. -/
theorem law_post {f : Func} {s : ChangeSpec} {apart fresh handsOn : Bool} (hl : laidOutB P = true) (hts : ∀ t ∈ f.params.toList, P.readableRec t = true ∧ t < P.types.size) {tb : TypeId} (hr : f.resultTypes = #[tb]) (htb : P.underlying tb = some .bool)
    (hv : s.vars = []) {W W' : World} {args : Array Value} {ds gs : List (DataW H)} {before : List MemPlace} (hW : DataW.Whole enc P f.params.toList s.vars apart W args.toList ds gs before)
    (h1 : (s.fn H (ds ++ gs)).results = [.lit (.bool true)]) (h2 : (s.fn H (ds ++ gs)).args = ds) (h3 : (s.fn H (ds ++ gs)).vars = []) (hb : Below W.heap.size W W') :
    s.post enc P f apart fresh handsOn false W args (.bool true) W' := by
  have hW0 := hW
  have hlt := hW.lt
  obtain ⟨p, q, hA, hV, rfl, _, _⟩ := hW
  refine ⟨ds, gs, p ++ q, [], p, [], hW0, ?_, ?_, ?_, hb.toBelow.frame _, fun h => by cases h⟩
  · rw [h1, hr]
    exact ⟨[], [], trod_true htb true, rfl, rfl⟩
  · rw [h2]
    exact trodAll_below hl hb hts hA fun x hx => hlt x (List.mem_append_left _ hx)
  · rw [hv, h3]
    rfl
end

/-! ### Arguments by value -/
def kindsF (P : Program) (kt : TypeId → Option (List CK)) : List Field → Nat → Option (List CK)
  | [], _ => some []
  | f :: r, off => match kt f.type with
    | some ks => match Nat.beq f.offset off && Nat.beq (P.cellsOf f.type) ks.length, kindsF P kt r (off + ks.length) with
      | true, some rest => some (ks ++ rest)
      | _, _ => none
    | none => none
def repK (ks : List CK) : Nat → List CK
  | 0 => []
  | n + 1 => ks ++ repK ks n
def kindsT (P : Program) : Nat → TypeId → Option (List CK)
  | 0, _ => none
  | n + 1, t => match P.underlying t with
    | some (.int k) => some [.int k]
    | some .bool => some [.bool]
    | some (.array len e) => match kindsT P n e with
      | some ks => match Nat.beq (P.cellsOf e) ks.length && Nat.beq (P.cellsOf t) (len * ks.length) with
        | true => some (repK ks len)
        | false => none
      | none => none
    | some (.struct fs) => match kindsF P (kindsT P n) fs.toList 0 with
      | some ks => match Nat.beq (P.cellsOf t) ks.length with
        | true => some ks
        | false => none
      | none => none
    | _ => none
def kmatch : List CK → List Value → Prop
  | [], [] => True
  | .int k :: ks, .int k' n :: vs => (k' = k ∧ (Lit.int k n).wf = true) ∧ kmatch ks vs
  | .bool :: ks, .bool _ :: vs => kmatch ks vs
  | _, _ => False
theorem kmatch_append : ∀ {ks ks' : List CK} {vs vs' : List Value}, kmatch ks vs → kmatch ks' vs' → kmatch (ks ++ ks') (vs ++ vs')
  | [], _, [], _, _, h' => h'
  | .int k :: ks, _, .int k' n :: vs, _, h, h' => ⟨h.1, kmatch_append h.2 h'⟩
  | .bool :: ks, _, .bool _ :: vs, _, h, h' => kmatch_append (ks := ks) h h'
  | .int k :: ks, _, v :: vs, _, h, _ => by
    cases v <;> first | exact h.elim | exact ⟨h.1, kmatch_append h.2 ‹_›⟩
  | .bool :: ks, _, v :: vs, _, h, _ => by
    cases v <;> first | exact h.elim | exact kmatch_append (ks := ks) h ‹_›
  | [], _, _ :: _, _, h, _ => h.elim
  | .int _ :: _, _, [], _, h, _ => h.elim
  | .bool :: _, _, [], _, h, _ => h.elim
theorem mapM_some {β γ : Type} {g : β → Option γ} : ∀ {l : List β} {xs : List γ}, l.mapM g = some xs → ∀ a ∈ l, ∃ y, g a = some y
  | b :: r, xs, h, a, ha => by
    rw [List.mapM_cons] at h
    cases e : g b with
    | none => rw [e] at h; cases h
    | some y =>
      rw [e] at h
      cases e2 : r.mapM g with
      | none => simp [e2] at h
      | some ys =>
        rcases List.mem_cons.1 ha with rfl | ha
        · exact ⟨y, e⟩
        · exact mapM_some e2 a ha
theorem rep_match {ks : List CK} : ∀ (len : Nat) (cs : List Value), cs.length = len * ks.length → (∀ i, i < len → kmatch ks ((cs.drop (i * ks.length)).take ks.length)) → (repK ks len).length = cs.length ∧ kmatch (repK ks len) cs
  | 0, cs, h, _ => by
    have : cs = [] := List.eq_nil_of_length_eq_zero (by omega)
    subst this
    exact ⟨rfl, trivial⟩
  | n + 1, cs, h, hm => by
    rw [Nat.succ_mul] at h
    obtain ⟨q1, q2⟩ := rep_match (ks := ks) n (cs.drop ks.length) (by rw [List.length_drop]; omega) fun i hi => by
      have := hm (i + 1) (by omega)
      rw [List.drop_drop]
      rwa [Nat.succ_mul, Nat.add_comm] at this
    have h0 := hm 0 (by omega)
    rw [Nat.zero_mul, List.drop_zero] at h0
    have := kmatch_append h0 q2
    rw [List.take_append_drop] at this
    refine ⟨?_, this⟩
    rw [repK, List.length_append, q1, List.length_drop]; omega
theorem fields_match {H : Type} {enc : TypeId × Value → H} {P : Program} {w : World} {base : Nat} {sp : Nat → Bool} {held : Bool} {fuel : Nat} {kt : TypeId → Option (List CK)}
    (ih : ∀ {t : TypeId} {ks : List CK} {cs : List Value} {x : DataW H × List MemPlace}, kt t = some ks → DataW.trod enc P w base sp held fuel t cs = some x → ks.length = cs.length ∧ kmatch ks cs) :
    ∀ {fs : List Field} {off : Nat} {ks : List CK} {cs : List Value}, kindsF P kt fs off = some ks → cs.length = off + ks.length → (∀ f ∈ fs, ∃ y, DataW.trod enc P w base sp held fuel f.type ((cs.drop f.offset).take (P.cellsOf f.type)) = some y) → kmatch ks (cs.drop off)
  | [], off, ks, cs, h, hl, _ => by
    cases h
    rw [List.drop_of_length_le (by simp at hl; omega)]
    trivial
  | f :: r, off, ks, cs, h, hl, hf => by
    unfold kindsF at h
    split at h
    · rename_i k1 e1
      split at h
      · rename_i rest hc e2
        cases h
        rw [Bool.and_eq_true] at hc
        have c1 := Nat.eq_of_beq_eq_true hc.1
        have c2 := Nat.eq_of_beq_eq_true hc.2
        obtain ⟨y, hy⟩ := hf f (List.mem_cons_self ..)
        rw [c1, c2] at hy
        obtain ⟨_, m1⟩ := ih e1 hy
        rw [List.length_append] at hl
        have m2 := fields_match ih e2 (cs := cs) (by omega) fun f hf' => hf f (List.mem_cons_of_mem _ hf')
        have := kmatch_append m1 m2
        rw [← List.drop_drop, List.take_append_drop] at this
        exact this
      · cases h
    · cases h
theorem kinds_trod {H : Type} {enc : TypeId × Value → H} {P : Program} {w : World} {base : Nat} {sp : Nat → Bool} {held : Bool} : ∀ (n : Nat) {fuel : Nat} {t : TypeId} {ks : List CK} {cs : List Value} {x : DataW H × List MemPlace}, kindsT P n t = some ks → DataW.trod enc P w base sp held fuel t cs = some x →
    ks.length = cs.length ∧ kmatch ks cs
  | 0, _, _, _, _, _, h, _ => by cases h
  | n + 1, 0, _, _, _, _, _, h => by cases h
  | n + 1, fuel + 1, t, ks, cs, x, h, hx => by
    unfold kindsT at h
    split at h
    · rename_i k hu
      cases h
      obtain ⟨m, rfl, _, hw⟩ := DataW.trod_int hu hx
      exact ⟨rfl, ⟨rfl, hw⟩, trivial⟩
    · rename_i hu
      cases h
      unfold DataW.trod at hx
      rw [hu] at hx
      split at hx <;> first | exact ⟨rfl, trivial⟩ | (simp at *; done) | cases hx
    · rename_i len e hu
      split at h
      · rename_i k1 e1
        split at h
        · rename_i hc
          cases h
          rw [Bool.and_eq_true] at hc
          have c1 := Nat.eq_of_beq_eq_true hc.1
          have c2 := Nat.eq_of_beq_eq_true hc.2
          unfold DataW.trod at hx
          simp only [hu] at hx
          split at hx
          · rename_i hlen
            rw [Option.map_eq_some_iff] at hx
            obtain ⟨xs, hxs, _⟩ := hx
            exact rep_match len cs (by rw [hlen, c2]) fun i hi => by
              obtain ⟨y, hy⟩ := mapM_some hxs i (List.mem_range.2 hi)
              rw [c1] at hy
              exact (kinds_trod n e1 hy).2
          · cases hx
        · cases h
      · cases h
    · rename_i fs hu
      split at h
      · rename_i k1 e1
        split at h
        · rename_i hc
          cases h
          have c2 := Nat.eq_of_beq_eq_true hc
          unfold DataW.trod at hx
          simp only [hu] at hx
          split at hx
          · rename_i hlen
            rw [Option.map_eq_some_iff] at hx
            obtain ⟨xs, hxs, _⟩ := hx
            have := fields_match (fun h1 h2 => kinds_trod n h1 h2) e1 (cs := cs) (by rw [hlen, c2]; omega) fun f hf => mapM_some hxs f hf
            exact ⟨by rw [hlen, c2], by rwa [List.drop_zero] at this⟩
          · cases hx
        · cases h
      · cases h
    · cases h
theorem min_kmin (k : IntKind) : k.min = kmin k := by cases k <;> rfl
theorem max_kmax (k : IntKind) : k.max = kmax k := by cases k <;> rfl
def vcell : Value → Cell
  | .int _ n => .i n
  | .bool b => .b b
  | _ => .i 0
theorem kmatch_cells : ∀ {ks : List CK} {cs : List Value}, kmatch ks cs → kindsOk ks (cs.map vcell) ∧ (cksc ks (cs.map vcell)).map SC.lit = cs ∧ ∀ c ∈ cksc ks (cs.map vcell), c.ok0
  | [], [], _ => ⟨trivial, rfl, fun c hc => by cases hc⟩
  | .int k :: ks, v :: vs, h => by
    cases v with
    | int k' n =>
      obtain ⟨⟨rfl, hw⟩, h2⟩ := h
      obtain ⟨q1, q2, q3⟩ := kmatch_cells h2
      simp only [Lit.wf, Bool.and_eq_true, decide_eq_true_eq] at hw
      refine ⟨q1, ?_, fun c hc => ?_⟩
      · show Value.int k' n :: _ = _
        rw [q2]
      · rcases List.mem_cons.1 hc with rfl | hc
        · rw [min_kmin, max_kmax] at hw; exact hw
        · exact q3 c hc
    | _ => exact h.elim
  | .bool :: ks, v :: vs, h => by
    cases v with
    | bool b =>
      obtain ⟨q1, q2, q3⟩ := kmatch_cells (ks := ks) h
      refine ⟨q1, ?_, fun c hc => ?_⟩
      · show Value.bool b :: _ = _
        rw [q2]
      · rcases List.mem_cons.1 hc with rfl | hc
        · trivial
        · exact q3 c hc
    | _ => exact h.elim
  | [], _ :: _, h => h.elim
  | .int _ :: _, [], h => h.elim
  | .bool :: _, [], h => h.elim
theorem of_kmatch {f : Fl} {cs : List Value} (h : kmatch f.ks cs) : ∃ x : f.ty, f.vals x = cs ∧ f.okv x := by
  obtain ⟨q1, q2, q3⟩ := kmatch_cells h
  have e := enc_dec f _ q1
  refine ⟨f.dec (cs.map vcell), ?_, ?_⟩
  · show (cksc f.ks (f.enc (f.dec _))).map SC.lit = _
    rw [e]; exact q2
  · show ∀ c ∈ cksc f.ks (f.enc (f.dec _)), _
    rw [e]; exact q3
def isRowT (P : Program) (t : TypeId) : Bool := match P.underlying t with
  | some (.struct _) | some (.array _ _) => true
  | _ => false
theorem open_agg {H : Type} {enc : TypeId × Value → H} {P : Program} {w : World} {r : Reach} {b0 base : Nat} {sp : Nat → Bool} {held : Bool} {t : TypeId} {v : Value} {d : DataW H} {ps : List MemPlace} (f : Fl) (hk : kindsT P 8 t = some f.ks) (hu : isRowT P t = true)
    (hval : Value.okWide P w r b0 t v) (hd : DataW.Trod enc P w base sp held t v d ps) : ∃ x : f.ty, v = .agg (f.vals x).toArray ∧ f.okv x := by
  have hv : ∃ cs, v = .agg cs := by
    unfold isRowT at hu
    unfold Value.okWide at hval
    split at hu
    · rename_i e; rw [e] at hval; obtain ⟨cs, h, _⟩ := hval; exact ⟨cs, h⟩
    · rename_i e; rw [e] at hval; obtain ⟨cs, h, _⟩ := hval; exact ⟨cs, h⟩
    · cases hu
  obtain ⟨cs, rfl⟩ := hv
  obtain ⟨fuel, hf⟩ := hd
  obtain ⟨_, hm⟩ := kinds_trod 8 hk hf
  obtain ⟨x, hx, ho⟩ := of_kmatch (f := f) (cs := cs.toList) hm
  exact ⟨x, by rw [hx], ho⟩
theorem open_num {H : Type} {enc : TypeId × Value → H} {P : Program} {w : World} {r : Reach} {b0 base : Nat} {sp : Nat → Bool} {held : Bool} {t : TypeId} {k : IntKind} {v : Value} {d : DataW H} {ps : List MemPlace} (ht : P.underlying t = some (.int k))
    (hval : Value.okWide P w r b0 t v) (hd : DataW.Trod enc P w base sp held t v d ps) : ∃ n, intIn k n v := by
  obtain ⟨n, h1, _, _, hw⟩ := open_int ht hval hd
  simp only [Lit.wf, Bool.and_eq_true, decide_eq_true_eq] at hw
  rw [min_kmin, max_kmax] at hw
  exact ⟨n, h1, hw⟩
/-- A shape fits a type. -/
def ShOk (P : Program) : Sh → TypeId → Prop
  | .int k, t => P.underlying t = some (.int k)
  | .bool, t => P.underlying t = some .bool
  | .agg f, t => kindsT P 8 t = some f.ks ∧ isRowT P t = true
  | .list f, t => ∃ e, P.underlying t = some (.slice e) ∧ kindsT P 8 e = some f.ks ∧ P.cellsOf e = f.ks.length ∧ P.bytesOf e = f.bytes
  | _, _ => False
/-- The arguments' lists lie within the reach. -/
def rchOf : (s : Sh) → s.ty → Prop
  | .list f, l => l.length * f.bytes ≤ reach
  | _, _ => True
def rchArgs : (l : List Sh) → HL l → Prop
  | [], _ => True
  | s :: r, x => rchOf s x.1 ∧ rchArgs r x.2
def AllOk (P : Program) : List Sh → List TypeId → Prop
  | [], [] => True
  | s :: r, t :: ts => ShOk P s t ∧ AllOk P r ts
  | _, _ => False
theorem open_flag {H : Type} {enc : TypeId × Value → H} {P : Program} {w : World} {r : Reach} {b0 base : Nat} {sp : Nat → Bool} {held : Bool} {t : TypeId} {v : Value} {d : DataW H} {ps : List MemPlace} (ht : P.underlying t = some .bool)
    (hval : Value.okWide P w r b0 t v) (hd : DataW.Trod enc P w base sp held t v d ps) : ∃ b, v = .bool b := by
  obtain ⟨fuel, hf⟩ := hd
  obtain ⟨_, hm⟩ := kinds_trod 1 (ks := [.bool]) (by simp only [kindsT, ht]) hf
  unfold Value.okWide at hval
  rw [ht] at hval
  cases v with
  | bool b => exact ⟨b, rfl⟩
  | _ => first | exact hm.elim | (simp [Cell.okWide, Cell.ok, ht] at hval)
theorem open_list {H : Type} {enc : TypeId × Value → H} {P : Program} {w : World} {r : Reach} {b0 base : Nat} {sp : Nat → Bool} {held : Bool} {t e : TypeId} {v : Value} {d : DataW H} {ps : List MemPlace} (f : Fl) (hu : P.underlying t = some (.slice e)) (hk : kindsT P 8 e = some f.ks) (hc : P.cellsOf e = f.ks.length) (hb : P.bytesOf e = f.bytes)
    (hval : Value.okWide P w r b0 t v) (hd : DataW.Trod enc P w base sp held t v d ps) (hz : ∀ n ∈ d.weights P t, n ≤ reachBytes) : ∃ l : List f.ty, LRep w f l v (fun _ => True) false ∧ l.length * f.bytes ≤ reach := by
  classical
  have hok : Cell.ok P w r b0 t v := by
    unfold Value.okWide at hval
    rw [hu] at hval
    unfold Cell.okWide at hval
    rw [hu] at hval
    exact hval
  unfold Cell.ok at hok
  rw [hu] at hok
  obtain ⟨fuel, hf⟩ := hd
  have nil : ∀ a cap, v = .slice a 0 cap → ∃ l : List f.ty, LRep w f l v (fun _ => True) false ∧ l.length * f.bytes ≤ reach := fun a cap e =>
    ⟨[], ⟨(fun x hx => by cases hx), by simp, .inl ⟨a, cap, e, rfl, fun h => by cases h⟩⟩, by simp⟩
  split at hok
  · rename_i h; cases h
  · rename_i h; cases h
  · rename_i h; cases h
  · rename_i h; cases h
  · rename_i h; cases h
  · rename_i h; cases h
  · exact nil _ _ rfl
  · rename_i h; cases h
  · rename_i e' a len cap he
    cases he
    obtain ⟨h1, h2, _, hsp, row, cells, hsh, _⟩ := hok
    rcases Go.Deep.open_slice hu hf with ⟨h0, _⟩ | ⟨a', len', cap', m, n, D, Pl, e1, _, hl, _, hm, e2, hx⟩
    · have h0 : [Value.slice (some a) len cap] = [.slice none 0 0] := h0
      cases h0
    · have e1 : [Value.slice (some a) len cap] = [.slice (some a') len' cap'] := e1
      cases e1
      cases e2
      obtain ⟨b, off, spot⟩ := a
      simp only at hsp
      subst hsp
      have hlm : len ≤ m := by rw [hm]; split <;> omega
      obtain ⟨c, ty, fz, hh⟩ : ∃ c ty fz, w.heap[b]? = some (.cells c ty fz) := by
        unfold World.shape? at hsh
        split at hsh
        · rename_i c el fz hh; exact ⟨c, el, fz, hh⟩
        · cases hsh
      have each : ∀ i, i < len → ∃ x : f.ty, CellsAt c (off + i * f.ks.length) (f.vals x) ∧ f.okv x := fun i hi => by
        obtain ⟨cs', q1, q2⟩ := hx i (Nat.lt_of_lt_of_le hi hlm)
        obtain ⟨_, hmt⟩ := kinds_trod 8 hk q2
        obtain ⟨x, x1, x2⟩ := of_kmatch (f := f) (cs := cs') hmt
        obtain ⟨_, _, hcell⟩ := World.cells?_some q1
        refine ⟨x, fun k v hv => ?_, x2⟩
        rw [x1] at hv
        have hk' : k < P.cellsOf e := by
          have := (List.getElem?_eq_some_iff.1 hv).1
          obtain ⟨_, hlen, _⟩ := World.cells?_some q1
          omega
        have h3 := hcell k hk'
        rw [hv, Addr.add_mid, Addr.add_mid] at h3
        unfold World.cell? at h3
        rw [hh] at h3
        simp only [Option.isSome_none, Bool.false_eq_true, if_false] at h3
        rw [hc] at h3
        exact h3
      let g : Nat → f.ty := fun i => if h : i < len then (each i h).choose else f.dflt
      have hg : ∀ i, i < len → CellsAt c (off + i * f.ks.length) (f.vals (g i)) ∧ f.okv (g i) := fun i hi => by
        have : g i = (each i hi).choose := dif_pos hi
        rw [this]
        exact (each i hi).choose_spec
      have hw : len * f.bytes ≤ reachBytes := by
        have := hz ((((List.range len).map D).length + ((List.range (m - len)).map fun j => D (len + j)).length) * P.bytesOf e) (by simp [DataW.weights, hu])
        rw [hb, List.length_map, List.length_range] at this
        exact Nat.le_trans (Nat.mul_le_mul_right _ (by omega)) this
      have hr : reachBytes = reach := by decide
      rw [hr] at hw
      refine ⟨(List.range len).map g, ⟨fun x hx => ?_, ?_, ?_⟩, by simpa using hw⟩
      · obtain ⟨i, hi, rfl⟩ := List.mem_map.1 hx
        exact (hg i (List.mem_range.1 hi)).2
      · simp only [List.length_map, List.length_range]
        exact Nat.le_trans hw (by decide)
      · refine .inr ⟨b, off, cap, c, ty, fz, by simp, by simpa using hl, hh, trivial, fun i x hx => ?_, fun h => by cases h⟩
        have hi : i < len := by have := (List.getElem?_eq_some_iff.1 hx).1; simpa using this
        rw [List.getElem?_map, List.getElem?_range hi] at hx
        cases hx
        exact (hg i hi).1
  · exact hok.elim
theorem args_open {H : Type} {enc : TypeId × Value → H} {P : Program} {W : World} {r : Reach} {b0 base : Nat} {sp : Nat → Bool} {held : Bool} : ∀ {shs : List Sh} {ts : List TypeId} {vs : List Value} {ds : List (DataW H)} {ps : List MemPlace}, AllOk P shs ts → DataW.TrodAll enc P W base sp held ts vs ds ps →
    (∀ (j : Nat) t v, ts[j]? = some t → vs[j]? = some v → Value.okWide P W r b0 t v) → (∀ (j : Nat) t d, ts[j]? = some t → ds[j]? = some d → ∀ n ∈ d.weights P t, n ≤ reachBytes) → ∃ x : HL shs, ArgsR W shs x vs ∧ rchArgs shs x
  | [], [], _, _, _, _, h, _, _ => by
    obtain ⟨rfl, _, _⟩ := trodAll_nil h
    exact ⟨(), trivial, trivial⟩
  | s :: r, t :: ts, _, _, _, ha, h, hv, hz => by
    obtain ⟨v, vs1, d, ds1, a, b, rfl, rfl, rfl, h1, h2⟩ := trodAll_cons h
    obtain ⟨y, hy, hy2⟩ := args_open ha.2 h2 (fun j t v ht hv' => hv (j + 1) t v (by simpa using ht) (by simpa using hv')) fun j t d ht hd => hz (j + 1) t d (by simpa using ht) (by simpa using hd)
    have hv0 := hv 0 t v rfl rfl
    have hz0 := hz 0 t d rfl rfl
    have key : ∃ x : s.ty, s.arg W x v ∧ rchOf s x := by
      cases s with
      | int k => obtain ⟨n, hn⟩ := open_num ha.1 hv0 h1; exact ⟨n, hn, trivial⟩
      | bool => obtain ⟨b, hb⟩ := open_flag ha.1 hv0 h1; exact ⟨b, hb, trivial⟩
      | agg f => obtain ⟨x, e1, e2⟩ := open_agg f ha.1.1 ha.1.2 hv0 h1; exact ⟨x, ⟨e1, e2⟩, trivial⟩
      | list f =>
        obtain ⟨e, q1, q2, q3, q4⟩ := ha.1
        obtain ⟨l, g1, g2⟩ := open_list f q1 q2 q3 q4 hv0 h1 hz0
        exact ⟨l, g1, g2⟩
      | lists f => exact ha.1.elim
      | map f => exact ha.1.elim
      | lit k z => exact ha.1.elim
    obtain ⟨x, hx, hx2⟩ := key
    exact ⟨(x, y), ⟨hx, hy⟩, hx2, hy2⟩
  | [], _ :: _, _, _, _, ha, _, _, _ => ha.elim
  | _ :: _, [], _, _, _, ha, _, _, _ => ha.elim
theorem trodAll_len {H : Type} {enc : TypeId × Value → H} {P : Program} {W : World} {base : Nat} {sp : Nat → Bool} {held : Bool} : ∀ {ts : List TypeId} {vs : List Value} {ds : List (DataW H)} {ps : List MemPlace}, DataW.TrodAll enc P W base sp held ts vs ds ps → ds.length = ts.length
  | [], _, _, _, h => by obtain ⟨_, rfl, _⟩ := trodAll_nil h; rfl
  | t :: ts, _, _, _, h => by
    obtain ⟨v, vs1, d, ds1, a, b, rfl, rfl, rfl, h1, h2⟩ := trodAll_cons h
    simp [trodAll_len h2]
/-- A law, called: it says true, and its post holds. -/
theorem law_calls {H : Type} {enc : TypeId × Value → H} {P : Program} {f : FuncId} {fn : Func} {s : ChangeSpec} {C : Contract} {apart fresh handsOn : Bool} (hS : Sound P f C) (hp : ∀ x, rchArgs C.args x → C.pre x) (hR : ∀ (x : HL C.args) vs W' own n0, ResR W' own n0 C.res (C.F x) vs 0 → oneV vs = .bool true)
    (hl : laidOutB P = true) (hts : ∀ t ∈ fn.params.toList, P.readableRec t = true ∧ t < P.types.size) {tb : TypeId} (hr : fn.resultTypes = #[tb]) (htb : P.underlying tb = some .bool) (ha : AllOk P C.args fn.params.toList)
    (hv : s.vars = []) (hfn : ∀ ds : List (DataW H), ds.length = fn.params.toList.length → (s.fn H ds).results = [.lit (.bool true)] ∧ (s.fn H ds).args = ds ∧ (s.fn H ds).vars = [])
    {W : World} {base : Nat} {args : Array Value} {ds gs : List (DataW H)} {before : List MemPlace} (hval : ∀ (j : Nat) t v, fn.params[j]? = some t → args[j]? = some v → Value.okWide P W .any base t v)
    (hW : DataW.Whole enc P fn.params.toList s.vars apart W args.toList ds gs before) {vt : List TypeId} (hz : (DataW.weightsEach P (fn.params.toList ++ vt) (ds ++ gs)).all (· ≤ reachBytes) = true) :
    Calls P f args W fun e W' => ∃ v, e = .returned v ∧ s.post enc P fn apart fresh handsOn false W args v W' := by
  have hW0 := hW
  obtain ⟨p, q, hA, hV, rfl, _, _⟩ := hW
  have hgs : gs = [] := by
    rw [hv] at hV
    cases gs with
    | nil => rfl
    | cons _ _ => exact hV.elim
  subst hgs
  obtain ⟨x, hx, hx2⟩ := args_open ha hA (fun j t v ht hv' => hval j t v (by simpa using ht) (by simpa using hv')) fun j t d ht hd n hn => by
    have hlt : j < fn.params.toList.length := (List.getElem?_eq_some_iff.1 ht).1
    have := List.all_eq_true.1 hz n (DataW.weights_mem_each (j := j) (t := t) (d := d) (by rw [List.getElem?_append_left hlt]; exact ht) (by rw [List.append_nil]; exact hd) n hn)
    simpa using this
  have hc := hS x W args.toList hx (hp x hx2)
  refine Calls.mono (R := fun e w' => ∃ vs own, e = .returned (oneV vs) ∧ Below W.heap.size W w' ∧ ResR w' own W.heap.size C.res (C.F x) vs 0) (by simpa using hc) fun e W' he => ?_
  obtain ⟨vs, own, rfl, hb, hres⟩ := he
  rw [hR x vs W' own _ hres]
  have hd := hfn (ds ++ []) (by rw [List.append_nil]; exact trodAll_len hA)
  exact ⟨_, rfl, law_post hl hts hr htb hv hW0 hd.1 (by rw [hd.2.1, List.append_nil]) hd.2.2 hb⟩
theorem res_true {x : HL [.bool]} (hx : x = (true, ())) {vs : List Value} {W' : World} {own : Nat → Option Nat} {n0 : Nat} (h : ResR W' own n0 [.bool] x vs 0) : oneV vs = .bool true := by
  subst hx
  match vs, h with
  | [v], h => exact h.1
  | [], h => exact h.elim
  | _ :: _ :: _, h => exact h.2.elim
end Go.Fx
