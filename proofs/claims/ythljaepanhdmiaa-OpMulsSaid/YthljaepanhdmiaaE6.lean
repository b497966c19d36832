/-
  The engine, part 6: '==' at structs and arrays of integers.
-/
import Derived.Test.YthljaepanhdmiaaE5
import Derived.ChangeKeysEq
namespace Go.Fx
open Go RowKit

inductive Pair : List SC → List SC → Prop
  | nil : Pair [] []
  | cons {k : IntKind} {i j : SI} {r s : List SC} : Pair r s → Pair (.int k i :: r) (.int k j :: s)
def eqB : List SC → List SC → Bool
  | .int _ i :: r, .int _ j :: s => (i.v == j.v) && eqB r s
  | _, _ => true
theorem Pair.length {a b : List SC} (h : Pair a b) : a.length = b.length := by
  induction h with
  | nil => rfl
  | cons _ ih => simp [ih]
theorem Pair.drop {a b : List SC} (h : Pair a b) : ∀ n, Pair (a.drop n) (b.drop n) := by
  induction h with
  | nil => intro n; simp; exact .nil
  | cons h ih => intro n; cases n with
    | zero => exact .cons h
    | succ n => simpa using ih n
theorem Pair.take {a b : List SC} (h : Pair a b) : ∀ n, Pair (a.take n) (b.take n) := by
  induction h with
  | nil => intro n; simp; exact .nil
  | cons h ih => intro n; cases n with
    | zero => simp; exact .nil
    | succ n => simpa using Pair.cons (ih n)
theorem eqB_append {a c : List SC} (h : Pair a c) (b d : List SC) : eqB (a ++ b) (c ++ d) = (eqB a c && eqB b d) := by
  induction h with
  | nil => simp [eqB]
  | cons h ih => simp [eqB, ih, Bool.and_assoc]
theorem eqB_split {a c : List SC} (h : Pair a c) (n : Nat) : eqB a c = (eqB (a.take n) (c.take n) && eqB (a.drop n) (c.drop n)) := by
  rw [← eqB_append (h.take n), List.take_append_drop, List.take_append_drop]
/-- Cells as a value of a type. -/
def valT (P : Program) (t : TypeId) (xs : List SC) : SW := match P.underlying t with
  | some (.int _) => match xs with
    | [x] => .c x
    | _ => .agg xs
  | _ => .agg xs
theorem flat_part {E : Env} {n : Nat} {t : TypeId} {m : Nat} (h : flatLen E.P n t = some m) {i : TypeInfo} (hi : E.P.info? t = some i) (hm : i.size = m) {cs : List SC} {off : Nat} (ho : off + m ≤ cs.length) :
    partV E t cs off = some (valT E.P t ((cs.drop off).take m)) := by
  cases n with
  | zero => cases h
  | succ n =>
    have hsz : E.size t = some m := by simp [Env.size, hi, hm]
    unfold flatLen at h
    unfold partV valT Env.isAgg
    cases hu : E.P.underlying t with
    | none => rw [hu] at h; cases h
    | some d =>
      rw [hu] at h
      cases d with
      | int k =>
        cases h
        simp only
        obtain ⟨c, hc⟩ : ∃ c, cs[off]? = some c := ⟨cs[off]'(by omega), List.getElem?_eq_getElem (by omega)⟩
        have e : (cs.drop off).take 1 = [c] := by
          obtain ⟨h', rfl⟩ := List.getElem?_eq_some_iff.1 hc
          rw [List.drop_eq_getElem_cons h']; rfl
        rw [hc, e]
      | array len e =>
        have hb : Nat.ble (off + m) cs.length = true := by simpa using ho
        simp only [hsz, hb]
      | struct fs =>
        have hb : Nat.ble (off + m) cs.length = true := by simpa using ho
        simp only [hsz, hb]
      | _ => cases h

def FlatEq (P : Program) (t : TypeId) (m d : Nat) : Prop :=
  ∀ (α : Al) (w : World) (xs ys : List SC), Pair xs ys → xs.length = m → (Op.equalIn d t ((valT P t xs).den α) ((valT P t ys).den α)).run P w = .ok (eqB xs ys) w
theorem eq_fields {E : Env} {len : TypeId → Option Nat} {d : Nat} (hlen : ∀ t m, len t = some m → (∃ n, flatLen E.P n t = some m) ∧ FlatEq E.P t m d) (α : Al) (w : World) :
    ∀ (fs : List Field) (off m : Nat) (xs ys : List SC), Pair xs ys → xs.length = m → fieldsLen E.P len off fs = some m →
      (Op.eqFields d (xs.map (SC.den α)).toArray (ys.map (SC.den α)).toArray fs).run E.P w = .ok (eqB (xs.drop off) (ys.drop off)) w
  | [], off, m, xs, ys, hp, hl, h => by
    simp only [fieldsLen, Option.some.injEq] at h
    subst h
    have h1 : xs.drop off = [] := List.drop_eq_nil_of_le (by omega)
    rw [h1]
    simp [Op.eqFields, eqB]
  | f :: fs, off, m, xs, ys, hp, hl, h => by
    unfold fieldsLen at h
    cases h1 : len f.type with
    | none => rw [h1] at h; cases h
    | some k =>
      cases h2 : E.P.info? f.type with
      | none => rw [h1, h2] at h; cases h
      | some i =>
        rw [h1, h2] at h
        simp only at h
        cases h3 : ((f.name != "_") && Nat.beq f.offset off && Nat.beq i.size k) with
        | false => rw [h3] at h; cases h
        | true =>
          rw [h3] at h
          simp only at h
          rw [Bool.and_eq_true, Bool.and_eq_true] at h3
          obtain ⟨⟨h4, h5⟩, h6⟩ := h3
          have h5 := Nat.eq_of_beq_eq_true h5
          have h6 := Nat.eq_of_beq_eq_true h6
          obtain ⟨⟨n, hn⟩, hfe⟩ := hlen _ _ h1
          have hle : off + k ≤ m := by
            clear hfe hn
            have : ∀ (fs : List Field) (off m : Nat), fieldsLen E.P len off fs = some m → off ≤ m := by
              intro fs
              induction fs with
              | nil => intro off m h; simp only [fieldsLen, Option.some.injEq] at h; omega
              | cons g gs ih =>
                intro off m h
                unfold fieldsLen at h
                split at h
                · split at h
                  · have := ih _ _ h; omega
                  · cases h
                · cases h
            exact this _ _ _ h
          have hy : ys.length = m := by rw [← hp.length]; exact hl
          have hx1 := part_run (flat_part hn h2 h6 (cs := xs) (off := off) (by omega)) α w
          have hy1 := part_run (flat_part hn h2 h6 (cs := ys) (off := off) (by omega)) α w
          have he := hfe α w _ _ ((hp.drop off).take k) (by simp; omega)
          have ih := eq_fields hlen α w fs (off + k) m xs ys hp hl h
          have hname : f.name ≠ "_" := by simpa using h4
          simp only [Op.eqFields, hname, ne_eq, not_false_eq_true, if_true, Sem.run_bind, h5, hx1, hy1, Result.andThen_ok, he]
          rw [eqB_split (hp.drop off) k, List.drop_drop, List.drop_drop]
          cases eqB ((xs.drop off).take k) ((ys.drop off).take k) with
          | true => simpa using ih
          | false => simp
theorem eq_items {E : Env} {d : Nat} {e : TypeId} {k n : Nat} (hn : flatLen E.P n e = some k) {i : TypeInfo} (hi : E.P.info? e = some i) (hk : i.size = k) (hfe : FlatEq E.P e k d) (α : Al) (w : World) :
    ∀ (len j : Nat) (xs ys : List SC), Pair xs ys → xs.length = (j + len) * k →
      (Op.eqItems d e k (xs.map (SC.den α)).toArray (ys.map (SC.den α)).toArray (List.range' j len)).run E.P w = .ok (eqB (xs.drop (j * k)) (ys.drop (j * k))) w
  | 0, j, xs, ys, hp, hl => by
    have h1 : xs.drop (j * k) = [] := List.drop_eq_nil_of_le (by rw [hl]; simp)
    rw [h1]
    simp [Op.eqItems, eqB]
  | len + 1, j, xs, ys, hp, hl => by
    have hle : j * k + k ≤ xs.length := by rw [hl, ← Nat.succ_mul]; exact Nat.mul_le_mul_right _ (by omega)
    have hy := hp.length
    have hx1 := part_run (flat_part hn hi hk (cs := xs) (off := j * k) hle) α w
    have hy1 := part_run (flat_part hn hi hk (cs := ys) (off := j * k) (by omega)) α w
    have he := hfe α w _ _ ((hp.drop (j * k)).take k) (by simp; omega)
    have ih := eq_items hn hi hk hfe α w len (j + 1) xs ys hp (by rw [hl]; congr 1; omega)
    rw [List.range'_succ]
    simp only [Op.eqItems, Sem.run_bind, hx1, hy1, Result.andThen_ok, he]
    rw [eqB_split (hp.drop (j * k)) k, List.drop_drop, List.drop_drop]
    cases eqB ((xs.drop (j * k)).take k) ((ys.drop (j * k)).take k) with
    | true => simpa [Nat.succ_mul] using ih
    | false => simp
theorem eq_flat {E : Env} : ∀ (n : Nat) (t : TypeId) (m : Nat), flatLen E.P n t = some m → ∀ d, n ≤ d → FlatEq E.P t m d
  | 0, _, _, h, _, _ => by cases h
  | n + 1, t, m, h, d, hd => by
    intro α w xs ys hp hl
    obtain ⟨d, rfl⟩ : ∃ d', d = d' + 1 := ⟨d - 1, by omega⟩
    have h0 := h
    unfold flatLen at h
    unfold valT
    cases hu : E.P.underlying t with
    | none => rw [hu] at h; cases h
    | some q =>
      rw [hu] at h
      cases q with
      | int k' =>
        cases h
        cases hp with
        | nil => cases hl
        | cons hp' =>
          cases hp' with
          | nil => simp only [SW.den, SC.den]; rw [run_equalIn_int w d t _ _ _ _ hu]; simp [eqB]
          | cons _ => simp at hl
      | array len e =>
        simp only at h
        cases h1 : flatLen E.P n e with
        | none => rw [h1] at h; cases h
        | some k =>
          cases h2 : E.P.info? e with
          | none => rw [h1, h2] at h; cases h
          | some i =>
            rw [h1, h2] at h
            simp only at h
            cases h3 : Nat.beq i.size k with
            | false => rw [h3] at h; cases h
            | true =>
              rw [h3] at h
              cases h
              have hk : i.size = k := Nat.eq_of_beq_eq_true h3
              have hc : E.P.cellsOf e = k := by simp [Program.cellsOf, h2, hk]
              have := eq_items h1 h2 hk (eq_flat n e k h1 d (by omega)) α w len 0 xs ys hp (by rw [hl]; simp)
              simp only [SW.den]
              rw [run_equalIn_array w d _ _ hu h2, hc, List.range_eq_range']
              simpa using this
      | struct fs =>
        simp only at h
        cases h1 : E.P.stoodInHeld t with
        | true => rw [h1] at h; cases h
        | false =>
          rw [h1] at h
          simp only at h
          have hf : E.P.fieldsOf t = fs := by simp [Program.fieldsOf, hu]
          have := eq_fields (E := E) (len := flatLen E.P n) (d := d) (fun t m ht => ⟨⟨n, ht⟩, eq_flat n t m ht d (by omega)⟩) α w fs.toList 0 m xs ys hp hl h
          simp only [SW.den]
          rw [run_equalIn_struct w d t _ _ (by rw [hf]; exact hu) h1, hf]
          simpa using this
      | _ => cases h
theorem eqCells_ok : ∀ {xs ys : List SC} {x : Bool} {t : Option Bool}, eqCells xs ys = some (x, t) → (∀ c ∈ xs, c.ok0) → (∀ c ∈ ys, c.ok0) → Pair xs ys ∧ x = eqB xs ys ∧ (∀ b, t = some b → x = b)
  | [], [], x, t, h, _, _ => by cases h; exact ⟨.nil, rfl, fun b hb => by cases hb; rfl⟩
  | .int k a :: r, .int k' b :: s, x, t, h, ha, hb => by
    unfold eqCells at h
    cases h1 : keq k k' with
    | false => rw [h1] at h; simp at h
    | true =>
      obtain rfl := keq_eq h1
      cases h2 : eqCells r s with
      | none => rw [h1, h2] at h; cases h
      | some p =>
        obtain ⟨y, u⟩ := p
        rw [h1, h2] at h
        simp only at h
        obtain ⟨q1, q2, q3⟩ := eqCells_ok h2 (fun c hc => ha c (List.mem_cons_of_mem _ hc)) (fun c hc => hb c (List.mem_cons_of_mem _ hc))
        have oa : a.ok := ha (.int k a) (List.mem_cons_self ..)
        have ob : b.ok := hb (.int k b) (List.mem_cons_self ..)
        refine ⟨.cons q1, ?_⟩
        simp only [eqB]
        cases h3 : (ile (a.hi + 1) b.lo || ile (b.hi + 1) a.lo) with
        | true =>
          rw [h3] at h; cases h
          rw [Bool.or_eq_true, ile_iff, ile_iff] at h3
          have hne : a.v ≠ b.v := by have := oa.1; have := oa.2; have := ob.1; have := ob.2; omega
          exact ⟨by simp [hne], fun z hz => by cases hz; rfl⟩
        | false =>
          rw [h3] at h
          have gen : ∀ z v, (band (beq a.v b.v) y, tagF u) = (z, v) → z = (a.v == b.v && eqB r s) ∧ ∀ b', v = some b' → z = b' := by
            intro z v e
            cases e
            refine ⟨by simp only [band, beq, q2]; congr 1, fun b' hb' => ?_⟩
            cases u with
            | none => cases hb'
            | some ub =>
              cases ub with
              | true => cases hb'
              | false =>
                cases hb'
                have := q3 false rfl
                simp [band, this]
          cases h4 : a.lit? with
          | none => rw [h4] at h; exact gen x t (by simpa using h)
          | some n =>
            cases h5 : b.lit? with
            | none => rw [h4, h5] at h; exact gen x t (by simpa using h)
            | some n' =>
              rw [h4, h5] at h
              simp only [Option.some.injEq, Prod.mk.injEq] at h
              obtain ⟨rfl, rfl⟩ := h
              obtain ⟨e1, e2, e3⟩ := SI.lit?_eq oa h4
              obtain ⟨e4, e5, e6⟩ := SI.lit?_eq ob h5
              have : a.v = b.v := by
                rw [Bool.or_eq_false_iff, ile_false, ile_false] at h3
                omega
              exact ⟨by simp [this, q2], q3⟩
  | [], _ :: _, _, _, h, _, _ => by simp [eqCells] at h
  | .int _ _ :: _, [], _, _, h, _, _ => by simp [eqCells] at h

end Go.Fx
