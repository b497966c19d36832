/-
  The engine, part 5: one operation.
-/
import Derived.Test.YthljaepanhdmiaaE4
namespace Go.Fx
open Go RowKit

section
variable {D : Nat → Prop} {R : Nat → Option Res} {α : Al}
theorem cellOf_den {v : Value} {c : SC} (h : cellOf v = some c) : c.den α = v ∧ c.good D R := by
  unfold cellOf at h
  split at h
  · cases h; exact ⟨rfl, lit_ok _⟩
  · cases h; exact ⟨rfl, fun x hx => by cases hx; rfl⟩
  · cases h; exact ⟨rfl, trivial⟩
  · cases h
theorem cellsOf_den : ∀ {l : List Value} {cs : List SC}, cellsOf l = some cs → cs.map (SC.den α) = l ∧ ∀ c ∈ cs, c.good D R
  | [], cs, h => by cases h; exact ⟨rfl, fun c hc => by cases hc⟩
  | v :: r, cs, h => by
    unfold cellsOf at h
    split at h
    · rename_i c cs' h1 h2
      cases h
      obtain ⟨q1, q2⟩ := cellOf_den (D := D) (R := R) (α := α) h1
      obtain ⟨q3, q4⟩ := cellsOf_den h2
      refine ⟨by simp [q1, q3], fun x hx => ?_⟩
      rcases List.mem_cons.1 hx with rfl | hx
      · exact q2
      · exact q4 x hx
    · cases h
theorem ofValue_den {v : Value} {x : SW} (h : ofValue v = some x) : x.den α = v ∧ x.good D R := by
  unfold ofValue at h
  split at h
  · rename_i cs
    cases e : cellsOf cs.toList with
    | none => rw [e] at h; cases h
    | some l =>
      rw [e] at h; cases h
      obtain ⟨q1, q2⟩ := cellsOf_den (D := D) (R := R) (α := α) e
      exact ⟨by simp [SW.den, q1], q2⟩
  · cases e : cellOf v with
    | none => simp [e] at h
    | some c =>
      simp only [e, Option.map_some, Option.some.injEq] at h; subst h
      obtain ⟨q1, q2⟩ := cellOf_den (D := D) (R := R) (α := α) e
      exact ⟨q1, q2⟩
end

section
variable {E : Env} {S : St} {D : Nat → Prop} {α : Al} {a : Act}
theorem ev_den (T : TRel D S.res α S.nt S.get a.tmps) {x : Operand} (hx : S.ev x ≠ .any) : a.eval x = (S.ev x).den α := by
  cases x with
  | tmp t =>
    simp only [St.ev] at hx ⊢
    cases e : Nat.blt t S.nt with
    | false => rw [e] at hx; exact absurd rfl hx
    | true =>
      rw [e] at hx
      have hlt : t < S.nt := by simpa [Nat.blt_eq] using e
      show a.tmps.getD t undef = _
      rw [Array.getD_eq_getD_getElem?, T.den t hlt hx]; rfl
  | const v =>
    simp only [St.ev] at hx ⊢
    cases e : ofValue v with
    | none => rw [e] at hx; exact absurd rfl hx
    | some y => exact (ofValue_den (D := D) (R := S.res) e).1.symm
  | func f => rfl
  | global g => exact absurd rfl hx
theorem ev_good (T : TRel D S.res α S.nt S.get a.tmps) (x : Operand) : (S.ev x).good D S.res := by
  cases x with
  | tmp t =>
    simp only [St.ev]
    cases e : Nat.blt t S.nt with
    | false => trivial
    | true => exact T.good t (by simpa [Nat.blt_eq] using e)
  | const v =>
    simp only [St.ev]
    cases e : ofValue v with
    | none => trivial
    | some y => exact (ofValue_den (D := D) (R := S.res) (α := α) e).2
  | func f => exact fun p hp => by cases hp
  | global g => trivial
/-- What an operand is, where its value is known. -/
theorem ev_w (T : TRel D S.res α S.nt S.get a.tmps) {x : Operand} {y : SW} (h : S.ev x = .w y) : a.eval x = y.den α ∧ y.good D S.res := by
  have h1 := ev_den T (x := x) (by rw [h]; exact fun e => by cases e)
  have h2 := ev_good T x
  rw [h] at h1 h2
  exact ⟨h1, h2⟩
theorem ev_c (T : TRel D S.res α S.nt S.get a.tmps) {x : Operand} {y : SC} (h : S.ev x = .w (.c y)) : a.eval x = y.den α ∧ y.good D S.res := ev_w T h
end

/-! ### Types -/
theorem isAgg_run {E : Env} {t : TypeId} {b : Bool} (h : E.isAgg t = some b) (w : World) : (isAgg t).run E.P w = .ok b w := by
  unfold Env.isAgg at h
  unfold isAgg underlying
  split at h <;> cases h <;> simp_all
theorem size_run {E : Env} {t : TypeId} {n : Nat} (h : E.size t = some n) (w : World) : (sizeOf t).run E.P w = .ok n w := by
  unfold Env.size at h
  unfold sizeOf typeInfo
  cases e : E.P.info? t with
  | none => rw [e] at h; cases h
  | some i => rw [e] at h; cases h; simp [e]
theorem und_run {P : Program} {t : TypeId} {d : TypeDesc} (h : P.underlying t = some d) (w : World) : (underlying t).run P w = .ok d w := by
  unfold underlying; simp [h]
theorem zero_run {E : Env} {t : TypeId} {z : SW} (h : E.zero t = some z) (α : Al) (w : World) : (zeroValue t).run E.P w = .ok (z.den α) w := by
  unfold Env.zero at h
  unfold zeroValue typeInfo
  cases e : E.P.info? t with
  | none => rw [e] at h; cases h
  | some i =>
    rw [e] at h
    simp only at h
    cases e2 : i.zero with
    | none => rw [e2] at h; cases h
    | some v =>
      rw [e2] at h
      have := (ofValue_den (D := fun _ => True) (R := fun _ => none) (α := α) h).1
      simp [e, e2, this]
theorem zero_good {E : Env} {t : TypeId} {z : SW} (h : E.zero t = some z) (D : Nat → Prop) (R : Nat → Option Res) : z.good D R := by
  unfold Env.zero at h
  cases e : E.P.info? t with
  | none => rw [e] at h; cases h
  | some i =>
    rw [e] at h
    simp only at h
    cases e2 : i.zero with
    | none => rw [e2] at h; cases h
    | some v => rw [e2] at h; exact (ofValue_den (D := D) (R := R) (α := ⟨fun _ => 0, fun _ => undef⟩) h).2
theorem den_noAgg {α : Al} (h1 : ∀ j, (α.sv j).oneCell' = true) (c : SC) (l : Array Value) : c.den α ≠ .agg l := by
  cases c with
  | sl j => intro e; have := h1 j; rw [show α.sv j = .agg l from e] at this; cases this
  | lptr j n i c => simp only [SC.den]; split <;> exact fun e => by cases e
  | _ => exact fun e => by cases e
theorem den_one {α : Al} (h1 : ∀ j, (α.sv j).oneCell' = true) {c : SC} (hu : c ≠ .undef) : (c.den α).oneCell' = true := by
  cases c with
  | sl j => exact h1 j
  | lptr j n i c => simp only [SC.den]; split <;> rfl
  | undef => exact absurd rfl hu
  | _ => rfl
theorem cells_den {α : Al} (h1 : ∀ j, (α.sv j).oneCell' = true) (v : SW) : (v.den α).cells = (v.cells.map (SC.den α)).toArray := by
  cases v with
  | agg cs => rfl
  | c x =>
    have := den_noAgg h1 x
    simp only [SW.den, SW.cells, List.map_cons, List.map_nil]
    cases e : x.den α <;> first | rfl | exact absurd e (this _)

/-! ### A part of a row -/
theorem extract_map {α : Al} (cs : List SC) (off n : Nat) : ((cs.map (SC.den α)).toArray.extract off (off + n)) = (((cs.drop off).take n).map (SC.den α)).toArray := by
  rw [List.extract_toArray]
  congr 1
  rw [List.map_take, List.map_drop]
  simp [List.extract]
theorem part_run {E : Env} {t : TypeId} {cs : List SC} {off : Nat} {v : SW} (h : partV E t cs off = some v) (α : Al) (w : World) :
    (part t (cs.map (SC.den α)).toArray off).run E.P w = .ok (v.den α) w := by
  unfold partV at h
  unfold part
  cases e : E.isAgg t with
  | none => rw [e] at h; cases h
  | some b =>
    rw [e] at h
    cases b with
    | true =>
      simp only at h
      cases e2 : E.size t with
      | none => rw [e2] at h; cases h
      | some n =>
        rw [e2] at h
        simp only at h
        cases e3 : Nat.ble (off + n) cs.length with
        | false => rw [e3] at h; cases h
        | true =>
          rw [e3] at h; cases h
          simp only [Sem.run_bind, isAgg_run e, Result.andThen_ok, if_true, size_run e2, Sem.run_pure]
          rw [extract_map]; rfl
    | false =>
      simp only at h
      cases e2 : cs[off]? with
      | none => rw [e2] at h; cases h
      | some c =>
        rw [e2] at h; cases h
        simp only [Sem.run_bind, isAgg_run e, Result.andThen_ok, Bool.false_eq_true, if_false]
        simp [e2, SW.den]
theorem part_good {E : Env} {t : TypeId} {cs : List SC} {off : Nat} {v : SW} (h : partV E t cs off = some v) {D : Nat → Prop} {R : Nat → Option Res} (hg : ∀ c ∈ cs, c.good D R) : v.good D R := by
  unfold partV at h
  split at h
  · split at h
    · split at h
      · cases h; exact fun c hc => hg c (List.mem_of_mem_drop (List.mem_of_mem_take hc))
      · cases h
    · cases h
  · split at h
    · rename_i c hc; cases h; exact hg c (List.mem_of_getElem? hc)
    · cases h
  · cases h
theorem loadVar_run {E : Env} {t : TypeId} {cs : List SC} {off : Nat} {v : SW} (h : partV E t cs off = some v) (α : Al) (w : World) (b base : Nat)
    (hc : ∀ k c, cs[k]? = some c → w.cell? ⟨b, base + k, none⟩ = some (c.den α)) : (loadVar t ⟨b, base + off, none⟩).run E.P w = .ok (v.den α) w := by
  unfold partV at h
  unfold loadVar
  cases e : E.isAgg t with
  | none => rw [e] at h; cases h
  | some ag =>
    rw [e] at h
    cases ag with
    | true =>
      simp only at h
      cases e2 : E.size t with
      | none => rw [e2] at h; cases h
      | some n =>
        rw [e2] at h
        simp only at h
        cases e3 : Nat.ble (off + n) cs.length with
        | false => rw [e3] at h; cases h
        | true =>
          rw [e3] at h; cases h
          have hle : off + n ≤ cs.length := by simpa using e3
          have hl := run_loadCells_list (P := E.P) (w := w) ⟨b, base + off, none⟩ (((cs.drop off).take n).map (SC.den α)) (fun j v hj => by
            rw [Addr.add_mid]
            rw [List.getElem?_map] at hj
            cases e4 : ((cs.drop off).take n)[j]? with
            | none => rw [e4] at hj; cases hj
            | some c =>
              rw [e4] at hj; cases hj
              rw [List.getElem?_take] at e4
              split at e4
              · rw [List.getElem?_drop] at e4
                have := hc _ _ e4
                rwa [← Nat.add_assoc] at this
              · cases e4)
          have hlen : (((cs.drop off).take n).map (SC.den α)).length = n := by simp; omega
          rw [hlen] at hl
          simp only [Sem.run_bind, isAgg_run e, Result.andThen_ok, if_true, size_run e2, hl, Sem.run_pure]
          rfl
    | false =>
      simp only at h
      cases e2 : cs[off]? with
      | none => rw [e2] at h; cases h
      | some c =>
        rw [e2] at h; cases h
        have := hc _ _ e2
        simp [isAgg_run e, this, SW.den]

end Go.Fx
