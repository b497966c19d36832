/-
  The engine, part 8: building structs, arrays and rows.
-/
import Derived.Test.YthljaepanhdmiaaE7
namespace Go.Fx
open Go RowKit

theorem foldl_set (vs : List Value) : ∀ (j off : Nat) (cs : List Value), off + j + vs.length ≤ cs.length →
    ((vs.zipIdx j).foldl (fun (cs : Array Value) (p : Value × Nat) => cs.setIfInBounds (off + p.2) p.1) cs.toArray) = (cs.take (off + j) ++ vs ++ cs.drop (off + j + vs.length)).toArray := by
  induction vs with
  | nil => intro j off cs h; simp
  | cons v vs ih =>
    intro j off cs h
    simp only [List.length_cons] at h
    rw [List.zipIdx_cons, List.foldl_cons]
    rw [show (cs.toArray.setIfInBounds (off + j) v) = (cs.set (off + j) v).toArray by simp]
    rw [ih (j + 1) off _ (by simp; omega)]
    congr 1
    have e1 : off + (j + 1) = off + j + 1 := by omega
    rw [e1]
    have h1 : (cs.set (off + j) v).take (off + j + 1) = cs.take (off + j) ++ [v] := by
      rw [List.set_eq_take_append_cons_drop, if_pos (by omega)]
      rw [List.take_append, List.take_of_length_le (by simp; omega)]
      simp only [List.length_take]
      rw [Nat.min_eq_left (by omega), show off + j + 1 - (off + j) = 1 by omega]
      rfl
    have h2 : (cs.set (off + j) v).drop (off + j + 1 + vs.length) = cs.drop (off + j + (vs.length + 1)) := by
      rw [List.drop_set_of_lt (by omega)]
      congr 1; omega
    rw [h1, h2, List.length_cons]
    simp
theorem fill_ok {D : Nat → Prop} {R : Nat → Option Res} {α : Al} (h1 : ∀ j, (α.sv j).oneCell' = true) (place : Nat → Option (Nat × Nat)) : ∀ (parts : List (Nat × SV)) (cells cs : List SC),
    fillV place cells parts = some cs → (∀ c ∈ cells, c.good D R) → (∀ p ∈ parts, p.2.good D R) →
    Instr.fill place (cells.map (SC.den α)).toArray (parts.map fun p => (p.1, p.2.den α)) = some (cs.map (SC.den α)).toArray ∧ (∀ c ∈ cs, c.good D R) ∧ ∀ p ∈ parts, p.2 ≠ .any
  | [], cells, cs, h, hc, _ => by
    cases h
    exact ⟨rfl, hc, fun p hp => by cases hp⟩
  | (i, v) :: r, cells, cs, h, hc, hp => by
    cases v with
    | w v =>
      unfold fillV at h
      cases e : place i with
      | none => rw [e] at h; cases h
      | some q =>
        obtain ⟨off, size⟩ := q
        rw [e] at h
        simp only at h
        cases e2 : (Nat.beq v.cells.length size && Nat.ble (off + size) cells.length) with
        | false => rw [e2] at h; cases h
        | true =>
          rw [e2] at h
          simp only at h
          rw [Bool.and_eq_true] at e2
          have e3 := Nat.eq_of_beq_eq_true e2.1
          have e4 : off + size ≤ cells.length := by simpa using e2.2
          have hv : v.good D R := hp _ (List.mem_cons_self ..)
          have hg : ∀ c ∈ v.cells, c.good D R := by
            cases v with
            | c x => intro c hc; simp only [SW.cells, List.mem_singleton] at hc; subst hc; exact hv
            | agg l => exact hv
          obtain ⟨q1, q2, q3⟩ := fill_ok h1 place r _ cs h (fun c hc' => by
            rcases List.mem_append.1 hc' with hc' | hc'
            · rcases List.mem_append.1 hc' with hc' | hc'
              · exact hc c (List.mem_of_mem_take hc')
              · exact hg c hc'
            · exact hc c (List.mem_of_mem_drop hc')) (fun p hp' => hp p (List.mem_cons_of_mem _ hp'))
          refine ⟨?_, q2, fun p hp' => ?_⟩
          · simp only [List.map_cons, Instr.fill, e, SV.den, cells_den h1]
            rw [if_neg (by simp; omega)]
            rw [← q1]
            congr 1
            rw [← Array.foldl_toList]
            have := foldl_set (v.cells.map (SC.den α)) 0 off (cells.map (SC.den α)) (by simp; omega)
            simp only [Nat.add_zero] at this
            simp only [Array.toList_zipIdx]
            rw [this]
            simp [e3]
          · rcases List.mem_cons.1 hp' with rfl | hp'
            · exact fun e => by cases e
            · exact q3 p hp'
    | tup vs => simp [fillV] at h
    | any => simp [fillV] at h
theorem reps_den {α : Al} (z : List SC) : ∀ n, (reps z n).map (SC.den α) = ((List.range (n * z.length)).map fun i => (z.map (SC.den α)).toArray[i % z.length]!)
  | 0 => by simp [reps]
  | n + 1 => by
    have ih := reps_den (α := α) z n
    rcases Nat.eq_zero_or_pos z.length with h0 | hpos
    · have h0' : z = [] := List.eq_nil_of_length_eq_zero h0
      subst h0'
      have hr : ∀ n, reps ([] : List SC) n = [] := fun n => by
        induction n with
        | zero => rfl
        | succ n ih => simpa [reps] using ih
      rw [hr]; rfl
    · rw [Nat.succ_mul, Nat.add_comm (n * z.length), List.range_add, List.map_append, show reps z (n + 1) = z ++ reps z n from rfl, List.map_append]
      congr 1
      · apply List.ext_getElem
        · simp
        · intro k h1 h2
          simp only [List.getElem_map, List.getElem_range]
          have hk : k < z.length := by simpa using h1
          rw [Nat.mod_eq_of_lt hk]
          simp [hk]
      · rw [ih, List.map_map]
        apply List.map_congr_left
        intro k _
        simp
theorem reps_good {D : Nat → Prop} {R : Nat → Option Res} {z : List SC} (h : ∀ c ∈ z, c.good D R) : ∀ n, ∀ c ∈ reps z n, c.good D R
  | 0, c, hc => by cases hc
  | n + 1, c, hc => by
    rcases List.mem_append.1 hc with hc | hc
    · exact h c hc
    · exact reps_good h n c hc
theorem reps_length (z : List SC) : ∀ n, (reps z n).length = n * z.length
  | 0 => by simp [reps]
  | n + 1 => by simp [reps, reps_length z n, Nat.succ_mul]; omega

theorem fields_run {E : Env} (w : World) : ∀ (fs : List Field) (l : List (Nat × Nat)), fieldsOf E fs = some l →
    (fs.mapM fun f => do pure (f.offset, ← sizeOf f.type) : Sem (List (Nat × Nat))).run E.P w = .ok l w
  | [], l, h => by cases h; rfl
  | f :: r, l, h => by
    unfold fieldsOf at h
    cases e : E.size f.type with
    | none => rw [e] at h; cases h
    | some n =>
      cases e2 : fieldsOf E r with
      | none => rw [e, e2] at h; cases h
      | some l' =>
        rw [e, e2] at h; cases h
        simp only [List.mapM_cons, Sem.run_bind, size_run e, Result.andThen_ok, Sem.run_pure, fields_run w r l' e2]
theorem evp_den {E : Env} {S : St} {D : Nat → Prop} {α : Al} {a : Act} (T : TRel D S.res α S.nt S.get a.tmps) : ∀ (l : List (Nat × Operand)), (∀ p ∈ S.evp l, p.2 ≠ .any) →
    (l.map fun p => (p.1, a.eval p.2)) = (S.evp l).map fun p => (p.1, p.2.den α)
  | [], _ => rfl
  | x :: r, h => by
    have h1 := ev_den T (x := x.2) (h (x.1, S.ev x.2) (List.mem_cons_self ..))
    have h2 := evp_den (E := E) T r (fun p hp => h p (List.mem_cons_of_mem _ hp))
    simp only [St.evp, List.map_cons, h1, h2]
theorem evp_good {S : St} {D : Nat → Prop} {α : Al} {a : Act} (T : TRel D S.res α S.nt S.get a.tmps) : ∀ (l : List (Nat × Operand)), ∀ p ∈ S.evp l, p.2.good D S.res
  | [], p, hp => by cases hp
  | x :: r, p, hp => by
    rcases List.mem_cons.1 hp with rfl | hp
    · exact ev_good T x.2
    · exact evp_good T r p hp
theorem build_ok {E : Env} {D : Nat → Prop} {R : Nat → Option Res} {α : Al} (h1 : ∀ j, (α.sv j).oneCell' = true) {t : TypeId} {parts : List (Nat × SV)} {side : Option Prop} {v : SV}
    (h : buildV E t parts = .val side v) (hg : ∀ p ∈ parts, p.2.good D R) (w : World) :
    (Instr.build t (parts.map fun p => (p.1, p.2.den α)).toArray).run E.P w = .ok (v.den α) w ∧ v.good D R ∧ v ≠ .any ∧ ∀ p ∈ parts, p.2 ≠ .any := by
  unfold buildV at h
  cases e0 : E.zero t with
  | none => rw [e0] at h; simp at h
  | some z =>
    have hz : ∀ c ∈ z.cells, c.good D R := by
      have := zero_good e0 D R
      cases z with
      | c x => intro c hc; simp only [SW.cells, List.mem_singleton] at hc; subst hc; exact this
      | agg l => exact this
    rw [e0] at h
    split at h
    · rename_i z' fs hz' hu
      cases hz'
      cases e1 : fieldsOf E fs.toList with
      | none => rw [e1] at h; cases h
      | some l =>
        rw [e1] at h
        simp only at h
        cases e2 : fillV (fun i => l[i]?) z.cells parts with
        | none => rw [e2] at h; cases h
        | some cs =>
          rw [e2] at h; cases h
          obtain ⟨q1, q2, q3⟩ := fill_ok h1 _ parts _ _ e2 hz hg
          have hm : (fs.mapM fun f => do pure (f.offset, ← sizeOf f.type) : Sem (Array (Nat × Nat))).run E.P w = .ok l.toArray w := by
            rw [Array.mapM_eq_mapM_toList]
            simp only [Sem.run_map, fields_run w _ _ e1, Result.andThen_ok]
          have hpl : (fun i : Nat => l.toArray[i]?) = fun i : Nat => l[i]? := by funext i; simp
          refine ⟨?_, q2, (fun e => by cases e), q3⟩
          simp only [Instr.build, Sem.run_bind, zero_run e0 α, Result.andThen_ok, und_run hu, hm, cells_den h1, hpl, q1]
          rfl
    · rename_i z' n elem hz' hu
      cases hz'
      cases e1 : E.size elem with
      | none => rw [e1] at h; cases h
      | some sz =>
        rw [e1] at h
        simp only at h
        cases e2 : fillV (fun i => some (i * sz, sz)) z.cells parts with
        | none => rw [e2] at h; cases h
        | some cs =>
          rw [e2] at h; cases h
          obtain ⟨q1, q2, q3⟩ := fill_ok h1 _ parts _ _ e2 hz hg
          refine ⟨?_, q2, (fun e => by cases e), q3⟩
          simp only [Instr.build, Sem.run_bind, zero_run e0 α, Result.andThen_ok, und_run hu, size_run e1, cells_den h1, q1]
          rfl
    · cases h

end Go.Fx
