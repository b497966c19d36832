/-
  The engine, part 7: each operation that reads gives the value that the executor says.
-/
import Derived.Test.YthljaepanhdmiaaE6
namespace Go.Fx
open Go RowKit

def sideH : Option Prop → Prop
  | none => True
  | some p => p
theorem sideAnd_iff {s : Option Prop} {p : Prop} : sideAnd s p ↔ sideH s ∧ p := by
  cases s <;> simp [sideAnd, sideH]

section
variable {E : Env} {S : St} {D : Nat → Prop} {R : Nat → Option Res} {α : Al}
theorem goodI {k : IntKind} {i : SI} (h : i.ok) : (SV.w (.c (.int k i))).good D R := h
theorem cmpI_ok {op : BinOp} {a b : SI} {side : Option Prop} {v : SV} (h : cmpI op a b = .val side v) (ha : a.ok) (hb : b.ok) :
    ∃ c t, v = .w (.c (.bool c t)) ∧ (∀ x, t = some x → c = x) ∧ Op.intCmp op a.v b.v = pure (.bool c) := by
  obtain ⟨a1, a2⟩ := ha; obtain ⟨b1, b2⟩ := hb
  have fin : ∀ {c : Bool} {t : Option Bool}, okB c t = .val side v → (∀ x, t = some x → c = x) → Op.intCmp op a.v b.v = pure (.bool c) →
      ∃ c t, v = .w (.c (.bool c t)) ∧ (∀ x, t = some x → c = x) ∧ Op.intCmp op a.v b.v = pure (.bool c) := fun {c t} e h1 h2 => by
    cases e; exact ⟨c, t, rfl, h1, h2⟩
  have lit : ∀ {c : Bool}, ∀ x, some c = some x → c = x := fun x hx => by cases hx; rfl
  have non : ∀ {c : Bool}, ∀ x, (none : Option Bool) = some x → c = x := fun x hx => by cases hx
  cases op <;> simp only [cmpI] at h <;> try (cases h; done)
  case eql =>
    cases e1 : (ile (a.hi + 1) b.lo || ile (b.hi + 1) a.lo) with
    | true =>
      rw [e1] at h
      rw [Bool.or_eq_true, ile_iff, ile_iff] at e1
      exact fin h lit (by simp only [Op.intCmp]; congr 2; simp; omega)
    | false =>
      rw [e1] at h
      rw [Bool.or_eq_false_iff, ile_false, ile_false] at e1
      have gen : Op.intCmp .eql a.v b.v = pure (.bool (beq a.v b.v)) := by simp only [Op.intCmp, beq]; congr 2
      cases e2 : a.lit? with
      | none => rw [e2] at h; exact fin h non gen
      | some n =>
        cases e3 : b.lit? with
        | none => rw [e2, e3] at h; exact fin h non gen
        | some m =>
          rw [e2, e3] at h
          have q1 := SI.lit?_eq ⟨a1, a2⟩ e2
          have q2 := SI.lit?_eq ⟨b1, b2⟩ e3
          exact fin h lit (by simp only [Op.intCmp]; congr 2; simp; omega)
  case neq =>
    cases e1 : (ile (a.hi + 1) b.lo || ile (b.hi + 1) a.lo) with
    | true =>
      rw [e1] at h
      rw [Bool.or_eq_true, ile_iff, ile_iff] at e1
      exact fin h lit (by simp only [Op.intCmp]; congr 2; simp; omega)
    | false =>
      rw [e1] at h
      rw [Bool.or_eq_false_iff, ile_false, ile_false] at e1
      have gen : Op.intCmp .neq a.v b.v = pure (.bool (bnot (beq a.v b.v))) := by
        simp only [Op.intCmp, beq, bnot]; congr 2
      cases e2 : a.lit? with
      | none => rw [e2] at h; exact fin h non gen
      | some n =>
        cases e3 : b.lit? with
        | none => rw [e2, e3] at h; exact fin h non gen
        | some m =>
          rw [e2, e3] at h
          have q1 := SI.lit?_eq ⟨a1, a2⟩ e2
          have q2 := SI.lit?_eq ⟨b1, b2⟩ e3
          exact fin h lit (by simp only [Op.intCmp]; congr 2; simp; omega)
  case lss =>
    cases e1 : ile (a.hi + 1) b.lo with
    | true =>
      rw [e1] at h; rw [ile_iff] at e1
      exact fin h lit (by simp only [Op.intCmp]; congr 2; simp; omega)
    | false =>
      rw [e1] at h
      cases e2 : ile b.hi a.lo with
      | true =>
        rw [e2] at h; rw [ile_iff] at e2
        exact fin h lit (by simp only [Op.intCmp]; congr 2; simp; omega)
      | false => rw [e2] at h; exact fin h non (by simp only [Op.intCmp, blt])
  case leq =>
    cases e1 : ile a.hi b.lo with
    | true =>
      rw [e1] at h; rw [ile_iff] at e1
      exact fin h lit (by simp only [Op.intCmp]; congr 2; simp; omega)
    | false =>
      rw [e1] at h
      cases e2 : ile (b.hi + 1) a.lo with
      | true =>
        rw [e2] at h; rw [ile_iff] at e2
        exact fin h lit (by simp only [Op.intCmp]; congr 2; simp; omega)
      | false => rw [e2] at h; exact fin h non (by simp only [Op.intCmp, ble])
  case gtr =>
    cases e1 : ile (b.hi + 1) a.lo with
    | true =>
      rw [e1] at h; rw [ile_iff] at e1
      exact fin h lit (by simp only [Op.intCmp]; congr 2; simp; omega)
    | false =>
      rw [e1] at h
      cases e2 : ile a.hi b.lo with
      | true =>
        rw [e2] at h; rw [ile_iff] at e2
        exact fin h lit (by simp only [Op.intCmp]; congr 2; simp; omega)
      | false => rw [e2] at h; exact fin h non (by simp only [Op.intCmp, blt])
  case geq =>
    cases e1 : ile b.hi a.lo with
    | true =>
      rw [e1] at h; rw [ile_iff] at e1
      exact fin h lit (by simp only [Op.intCmp]; congr 2; simp; omega)
    | false =>
      rw [e1] at h
      cases e2 : ile (a.hi + 1) b.lo with
      | true =>
        rw [e2] at h; rw [ile_iff] at e2
        exact fin h lit (by simp only [Op.intCmp]; congr 2; simp; omega)
      | false => rw [e2] at h; exact fin h non (by simp only [Op.intCmp, ble])
theorem good_ok0 {c : SC} (h : c.good D R) : c.ok0 := by
  cases c <;> first | exact h | trivial
theorem bnotT_ok {b : Bool} {t : Option Bool} (h : ∀ x, t = some x → b = x) : bnotT b t = !b ∧ ∀ x, t.map (!·) = some x → bnotT b t = x := by
  cases t with
  | none => exact ⟨rfl, fun x hx => by cases hx⟩
  | some y =>
    have := h y rfl
    subst this
    cases b <;> exact ⟨rfl, fun x hx => by cases hx; rfl⟩
theorem beqT_ok {a b : Bool} {ta tb : Option Bool} (ha : ∀ x, ta = some x → a = x) (hb : ∀ x, tb = some x → b = x) : beqT a b ta tb = (a == b) ∧ ∀ x, tagE ta tb = some x → beqT a b ta tb = x := by
  cases ta with
  | none => exact ⟨rfl, fun x hx => by cases hx⟩
  | some x =>
    cases tb with
    | none => exact ⟨rfl, fun x hx => by cases hx⟩
    | some y =>
      have h1 := ha x rfl
      have h2 := hb y rfl
      subst h1 h2
      exact ⟨by cases a <;> cases b <;> rfl, fun z hz => by cases hz; rfl⟩
theorem binV_ok {op : BinOp} {t : TypeId} {ox oy : Operand} {x y v : SV} {side : Option Prop} (h : binV E op t x y = .val side v) (hs : sideH side)
    (gx : x.good D R) (gy : y.good D R) (w : World) :
    ((do eqGuard op t ox oy (x.den α) (y.den α); binOp op t (x.den α) (y.den α)) : Sem Value).run E.P w = .ok (v.den α) w ∧ v.good D R ∧ v ≠ .any := by
  unfold binV at h
  split at h
  · rename_i k a k' b
    split at h
    · rename_i hk
      obtain rfl := keq_eq hk
      have ha : a.ok := gx
      have hb : b.ok := gy
      have hne : ∀ s : SC, (SV.w (.c s)) ≠ .any := fun s e => by cases e
      split at h
      · cases h
        obtain ⟨q1, q2⟩ := add_ok (k := k) ha hb
        refine ⟨?_, q1, hne _⟩
        simp [SV.den, SW.den, SC.den, eqGuard_at_int, binOp, Op.intArith, q2]
      · cases h
        obtain ⟨q1, q2⟩ := sub_ok (k := k) ha hb
        refine ⟨?_, q1, hne _⟩
        simp [SV.den, SW.den, SC.den, eqGuard_at_int, binOp, Op.intArith, q2]
      · cases h
        obtain ⟨q1, q2⟩ := mul_ok (k := k) ha hb
        refine ⟨?_, q1, hne _⟩
        simp [SV.den, SW.den, SC.den, eqGuard_at_int, binOp, Op.intArith, q2]
      · cases h
        have hz : b.v ≠ 0 := by
          cases e : b.nz with
          | true => exact nz_ok hb e
          | false => rw [e] at hs; exact hs
        obtain ⟨q1, q2⟩ := quo_ok (k := k) ha hb
        refine ⟨?_, q1, hne _⟩
        simp [SV.den, SW.den, SC.den, eqGuard_at_int, binOp, Op.intDiv, q2, hz]
      · cases h
        have hz : b.v ≠ 0 := by
          cases e : b.nz with
          | true => exact nz_ok hb e
          | false => rw [e] at hs; exact hs
        obtain ⟨q1, q2⟩ := rem_ok ha hb hz
        refine ⟨?_, q1, hne _⟩
        simp [SV.den, SW.den, SC.den, eqGuard_at_int, binOp, Op.intDiv, q2, hz]
      · rename_i hop1 hop2 hop3 hop4 hop5
        obtain ⟨c, tg, rfl, ht, hc⟩ := cmpI_ok h ha hb
        refine ⟨?_, ht, hne _⟩
        have hbin : binOp op t (.int k a.v) (.int k b.v) = Op.intCmp op a.v b.v := by
          cases op <;> first | rfl | (simp [cmpI] at h; done) | (simp only [binOp, ne_eq, not_true_eq_false, if_false])
        simp [SV.den, SW.den, SC.den, eqGuard_at_int, hbin, hc]
    · cases h
  · rename_i a ta b tb
    obtain ⟨q1, q2⟩ := beqT_ok (ta := ta) (tb := tb) gx gy
    split at h
    · rename_i hu
      cases h
      refine ⟨?_, q2, fun e => by cases e⟩
      simp only [SV.den, SW.den, SC.den, eqGuard_at_bool, q1]
      exact run_eql_bool w t a b hu
    · rename_i hu
      cases h
      obtain ⟨q3, q4⟩ := bnotT_ok q2
      refine ⟨?_, q4, fun e => by cases e⟩
      simp only [SV.den, SW.den, SC.den, eqGuard_at_bool]
      rw [q3, q1]
      exact run_neq_bool w t a b hu
    · cases h
  · rename_i xs ys
    cases e1 : eqOk E.P t xs.length with
    | false => rw [e1] at h; simp at h
    | true =>
      cases e2 : eqCells xs ys with
      | none => rw [e1, e2] at h; simp at h
      | some p =>
        obtain ⟨b, tg⟩ := p
        rw [e1, e2] at h
        have gx' : ∀ c ∈ xs, c.good D R := gx
        have gy' : ∀ c ∈ ys, c.good D R := gy
        obtain ⟨hp, hb, htg⟩ := eqCells_ok e2 (fun c hc => good_ok0 (gx' c hc)) (fun c hc => good_ok0 (gy' c hc))
        unfold eqOk at e1
        cases e3 : flatLen E.P 8 t with
        | none => rw [e3] at e1; cases e1
        | some n =>
          rw [e3] at e1
          simp only [Bool.and_eq_true, Bool.not_eq_true'] at e1
          obtain ⟨⟨e4, e6⟩, e5⟩ := e1
          have e4 := Nat.eq_of_beq_eq_true e4
          have hfe := eq_flat 8 t n e3 10000 (by omega) α w xs ys hp e4.symm
          have hv : ∀ l, valT E.P t l = .agg l := fun l => by
            unfold notInt at e6
            unfold valT
            split at e6
            · cases e6
            · rename_i hno
              split
              · rename_i k hk; exact absurd hk (hno k)
              · rfl
          rw [hv, hv] at hfe
          have hg : ∀ (op : BinOp), (eqGuard op t ox oy (.agg (xs.map (SC.den α)).toArray) (.agg (ys.map (SC.den α)).toArray)).run E.P w = .ok () w := fun op => run_eqGuard_agg w op t ox oy _ _ e5
          simp only [SW.den] at hfe
          cases op <;> simp only at h <;> try (cases h; done)
          · cases h
            refine ⟨?_, htg, fun e => by cases e⟩
            simp only [SV.den, SW.den, SC.den, Sem.run_bind, hg, Result.andThen_ok, run_eql_struct, hfe, hb]
          · cases h
            obtain ⟨q1, q2⟩ := bnotT_ok htg
            refine ⟨?_, q2, fun e => by cases e⟩
            simp only [SV.den, SW.den, SC.den, Sem.run_bind, hg, Result.andThen_ok, run_neq_struct, hfe, hb]
            rw [← hb, q1]
  · cases h

end
end Go.Fx
