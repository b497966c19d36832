/-
  The engine, part 3: the intervals hold.
-/
import Derived.Test.YthljaepanhdmiaaE2
namespace Go.Fx
open Go

theorem ile_iff {a b : Int} : ile a b = true ↔ a ≤ b := by
  unfold ile
  cases h : b - a with
  | ofNat n => simp only [true_iff]; have : 0 ≤ b - a := by rw [h]; exact Int.natCast_nonneg n
               omega
  | negSucc n => simp only [Bool.false_eq_true, false_iff]; have : b - a < 0 := by rw [h]; exact Int.negSucc_lt_zero n
                 omega
theorem ile_false {a b : Int} : ile a b = false ↔ b < a := by
  rw [← Bool.not_eq_true, ile_iff]; omega
theorem ieq_iff {a b : Int} : ieq a b = true ↔ a = b := by
  unfold ieq; rw [Bool.and_eq_true, ile_iff, ile_iff]; omega
theorem imin_le {a b : Int} : imin a b ≤ a ∧ imin a b ≤ b := by
  unfold imin; cases h : ile a b
  · have := ile_false.1 h; simp only; omega
  · have := ile_iff.1 h; simp only; omega
theorem imax_ge {a b : Int} : a ≤ imax a b ∧ b ≤ imax a b := by
  unfold imax; cases h : ile a b
  · have := ile_false.1 h; simp only; omega
  · have := ile_iff.1 h; simp only; omega
theorem imin_of {a b x : Int} (h : x ≤ a) (h' : x ≤ b) : x ≤ imin a b := by
  unfold imin; cases ile a b <;> assumption
theorem imax_of {a b x : Int} (h : a ≤ x) (h' : b ≤ x) : imax a b ≤ x := by
  unfold imax; cases ile a b <;> assumption
def SI.ok (a : SI) : Prop := a.lo ≤ a.v ∧ a.v ≤ a.hi
theorem wrap_in {k : IntKind} {v : Int} (h : kmin k ≤ v) (h' : v ≤ kmax k) : k.wrap v = v := by
  cases k <;> simp only [kmin, kmax] at h h'
  · exact IntWalk.i8_in v ⟨h, h'⟩
  · exact IntWalk.i16_in v ⟨h, h'⟩
  · exact IntWalk.i32_in v ⟨h, h'⟩
  · exact IntWalk.i64_in v ⟨h, h'⟩
  · exact IntWalk.u8_in v ⟨h, h'⟩
  · exact IntWalk.u16_in v ⟨h, h'⟩
  · exact IntWalk.u32_in v ⟨h, h'⟩
  · exact IntWalk.u64_in v ⟨h, h'⟩
theorem wrap_range (k : IntKind) (v : Int) : kmin k ≤ k.wrap v ∧ k.wrap v ≤ kmax k := by
  cases k <;> simp only [kmin, kmax, IntKind.wrap, IntKind.bits, IntKind.signed] <;> (try simp) <;> (try split) <;> omega
theorem lit_ok (n : Int) : (SI.lit n).ok := ⟨Int.le_refl _, Int.le_refl _⟩
theorem SI.lit?_eq {a : SI} {n : Int} (ha : a.ok) (h : a.lit? = some n) : a.v = n ∧ a.lo = n ∧ a.hi = n := by
  unfold SI.lit? at h
  cases e : ieq a.lo a.hi <;> rw [e] at h <;> simp at h
  have := ieq_iff.1 e
  have h1 := ha.1; have h2 := ha.2
  omega
theorem fit_ok {k : IntKind} {v lo hi : Int} (h : lo ≤ v) (h' : v ≤ hi) : (SI.fit k v lo hi).ok ∧ (SI.fit k v lo hi).v = k.wrap v := by
  unfold SI.fit
  cases e : (ile (kmin k) lo && ile hi (kmax k)) with
  | false => exact ⟨wrap_range k v, rfl⟩
  | true =>
    rw [Bool.and_eq_true, ile_iff, ile_iff] at e
    have hw := wrap_in (k := k) (v := v) (by omega) (by omega)
    cases e2 : ieq lo hi with
    | false => exact ⟨⟨h, h'⟩, hw.symm⟩
    | true =>
      have := ieq_iff.1 e2
      exact ⟨⟨Int.le_refl _, Int.le_refl _⟩, by rw [hw]; show lo = v; omega⟩
section
variable {k : IntKind} {a b : SI} (ha : a.ok) (hb : b.ok)
include ha hb
theorem add_ok : (a.add k b).ok ∧ (a.add k b).v = k.wrap (a.v + b.v) := by
  obtain ⟨h1, h2⟩ := ha; obtain ⟨h3, h4⟩ := hb
  exact fit_ok (by show _ ≤ a.v + b.v; omega) (by show a.v + b.v ≤ _; omega)
theorem sub_ok : (a.sub k b).ok ∧ (a.sub k b).v = k.wrap (a.v - b.v) := by
  obtain ⟨h1, h2⟩ := ha; obtain ⟨h3, h4⟩ := hb
  exact fit_ok (by show _ ≤ a.v - b.v; omega) (by show a.v - b.v ≤ _; omega)
theorem mul_bd : imin (imin (a.lo * b.lo) (a.lo * b.hi)) (imin (a.hi * b.lo) (a.hi * b.hi)) ≤ a.v * b.v ∧ a.v * b.v ≤ imax (imax (a.lo * b.lo) (a.lo * b.hi)) (imax (a.hi * b.lo) (a.hi * b.hi)) := by
  obtain ⟨h1, h2⟩ := ha; obtain ⟨h3, h4⟩ := hb
  -- one factor fixed
  have key : ∀ x : Int, (a.lo * x ≤ a.v * x ∨ a.hi * x ≤ a.v * x) ∧ (a.v * x ≤ a.lo * x ∨ a.v * x ≤ a.hi * x) := fun x => by
    rcases Int.le_total 0 x with hx | hx
    · exact ⟨.inl (Int.mul_le_mul_of_nonneg_right h1 hx), .inr (Int.mul_le_mul_of_nonneg_right h2 hx)⟩
    · exact ⟨.inr (Int.mul_le_mul_of_nonpos_right h2 hx), .inl (Int.mul_le_mul_of_nonpos_right h1 hx)⟩
  have key2 : ∀ x : Int, (x * b.lo ≤ x * b.v ∨ x * b.hi ≤ x * b.v) ∧ (x * b.v ≤ x * b.lo ∨ x * b.v ≤ x * b.hi) := fun x => by
    rcases Int.le_total 0 x with hx | hx
    · exact ⟨.inl (Int.mul_le_mul_of_nonneg_left h3 hx), .inr (Int.mul_le_mul_of_nonneg_left h4 hx)⟩
    · exact ⟨.inr (Int.mul_le_mul_of_nonpos_left hx h4), .inl (Int.mul_le_mul_of_nonpos_left hx h3)⟩
  have hb' := key b.v
  have p := key2 a.lo
  have q := key2 a.hi
  have m1 := imin_le (a := imin (a.lo * b.lo) (a.lo * b.hi)) (b := imin (a.hi * b.lo) (a.hi * b.hi))
  have m2 := imin_le (a := a.lo * b.lo) (b := a.lo * b.hi)
  have m3 := imin_le (a := a.hi * b.lo) (b := a.hi * b.hi)
  have n1 := imax_ge (a := imax (a.lo * b.lo) (a.lo * b.hi)) (b := imax (a.hi * b.lo) (a.hi * b.hi))
  have n2 := imax_ge (a := a.lo * b.lo) (b := a.lo * b.hi)
  have n3 := imax_ge (a := a.hi * b.lo) (b := a.hi * b.hi)
  generalize a.v * b.v = X at *
  generalize a.lo * b.v = Y at *
  generalize a.hi * b.v = Z at *
  generalize a.lo * b.lo = A at *
  generalize a.lo * b.hi = B at *
  generalize a.hi * b.lo = C at *
  generalize a.hi * b.hi = D at *
  constructor
  · rcases hb'.1 with h | h
    · rcases p.1 with h' | h' <;> omega
    · rcases q.1 with h' | h' <;> omega
  · rcases hb'.2 with h | h
    · rcases p.2 with h' | h' <;> omega
    · rcases q.2 with h' | h' <;> omega
theorem mul_ok : (a.mul k b).ok ∧ (a.mul k b).v = k.wrap (a.v * b.v) := by
  have h := mul_bd ha hb
  exact fit_ok h.1 h.2
omit hb in
theorem mag_ge : a.v ≤ a.mag ∧ -a.mag ≤ a.v ∧ 0 ≤ a.mag := by
  obtain ⟨h1, h2⟩ := ha
  unfold SI.mag
  have m1 := imax_ge (a := imax a.hi (-a.lo)) (b := 0)
  have m2 := imax_ge (a := a.hi) (b := -a.lo)
  omega
theorem quo_ok : (a.quo k b).ok ∧ (a.quo k b).v = k.wrap (a.v.tdiv b.v) := by
  have ha' := ha; have hb' := hb
  obtain ⟨h1, h2⟩ := ha; obtain ⟨h3, h4⟩ := hb
  unfold SI.quo
  cases e : (a.nonneg && b.pos) with
  | true =>
    simp only
    rw [Bool.and_eq_true] at e
    have e1 : 0 ≤ a.lo := ile_iff.1 e.1
    have e2 : 1 ≤ b.lo := ile_iff.1 e.2
    have hq : a.v.tdiv b.v = a.v / b.v := Int.tdiv_eq_ediv_of_nonneg (by omega)
    rw [hq]
    have hle : a.v / b.v ≤ a.v := Int.ediv_le_self _ (by omega)
    have hge : 0 ≤ a.v / b.v := Int.ediv_nonneg (by omega) (by omega)
    cases e3 : b.lit? with
    | none => exact fit_ok hge (by show a.v / b.v ≤ _; simp only; omega)
    | some n =>
      obtain ⟨q1, q2, q3⟩ := SI.lit?_eq hb' e3
      simp only
      rw [q1]
      exact fit_ok (Int.ediv_le_ediv (by omega) h1) (Int.ediv_le_ediv (by omega) h2)
  | false =>
    simp only
    have habs : -a.mag ≤ a.v.tdiv b.v ∧ a.v.tdiv b.v ≤ a.mag := by
      have hm := mag_ge ha'
      have hn : (a.v.tdiv b.v).natAbs ≤ a.v.natAbs := by rw [Int.natAbs_tdiv]; exact Nat.div_le_self _ _
      omega
    cases e3 : b.lit? with
    | none => simp only; exact fit_ok habs.1 habs.2
    | some n =>
      cases e4 : b.pos with
      | false => simp only; exact fit_ok habs.1 habs.2
      | true =>
        simp only
        have e2 : 1 ≤ b.lo := ile_iff.1 e4
        obtain ⟨q1, q2, q3⟩ := SI.lit?_eq hb' e3
        rw [q1]
        exact fit_ok (Int.tdiv_le_tdiv (by omega) h1) (Int.tdiv_le_tdiv (by omega) h2)
theorem rem_ok (hz : b.v ≠ 0) : (a.rem b).ok ∧ (a.rem b).v = a.v.tmod b.v := by
  have ha' := ha; have hb' := hb
  obtain ⟨h1, h2⟩ := ha; obtain ⟨h3, h4⟩ := hb
  have hm := mag_ge hb'
  have hr : (a.v.tmod b.v).natAbs < b.v.natAbs := by rw [Int.natAbs_tmod]; exact Nat.mod_lt _ (by omega)
  have hr' : (a.v.tmod b.v).natAbs ≤ a.v.natAbs := by rw [Int.natAbs_tmod]; exact Nat.mod_le _ _
  unfold SI.rem
  cases e : (a.nonneg && b.pos) with
  | true =>
    simp only
    rw [Bool.and_eq_true] at e
    have e1 : 0 ≤ a.lo := ile_iff.1 e.1
    have e2 : 1 ≤ b.lo := ile_iff.1 e.2
    have hq : a.v.tmod b.v = a.v % b.v := Int.tmod_eq_emod_of_nonneg (by omega)
    rw [hq] at hr hr' ⊢
    have hge : 0 ≤ a.v % b.v := Int.emod_nonneg _ hz
    have gen : (⟨imod a.v b.v, 0, imin a.hi (b.mag - 1)⟩ : SI).ok := ⟨hge, imin_of (by show a.v % b.v ≤ _; omega) (by show a.v % b.v ≤ _; omega)⟩
    cases e3 : a.lit? with
    | none => exact ⟨gen, rfl⟩
    | some x =>
      cases e4 : b.lit? with
      | none => exact ⟨gen, rfl⟩
      | some y =>
        obtain ⟨q1, _, _⟩ := SI.lit?_eq ha' e3
        obtain ⟨q2, _, _⟩ := SI.lit?_eq hb' e4
        rw [q1, q2]
        exact ⟨lit_ok _, rfl⟩
  | false =>
    simp only
    have hs : 0 ≤ a.v → 0 ≤ a.v.tmod b.v := fun h => Int.tmod_nonneg _ h
    have hs' : a.v ≤ 0 → a.v.tmod b.v ≤ 0 := fun h => by
      have := Int.tmod_nonneg (a := -a.v) b.v (by omega)
      rw [Int.neg_tmod] at this; omega
    have gen : (⟨itmod a.v b.v, imax (-(b.mag - 1)) (imin a.lo 0), imin (b.mag - 1) (imax a.hi 0)⟩ : SI).ok := by
      have m1 := imin_le (a := a.lo) (b := 0)
      have m2 := imax_ge (a := a.hi) (b := 0)
      refine ⟨imax_of (by show _ ≤ a.v.tmod b.v; omega) ?_, imin_of (by show a.v.tmod b.v ≤ _; omega) ?_⟩
      · show _ ≤ a.v.tmod b.v
        rcases Int.le_total 0 a.v with h | h
        · have := hs h; omega
        · have := hs' h; omega
      · show a.v.tmod b.v ≤ _
        rcases Int.le_total 0 a.v with h | h
        · have := hs h; omega
        · have := hs' h; omega
    cases e3 : a.lit? with
    | none => exact ⟨gen, rfl⟩
    | some x =>
      cases e4 : b.lit? with
      | none => exact ⟨gen, rfl⟩
      | some y =>
        obtain ⟨q1, _, _⟩ := SI.lit?_eq ha' e3
        obtain ⟨q2, _, _⟩ := SI.lit?_eq hb' e4
        rw [q1, q2]
        exact ⟨lit_ok _, rfl⟩
end
theorem conv_ok {k : IntKind} {a : SI} (ha : a.ok) : (a.conv k).ok ∧ (a.conv k).v = k.wrap a.v := fit_ok ha.1 ha.2
theorem nz_ok {a : SI} (ha : a.ok) (h : a.nz = true) : a.v ≠ 0 := by
  unfold SI.nz at h
  rw [Bool.or_eq_true, ile_iff, ile_iff] at h
  obtain ⟨h1, h2⟩ := ha
  omega
theorem keq_eq {a b : IntKind} (h : keq a b = true) : a = b := by
  cases a <;> cases b <;> first | rfl | cases h

end Go.Fx
