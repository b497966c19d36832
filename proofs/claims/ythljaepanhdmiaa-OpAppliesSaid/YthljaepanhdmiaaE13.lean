/-
  The engine, part 13: arguments and results of calls.
-/
import Derived.Test.YthljaepanhdmiaaE12
namespace Go.Fx
open Go RowKit

theorem agcOf_get : ∀ (m : Nat) (cs : List SC) (off n : Nat) (l : List (List SC)), agcOf cs off n m = some l → l.length = m ∧ ∀ i x, l[i]? = some x → x = (cs.drop (off + i * n)).take n
  | 0, cs, off, n, l, h => by cases h; exact ⟨rfl, fun i x hx => by cases hx⟩
  | m + 1, cs, off, n, l, h => by
    unfold agcOf at h
    split at h
    · rename_i l' hl
      cases h
      obtain ⟨q1, q2⟩ := agcOf_get m cs (off + n) n l' hl
      refine ⟨by simp [q1], fun i x hx => ?_⟩
      cases i with
      | zero => simp at hx; simp [hx]
      | succ i =>
        have := q2 i x (by simpa using hx)
        rw [this, Nat.succ_mul, show off + n + i * n = off + (i * n + n) by omega]
    · cases h
theorem ofSCs_get {f : Fl} : ∀ (xs : List (List SC)) (l : List f.ty), ofSCs f xs = some l → l.length = xs.length ∧ ∀ (i : Nat) (y : f.ty), l[i]? = some y → ∃ x : List SC, xs[i]? = some x ∧ f.ofSC x = some y
  | [], l, h => by cases h; exact ⟨rfl, fun i y hy => by cases hy⟩
  | x :: r, l, h => by
    unfold ofSCs at h
    split at h
    · rename_i y l' h1 h2
      cases h
      obtain ⟨q1, q2⟩ := ofSCs_get r l' h2
      refine ⟨by simp [q1], fun i z hz => ?_⟩
      cases i with
      | zero => simp at hz; subst hz; exact ⟨x, rfl, h1⟩
      | succ i => exact q2 i z (by simpa using hz)
    · cases h
section
variable {E : Env} {S : St} {D : Nat → Prop} {α : Al} {ω : Nat → Option Nat} {B : Nat} {w0 w : World}
theorem listOf_ok (H : HRel D S.res α ω B w0 w) {f : Fl} {v : SV} {l : List f.ty} (h : S.listOf f v = some l) : LRep w f l (v.den α) (fun _ => True) false := by
  unfold St.listOf at h
  split at h
  · cases h
    exact ⟨(fun x hx => by cases hx), by simp, .inl ⟨none, 0, rfl, rfl, fun h => by cases h⟩⟩
  · rename_i b off len cap
    split at h
    · rename_i bx hb
      split at h
      · rename_i hc
        split at h
        · rename_i chunks hch
          rw [Bool.and_eq_true, Bool.and_eq_true] at hc
          obtain ⟨⟨c1, c2⟩, c3⟩ := hc
          have c1 : off + len * f.ks.length ≤ bx.cells.length := by simpa using c1
          have c2 : len ≤ cap := by simpa using c2
          have c3 : len * f.bytes ≤ 140737488351232 := by simpa using c3
          obtain ⟨q1, q2⟩ := agcOf_get _ _ _ _ _ hch
          obtain ⟨q3, q4⟩ := ofSCs_get _ _ h
          have hlen : l.length = len := q3.trans q1
          obtain ⟨_, h2⟩ : RRel α ω w b (.box bx) := H.rel b _ hb
          have key : ∀ i x, l[i]? = some x → f.vals x = (((bx.cells.drop (off + i * f.ks.length)).take f.ks.length).map (SC.den α)) ∧ f.okv x := fun i x hx => by
            obtain ⟨y, hy, hy'⟩ := q4 i x hx
            have := q2 i y hy
            subst this
            exact ofSC_ok hy' (fun c hc => H.good b bx hb c (List.mem_of_mem_drop (List.mem_of_mem_take hc)))
          refine ⟨fun x hx => ?_, by rw [hlen]; exact c3, .inr ⟨α.blk b, off, cap, _, _, _, by rw [hlen]; rfl, by omega, h2, trivial, fun i x hx => ?_, fun h => by cases h⟩⟩
          · obtain ⟨i, hi⟩ := List.getElem?_of_mem hx
            exact (key i x hi).2
          · rw [(key i x hx).1]
            intro k v hk
            rw [List.getElem?_map, List.getElem?_take] at hk
            split at hk
            · rw [List.getElem?_drop] at hk
              simpa [Nat.add_assoc] using hk
            · cases hk
        · cases h
      · cases h
    · cases h
  · rename_i j
    split at h
    · rename_i L hj
      split at h
      · rename_i hf
        have e := feq_eq hf
        obtain ⟨h1, h2, h3⟩ : LRep w L.f L.l (α.sv j) _ L.own := H.rel j _ hj
        cases h
        obtain ⟨f', l', own⟩ := L
        simp only at e h1 h2 h3 ⊢
        subst e
        refine ⟨h1, h2, ?_⟩
        rcases h3 with ⟨a, cap, e1, e2, e3⟩ | ⟨blk, off, cap, cs, ty, fz, e1, e2, e3, e4, e5, e6⟩
        · exact .inl ⟨a, cap, e1, e2, fun h => by cases h⟩
        · exact .inr ⟨blk, off, cap, cs, ty, fz, e1, e2, e3, trivial, e5, fun h => by cases h⟩
      · cases h
    · cases h
  · cases h
theorem dec_int {k : IntKind} {v : SV} {x : Int} (h : decI k v = some x) {R : Nat → Option Res} (hg : v.good D R) : intIn k x (v.den α) := by
  unfold decI at h
  split at h
  · rename_i k' i
    split at h
    · rename_i hk
      cases h
      rw [Bool.and_eq_true, Bool.and_eq_true, ile_iff, ile_iff] at hk
      obtain ⟨⟨h1, h2⟩, h3⟩ := hk
      obtain rfl := keq_eq h1
      have hi : i.ok := hg
      exact ⟨rfl, by have := hi.1; omega, by have := hi.2; omega⟩
    · cases h
  · cases h
theorem dec_bool {v : SV} {x : Bool} (h : decB v = some x) : v.den α = .bool x := by
  unfold decB at h
  split at h
  · cases h; rfl
  · cases h
theorem dec_agg {f : Fl} {v : SV} {x : f.ty} (h : decA f v = some x) {R : Nat → Option Res} (hg : v.good D R) : v.den α = .agg (f.vals x).toArray ∧ f.okv x := by
  unfold decA at h
  split at h
  · obtain ⟨q1, q2⟩ := ofSC_ok (α := α) h hg
    exact ⟨by rw [q1]; rfl, q2⟩
  · cases h
theorem dec_lit {k : IntKind} {z : Int} {v : SV} {x : Unit} (h : decL k z v = some x) {R : Nat → Option Res} (hg : v.good D R) : intIn k z (v.den α) := by
  unfold decL at h
  split at h
  · rename_i k' i
    split at h
    · rename_i y hk hy
      split at h
      · rename_i hz
        rw [Bool.and_eq_true, Bool.and_eq_true, Bool.and_eq_true, ile_iff, ile_iff, ile_iff, ile_iff] at hz
        obtain rfl := keq_eq hk
        have hi : i.ok := hg
        have hv := (SI.lit?_eq hi hy).1
        have hz' : i.v = z := by omega
        exact ⟨by simp only [SV.den, SW.den, SC.den, hz'], hz.1.2, hz.2⟩
      · cases h
    · cases h
  · cases h
theorem dec_ok (H : HRel D S.res α ω B w0 w) {s : Sh} {v : SV} {x : s.ty} (h : s.dec S v = some x) (hg : v.good D S.res) : s.arg w x (v.den α) := by
  cases s with
  | int k => exact dec_int h hg
  | bool => exact dec_bool h
  | agg f => exact dec_agg h hg
  | list f => exact listOf_ok H h
  | lit k z => exact dec_lit h hg
theorem decArgs_ok (H : HRel D S.res α ω B w0 w) : ∀ {l : List Sh} {vs : List SV} {x : HL l}, decArgs S l vs = some x → (∀ v ∈ vs, v.good D S.res) → ArgsR w l x (vs.map (SV.den α))
  | [], [], _, _, _ => trivial
  | s :: r, v :: vs, x, h, hg => by
    unfold decArgs at h
    split at h
    · rename_i y z h1 h2
      cases h
      exact ⟨dec_ok H h1 (hg _ (List.mem_cons_self ..)), decArgs_ok H h2 fun v hv => hg v (List.mem_cons_of_mem _ hv)⟩
    · cases h
  | [], _ :: _, _, h, _ => by simp [decArgs] at h
  | _ :: _, [], _, h, _ => by simp [decArgs] at h
end
/-- Results that are no lists. -/
theorem put_ok {D : Nat → Prop} {R : Nat → Option Res} {w' : World} {own : Nat → Option Nat} {n0 : Nat} (α : Al) : ∀ {l : List Sh} {y : HL l} {vs : List Value} {i n : Nat}, noLists l = true → ResR w' own n0 l y vs i →
    (putAll l y n).1.map (SW.den α) = vs ∧ ∀ v ∈ (putAll l y n).1, v.good D R
  | [], y, vs, i, n, _, h => by
    cases vs with
    | nil => exact ⟨rfl, fun v hv => by cases hv⟩
    | cons _ _ => exact h.elim
  | s :: r, y, vs, i, n, hn, h => by
    cases vs with
    | nil => exact h.elim
    | cons v vs =>
      obtain ⟨h1, h2⟩ := h
      have hn' : noLists r = true := by cases s <;> first | exact hn | cases hn
      obtain ⟨q1, q2⟩ := put_ok (D := D) (R := R) α (n := n + (s.put n y.1).2.length) hn' h2
      have key : (s.put n y.1).1.den α = v ∧ (s.put n y.1).1.good D R := by
        cases s with
        | int k => obtain ⟨e1, e2, e3⟩ := h1; exact ⟨e1.symm, e2, e3⟩
        | bool => exact ⟨Eq.symm h1, fun x hx => by cases hx⟩
        | agg f =>
          obtain ⟨e1, e2⟩ := h1
          refine ⟨?_, sw_good e2⟩
          rw [e1]
          exact congrArg (fun l => Value.agg (List.toArray l)) (sw_den (α := α) f y.1)
        | lit k z => obtain ⟨e1, e2, e3⟩ := h1; exact ⟨e1.symm, ⟨Int.le_refl _, Int.le_refl _⟩⟩
        | list f => cases hn
      refine ⟨?_, fun u hu => ?_⟩
      · exact congr (congrArg List.cons key.1) q1
      · rcases List.mem_cons.1 hu with rfl | hu
        · exact key.2
        · exact q2 u hu
theorem oneOrTup_den (α : Al) (vs : List SW) : (oneOrTup vs).den α = oneV (vs.map (SW.den α)) := by
  match vs with
  | [] => rfl
  | [v] => rfl
  | v :: u :: r => rfl
theorem oneOrTup_good {D : Nat → Prop} {R : Nat → Option Res} {vs : List SW} (h : ∀ v ∈ vs, v.good D R) : (oneOrTup vs).good D R ∧ oneOrTup vs ≠ .any := by
  match vs, h with
  | [], h => exact ⟨h, fun e => by cases e⟩
  | [v], h => exact ⟨h v (List.mem_cons_self ..), fun e => by cases e⟩
  | v :: u :: r, h => exact ⟨h, fun e => by cases e⟩

end Go.Fx
