/-
  WholeUnits in Lean.
-/
import Derived.Test.YtolbgdfbdlddaaaUk
import Derived.Test.YtolbgdfbdlddaaaTa
set_option linter.unusedSimpArgs false
set_option linter.unusedVariables false
set_option linter.unusedSectionVars false
namespace Go.Fx
open Go
def tbl8 (k : Int) : Int := if k = 0 then 1 else if k = 1 then 2 else if k = 2 then 3 else if k = 3 then 4 else if k = 4 then 6 else if k = 5 then 8 else if k = 6 then 12 else 5
def sidV (b : V3) (e : Bool) : V3 := if e = true then V3.mk (tbl8 (b.x % 8)) (tbl8 (b.x % 8)) (tbl8 (b.x % 8)) else V3.mk (tbl8 (b.x % 8)) (tbl8 (b.y % 8)) (tbl8 (b.z % 8))
def alF (g : List Op3) (n : V3) : Bool := g.all (fun o => fitB o n)
def wuG (l : List Sd) : List Op3 := cloL (sedL l)
theorem tbl8_b (k : Int) : 1 ≤ tbl8 k ∧ tbl8 k ≤ 12 := by
  unfold tbl8
  repeat' split
  all_goals omega
theorem sd_of {x y z : Int} (hx : 1 ≤ x ∧ x ≤ 12) (hy : 1 ≤ y ∧ y ≤ 12) (hz : 1 ≤ z ∧ z ≤ 12) : sidE (V3.mk x y z) = 0 := by
  have b0 : 0 ≤ x * y := Int.mul_nonneg (by omega) (by omega)
  have b1 : x * y ≤ 12 * 12 := Int.le_trans (Int.mul_le_mul_of_nonneg_right hx.2 (by omega)) (Int.mul_le_mul_of_nonneg_left hy.2 (by omega))
  have c1 : x * y * z ≤ 144 * 12 := Int.le_trans (Int.mul_le_mul_of_nonneg_right b1 (by omega)) (Int.mul_le_mul_of_nonneg_left hz.2 (by omega))
  unfold sidE
  rw [if_pos (by simp only [sidB, Bool.and_eq_true, decide_eq_true_eq]; exact ⟨⟨⟨hx.1, by omega⟩, hy.1, by omega⟩, hz.1, by omega⟩), if_neg (by show ¬ 262144 < x * y * z; omega)]
theorem sid_sidV (b : V3) (e : Bool) : sidE (sidV b e) = 0 := by
  unfold sidV
  split
  · exact sd_of (tbl8_b _) (tbl8_b _) (tbl8_b _)
  · exact sd_of (tbl8_b _) (tbl8_b _) (tbl8_b _)
theorem sl1 {b : V3} {e : Bool} {i u : Int} (h : eqP (b.x % 8) i) (hu : tbl8 i = u) (he : e = true) : (V3.mk u u u, ()) = (sidV b e, ()) := by
  have h : b.x % 8 = i := h
  unfold sidV
  rw [if_pos he, h, hu]
theorem sl3 {b : V3} {e : Bool} {i j k u v w : Int} (h1 : eqP (b.x % 8) i) (h2 : eqP (b.y % 8) j) (h3 : eqP (b.z % 8) k) (hu : tbl8 i = u) (hv : tbl8 j = v) (hw : tbl8 k = w) (he : e = false) : (V3.mk u v w, ()) = (sidV b e, ()) := by
  have h1 : b.x % 8 = i := h1
  have h2 : b.y % 8 = j := h2
  have h3 : b.z % 8 = k := h3
  unfold sidV
  rw [if_neg (by rw [he]; decide), h1, h2, h3, hu, hv, hw]
def zrow (b : V3) (e : Bool) (u v : Int) : Prop := (leP 0 (b.z % 8) ∧ leP (b.z % 8) 7) ∧ ((eqP (b.z % 8) 0 → (V3.mk u v 1, ()) = (sidV b e, ())) ∧ ((eqP (b.z % 8) 1 → (V3.mk u v 2, ()) = (sidV b e, ())) ∧ ((eqP (b.z % 8) 2 → (V3.mk u v 3, ()) = (sidV b e, ())) ∧ ((eqP (b.z % 8) 3 → (V3.mk u v 4, ()) = (sidV b e, ())) ∧ ((eqP (b.z % 8) 4 → (V3.mk u v 6, ()) = (sidV b e, ())) ∧ ((eqP (b.z % 8) 5 → (V3.mk u v 8, ()) = (sidV b e, ())) ∧ ((eqP (b.z % 8) 6 → (V3.mk u v 12, ()) = (sidV b e, ())) ∧ ((eqP (b.z % 8) 7 → (V3.mk u v 5, ()) = (sidV b e, ()))))))))))
def yrow (b : V3) (e : Bool) (u : Int) : Prop := (leP 0 (b.y % 8) ∧ leP (b.y % 8) 7) ∧ ((eqP (b.y % 8) 0 → zrow b e u 1) ∧ ((eqP (b.y % 8) 1 → zrow b e u 2) ∧ ((eqP (b.y % 8) 2 → zrow b e u 3) ∧ ((eqP (b.y % 8) 3 → zrow b e u 4) ∧ ((eqP (b.y % 8) 4 → zrow b e u 6) ∧ ((eqP (b.y % 8) 5 → zrow b e u 8) ∧ ((eqP (b.y % 8) 6 → zrow b e u 12) ∧ ((eqP (b.y % 8) 7 → zrow b e u 5)))))))))
def xrow (b : V3) (e : Bool) : Prop := (leP 0 (b.x % 8) ∧ leP (b.x % 8) 7) ∧ ((eqP (b.x % 8) 0 → yrow b e 1) ∧ ((eqP (b.x % 8) 1 → yrow b e 2) ∧ ((eqP (b.x % 8) 2 → yrow b e 3) ∧ ((eqP (b.x % 8) 3 → yrow b e 4) ∧ ((eqP (b.x % 8) 4 → yrow b e 6) ∧ ((eqP (b.x % 8) 5 → yrow b e 8) ∧ ((eqP (b.x % 8) 6 → yrow b e 12) ∧ ((eqP (b.x % 8) 7 → yrow b e 5)))))))))
theorem lrow (x : Int) : leP 0 (x % 8) ∧ leP (x % 8) 7 := ⟨Int.emod_nonneg _ (by decide), by have := Int.emod_lt_of_pos x (show (0 : Int) < 8 by decide); show x % 8 ≤ 7; omega⟩
theorem zrow_ok {b : V3} {e : Bool} {i j u v : Int} (h1 : eqP (b.x % 8) i) (h2 : eqP (b.y % 8) j) (hu : tbl8 i = u) (hv : tbl8 j = v) (he : e = false) : zrow b e u v :=
  ⟨lrow _, fun c => sl3 h1 h2 c hu hv rfl he, fun c => sl3 h1 h2 c hu hv rfl he, fun c => sl3 h1 h2 c hu hv rfl he, fun c => sl3 h1 h2 c hu hv rfl he, fun c => sl3 h1 h2 c hu hv rfl he, fun c => sl3 h1 h2 c hu hv rfl he, fun c => sl3 h1 h2 c hu hv rfl he, fun c => sl3 h1 h2 c hu hv rfl he⟩
theorem yrow_ok {b : V3} {e : Bool} {i u : Int} (h1 : eqP (b.x % 8) i) (hu : tbl8 i = u) (he : e = false) : yrow b e u :=
  ⟨lrow _, fun c => zrow_ok h1 c hu rfl he, fun c => zrow_ok h1 c hu rfl he, fun c => zrow_ok h1 c hu rfl he, fun c => zrow_ok h1 c hu rfl he, fun c => zrow_ok h1 c hu rfl he, fun c => zrow_ok h1 c hu rfl he, fun c => zrow_ok h1 c hu rfl he, fun c => zrow_ok h1 c hu rfl he⟩
theorem xrow_ok {b : V3} {e : Bool} (he : e = false) : xrow b e :=
  ⟨lrow _, fun c => yrow_ok c rfl he, fun c => yrow_ok c rfl he, fun c => yrow_ok c rfl he, fun c => yrow_ok c rfl he, fun c => yrow_ok c rfl he, fun c => yrow_ok c rfl he, fun c => yrow_ok c rfl he, fun c => yrow_ok c rfl he⟩
theorem tst_f {r ni nj : Int} (h : (!(decide (Int.tmod (w64 (r * ni)) nj = 0))) = true) : fitX r ni nj = false := by
  unfold fitX
  simpa using h
theorem tst_t {r ni nj : Int} (h : (!(decide (Int.tmod (w64 (r * ni)) nj = 0))) = false) : fitX r ni nj = true := by
  unfold fitX
  simpa using h
theorem alF_fu {g : List Op3} {n : V3} (hc : chkE g = 0) (hn : sidE n = 0) : fuE g n = if alF g n = true then 0 else 6 := by
  unfold fuE
  rw [hc, hn, if_pos (by decide)]; rfl
theorem fu_arg {g : List Op3} (hc : chkE g = 0) : fuE g (V3.mk 0 1 1) = 1 := by
  have h : sidE (V3.mk 0 1 1) = 1 := by decide
  unfold fuE
  rw [hc, h]; rfl
theorem len_w {a : Int} (h0 : 0 ≤ a) (h : a ≤ 262144) : w64 (a + 1) = a + 1 := w64_id (by omega) (by omega)
end Go.Fx
