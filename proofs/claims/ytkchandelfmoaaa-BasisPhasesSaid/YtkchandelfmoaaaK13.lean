/-
  Contracts: BasisBack.
-/
import Derived.Test.YtkchandelfmoaaaK12
import Derived.Test.YtkchandelfmoaaaBh
namespace Go.Fx
open Go Go.Proofs
set_option maxRecDepth 100000
set_option linter.unusedVariables false
noncomputable def C_BasisBack : Contract := { args := [.agg .chg, .agg .chg, .agg .pt, .agg .op], res := [.bool], pre := fun _ => True, F := fun x => ((true : Bool), ()) }
def T_BasisBack (a : Chg) (b : Chg) (p : Pt) (o : Op3) : Prop :=
  (True ∧
(((!true) = true →
 (false, ()) = (true, ())) ∧
((!true) = false →
(True ∧
(True ∧
∀ z5 : Chg,
(z5 = selC (bakE a) (bakC a) →
∀ z7 : Int,
(z7 = bakE a →
(((decide (z7 = 0)) = true →
 (True ∧
 ∀ z10 : Chg,
 (z10 = selC (behE a z5) (behC a z5) →
 ∀ z12 : Int,
 (z12 = behE a z5 →
 (((!(decide (z12 = 0))) = true →
  (false, ()) = (true, ())) ∧
 ((!(decide (z12 = 0))) = false →
 (((!((decide (z10.P.xx = 1)) && ((decide (z10.P.xy = 0)) && ((decide (z10.P.xz = 0)) && ((decide (z10.P.yx = 0)) && ((decide (z10.P.yy = 1)) && ((decide (z10.P.yz = 0)) && ((decide (z10.P.zx = 0)) && ((decide (z10.P.zy = 0)) && ((decide (z10.P.zz = 1)) && true)))))))))) = true →
  (false, ()) = (true, ())) ∧
 ((!((decide (z10.P.xx = 1)) && ((decide (z10.P.xy = 0)) && ((decide (z10.P.xz = 0)) && ((decide (z10.P.yx = 0)) && ((decide (z10.P.yy = 1)) && ((decide (z10.P.yz = 0)) && ((decide (z10.P.zx = 0)) && ((decide (z10.P.zy = 0)) && ((decide (z10.P.zz = 1)) && true)))))))))) = false →
 (((!((decide (z10.O.x = 0)) && ((decide (z10.O.y = 0)) && ((decide (z10.O.z = 0)) && true)))) = true →
  (false, ()) = (true, ())) ∧
 ((!((decide (z10.O.x = 0)) && ((decide (z10.O.y = 0)) && ((decide (z10.O.z = 0)) && true)))) = false →
 (True ∧
 ∀ z17 : Pt,
 (z17 = pntP a p →
 ∀ z19 : Int,
 (z19 = pntE a p →
 (True ∧
 ∀ z21 : Pt,
 (z21 = pntP z5 z17 →
 ∀ z23 : Int,
 (z23 = pntE z5 z17 →
 (((decide (z19 = 0)) = true →
  (((!(decide (z23 = 0))) = true →
   (false, ()) = (true, ())) ∧
  ((!(decide (z23 = 0))) = false →
  (((!((decide (z21.M = p.M)) && ((decide (z21.X.x = p.X.x)) && ((decide (z21.X.y = p.X.y)) && ((decide (z21.X.z = p.X.z)) && true))))) = true →
   (false, ()) = (true, ())) ∧
  ((!((decide (z21.M = p.M)) && ((decide (z21.X.x = p.X.x)) && ((decide (z21.X.y = p.X.y)) && ((decide (z21.X.z = p.X.z)) && true))))) = false →
  (True ∧
  ∀ z28 : Op3,
  (z28 = bopO a o →
  ∀ z30 : Int,
  (z30 = bopE a o →
  (True ∧
  ∀ z32 : Op3,
  (z32 = bopO z5 z28 →
  ∀ z34 : Int,
  (z34 = bopE z5 z28 →
  (((decide (z30 = 0)) = true →
   (((!(decide (z34 = 0))) = true →
    (false, ()) = (true, ())) ∧
   ((!(decide (z34 = 0))) = false →
   (((!((decide (z32.R.xx = o.R.xx)) && ((decide (z32.R.xy = o.R.xy)) && ((decide (z32.R.xz = o.R.xz)) && ((decide (z32.R.yx = o.R.yx)) && ((decide (z32.R.yy = o.R.yy)) && ((decide (z32.R.yz = o.R.yz)) && ((decide (z32.R.zx = o.R.zx)) && ((decide (z32.R.zy = o.R.zy)) && ((decide (z32.R.zz = o.R.zz)) && ((decide (z32.T.x = o.T.x)) && ((decide (z32.T.y = o.T.y)) && ((decide (z32.T.z = o.T.z)) && true))))))))))))) = true →
    (false, ()) = (true, ())) ∧
   ((!((decide (z32.R.xx = o.R.xx)) && ((decide (z32.R.xy = o.R.xy)) && ((decide (z32.R.xz = o.R.xz)) && ((decide (z32.R.yx = o.R.yx)) && ((decide (z32.R.yy = o.R.yy)) && ((decide (z32.R.yz = o.R.yz)) && ((decide (z32.R.zx = o.R.zx)) && ((decide (z32.R.zy = o.R.zy)) && ((decide (z32.R.zz = o.R.zz)) && ((decide (z32.T.x = o.T.x)) && ((decide (z32.T.y = o.T.y)) && ((decide (z32.T.z = o.T.z)) && true))))))))))))) = false →
   (True ∧
   (True ∧
   (((!(decide (behE a b = 0))) = true →
    (((decide (behE a b = 3)) = true →
     (true, ()) = (true, ())) ∧
    ((decide (behE a b = 3)) = false →
    ((decide (behE a b = 4)), ()) = (true, ())))) ∧
   ((!(decide (behE a b = 0))) = false →
   (True ∧
   (True ∧
   (True ∧
   ∀ z40 : Pt,
   (z40 = pntP a (pntP b p) →
   ∀ z42 : Int,
   (z42 = pntE a (pntP b p) →
   (True ∧
   ∀ z44 : Pt,
   (z44 = pntP ((selC (behE a b) (behC a b))) p →
   ∀ z46 : Int,
   (z46 = pntE ((selC (behE a b) (behC a b))) p →
   (((!(decide (pntE b p = 0))) = true →
    (((decide (pntE b p = 3)) = true →
     ((decide (z46 = 3)), ()) = (true, ())) ∧
    ((decide (pntE b p = 3)) = false →
    (false, ()) = (true, ())))) ∧
   ((!(decide (pntE b p = 0))) = false →
   (((decide (z42 = 0)) = true →
    (((decide (z46 = 0)) = true →
     (((decide (z40.M = z44.M)) && ((decide (z40.X.x = z44.X.x)) && ((decide (z40.X.y = z44.X.y)) && ((decide (z40.X.z = z44.X.z)) && true)))), ()) = (true, ())) ∧
    ((decide (z46 = 0)) = false →
    (false, ()) = (true, ())))) ∧
   ((decide (z42 = 0)) = false →
   (false, ()) = (true, ())))))))))))))))))))))) ∧
  ((decide (z30 = 0)) = false →
  (True ∧
  (True ∧
  (((!(decide (behE a b = 0))) = true →
   (((decide (behE a b = 3)) = true →
    (true, ()) = (true, ())) ∧
   ((decide (behE a b = 3)) = false →
   ((decide (behE a b = 4)), ()) = (true, ())))) ∧
  ((!(decide (behE a b = 0))) = false →
  (True ∧
  (True ∧
  (True ∧
  ∀ z38 : Pt,
  (z38 = pntP a (pntP b p) →
  ∀ z40 : Int,
  (z40 = pntE a (pntP b p) →
  (True ∧
  ∀ z42 : Pt,
  (z42 = pntP ((selC (behE a b) (behC a b))) p →
  ∀ z44 : Int,
  (z44 = pntE ((selC (behE a b) (behC a b))) p →
  (((!(decide (pntE b p = 0))) = true →
   (((decide (pntE b p = 3)) = true →
    ((decide (z44 = 3)), ()) = (true, ())) ∧
   ((decide (pntE b p = 3)) = false →
   (false, ()) = (true, ())))) ∧
  ((!(decide (pntE b p = 0))) = false →
  (((decide (z40 = 0)) = true →
   (((decide (z44 = 0)) = true →
    (((decide (z38.M = z42.M)) && ((decide (z38.X.x = z42.X.x)) && ((decide (z38.X.y = z42.X.y)) && ((decide (z38.X.z = z42.X.z)) && true)))), ()) = (true, ())) ∧
   ((decide (z44 = 0)) = false →
   (false, ()) = (true, ())))) ∧
  ((decide (z40 = 0)) = false →
  (false, ()) = (true, ())))))))))))))))))))))))))))))) ∧
 ((decide (z19 = 0)) = false →
 (True ∧
 ∀ z26 : Op3,
 (z26 = bopO a o →
 ∀ z28 : Int,
 (z28 = bopE a o →
 (True ∧
 ∀ z30 : Op3,
 (z30 = bopO z5 z26 →
 ∀ z32 : Int,
 (z32 = bopE z5 z26 →
 (((decide (z28 = 0)) = true →
  (((!(decide (z32 = 0))) = true →
   (false, ()) = (true, ())) ∧
  ((!(decide (z32 = 0))) = false →
  (((!((decide (z30.R.xx = o.R.xx)) && ((decide (z30.R.xy = o.R.xy)) && ((decide (z30.R.xz = o.R.xz)) && ((decide (z30.R.yx = o.R.yx)) && ((decide (z30.R.yy = o.R.yy)) && ((decide (z30.R.yz = o.R.yz)) && ((decide (z30.R.zx = o.R.zx)) && ((decide (z30.R.zy = o.R.zy)) && ((decide (z30.R.zz = o.R.zz)) && ((decide (z30.T.x = o.T.x)) && ((decide (z30.T.y = o.T.y)) && ((decide (z30.T.z = o.T.z)) && true))))))))))))) = true →
   (false, ()) = (true, ())) ∧
  ((!((decide (z30.R.xx = o.R.xx)) && ((decide (z30.R.xy = o.R.xy)) && ((decide (z30.R.xz = o.R.xz)) && ((decide (z30.R.yx = o.R.yx)) && ((decide (z30.R.yy = o.R.yy)) && ((decide (z30.R.yz = o.R.yz)) && ((decide (z30.R.zx = o.R.zx)) && ((decide (z30.R.zy = o.R.zy)) && ((decide (z30.R.zz = o.R.zz)) && ((decide (z30.T.x = o.T.x)) && ((decide (z30.T.y = o.T.y)) && ((decide (z30.T.z = o.T.z)) && true))))))))))))) = false →
  (True ∧
  (True ∧
  (((!(decide (behE a b = 0))) = true →
   (((decide (behE a b = 3)) = true →
    (true, ()) = (true, ())) ∧
   ((decide (behE a b = 3)) = false →
   ((decide (behE a b = 4)), ()) = (true, ())))) ∧
  ((!(decide (behE a b = 0))) = false →
  (True ∧
  (True ∧
  (True ∧
  ∀ z38 : Pt,
  (z38 = pntP a (pntP b p) →
  ∀ z40 : Int,
  (z40 = pntE a (pntP b p) →
  (True ∧
  ∀ z42 : Pt,
  (z42 = pntP ((selC (behE a b) (behC a b))) p →
  ∀ z44 : Int,
  (z44 = pntE ((selC (behE a b) (behC a b))) p →
  (((!(decide (pntE b p = 0))) = true →
   (((decide (pntE b p = 3)) = true →
    ((decide (z44 = 3)), ()) = (true, ())) ∧
   ((decide (pntE b p = 3)) = false →
   (false, ()) = (true, ())))) ∧
  ((!(decide (pntE b p = 0))) = false →
  (((decide (z40 = 0)) = true →
   (((decide (z44 = 0)) = true →
    (((decide (z38.M = z42.M)) && ((decide (z38.X.x = z42.X.x)) && ((decide (z38.X.y = z42.X.y)) && ((decide (z38.X.z = z42.X.z)) && true)))), ()) = (true, ())) ∧
   ((decide (z44 = 0)) = false →
   (false, ()) = (true, ())))) ∧
  ((decide (z40 = 0)) = false →
  (false, ()) = (true, ())))))))))))))))))))))) ∧
 ((decide (z28 = 0)) = false →
 (True ∧
 (True ∧
 (((!(decide (behE a b = 0))) = true →
  (((decide (behE a b = 3)) = true →
   (true, ()) = (true, ())) ∧
  ((decide (behE a b = 3)) = false →
  ((decide (behE a b = 4)), ()) = (true, ())))) ∧
 ((!(decide (behE a b = 0))) = false →
 (True ∧
 (True ∧
 (True ∧
 ∀ z36 : Pt,
 (z36 = pntP a (pntP b p) →
 ∀ z38 : Int,
 (z38 = pntE a (pntP b p) →
 (True ∧
 ∀ z40 : Pt,
 (z40 = pntP ((selC (behE a b) (behC a b))) p →
 ∀ z42 : Int,
 (z42 = pntE ((selC (behE a b) (behC a b))) p →
 (((!(decide (pntE b p = 0))) = true →
  (((decide (pntE b p = 3)) = true →
   ((decide (z42 = 3)), ()) = (true, ())) ∧
  ((decide (pntE b p = 3)) = false →
  (false, ()) = (true, ())))) ∧
 ((!(decide (pntE b p = 0))) = false →
 (((decide (z38 = 0)) = true →
  (((decide (z42 = 0)) = true →
   (((decide (z36.M = z40.M)) && ((decide (z36.X.x = z40.X.x)) && ((decide (z36.X.y = z40.X.y)) && ((decide (z36.X.z = z40.X.z)) && true)))), ()) = (true, ())) ∧
  ((decide (z42 = 0)) = false →
  (false, ()) = (true, ())))) ∧
 ((decide (z38 = 0)) = false →
 (false, ()) = (true, ()))))))))))))))))))))))))))))))))))))))))))) ∧
((decide (z7 = 0)) = false →
(True ∧
(True ∧
(((!(decide (behE a b = 0))) = true →
 (((decide (behE a b = 3)) = true →
  (true, ()) = (true, ())) ∧
 ((decide (behE a b = 3)) = false →
 ((decide (behE a b = 4)), ()) = (true, ())))) ∧
((!(decide (behE a b = 0))) = false →
(True ∧
(True ∧
(True ∧
∀ z11 : Pt,
(z11 = pntP a (pntP b p) →
∀ z13 : Int,
(z13 = pntE a (pntP b p) →
(True ∧
∀ z15 : Pt,
(z15 = pntP ((selC (behE a b) (behC a b))) p →
∀ z17 : Int,
(z17 = pntE ((selC (behE a b) (behC a b))) p →
(((!(decide (pntE b p = 0))) = true →
 (((decide (pntE b p = 3)) = true →
  ((decide (z17 = 3)), ()) = (true, ())) ∧
 ((decide (pntE b p = 3)) = false →
 (false, ()) = (true, ())))) ∧
((!(decide (pntE b p = 0))) = false →
(((decide (z13 = 0)) = true →
 (((decide (z17 = 0)) = true →
  (((decide (z11.M = z15.M)) && ((decide (z11.X.x = z15.X.x)) && ((decide (z11.X.y = z15.X.y)) && ((decide (z11.X.z = z15.X.z)) && true)))), ()) = (true, ())) ∧
 ((decide (z17 = 0)) = false →
 (false, ()) = (true, ())))) ∧
((decide (z13 = 0)) = false →
(false, ()) = (true, ()))))))))))))))))))))))))))
theorem r_BasisBack (x : HL C_BasisBack.args) : runs (env [(11, C_f7of), (13, C_awake7), (18, C_bBack.hid), (16, C_bBehind.hid), (15, C_bPoint.hid), (22, C_bOp.hid)] []) 400 8 C_BasisBack x = T_BasisBack x.1 x.2.1 x.2.2.1 x.2.2.2.1 := by kernel_rfl
theorem p_BasisBack (a : Chg) (b : Chg) (p : Pt) (o : Op3) (h0 : (Sh.agg .chg).okA a) (h1 : (Sh.agg .chg).okA b) (h2 : (Sh.agg .pt).okA p) (h3 : (Sh.agg .op).okA o) : T_BasisBack a b p o := by
  unfold T_BasisBack
  have s0 : ∀ c : Chg, selC 0 c = c := fun c => rfl
  rcases behE_vals a b with h4 | h4 | h4
  · by_cases h5 : pntE b p = 0
    · by_cases h1 : bakE a = 0
      · by_cases h2 : pntE a p = 0
        · by_cases h3 : bopE a o = 0
          · obtain ⟨q1, q2, q3⟩ := (beh_pnt (p := p) h4).2 h5
            obtain ⟨k1, k2⟩ := bak_beh h1
            obtain ⟨q6, q7⟩ := bak_pnt (p := p) h1 h2
            obtain ⟨q8, q9⟩ := bak_op (o := o) h1 h3
            simp [h1, h4, s0, h5, q1, q2, q3, k1, k2, h2, h3, oneZ, q6, q7, q8, q9]
          · obtain ⟨q1, q2, q3⟩ := (beh_pnt (p := p) h4).2 h5
            obtain ⟨k1, k2⟩ := bak_beh h1
            obtain ⟨q6, q7⟩ := bak_pnt (p := p) h1 h2
            simp [h1, h4, s0, h5, q1, q2, q3, k1, k2, h2, h3, oneZ, q6, q7]
        · by_cases h3 : bopE a o = 0
          · obtain ⟨q1, q2, q3⟩ := (beh_pnt (p := p) h4).2 h5
            obtain ⟨k1, k2⟩ := bak_beh h1
            obtain ⟨q8, q9⟩ := bak_op (o := o) h1 h3
            simp [h1, h4, s0, h5, q1, q2, q3, k1, k2, h2, h3, oneZ, q8, q9]
          · obtain ⟨q1, q2, q3⟩ := (beh_pnt (p := p) h4).2 h5
            obtain ⟨k1, k2⟩ := bak_beh h1
            simp [h1, h4, s0, h5, q1, q2, q3, k1, k2, h2, h3, oneZ]
      · obtain ⟨q1, q2, q3⟩ := (beh_pnt (p := p) h4).2 h5
        simp [h1, h4, s0, h5, q1, q2, q3]
    · by_cases h1 : bakE a = 0
      · by_cases h2 : pntE a p = 0
        · by_cases h3 : bopE a o = 0
          · obtain ⟨q4, q5⟩ := (beh_pnt (p := p) h4).1 h5
            obtain ⟨k1, k2⟩ := bak_beh h1
            obtain ⟨q6, q7⟩ := bak_pnt (p := p) h1 h2
            obtain ⟨q8, q9⟩ := bak_op (o := o) h1 h3
            simp [h1, h4, s0, h5, q4, q5, k1, k2, h2, h3, oneZ, q6, q7, q8, q9]
          · obtain ⟨q4, q5⟩ := (beh_pnt (p := p) h4).1 h5
            obtain ⟨k1, k2⟩ := bak_beh h1
            obtain ⟨q6, q7⟩ := bak_pnt (p := p) h1 h2
            simp [h1, h4, s0, h5, q4, q5, k1, k2, h2, h3, oneZ, q6, q7]
        · by_cases h3 : bopE a o = 0
          · obtain ⟨q4, q5⟩ := (beh_pnt (p := p) h4).1 h5
            obtain ⟨k1, k2⟩ := bak_beh h1
            obtain ⟨q8, q9⟩ := bak_op (o := o) h1 h3
            simp [h1, h4, s0, h5, q4, q5, k1, k2, h2, h3, oneZ, q8, q9]
          · obtain ⟨q4, q5⟩ := (beh_pnt (p := p) h4).1 h5
            obtain ⟨k1, k2⟩ := bak_beh h1
            simp [h1, h4, s0, h5, q4, q5, k1, k2, h2, h3, oneZ]
      · obtain ⟨q4, q5⟩ := (beh_pnt (p := p) h4).1 h5
        simp [h1, h4, s0, h5, q4, q5]
  · by_cases h1 : bakE a = 0
    · by_cases h2 : pntE a p = 0
      · by_cases h3 : bopE a o = 0
        · obtain ⟨k1, k2⟩ := bak_beh h1
          obtain ⟨q6, q7⟩ := bak_pnt (p := p) h1 h2
          obtain ⟨q8, q9⟩ := bak_op (o := o) h1 h3
          simp [h1, h4, s0, k1, k2, h2, h3, oneZ, q6, q7, q8, q9]
        · obtain ⟨k1, k2⟩ := bak_beh h1
          obtain ⟨q6, q7⟩ := bak_pnt (p := p) h1 h2
          simp [h1, h4, s0, k1, k2, h2, h3, oneZ, q6, q7]
      · by_cases h3 : bopE a o = 0
        · obtain ⟨k1, k2⟩ := bak_beh h1
          obtain ⟨q8, q9⟩ := bak_op (o := o) h1 h3
          simp [h1, h4, s0, k1, k2, h2, h3, oneZ, q8, q9]
        · obtain ⟨k1, k2⟩ := bak_beh h1
          simp [h1, h4, s0, k1, k2, h2, h3, oneZ]
    · simp [h1, h4, s0]
  · by_cases h1 : bakE a = 0
    · by_cases h2 : pntE a p = 0
      · by_cases h3 : bopE a o = 0
        · obtain ⟨k1, k2⟩ := bak_beh h1
          obtain ⟨q6, q7⟩ := bak_pnt (p := p) h1 h2
          obtain ⟨q8, q9⟩ := bak_op (o := o) h1 h3
          simp [h1, h4, s0, k1, k2, h2, h3, oneZ, q6, q7, q8, q9]
        · obtain ⟨k1, k2⟩ := bak_beh h1
          obtain ⟨q6, q7⟩ := bak_pnt (p := p) h1 h2
          simp [h1, h4, s0, k1, k2, h2, h3, oneZ, q6, q7]
      · by_cases h3 : bopE a o = 0
        · obtain ⟨k1, k2⟩ := bak_beh h1
          obtain ⟨q8, q9⟩ := bak_op (o := o) h1 h3
          simp [h1, h4, s0, k1, k2, h2, h3, oneZ, q8, q9]
        · obtain ⟨k1, k2⟩ := bak_beh h1
          simp [h1, h4, s0, k1, k2, h2, h3, oneZ]
    · simp [h1, h4, s0]
theorem s_BasisBack : Sound Try.prog 8 C_BasisBack :=
  sound_of_eq (env_ok (.cons s_f7of (.cons s_awake7 (.cons s_bBack.hid (.cons s_bBehind.hid (.cons s_bPoint.hid (.cons s_bOp.hid (.nil)))))))) (fun x => T_BasisBack x.1 x.2.1 x.2.2.1 x.2.2.2.1) r_BasisBack fun x ok hp => p_BasisBack x.1 x.2.1 x.2.2.1 x.2.2.2.1 ok.1 ok.2.1 ok.2.2.1 ok.2.2.2.1
end Go.Fx
