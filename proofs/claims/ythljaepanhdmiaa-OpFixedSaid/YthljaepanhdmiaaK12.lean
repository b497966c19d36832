/-
  Contracts: r3rotation, r3Kind, r3OrderOf, r3gcd, r3DocMake, r3small, r3DocMul, r3DocInverse.
-/
import Derived.Test.YthljaepanhdmiaaK11
namespace Go.Fx
open Go Go.Proofs
set_option maxRecDepth 100000
set_option linter.unusedVariables false
noncomputable def C_r3rotation : Contract := { args := [.agg .mat], res := [.int .i64], pre := fun _ => True, F := fun x => ((rotZ x.1 : Int), ()) }
def T_r3rotation (m : M3) : Prop :=
  (True ∧
(True ∧
(True ∧
(((!(decide (w64 (trcZ m) = w64 (trcZ (wM (invZ m)))))) = true →
 (0, ()) = (rotZ m, ())) ∧
((!(decide (w64 (trcZ m) = w64 (trcZ (wM (invZ m)))))) = false →
(True ∧
(((decide (w64 (trcZ m) = 3)) = true →
 (True ∧
 ((((decide (m.xx = oneO.R.xx)) && ((decide (m.xy = oneO.R.xy)) && ((decide (m.xz = oneO.R.xz)) && ((decide (m.yx = oneO.R.yx)) && ((decide (m.yy = oneO.R.yy)) && ((decide (m.yz = oneO.R.yz)) && ((decide (m.zx = oneO.R.zx)) && ((decide (m.zy = oneO.R.zy)) && ((decide (m.zz = oneO.R.zz)) && true))))))))) = true →
  (1, ()) = (rotZ m, ())) ∧
 (((decide (m.xx = oneO.R.xx)) && ((decide (m.xy = oneO.R.xy)) && ((decide (m.xz = oneO.R.xz)) && ((decide (m.yx = oneO.R.yx)) && ((decide (m.yy = oneO.R.yy)) && ((decide (m.yz = oneO.R.yz)) && ((decide (m.zx = oneO.R.zx)) && ((decide (m.zy = oneO.R.zy)) && ((decide (m.zz = oneO.R.zz)) && true))))))))) = false →
 (0, ()) = (rotZ m, ()))))) ∧
((decide (w64 (trcZ m) = 3)) = false →
(((decide (w64 (trcZ m) = (-1))) = true →
 (True ∧
 (True ∧
 ((((decide ((wM (mulZ m m)).xx = oneO.R.xx)) && ((decide ((wM (mulZ m m)).xy = oneO.R.xy)) && ((decide ((wM (mulZ m m)).xz = oneO.R.xz)) && ((decide ((wM (mulZ m m)).yx = oneO.R.yx)) && ((decide ((wM (mulZ m m)).yy = oneO.R.yy)) && ((decide ((wM (mulZ m m)).yz = oneO.R.yz)) && ((decide ((wM (mulZ m m)).zx = oneO.R.zx)) && ((decide ((wM (mulZ m m)).zy = oneO.R.zy)) && ((decide ((wM (mulZ m m)).zz = oneO.R.zz)) && true))))))))) = true →
  (2, ()) = (rotZ m, ())) ∧
 (((decide ((wM (mulZ m m)).xx = oneO.R.xx)) && ((decide ((wM (mulZ m m)).xy = oneO.R.xy)) && ((decide ((wM (mulZ m m)).xz = oneO.R.xz)) && ((decide ((wM (mulZ m m)).yx = oneO.R.yx)) && ((decide ((wM (mulZ m m)).yy = oneO.R.yy)) && ((decide ((wM (mulZ m m)).yz = oneO.R.yz)) && ((decide ((wM (mulZ m m)).zx = oneO.R.zx)) && ((decide ((wM (mulZ m m)).zy = oneO.R.zy)) && ((decide ((wM (mulZ m m)).zz = oneO.R.zz)) && true))))))))) = false →
 (0, ()) = (rotZ m, ())))))) ∧
((decide (w64 (trcZ m) = (-1))) = false →
(((decide (w64 (trcZ m) = 0)) = true →
 (3, ()) = (rotZ m, ())) ∧
((decide (w64 (trcZ m) = 0)) = false →
(((decide (w64 (trcZ m) = 1)) = true →
 (4, ()) = (rotZ m, ())) ∧
((decide (w64 (trcZ m) = 1)) = false →
(((decide (w64 (trcZ m) = 2)) = true →
 (6, ()) = (rotZ m, ())) ∧
((decide (w64 (trcZ m) = 2)) = false →
(0, ()) = (rotZ m, ())))))))))))))))))
theorem r_r3rotation (x : HL C_r3rotation.args) : runs (env [(90, C_r3trace), (84, C_r3Undone), (22, C_r3One), (81, C_r3Times)] []) 400 76 C_r3rotation x = T_r3rotation x.1 := by kernel_rfl
theorem p_r3rotation (m : M3) (h0 : (Sh.agg .mat).okA m) : T_r3rotation m := by
  have e1 : eqM m (oneZ 1) = (decide (m.xx = oneO.R.xx) && (decide (m.xy = oneO.R.xy) && (decide (m.xz = oneO.R.xz) && (decide (m.yx = oneO.R.yx) && (decide (m.yy = oneO.R.yy) && (decide (m.yz = oneO.R.yz) && (decide (m.zx = oneO.R.zx) && (decide (m.zy = oneO.R.zy) && (decide (m.zz = oneO.R.zz) && true))))))))) := rfl
  have e2 : eqM (wM (mulZ m m)) (oneZ 1) = (decide ((wM (mulZ m m)).xx = oneO.R.xx) && (decide ((wM (mulZ m m)).xy = oneO.R.xy) && (decide ((wM (mulZ m m)).xz = oneO.R.xz) && (decide ((wM (mulZ m m)).yx = oneO.R.yx) && (decide ((wM (mulZ m m)).yy = oneO.R.yy) && (decide ((wM (mulZ m m)).yz = oneO.R.yz) && (decide ((wM (mulZ m m)).zx = oneO.R.zx) && (decide ((wM (mulZ m m)).zy = oneO.R.zy) && (decide ((wM (mulZ m m)).zz = oneO.R.zz) && true))))))))) := rfl
  unfold T_r3rotation rotZ
  rw [← e1, ← e2]
  generalize eqM m (oneZ 1) = b1
  generalize eqM (wM (mulZ m m)) (oneZ 1) = b2
  generalize w64 (trcZ (wM (invZ m))) = s
  generalize w64 (trcZ m) = t
  unfold rotC
  by_cases hts : t = s
  · subst hts
    by_cases t0 : t = 3
    · subst t0; cases b1 <;> simp
    by_cases t1 : t = -1
    · subst t1; cases b2 <;> simp
    by_cases t2 : t = 0
    · subst t2; simp
    by_cases t3 : t = 1
    · subst t3; simp
    by_cases t4 : t = 2
    · subst t4; simp
    simp [t0, t1, t2, t3, t4]
  · simp [hts]
theorem s_r3rotation : Sound Try.prog 76 C_r3rotation :=
  sound_of_eq (env_ok (.cons s_r3trace (.cons s_r3Undone (.cons s_r3One (.cons s_r3Times (.nil)))))) (fun x => T_r3rotation x.1) r_r3rotation fun x ok hp => p_r3rotation x.1 ok.1
noncomputable def C_r3Kind : Contract := { args := [.agg .mat], res := [.int .i64], pre := fun _ => True, F := fun x => ((rkiZ x.1 : Int), ()) }
def T_r3Kind (m : M3) : Prop :=
  (True ∧
(((decide (w64 (detZ m) = 1)) = true →
 (True ∧
 (rotZ m, ()) = (rkiZ m, ()))) ∧
((decide (w64 (detZ m) = 1)) = false →
(True ∧
((w64 ((0 - rotZ ((M3.mk ((w64 (0 - m.xx))) ((w64 (0 - m.xy))) ((w64 (0 - m.xz))) ((w64 (0 - m.yx))) ((w64 (0 - m.yy))) ((w64 (0 - m.yz))) ((w64 (0 - m.zx))) ((w64 (0 - m.zy))) ((w64 (0 - m.zz)))))))), ()) = (rkiZ m, ())))))
theorem r_r3Kind (x : HL C_r3Kind.args) : runs (env [(51, C_r3Det), (76, C_r3rotation)] []) 400 42 C_r3Kind x = T_r3Kind x.1 := by kernel_rfl
theorem p_r3Kind (m : M3) (h0 : (Sh.agg .mat).okA m) : T_r3Kind m := by
  by_cases h : w64 (detZ m) = 1 <;> simp [T_r3Kind, rkiZ, negM, h]
theorem s_r3Kind : Sound Try.prog 42 C_r3Kind :=
  sound_of_eq (env_ok (.cons s_r3Det (.cons s_r3rotation (.nil)))) (fun x => T_r3Kind x.1) r_r3Kind fun x ok hp => p_r3Kind x.1 ok.1
noncomputable def C_r3OrderOf : Contract := { args := [.int .i64], res := [.int .i64], pre := fun _ => True, F := fun x => ((oofZ x.1 : Int), ()) }
def T_r3OrderOf (k : Int) : Prop :=
  (((decide (0 < k)) = true →
 (k, ()) = (oofZ k, ())) ∧
((decide (0 < k)) = false →
(((!(decide ((Int.tmod k 2) = 0))) = true →
 ((w64 (((-2) * k))), ()) = (oofZ k, ())) ∧
((!(decide ((Int.tmod k 2) = 0))) = false →
((w64 (0 - k)), ()) = (oofZ k, ())))))
theorem r_r3OrderOf (x : HL C_r3OrderOf.args) : runs (env [] []) 400 41 C_r3OrderOf x = T_r3OrderOf x.1 := by kernel_rfl
theorem p_r3OrderOf (k : Int) (h0 : (Sh.int .i64).okA k) : T_r3OrderOf k := by
  by_cases h : 0 < k <;> by_cases h2 : Int.tmod k 2 = 0 <;> simp [T_r3OrderOf, oofZ, h, h2]
theorem s_r3OrderOf : Sound Try.prog 41 C_r3OrderOf :=
  sound_of_eq (env_ok (.nil)) (fun x => T_r3OrderOf x.1) r_r3OrderOf fun x ok hp => p_r3OrderOf x.1 ok.1
noncomputable def C_r3gcd : Contract := { args := [.int .i64, .int .i64], res := [.int .i64], pre := fun x => nneg2 x.1 x.2.1, F := fun x => ((gcdI x.1 x.2.1 : Int), ()) }
def T_r3gcd (a : Int) (b : Int) : Prop :=
  (gcInv a b a b ∧
∀ z2 : Int,
((decide ((-9223372036854775808) ≤ z2)) = true →
((decide (z2 ≤ 9223372036854775807)) = true →
∀ z5 : Int,
((decide ((-9223372036854775808) ≤ z5)) = true →
((decide (z5 ≤ 9223372036854775807)) = true →
(gcInv a b z2 z5 →
(((!(decide (z5 = 0))) = true →
 ((z5 ≠ 0) ∧
 (gcInv a b z5 (Int.tmod z2 z5) ∧
 ((decide (0 ≤ pwMu (Int.tmod z2 z5))) = true ∧
 (decide (pwMu (Int.tmod z2 z5) < pwMu z5)) = true)))) ∧
((!(decide (z5 = 0))) = false →
(z2, ()) = (gcdI a b, ())))))))))
theorem r_r3gcd (x : HL C_r3gcd.args) : runs (env [] [(46, 1, { fix := [], vars := [(.tmp 0, .int .i64), (.tmp 1, .int .i64)], inv := fun y v => gcInv x.1 x.2.1 v.1 v.2.1, mu := fun y v => pwMu v.2.1 })]) 400 46 C_r3gcd x = T_r3gcd x.1 x.2.1 := by kernel_rfl
theorem p_r3gcd (a : Int) (b : Int) (h0 : (Sh.int .i64).okA a) (h1 : (Sh.int .i64).okA b) (hp : nneg2 a b) : T_r3gcd a b := by
  exact ⟨⟨hp.1, hp.2, rfl⟩, fun p _ _ q _ _ hI => ⟨fun h => ⟨of_decide_eq_false (no_not h), gc_next hI (of_decide_eq_false (no_not h))⟩, fun h => gc_end hI (of_decide_eq_true (ye_not h))⟩⟩
theorem s_r3gcd : Sound Try.prog 46 C_r3gcd :=
  sound_of_eqs (fun x => env [] [(46, 1, { fix := [], vars := [(.tmp 0, .int .i64), (.tmp 1, .int .i64)], inv := fun y v => gcInv x.1 x.2.1 v.1 v.2.1, mu := fun y v => pwMu v.2.1 })]) (fun _ => rfl) (fun _ => env_ok (.nil)) (fun x => T_r3gcd x.1 x.2.1) r_r3gcd fun x ok hp => p_r3gcd x.1 x.2.1 ok.1 ok.2.1 hp
noncomputable def C_r3DocMake : Contract := { args := [.agg .mat, .agg .vec], res := [.agg .op, .int .i64], pre := fun _ => True, F := fun x => ((selO (uniE x.1) (Op3.mk x.1 (modV 24 x.2.1)) : Op3), (uniE x.1 : Int), ()) }
def T_r3DocMake (r : M3) (t : V3) : Prop :=
  (inM 24 ∧
(True ∧
∀ z2 : Int,
(z2 = errO ((Op3.mk r (modV 24 t))) →
(((!(decide (z2 = 0))) = true →
 ((Op3.mk (M3.mk 0 0 0 0 0 0 0 0 0) (V3.mk 0 0 0)), (z2, ())) = (selO (uniE r) ((Op3.mk r (modV 24 t))), (uniE r, ()))) ∧
((!(decide (z2 = 0))) = false →
((Op3.mk r (modV 24 t)), (0, ())) = (selO (uniE r) ((Op3.mk r (modV 24 t))), (uniE r, ())))))))
theorem r_r3DocMake (x : HL C_r3DocMake.args) : runs (env [(43, C_r3Bring.hid), (20, C_r3Check.hid)] []) 400 18 C_r3DocMake x = T_r3DocMake x.1 x.2.1 := by kernel_rfl
theorem p_r3DocMake (r : M3) (t : V3) (h0 : (Sh.agg .mat).okA r) (h1 : (Sh.agg .vec).okA t) : T_r3DocMake r t := by
  have he : errO (Op3.mk r (modV 24 t)) = uniE r := by unfold errO; rw [if_pos (inT_mod t)]
  by_cases hu : uniE r = 0 <;> simp [T_r3DocMake, he, hu, selO, zerO, k24]
theorem s_r3DocMake : Sound Try.prog 18 C_r3DocMake :=
  sound_of_eq (env_ok (.cons s_r3Bring.hid (.cons s_r3Check.hid (.nil)))) (fun x => T_r3DocMake x.1 x.2.1) r_r3DocMake fun x ok hp => p_r3DocMake x.1 x.2.1 ok.1 ok.2.1
noncomputable def C_r3small : Contract := { args := [.agg .op], res := [.agg .op, .int .i64], pre := fun _ => True, F := fun x => ((selO (errM x.1.R) x.1 : Op3), (errM x.1.R : Int), ()) }
def T_r3small (o : Op3) : Prop :=
  (True ∧
∀ z1 : Bool,
(z1 = okM o.R →
(((!z1) = true →
 ((Op3.mk (M3.mk 0 0 0 0 0 0 0 0 0) (V3.mk 0 0 0)), (4, ())) = (selO (errM o.R) o, (errM o.R, ()))) ∧
((!z1) = false →
(o, (0, ())) = (selO (errM o.R) o, (errM o.R, ()))))))
theorem r_r3small (x : HL C_r3small.args) : runs (env [(49, C_r3Within.hid)] []) 400 56 C_r3small x = T_r3small x.1 := by kernel_rfl
theorem p_r3small (o : Op3) (h0 : (Sh.agg .op).okA o) : T_r3small o := by
  cases h : okM o.R <;> simp [T_r3small, errM, h, selO, zerO]
theorem s_r3small : Sound Try.prog 56 C_r3small :=
  sound_of_eq (env_ok (.cons s_r3Within.hid (.nil))) (fun x => T_r3small x.1) r_r3small fun x ok hp => p_r3small x.1 ok.1
noncomputable def C_r3DocMul : Contract := { args := [.agg .op, .agg .op], res := [.agg .op, .int .i64], pre := fun _ => True, F := fun x => ((selO (mulE x.1 x.2.1) (mulO x.1 x.2.1) : Op3), (mulE x.1 x.2.1 : Int), ()) }
def T_r3DocMul (a : Op3) (b : Op3) : Prop :=
  (True ∧
∀ z2 : Int,
(z2 = errL ([a, b]) →
(((!(decide (z2 = 0))) = true →
 ((Op3.mk (M3.mk 0 0 0 0 0 0 0 0 0) (V3.mk 0 0 0)), (z2, ())) = (selO (mulE a b) (mulO a b), (mulE a b, ()))) ∧
((!(decide (z2 = 0))) = false →
(mulPre a b ∧
∀ z5 : Op3,
(z5 = mulO a b →
(True ∧
∀ z7 : Op3,
(z7 = selO (errM z5.R) z5 →
∀ z9 : Int,
(z9 = errM z5.R →
(z7, (z9, ())) = (selO (mulE a b) (mulO a b), (mulE a b, ())))))))))))
theorem r_r3DocMul (x : HL C_r3DocMul.args) : runs (env [(55, C_r3two.hid), (57, C_r3Mul.hid), (56, C_r3small.hid)] []) 400 24 C_r3DocMul x = T_r3DocMul x.1 x.2.1 := by kernel_rfl
theorem p_r3DocMul (a : Op3) (b : Op3) (h0 : (Sh.agg .op).okA a) (h1 : (Sh.agg .op).okA b) : T_r3DocMul a b := by
  by_cases he : errL [a, b] = 0
  · have hm : mulE a b = errM (mulO a b).R := by unfold mulE; rw [if_pos he]; rfl
    simp [T_r3DocMul, he, errL_pre he, hm]
  · have hm : mulE a b = errL [a, b] := by unfold mulE; rw [if_neg he]
    simp [T_r3DocMul, he, hm, selO, zerO]
theorem s_r3DocMul : Sound Try.prog 24 C_r3DocMul :=
  sound_of_eq (env_ok (.cons s_r3two.hid (.cons s_r3Mul.hid (.cons s_r3small.hid (.nil))))) (fun x => T_r3DocMul x.1 x.2.1) r_r3DocMul fun x ok hp => p_r3DocMul x.1 x.2.1 ok.1 ok.2.1
noncomputable def C_r3DocInverse : Contract := { args := [.agg .op], res := [.agg .op, .int .i64], pre := fun _ => True, F := fun x => ((selO (invE x.1) (invO x.1) : Op3), (invE x.1 : Int), ()) }
def T_r3DocInverse (o : Op3) : Prop :=
  (True ∧
∀ z1 : Int,
(z1 = errO o →
(((!(decide (z1 = 0))) = true →
 ((Op3.mk (M3.mk 0 0 0 0 0 0 0 0 0) (V3.mk 0 0 0)), (z1, ())) = (selO (invE o) (invO o), (invE o, ()))) ∧
((!(decide (z1 = 0))) = false →
(frmO o ∧
∀ z4 : Op3,
(z4 = invO o →
(True ∧
∀ z6 : Op3,
(z6 = selO (errM z4.R) z4 →
∀ z8 : Int,
(z8 = errM z4.R →
(z6, (z8, ())) = (selO (invE o) (invO o), (invE o, ())))))))))))
theorem r_r3DocInverse (x : HL C_r3DocInverse.args) : runs (env [(20, C_r3Check.hid), (60, C_r3Back.hid), (56, C_r3small.hid)] []) 400 26 C_r3DocInverse x = T_r3DocInverse x.1 := by kernel_rfl
theorem p_r3DocInverse (o : Op3) (h0 : (Sh.agg .op).okA o) : T_r3DocInverse o := by
  by_cases he : errO o = 0
  · have hm : invE o = errM (invO o).R := by unfold invE; rw [if_pos he]; rfl
    have hf : frmO o := he
    simp [T_r3DocInverse, he, hm, hf]
  · have hm : invE o = errO o := by unfold invE; rw [if_neg he]
    simp [T_r3DocInverse, he, hm, selO, zerO]
theorem s_r3DocInverse : Sound Try.prog 26 C_r3DocInverse :=
  sound_of_eq (env_ok (.cons s_r3Check.hid (.cons s_r3Back.hid (.cons s_r3small.hid (.nil))))) (fun x => T_r3DocInverse x.1) r_r3DocInverse fun x ok hp => p_r3DocInverse x.1 ok.1
end Go.Fx
