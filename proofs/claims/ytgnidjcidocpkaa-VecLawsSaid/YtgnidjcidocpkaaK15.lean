/-
  Contracts: VecLaws.
-/
import Derived.Test.YtgnidjcidocpkaaK14
import Derived.Test.YtgnidjcidocpkaaL
namespace Go.Fx
open Go Go.Proofs
set_option maxRecDepth 100000
set_option linter.unusedVariables false
noncomputable def C_VecLaws : Contract := { args := [.agg .mat, .agg .mat, .agg .mat, .agg .vec, .agg .vec], res := [.bool], pre := fun _ => True, F := fun x => ((true : Bool), ()) }
def T_VecLaws (a : M3) (b : M3) (c : M3) (v : V3) (w : V3) : Prop :=
  (True ∧
(((!true) = true →
 (false, ()) = (true, ())) ∧
((!true) = false →
(inK1000 10 ∧
(inK1000 10 ∧
(inK1000 10 ∧
(True ∧
∀ z6 : M3,
(z6 = selM (err2 (errM (tamM 10 a)) (errM (tamM 10 b))) (wM (mulZ (tamM 10 a) (tamM 10 b))) →
∀ z8 : Int,
(z8 = err2 (errM (tamM 10 a)) (errM (tamM 10 b)) →
(True ∧
∀ z10 : M3,
(z10 = selM (err2 (errM (tamM 10 b)) (errM (tamM 10 a))) (wM (mulZ (tamM 10 b) (tamM 10 a))) →
∀ z12 : Int,
(z12 = err2 (errM (tamM 10 b)) (errM (tamM 10 a)) →
(True ∧
∀ z14 : M3,
(z14 = selM (err2 (errM (tamM 10 b)) (errM (tamM 10 c))) (wM (mulZ (tamM 10 b) (tamM 10 c))) →
∀ z16 : Int,
(z16 = err2 (errM (tamM 10 b)) (errM (tamM 10 c)) →
(((!(decide (z8 = 0))) = true →
 (false, ()) = (true, ())) ∧
((!(decide (z8 = 0))) = false →
(((!(decide (z12 = 0))) = true →
 (false, ()) = (true, ())) ∧
((!(decide (z12 = 0))) = false →
(((!(decide (z16 = 0))) = true →
 (false, ()) = (true, ())) ∧
((!(decide (z16 = 0))) = false →
(True ∧
∀ z21 : M3,
(z21 = selM (err2 (errM z6) (errM (tamM 10 c))) (wM (mulZ z6 (tamM 10 c))) →
∀ z23 : Int,
(z23 = err2 (errM z6) (errM (tamM 10 c)) →
(True ∧
∀ z25 : M3,
(z25 = selM (err2 (errM (tamM 10 a)) (errM z14)) (wM (mulZ (tamM 10 a) z14)) →
∀ z27 : Int,
(z27 = err2 (errM (tamM 10 a)) (errM z14) →
(True ∧
∀ z29 : V3,
(z29 = selV (err2 (errM (tamM 10 b)) (errV ((V3.mk (Int.tmod v.x 1000) (Int.tmod v.y 1000) (Int.tmod v.z 1000))))) (wV (appZ (tamM 10 b) ((V3.mk (Int.tmod v.x 1000) (Int.tmod v.y 1000) (Int.tmod v.z 1000))))) →
∀ z31 : Int,
(z31 = err2 (errM (tamM 10 b)) (errV ((V3.mk (Int.tmod v.x 1000) (Int.tmod v.y 1000) (Int.tmod v.z 1000)))) →
(((!(decide (z23 = 0))) = true →
 (false, ()) = (true, ())) ∧
((!(decide (z23 = 0))) = false →
(((!(decide (z27 = 0))) = true →
 (false, ()) = (true, ())) ∧
((!(decide (z27 = 0))) = false →
(((!(decide (z31 = 0))) = true →
 (false, ()) = (true, ())) ∧
((!(decide (z31 = 0))) = false →
(((!((decide (z21.xx = z25.xx)) && ((decide (z21.xy = z25.xy)) && ((decide (z21.xz = z25.xz)) && ((decide (z21.yx = z25.yx)) && ((decide (z21.yy = z25.yy)) && ((decide (z21.yz = z25.yz)) && ((decide (z21.zx = z25.zx)) && ((decide (z21.zy = z25.zy)) && ((decide (z21.zz = z25.zz)) && true)))))))))) = true →
 (false, ()) = (true, ())) ∧
((!((decide (z21.xx = z25.xx)) && ((decide (z21.xy = z25.xy)) && ((decide (z21.xz = z25.xz)) && ((decide (z21.yx = z25.yx)) && ((decide (z21.yy = z25.yy)) && ((decide (z21.yz = z25.yz)) && ((decide (z21.zx = z25.zx)) && ((decide (z21.zy = z25.zy)) && ((decide (z21.zz = z25.zz)) && true)))))))))) = false →
(True ∧
∀ z37 : V3,
(z37 = selV (err2 (errM z6) (errV ((V3.mk (Int.tmod v.x 1000) (Int.tmod v.y 1000) (Int.tmod v.z 1000))))) (wV (appZ z6 ((V3.mk (Int.tmod v.x 1000) (Int.tmod v.y 1000) (Int.tmod v.z 1000))))) →
∀ z39 : Int,
(z39 = err2 (errM z6) (errV ((V3.mk (Int.tmod v.x 1000) (Int.tmod v.y 1000) (Int.tmod v.z 1000)))) →
(True ∧
∀ z41 : V3,
(z41 = selV (err2 (errM (tamM 10 a)) (errV z29)) (wV (appZ (tamM 10 a) z29)) →
∀ z43 : Int,
(z43 = err2 (errM (tamM 10 a)) (errV z29) →
(True ∧
∀ z45 : V3,
(z45 = selV (err2 (errM z6) (errV ((V3.mk (Int.tmod w.x 1000) (Int.tmod w.y 1000) (Int.tmod w.z 1000))))) (wV (appZ (traZ z6) ((V3.mk (Int.tmod w.x 1000) (Int.tmod w.y 1000) (Int.tmod w.z 1000))))) →
∀ z47 : Int,
(z47 = err2 (errM z6) (errV ((V3.mk (Int.tmod w.x 1000) (Int.tmod w.y 1000) (Int.tmod w.z 1000)))) →
(((!(decide (z39 = 0))) = true →
 (false, ()) = (true, ())) ∧
((!(decide (z39 = 0))) = false →
(((!(decide (z43 = 0))) = true →
 (false, ()) = (true, ())) ∧
((!(decide (z43 = 0))) = false →
(((!(decide (z47 = 0))) = true →
 (false, ()) = (true, ())) ∧
((!(decide (z47 = 0))) = false →
(((!((decide (z37.x = z41.x)) && ((decide (z37.y = z41.y)) && ((decide (z37.z = z41.z)) && true)))) = true →
 (false, ()) = (true, ())) ∧
((!((decide (z37.x = z41.x)) && ((decide (z37.y = z41.y)) && ((decide (z37.z = z41.z)) && true)))) = false →
(((!(decide ((w64 (((w64 (((w64 (((Int.tmod w.x 1000) * z37.x))) + (w64 (((Int.tmod w.y 1000) * z37.y)))))) + (w64 (((Int.tmod w.z 1000) * z37.z)))))) = (w64 (((w64 (((w64 ((z45.x * (Int.tmod v.x 1000)))) + (w64 ((z45.y * (Int.tmod v.y 1000))))))) + (w64 ((z45.z * (Int.tmod v.z 1000)))))))))) = true →
 (false, ()) = (true, ())) ∧
((!(decide ((w64 (((w64 (((w64 (((Int.tmod w.x 1000) * z37.x))) + (w64 (((Int.tmod w.y 1000) * z37.y)))))) + (w64 (((Int.tmod w.z 1000) * z37.z)))))) = (w64 (((w64 (((w64 ((z45.x * (Int.tmod v.x 1000)))) + (w64 ((z45.y * (Int.tmod v.y 1000))))))) + (w64 ((z45.z * (Int.tmod v.z 1000)))))))))) = false →
(True ∧
∀ z54 : Int,
(z54 = selI (errM (tamM 10 a)) (w64 (detZ (tamM 10 a))) →
∀ z56 : Int,
(z56 = errM (tamM 10 a) →
(True ∧
∀ z58 : Int,
(z58 = selI (errM (tamM 10 b)) (w64 (detZ (tamM 10 b))) →
∀ z60 : Int,
(z60 = errM (tamM 10 b) →
(True ∧
∀ z62 : Int,
(z62 = selI (errM z6) (w64 (detZ z6)) →
∀ z64 : Int,
(z64 = errM z6 →
(True ∧
∀ z66 : Int,
(z66 = selI (errM z6) (w64 (trcZ z6)) →
∀ z68 : Int,
(z68 = errM z6 →
(True ∧
∀ z70 : Int,
(z70 = selI (errM z10) (w64 (trcZ z10)) →
∀ z72 : Int,
(z72 = errM z10 →
(True ∧
∀ z74 : M3,
(z74 = selM (errM (tamM 10 a)) (traZ (tamM 10 a)) →
∀ z76 : Int,
(z76 = errM (tamM 10 a) →
(True ∧
∀ z78 : M3,
(z78 = selM (errM (tamM 10 b)) (traZ (tamM 10 b)) →
∀ z80 : Int,
(z80 = errM (tamM 10 b) →
(True ∧
∀ z82 : M3,
(z82 = selM (err2 (errM z78) (errM z74)) (wM (mulZ z78 z74)) →
∀ z84 : Int,
(z84 = err2 (errM z78) (errM z74) →
(True ∧
∀ z86 : M3,
(z86 = selM (errM z6) (traZ z6) →
∀ z88 : Int,
(z88 = errM z6 →
(((decide (z62 = (w64 (z54 * z58)))) = true →
 (((decide (z66 = z70)) = true →
  (((decide (z82.xx = z86.xx)) && ((decide (z82.xy = z86.xy)) && ((decide (z82.xz = z86.xz)) && ((decide (z82.yx = z86.yx)) && ((decide (z82.yy = z86.yy)) && ((decide (z82.yz = z86.yz)) && ((decide (z82.zx = z86.zx)) && ((decide (z82.zy = z86.zy)) && ((decide (z82.zz = z86.zz)) && true))))))))), ()) = (true, ())) ∧
 ((decide (z66 = z70)) = false →
 (false, ()) = (true, ())))) ∧
((decide (z62 = (w64 (z54 * z58)))) = false →
(false, ()) = (true, ())))))))))))))))))))))))))))))))))))))))))))))))))))))))))))))))))))))))))))))))))))))))
theorem r_VecLaws (x : HL C_VecLaws.args) : runs (env [(10, C_awake), (21, C_tame.hid), (11, C_Mul.hid), (12, C_Apply.hid), (13, C_Left.hid), (22, C_Det.hid), (23, C_Trace.hid), (24, C_Transpose.hid)] []) 400 5 C_VecLaws x = T_VecLaws x.1 x.2.1 x.2.2.1 x.2.2.2.1 x.2.2.2.2.1 := by kernel_rfl
theorem p_VecLaws (a : M3) (b : M3) (c : M3) (v : V3) (w : V3) (h0 : (Sh.agg .mat).okA a) (h1 : (Sh.agg .mat).okA b) (h2 : (Sh.agg .mat).okA c) (h3 : (Sh.agg .vec).okA v) (h4 : (Sh.agg .vec).okA w) : T_VecLaws a b c v w := by
  have hA := tamM_B (k := 10) (by decide) a
  have hB := tamM_B (k := 10) (by decide) b
  have hC := tamM_B (k := 10) (by decide) c
  unfold T_VecLaws
  generalize tamM 10 a = A at hA ⊢
  generalize tamM 10 b = B at hB ⊢
  generalize tamM 10 c = C at hC ⊢
  have b1 := vl_mod v.x
  have b2 := vl_mod v.y
  have b3 := vl_mod v.z
  have b4 := vl_mod w.x
  have b5 := vl_mod w.y
  have b6 := vl_mod w.z
  generalize Int.tmod v.x 1000 = vx at b1 ⊢
  generalize Int.tmod v.y 1000 = vy at b2 ⊢
  generalize Int.tmod v.z 1000 = vz at b3 ⊢
  generalize Int.tmod w.x 1000 = wx at b4 ⊢
  generalize Int.tmod w.y 1000 = wy at b5 ⊢
  generalize Int.tmod w.z 1000 = wz at b6 ⊢
  have hV : vlB 999 (V3.mk vx vy vz) := ⟨b1, b2, b3⟩
  have hW : vlB 999 (V3.mk wx wy wz) := ⟨b4, b5, b6⟩
  have hAB := mulZ_B hA hB
  have hBA := mulZ_B hB hA
  have hBC := mulZ_B hB hC
  have hBV := vl_appB hB hV
  have hdot := vl_dot (mulZ A B) wx wy wz (V3.mk vx vy vz)
  rw [vl_app] at hdot
  have k0 : inK1000 10 := ⟨by decide, by decide⟩
  have e1 := errM_B (by decide) hA
  have e2 := errM_B (by decide) hB
  have e3 := errM_B (by decide) hC
  have e4 := errM_B (by decide) hAB
  have e5 := errM_B (by decide) hBA
  have e6 := errM_B (by decide) hBC
  have e7 := vl_errV (by decide) hV
  have e8 := vl_errV (by decide) hW
  have e9 := vl_errV (by decide) hBV
  have f1 := wM_id (by decide) hAB
  have f2 := wM_id (by decide) hBA
  have f3 := wM_id (by decide) hBC
  have f4 : wM (mulZ (mulZ A B) C) = mulZ A (mulZ B C) := by rw [wM_id (by decide) (mulZ_B hAB hC), mulZ_assoc]
  have f5 : wM (mulZ A (mulZ B C)) = mulZ A (mulZ B C) := wM_id (by decide) (mulZ_B hA hBC)
  have f6 := vl_wV (by decide) hBV
  have f7 : wV (appZ (mulZ A B) (V3.mk vx vy vz)) = appZ A (appZ B (V3.mk vx vy vz)) := by rw [vl_wV (by decide) (vl_appB hAB hV), vl_app]
  have f8 : wV (appZ A (appZ B (V3.mk vx vy vz))) = appZ A (appZ B (V3.mk vx vy vz)) := vl_wV (by decide) (vl_appB hA hBV)
  have f9 := vl_wV (by decide) (vl_appB (vl_traB hAB) hW)
  have g1 : w64 (detZ (mulZ A B)) = w64 (w64 (detZ A) * w64 (detZ B)) := by rw [w64_mul_l, w64_mul_r, vl_det]
  have g2 : w64 (trcZ (mulZ A B)) = w64 (trcZ (mulZ B A)) := by rw [trc_comm]
  have g3 : wM (mulZ (traZ B) (traZ A)) = traZ (mulZ A B) := by rw [vl_tra, wM_id (by decide) (vl_traB hAB)]
  have g4 : errM (traZ A) = 0 := by rw [errM_traZ, e1]
  have g5 : errM (traZ B) = 0 := by rw [errM_traZ, e2]
  clear hA hB hC hAB hBA hBC hBV hV hW b1 b2 b3 b4 b5 b6
  simp only [k0, e1, e2, e3, e4, e5, e6, e7, e8, e9, f1, f2, f3, f4, f5, f6, f7, f8, f9, g1, g2, g3, g4, g5, err2, selM, selV, selI, hdot, if_true, ite_true, forall_eq, decide_true, Bool.not_true, Bool.not_false, Bool.and_true, true_and, and_true, reduceCtorEq, false_implies, implies_true, forall_const, eq_self]
theorem s_VecLaws : Sound Try.prog 5 C_VecLaws :=
  sound_of_eq (env_ok (.cons s_awake (.cons s_tame.hid (.cons s_Mul.hid (.cons s_Apply.hid (.cons s_Left.hid (.cons s_Det.hid (.cons s_Trace.hid (.cons s_Transpose.hid (.nil)))))))))) (fun x => T_VecLaws x.1 x.2.1 x.2.2.1 x.2.2.2.1 x.2.2.2.2.1) r_VecLaws fun x ok hp => p_VecLaws x.1 x.2.1 x.2.2.1 x.2.2.2.1 x.2.2.2.2.1 ok.1 ok.2.1 ok.2.2.1 ok.2.2.2.1 ok.2.2.2.2.1
end Go.Fx
