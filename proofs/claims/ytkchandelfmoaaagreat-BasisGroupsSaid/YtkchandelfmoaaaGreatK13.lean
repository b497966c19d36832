/-
  Contracts: f7bring, f7image, f7least, f7told, f7of, awake7.
-/
import Derived.Test.YtkchandelfmoaaaGreatK12
namespace Go.Fx
open Go Go.Proofs
set_option maxRecDepth 100000
set_option linter.unusedVariables false
set_option linter.unusedSimpArgs false
set_option linter.unusedSectionVars false
noncomputable def C_f7bring : Contract := { args := [.agg .vec, .int .i64], res := [.agg .vec], pre := fun x => inM x.2.1, F := fun x => ((modV x.2.1 x.1 : V3), ()) }
def T_f7bring (v : V3) (m : Int) : Prop :=
  (inM m ∧
(modV m v, ()) = (modV m v, ()))
theorem r_f7bring (x : HL C_f7bring.args) : runs (env0 [(72, C_f2Bring)] [] []) 400 60 C_f7bring x = T_f7bring x.1 x.2.1 := by kernel_rfl
theorem p_f7bring (v : V3) (m : Int) (h0 : (Sh.agg .vec).okA v) (h1 : (Sh.int .i64).okA m) (hp : inM m) : T_f7bring v m := by
  exact ⟨hp, rfl⟩
theorem s_f7bring : Sound Tryz.prog 60 C_f7bring :=
  sound_of_eq (env0_ok (.cons s_f2Bring (.nil))) (fun x => T_f7bring x.1 x.2.1) r_f7bring fun x ok hp => p_f7bring x.1 x.2.1 ok.1 ok.2.1 hp
noncomputable def C_f7image : Contract := { args := [.agg .mat, .agg .vec, .agg .vec, .int .i64], res := [.agg .vec], pre := fun x => inM x.2.2.2.1, F := fun x => ((imgW x.1 x.2.1 x.2.2.1 x.2.2.2.1 : V3), ()) }
def T_f7image (m : M3) (v : V3) (w : V3) (n : Int) : Prop :=
  (inM n ∧
(True ∧
(inM n ∧
∀ z4 : V3,
(z4 = modV n w →
(inM n ∧
∀ z6 : V3,
(z6 = modV n ((V3.mk ((w64 (((wV (appZ m (modV n v))).x + z4.x)))) ((w64 (((wV (appZ m (modV n v))).y + z4.y)))) ((w64 (((wV (appZ m (modV n v))).z + z4.z)))))) →
(z6, ()) = (imgW m v w n, ())))))))
theorem r_f7image (x : HL C_f7image.args) : runs (env0 [(60, C_f7bring.hid), (59, C_rApply.hid)] [] []) 400 58 C_f7image x = T_f7image x.1 x.2.1 x.2.2.1 x.2.2.2.1 := by kernel_rfl
theorem p_f7image (m : M3) (v : V3) (w : V3) (n : Int) (h0 : (Sh.agg .mat).okA m) (h1 : (Sh.agg .vec).okA v) (h2 : (Sh.agg .vec).okA w) (h3 : (Sh.int .i64).okA n) (hp : inM n) : T_f7image m v w n := by
  exact ⟨hp, trivial, hp, fun z hz => ⟨hp, fun y hy => by subst hz; subst hy; rfl⟩⟩
theorem s_f7image : Sound Tryz.prog 58 C_f7image :=
  sound_of_eq (env0_ok (.cons s_f7bring.hid (.cons s_rApply.hid (.nil)))) (fun x => T_f7image x.1 x.2.1 x.2.2.1 x.2.2.2.1) r_f7image fun x ok hp => p_f7image x.1 x.2.1 x.2.2.1 x.2.2.2.1 ok.1 ok.2.1 ok.2.2.1 ok.2.2.2.1 hp
noncomputable def C_f7least : Contract := { args := [.list .int], res := [.int .i64], pre := fun _ => True, F := fun x => ((lstL x.1 : Int), ()) }
def T_f7least (l : List Int) : Prop :=
  (lsI l 0 0 ∧
∀ z1 : Int,
((decide ((-9223372036854775808) ≤ z1)) = true →
((decide (z1 ≤ 9223372036854775807)) = true →
∀ z4 : Int,
((decide ((-9223372036854775808) ≤ z4)) = true →
((decide (z4 ≤ 9223372036854775807)) = true →
(lsI l z1 z4 →
(((decide (z1 < (l.length : Int))) = true →
 (inB l z1 ∧
 (((!(decide ((l.getD (z1).toNat 0) = 0))) = true →
  (((decide (z4 = 0)) = true →
   (lsI l ((w64 (z1 + 1))) ((l.getD (z1).toNat 0)) ∧
   ((decide (0 ≤ lnMu l ((w64 (z1 + 1))))) = true ∧
   (decide (lnMu l ((w64 (z1 + 1))) < lnMu l z1)) = true))) ∧
  ((decide (z4 = 0)) = false →
  (((decide ((l.getD (z1).toNat 0) < z4)) = true →
   (lsI l ((w64 (z1 + 1))) ((l.getD (z1).toNat 0)) ∧
   ((decide (0 ≤ lnMu l ((w64 (z1 + 1))))) = true ∧
   (decide (lnMu l ((w64 (z1 + 1))) < lnMu l z1)) = true))) ∧
  ((decide ((l.getD (z1).toNat 0) < z4)) = false →
  (lsI l ((w64 (z1 + 1))) z4 ∧
  ((decide (0 ≤ lnMu l ((w64 (z1 + 1))))) = true ∧
  (decide (lnMu l ((w64 (z1 + 1))) < lnMu l z1)) = true))))))) ∧
 ((!(decide ((l.getD (z1).toNat 0) = 0))) = false →
 (lsI l ((w64 (z1 + 1))) z4 ∧
 ((decide (0 ≤ lnMu l ((w64 (z1 + 1))))) = true ∧
 (decide (lnMu l ((w64 (z1 + 1))) < lnMu l z1)) = true)))))) ∧
((decide (z1 < (l.length : Int))) = false →
(z4, ()) = (lstL l, ())))))))))
theorem r_f7least (x : HL C_f7least.args) : runs (env0 [] [(24, 3, { fix := [(.tmp 6, .list .int)], vars := [(.tmp 8, .int .i64), (.tmp 3, .int .i64)], inv := fun y v => lsI y.1 v.1 v.2.1, mu := fun y v => lnMu y.1 v.1 })] []) 400 24 C_f7least x = T_f7least x.1 := by kernel_rfl
theorem p_f7least (l : List Int) (h0 : (Sh.list .int).okA l) : T_f7least l := by
  have hb : l.length * 8 ≤ room := h0.2
  refine ⟨⟨by omega, by omega, rfl⟩, fun i _ _ w _ _ hI => ⟨fun hi => ?_, fun hi => ls_fin hI (of_decide_eq_false hi)⟩⟩
  have hi := of_decide_eq_true hi
  have i0 := hI.1
  have nx := ls_step hb hI hi
  generalize l.getD i.toNat 0 = x at nx
  refine ⟨⟨i0, hi⟩, fun h1 => ?_, fun h1 => ?_⟩
  · have hx : x ≠ 0 := fun e => by rw [decide_eq_true e] at h1; cases h1
    refine ⟨fun h2 => ?_, fun h2 => ⟨fun h3 => ?_, fun h3 => ?_⟩⟩
    · rw [show lstS w x = x from if_pos ⟨hx, .inl (of_decide_eq_true h2)⟩] at nx; exact nx
    · rw [show lstS w x = x from if_pos ⟨hx, .inr (of_decide_eq_true h3)⟩] at nx; exact nx
    · rw [show lstS w x = w from if_neg fun h => h.2.elim (of_decide_eq_false h2) (of_decide_eq_false h3)] at nx; exact nx
  · have hx : x = 0 := by
      by_cases e : x = 0
      · exact e
      · rw [decide_eq_false e] at h1; cases h1
    rw [show lstS w x = w from if_neg fun h => h.1 hx] at nx; exact nx
theorem s_f7least : Sound Tryz.prog 24 C_f7least :=
  sound_of_eq (env0_ok (.nil)) (fun x => T_f7least x.1) r_f7least fun x ok hp => p_f7least x.1 ok.1
noncomputable def C_f7told : Contract := { args := [.agg .chg, .agg .op], res := [.agg .op], pre := fun x => tolP x.1 x.2.1, F := fun x => ((tolW x.1 (invW x.1.P) x.2.1 : Op3), ()) }
def T_f7told (c : Chg) (o : Op3) : Prop :=
  (True ∧
(True ∧
(True ∧
(inM 24 ∧
∀ z2 : V3,
(z2 = imgW c.P o.T c.O 24 →
(inM 24 ∧
(True ∧
(inM 24 ∧
((Op3.mk (wM (mulZ (wM (mulZ c.P o.R)) (wM (scaZ (detZ c.P) (adjZ c.P))))) (modV 24 ((V3.mk ((w64 ((z2.x - (Int.tmod ((wV (appZ (wM (mulZ (wM (mulZ c.P o.R)) (wM (scaZ (detZ c.P) (adjZ c.P))))) (modV 24 c.O))).x) 24))))) ((w64 ((z2.y - (Int.tmod ((wV (appZ (wM (mulZ (wM (mulZ c.P o.R)) (wM (scaZ (detZ c.P) (adjZ c.P))))) (modV 24 c.O))).y) 24))))) ((w64 ((z2.z - (Int.tmod ((wV (appZ (wM (mulZ (wM (mulZ c.P o.R)) (wM (scaZ (detZ c.P) (adjZ c.P))))) (modV 24 c.O))).z) 24))))))))), ()) = (tolW c (invW c.P) o, ())))))))))
theorem r_f7told (x : HL C_f7told.args) : runs (env0 [(56, C_rMul), (57, C_rInverse), (58, C_f7image.hid), (59, C_rApply), (60, C_f7bring)] [] []) 400 27 C_f7told x = T_f7told x.1 x.2.1 := by kernel_rfl
theorem p_f7told (c : Chg) (o : Op3) (h0 : (Sh.agg .chg).okA c) (h1 : (Sh.agg .op).okA o) (hp : tolP c o) : T_f7told c o := by
  have e := tol_T hp rfl
  refine ⟨trivial, trivial, trivial, k24, fun z hz => ⟨k24, trivial, k24, ?_⟩⟩
  subst hz
  unfold invW at e
  rw [e]; rfl
theorem s_f7told : Sound Tryz.prog 27 C_f7told :=
  sound_of_eq (env0_ok (.cons s_rMul (.cons s_rInverse (.cons s_f7image.hid (.cons s_rApply (.cons s_f7bring (.nil))))))) (fun x => T_f7told x.1 x.2.1) r_f7told fun x ok hp => p_f7told x.1 x.2.1 ok.1 ok.2.1 hp
noncomputable def C_f7of : Contract := { args := [.agg .chg], res := [.agg .chg], pre := fun _ => True, F := fun x => ((x.1 : Chg), ()) }
def T_f7of (c : Chg) : Prop :=
  (c, ()) = (c, ())
theorem r_f7of (x : HL C_f7of.args) : runs (env0 [] [] []) 400 8 C_f7of x = T_f7of x.1 := by kernel_rfl
theorem p_f7of (c : Chg) (h0 : (Sh.agg .chg).okA c) : T_f7of c := by
  rfl
theorem s_f7of : Sound Tryz.prog 8 C_f7of :=
  sound_of_eq (env0_ok (.nil)) (fun x => T_f7of x.1) r_f7of fun x ok hp => p_f7of x.1 ok.1
noncomputable def C_awake7 : Contract := { args := [], res := [.bool], pre := fun _ => True, F := fun x => ((true : Bool), ()) }
def T_awake7  : Prop :=
  (True ∧
(True ∧
(True ∧
(True ∧
(((decide (pntE ((Chg.mk (M3.mk 1 1 0 0 1 0 0 0 1) (V3.mk 12 0 25))) ((Pt.mk 48 (V3.mk 1 2 3))) = 0)) = true →
 (((decide (bakE ((Chg.mk (M3.mk 1 1 0 0 1 0 0 0 1) (V3.mk 12 0 25))) = 0)) = true →
  (((decide (idxE ((Chg.mk (M3.mk 1 1 0 0 1 0 0 0 1) (V3.mk 12 0 25))) (V3.mk 1 0 0) = 0)) = true →
   (((decide (metE ((Chg.mk (M3.mk 1 1 0 0 1 0 0 0 1) (V3.mk 12 0 25))) (Met.mk 4 9 1 0 0 0) = 0)) = true →
    ((((decide ((pntP ((Chg.mk (M3.mk 1 1 0 0 1 0 0 0 1) (V3.mk 12 0 25))) ((Pt.mk 48 (V3.mk 1 2 3)))).M = 48)) && ((decide (((pntP ((Chg.mk (M3.mk 1 1 0 0 1 0 0 0 1) (V3.mk 12 0 25))) ((Pt.mk 48 (V3.mk 1 2 3)))).X).x = 27)) && ((decide (((pntP ((Chg.mk (M3.mk 1 1 0 0 1 0 0 0 1) (V3.mk 12 0 25))) ((Pt.mk 48 (V3.mk 1 2 3)))).X).y = 2)) && ((decide (((pntP ((Chg.mk (M3.mk 1 1 0 0 1 0 0 0 1) (V3.mk 12 0 25))) ((Pt.mk 48 (V3.mk 1 2 3)))).X).z = 5)) && true)))) = true →
     ((((decide (((selC (bakE ((Chg.mk (M3.mk 1 1 0 0 1 0 0 0 1) (V3.mk 12 0 25)))) (bakC ((Chg.mk (M3.mk 1 1 0 0 1 0 0 0 1) (V3.mk 12 0 25))))).O).x = 12)) && ((decide (((selC (bakE ((Chg.mk (M3.mk 1 1 0 0 1 0 0 0 1) (V3.mk 12 0 25)))) (bakC ((Chg.mk (M3.mk 1 1 0 0 1 0 0 0 1) (V3.mk 12 0 25))))).O).y = 0)) && ((decide (((selC (bakE ((Chg.mk (M3.mk 1 1 0 0 1 0 0 0 1) (V3.mk 12 0 25)))) (bakC ((Chg.mk (M3.mk 1 1 0 0 1 0 0 0 1) (V3.mk 12 0 25))))).O).z = 23)) && true))) = true →
      ((((decide ((idxV ((Chg.mk (M3.mk 1 1 0 0 1 0 0 0 1) (V3.mk 12 0 25))) (V3.mk 1 0 0)).x = 1)) && ((decide ((idxV ((Chg.mk (M3.mk 1 1 0 0 1 0 0 0 1) (V3.mk 12 0 25))) (V3.mk 1 0 0)).y = (-1))) && ((decide ((idxV ((Chg.mk (M3.mk 1 1 0 0 1 0 0 0 1) (V3.mk 12 0 25))) (V3.mk 1 0 0)).z = 0)) && true))) = true →
       (((decide ((metM ((Chg.mk (M3.mk 1 1 0 0 1 0 0 0 1) (V3.mk 12 0 25))) (Met.mk 4 9 1 0 0 0)).AA = 4)) && ((decide ((metM ((Chg.mk (M3.mk 1 1 0 0 1 0 0 0 1) (V3.mk 12 0 25))) (Met.mk 4 9 1 0 0 0)).BB = 13)) && ((decide ((metM ((Chg.mk (M3.mk 1 1 0 0 1 0 0 0 1) (V3.mk 12 0 25))) (Met.mk 4 9 1 0 0 0)).CC = 1)) && ((decide ((metM ((Chg.mk (M3.mk 1 1 0 0 1 0 0 0 1) (V3.mk 12 0 25))) (Met.mk 4 9 1 0 0 0)).BC = 0)) && ((decide ((metM ((Chg.mk (M3.mk 1 1 0 0 1 0 0 0 1) (V3.mk 12 0 25))) (Met.mk 4 9 1 0 0 0)).AC = 0)) && ((decide ((metM ((Chg.mk (M3.mk 1 1 0 0 1 0 0 0 1) (V3.mk 12 0 25))) (Met.mk 4 9 1 0 0 0)).AB = (-4))) && true)))))), ()) = (true, ())) ∧
      (((decide ((idxV ((Chg.mk (M3.mk 1 1 0 0 1 0 0 0 1) (V3.mk 12 0 25))) (V3.mk 1 0 0)).x = 1)) && ((decide ((idxV ((Chg.mk (M3.mk 1 1 0 0 1 0 0 0 1) (V3.mk 12 0 25))) (V3.mk 1 0 0)).y = (-1))) && ((decide ((idxV ((Chg.mk (M3.mk 1 1 0 0 1 0 0 0 1) (V3.mk 12 0 25))) (V3.mk 1 0 0)).z = 0)) && true))) = false →
      (false, ()) = (true, ())))) ∧
     (((decide (((selC (bakE ((Chg.mk (M3.mk 1 1 0 0 1 0 0 0 1) (V3.mk 12 0 25)))) (bakC ((Chg.mk (M3.mk 1 1 0 0 1 0 0 0 1) (V3.mk 12 0 25))))).O).x = 12)) && ((decide (((selC (bakE ((Chg.mk (M3.mk 1 1 0 0 1 0 0 0 1) (V3.mk 12 0 25)))) (bakC ((Chg.mk (M3.mk 1 1 0 0 1 0 0 0 1) (V3.mk 12 0 25))))).O).y = 0)) && ((decide (((selC (bakE ((Chg.mk (M3.mk 1 1 0 0 1 0 0 0 1) (V3.mk 12 0 25)))) (bakC ((Chg.mk (M3.mk 1 1 0 0 1 0 0 0 1) (V3.mk 12 0 25))))).O).z = 23)) && true))) = false →
     (false, ()) = (true, ())))) ∧
    (((decide ((pntP ((Chg.mk (M3.mk 1 1 0 0 1 0 0 0 1) (V3.mk 12 0 25))) ((Pt.mk 48 (V3.mk 1 2 3)))).M = 48)) && ((decide (((pntP ((Chg.mk (M3.mk 1 1 0 0 1 0 0 0 1) (V3.mk 12 0 25))) ((Pt.mk 48 (V3.mk 1 2 3)))).X).x = 27)) && ((decide (((pntP ((Chg.mk (M3.mk 1 1 0 0 1 0 0 0 1) (V3.mk 12 0 25))) ((Pt.mk 48 (V3.mk 1 2 3)))).X).y = 2)) && ((decide (((pntP ((Chg.mk (M3.mk 1 1 0 0 1 0 0 0 1) (V3.mk 12 0 25))) ((Pt.mk 48 (V3.mk 1 2 3)))).X).z = 5)) && true)))) = false →
    (false, ()) = (true, ())))) ∧
   ((decide (metE ((Chg.mk (M3.mk 1 1 0 0 1 0 0 0 1) (V3.mk 12 0 25))) (Met.mk 4 9 1 0 0 0) = 0)) = false →
   (false, ()) = (true, ())))) ∧
  ((decide (idxE ((Chg.mk (M3.mk 1 1 0 0 1 0 0 0 1) (V3.mk 12 0 25))) (V3.mk 1 0 0) = 0)) = false →
  (false, ()) = (true, ())))) ∧
 ((decide (bakE ((Chg.mk (M3.mk 1 1 0 0 1 0 0 0 1) (V3.mk 12 0 25))) = 0)) = false →
 (false, ()) = (true, ())))) ∧
((decide (pntE ((Chg.mk (M3.mk 1 1 0 0 1 0 0 0 1) (V3.mk 12 0 25))) ((Pt.mk 48 (V3.mk 1 2 3))) = 0)) = false →
(false, ()) = (true, ())))))))
theorem r_awake7 (x : HL C_awake7.args) : runs (env0 [(12, C_bPoint), (13, C_bBack), (14, C_bIndex), (15, C_bMetric)] [] []) 400 4 C_awake7 x = T_awake7  := by kernel_rfl
theorem p_awake7   : T_awake7  := by
  unfold T_awake7
  repeat' (first | (with_reducible exact trivial) | (with_reducible apply And.intro) | (intro h; first | (exact absurd h (by decide +kernel)) | skip) | rfl | decide +kernel)
theorem s_awake7 : Sound Tryz.prog 4 C_awake7 :=
  sound_of_eq (env0_ok (.cons s_bPoint (.cons s_bBack (.cons s_bIndex (.cons s_bMetric (.nil)))))) (fun x => T_awake7 ) r_awake7 fun x ok hp => p_awake7  
end Go.Fx
