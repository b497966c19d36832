/-
  Contracts: r9DocOf, r9DocSite, r9DocLeast, r9DocSame, r9SamePoints.
-/
import Derived.Test.YtkcoohpammhnhaaK11
namespace Go.Fx
open Go Go.Proofs
set_option maxRecDepth 100000
set_option linter.unusedVariables false
set_option linter.unusedSimpArgs false
set_option linter.unusedSectionVars false
noncomputable def C_r9DocOf : Contract := { args := [.list .op, .agg .pt], res := [.list .pt, .int .i64], pre := fun _ => True, F := fun x => ((ofL x.1 x.2.1 : List Pt), (ocE x.1 [x.2.1] : Int), ()) }
def T_r9DocOf (g : List Op3) (p : Pt) : Prop :=
  (dcP [p] ∧
∀ z2 : Int,
(z2 = dcE g [p] →
(((!(decide (z2 = 0))) = true →
 ([], (z2, ())) = (ofL g p, (ocE g [p], ()))) ∧
((!(decide (z2 = 0))) = false →
(orP g p ∧
∀ z5 : List Pt,
(z5 = dofL g p →
(z5, (0, ())) = (ofL g p, (ocE g [p], ()))))))))
theorem r_r9DocOf (x : HL C_r9DocOf.args) : runs (env0 [(38, C_r9check.hid), (39, C_r9Of.hid)] [] []) 400 13 C_r9DocOf x = T_r9DocOf x.1 x.2.1 := by kernel_rfl
theorem p_r9DocOf (g : List Op3) (p : Pt) (h0 : (Sh.list .op).okA g) (h1 : (Sh.agg .pt).okA p) : T_r9DocOf g p := by
  unfold T_r9DocOf
  rw [dc_one]
  refine ⟨by simp [dcP], fun e he => ⟨fun q => ?_, fun q => ?_⟩⟩
  · have hne : ocE g [p] ≠ 0 := by rw [← he]; simpa using q
    unfold ofL; rw [if_neg hne, he]
  · have hz : ocE g [p] = 0 := by rw [← he]; simpa using q
    exact ⟨oc_P hz, fun l hl => by rw [hl, dof_of hz, hz]⟩
theorem s_r9DocOf : Sound Try.prog 13 C_r9DocOf :=
  sound_of_eq (env0_ok (.cons s_r9check.hid (.cons s_r9Of.hid (.nil)))) (fun x => T_r9DocOf x.1 x.2.1) r_r9DocOf fun x ok hp => p_r9DocOf x.1 x.2.1 ok.1 ok.2.1
noncomputable def C_r9DocSite : Contract := { args := [.list .op, .agg .pt], res := [.list .int, .int .i64], pre := fun _ => True, F := fun x => ((siL x.1 x.2.1 : List Int), (ocE x.1 [x.2.1] : Int), ()) }
def T_r9DocSite (g : List Op3) (p : Pt) : Prop :=
  (dcP [p] ∧
∀ z2 : Int,
(z2 = dcE g [p] →
(((!(decide (z2 = 0))) = true →
 ([], (z2, ())) = (siL g p, (ocE g [p], ()))) ∧
((!(decide (z2 = 0))) = false →
(siJ g p [] 0 ∧
∀ z5 : List Int,
∀ z6 : Int,
((decide ((-9223372036854775808) ≤ z6)) = true →
((decide (z6 ≤ 9223372036854775807)) = true →
(siJ g p z5 z6 →
(lfit 8 z5 →
(((decide (z6 < (g.length : Int))) = true →
 (inB g z6 ∧
 (apPre (((g.getD (z6).toNat zerO))) p ∧
 ((((decide ((appX (((g.getD (z6).toNat zerO))) p).M = p.M)) && ((decide (((appX (((g.getD (z6).toNat zerO))) p).X).x = p.X.x)) && ((decide (((appX (((g.getD (z6).toNat zerO))) p).X).y = p.X.y)) && ((decide (((appX (((g.getD (z6).toNat zerO))) p).X).z = p.X.z)) && true)))) = true →
  (lfit 8 (lapp z5 [z6]) ∧
  (siJ g p (lapp z5 [z6]) ((w64 (z6 + 1))) ∧
  ((decide (0 ≤ opMu g ((w64 (z6 + 1))))) = true ∧
  (decide (opMu g ((w64 (z6 + 1))) < opMu g z6)) = true)))) ∧
 (((decide ((appX (((g.getD (z6).toNat zerO))) p).M = p.M)) && ((decide (((appX (((g.getD (z6).toNat zerO))) p).X).x = p.X.x)) && ((decide (((appX (((g.getD (z6).toNat zerO))) p).X).y = p.X.y)) && ((decide (((appX (((g.getD (z6).toNat zerO))) p).X).z = p.X.z)) && true)))) = false →
 (siJ g p z5 ((w64 (z6 + 1))) ∧
 ((decide (0 ≤ opMu g ((w64 (z6 + 1))))) = true ∧
 (decide (opMu g ((w64 (z6 + 1))) < opMu g z6)) = true))))))) ∧
((decide (z6 < (g.length : Int))) = false →
(z5, (0, ())) = (siL g p, (ocE g [p], ())))))))))))))
theorem r_r9DocSite (x : HL C_r9DocSite.args) : runs (env0 [(38, C_r9check.hid), (40, C_r9Apply.hid)] [(16, 6, { fix := [(.tmp 17, .list .op), (.cell 3, .agg .pt)], vars := [(.tmp 7, .list .int), (.tmp 19, .int .i64)], inv := fun y v => siJ y.1 y.2.1 v.1 v.2.1, mu := fun y v => opMu y.1 v.2.1 })] []) 400 16 C_r9DocSite x = T_r9DocSite x.1 x.2.1 := by kernel_rfl
theorem p_r9DocSite (g : List Op3) (p : Pt) (h0 : (Sh.list .op).okA g) (h1 : (Sh.agg .pt).okA p) : T_r9DocSite g p := by
  have hb : g.length * 96 ≤ room := h0.2
  unfold T_r9DocSite
  rw [dc_one]
  refine ⟨by simp [dcP], fun e he => ⟨fun q => ?_, fun q => ⟨⟨Int.le_refl _, by omega, rfl⟩, fun s i _ _ hI hfit => ⟨fun hi => ?_, fun hi => ?_⟩⟩⟩⟩
  · have hne : ocE g [p] ≠ 0 := by rw [← he]; simpa using q
    unfold siL; rw [if_neg hne, he]
  · have hz : ocE g [p] = 0 := by rw [← he]; simpa using q
    have hP := oc_P hz
    have hi := of_decide_eq_true hi
    have i0 := hI.1
    have hs := si_lenI hI
    have hl2 := hP.2.2
    obtain ⟨e1, e2, e3⟩ := opMu_next hb i0 hi
    have hF := hP.1 _ (getD_mem i0 hi zerO)
    have hx : (imP g p).getD i.toNat zerP = appX (g.getD i.toNat zerO) p := by rw [imP_get i0 hi, (appP_frm hF hP.2.1).1]
    have nx := si_next hI (by rw [imP_len]; exact hi)
    rw [hx] at nx
    rw [e1] at e2 e3 ⊢
    rw [eqPc]
    refine ⟨⟨i0, hi⟩, ⟨errO_ok.2 hF, hP.2.1⟩, fun c => ⟨?_, ?_, e2, e3⟩, fun c => ⟨?_, e2, e3⟩⟩
    · show (s ++ [i]).length * 8 ≤ 140737488355328
      rw [List.length_append]; simp only [List.length_singleton]; omega
    · rw [if_pos (of_decide_eq_true c)] at nx; exact nx
    · rw [if_neg (of_decide_eq_false c)] at nx; exact nx
  · have hz : ocE g [p] = 0 := by rw [← he]; simpa using q
    have hi := of_decide_eq_false hi
    have : i.toNat = g.length := by have := hI.2.1; rw [imP_len] at this; omega
    unfold siL; rw [if_pos hz, hz, hI.2.2, this]
theorem s_r9DocSite : Sound Try.prog 16 C_r9DocSite :=
  sound_of_eq (env0_ok (.cons s_r9check.hid (.cons s_r9Apply.hid (.nil)))) (fun x => T_r9DocSite x.1 x.2.1) r_r9DocSite fun x ok hp => p_r9DocSite x.1 x.2.1 ok.1 ok.2.1
noncomputable def C_r9DocLeast : Contract := { args := [.list .op, .agg .pt], res := [.agg .pt, .int .i64, .int .i64], pre := fun _ => True, F := fun x => ((lsP x.1 x.2.1 : Pt), (lsI x.1 x.2.1 : Int), (ocE x.1 [x.2.1] : Int), ()) }
def T_r9DocLeast (g : List Op3) (p : Pt) : Prop :=
  (dcP [p] ∧
∀ z2 : Int,
(z2 = dcE g [p] →
(((!(decide (z2 = 0))) = true →
 ((Pt.mk 0 (V3.mk 0 0 0)), (0, (z2, ()))) = (lsP g p, (lsI g p, (ocE g [p], ())))) ∧
((!(decide (z2 = 0))) = false →
(orP g p ∧
∀ z5 : List Pt,
(z5 = dofL g p →
(inB z5 0 ∧
(ftI g p (((z5.getD 0 (Pt.mk 0 (V3.mk 0 0 0))))) 0 ∧
∀ z7 : Int,
((decide ((-9223372036854775808) ≤ z7)) = true →
((decide (z7 ≤ 9223372036854775807)) = true →
(ftI g p (((z5.getD 0 (Pt.mk 0 (V3.mk 0 0 0))))) z7 →
(((decide (z7 < (g.length : Int))) = true →
 (inB g z7 ∧
 (apPre (((g.getD (z7).toNat zerO))) p ∧
 ((((decide ((appX (((g.getD (z7).toNat zerO))) p).M = ((z5.getD 0 (Pt.mk 0 (V3.mk 0 0 0)))).M)) && ((decide (((appX (((g.getD (z7).toNat zerO))) p).X).x = (((z5.getD 0 (Pt.mk 0 (V3.mk 0 0 0)))).X).x)) && ((decide (((appX (((g.getD (z7).toNat zerO))) p).X).y = (((z5.getD 0 (Pt.mk 0 (V3.mk 0 0 0)))).X).y)) && ((decide (((appX (((g.getD (z7).toNat zerO))) p).X).z = (((z5.getD 0 (Pt.mk 0 (V3.mk 0 0 0)))).X).z)) && true)))) = true →
  (((z5.getD 0 (Pt.mk 0 (V3.mk 0 0 0)))), (z7, (0, ()))) = (lsP g p, (lsI g p, (ocE g [p], ())))) ∧
 (((decide ((appX (((g.getD (z7).toNat zerO))) p).M = ((z5.getD 0 (Pt.mk 0 (V3.mk 0 0 0)))).M)) && ((decide (((appX (((g.getD (z7).toNat zerO))) p).X).x = (((z5.getD 0 (Pt.mk 0 (V3.mk 0 0 0)))).X).x)) && ((decide (((appX (((g.getD (z7).toNat zerO))) p).X).y = (((z5.getD 0 (Pt.mk 0 (V3.mk 0 0 0)))).X).y)) && ((decide (((appX (((g.getD (z7).toNat zerO))) p).X).z = (((z5.getD 0 (Pt.mk 0 (V3.mk 0 0 0)))).X).z)) && true)))) = false →
 (ftI g p (((z5.getD 0 (Pt.mk 0 (V3.mk 0 0 0))))) ((w64 (z7 + 1))) ∧
 ((decide (0 ≤ opMu g ((w64 (z7 + 1))))) = true ∧
 (decide (opMu g ((w64 (z7 + 1))) < opMu g z7)) = true))))))) ∧
((decide (z7 < (g.length : Int))) = false →
(((z5.getD 0 (Pt.mk 0 (V3.mk 0 0 0)))), (0, (0, ()))) = (lsP g p, (lsI g p, (ocE g [p], ()))))))))))))))))
theorem r_r9DocLeast (x : HL C_r9DocLeast.args) : runs (env0 [(38, C_r9check.hid), (39, C_r9Of.hid), (40, C_r9Apply.hid)] [(19, 6, { fix := [(.tmp 24, .list .op), (.cell 3, .agg .pt), (.cell 8, .agg .pt)], vars := [(.tmp 26, .int .i64)], inv := fun y v => ftI y.1 y.2.1 y.2.2.1 v.1, mu := fun y v => opMu y.1 v.1 })] []) 400 19 C_r9DocLeast x = T_r9DocLeast x.1 x.2.1 := by kernel_rfl
theorem p_r9DocLeast (g : List Op3) (p : Pt) (h0 : (Sh.list .op).okA g) (h1 : (Sh.agg .pt).okA p) : T_r9DocLeast g p := by
  have hb : g.length * 96 ≤ room := h0.2
  unfold T_r9DocLeast
  rw [dc_one]
  refine ⟨by simp [dcP], fun e he => ⟨fun q => ?_, fun q => ⟨oc_P (by rw [← he]; simpa using q), fun l hl => ?_⟩⟩⟩
  · have hne : ocE g [p] ≠ 0 := by rw [← he]; simpa using q
    unfold lsP lsI; rw [if_neg hne, if_neg hne, he]; rfl
  · have hz : ocE g [p] = 0 := by rw [← he]; simpa using q
    have hh := of_head hz
    have hl2 : l = ofL g p := by rw [hl, dof_of hz]
    have h1 : l.getD 0 (Pt.mk 0 (V3.mk 0 0 0)) = lsP g p := by rw [hl2]; exact hh.1
    have hls : lsP g p ∈ imP g p := by
      unfold lsP; rw [if_pos hz]; exact (minX_ok (im_ok hz) (im_ne hz)).1
    have hli : lsI g p = idxX (imP g p) (lsP g p) := by unfold lsI lsP; rw [if_pos hz, if_pos hz]
    rw [h1, hz]
    refine ⟨⟨Int.le_refl _, by rw [hl2]; have := hh.2; omega⟩, ⟨Int.le_refl _, by omega, fun k hk => by simp at hk⟩, fun i _ _ hI => ⟨fun hi => ?_, fun hi => ?_⟩⟩
    · have hP := oc_P hz
      have hi := of_decide_eq_true hi
      have i0 := hI.1
      obtain ⟨e1, e2, e3⟩ := opMu_next hb i0 hi
      have hF := hP.1 _ (getD_mem i0 hi zerO)
      have hx : (imP g p).getD i.toNat zerP = appX (g.getD i.toNat zerO) p := by rw [imP_get i0 hi, (appP_frm hF hP.2.1).1]
      have hil : i < ((imP g p).length : Int) := by rw [imP_len]; exact hi
      have hb2 : (imP g p).length * 96 ≤ room := by rw [imP_len]; exact hb
      rw [eqPc]
      refine ⟨⟨i0, hi⟩, ⟨errO_ok.2 hF, hP.2.1⟩, fun c => ?_, fun c => ?_⟩
      · rw [hli, show idxX (imP g p) (lsP g p) = i from id_hit hI hil zerP (by rw [hx]; exact of_decide_eq_true c)]
      · have := id_next (b := 96) (by decide) hb2 hI hil zerP (fun k => of_decide_eq_false c (by rw [← hx]; exact k))
        exact ⟨this.1, e2, e3⟩
    · have hi := of_decide_eq_false hi
      have hm : idxX (imP g p) (lsP g p) = -1 := id_miss hI (by rw [imP_len]; exact hi)
      have := (idxD_mem hls).1
      have hm : idxD (imP g p) (lsP g p) = -1 := hm
      omega
theorem s_r9DocLeast : Sound Try.prog 19 C_r9DocLeast :=
  sound_of_eq (env0_ok (.cons s_r9check.hid (.cons s_r9Of.hid (.cons s_r9Apply.hid (.nil))))) (fun x => T_r9DocLeast x.1 x.2.1) r_r9DocLeast fun x ok hp => p_r9DocLeast x.1 x.2.1 ok.1 ok.2.1
noncomputable def C_r9DocSame : Contract := { args := [.list .op, .agg .pt, .agg .pt], res := [.bool, .int .i64], pre := fun _ => True, F := fun x => ((saB x.1 x.2.1 x.2.2.1 : Bool), (saE x.1 x.2.1 x.2.2.1 : Int), ()) }
def T_r9DocSame (g : List Op3) (p : Pt) (q : Pt) : Prop :=
  (dcP ([p, q]) ∧
∀ z3 : Int,
(z3 = dcE g ([p, q]) →
(((!(decide (z3 = 0))) = true →
 (false, (z3, ())) = (saB g p q, (saE g p q, ()))) ∧
((!(decide (z3 = 0))) = false →
(ftI g p q 0 ∧
∀ z6 : Int,
((decide ((-9223372036854775808) ≤ z6)) = true →
((decide (z6 ≤ 9223372036854775807)) = true →
(ftI g p q z6 →
(((decide (z6 < (g.length : Int))) = true →
 (inB g z6 ∧
 (apPre (((g.getD (z6).toNat zerO))) p ∧
 ((((decide ((appX (((g.getD (z6).toNat zerO))) p).M = q.M)) && ((decide (((appX (((g.getD (z6).toNat zerO))) p).X).x = q.X.x)) && ((decide (((appX (((g.getD (z6).toNat zerO))) p).X).y = q.X.y)) && ((decide (((appX (((g.getD (z6).toNat zerO))) p).X).z = q.X.z)) && true)))) = true →
  (true, (0, ())) = (saB g p q, (saE g p q, ()))) ∧
 (((decide ((appX (((g.getD (z6).toNat zerO))) p).M = q.M)) && ((decide (((appX (((g.getD (z6).toNat zerO))) p).X).x = q.X.x)) && ((decide (((appX (((g.getD (z6).toNat zerO))) p).X).y = q.X.y)) && ((decide (((appX (((g.getD (z6).toNat zerO))) p).X).z = q.X.z)) && true)))) = false →
 (ftI g p q ((w64 (z6 + 1))) ∧
 ((decide (0 ≤ opMu g ((w64 (z6 + 1))))) = true ∧
 (decide (opMu g ((w64 (z6 + 1))) < opMu g z6)) = true))))))) ∧
((decide (z6 < (g.length : Int))) = false →
(false, (0, ())) = (saB g p q, (saE g p q, ()))))))))))))
theorem r_r9DocSame (x : HL C_r9DocSame.args) : runs (env0 [(38, C_r9check.hid), (40, C_r9Apply.hid)] [(21, 5, { fix := [(.tmp 19, .list .op), (.cell 4, .agg .pt), (.cell 5, .agg .pt)], vars := [(.tmp 21, .int .i64)], inv := fun y v => ftI y.1 y.2.1 y.2.2.1 v.1, mu := fun y v => opMu y.1 v.1 })] []) 400 21 C_r9DocSame x = T_r9DocSame x.1 x.2.1 x.2.2.1 := by kernel_rfl
theorem p_r9DocSame (g : List Op3) (p : Pt) (q : Pt) (h0 : (Sh.list .op).okA g) (h1 : (Sh.agg .pt).okA p) (h2 : (Sh.agg .pt).okA q) : T_r9DocSame g p q := by
  have hb : g.length * 96 ≤ room := h0.2
  unfold T_r9DocSame
  rw [dc_two]
  refine ⟨by simp [dcP], fun e he => ⟨fun k => ?_, fun k => ?_⟩⟩
  · have hne : saE g p q ≠ 0 := by rw [← he]; simpa using k
    unfold saB; rw [if_neg hne, he]
  · have hs : saE g p q = 0 := by rw [← he]; simpa using k
    have hz2 : ocE g [p, q] = 0 := by
      unfold saE at hs
      split at hs
      · rename_i h; exact h
      · exact hs
    have hz : ocE g [p] = 0 := by obtain ⟨a, _, b⟩ := oc_two hz2; exact oc_of a b
    have hB : saB g p q = decide (q ∈ imP g p) := by unfold saB; rw [if_pos hs]
    rw [hB, hs]
    refine ⟨⟨Int.le_refl _, by omega, fun k hk => by simp at hk⟩, fun i _ _ hI => ⟨fun hi => ?_, fun hi => ?_⟩⟩
    · have hP := oc_P hz
      have hi := of_decide_eq_true hi
      have i0 := hI.1
      obtain ⟨e1, e2, e3⟩ := opMu_next hb i0 hi
      have hF := hP.1 _ (getD_mem i0 hi zerO)
      have hx : (imP g p).getD i.toNat zerP = appX (g.getD i.toNat zerO) p := by rw [imP_get i0 hi, (appP_frm hF hP.2.1).1]
      have hil : i < ((imP g p).length : Int) := by rw [imP_len]; exact hi
      have hb2 : (imP g p).length * 96 ≤ room := by rw [imP_len]; exact hb
      rw [eqPc]
      refine ⟨⟨i0, hi⟩, ⟨errO_ok.2 hF, hP.2.1⟩, fun c => ?_, fun c => ?_⟩
      · have : q ∈ imP g p := by
          have h := getD_mem (l := imP g p) i0 hil zerP
          rw [hx, of_decide_eq_true c] at h; exact h
        rw [decide_eq_true this]
      · have := id_next (b := 96) (by decide) hb2 hI hil zerP (fun k => of_decide_eq_false c (by rw [← hx]; exact k))
        exact ⟨this.1, e2, e3⟩
    · have hi := of_decide_eq_false hi
      have hm : idxD (imP g p) q = -1 := id_miss hI (by rw [imP_len]; exact hi)
      have : q ∉ imP g p := idxD_neg.1 (by omega)
      rw [decide_eq_false this]
theorem s_r9DocSame : Sound Try.prog 21 C_r9DocSame :=
  sound_of_eq (env0_ok (.cons s_r9check.hid (.cons s_r9Apply.hid (.nil)))) (fun x => T_r9DocSame x.1 x.2.1 x.2.2.1) r_r9DocSame fun x ok hp => p_r9DocSame x.1 x.2.1 x.2.2.1 ok.1 ok.2.1 ok.2.2.1
noncomputable def C_r9SamePoints : Contract := { args := [.list .pt, .list .pt], res := [.bool], pre := fun _ => True, F := fun x => ((smX x.1 x.2.1 : Bool), ()) }
def T_r9SamePoints (a : List Pt) (b : List Pt) : Prop :=
  (((!(decide ((a.length : Int) = (b.length : Int)))) = true →
 (false, ()) = (smX a b, ())) ∧
((!(decide ((a.length : Int) = (b.length : Int)))) = false →
(smXi a b 0 ∧
∀ z3 : Int,
((decide ((-9223372036854775808) ≤ z3)) = true →
((decide (z3 ≤ 9223372036854775807)) = true →
(smXi a b z3 →
(((decide (z3 < (a.length : Int))) = true →
 (inB a z3 ∧
 (inB b z3 ∧
 (((!((decide (((a.getD (z3).toNat (Pt.mk 0 (V3.mk 0 0 0)))).M = ((b.getD (z3).toNat (Pt.mk 0 (V3.mk 0 0 0)))).M)) && ((decide ((((a.getD (z3).toNat (Pt.mk 0 (V3.mk 0 0 0)))).X).x = (((b.getD (z3).toNat (Pt.mk 0 (V3.mk 0 0 0)))).X).x)) && ((decide ((((a.getD (z3).toNat (Pt.mk 0 (V3.mk 0 0 0)))).X).y = (((b.getD (z3).toNat (Pt.mk 0 (V3.mk 0 0 0)))).X).y)) && ((decide ((((a.getD (z3).toNat (Pt.mk 0 (V3.mk 0 0 0)))).X).z = (((b.getD (z3).toNat (Pt.mk 0 (V3.mk 0 0 0)))).X).z)) && true))))) = true →
  (false, ()) = (smX a b, ())) ∧
 ((!((decide (((a.getD (z3).toNat (Pt.mk 0 (V3.mk 0 0 0)))).M = ((b.getD (z3).toNat (Pt.mk 0 (V3.mk 0 0 0)))).M)) && ((decide ((((a.getD (z3).toNat (Pt.mk 0 (V3.mk 0 0 0)))).X).x = (((b.getD (z3).toNat (Pt.mk 0 (V3.mk 0 0 0)))).X).x)) && ((decide ((((a.getD (z3).toNat (Pt.mk 0 (V3.mk 0 0 0)))).X).y = (((b.getD (z3).toNat (Pt.mk 0 (V3.mk 0 0 0)))).X).y)) && ((decide ((((a.getD (z3).toNat (Pt.mk 0 (V3.mk 0 0 0)))).X).z = (((b.getD (z3).toNat (Pt.mk 0 (V3.mk 0 0 0)))).X).z)) && true))))) = false →
 (smXi a b ((w64 (z3 + 1))) ∧
 ((decide (0 ≤ lnX a ((w64 (z3 + 1))))) = true ∧
 (decide (lnX a ((w64 (z3 + 1))) < lnX a z3)) = true))))))) ∧
((decide (z3 < (a.length : Int))) = false →
(true, ()) = (smX a b, ())))))))))
theorem r_r9SamePoints (x : HL C_r9SamePoints.args) : runs (env0 [] [(14, 4, { fix := [(.tmp 0, .list .pt), (.tmp 1, .list .pt)], vars := [(.tmp 13, .int .i64)], inv := fun y v => smXi y.1 y.2.1 v.1, mu := fun y v => lnX y.1 v.1 })] []) 400 14 C_r9SamePoints x = T_r9SamePoints x.1 x.2.1 := by kernel_rfl
theorem p_r9SamePoints (a : List Pt) (b : List Pt) (h0 : (Sh.list .pt).okA a) (h1 : (Sh.list .pt).okA b) : T_r9SamePoints a b := by
  have hb : a.length * 32 ≤ 140737488355328 := h0.2
  unfold T_r9SamePoints smX
  refine ⟨fun h => ?_, fun h => ?_⟩
  · have : a ≠ b := fun e => by rw [e] at h; simp at h
    rw [decide_eq_false this]
  have hl : a.length = b.length := by have : (a.length : Int) = b.length := by simpa using h
                                      omega
  refine ⟨⟨hl, by omega, by omega, fun k hk => by simp at hk⟩, fun i _ _ hI => ⟨fun hi => ?_, fun hi => ?_⟩⟩
  · have hi := of_decide_eq_true hi
    have i0 : 0 ≤ i := hI.2.1
    have e1 : w64 (i + 1) = i + 1 := w64_id (by omega) (by omega)
    rw [eqPc, e1]
    refine ⟨⟨i0, hi⟩, ⟨i0, by omega⟩, fun h1 => ?_, fun h1 => ⟨sm_next hI hi (by simpa using h1), decide_eq_true (by unfold lnX; omega), decide_eq_true (by unfold lnX; omega)⟩⟩
    rw [decide_eq_false (sm_ne (by simpa using h1))]
  · rw [decide_eq_true (sm_end hI (of_decide_eq_false hi))]
theorem s_r9SamePoints : Sound Try.prog 14 C_r9SamePoints :=
  sound_of_eq (env0_ok (.nil)) (fun x => T_r9SamePoints x.1 x.2.1) r_r9SamePoints fun x ok hp => p_r9SamePoints x.1 x.2.1 ok.1 ok.2.1
end Go.Fx
