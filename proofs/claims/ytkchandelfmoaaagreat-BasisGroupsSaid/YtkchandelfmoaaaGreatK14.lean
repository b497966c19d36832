/-
  Contracts: f7DocGroup, spare7.
-/
import Derived.Test.YtkchandelfmoaaaGreatK13
namespace Go.Fx
open Go Go.Proofs
set_option maxRecDepth 100000
set_option linter.unusedVariables false
set_option linter.unusedSimpArgs false
set_option linter.unusedSectionVars false
noncomputable def C_f7DocGroup : Contract := { args := [.agg .chg, .list .op], res := [.list .op, .int .i64], pre := fun _ => True, F := fun x => ((bgL x.1 x.2.1 : List Op3), (bgE x.1 x.2.1 : Int), ()) }
def T_f7DocGroup (c : Chg) (g : List Op3) : Prop :=
  (True ∧
∀ z2 : Int,
(z2 = uniE c.P →
(True ∧
∀ z4 : Int,
(z4 = chkE g →
(True ∧
∀ z6 : Int,
(z6 = lstL ([z2, z4]) →
(((!(decide (z6 = 0))) = true →
 ([], (z6, ())) = (bgL c g, (bgE c g, ()))) ∧
((!(decide (z6 = 0))) = false →
(dgI c g [] 0 ∧
∀ z9 : List Op3,
∀ z10 : Int,
((decide ((-9223372036854775808) ≤ z10)) = true →
((decide (z10 ≤ 9223372036854775807)) = true →
(dgI c g z9 z10 →
(lfit 96 z9 →
(((decide (z10 < (g.length : Int))) = true →
 (inB g z10 ∧
 (tolP c (((g.getD (z10).toNat zerO))) ∧
 ∀ z16 : Op3,
 (z16 = tolW c (invW c.P) (((g.getD (z10).toNat zerO))) →
 (True ∧
 ∀ z18 : Int,
 (z18 = errM z16.R →
 (((!(decide (z18 = 0))) = true →
  ([], (z18, ())) = (bgL c g, (bgE c g, ()))) ∧
 ((!(decide (z18 = 0))) = false →
 (lfit 96 (lapp z9 [z16]) ∧
 (dgN c g z10 (lapp z9 [z16]) ((((lapp z9 [z16]).length : Int) - 1)) ∧
 ∀ z21 : List Op3,
 ∀ z22 : Int,
 ((decide ((-9223372036854775808) ≤ z22)) = true →
 ((decide (z22 ≤ 9223372036854775807)) = true →
 (dgN c g z10 z21 z22 →
 (eqP (z21.length : Int) (((lapp z9 [z16]).length : Int)) →
 (((decide (0 < z22)) = true →
  (inB z21 ((w64 (z22 - 1))) ∧
  (inB z21 z22 ∧
  (True ∧
  (((decide (0 < cmpO (((z21.getD ((w64 (z22 - 1))).toNat zerO))) (((z21.getD (z22).toNat zerO))))) = true →
   (inB z21 z22 ∧
   (inB z21 ((w64 (z22 - 1))) ∧
   (inB z21 ((w64 (z22 - 1))) ∧
   (inB (lset z21 ((w64 (z22 - 1))) (((z21.getD (z22).toNat zerO)))) z22 ∧
   (dgN c g z10 (lset (lset z21 ((w64 (z22 - 1))) (((z21.getD (z22).toNat zerO)))) z22 (((z21.getD ((w64 (z22 - 1))).toNat zerO)))) ((w64 (z22 - 1))) ∧
   ((decide (0 ≤ dgMu ((w64 (z22 - 1))))) = true ∧
   (decide (dgMu ((w64 (z22 - 1))) < dgMu z22)) = true))))))) ∧
  ((decide (0 < cmpO (((z21.getD ((w64 (z22 - 1))).toNat zerO))) (((z21.getD (z22).toNat zerO))))) = false →
  (dgI c g z21 ((w64 (z10 + 1))) ∧
  ((decide (0 ≤ opMu g ((w64 (z10 + 1))))) = true ∧
  (decide (opMu g ((w64 (z10 + 1))) < opMu g z10)) = true)))))))) ∧
 ((decide (0 < z22)) = false →
 (dgI c g z21 ((w64 (z10 + 1))) ∧
 ((decide (0 ≤ opMu g ((w64 (z10 + 1))))) = true ∧
 (decide (opMu g ((w64 (z10 + 1))) < opMu g z10)) = true)))))))))))))))))) ∧
((decide (z10 < (g.length : Int))) = false →
(z9, (0, ())) = (bgL c g, (bgE c g, ())))))))))))))))))
theorem r_f7DocGroup (x : HL C_f7DocGroup.args) : runs (env0 [(25, C_rForm.hid), (26, C_r5DocCheck.hid), (24, C_f7least.hid), (27, C_f7told.hid), (28, C_rMat.hid), (29, C_r5Compare.hid)] [(9, 6, { fix := [(.tmp 23, .list .op)], vars := [(.tmp 7, .list .op), (.tmp 25, .int .i64)], inv := fun y v => dgI x.1 y.1 v.1 v.2.1, mu := fun y v => opMu y.1 v.2.1 }), (9, 14, { fix := [(.tmp 23, .list .op), (.tmp 25, .int .i64)], vars := [(.itmp 7, .list .op), (.tmp 12, .int .i64)], inv := fun y v => dgN x.1 y.1 y.2.1 v.1 v.2.1, mu := fun y v => dgMu v.2.1 })] []) 400 9 C_f7DocGroup x = T_f7DocGroup x.1 x.2.1 := by kernel_rfl
theorem p_f7DocGroup (c : Chg) (g : List Op3) (h0 : (Sh.agg .chg).okA c) (h1 : (Sh.list .op).okA g) : T_f7DocGroup c g := by
  have hb : g.length * 96 ≤ room := h1.2
  have bad : ∀ e : Int, lst2 (uniE c.P) (chkE g) = e → e ≠ 0 → (([] : List Op3), (e, ())) = (bgL c g, (bgE c g, ())) := fun e he hne => by
    have h : bgE c g = e := by unfold bgE; rw [if_neg (by rw [he]; exact hne)]; exact he
    rw [show bgL c g = [] from by unfold bgL; rw [if_neg (by rw [h]; exact hne)], h]
  unfold T_f7DocGroup
  refine ⟨trivial, fun z2 h2 => ⟨trivial, fun z4 h4 => ⟨trivial, fun z6 h6 => ?_⟩⟩⟩
  rw [lst_two, h2, h4] at h6
  refine ⟨fun h => bad z6 h6.symm (by simpa using h), fun h => ⟨dg_init c g, fun l k _ _ hI hfit => ⟨fun hk => ?_, fun hk => ?_⟩⟩⟩
  · have hz : lst2 (uniE c.P) (chkE g) = 0 := by rw [← h6]; simpa using h
    have hk := of_decide_eq_true hk
    have k0 := hI.1.1
    have hm : g.getD k.toNat zerO ∈ g := by
      have hl : k.toNat < g.length := by omega
      have : g.getD k.toNat zerO = g[k.toNat] := by simp [List.getD, hl]
      rw [this]; exact List.getElem_mem hl
    have hlen : l.length ≤ k.toNat := by
      rw [hI.2.1, dgS_len, List.length_take]; omega
    have ek : w64 (k + 1) = k + 1 := w64_id (by omega) (by unfold room at hb; omega)
    rw [ek]
    have m1 : decide (0 ≤ opMu g (k + 1)) = true := decide_eq_true (by unfold opMu; omega)
    have m2 : decide (opMu g (k + 1) < opMu g k) = true := decide_eq_true (by unfold opMu; omega)
    refine ⟨⟨k0, hk⟩, ⟨(lst2_zero hz).1, errO_ok.2 ((chk_grp (lst2_zero hz).2).1 _ hm)⟩, fun z16 h16 => ⟨trivial, fun z18 h18 => ⟨fun h3 => ?_, fun h3 => ?_⟩⟩⟩
    · have he : errM (tol c (g.getD k.toNat zerO)).R = z18 := by rw [h18, h16]; rfl
      obtain ⟨q1, q2⟩ := dg_bad hz hI hk he (by simpa using h3)
      rw [q1, q2]
    · have e16 : z16 = tol c (g.getD k.toNat zerO) := h16
      have he : errM (tol c (g.getD k.toNat zerO)).R = 0 := by rw [← e16, ← h18]; simpa using h3
      have hin := dn_init hI hk
      rw [← e16] at hin
      refine ⟨?_, hin, fun m i _ _ hN hq => ?_⟩
      · show (l ++ [z16]).length * 96 ≤ 140737488355328
        rw [List.length_append, List.length_singleton]; unfold room at hb; omega
      · obtain ⟨a1, a2, a3, a4⟩ := dn_at hN
        have i0 := hN.1
        have hml : m.length ≤ g.length := by rw [a3, dgS_len, List.length_take]; omega
        have ei : w64 (i - 1) = i - 1 := w64_id (by omega) (by unfold room at hb; omega)
        rw [ei]
        refine ⟨fun hi => ?_, fun hi => ⟨dn_fin hI hk he hN (.inl (of_decide_eq_false hi)), m1, m2⟩⟩
        have hi := of_decide_eq_true hi
        have b1 : inB m (i - 1) := ⟨by omega, by omega⟩
        have b2 : inB m i := ⟨i0, a2⟩
        refine ⟨b1, b2, trivial, fun hc => ?_, fun hc => ⟨dn_fin hI hk he hN (.inr (of_decide_eq_false hc)), m1, m2⟩⟩
        have b3 : inB (lset m (i - 1) (m.getD i.toNat zerO)) i := by
          refine ⟨i0, ?_⟩
          unfold lset; rw [List.length_set]; exact a2
        exact ⟨b2, b1, b1, b3, dn_step hN hi (of_decide_eq_true hc), decide_eq_true (by unfold dgMu; omega), decide_eq_true (by unfold dgMu; omega)⟩
  · have hz : lst2 (uniE c.P) (chkE g) = 0 := by rw [← h6]; simpa using h
    obtain ⟨q1, q2⟩ := dg_end hz hI (of_decide_eq_false hk)
    rw [q1, q2]
theorem s_f7DocGroup : Sound Tryz.prog 9 C_f7DocGroup :=
  sound_of_eqs (fun x => env0 [(25, C_rForm.hid), (26, C_r5DocCheck.hid), (24, C_f7least.hid), (27, C_f7told.hid), (28, C_rMat.hid), (29, C_r5Compare.hid)] [(9, 6, { fix := [(.tmp 23, .list .op)], vars := [(.tmp 7, .list .op), (.tmp 25, .int .i64)], inv := fun y v => dgI x.1 y.1 v.1 v.2.1, mu := fun y v => opMu y.1 v.2.1 }), (9, 14, { fix := [(.tmp 23, .list .op), (.tmp 25, .int .i64)], vars := [(.itmp 7, .list .op), (.tmp 12, .int .i64)], inv := fun y v => dgN x.1 y.1 y.2.1 v.1 v.2.1, mu := fun y v => dgMu v.2.1 })] []) (fun _ => rfl) (fun _ => env0_ok (.cons s_rForm.hid (.cons s_r5DocCheck.hid (.cons s_f7least.hid (.cons s_f7told.hid (.cons s_rMat.hid (.cons s_r5Compare.hid (.nil)))))))) (fun x => T_f7DocGroup x.1 x.2.1) r_f7DocGroup fun x ok hp => p_f7DocGroup x.1 x.2.1 ok.1 ok.2.1
noncomputable def C_spare7 : Contract := { args := [.list .op], res := [.list .op], pre := fun x => shtO x.1, F := fun x => ((sprO x.1 : List Op3), ()) }
def T_spare7 (g : List Op3) : Prop :=
  (lfit 96 (lapp [] g) ∧
(lfit 96 (lapp (lapp [] g) ([(Op3.mk zerO.R (V3.mk 77 0 0)), (Op3.mk zerO.R (V3.mk 78 0 0))])) ∧
(lapp (lapp [] g) ([(Op3.mk zerO.R (V3.mk 77 0 0)), (Op3.mk zerO.R (V3.mk 78 0 0))]), ()) = (sprO g, ())))
theorem r_spare7 (x : HL C_spare7.args) : runs (env0 [] [] []) 400 6 C_spare7 x = T_spare7 x.1 := by kernel_rfl
theorem p_spare7 (g : List Op3) (h0 : (Sh.list .op).okA g) (hp : shtO g) : T_spare7 g := by
  have hs : g.length ≤ 1000 := hp
  refine ⟨?_, ?_, rfl⟩
  · show g.length * 96 ≤ 140737488355328
    omega
  · show (g ++ [Op3.mk zerO.R (V3.mk 77 0 0), Op3.mk zerO.R (V3.mk 78 0 0)]).length * 96 ≤ 140737488355328
    simp only [List.length_append, List.length_cons, List.length_nil]; omega
theorem s_spare7 : Sound Tryz.prog 6 C_spare7 :=
  sound_of_eq (env0_ok (.nil)) (fun x => T_spare7 x.1) r_spare7 fun x ok hp => p_spare7 x.1 ok.1 hp
end Go.Fx
