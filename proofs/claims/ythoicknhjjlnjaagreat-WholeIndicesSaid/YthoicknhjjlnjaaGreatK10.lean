/-
  Contracts: bproduct, bmoved, btold, bIndex, bGroup.
-/
import Derived.Test.YthoicknhjjlnjaaGreatK9
namespace Go.Fx
open Go Go.Proofs
set_option maxRecDepth 100000
set_option linter.unusedVariables false
set_option linter.unusedSimpArgs false
set_option linter.unusedSectionVars false
noncomputable def C_bproduct : Contract := { args := [.agg .mat, .agg .mat], res := [.agg .mat], pre := fun _ => True, F := fun x => ((wM (mulZ x.1 x.2.1) : M3), ()) }
def T_bproduct (a : M3) (b : M3) : Prop :=
  ((M3.mk ((w64 (((w64 (((0 + (w64 (a.xx * b.xx))) + (w64 (a.xy * b.yx))))) + (w64 (a.xz * b.zx)))))) ((w64 (((w64 (((0 + (w64 (a.xx * b.xy))) + (w64 (a.xy * b.yy))))) + (w64 (a.xz * b.zy)))))) ((w64 (((w64 (((0 + (w64 (a.xx * b.xz))) + (w64 (a.xy * b.yz))))) + (w64 (a.xz * b.zz)))))) ((w64 (((w64 (((0 + (w64 (a.yx * b.xx))) + (w64 (a.yy * b.yx))))) + (w64 (a.yz * b.zx)))))) ((w64 (((w64 (((0 + (w64 (a.yx * b.xy))) + (w64 (a.yy * b.yy))))) + (w64 (a.yz * b.zy)))))) ((w64 (((w64 (((0 + (w64 (a.yx * b.xz))) + (w64 (a.yy * b.yz))))) + (w64 (a.yz * b.zz)))))) ((w64 (((w64 (((0 + (w64 (a.zx * b.xx))) + (w64 (a.zy * b.yx))))) + (w64 (a.zz * b.zx)))))) ((w64 (((w64 (((0 + (w64 (a.zx * b.xy))) + (w64 (a.zy * b.yy))))) + (w64 (a.zz * b.zy)))))) ((w64 (((w64 (((0 + (w64 (a.zx * b.xz))) + (w64 (a.zy * b.yz))))) + (w64 (a.zz * b.zz))))))), ()) = (wM (mulZ a b), ())
theorem r_bproduct (x : HL C_bproduct.args) : runs (env0 [] [] []) 400 59 C_bproduct x = T_bproduct x.1 x.2.1 := by kernel_rfl
theorem p_bproduct (a : M3) (b : M3) (h0 : (Sh.agg .mat).okA a) (h1 : (Sh.agg .mat).okA b) : T_bproduct a b := by
  simp only [T_bproduct, wM, mulZ, Int.zero_add, and_self, w64_add_l, w64_add_r, w64_sub_l, w64_sub_r, w64_mul_l, w64_mul_r, w64_w64]
theorem s_bproduct : Sound Tryz.prog 59 C_bproduct :=
  sound_of_eq (env0_ok (.nil)) (fun x => T_bproduct x.1 x.2.1) r_bproduct fun x ok hp => p_bproduct x.1 x.2.1 ok.1 ok.2.1
noncomputable def C_bmoved : Contract := { args := [.agg .mat, .agg .vec], res := [.agg .vec], pre := fun _ => True, F := fun x => ((shiT x.1 x.2.1 : V3), ()) }
def T_bmoved (m : M3) (v : V3) : Prop :=
  (True ∧
(addT ((V3.mk ((((0 + ((Int.tmod m.xx 24) * (Int.tmod v.x 24))) + ((Int.tmod m.xy 24) * (Int.tmod v.y 24))) + ((Int.tmod m.xz 24) * (Int.tmod v.z 24)))) ((((0 + ((Int.tmod m.yx 24) * (Int.tmod v.x 24))) + ((Int.tmod m.yy 24) * (Int.tmod v.y 24))) + ((Int.tmod m.yz 24) * (Int.tmod v.z 24)))) ((((0 + ((Int.tmod m.zx 24) * (Int.tmod v.x 24))) + ((Int.tmod m.zy 24) * (Int.tmod v.y 24))) + ((Int.tmod m.zz 24) * (Int.tmod v.z 24)))))) (V3.mk 0 0 0), ()) = (shiT m v, ()))
theorem r_bmoved (x : HL C_bmoved.args) : runs (env0 [(60, C_fAdd)] [] []) 400 61 C_bmoved x = T_bmoved x.1 x.2.1 := by kernel_rfl
theorem p_bmoved (m : M3) (v : V3) (h0 : (Sh.agg .mat).okA m) (h1 : (Sh.agg .vec).okA v) : T_bmoved m v := by
  refine ⟨trivial, ?_⟩
  simp only [addT, addV, modV, shiT, appZ, mov1]
theorem s_bmoved : Sound Tryz.prog 61 C_bmoved :=
  sound_of_eq (env0_ok (.cons s_fAdd (.nil))) (fun x => T_bmoved x.1 x.2.1) r_bmoved fun x ok hp => p_bmoved x.1 x.2.1 ok.1 ok.2.1
noncomputable def C_btold : Contract := { args := [.agg .chg, .agg .mat, .agg .op], res := [.agg .op], pre := fun _ => True, F := fun x => ((tolW x.1 x.2.1 x.2.2.1 : Op3), ()) }
def T_btold (c : Chg) (q : M3) (o : Op3) : Prop :=
  (True ∧
(True ∧
(True ∧
(True ∧
(True ∧
(True ∧
((Op3.mk (wM (mulZ (wM (mulZ c.P o.R)) q)) (addT (addT (shiT c.P o.T) c.O) (negT (shiT (wM (mulZ (wM (mulZ c.P o.R)) q)) c.O)))), ()) = (tolW c q o, ())))))))
theorem r_btold (x : HL C_btold.args) : runs (env0 [(59, C_bproduct.hid), (61, C_bmoved.hid), (60, C_fAdd.hid), (62, C_fSub.hid)] [] []) 400 42 C_btold x = T_btold x.1 x.2.1 x.2.2.1 := by kernel_rfl
theorem p_btold (c : Chg) (q : M3) (o : Op3) (h0 : (Sh.agg .chg).okA c) (h1 : (Sh.agg .mat).okA q) (h2 : (Sh.agg .op).okA o) : T_btold c q o := by
  exact ⟨trivial, trivial, trivial, trivial, trivial, trivial, rfl⟩
theorem s_btold : Sound Tryz.prog 42 C_btold :=
  sound_of_eq (env0_ok (.cons s_bproduct.hid (.cons s_bmoved.hid (.cons s_fAdd.hid (.cons s_fSub.hid (.nil)))))) (fun x => T_btold x.1 x.2.1 x.2.2.1) r_btold fun x ok hp => p_btold x.1 x.2.1 x.2.2.1 ok.1 ok.2.1 ok.2.2.1
noncomputable def C_bIndex : Contract := { args := [.agg .chg, .agg .vec], res := [.agg .vec, .int .i64], pre := fun _ => True, F := fun x => ((idxV x.1 x.2.1 : V3), (idxE x.1 x.2.1 : Int), ()) }
def T_bIndex (c : Chg) (h : V3) : Prop :=
  (((decide (h.x < (-512))) = true →
 ((V3.mk 0 0 0), (1, ())) = (idxV c h, (idxE c h, ()))) ∧
((decide (h.x < (-512))) = false →
(((decide (512 < h.x)) = true →
 ((V3.mk 0 0 0), (1, ())) = (idxV c h, (idxE c h, ()))) ∧
((decide (512 < h.x)) = false →
(((decide (h.y < (-512))) = true →
 ((V3.mk 0 0 0), (1, ())) = (idxV c h, (idxE c h, ()))) ∧
((decide (h.y < (-512))) = false →
(((decide (512 < h.y)) = true →
 ((V3.mk 0 0 0), (1, ())) = (idxV c h, (idxE c h, ()))) ∧
((decide (512 < h.y)) = false →
(((decide (h.z < (-512))) = true →
 ((V3.mk 0 0 0), (1, ())) = (idxV c h, (idxE c h, ()))) ∧
((decide (h.z < (-512))) = false →
(((decide (512 < h.z)) = true →
 ((V3.mk 0 0 0), (1, ())) = (idxV c h, (idxE c h, ()))) ∧
((decide (512 < h.z)) = false →
(True ∧
∀ z8 : M3,
(z8 = selM (uniE c.P) (wM (scaZ (detZ c.P) (adjZ c.P))) →
∀ z10 : Int,
(z10 = uniE c.P →
(((!(decide (z10 = 0))) = true →
 ((V3.mk 0 0 0), (z10, ())) = (idxV c h, (idxE c h, ()))) ∧
((!(decide (z10 = 0))) = false →
((V3.mk ((w64 (((w64 (((0 + (w64 (h.x * z8.xx))) + (w64 (h.y * z8.yx))))) + (w64 (h.z * z8.zx)))))) ((w64 (((w64 (((0 + (w64 (h.x * z8.xy))) + (w64 (h.y * z8.yy))))) + (w64 (h.z * z8.zy)))))) ((w64 (((w64 (((0 + (w64 (h.x * z8.xz))) + (w64 (h.y * z8.yz))))) + (w64 (h.z * z8.zz))))))), (0, ())) = (idxV c h, (idxE c h, ())))))))))))))))))))
theorem r_bIndex (x : HL C_bIndex.args) : runs (env0 [(57, C_Inverse.hid)] [] []) 400 22 C_bIndex x = T_bIndex x.1 x.2.1 := by kernel_rfl
theorem p_bIndex (c : Chg) (h : V3) (h0 : (Sh.agg .chg).okA c) (h1 : (Sh.agg .vec).okA h) : T_bIndex c h := by
  unfold T_bIndex
  by_cases hh : okH h = true
  · have hk := hh
    simp only [okH, inE, Bool.and_eq_true, decide_eq_true_eq] at hk
    have e1 : ¬ h.x < -512 := by omega
    have e2 : ¬ 512 < h.x := by omega
    have e3 : ¬ h.y < -512 := by omega
    have e4 : ¬ 512 < h.y := by omega
    have e5 : ¬ h.z < -512 := by omega
    have e6 : ¬ 512 < h.z := by omega
    by_cases hu : uniE c.P = 0
    · simp [e1, e2, e3, e4, e5, e6, hu, hh, idxE, idxV, selM, invW, wV, appZ, traZ, w64_add_l, w64_add_r, w64_sub_l, w64_sub_r, w64_mul_l, w64_mul_r, w64_w64, Int.mul_comm]
    · simp [e1, e2, e3, e4, e5, e6, hu, hh, idxE, idxV]
  · have hx : (V3.mk 0 0 0, ((1 : Int), ())) = (idxV c h, (idxE c h, ())) := by simp [idxE, idxV, hh]
    have hk : ¬ (((-512 ≤ h.x ∧ h.x ≤ 512) ∧ (-512 ≤ h.y ∧ h.y ≤ 512)) ∧ (-512 ≤ h.z ∧ h.z ≤ 512)) := fun h' => hh (by simp only [okH, inE, Bool.and_eq_true, decide_eq_true_eq]; exact h')
    simp only [← hx, decide_eq_true_eq, decide_eq_false_iff_not, implies_true, true_and]
    intros; omega
theorem s_bIndex : Sound Tryz.prog 22 C_bIndex :=
  sound_of_eq (env0_ok (.cons s_Inverse.hid (.nil))) (fun x => T_bIndex x.1 x.2.1) r_bIndex fun x ok hp => p_bIndex x.1 x.2.1 ok.1 ok.2.1
noncomputable def C_bGroup : Contract := { args := [.agg .chg, .list .op], res := [.list .op, .int .i64], pre := fun _ => True, F := fun x => ((bgL x.1 x.2.1 : List Op3), (bgE x.1 x.2.1 : Int), ()) }
def T_bGroup (c : Chg) (g : List Op3) : Prop :=
  (True ∧
∀ z2 : M3,
(z2 = selM (uniE c.P) (wM (scaZ (detZ c.P) (adjZ c.P))) →
∀ z4 : Int,
(z4 = uniE c.P →
(True ∧
∀ z6 : Int,
(z6 = chkE g →
(((decide (z4 = 0)) = true →
 (((!(decide (z6 = 0))) = true →
  ([], (z6, ())) = (bgL c g, (bgE c g, ()))) ∧
 ((!(decide (z6 = 0))) = false →
 (bgI c g [] 0 ∧
 ∀ z10 : List Op3,
 ∀ z11 : Int,
 ((decide ((-9223372036854775808) ≤ z11)) = true →
 ((decide (z11 ≤ 9223372036854775807)) = true →
 (bgI c g z10 z11 →
 (lfit 96 z10 →
 (((decide (z11 < (g.length : Int))) = true →
  (inB g z11 ∧
  (True ∧
  ∀ z17 : Op3,
  (z17 = tolW c z2 (((g.getD (z11).toNat zerO))) →
  (True ∧
  (((!(decide (errM z17.R = 0))) = true →
   ([], (errM z17.R, ())) = (bgL c g, (bgE c g, ()))) ∧
  ((!(decide (errM z17.R = 0))) = false →
  (lfit 96 (lapp z10 [z17]) ∧
  (bgI c g (lapp z10 [z17]) ((w64 (z11 + 1))) ∧
  ((decide (0 ≤ opMu g ((w64 (z11 + 1))))) = true ∧
  (decide (opMu g ((w64 (z11 + 1))) < opMu g z11)) = true)))))))))) ∧
 ((decide (z11 < (g.length : Int))) = false →
 (True ∧
 (sortO z10, (0, ())) = (bgL c g, (bgE c g, ()))))))))))))) ∧
((decide (z4 = 0)) = false →
(((!(decide (z6 = 0))) = true →
 (((decide (z6 < z4)) = true →
  (((!(decide (z6 = 0))) = true →
   ([], (z6, ())) = (bgL c g, (bgE c g, ()))) ∧
  ((!(decide (z6 = 0))) = false →
  (bgI c g [] 0 ∧
  ∀ z12 : List Op3,
  ∀ z13 : Int,
  ((decide ((-9223372036854775808) ≤ z13)) = true →
  ((decide (z13 ≤ 9223372036854775807)) = true →
  (bgI c g z12 z13 →
  (lfit 96 z12 →
  (((decide (z13 < (g.length : Int))) = true →
   (inB g z13 ∧
   (True ∧
   ∀ z19 : Op3,
   (z19 = tolW c z2 (((g.getD (z13).toNat zerO))) →
   (True ∧
   (((!(decide (errM z19.R = 0))) = true →
    ([], (errM z19.R, ())) = (bgL c g, (bgE c g, ()))) ∧
   ((!(decide (errM z19.R = 0))) = false →
   (lfit 96 (lapp z12 [z19]) ∧
   (bgI c g (lapp z12 [z19]) ((w64 (z13 + 1))) ∧
   ((decide (0 ≤ opMu g ((w64 (z13 + 1))))) = true ∧
   (decide (opMu g ((w64 (z13 + 1))) < opMu g z13)) = true)))))))))) ∧
  ((decide (z13 < (g.length : Int))) = false →
  (True ∧
  (sortO z12, (0, ())) = (bgL c g, (bgE c g, ()))))))))))))) ∧
 ((decide (z6 < z4)) = false →
 (((!(decide (z4 = 0))) = true →
  ([], (z4, ())) = (bgL c g, (bgE c g, ()))) ∧
 ((!(decide (z4 = 0))) = false →
 (bgI c g [] 0 ∧
 ∀ z12 : List Op3,
 ∀ z13 : Int,
 ((decide ((-9223372036854775808) ≤ z13)) = true →
 ((decide (z13 ≤ 9223372036854775807)) = true →
 (bgI c g z12 z13 →
 (lfit 96 z12 →
 (((decide (z13 < (g.length : Int))) = true →
  (inB g z13 ∧
  (True ∧
  ∀ z19 : Op3,
  (z19 = tolW c z2 (((g.getD (z13).toNat zerO))) →
  (True ∧
  (((!(decide (errM z19.R = 0))) = true →
   ([], (errM z19.R, ())) = (bgL c g, (bgE c g, ()))) ∧
  ((!(decide (errM z19.R = 0))) = false →
  (lfit 96 (lapp z12 [z19]) ∧
  (bgI c g (lapp z12 [z19]) ((w64 (z13 + 1))) ∧
  ((decide (0 ≤ opMu g ((w64 (z13 + 1))))) = true ∧
  (decide (opMu g ((w64 (z13 + 1))) < opMu g z13)) = true)))))))))) ∧
 ((decide (z13 < (g.length : Int))) = false →
 (True ∧
 (sortO z12, (0, ())) = (bgL c g, (bgE c g, ()))))))))))))))) ∧
((!(decide (z6 = 0))) = false →
(((!(decide (z4 = 0))) = true →
 ([], (z4, ())) = (bgL c g, (bgE c g, ()))) ∧
((!(decide (z4 = 0))) = false →
(bgI c g [] 0 ∧
∀ z11 : List Op3,
∀ z12 : Int,
((decide ((-9223372036854775808) ≤ z12)) = true →
((decide (z12 ≤ 9223372036854775807)) = true →
(bgI c g z11 z12 →
(lfit 96 z11 →
(((decide (z12 < (g.length : Int))) = true →
 (inB g z12 ∧
 (True ∧
 ∀ z18 : Op3,
 (z18 = tolW c z2 (((g.getD (z12).toNat zerO))) →
 (True ∧
 (((!(decide (errM z18.R = 0))) = true →
  ([], (errM z18.R, ())) = (bgL c g, (bgE c g, ()))) ∧
 ((!(decide (errM z18.R = 0))) = false →
 (lfit 96 (lapp z11 [z18]) ∧
 (bgI c g (lapp z11 [z18]) ((w64 (z12 + 1))) ∧
 ((decide (0 ≤ opMu g ((w64 (z12 + 1))))) = true ∧
 (decide (opMu g ((w64 (z12 + 1))) < opMu g z12)) = true)))))))))) ∧
((decide (z12 < (g.length : Int))) = false →
(True ∧
(sortO z11, (0, ())) = (bgL c g, (bgE c g, ())))))))))))))))))))))
theorem r_bGroup (x : HL C_bGroup.args) : runs (env1 [(57, C_Inverse.hid), (41, C_gCheck.hid), (42, C_btold.hid), (43, C_check)] [(21, 7, { fix := [(.tmp 25, .list .op)], vars := [(.tmp 8, .list .op), (.tmp 27, .int .i64)], inv := fun y v => bgI x.1 y.1 v.1 v.2.1, mu := fun y v => opMu y.1 v.2.1 })] []) 400 21 C_bGroup x = T_bGroup x.1 x.2.1 := by kernel_rfl
theorem p_bGroup (c : Chg) (g : List Op3) (h0 : (Sh.agg .chg).okA c) (h1 : (Sh.list .op).okA g) : T_bGroup c g := by
  have hb : g.length * 96 ≤ room := h1.2
  have main : lst2 (uniE c.P) (chkE g) = 0 → ∀ z2 : M3, z2 = selM (uniE c.P) (wM (scaZ (detZ c.P) (adjZ c.P))) → (bgI c g [] 0 ∧ ∀ l : List Op3, ∀ i : Int, (decide ((-9223372036854775808) ≤ i)) = true → (decide (i ≤ 9223372036854775807)) = true → bgI c g l i → lfit 96 l →
      (((decide (i < (g.length : Int))) = true → (inB g i ∧ (True ∧ ∀ n : Op3, n = tolW c z2 (g.getD i.toNat zerO) → (True ∧
        (((!(decide (errM n.R = 0))) = true → (([] : List Op3), (errM n.R, ())) = (bgL c g, (bgE c g, ()))) ∧
        ((!(decide (errM n.R = 0))) = false → (lfit 96 (lapp l [n]) ∧ (bgI c g (lapp l [n]) (w64 (i + 1)) ∧ ((decide (0 ≤ opMu g (w64 (i + 1)))) = true ∧ (decide (opMu g (w64 (i + 1)) < opMu g i)) = true))))))))) ∧
      ((decide (i < (g.length : Int))) = false → (True ∧ (sortO l, ((0 : Int), ())) = (bgL c g, (bgE c g, ())))))) := fun hz z2 h2 => by
    have hq : z2 = invW c.P := by rw [h2]; unfold selM; rw [if_pos (lst2_zero hz).1]; rfl
    refine ⟨⟨Int.le_refl _, by omega, rfl, fun o ho => by simp at ho⟩, fun l i _ _ hI hfit => ⟨fun hi => ?_, fun hi => ?_⟩⟩
    · have hi := of_decide_eq_true hi
      have i0 := hI.1
      have e1 : w64 (i + 1) = i + 1 := w64_id (by omega) (by unfold room at hb; omega)
      refine ⟨⟨i0, hi⟩, trivial, fun n hn => ⟨trivial, fun he => ?_, fun he => ?_⟩⟩
      · have he : errM n.R ≠ 0 := by simpa using he
        rw [hq] at hn
        obtain ⟨q1, q2⟩ := bg_bad hz i0 hi (by rw [show tol c (g.getD i.toNat zerO) = n from hn.symm]) he
        rw [q1, q2]
      · have he : errM n.R = 0 := by simpa using he
        rw [hq] at hn
        have hn' : n = tol c (g.getD i.toNat zerO) := hn
        have nx := bg_next hI hi (by rw [← hn']; exact he)
        rw [← hn'] at nx
        have hl : l.length = i.toNat := by rw [hI.2.2.1, List.length_map, List.length_take]; omega
        rw [e1]
        refine ⟨?_, nx, decide_eq_true (by unfold opMu; omega), decide_eq_true (by unfold opMu; omega)⟩
        show (l ++ [n]).length * 96 ≤ 140737488355328
        rw [List.length_append, List.length_singleton]; unfold room at hb; omega
    · obtain ⟨q1, q2⟩ := bg_end hz hI (of_decide_eq_false hi)
      rw [q1, q2]; exact ⟨trivial, rfl⟩
  have bad : ∀ e : Int, lst2 (uniE c.P) (chkE g) = e → e ≠ 0 → (([] : List Op3), (e, ())) = (bgL c g, (bgE c g, ())) := fun e he hne => by
    have h : bgE c g = e := by unfold bgE; rw [if_neg (by rw [he]; exact hne)]; exact he
    rw [show bgL c g = [] from by unfold bgL; rw [if_neg (by rw [h]; exact hne)], h]
  unfold T_bGroup
  refine ⟨trivial, fun z2 h2 z4 h4 => ⟨trivial, fun z6 h6 => ?_⟩⟩
  have lz : lst2 z4 z6 = lst2 (uniE c.P) (chkE g) := by rw [h4, h6]
  refine ⟨fun a => ⟨fun b => bad z6 ?_ ?_, fun b => main ?_ z2 h2⟩, fun a => ⟨fun b => ⟨fun d => ⟨fun e => bad z6 ?_ ?_, fun e => absurd b (by rw [e]; decide)⟩, fun d => ⟨fun e => bad z4 ?_ ?_, fun e => absurd a ?_⟩⟩, fun b => ⟨fun e => bad z4 ?_ ?_, fun e => absurd a ?_⟩⟩⟩
  all_goals try rw [← lz]
  all_goals try unfold lst2
  all_goals (simp only [Bool.not_eq_true', Bool.not_eq_false', decide_eq_true_eq, decide_eq_false_iff_not] at *)
  · rw [if_pos a]
  · exact b
  · rw [if_pos a]; exact b
  · rw [if_neg a, if_pos ⟨b, d⟩]
  · exact b
  · rw [if_neg a, if_neg (fun h => d h.2)]
  · exact a
  · exact fun h => h e
  · rw [if_neg a, if_neg (fun h => h.1 b)]
  · exact a
  · exact fun h => h e
theorem s_bGroup : Sound Tryz.prog 21 C_bGroup :=
  sound_of_eqs (fun x => env1 [(57, C_Inverse.hid), (41, C_gCheck.hid), (42, C_btold.hid), (43, C_check)] [(21, 7, { fix := [(.tmp 25, .list .op)], vars := [(.tmp 8, .list .op), (.tmp 27, .int .i64)], inv := fun y v => bgI x.1 y.1 v.1 v.2.1, mu := fun y v => opMu y.1 v.2.1 })] []) (fun _ => rfl) (fun _ => env1_ok (.cons s_Inverse.hid (.cons s_gCheck.hid (.cons s_btold.hid (.cons s_check (.nil)))))) (fun x => T_bGroup x.1 x.2.1) r_bGroup fun x ok hp => p_bGroup x.1 x.2.1 ok.1 ok.2.1
end Go.Fx
