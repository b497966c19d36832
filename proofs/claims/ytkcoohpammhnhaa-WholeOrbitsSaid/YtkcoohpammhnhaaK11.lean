/-
  Contracts: r9Apply, r9Of, r9check.
-/
import Derived.Test.YtkcoohpammhnhaaK10
namespace Go.Fx
open Go Go.Proofs
set_option maxRecDepth 100000
set_option linter.unusedVariables false
set_option linter.unusedSimpArgs false
set_option linter.unusedSectionVars false
noncomputable def C_r9Apply : Contract := { args := [.agg .op, .agg .pt], res := [.agg .pt], pre := fun x => apPre x.1 x.2.1, F := fun x => ((appX x.1 x.2.1 : Pt), ()) }
def T_r9Apply (o : Op3) (p : Pt) : Prop :=
  (inM p.M ∧
((Pt.mk p.M (modV p.M ((V3.mk ((w64 (((w64 (((w64 (((w64 ((o.T.x * (Int.tdiv p.M 24)))) + (w64 (o.R.xx * p.X.x))))) + (w64 (o.R.xy * p.X.y))))) + (w64 (o.R.xz * p.X.z)))))) ((w64 (((w64 (((w64 (((w64 ((o.T.y * (Int.tdiv p.M 24)))) + (w64 (o.R.yx * p.X.x))))) + (w64 (o.R.yy * p.X.y))))) + (w64 (o.R.yz * p.X.z)))))) ((w64 (((w64 (((w64 (((w64 ((o.T.z * (Int.tdiv p.M 24)))) + (w64 (o.R.zx * p.X.x))))) + (w64 (o.R.zy * p.X.y))))) + (w64 (o.R.zz * p.X.z)))))))))), ()) = (appX o p, ()))
theorem r_r9Apply (x : HL C_r9Apply.args) : runs (env0 [(65, C_f2Bring.hid)] [] []) 400 40 C_r9Apply x = T_r9Apply x.1 x.2.1 := by kernel_rfl
theorem p_r9Apply (o : Op3) (p : Pt) (h0 : (Sh.agg .op).okA o) (h1 : (Sh.agg .pt).okA p) (hp : apPre o p) : T_r9Apply o p := by
  obtain ⟨p1, p2⟩ := hp
  have hF := errO_ok.1 p1
  have hr := frmP_rgt p2
  obtain ⟨q0, q1, q2, q3⟩ := frmP_iff.1 p2
  have hB : BndV 192 p.X := ⟨⟨by omega, by omega⟩, ⟨by omega, by omega⟩, ⟨by omega, by omega⟩⟩
  refine ⟨rgt_in hr, ?_⟩
  have ht := inT_B hF.T
  have key : ∀ a b c x y z t : Int, -1000 ≤ a → a ≤ 1000 → -1000 ≤ b → b ≤ 1000 → -1000 ≤ c → c ≤ 1000 → -192 ≤ x → x ≤ 192 → -192 ≤ y → y ≤ 192 → -192 ≤ z → z ≤ 192 → -24 ≤ t → t ≤ 24 →
      w64 (w64 (w64 (w64 (t * Int.tdiv p.M 24) + w64 (a * x)) + w64 (b * y)) + w64 (c * z)) = a * x + b * y + c * z + p.M / 24 * t := fun a b c x y z t a1 a2 b1 b2 c1 c2 x1 x2 y1 y2 z1 z2 t1 t2 => by
    have q : Int.tdiv 24 24 = 1 ∧ Int.tdiv 48 24 = 2 ∧ Int.tdiv 96 24 = 4 ∧ Int.tdiv 192 24 = 8 := by decide
    have d : (24 : Int) / 24 = 1 ∧ (48 : Int) / 24 = 2 ∧ (96 : Int) / 24 = 4 ∧ (192 : Int) / 24 = 8 := by decide
    obtain ⟨s1, s2⟩ := mulB1 a1 a2 x1 x2
    obtain ⟨s3, s4⟩ := mulB1 b1 b2 y1 y2
    obtain ⟨s5, s6⟩ := mulB1 c1 c2 z1 z2
    generalize a * x = u at *
    generalize b * y = v at *
    generalize c * z = w at *
    rw [w64_id (x := u) (by omega) (by omega), w64_id (x := v) (by omega) (by omega), w64_id (x := w) (by omega) (by omega)]
    rcases q0 with h | h | h | h <;> rw [h]
    · rw [q.1, d.1, w64_id (x := t * 1) (by omega) (by omega), w64_id (x := t * 1 + u) (by omega) (by omega), w64_id (x := t * 1 + u + v) (by omega) (by omega), w64_id (by omega) (by omega)]; omega
    · rw [q.2.1, d.2.1, w64_id (x := t * 2) (by omega) (by omega), w64_id (x := t * 2 + u) (by omega) (by omega), w64_id (x := t * 2 + u + v) (by omega) (by omega), w64_id (by omega) (by omega)]; omega
    · rw [q.2.2.1, d.2.2.1, w64_id (x := t * 4) (by omega) (by omega), w64_id (x := t * 4 + u) (by omega) (by omega), w64_id (x := t * 4 + u + v) (by omega) (by omega), w64_id (by omega) (by omega)]; omega
    · rw [q.2.2.2, d.2.2.2, w64_id (x := t * 8) (by omega) (by omega), w64_id (x := t * 8 + u) (by omega) (by omega), w64_id (x := t * 8 + u + v) (by omega) (by omega), w64_id (by omega) (by omega)]; omega
  obtain ⟨⟨x1, x2⟩, ⟨y1, y2⟩, z1, z2⟩ := hB
  rw [key _ _ _ _ _ _ _ hF.B.xx.1 hF.B.xx.2 hF.B.xy.1 hF.B.xy.2 hF.B.xz.1 hF.B.xz.2 x1 x2 y1 y2 z1 z2 ht.1.1 ht.1.2,
    key _ _ _ _ _ _ _ hF.B.yx.1 hF.B.yx.2 hF.B.yy.1 hF.B.yy.2 hF.B.yz.1 hF.B.yz.2 x1 x2 y1 y2 z1 z2 ht.2.1.1 ht.2.1.2,
    key _ _ _ _ _ _ _ hF.B.zx.1 hF.B.zx.2 hF.B.zy.1 hF.B.zy.2 hF.B.zz.1 hF.B.zz.2 x1 x2 y1 y2 z1 z2 ht.2.2.1 ht.2.2.2]
  rfl
theorem s_r9Apply : Sound Try.prog 40 C_r9Apply :=
  sound_of_eq (env0_ok (.cons s_f2Bring.hid (.nil))) (fun x => T_r9Apply x.1 x.2.1) r_r9Apply fun x ok hp => p_r9Apply x.1 x.2.1 ok.1 ok.2.1 hp
noncomputable def C_r9Of : Contract := { args := [.list .op, .agg .pt], res := [.list .pt], pre := fun x => orP x.1 x.2.1, F := fun x => ((dofL x.1 x.2.1 : List Pt), ()) }
def T_r9Of (g : List Op3) (p : Pt) : Prop :=
  (dofI g p [] 0 ∧
∀ z2 : List Pt,
∀ z3 : Int,
((decide ((-9223372036854775808) ≤ z3)) = true →
((decide (z3 ≤ 9223372036854775807)) = true →
(dofI g p z2 z3 →
(lfit 32 z2 →
(((decide (z3 < (g.length : Int))) = true →
 (inB g z3 ∧
 (apPre (((g.getD (z3).toNat zerO))) p ∧
 ∀ z9 : Pt,
 (z9 = appX (((g.getD (z3).toNat zerO))) p →
 (doaI z2 z9 0 ∧
 ∀ z11 : Int,
 ((decide ((-9223372036854775808) ≤ z11)) = true →
 ((decide (z11 ≤ 9223372036854775807)) = true →
 (doaI z2 z9 z11 →
 (((decide (z11 < (z2.length : Int))) = true →
  (inB z2 z11 ∧
  (True ∧
  (((decide (cmpV (((z2.getD (z11).toNat (Pt.mk 0 (V3.mk 0 0 0)))).X) z9.X < 0)) = true →
   (doaI z2 z9 ((w64 (z11 + 1))) ∧
   ((decide (0 ≤ lnX z2 ((w64 (z11 + 1))))) = true ∧
   (decide (lnX z2 ((w64 (z11 + 1))) < lnX z2 z11)) = true))) ∧
  ((decide (cmpV (((z2.getD (z11).toNat (Pt.mk 0 (V3.mk 0 0 0)))).X) z9.X < 0)) = false →
  (((decide (z11 < (z2.length : Int))) = true →
   (inB z2 z11 ∧
   ((((decide (((z2.getD (z11).toNat (Pt.mk 0 (V3.mk 0 0 0)))).M = z9.M)) && ((decide ((((z2.getD (z11).toNat (Pt.mk 0 (V3.mk 0 0 0)))).X).x = z9.X.x)) && ((decide ((((z2.getD (z11).toNat (Pt.mk 0 (V3.mk 0 0 0)))).X).y = z9.X.y)) && ((decide ((((z2.getD (z11).toNat (Pt.mk 0 (V3.mk 0 0 0)))).X).z = z9.X.z)) && true)))) = true →
    (dofI g p z2 ((w64 (z3 + 1))) ∧
    ((decide (0 ≤ opMu g ((w64 (z3 + 1))))) = true ∧
    (decide (opMu g ((w64 (z3 + 1))) < opMu g z3)) = true))) ∧
   (((decide (((z2.getD (z11).toNat (Pt.mk 0 (V3.mk 0 0 0)))).M = z9.M)) && ((decide ((((z2.getD (z11).toNat (Pt.mk 0 (V3.mk 0 0 0)))).X).x = z9.X.x)) && ((decide ((((z2.getD (z11).toNat (Pt.mk 0 (V3.mk 0 0 0)))).X).y = z9.X.y)) && ((decide ((((z2.getD (z11).toNat (Pt.mk 0 (V3.mk 0 0 0)))).X).z = z9.X.z)) && true)))) = false →
   ((leP 0 0 ∧
    (leP 0 z11 ∧
    leP z11 (z2.length : Int))) ∧
   (lfit 32 (lapp [] (lsub z2 0 z11)) ∧
   (lfit 32 (lapp (lapp [] (lsub z2 0 z11)) [z9]) ∧
   ((leP 0 z11 ∧
    (leP z11 (z2.length : Int) ∧
    leP (z2.length : Int) (z2.length : Int))) ∧
   (lfit 32 (lapp (lapp (lapp [] (lsub z2 0 z11)) [z9]) (lsub z2 z11 (((z2.length : Int) - z11)))) ∧
   (dofI g p (lapp (lapp (lapp [] (lsub z2 0 z11)) [z9]) (lsub z2 z11 (((z2.length : Int) - z11)))) ((w64 (z3 + 1))) ∧
   ((decide (0 ≤ opMu g ((w64 (z3 + 1))))) = true ∧
   (decide (opMu g ((w64 (z3 + 1))) < opMu g z3)) = true))))))))))) ∧
  ((decide (z11 < (z2.length : Int))) = false →
  ((leP 0 0 ∧
   (leP 0 z11 ∧
   leP z11 (z2.length : Int))) ∧
  (lfit 32 (lapp [] (lsub z2 0 z11)) ∧
  (lfit 32 (lapp (lapp [] (lsub z2 0 z11)) [z9]) ∧
  ((leP 0 z11 ∧
   (leP z11 (z2.length : Int) ∧
   leP (z2.length : Int) (z2.length : Int))) ∧
  (lfit 32 (lapp (lapp (lapp [] (lsub z2 0 z11)) [z9]) (lsub z2 z11 (((z2.length : Int) - z11)))) ∧
  (dofI g p (lapp (lapp (lapp [] (lsub z2 0 z11)) [z9]) (lsub z2 z11 (((z2.length : Int) - z11)))) ((w64 (z3 + 1))) ∧
  ((decide (0 ≤ opMu g ((w64 (z3 + 1))))) = true ∧
  (decide (opMu g ((w64 (z3 + 1))) < opMu g z3)) = true)))))))))))))) ∧
 ((decide (z11 < (z2.length : Int))) = false →
 (((decide (z11 < (z2.length : Int))) = true →
  (inB z2 z11 ∧
  ((((decide (((z2.getD (z11).toNat (Pt.mk 0 (V3.mk 0 0 0)))).M = z9.M)) && ((decide ((((z2.getD (z11).toNat (Pt.mk 0 (V3.mk 0 0 0)))).X).x = z9.X.x)) && ((decide ((((z2.getD (z11).toNat (Pt.mk 0 (V3.mk 0 0 0)))).X).y = z9.X.y)) && ((decide ((((z2.getD (z11).toNat (Pt.mk 0 (V3.mk 0 0 0)))).X).z = z9.X.z)) && true)))) = true →
   (dofI g p z2 ((w64 (z3 + 1))) ∧
   ((decide (0 ≤ opMu g ((w64 (z3 + 1))))) = true ∧
   (decide (opMu g ((w64 (z3 + 1))) < opMu g z3)) = true))) ∧
  (((decide (((z2.getD (z11).toNat (Pt.mk 0 (V3.mk 0 0 0)))).M = z9.M)) && ((decide ((((z2.getD (z11).toNat (Pt.mk 0 (V3.mk 0 0 0)))).X).x = z9.X.x)) && ((decide ((((z2.getD (z11).toNat (Pt.mk 0 (V3.mk 0 0 0)))).X).y = z9.X.y)) && ((decide ((((z2.getD (z11).toNat (Pt.mk 0 (V3.mk 0 0 0)))).X).z = z9.X.z)) && true)))) = false →
  ((leP 0 0 ∧
   (leP 0 z11 ∧
   leP z11 (z2.length : Int))) ∧
  (lfit 32 (lapp [] (lsub z2 0 z11)) ∧
  (lfit 32 (lapp (lapp [] (lsub z2 0 z11)) [z9]) ∧
  ((leP 0 z11 ∧
   (leP z11 (z2.length : Int) ∧
   leP (z2.length : Int) (z2.length : Int))) ∧
  (lfit 32 (lapp (lapp (lapp [] (lsub z2 0 z11)) [z9]) (lsub z2 z11 (((z2.length : Int) - z11)))) ∧
  (dofI g p (lapp (lapp (lapp [] (lsub z2 0 z11)) [z9]) (lsub z2 z11 (((z2.length : Int) - z11)))) ((w64 (z3 + 1))) ∧
  ((decide (0 ≤ opMu g ((w64 (z3 + 1))))) = true ∧
  (decide (opMu g ((w64 (z3 + 1))) < opMu g z3)) = true))))))))))) ∧
 ((decide (z11 < (z2.length : Int))) = false →
 ((leP 0 0 ∧
  (leP 0 z11 ∧
  leP z11 (z2.length : Int))) ∧
 (lfit 32 (lapp [] (lsub z2 0 z11)) ∧
 (lfit 32 (lapp (lapp [] (lsub z2 0 z11)) [z9]) ∧
 ((leP 0 z11 ∧
  (leP z11 (z2.length : Int) ∧
  leP (z2.length : Int) (z2.length : Int))) ∧
 (lfit 32 (lapp (lapp (lapp [] (lsub z2 0 z11)) [z9]) (lsub z2 z11 (((z2.length : Int) - z11)))) ∧
 (dofI g p (lapp (lapp (lapp [] (lsub z2 0 z11)) [z9]) (lsub z2 z11 (((z2.length : Int) - z11)))) ((w64 (z3 + 1))) ∧
 ((decide (0 ≤ opMu g ((w64 (z3 + 1))))) = true ∧
 (decide (opMu g ((w64 (z3 + 1))) < opMu g z3)) = true))))))))))))))))))) ∧
((decide (z3 < (g.length : Int))) = false →
(z2, ()) = (dofL g p, ()))))))))
theorem r_r9Of (x : HL C_r9Of.args) : runs (env0 [(40, C_r9Apply.hid), (64, C_f2Compare.hid)] [(39, 3, { fix := [(.tmp 11, .list .op), (.cell 3, .agg .pt)], vars := [(.tmp 5, .list .pt), (.tmp 13, .int .i64)], inv := fun y v => dofI y.1 y.2.1 v.1 v.2.1, mu := fun y v => opMu y.1 v.2.1 }), (39, 7, { fix := [(.tmp 5, .list .pt), (.cell 8, .agg .pt)], vars := [(.tmp 9, .int .i64)], inv := fun y v => doaI y.1 y.2.1 v.1, mu := fun y v => lnX y.1 v.1 })] []) 400 39 C_r9Of x = T_r9Of x.1 x.2.1 := by kernel_rfl
theorem p_r9Of (g : List Op3) (p : Pt) (h0 : (Sh.list .op).okA g) (h1 : (Sh.agg .pt).okA p) (hp : orP g p) : T_r9Of g p := by
  obtain ⟨p1, p2, p3⟩ := hp
  have hb : g.length * 96 ≤ room := h0.2
  unfold T_r9Of
  refine ⟨⟨Int.le_refl _, by omega, rfl⟩, fun l i _ _ hI hfit => ⟨fun hi => ?_, fun hi => by rw [hI.2.2, take_end (of_decide_eq_false hi)]⟩⟩
  have hi := of_decide_eq_true hi
  have i0 := hI.1
  obtain ⟨e1, e2, e3⟩ := opMu_next hb i0 hi
  obtain ⟨l1, l2⟩ := dof_lenI hI p3
  have nx := dof_next hI hi
  refine ⟨⟨i0, hi⟩, ⟨errO_ok.2 (p1 _ (getD_mem i0 hi zerO)), p2⟩, fun x hx => ⟨⟨Int.le_refl _, by omega, fun k hk => by simp at hk⟩, fun j _ _ hJ => ?_⟩⟩
  have j0 := hJ.1
  have hjl := hJ.2.1
  have f1 : w64 (j + 1) = j + 1 := w64_id (by omega) (by omega)
  rw [← hx] at nx
  rw [e1] at e2 e3 ⊢
  have ins : (j < (l.length : Int) → ¬ cmpV (l.getD j.toNat zerP).X x.X < 0) → ¬ (j < (l.length : Int) ∧ l.getD j.toNat zerP = x) → (leP 0 0 ∧ (leP 0 j ∧ leP j (l.length : Int))) ∧ (lfit 32 (lapp [] (lsub l 0 j)) ∧ (lfit 32 (lapp (lapp [] (lsub l 0 j)) [x]) ∧ ((leP 0 j ∧ (leP j (l.length : Int) ∧ leP (l.length : Int) (l.length : Int))) ∧ (lfit 32 (lapp (lapp (lapp [] (lsub l 0 j)) [x]) (lsub l j ((l.length : Int) - j))) ∧ (dofI g p (lapp (lapp (lapp [] (lsub l 0 j)) [x]) (lsub l j ((l.length : Int) - j))) (i + 1) ∧ ((decide (0 ≤ opMu g (i + 1))) = true ∧ (decide (opMu g (i + 1) < opMu g i)) = true)))))) := fun hs hn => by
    have hput := doa_put hJ hs
    rw [if_neg hn] at hput
    rw [← hput]
    have z1 : (lsub l 0 j).length ≤ 192 := by unfold lsub; rw [List.length_take, List.length_drop]; omega
    have z2 : (putX l x).length ≤ 193 := by
      have := dof_lenI nx p3; omega
    refine ⟨⟨Int.le_refl _, j0, hjl⟩, ?_, ?_, ⟨j0, hjl, Int.le_refl _⟩, ?_, nx, e2, e3⟩
    · show (lapp [] (lsub l 0 j)).length * 32 ≤ 140737488355328
      unfold lapp; rw [List.nil_append]; omega
    · show (lapp (lapp [] (lsub l 0 j)) [x]).length * 32 ≤ 140737488355328
      unfold lapp; rw [List.nil_append, List.length_append]; simp only [List.length_singleton]; omega
    · show (putX l x).length * 32 ≤ 140737488355328
      omega
  have hit : j < (l.length : Int) → l.getD j.toNat zerP = x → (j < (l.length : Int) → ¬ cmpV (l.getD j.toNat zerP).X x.X < 0) → dofI g p l (i + 1) ∧ ((decide (0 ≤ opMu g (i + 1))) = true ∧ (decide (opMu g (i + 1) < opMu g i)) = true) := fun hj hx2 hs => by
    have hput := doa_put hJ hs
    rw [if_pos ⟨hj, hx2⟩] at hput
    rw [← hput]
    exact ⟨by rw [hput]; rw [hput] at nx; exact nx, e2, e3⟩
  rw [eqPc]
  refine ⟨fun hj => ?_, fun hj => ⟨fun hj2 => absurd (of_decide_eq_true hj2) (of_decide_eq_false hj), fun _ => ins (fun c => absurd c (of_decide_eq_false hj)) (fun c => absurd c.1 (of_decide_eq_false hj))⟩⟩
  have hj := of_decide_eq_true hj
  refine ⟨⟨j0, hj⟩, trivial, fun c => ⟨?_, decide_eq_true (by unfold lnX; omega), decide_eq_true (by unfold lnX; omega)⟩, fun c => ⟨fun _ => ⟨⟨j0, hj⟩, fun d => ?_, fun d => ?_⟩, fun hj2 => absurd hj (of_decide_eq_false hj2)⟩⟩
  · rw [f1]
    refine ⟨by omega, by omega, fun k hk => ?_⟩
    rcases Nat.lt_or_ge k j.toNat with h | h
    · exact hJ.2.2 k h
    · have : k = j.toNat := by omega
      rw [this]; exact of_decide_eq_true c
  · exact hit hj (of_decide_eq_true d) fun _ => of_decide_eq_false c
  · exact ins (fun _ => of_decide_eq_false c) fun k => of_decide_eq_false d k.2
theorem s_r9Of : Sound Try.prog 39 C_r9Of :=
  sound_of_eq (env0_ok (.cons s_r9Apply.hid (.cons s_f2Compare.hid (.nil)))) (fun x => T_r9Of x.1 x.2.1) r_r9Of fun x ok hp => p_r9Of x.1 x.2.1 ok.1 ok.2.1 hp
noncomputable def C_r9check : Contract := { args := [.list .op, .list .pt], res := [.int .i64], pre := fun x => dcP x.2.1, F := fun x => ((dcE x.1 x.2.1 : Int), ()) }
def T_r9check (g : List Op3) (l : List Pt) : Prop :=
  (True ∧
∀ z2 : Int,
(z2 = chkE g →
(ocInv g l 0 z2 ∧
∀ z4 : Int,
((decide ((-9223372036854775808) ≤ z4)) = true →
((decide (z4 ≤ 9223372036854775807)) = true →
∀ z7 : Int,
((decide ((-9223372036854775808) ≤ z7)) = true →
((decide (z7 ≤ 9223372036854775807)) = true →
(ocInv g l z4 z7 →
(((decide (z4 < (l.length : Int))) = true →
 (inB l z4 ∧
 (True ∧
 ∀ z12 : Bool,
 (z12 = frmP (((l.getD (z4).toNat (Pt.mk 0 (V3.mk 0 0 0))))) →
 (((!z12) = true →
  (((decide (z7 = 0)) = true →
   (ocInv g l ((w64 (z4 + 1))) 3 ∧
   ((decide (0 ≤ lnX l ((w64 (z4 + 1))))) = true ∧
   (decide (lnX l ((w64 (z4 + 1))) < lnX l z4)) = true))) ∧
  ((decide (z7 = 0)) = false →
  (((decide (3 < z7)) = true →
   (ocInv g l ((w64 (z4 + 1))) 3 ∧
   ((decide (0 ≤ lnX l ((w64 (z4 + 1))))) = true ∧
   (decide (lnX l ((w64 (z4 + 1))) < lnX l z4)) = true))) ∧
  ((decide (3 < z7)) = false →
  (ocInv g l ((w64 (z4 + 1))) z7 ∧
  ((decide (0 ≤ lnX l ((w64 (z4 + 1))))) = true ∧
  (decide (lnX l ((w64 (z4 + 1))) < lnX l z4)) = true))))))) ∧
 ((!z12) = false →
 (ocInv g l ((w64 (z4 + 1))) z7 ∧
 ((decide (0 ≤ lnX l ((w64 (z4 + 1))))) = true ∧
 (decide (lnX l ((w64 (z4 + 1))) < lnX l z4)) = true)))))))) ∧
((decide (z4 < (l.length : Int))) = false →
(((decide (z7 = 0)) = true →
 (inB l 0 ∧
 (inB l (((l.length : Int) - 1)) ∧
 (((!(decide (((l.getD 0 (Pt.mk 0 (V3.mk 0 0 0)))).M = ((l.getD (((l.length : Int) - 1)).toNat (Pt.mk 0 (V3.mk 0 0 0)))).M))) = true →
  (6, ()) = (dcE g l, ())) ∧
 ((!(decide (((l.getD 0 (Pt.mk 0 (V3.mk 0 0 0)))).M = ((l.getD (((l.length : Int) - 1)).toNat (Pt.mk 0 (V3.mk 0 0 0)))).M))) = false →
 (z7, ()) = (dcE g l, ())))))) ∧
((decide (z7 = 0)) = false →
(z7, ()) = (dcE g l, ())))))))))))))
theorem r_r9check (x : HL C_r9check.args) : runs (env0 [(62, C_r5DocCheck.hid), (63, C_f2Form.hid)] [(38, 3, { fix := [(.tmp 10, .list .pt)], vars := [(.tmp 12, .int .i64), (.tmp 5, .int .i64)], inv := fun y v => ocInv x.1 y.1 v.1 v.2.1, mu := fun y v => lnX y.1 v.1 })] []) 400 38 C_r9check x = T_r9check x.1 x.2.1 := by kernel_rfl
theorem p_r9check (g : List Op3) (l : List Pt) (h0 : (Sh.list .op).okA g) (h1 : (Sh.list .pt).okA l) (hp : dcP l) : T_r9check g l := by
  have hb : l.length * 32 ≤ 140737488355328 := h1.2
  unfold T_r9check
  refine ⟨trivial, fun e0 he0 => ⟨⟨Int.le_refl _, by omega, by rw [he0]; rfl⟩, fun i _ _ e _ _ hI => ⟨fun hi => ?_, fun hi => ?_⟩⟩⟩
  · have hi := of_decide_eq_true hi
    have i0 := hI.1
    have e1 : w64 (i + 1) = i + 1 := w64_id (by omega) (by omega)
    have m1 : decide (0 ≤ lnX l (w64 (i + 1))) = true := decide_eq_true (by unfold lnX; omega)
    have m2 : decide (lnX l (w64 (i + 1)) < lnX l i) = true := decide_eq_true (by unfold lnX; omega)
    have nx := oc_next hI hi
    rw [e1] at m1 m2 ⊢
    refine ⟨⟨i0, hi⟩, trivial, fun b hb => ⟨fun h => ?_, fun h => ⟨?_, m1, m2⟩⟩⟩
    · have hf : ¬ frmP (l.getD i.toNat zerP) = true := by rw [show frmP (l.getD i.toNat zerP) = b from hb.symm]; simpa using h
      rw [if_neg hf] at nx
      refine ⟨fun c => ⟨?_, m1, m2⟩, fun c => ⟨fun d => ⟨?_, m1, m2⟩, fun d => ⟨?_, m1, m2⟩⟩⟩
      · rwa [if_pos (.inl (of_decide_eq_true c))] at nx
      · rwa [if_pos (.inr (of_decide_eq_true d))] at nx
      · rwa [if_neg (fun k => k.elim (of_decide_eq_false c) (of_decide_eq_false d))] at nx
    · have hf : frmP (l.getD i.toNat zerP) = true := by rw [show frmP (l.getD i.toNat zerP) = b from hb.symm]; simpa using h
      rwa [if_pos hf] at nx
  · have he : e = ocE g l := by rw [hI.2.2, take_end (of_decide_eq_false hi)]
    have hl : 0 < (l.length : Int) := hp
    refine ⟨fun c => ⟨⟨Int.le_refl _, hl⟩, ⟨by omega, by omega⟩, fun d => ?_, fun d => ?_⟩, fun c => ?_⟩
    · have c := of_decide_eq_true c
      have d : ¬ (l.getD 0 zerP).M = (l.getD ((l.length : Int) - 1).toNat zerP).M := nd_t d
      unfold dcE; rw [if_pos (he.symm.trans c), if_neg d]
    · have c := of_decide_eq_true c
      have d : (l.getD 0 zerP).M = (l.getD ((l.length : Int) - 1).toNat zerP).M := nd_f d
      unfold dcE; rw [if_pos (he.symm.trans c), if_pos d, c]
    · have c := of_decide_eq_false c
      unfold dcE; rw [if_neg (fun k => c (he.trans k)), he]
theorem s_r9check : Sound Try.prog 38 C_r9check :=
  sound_of_eqs (fun x => env0 [(62, C_r5DocCheck.hid), (63, C_f2Form.hid)] [(38, 3, { fix := [(.tmp 10, .list .pt)], vars := [(.tmp 12, .int .i64), (.tmp 5, .int .i64)], inv := fun y v => ocInv x.1 y.1 v.1 v.2.1, mu := fun y v => lnX y.1 v.1 })] []) (fun _ => rfl) (fun _ => env0_ok (.cons s_r5DocCheck.hid (.cons s_f2Form.hid (.nil)))) (fun x => T_r9check x.1 x.2.1) r_r9check fun x ok hp => p_r9check x.1 x.2.1 ok.1 ok.2.1 hp
end Go.Fx
