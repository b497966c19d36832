/-
  Contracts: fMinus, tsmall, tamong, tdot, bGroup.
-/
import Derived.Test.YtkchandelfmoaaaK8
namespace Go.Fx
open Go Go.Proofs
set_option maxRecDepth 100000
set_option linter.unusedVariables false
set_option linter.unusedSimpArgs false
set_option linter.unusedSectionVars false
noncomputable def C_fMinus : Contract := { args := [.agg .pt, .agg .pt], res := [.agg .pt, .int .i64], pre := fun _ => True, F := fun x => ((minP x.1 x.2.1 : Pt), (minE x.1 x.2.1 : Int), ()) }
def T_fMinus (p : Pt) (q : Pt) : Prop :=
  (True ∧
(((!frmP p) = true →
 ((Pt.mk 0 (V3.mk 0 0 0)), (3, ())) = (minP p q, (minE p q, ()))) ∧
((!frmP p) = false →
(True ∧
(((!frmP q) = true →
 ((Pt.mk 0 (V3.mk 0 0 0)), (3, ())) = (minP p q, (minE p q, ()))) ∧
((!frmP q) = false →
(((!(decide (p.M = q.M))) = true →
 ((Pt.mk 0 (V3.mk 0 0 0)), (6, ())) = (minP p q, (minE p q, ()))) ∧
((!(decide (p.M = q.M))) = false →
(((True ∧
  (((plaP p.M ((V3.mk ((w64 (p.X.x - q.X.x))) ((w64 (p.X.y - q.X.y))) ((w64 (p.X.z - q.X.z)))))), (plaE p.M, ())) = (minP p q, (minE p q, ())) ∧
  ((plaP p.M ((V3.mk ((w64 (p.X.x - q.X.x))) ((w64 (p.X.y - q.X.y))) ((w64 (p.X.z - q.X.z)))))), (plaE p.M, ())) = (minP p q, (minE p q, ())))) ∧
 ((True ∧
  (((plaP p.M ((V3.mk ((w64 (p.X.x - q.X.x))) ((w64 (p.X.y - q.X.y))) ((w64 (p.X.z - q.X.z)))))), (plaE p.M, ())) = (minP p q, (minE p q, ())) ∧
  ((plaP p.M ((V3.mk ((w64 (p.X.x - q.X.x))) ((w64 (p.X.y - q.X.y))) ((w64 (p.X.z - q.X.z)))))), (plaE p.M, ())) = (minP p q, (minE p q, ())))) ∧
 (True ∧
 (((plaP p.M ((V3.mk ((w64 (p.X.x - q.X.x))) ((w64 (p.X.y - q.X.y))) ((w64 (p.X.z - q.X.z)))))), (plaE p.M, ())) = (minP p q, (minE p q, ())) ∧
 ((plaP p.M ((V3.mk ((w64 (p.X.x - q.X.x))) ((w64 (p.X.y - q.X.y))) ((w64 (p.X.z - q.X.z)))))), (plaE p.M, ())) = (minP p q, (minE p q, ())))))) ∧
(((True ∧
  (((plaP p.M ((V3.mk ((w64 (p.X.x - q.X.x))) ((w64 (p.X.y - q.X.y))) ((w64 (p.X.z - q.X.z)))))), (plaE p.M, ())) = (minP p q, (minE p q, ())) ∧
  ((plaP p.M ((V3.mk ((w64 (p.X.x - q.X.x))) ((w64 (p.X.y - q.X.y))) ((w64 (p.X.z - q.X.z)))))), (plaE p.M, ())) = (minP p q, (minE p q, ())))) ∧
 (True ∧
 (((plaP p.M ((V3.mk ((w64 (p.X.x - q.X.x))) ((w64 (p.X.y - q.X.y))) ((w64 (p.X.z - q.X.z)))))), (plaE p.M, ())) = (minP p q, (minE p q, ())) ∧
 ((plaP p.M ((V3.mk ((w64 (p.X.x - q.X.x))) ((w64 (p.X.y - q.X.y))) ((w64 (p.X.z - q.X.z)))))), (plaE p.M, ())) = (minP p q, (minE p q, ()))))) ∧
(True ∧
(((plaP p.M ((V3.mk ((w64 (p.X.x - q.X.x))) ((w64 (p.X.y - q.X.y))) ((w64 (p.X.z - q.X.z)))))), (plaE p.M, ())) = (minP p q, (minE p q, ())) ∧
((plaP p.M ((V3.mk ((w64 (p.X.x - q.X.x))) ((w64 (p.X.y - q.X.y))) ((w64 (p.X.z - q.X.z)))))), (plaE p.M, ())) = (minP p q, (minE p q, ()))))))))))))))
theorem r_fMinus (x : HL C_fMinus.args) : runs (env0 [(26, C_fForm), (29, C_fPlace)] [] []) 400 31 C_fMinus x = T_fMinus x.1 x.2.1 := by kernel_rfl
theorem p_fMinus (p : Pt) (q : Pt) (h0 : (Sh.agg .pt).okA p) (h1 : (Sh.agg .pt).okA q) : T_fMinus p q := by
  unfold T_fMinus
  have hz : Pt.mk 0 (V3.mk 0 0 0) = zerP := rfl
  cases h1 : frmP p
  · refine ⟨trivial, fun _ => ?_, fun h => absurd h (by decide)⟩
    rw [show minE p q = 3 from by unfold minE; rw [if_neg (by rw [h1]; simp)], show minP p q = zerP from by unfold minP; rw [if_neg (by rw [h1]; simp)]]; rfl
  · refine ⟨trivial, fun h => absurd h (by decide), fun _ => ⟨trivial, ?_⟩⟩
    cases h2 : frmP q
    · refine ⟨fun _ => ?_, fun h => absurd h (by decide)⟩
      rw [show minE p q = 3 from by unfold minE; rw [if_neg (by rw [h2]; simp)], show minP p q = zerP from by unfold minP; rw [if_neg (by rw [h2]; simp)]]; rfl
    · refine ⟨fun h => absurd h (by decide), fun _ => ⟨fun hm => ?_, fun hm => ?_⟩⟩
      · have hm : ¬ p.M = q.M := by simpa using hm
        rw [show minE p q = 6 from by unfold minE; rw [if_pos ⟨h1, h2⟩, if_neg hm], show minP p q = zerP from by unfold minP; rw [if_neg (fun h => hm h.2.2)]]; rfl
      · have hm : p.M = q.M := by simpa using hm
        obtain ⟨b1, m1, m2⟩ := frm_B h1
        obtain ⟨b2, _, _⟩ := frm_B h2
        have hs : ∀ a b : Int, -192 ≤ a ∧ a ≤ 192 → -192 ≤ b ∧ b ≤ 192 → w64 (a - b) = a + -b := fun a b ha hb => by rw [w64_id (by omega) (by omega)]; omega
        have key : (plaP p.M (V3.mk (w64 (p.X.x - q.X.x)) (w64 (p.X.y - q.X.y)) (w64 (p.X.z - q.X.z))), (plaE p.M, ())) = (minP p q, (minE p q, ())) := by
          rw [hs _ _ b1.1 b2.1, hs _ _ b1.2.1 b2.2.1, hs _ _ b1.2.2 b2.2.2, show minE p q = 0 from by unfold minE; rw [if_pos ⟨h1, h2⟩, if_pos hm], show minP p q = Pt.mk p.M (modV p.M (addV p.X (negV q.X))) from by unfold minP; rw [if_pos ⟨h1, h2, hm⟩]]
          unfold plaP plaE
          rw [if_pos (frmP_rgt h1), if_pos (frmP_rgt h1)]; rfl
        simp only [key, and_self]
theorem s_fMinus : Sound Try.prog 31 C_fMinus :=
  sound_of_eq (env0_ok (.cons s_fForm (.cons s_fPlace (.nil)))) (fun x => T_fMinus x.1 x.2.1) r_fMinus fun x ok hp => p_fMinus x.1 x.2.1 ok.1 ok.2.1
noncomputable def C_tsmall : Contract := { args := [.agg .v8], res := [.agg .vec], pre := fun _ => True, F := fun x => ((smlV x.1 : V3), ()) }
def T_tsmall (h : V3) : Prop :=
  ((V3.mk (((h.x % 11) - 5)) (((h.y % 11) - 5)) (((h.z % 11) - 5))), ()) = (smlV h, ())
theorem r_tsmall (x : HL C_tsmall.args) : runs (env0 [] [] []) 400 30 C_tsmall x = T_tsmall x.1 := by kernel_rfl
theorem p_tsmall (h : V3) (h0 : (Sh.agg .v8).okA h) : T_tsmall h := by
  rfl
theorem s_tsmall : Sound Try.prog 30 C_tsmall :=
  sound_of_eq (env0_ok (.nil)) (fun x => T_tsmall x.1) r_tsmall fun x ok hp => p_tsmall x.1 ok.1
noncomputable def C_tamong : Contract := { args := [.int .i64, .int .i64], res := [.int .i64], pre := fun x => amP x.2.1, F := fun x => ((amo x.1 x.2.1 : Int), ()) }
def T_tamong (n : Int) (m : Int) : Prop :=
  ((m ≠ 0) ∧
(((decide ((Int.tmod n m) < 0)) = true →
 ((w64 (((Int.tmod n m) + m))), ()) = (amo n m, ())) ∧
((decide ((Int.tmod n m) < 0)) = false →
((Int.tmod n m), ()) = (amo n m, ()))))
theorem r_tamong (x : HL C_tamong.args) : runs (env0 [] [] []) 400 32 C_tamong x = T_tamong x.1 x.2.1 := by kernel_rfl
theorem p_tamong (n : Int) (m : Int) (h0 : (Sh.int .i64).okA n) (h1 : (Sh.int .i64).okA m) (hp : amP m) : T_tamong n m := by
  obtain ⟨m1, m2⟩ := hp
  unfold T_tamong amo
  have hb : (n.tmod m).natAbs < m.natAbs := by rw [Int.natAbs_tmod]; exact Nat.mod_lt _ (by omega)
  have he : (n.tmod m) % m = n % m := by
    have h := Int.tmod_add_tdiv_mul n m
    rw [show n % m = (n.tmod m + n.tdiv m * m) % m from by rw [h], Int.add_mul_emod_self_right]
  rw [← he]
  generalize Int.tmod n m = t at hb
  refine ⟨by omega, fun h => ?_, fun h => ?_⟩
  · have h := of_decide_eq_true h
    rw [w64_id (by omega) (by omega), ← Int.add_emod_right, Int.emod_eq_of_lt (by omega) (by omega)]
  · have h := of_decide_eq_false h
    rw [Int.emod_eq_of_lt (by omega) (by omega)]
theorem s_tamong : Sound Try.prog 32 C_tamong :=
  sound_of_eq (env0_ok (.nil)) (fun x => T_tamong x.1 x.2.1) r_tamong fun x ok hp => p_tamong x.1 x.2.1 ok.1 ok.2.1 hp
noncomputable def C_tdot : Contract := { args := [.agg .vec, .agg .vec], res := [.int .i64], pre := fun _ => True, F := fun x => ((w64 (dotV x.1 x.2.1) : Int), ()) }
def T_tdot (h : V3) (x : V3) : Prop :=
  ((w64 (((w64 (((w64 (h.x * x.x)) + (w64 (h.y * x.y))))) + (w64 (h.z * x.z))))), ()) = (w64 (dotV h x), ())
theorem r_tdot (x : HL C_tdot.args) : runs (env0 [] [] []) 400 33 C_tdot x = T_tdot x.1 x.2.1 := by kernel_rfl
theorem p_tdot (h : V3) (x : V3) (h0 : (Sh.agg .vec).okA h) (h1 : (Sh.agg .vec).okA x) : T_tdot h x := by
  unfold T_tdot dotV
  simp only [w64_add_l, w64_add_r, w64_sub_l, w64_sub_r, w64_w64]
theorem s_tdot : Sound Try.prog 33 C_tdot :=
  sound_of_eq (env0_ok (.nil)) (fun x => T_tdot x.1 x.2.1) r_tdot fun x ok hp => p_tdot x.1 x.2.1 ok.1 ok.2.1
noncomputable def C_bGroup : Contract := { args := [.agg .chg, .list .op], res := [.list .op, .int .i64], pre := fun _ => True, F := fun x => ((bgL x.1 x.2.1 : List Op3), (bgE x.1 x.2.1 : Int), ()) }
def T_bGroup (c : Chg) (g : List Op3) : Prop :=
  (True ∧
∀ z2 : M3,
(z2 = selM (uniE c.P) (wM (scaZ (detZ c.P) (adjZ c.P))) →
∀ z4 : Int,
(z4 = uniE c.P →
(True ∧
∀ z6 : Int,
(z6 = chkE g →
(((decide (z4 = 0)) = true →
 (((!(decide (z6 = 0))) = true →
  ([], (z6, ())) = (bgL c g, (bgE c g, ()))) ∧
 ((!(decide (z6 = 0))) = false →
 (bgI c g [] 0 ∧
 ∀ z10 : List Op3,
 ∀ z11 : Int,
 ((decide ((-9223372036854775808) ≤ z11)) = true →
 ((decide (z11 ≤ 9223372036854775807)) = true →
 (bgI c g z10 z11 →
 (lfit 96 z10 →
 (((decide (z11 < (g.length : Int))) = true →
  (inB g z11 ∧
  (True ∧
  ∀ z17 : Op3,
  (z17 = tolW c z2 (((g.getD (z11).toNat zerO))) →
  (True ∧
  (((!(decide (errM z17.R = 0))) = true →
   ([], (errM z17.R, ())) = (bgL c g, (bgE c g, ()))) ∧
  ((!(decide (errM z17.R = 0))) = false →
  (lfit 96 (lapp z10 [z17]) ∧
  (bgI c g (lapp z10 [z17]) ((w64 (z11 + 1))) ∧
  ((decide (0 ≤ opMu g ((w64 (z11 + 1))))) = true ∧
  (decide (opMu g ((w64 (z11 + 1))) < opMu g z11)) = true)))))))))) ∧
 ((decide (z11 < (g.length : Int))) = false →
 (True ∧
 (sortO z10, (0, ())) = (bgL c g, (bgE c g, ()))))))))))))) ∧
((decide (z4 = 0)) = false →
(((!(decide (z6 = 0))) = true →
 (((decide (z6 < z4)) = true →
  (((!(decide (z6 = 0))) = true →
   ([], (z6, ())) = (bgL c g, (bgE c g, ()))) ∧
  ((!(decide (z6 = 0))) = false →
  (bgI c g [] 0 ∧
  ∀ z12 : List Op3,
  ∀ z13 : Int,
  ((decide ((-9223372036854775808) ≤ z13)) = true →
  ((decide (z13 ≤ 9223372036854775807)) = true →
  (bgI c g z12 z13 →
  (lfit 96 z12 →
  (((decide (z13 < (g.length : Int))) = true →
   (inB g z13 ∧
   (True ∧
   ∀ z19 : Op3,
   (z19 = tolW c z2 (((g.getD (z13).toNat zerO))) →
   (True ∧
   (((!(decide (errM z19.R = 0))) = true →
    ([], (errM z19.R, ())) = (bgL c g, (bgE c g, ()))) ∧
   ((!(decide (errM z19.R = 0))) = false →
   (lfit 96 (lapp z12 [z19]) ∧
   (bgI c g (lapp z12 [z19]) ((w64 (z13 + 1))) ∧
   ((decide (0 ≤ opMu g ((w64 (z13 + 1))))) = true ∧
   (decide (opMu g ((w64 (z13 + 1))) < opMu g z13)) = true)))))))))) ∧
  ((decide (z13 < (g.length : Int))) = false →
  (True ∧
  (sortO z12, (0, ())) = (bgL c g, (bgE c g, ()))))))))))))) ∧
 ((decide (z6 < z4)) = false →
 (((!(decide (z4 = 0))) = true →
  ([], (z4, ())) = (bgL c g, (bgE c g, ()))) ∧
 ((!(decide (z4 = 0))) = false →
 (bgI c g [] 0 ∧
 ∀ z12 : List Op3,
 ∀ z13 : Int,
 ((decide ((-9223372036854775808) ≤ z13)) = true →
 ((decide (z13 ≤ 9223372036854775807)) = true →
 (bgI c g z12 z13 →
 (lfit 96 z12 →
 (((decide (z13 < (g.length : Int))) = true →
  (inB g z13 ∧
  (True ∧
  ∀ z19 : Op3,
  (z19 = tolW c z2 (((g.getD (z13).toNat zerO))) →
  (True ∧
  (((!(decide (errM z19.R = 0))) = true →
   ([], (errM z19.R, ())) = (bgL c g, (bgE c g, ()))) ∧
  ((!(decide (errM z19.R = 0))) = false →
  (lfit 96 (lapp z12 [z19]) ∧
  (bgI c g (lapp z12 [z19]) ((w64 (z13 + 1))) ∧
  ((decide (0 ≤ opMu g ((w64 (z13 + 1))))) = true ∧
  (decide (opMu g ((w64 (z13 + 1))) < opMu g z13)) = true)))))))))) ∧
 ((decide (z13 < (g.length : Int))) = false →
 (True ∧
 (sortO z12, (0, ())) = (bgL c g, (bgE c g, ()))))))))))))))) ∧
((!(decide (z6 = 0))) = false →
(((!(decide (z4 = 0))) = true →
 ([], (z4, ())) = (bgL c g, (bgE c g, ()))) ∧
((!(decide (z4 = 0))) = false →
(bgI c g [] 0 ∧
∀ z11 : List Op3,
∀ z12 : Int,
((decide ((-9223372036854775808) ≤ z12)) = true →
((decide (z12 ≤ 9223372036854775807)) = true →
(bgI c g z11 z12 →
(lfit 96 z11 →
(((decide (z12 < (g.length : Int))) = true →
 (inB g z12 ∧
 (True ∧
 ∀ z18 : Op3,
 (z18 = tolW c z2 (((g.getD (z12).toNat zerO))) →
 (True ∧
 (((!(decide (errM z18.R = 0))) = true →
  ([], (errM z18.R, ())) = (bgL c g, (bgE c g, ()))) ∧
 ((!(decide (errM z18.R = 0))) = false →
 (lfit 96 (lapp z11 [z18]) ∧
 (bgI c g (lapp z11 [z18]) ((w64 (z12 + 1))) ∧
 ((decide (0 ≤ opMu g ((w64 (z12 + 1))))) = true ∧
 (decide (opMu g ((w64 (z12 + 1))) < opMu g z12)) = true)))))))))) ∧
((decide (z12 < (g.length : Int))) = false →
(True ∧
(sortO z11, (0, ())) = (bgL c g, (bgE c g, ())))))))))))))))))))))
theorem r_bGroup (x : HL C_bGroup.args) : runs (env1 [(79, C_Inverse.hid), (36, C_gCheck.hid), (62, C_btold.hid), (47, C_check)] [(35, 7, { fix := [(.tmp 25, .list .op)], vars := [(.tmp 8, .list .op), (.tmp 27, .int .i64)], inv := fun y v => bgI x.1 y.1 v.1 v.2.1, mu := fun y v => opMu y.1 v.2.1 })] []) 400 35 C_bGroup x = T_bGroup x.1 x.2.1 := by kernel_rfl
theorem p_bGroup (c : Chg) (g : List Op3) (h0 : (Sh.agg .chg).okA c) (h1 : (Sh.list .op).okA g) : T_bGroup c g := by
  have hb : g.length * 96 ≤ room := h1.2
  have main : lst2 (uniE c.P) (chkE g) = 0 → ∀ z2 : M3, z2 = selM (uniE c.P) (wM (scaZ (detZ c.P) (adjZ c.P))) → (bgI c g [] 0 ∧ ∀ l : List Op3, ∀ i : Int, (decide ((-9223372036854775808) ≤ i)) = true → (decide (i ≤ 9223372036854775807)) = true → bgI c g l i → lfit 96 l →
      (((decide (i < (g.length : Int))) = true → (inB g i ∧ (True ∧ ∀ n : Op3, n = tolW c z2 (g.getD i.toNat zerO) → (True ∧
        (((!(decide (errM n.R = 0))) = true → (([] : List Op3), (errM n.R, ())) = (bgL c g, (bgE c g, ()))) ∧
        ((!(decide (errM n.R = 0))) = false → (lfit 96 (lapp l [n]) ∧ (bgI c g (lapp l [n]) (w64 (i + 1)) ∧ ((decide (0 ≤ opMu g (w64 (i + 1)))) = true ∧ (decide (opMu g (w64 (i + 1)) < opMu g i)) = true))))))))) ∧
      ((decide (i < (g.length : Int))) = false → (True ∧ (sortO l, ((0 : Int), ())) = (bgL c g, (bgE c g, ())))))) := fun hz z2 h2 => by
    have hq : z2 = invW c.P := by rw [h2]; unfold selM; rw [if_pos (lst2_zero hz).1]; rfl
    refine ⟨⟨Int.le_refl _, by omega, rfl, fun o ho => by simp at ho⟩, fun l i _ _ hI hfit => ⟨fun hi => ?_, fun hi => ?_⟩⟩
    · have hi := of_decide_eq_true hi
      have i0 := hI.1
      have e1 : w64 (i + 1) = i + 1 := w64_id (by omega) (by unfold room at hb; omega)
      refine ⟨⟨i0, hi⟩, trivial, fun n hn => ⟨trivial, fun he => ?_, fun he => ?_⟩⟩
      · have he : errM n.R ≠ 0 := by simpa using he
        rw [hq] at hn
        obtain ⟨q1, q2⟩ := bg_bad hz i0 hi (by rw [show tol c (g.getD i.toNat zerO) = n from hn.symm]) he
        rw [q1, q2]
      · have he : errM n.R = 0 := by simpa using he
        rw [hq] at hn
        have hn' : n = tol c (g.getD i.toNat zerO) := hn
        have nx := bg_next hI hi (by rw [← hn']; exact he)
        rw [← hn'] at nx
        have hl : l.length = i.toNat := by rw [hI.2.2.1, List.length_map, List.length_take]; omega
        rw [e1]
        refine ⟨?_, nx, decide_eq_true (by unfold opMu; omega), decide_eq_true (by unfold opMu; omega)⟩
        show (l ++ [n]).length * 96 ≤ 140737488355328
        rw [List.length_append, List.length_singleton]; unfold room at hb; omega
    · obtain ⟨q1, q2⟩ := bg_end hz hI (of_decide_eq_false hi)
      rw [q1, q2]; exact ⟨trivial, rfl⟩
  have bad : ∀ e : Int, lst2 (uniE c.P) (chkE g) = e → e ≠ 0 → (([] : List Op3), (e, ())) = (bgL c g, (bgE c g, ())) := fun e he hne => by
    have h : bgE c g = e := by unfold bgE; rw [if_neg (by rw [he]; exact hne)]; exact he
    rw [show bgL c g = [] from by unfold bgL; rw [if_neg (by rw [h]; exact hne)], h]
  unfold T_bGroup
  refine ⟨trivial, fun z2 h2 z4 h4 => ⟨trivial, fun z6 h6 => ?_⟩⟩
  have lz : lst2 z4 z6 = lst2 (uniE c.P) (chkE g) := by rw [h4, h6]
  refine ⟨fun a => ⟨fun b => bad z6 ?_ ?_, fun b => main ?_ z2 h2⟩, fun a => ⟨fun b => ⟨fun d => ⟨fun e => bad z6 ?_ ?_, fun e => absurd b (by rw [e]; decide)⟩, fun d => ⟨fun e => bad z4 ?_ ?_, fun e => absurd a ?_⟩⟩, fun b => ⟨fun e => bad z4 ?_ ?_, fun e => absurd a ?_⟩⟩⟩
  all_goals try rw [← lz]
  all_goals try unfold lst2
  all_goals (simp only [Bool.not_eq_true', Bool.not_eq_false', decide_eq_true_eq, decide_eq_false_iff_not] at *)
  · rw [if_pos a]
  · exact b
  · rw [if_pos a]; exact b
  · rw [if_neg a, if_pos ⟨b, d⟩]
  · exact b
  · rw [if_neg a, if_neg (fun h => d h.2)]
  · exact a
  · exact fun h => h e
  · rw [if_neg a, if_neg (fun h => h.1 b)]
  · exact a
  · exact fun h => h e
theorem s_bGroup : Sound Try.prog 35 C_bGroup :=
  sound_of_eqs (fun x => env1 [(79, C_Inverse.hid), (36, C_gCheck.hid), (62, C_btold.hid), (47, C_check)] [(35, 7, { fix := [(.tmp 25, .list .op)], vars := [(.tmp 8, .list .op), (.tmp 27, .int .i64)], inv := fun y v => bgI x.1 y.1 v.1 v.2.1, mu := fun y v => opMu y.1 v.2.1 })] []) (fun _ => rfl) (fun _ => env1_ok (.cons s_Inverse.hid (.cons s_gCheck.hid (.cons s_btold.hid (.cons s_check (.nil)))))) (fun x => T_bGroup x.1 x.2.1) r_bGroup fun x ok hp => p_bGroup x.1 x.2.1 ok.1 ok.2.1
end Go.Fx
