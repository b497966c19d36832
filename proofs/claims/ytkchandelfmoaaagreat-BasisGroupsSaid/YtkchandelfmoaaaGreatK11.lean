/-
  Contracts: r5Close, r5DocClose.
-/
import Derived.Test.YtkchandelfmoaaaGreatK10
namespace Go.Fx
open Go Go.Proofs
set_option maxRecDepth 100000
set_option linter.unusedVariables false
set_option linter.unusedSimpArgs false
set_option linter.unusedSectionVars false
noncomputable def C_r5Close : Contract := { args := [.list .op], res := [.list .op, .bool], pre := fun x => frmL x.1, F := fun x => ((rcS x.1 : List Op3), (rcB x.1 : Bool), ()) }
def T_r5Close (l : List Op3) : Prop :=
  (True ∧
(True ∧
(rcInv l [oneO] [oneO] 0 ∧
∀ z1 : List Op3,
∀ z2 : List Op3,
∀ z3 : Int,
((decide ((-9223372036854775808) ≤ z3)) = true →
((decide (z3 ≤ 9223372036854775807)) = true →
(rcInv l z1 z2 z3 →
(lfit 96 z1 →
(lfit 96 z2 →
(((decide (z3 < (z1.length : Int))) = true →
 (rcIn l z3 z1 z2 0 ∧
 ∀ z10 : List Op3,
 ∀ z11 : List Op3,
 ∀ z12 : Int,
 ((decide ((-9223372036854775808) ≤ z12)) = true →
 ((decide (z12 ≤ 9223372036854775807)) = true →
 (rcIn l z3 z10 z11 z12 →
 (lfit 96 z10 →
 (lfit 96 z11 →
 (((decide (z12 < (l.length : Int))) = true →
  (inB l z12 ∧
  (inB z10 z3 ∧
  (mulPre (((z10.getD (z3).toNat zerO))) (((l.getD (z12).toNat zerO))) ∧
  (True ∧
  ∀ z19 : Int,
  (z19 = idxO z10 ((mulO (((z10.getD (z3).toNat zerO))) (((l.getD (z12).toNat zerO))))) →
  (((decide (0 ≤ z19)) = true →
   (rcIn l z3 z10 z11 ((w64 (z12 + 1))) ∧
   ((decide (0 ≤ opMu l ((w64 (z12 + 1))))) = true ∧
   (decide (opMu l ((w64 (z12 + 1))) < opMu l z12)) = true))) ∧
  ((decide (0 ≤ z19)) = false →
  (True ∧
  ∀ z22 : Bool,
  (z22 = okM ((mulO (((z10.getD (z3).toNat zerO))) (((l.getD (z12).toNat zerO)))).R) →
  (((!z22) = true →
   ([], (false, ())) = (rcS l, (rcB l, ()))) ∧
  ((!z22) = false →
  (((decide ((z10.length : Int) = 192)) = true →
   ([], (false, ())) = (rcS l, (rcB l, ()))) ∧
  ((decide ((z10.length : Int) = 192)) = false →
  (lfit 96 (lapp z10 ([(mulO (((z10.getD (z3).toNat zerO))) (((l.getD (z12).toNat zerO))))])) ∧
  (lfit 96 (lapp z11 ([(mulO (((z10.getD (z3).toNat zerO))) (((l.getD (z12).toNat zerO))))])) ∧
  ∀ z26 : List Op3,
  (z26 = putO z11 ((mulO (((z10.getD (z3).toNat zerO))) (((l.getD (z12).toNat zerO))))) →
  (rcIn l z3 (lapp z10 ([(mulO (((z10.getD (z3).toNat zerO))) (((l.getD (z12).toNat zerO))))])) z26 ((w64 (z12 + 1))) ∧
  ((decide (0 ≤ opMu l ((w64 (z12 + 1))))) = true ∧
  (decide (opMu l ((w64 (z12 + 1))) < opMu l z12)) = true))))))))))))))))))) ∧
 ((decide (z12 < (l.length : Int))) = false →
 (rcInv l z10 z11 ((w64 (z3 + 1))) ∧
 ((decide (0 ≤ coMu ((w64 (z3 + 1))))) = true ∧
 (decide (coMu ((w64 (z3 + 1))) < coMu z3)) = true))))))))))) ∧
((decide (z3 < (z1.length : Int))) = false →
(z2, (true, ())) = (rcS l, (rcB l, ()))))))))))))
theorem r_r5Close (x : HL C_r5Close.args) : runs (env0 [(54, C_r5One), (55, C_r5Mul.hid), (53, C_r5Place.hid), (70, C_r5Within.hid), (73, C_r5put.hid)] [(39, 4, { fix := [(.tmp 0, .list .op)], vars := [(.tmp 4, .list .op), (.tmp 5, .list .op), (.tmp 6, .int .i64)], inv := fun y v => rcInv y.1 v.1 v.2.1 v.2.2.1, mu := fun y v => coMu v.2.2.1 }), (39, 7, { fix := [(.tmp 20, .list .op), (.tmp 6, .int .i64)], vars := [(.tmp 4, .list .op), (.tmp 5, .list .op), (.tmp 22, .int .i64)], inv := fun y v => rcIn y.1 y.2.1 v.1 v.2.1 v.2.2.1, mu := fun y v => opMu y.1 v.2.2.1 })] []) 400 39 C_r5Close x = T_r5Close x.1 := by kernel_rfl
theorem p_r5Close (l : List Op3) (h0 : (Sh.list .op).okA l) (hp : frmL l) : T_r5Close l := by
  have hb : l.length * 96 ≤ room := h0.2
  refine ⟨trivial, trivial, rc_init hp.1, fun a s i _ _ hI _ _ => ⟨fun hi => ⟨rci_init hI (of_decide_eq_true hi), ?_⟩, fun hi => rc_end hI (of_decide_eq_false hi)⟩⟩
  have hi := of_decide_eq_true hi
  intro b t j _ _ hJ _ _
  refine ⟨fun hj => ?_, fun hj => rci_end hJ (of_decide_eq_false hj)⟩
  have hj := of_decide_eq_true hj
  obtain ⟨f1, f2⟩ := rci_frm hJ hj
  have hlen := hJ.2.2.1.len
  refine ⟨⟨hJ.2.1.1, hj⟩, ⟨hJ.1.1, hJ.1.2⟩, frm_pre f1 f2, trivial, fun k hk => ⟨fun h1 => ?_, fun h1 => ⟨trivial, fun z hz => ⟨fun h2 => ?_, fun h2 => ⟨fun h3 => ?_, fun h3 => ⟨?_, ?_, fun u hu => ?_⟩⟩⟩⟩⟩⟩
  · refine rci_hit hb hJ hj (Classical.byContradiction fun e => ?_)
    have : idxO b (mulO (b.getD i.toNat zerO) (l.getD j.toNat zerO)) = -1 := idxD_none e
    rw [hk, this] at h1; cases h1
  · have hnm : mulO (b.getD i.toNat zerO) (l.getD j.toNat zerO) ∉ b := idxD_neg.1 (by have := of_decide_eq_false h1; rw [hk] at this; exact Int.not_le.1 this)
    exact rci_none hJ hj hnm fun e => by rw [hz, e.1] at h2; cases h2
  · have hnm : mulO (b.getD i.toNat zerO) (l.getD j.toNat zerO) ∉ b := idxD_neg.1 (by have := of_decide_eq_false h1; rw [hk] at this; exact Int.not_le.1 this)
    have h3 := of_decide_eq_true h3
    exact rci_none hJ hj hnm fun e => e.2 (by omega)
  · show (b ++ [_]).length * 96 ≤ 140737488355328
    rw [List.length_append]; simp; omega
  · show (t ++ [_]).length * 96 ≤ 140737488355328
    rw [List.length_append, hJ.2.2.1.srt, (insO_perm b).length_eq]; simp; omega
  · have hnm : mulO (b.getD i.toNat zerO) (l.getD j.toNat zerO) ∉ b := idxD_neg.1 (by have := of_decide_eq_false h1; rw [hk] at this; exact Int.not_le.1 this)
    rw [hu]
    exact rci_add hb hJ hj hnm (by rw [← hz]; cases hz' : z with | true => rfl | false => rw [hz'] at h2; cases h2) (of_decide_eq_false h3)
theorem s_r5Close : Sound Tryz.prog 39 C_r5Close :=
  sound_of_eq (env0_ok (.cons s_r5One (.cons s_r5Mul.hid (.cons s_r5Place.hid (.cons s_r5Within.hid (.cons s_r5put.hid (.nil))))))) (fun x => T_r5Close x.1) r_r5Close fun x ok hp => p_r5Close x.1 ok.1 hp
noncomputable def C_r5DocClose : Contract := { args := [.list .op], res := [.list .op, .int .i64], pre := fun _ => True, F := fun x => ((dclL x.1 : List Op3), (dclE x.1 : Int), ()) }
def T_r5DocClose (l : List Op3) : Prop :=
  (((decide (192 < (l.length : Int))) = true →
 ([], (2, ())) = (dclL l, (dclE l, ()))) ∧
((decide (192 < (l.length : Int))) = false →
(True ∧
∀ z2 : Int,
(z2 = errL l →
(((!(decide (z2 = 0))) = true →
 ([], (z2, ())) = (dclL l, (dclE l, ()))) ∧
((!(decide (z2 = 0))) = false →
(frmL l ∧
∀ z5 : List Op3,
(z5 = rcS l →
∀ z7 : Bool,
(z7 = rcB l →
(((!z7) = true →
 ([], (5, ())) = (dclL l, (dclE l, ()))) ∧
((!z7) = false →
(z5, (0, ())) = (dclL l, (dclE l, ())))))))))))))
theorem r_r5DocClose (x : HL C_r5DocClose.args) : runs (env0 [(38, C_r5Maps.hid), (39, C_r5Close.hid)] [] []) 400 16 C_r5DocClose x = T_r5DocClose x.1 := by kernel_rfl
theorem p_r5DocClose (l : List Op3) (h0 : (Sh.list .op).okA l) : T_r5DocClose l := by
  unfold T_r5DocClose dclL dclE
  refine ⟨fun h => ?_, fun h => ⟨trivial, fun e he => ⟨fun h2 => ?_, fun h2 => ?_⟩⟩⟩
  · have h := of_decide_eq_true h
    have hg : gE l = 2 := by unfold gE; rw [if_pos h]
    rw [hg]; rfl
  · have hg : gE l = errL l := by unfold gE; rw [if_neg (of_decide_eq_false h)]
    have hne : gE l ≠ 0 := by rw [hg, ← he]; simpa using h2
    rw [if_neg hne, if_neg hne, hg, he]
  · have h := of_decide_eq_false h
    have hg : gE l = errL l := by unfold gE; rw [if_neg h]
    have hz : gE l = 0 := by rw [hg, ← he]; simpa using h2
    rw [if_pos hz, if_pos hz]
    refine ⟨⟨by rw [← hg]; exact hz, by omega⟩, fun s hs b hb => ⟨fun h3 => ?_, fun h3 => ?_⟩⟩
    · have h3 : b = false := by simpa using h3
      rw [h3] at hb
      have hn : rcS l = [] := by
        unfold rcB at hb; unfold rcS
        cases e : cloR rtO l with
        | none => rfl
        | some a => rw [e] at hb; cases hb
      rw [hn, ← hb]; rfl
    · have h3 : b = true := by simpa using h3
      rw [h3] at hb
      rw [← hb, hs]; rfl
theorem s_r5DocClose : Sound Tryz.prog 16 C_r5DocClose :=
  sound_of_eq (env0_ok (.cons s_r5Maps.hid (.cons s_r5Close.hid (.nil)))) (fun x => T_r5DocClose x.1) r_r5DocClose fun x ok hp => p_r5DocClose x.1 ok.1
end Go.Fx
