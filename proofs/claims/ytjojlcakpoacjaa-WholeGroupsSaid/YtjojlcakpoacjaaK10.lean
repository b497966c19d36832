/-
  Contracts: tclosure, tsame.
-/
import Derived.Test.YtjojlcakpoacjaaK9
namespace Go.Fx
open Go Go.Proofs
set_option maxRecDepth 100000
set_option linter.unusedVariables false
set_option linter.unusedSimpArgs false
set_option linter.unusedSectionVars false
noncomputable def C_tclosure : Contract := { args := [.list .op], res := [.list .op, .bool], pre := fun x => frmL x.1, F := fun x => ((rcL x.1 : List Op3), (rcB x.1 : Bool), ()) }
def T_tclosure (l : List Op3) : Prop :=
  (True ∧
(tcInv l [oneO] 0 ∧
∀ z1 : List Op3,
∀ z2 : Int,
((decide ((-9223372036854775808) ≤ z2)) = true →
((decide (z2 ≤ 9223372036854775807)) = true →
(tcInv l z1 z2 →
(lfit 96 z1 →
(((decide (z2 < (z1.length : Int))) = true →
 (tcIn l z2 z1 0 ∧
 ∀ z8 : List Op3,
 ∀ z9 : Int,
 ((decide ((-9223372036854775808) ≤ z9)) = true →
 ((decide (z9 ≤ 9223372036854775807)) = true →
 (tcIn l z2 z8 z9 →
 (lfit 96 z8 →
 (((decide (z9 < (l.length : Int))) = true →
  (inB z8 z2 ∧
  (inB l z9 ∧
  (True ∧
  (((!(decide (mulE (((z8.getD (z2).toNat zerO))) (((l.getD (z9).toNat zerO))) = 0))) = true →
   ([], (false, ())) = (rcL l, (rcB l, ()))) ∧
  ((!(decide (mulE (((z8.getD (z2).toNat zerO))) (((l.getD (z9).toNat zerO))) = 0))) = false →
  (hgP z8 ((selO (mulE (((z8.getD (z2).toNat zerO))) (((l.getD (z9).toNat zerO)))) (mulO (((z8.getD (z2).toNat zerO))) (((l.getD (z9).toNat zerO)))))) false 0 ∧
  ∀ z16 : Bool,
  ∀ z17 : Int,
  ((decide ((-9223372036854775808) ≤ z17)) = true →
  ((decide (z17 ≤ 9223372036854775807)) = true →
  (hgP z8 ((selO (mulE (((z8.getD (z2).toNat zerO))) (((l.getD (z9).toNat zerO)))) (mulO (((z8.getD (z2).toNat zerO))) (((l.getD (z9).toNat zerO)))))) z16 z17 →
  (((decide (z17 < (z8.length : Int))) = true →
   (inB z8 z17 ∧
   ((((decide ((((z8.getD (z17).toNat zerO)).R).xx = ((selO (mulE (((z8.getD (z2).toNat zerO))) (((l.getD (z9).toNat zerO)))) (mulO (((z8.getD (z2).toNat zerO))) (((l.getD (z9).toNat zerO))))).R).xx)) && ((decide ((((z8.getD (z17).toNat zerO)).R).xy = ((selO (mulE (((z8.getD (z2).toNat zerO))) (((l.getD (z9).toNat zerO)))) (mulO (((z8.getD (z2).toNat zerO))) (((l.getD (z9).toNat zerO))))).R).xy)) && ((decide ((((z8.getD (z17).toNat zerO)).R).xz = ((selO (mulE (((z8.getD (z2).toNat zerO))) (((l.getD (z9).toNat zerO)))) (mulO (((z8.getD (z2).toNat zerO))) (((l.getD (z9).toNat zerO))))).R).xz)) && ((decide ((((z8.getD (z17).toNat zerO)).R).yx = ((selO (mulE (((z8.getD (z2).toNat zerO))) (((l.getD (z9).toNat zerO)))) (mulO (((z8.getD (z2).toNat zerO))) (((l.getD (z9).toNat zerO))))).R).yx)) && ((decide ((((z8.getD (z17).toNat zerO)).R).yy = ((selO (mulE (((z8.getD (z2).toNat zerO))) (((l.getD (z9).toNat zerO)))) (mulO (((z8.getD (z2).toNat zerO))) (((l.getD (z9).toNat zerO))))).R).yy)) && ((decide ((((z8.getD (z17).toNat zerO)).R).yz = ((selO (mulE (((z8.getD (z2).toNat zerO))) (((l.getD (z9).toNat zerO)))) (mulO (((z8.getD (z2).toNat zerO))) (((l.getD (z9).toNat zerO))))).R).yz)) && ((decide ((((z8.getD (z17).toNat zerO)).R).zx = ((selO (mulE (((z8.getD (z2).toNat zerO))) (((l.getD (z9).toNat zerO)))) (mulO (((z8.getD (z2).toNat zerO))) (((l.getD (z9).toNat zerO))))).R).zx)) && ((decide ((((z8.getD (z17).toNat zerO)).R).zy = ((selO (mulE (((z8.getD (z2).toNat zerO))) (((l.getD (z9).toNat zerO)))) (mulO (((z8.getD (z2).toNat zerO))) (((l.getD (z9).toNat zerO))))).R).zy)) && ((decide ((((z8.getD (z17).toNat zerO)).R).zz = ((selO (mulE (((z8.getD (z2).toNat zerO))) (((l.getD (z9).toNat zerO)))) (mulO (((z8.getD (z2).toNat zerO))) (((l.getD (z9).toNat zerO))))).R).zz)) && ((decide ((((z8.getD (z17).toNat zerO)).T).x = ((selO (mulE (((z8.getD (z2).toNat zerO))) (((l.getD (z9).toNat zerO)))) (mulO (((z8.getD (z2).toNat zerO))) (((l.getD (z9).toNat zerO))))).T).x)) && ((decide ((((z8.getD (z17).toNat zerO)).T).y = ((selO (mulE (((z8.getD (z2).toNat zerO))) (((l.getD (z9).toNat zerO)))) (mulO (((z8.getD (z2).toNat zerO))) (((l.getD (z9).toNat zerO))))).T).y)) && ((decide ((((z8.getD (z17).toNat zerO)).T).z = ((selO (mulE (((z8.getD (z2).toNat zerO))) (((l.getD (z9).toNat zerO)))) (mulO (((z8.getD (z2).toNat zerO))) (((l.getD (z9).toNat zerO))))).T).z)) && true)))))))))))) = true →
    (hgP z8 ((selO (mulE (((z8.getD (z2).toNat zerO))) (((l.getD (z9).toNat zerO)))) (mulO (((z8.getD (z2).toNat zerO))) (((l.getD (z9).toNat zerO)))))) true ((w64 (z17 + 1))) ∧
    ((decide (0 ≤ opMu z8 ((w64 (z17 + 1))))) = true ∧
    (decide (opMu z8 ((w64 (z17 + 1))) < opMu z8 z17)) = true))) ∧
   (((decide ((((z8.getD (z17).toNat zerO)).R).xx = ((selO (mulE (((z8.getD (z2).toNat zerO))) (((l.getD (z9).toNat zerO)))) (mulO (((z8.getD (z2).toNat zerO))) (((l.getD (z9).toNat zerO))))).R).xx)) && ((decide ((((z8.getD (z17).toNat zerO)).R).xy = ((selO (mulE (((z8.getD (z2).toNat zerO))) (((l.getD (z9).toNat zerO)))) (mulO (((z8.getD (z2).toNat zerO))) (((l.getD (z9).toNat zerO))))).R).xy)) && ((decide ((((z8.getD (z17).toNat zerO)).R).xz = ((selO (mulE (((z8.getD (z2).toNat zerO))) (((l.getD (z9).toNat zerO)))) (mulO (((z8.getD (z2).toNat zerO))) (((l.getD (z9).toNat zerO))))).R).xz)) && ((decide ((((z8.getD (z17).toNat zerO)).R).yx = ((selO (mulE (((z8.getD (z2).toNat zerO))) (((l.getD (z9).toNat zerO)))) (mulO (((z8.getD (z2).toNat zerO))) (((l.getD (z9).toNat zerO))))).R).yx)) && ((decide ((((z8.getD (z17).toNat zerO)).R).yy = ((selO (mulE (((z8.getD (z2).toNat zerO))) (((l.getD (z9).toNat zerO)))) (mulO (((z8.getD (z2).toNat zerO))) (((l.getD (z9).toNat zerO))))).R).yy)) && ((decide ((((z8.getD (z17).toNat zerO)).R).yz = ((selO (mulE (((z8.getD (z2).toNat zerO))) (((l.getD (z9).toNat zerO)))) (mulO (((z8.getD (z2).toNat zerO))) (((l.getD (z9).toNat zerO))))).R).yz)) && ((decide ((((z8.getD (z17).toNat zerO)).R).zx = ((selO (mulE (((z8.getD (z2).toNat zerO))) (((l.getD (z9).toNat zerO)))) (mulO (((z8.getD (z2).toNat zerO))) (((l.getD (z9).toNat zerO))))).R).zx)) && ((decide ((((z8.getD (z17).toNat zerO)).R).zy = ((selO (mulE (((z8.getD (z2).toNat zerO))) (((l.getD (z9).toNat zerO)))) (mulO (((z8.getD (z2).toNat zerO))) (((l.getD (z9).toNat zerO))))).R).zy)) && ((decide ((((z8.getD (z17).toNat zerO)).R).zz = ((selO (mulE (((z8.getD (z2).toNat zerO))) (((l.getD (z9).toNat zerO)))) (mulO (((z8.getD (z2).toNat zerO))) (((l.getD (z9).toNat zerO))))).R).zz)) && ((decide ((((z8.getD (z17).toNat zerO)).T).x = ((selO (mulE (((z8.getD (z2).toNat zerO))) (((l.getD (z9).toNat zerO)))) (mulO (((z8.getD (z2).toNat zerO))) (((l.getD (z9).toNat zerO))))).T).x)) && ((decide ((((z8.getD (z17).toNat zerO)).T).y = ((selO (mulE (((z8.getD (z2).toNat zerO))) (((l.getD (z9).toNat zerO)))) (mulO (((z8.getD (z2).toNat zerO))) (((l.getD (z9).toNat zerO))))).T).y)) && ((decide ((((z8.getD (z17).toNat zerO)).T).z = ((selO (mulE (((z8.getD (z2).toNat zerO))) (((l.getD (z9).toNat zerO)))) (mulO (((z8.getD (z2).toNat zerO))) (((l.getD (z9).toNat zerO))))).T).z)) && true)))))))))))) = false →
   (hgP z8 ((selO (mulE (((z8.getD (z2).toNat zerO))) (((l.getD (z9).toNat zerO)))) (mulO (((z8.getD (z2).toNat zerO))) (((l.getD (z9).toNat zerO)))))) z16 ((w64 (z17 + 1))) ∧
   ((decide (0 ≤ opMu z8 ((w64 (z17 + 1))))) = true ∧
   (decide (opMu z8 ((w64 (z17 + 1))) < opMu z8 z17)) = true)))))) ∧
  ((decide (z17 < (z8.length : Int))) = false →
  ((z16 = true →
   (tcIn l z2 z8 ((w64 (z9 + 1))) ∧
   ((decide (0 ≤ opMu l ((w64 (z9 + 1))))) = true ∧
   (decide (opMu l ((w64 (z9 + 1))) < opMu l z9)) = true))) ∧
  (z16 = false →
  (((decide ((z8.length : Int) = 192)) = true →
   ([], (false, ())) = (rcL l, (rcB l, ()))) ∧
  ((decide ((z8.length : Int) = 192)) = false →
  (lfit 96 (lapp z8 ([(selO (mulE (((z8.getD (z2).toNat zerO))) (((l.getD (z9).toNat zerO)))) (mulO (((z8.getD (z2).toNat zerO))) (((l.getD (z9).toNat zerO)))))])) ∧
  (tcIn l z2 (lapp z8 ([(selO (mulE (((z8.getD (z2).toNat zerO))) (((l.getD (z9).toNat zerO)))) (mulO (((z8.getD (z2).toNat zerO))) (((l.getD (z9).toNat zerO)))))])) ((w64 (z9 + 1))) ∧
  ((decide (0 ≤ opMu l ((w64 (z9 + 1))))) = true ∧
  (decide (opMu l ((w64 (z9 + 1))) < opMu l z9)) = true))))))))))))))))))) ∧
 ((decide (z9 < (l.length : Int))) = false →
 (tcInv l z8 ((w64 (z2 + 1))) ∧
 ((decide (0 ≤ coMu ((w64 (z2 + 1))))) = true ∧
 (decide (coMu ((w64 (z2 + 1))) < coMu z2)) = true)))))))))) ∧
((decide (z2 < (z1.length : Int))) = false →
(z1, (true, ())) = (rcL l, (rcB l, ()))))))))))
theorem r_tclosure (x : HL C_tclosure.args) : runs (env0 [(22, C_opOne), (21, C_opMul.hid)] [(15, 3, { fix := [(.tmp 0, .list .op)], vars := [(.tmp 4, .list .op), (.tmp 5, .int .i64)], inv := fun y v => tcInv y.1 v.1 v.2.1, mu := fun y v => coMu v.2.1 }), (15, 6, { fix := [(.tmp 0, .list .op), (.tmp 5, .int .i64)], vars := [(.tmp 4, .list .op), (.tmp 6, .int .i64)], inv := fun y v => tcIn y.1 y.2.1 v.1 v.2.1, mu := fun y v => opMu y.1 v.2.1 }), (15, 13, { fix := [(.tmp 4, .list .op), (.cell 7, .agg .op)], vars := [(.tmp 9, .bool), (.tmp 10, .int .i64)], inv := fun y v => hgP y.1 y.2.1 v.1 v.2.1, mu := fun y v => opMu y.1 v.2.1 })] []) 400 15 C_tclosure x = T_tclosure x.1 := by kernel_rfl
theorem p_tclosure (l : List Op3) (h0 : (Sh.list .op).okA l) (hp : frmL l) : T_tclosure l := by
  unfold T_tclosure
  simp only [eqOc']
  have hb : l.length * 96 ≤ room := h0.2
  refine ⟨trivial, rc_init hp.1, fun a i _ _ hI hfit => ⟨fun hi => ⟨rci_init hI (of_decide_eq_true hi), fun b j _ _ hJ hfit2 => ⟨fun hj => ?_, fun hj => rci_end hJ (of_decide_eq_false hj)⟩⟩, fun hi => tc_end hI (of_decide_eq_false hi)⟩⟩
  have hj := of_decide_eq_true hj
  obtain ⟨f1, f2⟩ := rci_frm hJ hj
  have hlen := hJ.2.2.1.len
  have hfr := hJ.2.2.1.frm
  have hmE : mulE (b.getD i.toNat zerO) (l.getD j.toNat zerO) = errM (mulO (b.getD i.toNat zerO) (l.getD j.toNat zerO)).R := by
    unfold mulE
    rw [if_pos (errL_zero.2 fun o ho => by
      rcases List.mem_cons.1 ho with rfl | ho
      · exact errO_ok.2 f1
      · rw [List.mem_singleton.1 ho]; exact errO_ok.2 f2)]
    rfl
  have hJ' : tcIn l i b j := hJ
  have hJ1 := hJ.1
  have hJ2 := hJ.2.1.1
  have hit := fun hm => rci_hit hb hJ hj hm
  have add := fun hm h3 h4 => rci_add hb hJ hj hm h3 h4
  have bad := fun hm hc => tci_none hJ' hj hm hc
  rw [hmE]
  generalize mulO (b.getD i.toNat zerO) (l.getD j.toNat zerO) = q at *
  refine ⟨⟨hJ1.1, hJ1.2⟩, ⟨hJ2, hj⟩, trivial, fun h => ?_, fun h => ?_⟩
  · have h : errM q.R ≠ 0 := ndt h
    exact bad (fun hm => h (errM_ok.2 (okM_of (hfr _ hm)))) fun e => h (errM_ok.2 e.1)
  · have h : errM q.R = 0 := ndf h
    have hsel : selO (errM q.R) q = q := by unfold selO; rw [if_pos h]
    rw [hsel]
    refine ⟨hg_init _ _, fun c k _ _ hK => ⟨fun hk => ?_, fun hk => ⟨fun hc => ?_, fun hc => ⟨fun h3 => ?_, fun h3 => ⟨?_, ?_⟩⟩⟩⟩⟩
    · have hk := of_decide_eq_true hk
      have k0 := hK.1
      have f1 : w64 (k + 1) = k + 1 := w64_id (by omega) (by omega)
      obtain ⟨n1, n2⟩ := hg_next hK hk
      have m1 : decide (0 ≤ opMu b (k + 1)) = true := decide_eq_true (by unfold opMu; omega)
      have m2 : decide (opMu b (k + 1) < opMu b k) = true := decide_eq_true (by unfold opMu; omega)
      rw [f1]
      exact ⟨⟨k0, hk⟩, fun e => ⟨n1 (of_decide_eq_true e), m1, m2⟩, fun e => ⟨n2 (of_decide_eq_false e), m1, m2⟩⟩
    · have hm : q ∈ b := of_decide_eq_true ((hg_end hK (of_decide_eq_false hk)).symm.trans hc)
      exact hit hm
    · have hm : q ∉ b := of_decide_eq_false ((hg_end hK (of_decide_eq_false hk)).symm.trans hc)
      have h3 := of_decide_eq_true h3
      exact bad hm fun e => e.2 (by omega)
    · show (b ++ [_]).length * 96 ≤ 140737488355328
      rw [List.length_append, List.length_singleton]; omega
    · have hm : q ∉ b := of_decide_eq_false ((hg_end hK (of_decide_eq_false hk)).symm.trans hc)
      have := add hm (errM_ok.1 h) (of_decide_eq_false h3)
      rw [← insO_snoc] at this
      exact this
theorem s_tclosure : Sound Try.prog 15 C_tclosure :=
  sound_of_eq (env0_ok (.cons s_opOne (.cons s_opMul.hid (.nil)))) (fun x => T_tclosure x.1) r_tclosure fun x ok hp => p_tclosure x.1 ok.1 hp
noncomputable def C_tsame : Contract := { args := [.list .op, .list .op], res := [.bool], pre := fun _ => True, F := fun x => ((smO x.1 x.2.1 : Bool), ()) }
def T_tsame (a : List Op3) (b : List Op3) : Prop :=
  (((!(decide ((a.length : Int) = (b.length : Int)))) = true →
 (false, ()) = (smO a b, ())) ∧
((!(decide ((a.length : Int) = (b.length : Int)))) = false →
(smInv a b 0 ∧
∀ z3 : Int,
((decide ((-9223372036854775808) ≤ z3)) = true →
((decide (z3 ≤ 9223372036854775807)) = true →
(smInv a b z3 →
(((decide (z3 < (a.length : Int))) = true →
 (inB a z3 ∧
 (inB b z3 ∧
 (((!((decide ((((a.getD (z3).toNat zerO)).R).xx = (((b.getD (z3).toNat zerO)).R).xx)) && ((decide ((((a.getD (z3).toNat zerO)).R).xy = (((b.getD (z3).toNat zerO)).R).xy)) && ((decide ((((a.getD (z3).toNat zerO)).R).xz = (((b.getD (z3).toNat zerO)).R).xz)) && ((decide ((((a.getD (z3).toNat zerO)).R).yx = (((b.getD (z3).toNat zerO)).R).yx)) && ((decide ((((a.getD (z3).toNat zerO)).R).yy = (((b.getD (z3).toNat zerO)).R).yy)) && ((decide ((((a.getD (z3).toNat zerO)).R).yz = (((b.getD (z3).toNat zerO)).R).yz)) && ((decide ((((a.getD (z3).toNat zerO)).R).zx = (((b.getD (z3).toNat zerO)).R).zx)) && ((decide ((((a.getD (z3).toNat zerO)).R).zy = (((b.getD (z3).toNat zerO)).R).zy)) && ((decide ((((a.getD (z3).toNat zerO)).R).zz = (((b.getD (z3).toNat zerO)).R).zz)) && ((decide ((((a.getD (z3).toNat zerO)).T).x = (((b.getD (z3).toNat zerO)).T).x)) && ((decide ((((a.getD (z3).toNat zerO)).T).y = (((b.getD (z3).toNat zerO)).T).y)) && ((decide ((((a.getD (z3).toNat zerO)).T).z = (((b.getD (z3).toNat zerO)).T).z)) && true))))))))))))) = true →
  (false, ()) = (smO a b, ())) ∧
 ((!((decide ((((a.getD (z3).toNat zerO)).R).xx = (((b.getD (z3).toNat zerO)).R).xx)) && ((decide ((((a.getD (z3).toNat zerO)).R).xy = (((b.getD (z3).toNat zerO)).R).xy)) && ((decide ((((a.getD (z3).toNat zerO)).R).xz = (((b.getD (z3).toNat zerO)).R).xz)) && ((decide ((((a.getD (z3).toNat zerO)).R).yx = (((b.getD (z3).toNat zerO)).R).yx)) && ((decide ((((a.getD (z3).toNat zerO)).R).yy = (((b.getD (z3).toNat zerO)).R).yy)) && ((decide ((((a.getD (z3).toNat zerO)).R).yz = (((b.getD (z3).toNat zerO)).R).yz)) && ((decide ((((a.getD (z3).toNat zerO)).R).zx = (((b.getD (z3).toNat zerO)).R).zx)) && ((decide ((((a.getD (z3).toNat zerO)).R).zy = (((b.getD (z3).toNat zerO)).R).zy)) && ((decide ((((a.getD (z3).toNat zerO)).R).zz = (((b.getD (z3).toNat zerO)).R).zz)) && ((decide ((((a.getD (z3).toNat zerO)).T).x = (((b.getD (z3).toNat zerO)).T).x)) && ((decide ((((a.getD (z3).toNat zerO)).T).y = (((b.getD (z3).toNat zerO)).T).y)) && ((decide ((((a.getD (z3).toNat zerO)).T).z = (((b.getD (z3).toNat zerO)).T).z)) && true))))))))))))) = false →
 (smInv a b ((w64 (z3 + 1))) ∧
 ((decide (0 ≤ opMu a ((w64 (z3 + 1))))) = true ∧
 (decide (opMu a ((w64 (z3 + 1))) < opMu a z3)) = true))))))) ∧
((decide (z3 < (a.length : Int))) = false →
(true, ()) = (smO a b, ())))))))))
theorem r_tsame (x : HL C_tsame.args) : runs (env0 [] [(25, 4, { fix := [(.tmp 0, .list .op), (.tmp 1, .list .op)], vars := [(.tmp 5, .int .i64)], inv := fun y v => smInv y.1 y.2.1 v.1, mu := fun y v => opMu y.1 v.1 })] []) 400 25 C_tsame x = T_tsame x.1 x.2.1 := by kernel_rfl
theorem p_tsame (a : List Op3) (b : List Op3) (h0 : (Sh.list .op).okA a) (h1 : (Sh.list .op).okA b) : T_tsame a b := by
  have hb : a.length * 96 ≤ room := h0.2
  unfold T_tsame smO
  refine ⟨fun h => ?_, fun h => ?_⟩
  · have : a ≠ b := fun e => by rw [e] at h; simp at h
    rw [decide_eq_false this]
  have hl : a.length = b.length := by have : (a.length : Int) = b.length := by simpa using h
                                      omega
  refine ⟨⟨hl, by omega, by omega, fun k hk => by simp at hk⟩, fun i _ _ hI => ⟨fun hi => ?_, fun hi => ?_⟩⟩
  · have hi := of_decide_eq_true hi
    obtain ⟨e1, e2, e3⟩ := opMu_next hb hI.2.1 hi
    rw [eqOc']
    refine ⟨⟨hI.2.1, hi⟩, ⟨hI.2.1, by omega⟩, fun h1 => ?_, fun h1 => ⟨?_, e2, e3⟩⟩
    · rw [decide_eq_false (sm_ne (by simpa using h1))]
    · rw [e1]; exact sm_next hI hi (by simpa using h1)
  · rw [decide_eq_true (sm_end hI (of_decide_eq_false hi))]
theorem s_tsame : Sound Try.prog 25 C_tsame :=
  sound_of_eq (env0_ok (.nil)) (fun x => T_tsame x.1 x.2.1) r_tsame fun x ok hp => p_tsame x.1 x.2.1 ok.1 ok.2.1
end Go.Fx
