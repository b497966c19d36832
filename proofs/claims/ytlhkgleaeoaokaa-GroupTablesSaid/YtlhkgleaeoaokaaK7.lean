/-
  Contracts: gmaps, gIndexO, gIndexI.
-/
import Derived.Test.YtlhkgleaeoaokaaK6
namespace Go.Fx
open Go Go.Proofs
set_option maxRecDepth 100000
set_option linter.unusedVariables false
set_option linter.unusedSimpArgs false
set_option linter.unusedSectionVars false
noncomputable def C_gmaps : Contract := { args := [.list .op], res := [.int .i64], pre := fun _ => True, F := fun x => ((gE x.1 : Int), ()) }
def T_gmaps (l : List Op3) : Prop :=
  (((decide (192 < (l.length : Int))) = true →
 (2, ()) = (gE l, ())) ∧
((decide (192 < (l.length : Int))) = false →
(chInv l 0 0 ∧
∀ z2 : Int,
((decide ((-9223372036854775808) ≤ z2)) = true →
((decide (z2 ≤ 9223372036854775807)) = true →
∀ z5 : Int,
((decide ((-9223372036854775808) ≤ z5)) = true →
((decide (z5 ≤ 9223372036854775807)) = true →
(chInv l z2 z5 →
(((decide (z2 < (l.length : Int))) = true →
 (inB l z2 ∧
 (True ∧
 (True ∧
 (((decide (mulE oneO (((l.getD (z2).toNat zerO))) = 3)) = true →
  (mulE oneO (((l.getD (z2).toNat zerO))), ()) = (gE l, ())) ∧
 ((decide (mulE oneO (((l.getD (z2).toNat zerO))) = 3)) = false →
 (((decide (mulE oneO (((l.getD (z2).toNat zerO))) = 4)) = true →
  (chInv l ((w64 (z2 + 1))) (mulE oneO (((l.getD (z2).toNat zerO)))) ∧
  ((decide (0 ≤ opMu l ((w64 (z2 + 1))))) = true ∧
  (decide (opMu l ((w64 (z2 + 1))) < opMu l z2)) = true))) ∧
 ((decide (mulE oneO (((l.getD (z2).toNat zerO))) = 4)) = false →
 (chInv l ((w64 (z2 + 1))) z5 ∧
 ((decide (0 ≤ opMu l ((w64 (z2 + 1))))) = true ∧
 (decide (opMu l ((w64 (z2 + 1))) < opMu l z2)) = true)))))))))) ∧
((decide (z2 < (l.length : Int))) = false →
(z5, ()) = (gE l, ())))))))))))
theorem r_gmaps (x : HL C_gmaps.args) : runs (env0 [(22, C_opOne), (17, C_opMul.hid)] [(24, 5, { fix := [(.tmp 11, .list .op)], vars := [(.tmp 13, .int .i64), (.tmp 3, .int .i64)], inv := fun y v => chInv y.1 v.1 v.2.1, mu := fun y v => opMu y.1 v.1 })] []) 400 24 C_gmaps x = T_gmaps x.1 := by kernel_rfl
theorem p_gmaps (l : List Op3) (h0 : (Sh.list .op).okA l) : T_gmaps l := by
  have hb : l.length * 96 ≤ 140737488355328 := Nat.le_trans h0.2 (by decide)
  refine ⟨fun h => ?_, fun h => ⟨⟨by omega, by omega, by simp, rfl⟩, fun i _ _ w _ _ hI => ⟨fun hi => ?_, fun hi => ?_⟩⟩⟩
  · unfold gE; rw [if_pos (of_decide_eq_true h)]
  · have hg : gE l = errL l := by unfold gE; rw [if_neg (of_decide_eq_false h)]
    have hi := of_decide_eq_true hi
    have i0 := hI.1
    rw [hg, mulE_one]
    refine ⟨⟨i0, hi⟩, trivial, trivial, fun h3 => ?_, fun h3 => ⟨fun h4 => ?_, fun h4 => ?_⟩⟩
    · rw [of_decide_eq_true h3]; exact ch_bad i0 hi (of_decide_eq_true h3)
    · exact ch_next hb hI hi (of_decide_eq_false h3) (by rw [if_pos (of_decide_eq_true h4)]; exact of_decide_eq_true h4)
    · exact ch_next hb hI hi (of_decide_eq_false h3) (by rw [if_neg (of_decide_eq_false h4)])
  · have hg : gE l = errL l := by unfold gE; rw [if_neg (of_decide_eq_false h)]
    rw [hg]
    exact ch_end hI (of_decide_eq_false hi)
theorem s_gmaps : Sound Try.prog 24 C_gmaps :=
  sound_of_eq (env0_ok (.cons s_opOne (.cons s_opMul.hid (.nil)))) (fun x => T_gmaps x.1) r_gmaps fun x ok hp => p_gmaps x.1 ok.1
noncomputable def C_gIndexO : Contract := { args := [.list .op, .agg .op], res := [.int .i64], pre := fun _ => True, F := fun x => ((idxO x.1 x.2.1 : Int), ()) }
def T_gIndexO (g : List Op3) (o : Op3) : Prop :=
  (idInv g o 0 ∧
∀ z2 : Int,
((decide ((-9223372036854775808) ≤ z2)) = true →
((decide (z2 ≤ 9223372036854775807)) = true →
(idInv g o z2 →
(((decide (z2 < (g.length : Int))) = true →
 (inB g z2 ∧
 ((((decide (o.R.xx = (((g.getD (z2).toNat zerO)).R).xx)) && ((decide (o.R.xy = (((g.getD (z2).toNat zerO)).R).xy)) && ((decide (o.R.xz = (((g.getD (z2).toNat zerO)).R).xz)) && ((decide (o.R.yx = (((g.getD (z2).toNat zerO)).R).yx)) && ((decide (o.R.yy = (((g.getD (z2).toNat zerO)).R).yy)) && ((decide (o.R.yz = (((g.getD (z2).toNat zerO)).R).yz)) && ((decide (o.R.zx = (((g.getD (z2).toNat zerO)).R).zx)) && ((decide (o.R.zy = (((g.getD (z2).toNat zerO)).R).zy)) && ((decide (o.R.zz = (((g.getD (z2).toNat zerO)).R).zz)) && ((decide (o.T.x = (((g.getD (z2).toNat zerO)).T).x)) && ((decide (o.T.y = (((g.getD (z2).toNat zerO)).T).y)) && ((decide (o.T.z = (((g.getD (z2).toNat zerO)).T).z)) && true)))))))))))) = true →
  (z2, ()) = (idxO g o, ())) ∧
 (((decide (o.R.xx = (((g.getD (z2).toNat zerO)).R).xx)) && ((decide (o.R.xy = (((g.getD (z2).toNat zerO)).R).xy)) && ((decide (o.R.xz = (((g.getD (z2).toNat zerO)).R).xz)) && ((decide (o.R.yx = (((g.getD (z2).toNat zerO)).R).yx)) && ((decide (o.R.yy = (((g.getD (z2).toNat zerO)).R).yy)) && ((decide (o.R.yz = (((g.getD (z2).toNat zerO)).R).yz)) && ((decide (o.R.zx = (((g.getD (z2).toNat zerO)).R).zx)) && ((decide (o.R.zy = (((g.getD (z2).toNat zerO)).R).zy)) && ((decide (o.R.zz = (((g.getD (z2).toNat zerO)).R).zz)) && ((decide (o.T.x = (((g.getD (z2).toNat zerO)).T).x)) && ((decide (o.T.y = (((g.getD (z2).toNat zerO)).T).y)) && ((decide (o.T.z = (((g.getD (z2).toNat zerO)).T).z)) && true)))))))))))) = false →
 (idInv g o ((w64 (z2 + 1))) ∧
 ((decide (0 ≤ opMu g ((w64 (z2 + 1))))) = true ∧
 (decide (opMu g ((w64 (z2 + 1))) < opMu g z2)) = true)))))) ∧
((decide (z2 < (g.length : Int))) = false →
((-1), ()) = (idxO g o, ())))))))
theorem r_gIndexO (x : HL C_gIndexO.args) : runs (env0 [] [(21, 2, { fix := [(.tmp 6, .list .op), (.cell 3, .agg .op)], vars := [(.tmp 8, .int .i64)], inv := fun y v => idInv y.1 y.2.1 v.1, mu := fun y v => opMu y.1 v.1 })] []) 400 21 C_gIndexO x = T_gIndexO x.1 x.2.1 := by kernel_rfl
theorem p_gIndexO (g : List Op3) (o : Op3) (h0 : (Sh.list .op).okA g) (h1 : (Sh.agg .op).okA o) : T_gIndexO g o := by
  have hb : g.length * 96 ≤ room := h0.2
  refine ⟨⟨by omega, by omega, fun k hk => by simp at hk⟩, fun i _ _ hI => ⟨fun hi => ?_, fun hi => by rw [show idxO g o = -1 from id_miss hI (of_decide_eq_false hi)]⟩⟩
  have hi := of_decide_eq_true hi
  rw [eqOc']
  refine ⟨⟨hI.1, hi⟩, fun h => ?_, fun h => ?_⟩
  · rw [show idxO g o = i from id_hit hI hi _ (of_decide_eq_true h).symm]
  · have := id_next (b := 96) (by decide) hb hI hi _ (fun e => of_decide_eq_false h e.symm)
    exact ⟨this.1, decide_eq_true this.2.1, decide_eq_true this.2.2⟩
theorem s_gIndexO : Sound Try.prog 21 C_gIndexO :=
  sound_of_eq (env0_ok (.nil)) (fun x => T_gIndexO x.1 x.2.1) r_gIndexO fun x ok hp => p_gIndexO x.1 x.2.1 ok.1 ok.2.1
noncomputable def C_gIndexI : Contract := { args := [.list .int, .int .i64], res := [.int .i64], pre := fun _ => True, F := fun x => ((idxI x.1 x.2.1 : Int), ()) }
def T_gIndexI (l : List Int) (x : Int) : Prop :=
  (idIn l x 0 ∧
∀ z2 : Int,
((decide ((-9223372036854775808) ≤ z2)) = true →
((decide (z2 ≤ 9223372036854775807)) = true →
(idIn l x z2 →
(((decide (z2 < (l.length : Int))) = true →
 (inB l z2 ∧
 (((decide (x = (l.getD (z2).toNat 0))) = true →
  (z2, ()) = (idxI l x, ())) ∧
 ((decide (x = (l.getD (z2).toNat 0))) = false →
 (idIn l x ((w64 (z2 + 1))) ∧
 ((decide (0 ≤ inMu l ((w64 (z2 + 1))))) = true ∧
 (decide (inMu l ((w64 (z2 + 1))) < inMu l z2)) = true)))))) ∧
((decide (z2 < (l.length : Int))) = false →
((-1), ()) = (idxI l x, ())))))))
theorem r_gIndexI (x : HL C_gIndexI.args) : runs (env0 [] [(23, 2, { fix := [(.tmp 6, .list .int), (.tmp 1, .int .i64)], vars := [(.tmp 8, .int .i64)], inv := fun y v => idIn y.1 y.2.1 v.1, mu := fun y v => inMu y.1 v.1 })] []) 400 23 C_gIndexI x = T_gIndexI x.1 x.2.1 := by kernel_rfl
theorem p_gIndexI (l : List Int) (x : Int) (h0 : (Sh.list .int).okA l) (h1 : (Sh.int .i64).okA x) : T_gIndexI l x := by
  have hb : l.length * 8 ≤ room := h0.2
  refine ⟨⟨by omega, by omega, fun k hk => by simp at hk⟩, fun i _ _ hI => ⟨fun hi => ?_, fun hi => by rw [show idxI l x = -1 from id_miss hI (of_decide_eq_false hi)]⟩⟩
  have hi := of_decide_eq_true hi
  refine ⟨⟨hI.1, hi⟩, fun h => ?_, fun h => ?_⟩
  · rw [show idxI l x = i from id_hit hI hi _ (of_decide_eq_true h).symm]
  · have := id_next (b := 8) (by decide) hb hI hi _ (fun e => of_decide_eq_false h e.symm)
    exact ⟨this.1, decide_eq_true this.2.1, decide_eq_true this.2.2⟩
theorem s_gIndexI : Sound Try.prog 23 C_gIndexI :=
  sound_of_eq (env0_ok (.nil)) (fun x => T_gIndexI x.1 x.2.1) r_gIndexI fun x ok hp => p_gIndexI x.1 x.2.1 ok.1 ok.2.1
end Go.Fx
