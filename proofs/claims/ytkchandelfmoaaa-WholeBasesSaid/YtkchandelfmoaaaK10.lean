/-
  Contracts: WholeBases.
-/
import Derived.Test.YtkchandelfmoaaaK9
namespace Go.Fx
open Go Go.Proofs
set_option maxRecDepth 100000
set_option linter.unusedVariables false
set_option linter.unusedSimpArgs false
set_option linter.unusedSectionVars false
noncomputable def C_WholeBases : Contract := { args := [.list .seed, .agg .seed, .agg .seed, .agg .v16, .agg .v8], res := [.bool], pre := fun _ => True, F := fun x => ((true : Bool), ()) }
def T_WholeBases (l : List Sd) (a : Sd) (b : Sd) (x : V3) (h : V3) : Prop :=
  (True ∧
(True ∧
(True ∧
∀ z5 : Op3,
(z5 = sedO (Sd.mk false b.K b.t0 b.t1 b.t2 b.Step) →
(True ∧
∀ z7 : Chg,
(z7 = selC (behE ((Chg.mk (sgnM a.K) ((sedO (Sd.mk false a.K a.t0 a.t1 a.t2 a.Step)).T))) ((Chg.mk (M3.mk 1 1 0 0 1 0 0 0 1) z5.T))) (behC ((Chg.mk (sgnM a.K) ((sedO (Sd.mk false a.K a.t0 a.t1 a.t2 a.Step)).T))) ((Chg.mk (M3.mk 1 1 0 0 1 0 0 0 1) z5.T))) →
∀ z9 : Int,
(z9 = behE ((Chg.mk (sgnM a.K) ((sedO (Sd.mk false a.K a.t0 a.t1 a.t2 a.Step)).T))) ((Chg.mk (M3.mk 1 1 0 0 1 0 0 0 1) z5.T)) →
(True ∧
∀ z11 : Chg,
(z11 = selC (bakE z7) (bakC z7) →
∀ z13 : Int,
(z13 = bakE z7 →
(True ∧
∀ z15 : Pt,
(z15 = plaP 192 x →
∀ z17 : Int,
(z17 = plaE 192 →
(True ∧
∀ z19 : Pt,
(z19 = pntP ((Chg.mk (M3.mk 1 1 0 0 1 0 0 0 1) z5.T)) z15 →
∀ z21 : Int,
(z21 = pntE ((Chg.mk (M3.mk 1 1 0 0 1 0 0 0 1) z5.T)) z15 →
(True ∧
∀ z23 : Pt,
(z23 = pntP ((Chg.mk (sgnM a.K) ((sedO (Sd.mk false a.K a.t0 a.t1 a.t2 a.Step)).T))) z19 →
∀ z25 : Int,
(z25 = pntE ((Chg.mk (sgnM a.K) ((sedO (Sd.mk false a.K a.t0 a.t1 a.t2 a.Step)).T))) z19 →
(True ∧
∀ z27 : Pt,
(z27 = pntP z7 z15 →
∀ z29 : Int,
(z29 = pntE z7 z15 →
(True ∧
∀ z31 : Pt,
(z31 = pntP z11 z27 →
∀ z33 : Int,
(z33 = pntE z11 z27 →
(((!(decide (z9 = 0))) = true →
 (false, ()) = (true, ())) ∧
((!(decide (z9 = 0))) = false →
(((!(decide (z13 = 0))) = true →
 (false, ()) = (true, ())) ∧
((!(decide (z13 = 0))) = false →
(((!(decide (z17 = 0))) = true →
 (false, ()) = (true, ())) ∧
((!(decide (z17 = 0))) = false →
(((!(decide (z21 = 0))) = true →
 (false, ()) = (true, ())) ∧
((!(decide (z21 = 0))) = false →
(((!(decide (z25 = 0))) = true →
 (false, ()) = (true, ())) ∧
((!(decide (z25 = 0))) = false →
(((!(decide (z29 = 0))) = true →
 (false, ()) = (true, ())) ∧
((!(decide (z29 = 0))) = false →
(((!(decide (z33 = 0))) = true →
 (false, ()) = (true, ())) ∧
((!(decide (z33 = 0))) = false →
(((!((decide (z23.M = z27.M)) && ((decide (z23.X.x = z27.X.x)) && ((decide (z23.X.y = z27.X.y)) && ((decide (z23.X.z = z27.X.z)) && true))))) = true →
 (false, ()) = (true, ())) ∧
((!((decide (z23.M = z27.M)) && ((decide (z23.X.x = z27.X.x)) && ((decide (z23.X.y = z27.X.y)) && ((decide (z23.X.z = z27.X.z)) && true))))) = false →
(((!((decide (z31.M = z15.M)) && ((decide (z31.X.x = z15.X.x)) && ((decide (z31.X.y = z15.X.y)) && ((decide (z31.X.z = z15.X.z)) && true))))) = true →
 (false, ()) = (true, ())) ∧
((!((decide (z31.M = z15.M)) && ((decide (z31.X.x = z15.X.x)) && ((decide (z31.X.y = z15.X.y)) && ((decide (z31.X.z = z15.X.z)) && true))))) = false →
((((decide (z7.P.xx = 0)) && ((decide (z7.P.xy = 0)) && ((decide (z7.P.xz = 0)) && ((decide (z7.P.yx = 0)) && ((decide (z7.P.yy = 0)) && ((decide (z7.P.yz = 0)) && ((decide (z7.P.zx = 0)) && ((decide (z7.P.zy = 0)) && ((decide (z7.P.zz = 0)) && true))))))))) = true →
 (false, ()) = (true, ())) ∧
(((decide (z7.P.xx = 0)) && ((decide (z7.P.xy = 0)) && ((decide (z7.P.xz = 0)) && ((decide (z7.P.yx = 0)) && ((decide (z7.P.yy = 0)) && ((decide (z7.P.yz = 0)) && ((decide (z7.P.zx = 0)) && ((decide (z7.P.zy = 0)) && ((decide (z7.P.zz = 0)) && true))))))))) = false →
(True ∧
∀ z45 : V3,
(z45 = smlV h →
(True ∧
∀ z47 : V3,
(z47 = idxV z7 z45 →
∀ z49 : Int,
(z49 = idxE z7 z45 →
(True ∧
∀ z51 : Pt,
(z51 = plaP 192 (V3.mk 0 0 0) →
∀ z53 : Int,
(z53 = plaE 192 →
(True ∧
∀ z55 : Pt,
(z55 = pntP z7 z51 →
∀ z57 : Int,
(z57 = pntE z7 z51 →
(True ∧
∀ z59 : Pt,
(z59 = minP z27 z55 →
∀ z61 : Int,
(z61 = minE z27 z55 →
(((!(decide (z49 = 0))) = true →
 (false, ()) = (true, ())) ∧
((!(decide (z49 = 0))) = false →
(((!(decide (z57 = 0))) = true →
 (false, ()) = (true, ())) ∧
((!(decide (z57 = 0))) = false →
(((!(decide (z61 = 0))) = true →
 (false, ()) = (true, ())) ∧
((!(decide (z61 = 0))) = false →
(True ∧
(True ∧
(amP 192 ∧
(((!(decide (amo ((w64 ((w64 (dotV z47 z59.X) - w64 (dotV z45 z15.X))))) 192 = 0))) = true →
 (false, ()) = (true, ())) ∧
((!(decide (amo ((w64 ((w64 (dotV z47 z59.X) - w64 (dotV z45 z15.X))))) 192 = 0))) = false →
(True ∧
∀ z67 : List Op3,
(z67 = sedL l →
(True ∧
∀ z69 : List Op3,
(z69 = cloL z67 →
∀ z71 : Int,
(z71 = cloE z67 →
(((!(decide (z71 = 0))) = true →
 (true, ()) = (true, ())) ∧
((!(decide (z71 = 0))) = false →
(nonE z69 ∧
(True ∧
∀ z74 : List Op3,
(z74 = bgL z7 z69 →
∀ z76 : Int,
(z76 = bgE z7 z69 →
(True ∧
∀ z78 : List Op3,
(z78 = bgL z11 z74 →
∀ z80 : Int,
(z80 = bgE z11 z74 →
(((!(decide (z76 = 0))) = true →
 (false, ()) = (true, ())) ∧
((!(decide (z76 = 0))) = false →
(((!(decide (z80 = 0))) = true →
 (false, ()) = (true, ())) ∧
((!(decide (z80 = 0))) = false →
(((!(decide ((z74.length : Int) = (z69.length : Int)))) = true →
 (false, ()) = (true, ())) ∧
((!(decide ((z74.length : Int) = (z69.length : Int)))) = false →
(True ∧
∀ z85 : Int,
(z85 = chkE z74 →
(((!(decide (z85 = 0))) = true →
 (false, ()) = (true, ())) ∧
((!(decide (z85 = 0))) = false →
(True ∧
∀ z88 : Bool,
(z88 = smO z78 z69 →
(((!z88) = true →
 (false, ()) = (true, ())) ∧
((!z88) = false →
(bwI z69 0 ∧
∀ z91 : Int,
((decide ((-9223372036854775808) ≤ z91)) = true →
((decide (z91 ≤ 9223372036854775807)) = true →
(bwI z69 z91 →
(((decide (z91 < (z69.length : Int))) = true →
 (inB z69 z91 ∧
 (True ∧
 (inB z69 z91 ∧
 (True ∧
 (True ∧
 ∀ z96 : Pt,
 (z96 = pntP z7 ((appP (((z69.getD (z91).toNat zerO))) z15)) →
 ∀ z98 : Int,
 (z98 = pntE z7 ((appP (((z69.getD (z91).toNat zerO))) z15)) →
 (True ∧
 ∀ z100 : Pt,
 (z100 = appP ((bopO z7 (((z69.getD (z91).toNat zerO))))) z27 →
 ∀ z102 : Int,
 (z102 = appE ((bopO z7 (((z69.getD (z91).toNat zerO))))) z27 →
 (((!(decide (bopE z7 (((z69.getD (z91).toNat zerO))) = 0))) = true →
  (false, ()) = (true, ())) ∧
 ((!(decide (bopE z7 (((z69.getD (z91).toNat zerO))) = 0))) = false →
 (((!(decide (appE (((z69.getD (z91).toNat zerO))) z15 = 0))) = true →
  (false, ()) = (true, ())) ∧
 ((!(decide (appE (((z69.getD (z91).toNat zerO))) z15 = 0))) = false →
 (((!(decide (z98 = 0))) = true →
  (false, ()) = (true, ())) ∧
 ((!(decide (z98 = 0))) = false →
 (((!(decide (z102 = 0))) = true →
  (false, ()) = (true, ())) ∧
 ((!(decide (z102 = 0))) = false →
 (((!((decide (z96.M = z100.M)) && ((decide (z96.X.x = z100.X.x)) && ((decide (z96.X.y = z100.X.y)) && ((decide (z96.X.z = z100.X.z)) && true))))) = true →
  (false, ()) = (true, ())) ∧
 ((!((decide (z96.M = z100.M)) && ((decide (z96.X.x = z100.X.x)) && ((decide (z96.X.y = z100.X.y)) && ((decide (z96.X.z = z100.X.z)) && true))))) = false →
 (bwI z69 ((w64 (z91 + 1))) ∧
 ((decide (0 ≤ opMu z69 ((w64 (z91 + 1))))) = true ∧
 (decide (opMu z69 ((w64 (z91 + 1))) < opMu z69 z91)) = true))))))))))))))))))))))) ∧
((decide (z91 < (z69.length : Int))) = false →
(true, ()) = (true, ())))))))))))))))))))))))))))))))))))))))))))))))))))))))))))))))))))))))))))))))))))))))))))))))))))))))))
theorem r_WholeBases (x : HL C_WholeBases.args) : runs (env0 [(27, C_signs.hid), (28, C_seeded.hid), (16, C_bBehind.hid), (18, C_bBack.hid), (29, C_fPlace.hid), (15, C_bPoint.hid), (30, C_tsmall.hid), (14, C_bIndex.hid), (31, C_fMinus.hid), (33, C_tdot.hid), (32, C_tamong.hid), (74, C_seeds.hid), (73, C_gClose.hid), (35, C_bGroup.hid), (36, C_gCheck.hid), (37, C_tsame.hid), (22, C_bOp.hid), (25, C_opApply.hid)] [(9, 29, { fix := [(.tmp 36, .list .op)], vars := [(.tmp 41, .int .i64)], inv := fun y v => bwI y.1 v.1, mu := fun y v => opMu y.1 v.1 })] []) 1500 9 C_WholeBases x = T_WholeBases x.1 x.2.1 x.2.2.1 x.2.2.2.1 x.2.2.2.2.1 := by kernel_rfl
theorem p_WholeBases (l : List Sd) (a : Sd) (b : Sd) (x : V3) (h : V3) (h0 : (Sh.list .seed).okA l) (h1 : (Sh.agg .seed).okA a) (h2 : (Sh.agg .seed).okA b) (h3 : (Sh.agg .v16).okA x) (h4 : (Sh.agg .v8).okA h) : T_WholeBases l a b x h := by
  unfold T_WholeBases
  refine ⟨trivial, trivial, trivial, fun z5 h5 => ⟨trivial, fun z7 h7 z9 h9 => ⟨trivial, fun z11 h11 z13 h13 => ⟨trivial, fun z15 h15 z17 h17 => ⟨trivial, fun z19 h19 z21 h21 => ⟨trivial, fun z23 h23 z25 h25 => ⟨trivial, fun z27 h27 z29 h29 => ⟨trivial, fun z31 h31 z33 h33 => ?_⟩⟩⟩⟩⟩⟩⟩⟩
  subst h5
  have E9 : z9 = 0 := h9.trans (wb_beh a b)
  have E7 : z7 = wbW a b := h7.trans (if_pos (wb_beh a b))
  subst E7
  have E13 : z13 = 0 := h13.trans (wb_bak a b)
  have E11 : z11 = bakC (wbW a b) := h11.trans (if_pos (wb_bak a b))
  obtain ⟨F15, M15, P0⟩ := pla_frm x
  rw [← h15] at F15 M15
  have E17 : z17 = 0 := h17.trans P0
  obtain ⟨hU, hV, _, _⟩ := beh_ok (wb_beh a b)
  have E21 : z21 = 0 := h21.trans (pntE_of hV F15)
  have E19 : z19 = pntP (wbV b) z15 := h19
  obtain ⟨b1, b2, b3⟩ := (beh_pnt (p := z15) (wb_beh a b)).2 (pntE_of hV F15)
  have E25 : z25 = 0 := by rw [h25, E19]; exact b1
  have E29 : z29 = 0 := h29.trans b2
  have E23 : z23 = z27 := by rw [h23, E19, h27]; exact b3
  obtain ⟨k1, k2⟩ := bak_pnt (wb_bak a b) b2
  have E33 : z33 = 0 := by rw [h33, E11, h27]; exact k1
  have E31 : z31 = z15 := by rw [h31, E11, h27]; exact k2
  refine ⟨fun h => absurd h (by rw [E9]; decide), fun _ => ⟨fun h => absurd h (by rw [E13]; decide), fun _ => ⟨fun h => absurd h (by rw [E17]; decide), fun _ => ⟨fun h => absurd h (by rw [E21]; decide), fun _ => ⟨fun h => absurd h (by rw [E25]; decide), fun _ => ⟨fun h => absurd h (by rw [E29]; decide), fun _ => ⟨fun h => absurd h (by rw [E33]; decide), fun _ => ⟨fun h => absurd h (by rw [E23]; simp), fun _ => ⟨fun h => absurd h (by rw [E31]; simp), fun _ => ⟨fun h => absurd h (wb_ne' a b), fun _ => ?_⟩⟩⟩⟩⟩⟩⟩⟩⟩⟩
  refine ⟨trivial, fun z45 h45 => ⟨trivial, fun z47 h47 z49 h49 => ⟨trivial, fun z51 h51 z53 h53 => ⟨trivial, fun z55 h55 z57 h57 => ⟨trivial, fun z59 h59 z61 h61 => ?_⟩⟩⟩⟩⟩
  have hu := wb_uni a b
  obtain ⟨o1, _⟩ := sml_ok h
  obtain ⟨F51, M51, _⟩ := pla_frm (V3.mk 0 0 0)
  have E49 : z49 = 0 := by rw [h49, h45]; unfold idxE; rw [if_pos o1]; exact hu
  have E57 : z57 = 0 := by rw [h57, h51]; exact pntE_of hu F51
  have mo := minus_ok hu F15 F51 (M15.trans M51.symm)
  have E61 : z61 = 0 := by rw [h61, h27, h55, h51]; exact mo.1
  have A0 : amo (w64 (w64 (dotV z47 z59.X) - w64 (dotV z45 z15.X))) 192 = 0 := by
    rw [h47, h59, h45, h27, h55, h51]; exact wb_amo a b h F15 M15
  refine ⟨fun h => absurd h (by rw [E49]; decide), fun _ => ⟨fun h => absurd h (by rw [E57]; decide), fun _ => ⟨fun h => absurd h (by rw [E61]; decide), fun _ => ⟨trivial, trivial, (by exact ⟨by decide, by decide⟩), ⟨fun h => absurd h (by rw [A0]; decide), fun _ => ⟨trivial, fun z67 h67 => ⟨trivial, fun z69 h69 z71 h71 => ⟨fun _ => rfl, fun hC => ?_⟩⟩⟩⟩⟩⟩⟩⟩
  subst h67
  have C : cloE (sedL l) = 0 := by rw [← h71]; simpa using hC
  have hg := clo_chk C
  obtain ⟨t1, t2, t3, t4⟩ := told_back (wb_bak a b) (wb_grp a b C)
  rw [← h69] at hg t1 t2 t3 t4
  refine ⟨(fun e => by have := (chk_grp hg).2.2.1; rw [e] at this; cases this), trivial, fun z74 h74 z76 h76 => ⟨trivial, fun z78 h78 z80 h80 => ?_⟩⟩
  have E76 : z76 = 0 := by rw [h76, h69]; exact wb_grp a b C
  have E80 : z80 = 0 := by rw [h80, E11, h74]; exact t2
  have EL : (z74.length : Int) = (z69.length : Int) := by rw [h74, t4]
  refine ⟨fun h => absurd h (by rw [E76]; decide), fun _ => ⟨fun h => absurd h (by rw [E80]; decide), fun _ => ⟨fun h => absurd h (by rw [EL]; simp), fun _ => ⟨trivial, fun z85 h85 => ⟨fun h => absurd h (by rw [h85, h74, t1]; decide), fun _ => ⟨trivial, fun z88 h88 => ⟨fun h => absurd h (by rw [h88, h78, E11, h74, t3]; simp [smO]), fun _ => ⟨⟨Int.le_refl _, by omega⟩, fun i _ _ hI => ⟨fun hi => ?_, fun _ => rfl⟩⟩⟩⟩⟩⟩⟩⟩⟩
  have hi := of_decide_eq_true hi
  have i0 := hI.1
  have hlen : z69.length ≤ 192 := chk_len hg
  have hm : z69.getD i.toNat zerO ∈ z69 := by
    have hl : i.toNat < z69.length := by omega
    have : z69.getD i.toNat zerO = z69[i.toNat] := by simp [List.getD, hl]
    rw [this]; exact List.getElem_mem hl
  have hm' := hm
  rw [h69] at hm'
  obtain ⟨g1, g2, g3, g4, g5⟩ := wb_goes a b C hm' F15
  rw [← h69] at g1 g2 g3 g4 g5
  refine ⟨⟨i0, hi⟩, trivial, ⟨i0, hi⟩, trivial, trivial, fun z96 h96 z98 h98 => ⟨trivial, fun z100 h100 z102 h102 => ?_⟩⟩
  have E98 : z98 = 0 := h98.trans g3
  have E102 : z102 = 0 := by rw [h102, h27]; exact g4
  have E96 : z96 = z100 := by rw [h96, h100, h27]; exact g5.symm
  refine ⟨fun h => absurd h (by rw [g1]; decide), fun _ => ⟨fun h => absurd h (by rw [g2]; decide), fun _ => ⟨fun h => absurd h (by rw [E98]; decide), fun _ => ⟨fun h => absurd h (by rw [E102]; decide), fun _ => ⟨fun h => absurd h (by rw [E96]; simp), fun _ => bw_next hI hi (by unfold room; omega)⟩⟩⟩⟩⟩
theorem s_WholeBases : Sound Try.prog 9 C_WholeBases :=
  sound_of_eq (env0_ok (.cons s_signs.hid (.cons s_seeded.hid (.cons s_bBehind.hid (.cons s_bBack.hid (.cons s_fPlace.hid (.cons s_bPoint.hid (.cons s_tsmall.hid (.cons s_bIndex.hid (.cons s_fMinus.hid (.cons s_tdot.hid (.cons s_tamong.hid (.cons s_seeds.hid (.cons s_gClose.hid (.cons s_bGroup.hid (.cons s_gCheck.hid (.cons s_tsame.hid (.cons s_bOp.hid (.cons s_opApply.hid (.nil)))))))))))))))))))) (fun x => T_WholeBases x.1 x.2.1 x.2.2.1 x.2.2.2.1 x.2.2.2.2.1) r_WholeBases fun x ok hp => p_WholeBases x.1 x.2.1 x.2.2.1 x.2.2.2.1 x.2.2.2.2.1 ok.1 ok.2.1 ok.2.2.1 ok.2.2.2.1 ok.2.2.2.2.1
end Go.Fx
