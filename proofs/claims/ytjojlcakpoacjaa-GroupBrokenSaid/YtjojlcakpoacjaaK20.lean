/-
  Contracts: GroupParts, GroupKeeps.
-/
import Derived.Test.YtjojlcakpoacjaaK19
import Derived.Test.YtjojlcakpoacjaaGf
namespace Go.Fx
open Go Go.Proofs
set_option maxRecDepth 100000
set_option linter.unusedVariables false
set_option linter.unusedSimpArgs false
set_option linter.unusedSectionVars false
noncomputable def C_GroupParts : Contract := { args := [.list .op], res := [.bool], pre := fun _ => True, F := fun x => ((true : Bool), ()) }
def T_GroupParts (g : List Op3) : Prop :=
  (True ∧
∀ z1 : Bool,
(z1 = true →
(((!z1) = true →
 (false, ()) = (true, ())) ∧
((!z1) = false →
(True ∧
∀ z4 : List Op3,
(z4 = g →
(True ∧
∀ z6 : List M3,
(z6 = rotL z4 →
∀ z8 : Int,
(z8 = chkE z4 →
(True ∧
∀ z10 : List M3,
(z10 = rotL g →
∀ z12 : Int,
(z12 = chkE g →
(((!(decide (z8 = z12))) = true →
 (false, ()) = (true, ())) ∧
((!(decide (z8 = z12))) = false →
(((!(decide ((z6.length : Int) = (z10.length : Int)))) = true →
 (false, ()) = (true, ())) ∧
((!(decide ((z6.length : Int) = (z10.length : Int)))) = false →
(rgP (z6.length : Int) 0 ∧
∀ z16 : Int,
((decide ((-9223372036854775808) ≤ z16)) = true →
((decide (z16 ≤ 9223372036854775807)) = true →
(rgP (z6.length : Int) z16 →
(((decide (z16 < (z6.length : Int))) = true →
 (inB z6 z16 ∧
 (inB z10 z16 ∧
 (((!((decide (((z6.getD (z16).toNat zerO.R)).xx = ((z10.getD (z16).toNat zerO.R)).xx)) && ((decide (((z6.getD (z16).toNat zerO.R)).xy = ((z10.getD (z16).toNat zerO.R)).xy)) && ((decide (((z6.getD (z16).toNat zerO.R)).xz = ((z10.getD (z16).toNat zerO.R)).xz)) && ((decide (((z6.getD (z16).toNat zerO.R)).yx = ((z10.getD (z16).toNat zerO.R)).yx)) && ((decide (((z6.getD (z16).toNat zerO.R)).yy = ((z10.getD (z16).toNat zerO.R)).yy)) && ((decide (((z6.getD (z16).toNat zerO.R)).yz = ((z10.getD (z16).toNat zerO.R)).yz)) && ((decide (((z6.getD (z16).toNat zerO.R)).zx = ((z10.getD (z16).toNat zerO.R)).zx)) && ((decide (((z6.getD (z16).toNat zerO.R)).zy = ((z10.getD (z16).toNat zerO.R)).zy)) && ((decide (((z6.getD (z16).toNat zerO.R)).zz = ((z10.getD (z16).toNat zerO.R)).zz)) && true)))))))))) = true →
  (false, ()) = (true, ())) ∧
 ((!((decide (((z6.getD (z16).toNat zerO.R)).xx = ((z10.getD (z16).toNat zerO.R)).xx)) && ((decide (((z6.getD (z16).toNat zerO.R)).xy = ((z10.getD (z16).toNat zerO.R)).xy)) && ((decide (((z6.getD (z16).toNat zerO.R)).xz = ((z10.getD (z16).toNat zerO.R)).xz)) && ((decide (((z6.getD (z16).toNat zerO.R)).yx = ((z10.getD (z16).toNat zerO.R)).yx)) && ((decide (((z6.getD (z16).toNat zerO.R)).yy = ((z10.getD (z16).toNat zerO.R)).yy)) && ((decide (((z6.getD (z16).toNat zerO.R)).yz = ((z10.getD (z16).toNat zerO.R)).yz)) && ((decide (((z6.getD (z16).toNat zerO.R)).zx = ((z10.getD (z16).toNat zerO.R)).zx)) && ((decide (((z6.getD (z16).toNat zerO.R)).zy = ((z10.getD (z16).toNat zerO.R)).zy)) && ((decide (((z6.getD (z16).toNat zerO.R)).zz = ((z10.getD (z16).toNat zerO.R)).zz)) && true)))))))))) = false →
 (rgP (z6.length : Int) ((w64 (z16 + 1))) ∧
 ((decide (0 ≤ rgMu (z6.length : Int) ((w64 (z16 + 1))))) = true ∧
 (decide (rgMu (z6.length : Int) ((w64 (z16 + 1))) < rgMu (z6.length : Int) z16)) = true))))))) ∧
((decide (z16 < (z6.length : Int))) = false →
(True ∧
∀ z21 : List Op3,
(z21 = g →
(True ∧
∀ z23 : List V3,
(z23 = cenL z21 →
∀ z25 : Int,
(z25 = chkE z21 →
(True ∧
∀ z27 : List V3,
(z27 = cenL g →
∀ z29 : Int,
(z29 = chkE g →
(((!(decide (z25 = z29))) = true →
 (false, ()) = (true, ())) ∧
((!(decide (z25 = z29))) = false →
(((!(decide ((z23.length : Int) = (z27.length : Int)))) = true →
 (false, ()) = (true, ())) ∧
((!(decide ((z23.length : Int) = (z27.length : Int)))) = false →
(rgP (z23.length : Int) 0 ∧
∀ z33 : Int,
((decide ((-9223372036854775808) ≤ z33)) = true →
((decide (z33 ≤ 9223372036854775807)) = true →
(rgP (z23.length : Int) z33 →
(((decide (z33 < (z23.length : Int))) = true →
 (inB z23 z33 ∧
 (inB z27 z33 ∧
 (((!((decide (((z23.getD (z33).toNat (V3.mk 0 0 0))).x = ((z27.getD (z33).toNat (V3.mk 0 0 0))).x)) && ((decide (((z23.getD (z33).toNat (V3.mk 0 0 0))).y = ((z27.getD (z33).toNat (V3.mk 0 0 0))).y)) && ((decide (((z23.getD (z33).toNat (V3.mk 0 0 0))).z = ((z27.getD (z33).toNat (V3.mk 0 0 0))).z)) && true)))) = true →
  (false, ()) = (true, ())) ∧
 ((!((decide (((z23.getD (z33).toNat (V3.mk 0 0 0))).x = ((z27.getD (z33).toNat (V3.mk 0 0 0))).x)) && ((decide (((z23.getD (z33).toNat (V3.mk 0 0 0))).y = ((z27.getD (z33).toNat (V3.mk 0 0 0))).y)) && ((decide (((z23.getD (z33).toNat (V3.mk 0 0 0))).z = ((z27.getD (z33).toNat (V3.mk 0 0 0))).z)) && true)))) = false →
 (rgP (z23.length : Int) ((w64 (z33 + 1))) ∧
 ((decide (0 ≤ rgMu (z23.length : Int) ((w64 (z33 + 1))))) = true ∧
 (decide (rgMu (z23.length : Int) ((w64 (z33 + 1))) < rgMu (z23.length : Int) z33)) = true))))))) ∧
((decide (z33 < (z23.length : Int))) = false →
(true, ()) = (true, ())))))))))))))))))))))))))))))))))))))))))
theorem r_GroupParts (x : HL C_GroupParts.args) : runs (env0 [(26, C_awake5.hid), (27, C_r5Twin.hid), (23, C_gRotations.hid), (38, C_r5DocRotations.hid), (24, C_gCentring.hid), (39, C_r5DocCentring.hid)] [(10, 8, { fix := [(.tmp 3, .list .mat), (.tmp 5, .list .mat)], vars := [(.tmp 36, .int .i64)], inv := fun y v => rgP (lenI y.1) v.1, mu := fun y v => rgMu (lenI y.1) v.1 }), (10, 18, { fix := [(.tmp 8, .list .vec), (.tmp 9, .list .vec)], vars := [(.tmp 72, .int .i64)], inv := fun y v => rgP (lenI y.1) v.1, mu := fun y v => rgMu (lenI y.1) v.1 })] []) 400 10 C_GroupParts x = T_GroupParts x.1 := by kernel_rfl
theorem p_GroupParts (g : List Op3) (h0 : (Sh.list .op).okA g) : T_GroupParts g := by
  have hb : g.length * 96 ≤ 140737488355328 := h0.2
  have b1 := rotL_len g
  have b2 := cenL_len g
  refine ⟨trivial, fun z hz => ⟨fun h => absurd (hz ▸ h) (by decide), fun _ => ⟨trivial, fun a ha => ⟨trivial, fun r hr e he => ⟨trivial, fun r' hr' e' he' => ?_⟩⟩⟩⟩⟩
  subst ha hr he hr' he'
  refine ⟨fun h => absurd h (by simp), fun _ => ⟨fun h => absurd h (by simp), fun _ => ⟨rg_init _, fun i _ _ hI => ⟨fun hi => ?_, fun _ => ⟨trivial, fun a ha => ⟨trivial, fun r hr e he => ⟨trivial, fun r' hr' e' he' => ?_⟩⟩⟩⟩⟩⟩⟩
  · have hi := of_decide_eq_true hi
    refine ⟨⟨hI.1, hi⟩, ⟨hI.1, hi⟩, fun h => absurd h (by simp), fun _ => rg_next (by omega) hI hi⟩
  subst ha hr he hr' he'
  refine ⟨fun h => absurd h (by simp), fun _ => ⟨fun h => absurd h (by simp), fun _ => ⟨rg_init _, fun i _ _ hI => ⟨fun hi => ?_, fun _ => rfl⟩⟩⟩⟩
  have hi := of_decide_eq_true hi
  exact ⟨⟨hI.1, hi⟩, ⟨hI.1, hi⟩, fun h => absurd h (by simp), fun _ => rg_next (by omega) hI hi⟩
theorem s_GroupParts : Sound Try.prog 10 C_GroupParts :=
  sound_of_eq (env0_ok (.cons s_awake5.hid (.cons s_r5Twin.hid (.cons s_gRotations.hid (.cons s_r5DocRotations.hid (.cons s_gCentring.hid (.cons s_r5DocCentring.hid (.nil)))))))) (fun x => T_GroupParts x.1) r_GroupParts fun x ok hp => p_GroupParts x.1 ok.1
noncomputable def C_GroupKeeps : Contract := { args := [.list .op], res := [.bool], pre := fun x => rchO x.1, F := fun x => ((true : Bool), ()) }
def T_GroupKeeps (l : List Op3) : Prop :=
  (True ∧
∀ z1 : Bool,
(z1 = true →
(((!z1) = true →
 (false, ()) = (true, ())) ∧
((!z1) = false →
(True ∧
∀ z4 : List Op3,
(z4 = l →
(True ∧
(True ∧
(lfit 96 (lapp z4 ([(Op3.mk ((M3.mk 0 (-1) 0 1 0 0 0 0 1)) (V3.mk 0 0 6)), (Op3.mk ((M3.mk (-1) 0 0 0 (-1) 0 0 0 (-1))) (V3.mk 0 0 0))])) ∧
((leP 0 0 ∧
 (leP 0 (l.length : Int) ∧
 leP (l.length : Int) (((lapp z4 ([(Op3.mk ((M3.mk 0 (-1) 0 1 0 0 0 0 1)) (V3.mk 0 0 6)), (Op3.mk ((M3.mk (-1) 0 0 0 (-1) 0 0 0 (-1))) (V3.mk 0 0 0))])).length : Int)))) ∧
(True ∧
∀ z6 : List Op3,
(z6 = cloL (lsub (lapp z4 ([(Op3.mk ((M3.mk 0 (-1) 0 1 0 0 0 0 1)) (V3.mk 0 0 6)), (Op3.mk ((M3.mk (-1) 0 0 0 (-1) 0 0 0 (-1))) (V3.mk 0 0 0))])) 0 (l.length : Int)) →
∀ z8 : Int,
(z8 = cloE (lsub (lapp z4 ([(Op3.mk ((M3.mk 0 (-1) 0 1 0 0 0 0 1)) (V3.mk 0 0 6)), (Op3.mk ((M3.mk (-1) 0 0 0 (-1) 0 0 0 (-1))) (V3.mk 0 0 0))])) 0 (l.length : Int)) →
(True ∧
∀ z10 : List Op3,
(z10 = cloL (lsub (lapp z4 ([(Op3.mk ((M3.mk 0 (-1) 0 1 0 0 0 0 1)) (V3.mk 0 0 6)), (Op3.mk ((M3.mk (-1) 0 0 0 (-1) 0 0 0 (-1))) (V3.mk 0 0 0))])) 0 (l.length : Int)) →
∀ z12 : Int,
(z12 = cloE (lsub (lapp z4 ([(Op3.mk ((M3.mk 0 (-1) 0 1 0 0 0 0 1)) (V3.mk 0 0 6)), (Op3.mk ((M3.mk (-1) 0 0 0 (-1) 0 0 0 (-1))) (V3.mk 0 0 0))])) 0 (l.length : Int)) →
(True ∧
∀ z14 : List Op3,
(z14 = dclL l →
∀ z16 : Int,
(z16 = dclE l →
(((!(decide (z8 = z16))) = true →
 (false, ()) = (true, ())) ∧
((!(decide (z8 = z16))) = false →
(True ∧
(((!smO z6 z14) = true →
 (false, ()) = (true, ())) ∧
((!smO z6 z14) = false →
(True ∧
(((!smO z10 z14) = true →
 (false, ()) = (true, ())) ∧
((!smO z10 z14) = false →
(True ∧
(True ∧
(((!(decide (chkE (lsub (lapp z4 ([(Op3.mk ((M3.mk 0 (-1) 0 1 0 0 0 0 1)) (V3.mk 0 0 6)), (Op3.mk ((M3.mk (-1) 0 0 0 (-1) 0 0 0 (-1))) (V3.mk 0 0 0))])) 0 (l.length : Int)) = chkE l))) = true →
 (false, ()) = (true, ())) ∧
((!(decide (chkE (lsub (lapp z4 ([(Op3.mk ((M3.mk 0 (-1) 0 1 0 0 0 0 1)) (V3.mk 0 0 6)), (Op3.mk ((M3.mk (-1) 0 0 0 (-1) 0 0 0 (-1))) (V3.mk 0 0 0))])) 0 (l.length : Int)) = chkE l))) = false →
(True ∧
(((!smO (lsub (lapp z4 ([(Op3.mk ((M3.mk 0 (-1) 0 1 0 0 0 0 1)) (V3.mk 0 0 6)), (Op3.mk ((M3.mk (-1) 0 0 0 (-1) 0 0 0 (-1))) (V3.mk 0 0 0))])) 0 (l.length : Int)) l) = true →
 (false, ()) = (true, ())) ∧
((!smO (lsub (lapp z4 ([(Op3.mk ((M3.mk 0 (-1) 0 1 0 0 0 0 1)) (V3.mk 0 0 6)), (Op3.mk ((M3.mk (-1) 0 0 0 (-1) 0 0 0 (-1))) (V3.mk 0 0 0))])) 0 (l.length : Int)) l) = false →
(inB (lapp z4 ([(Op3.mk ((M3.mk 0 (-1) 0 1 0 0 0 0 1)) (V3.mk 0 0 6)), (Op3.mk ((M3.mk (-1) 0 0 0 (-1) 0 0 0 (-1))) (V3.mk 0 0 0))])) (l.length : Int) ∧
(True ∧
(((!((decide (((((lapp z4 ([(Op3.mk ((M3.mk 0 (-1) 0 1 0 0 0 0 1)) (V3.mk 0 0 6)), (Op3.mk ((M3.mk (-1) 0 0 0 (-1) 0 0 0 (-1))) (V3.mk 0 0 0))])).getD ((l.length : Int)).toNat zerO)).R).xx = 0)) && ((decide (((((lapp z4 ([(Op3.mk ((M3.mk 0 (-1) 0 1 0 0 0 0 1)) (V3.mk 0 0 6)), (Op3.mk ((M3.mk (-1) 0 0 0 (-1) 0 0 0 (-1))) (V3.mk 0 0 0))])).getD ((l.length : Int)).toNat zerO)).R).xy = (-1))) && ((decide (((((lapp z4 ([(Op3.mk ((M3.mk 0 (-1) 0 1 0 0 0 0 1)) (V3.mk 0 0 6)), (Op3.mk ((M3.mk (-1) 0 0 0 (-1) 0 0 0 (-1))) (V3.mk 0 0 0))])).getD ((l.length : Int)).toNat zerO)).R).xz = 0)) && ((decide (((((lapp z4 ([(Op3.mk ((M3.mk 0 (-1) 0 1 0 0 0 0 1)) (V3.mk 0 0 6)), (Op3.mk ((M3.mk (-1) 0 0 0 (-1) 0 0 0 (-1))) (V3.mk 0 0 0))])).getD ((l.length : Int)).toNat zerO)).R).yx = 1)) && ((decide (((((lapp z4 ([(Op3.mk ((M3.mk 0 (-1) 0 1 0 0 0 0 1)) (V3.mk 0 0 6)), (Op3.mk ((M3.mk (-1) 0 0 0 (-1) 0 0 0 (-1))) (V3.mk 0 0 0))])).getD ((l.length : Int)).toNat zerO)).R).yy = 0)) && ((decide (((((lapp z4 ([(Op3.mk ((M3.mk 0 (-1) 0 1 0 0 0 0 1)) (V3.mk 0 0 6)), (Op3.mk ((M3.mk (-1) 0 0 0 (-1) 0 0 0 (-1))) (V3.mk 0 0 0))])).getD ((l.length : Int)).toNat zerO)).R).yz = 0)) && ((decide (((((lapp z4 ([(Op3.mk ((M3.mk 0 (-1) 0 1 0 0 0 0 1)) (V3.mk 0 0 6)), (Op3.mk ((M3.mk (-1) 0 0 0 (-1) 0 0 0 (-1))) (V3.mk 0 0 0))])).getD ((l.length : Int)).toNat zerO)).R).zx = 0)) && ((decide (((((lapp z4 ([(Op3.mk ((M3.mk 0 (-1) 0 1 0 0 0 0 1)) (V3.mk 0 0 6)), (Op3.mk ((M3.mk (-1) 0 0 0 (-1) 0 0 0 (-1))) (V3.mk 0 0 0))])).getD ((l.length : Int)).toNat zerO)).R).zy = 0)) && ((decide (((((lapp z4 ([(Op3.mk ((M3.mk 0 (-1) 0 1 0 0 0 0 1)) (V3.mk 0 0 6)), (Op3.mk ((M3.mk (-1) 0 0 0 (-1) 0 0 0 (-1))) (V3.mk 0 0 0))])).getD ((l.length : Int)).toNat zerO)).R).zz = 1)) && ((decide (((((lapp z4 ([(Op3.mk ((M3.mk 0 (-1) 0 1 0 0 0 0 1)) (V3.mk 0 0 6)), (Op3.mk ((M3.mk (-1) 0 0 0 (-1) 0 0 0 (-1))) (V3.mk 0 0 0))])).getD ((l.length : Int)).toNat zerO)).T).x = 0)) && ((decide (((((lapp z4 ([(Op3.mk ((M3.mk 0 (-1) 0 1 0 0 0 0 1)) (V3.mk 0 0 6)), (Op3.mk ((M3.mk (-1) 0 0 0 (-1) 0 0 0 (-1))) (V3.mk 0 0 0))])).getD ((l.length : Int)).toNat zerO)).T).y = 0)) && ((decide (((((lapp z4 ([(Op3.mk ((M3.mk 0 (-1) 0 1 0 0 0 0 1)) (V3.mk 0 0 6)), (Op3.mk ((M3.mk (-1) 0 0 0 (-1) 0 0 0 (-1))) (V3.mk 0 0 0))])).getD ((l.length : Int)).toNat zerO)).T).z = 6)) && true))))))))))))) = true →
 (false, ()) = (true, ())) ∧
((!((decide (((((lapp z4 ([(Op3.mk ((M3.mk 0 (-1) 0 1 0 0 0 0 1)) (V3.mk 0 0 6)), (Op3.mk ((M3.mk (-1) 0 0 0 (-1) 0 0 0 (-1))) (V3.mk 0 0 0))])).getD ((l.length : Int)).toNat zerO)).R).xx = 0)) && ((decide (((((lapp z4 ([(Op3.mk ((M3.mk 0 (-1) 0 1 0 0 0 0 1)) (V3.mk 0 0 6)), (Op3.mk ((M3.mk (-1) 0 0 0 (-1) 0 0 0 (-1))) (V3.mk 0 0 0))])).getD ((l.length : Int)).toNat zerO)).R).xy = (-1))) && ((decide (((((lapp z4 ([(Op3.mk ((M3.mk 0 (-1) 0 1 0 0 0 0 1)) (V3.mk 0 0 6)), (Op3.mk ((M3.mk (-1) 0 0 0 (-1) 0 0 0 (-1))) (V3.mk 0 0 0))])).getD ((l.length : Int)).toNat zerO)).R).xz = 0)) && ((decide (((((lapp z4 ([(Op3.mk ((M3.mk 0 (-1) 0 1 0 0 0 0 1)) (V3.mk 0 0 6)), (Op3.mk ((M3.mk (-1) 0 0 0 (-1) 0 0 0 (-1))) (V3.mk 0 0 0))])).getD ((l.length : Int)).toNat zerO)).R).yx = 1)) && ((decide (((((lapp z4 ([(Op3.mk ((M3.mk 0 (-1) 0 1 0 0 0 0 1)) (V3.mk 0 0 6)), (Op3.mk ((M3.mk (-1) 0 0 0 (-1) 0 0 0 (-1))) (V3.mk 0 0 0))])).getD ((l.length : Int)).toNat zerO)).R).yy = 0)) && ((decide (((((lapp z4 ([(Op3.mk ((M3.mk 0 (-1) 0 1 0 0 0 0 1)) (V3.mk 0 0 6)), (Op3.mk ((M3.mk (-1) 0 0 0 (-1) 0 0 0 (-1))) (V3.mk 0 0 0))])).getD ((l.length : Int)).toNat zerO)).R).yz = 0)) && ((decide (((((lapp z4 ([(Op3.mk ((M3.mk 0 (-1) 0 1 0 0 0 0 1)) (V3.mk 0 0 6)), (Op3.mk ((M3.mk (-1) 0 0 0 (-1) 0 0 0 (-1))) (V3.mk 0 0 0))])).getD ((l.length : Int)).toNat zerO)).R).zx = 0)) && ((decide (((((lapp z4 ([(Op3.mk ((M3.mk 0 (-1) 0 1 0 0 0 0 1)) (V3.mk 0 0 6)), (Op3.mk ((M3.mk (-1) 0 0 0 (-1) 0 0 0 (-1))) (V3.mk 0 0 0))])).getD ((l.length : Int)).toNat zerO)).R).zy = 0)) && ((decide (((((lapp z4 ([(Op3.mk ((M3.mk 0 (-1) 0 1 0 0 0 0 1)) (V3.mk 0 0 6)), (Op3.mk ((M3.mk (-1) 0 0 0 (-1) 0 0 0 (-1))) (V3.mk 0 0 0))])).getD ((l.length : Int)).toNat zerO)).R).zz = 1)) && ((decide (((((lapp z4 ([(Op3.mk ((M3.mk 0 (-1) 0 1 0 0 0 0 1)) (V3.mk 0 0 6)), (Op3.mk ((M3.mk (-1) 0 0 0 (-1) 0 0 0 (-1))) (V3.mk 0 0 0))])).getD ((l.length : Int)).toNat zerO)).T).x = 0)) && ((decide (((((lapp z4 ([(Op3.mk ((M3.mk 0 (-1) 0 1 0 0 0 0 1)) (V3.mk 0 0 6)), (Op3.mk ((M3.mk (-1) 0 0 0 (-1) 0 0 0 (-1))) (V3.mk 0 0 0))])).getD ((l.length : Int)).toNat zerO)).T).y = 0)) && ((decide (((((lapp z4 ([(Op3.mk ((M3.mk 0 (-1) 0 1 0 0 0 0 1)) (V3.mk 0 0 6)), (Op3.mk ((M3.mk (-1) 0 0 0 (-1) 0 0 0 (-1))) (V3.mk 0 0 0))])).getD ((l.length : Int)).toNat zerO)).T).z = 6)) && true))))))))))))) = false →
(inB (lapp z4 ([(Op3.mk ((M3.mk 0 (-1) 0 1 0 0 0 0 1)) (V3.mk 0 0 6)), (Op3.mk ((M3.mk (-1) 0 0 0 (-1) 0 0 0 (-1))) (V3.mk 0 0 0))])) (((l.length : Int) + 1)) ∧
(True ∧
(((!((decide (((((lapp z4 ([(Op3.mk ((M3.mk 0 (-1) 0 1 0 0 0 0 1)) (V3.mk 0 0 6)), (Op3.mk ((M3.mk (-1) 0 0 0 (-1) 0 0 0 (-1))) (V3.mk 0 0 0))])).getD (((l.length : Int) + 1)).toNat zerO)).R).xx = (-1))) && ((decide (((((lapp z4 ([(Op3.mk ((M3.mk 0 (-1) 0 1 0 0 0 0 1)) (V3.mk 0 0 6)), (Op3.mk ((M3.mk (-1) 0 0 0 (-1) 0 0 0 (-1))) (V3.mk 0 0 0))])).getD (((l.length : Int) + 1)).toNat zerO)).R).xy = 0)) && ((decide (((((lapp z4 ([(Op3.mk ((M3.mk 0 (-1) 0 1 0 0 0 0 1)) (V3.mk 0 0 6)), (Op3.mk ((M3.mk (-1) 0 0 0 (-1) 0 0 0 (-1))) (V3.mk 0 0 0))])).getD (((l.length : Int) + 1)).toNat zerO)).R).xz = 0)) && ((decide (((((lapp z4 ([(Op3.mk ((M3.mk 0 (-1) 0 1 0 0 0 0 1)) (V3.mk 0 0 6)), (Op3.mk ((M3.mk (-1) 0 0 0 (-1) 0 0 0 (-1))) (V3.mk 0 0 0))])).getD (((l.length : Int) + 1)).toNat zerO)).R).yx = 0)) && ((decide (((((lapp z4 ([(Op3.mk ((M3.mk 0 (-1) 0 1 0 0 0 0 1)) (V3.mk 0 0 6)), (Op3.mk ((M3.mk (-1) 0 0 0 (-1) 0 0 0 (-1))) (V3.mk 0 0 0))])).getD (((l.length : Int) + 1)).toNat zerO)).R).yy = (-1))) && ((decide (((((lapp z4 ([(Op3.mk ((M3.mk 0 (-1) 0 1 0 0 0 0 1)) (V3.mk 0 0 6)), (Op3.mk ((M3.mk (-1) 0 0 0 (-1) 0 0 0 (-1))) (V3.mk 0 0 0))])).getD (((l.length : Int) + 1)).toNat zerO)).R).yz = 0)) && ((decide (((((lapp z4 ([(Op3.mk ((M3.mk 0 (-1) 0 1 0 0 0 0 1)) (V3.mk 0 0 6)), (Op3.mk ((M3.mk (-1) 0 0 0 (-1) 0 0 0 (-1))) (V3.mk 0 0 0))])).getD (((l.length : Int) + 1)).toNat zerO)).R).zx = 0)) && ((decide (((((lapp z4 ([(Op3.mk ((M3.mk 0 (-1) 0 1 0 0 0 0 1)) (V3.mk 0 0 6)), (Op3.mk ((M3.mk (-1) 0 0 0 (-1) 0 0 0 (-1))) (V3.mk 0 0 0))])).getD (((l.length : Int) + 1)).toNat zerO)).R).zy = 0)) && ((decide (((((lapp z4 ([(Op3.mk ((M3.mk 0 (-1) 0 1 0 0 0 0 1)) (V3.mk 0 0 6)), (Op3.mk ((M3.mk (-1) 0 0 0 (-1) 0 0 0 (-1))) (V3.mk 0 0 0))])).getD (((l.length : Int) + 1)).toNat zerO)).R).zz = (-1))) && ((decide (((((lapp z4 ([(Op3.mk ((M3.mk 0 (-1) 0 1 0 0 0 0 1)) (V3.mk 0 0 6)), (Op3.mk ((M3.mk (-1) 0 0 0 (-1) 0 0 0 (-1))) (V3.mk 0 0 0))])).getD (((l.length : Int) + 1)).toNat zerO)).T).x = 0)) && ((decide (((((lapp z4 ([(Op3.mk ((M3.mk 0 (-1) 0 1 0 0 0 0 1)) (V3.mk 0 0 6)), (Op3.mk ((M3.mk (-1) 0 0 0 (-1) 0 0 0 (-1))) (V3.mk 0 0 0))])).getD (((l.length : Int) + 1)).toNat zerO)).T).y = 0)) && ((decide (((((lapp z4 ([(Op3.mk ((M3.mk 0 (-1) 0 1 0 0 0 0 1)) (V3.mk 0 0 6)), (Op3.mk ((M3.mk (-1) 0 0 0 (-1) 0 0 0 (-1))) (V3.mk 0 0 0))])).getD (((l.length : Int) + 1)).toNat zerO)).T).z = 0)) && true))))))))))))) = true →
 (false, ()) = (true, ())) ∧
((!((decide (((((lapp z4 ([(Op3.mk ((M3.mk 0 (-1) 0 1 0 0 0 0 1)) (V3.mk 0 0 6)), (Op3.mk ((M3.mk (-1) 0 0 0 (-1) 0 0 0 (-1))) (V3.mk 0 0 0))])).getD (((l.length : Int) + 1)).toNat zerO)).R).xx = (-1))) && ((decide (((((lapp z4 ([(Op3.mk ((M3.mk 0 (-1) 0 1 0 0 0 0 1)) (V3.mk 0 0 6)), (Op3.mk ((M3.mk (-1) 0 0 0 (-1) 0 0 0 (-1))) (V3.mk 0 0 0))])).getD (((l.length : Int) + 1)).toNat zerO)).R).xy = 0)) && ((decide (((((lapp z4 ([(Op3.mk ((M3.mk 0 (-1) 0 1 0 0 0 0 1)) (V3.mk 0 0 6)), (Op3.mk ((M3.mk (-1) 0 0 0 (-1) 0 0 0 (-1))) (V3.mk 0 0 0))])).getD (((l.length : Int) + 1)).toNat zerO)).R).xz = 0)) && ((decide (((((lapp z4 ([(Op3.mk ((M3.mk 0 (-1) 0 1 0 0 0 0 1)) (V3.mk 0 0 6)), (Op3.mk ((M3.mk (-1) 0 0 0 (-1) 0 0 0 (-1))) (V3.mk 0 0 0))])).getD (((l.length : Int) + 1)).toNat zerO)).R).yx = 0)) && ((decide (((((lapp z4 ([(Op3.mk ((M3.mk 0 (-1) 0 1 0 0 0 0 1)) (V3.mk 0 0 6)), (Op3.mk ((M3.mk (-1) 0 0 0 (-1) 0 0 0 (-1))) (V3.mk 0 0 0))])).getD (((l.length : Int) + 1)).toNat zerO)).R).yy = (-1))) && ((decide (((((lapp z4 ([(Op3.mk ((M3.mk 0 (-1) 0 1 0 0 0 0 1)) (V3.mk 0 0 6)), (Op3.mk ((M3.mk (-1) 0 0 0 (-1) 0 0 0 (-1))) (V3.mk 0 0 0))])).getD (((l.length : Int) + 1)).toNat zerO)).R).yz = 0)) && ((decide (((((lapp z4 ([(Op3.mk ((M3.mk 0 (-1) 0 1 0 0 0 0 1)) (V3.mk 0 0 6)), (Op3.mk ((M3.mk (-1) 0 0 0 (-1) 0 0 0 (-1))) (V3.mk 0 0 0))])).getD (((l.length : Int) + 1)).toNat zerO)).R).zx = 0)) && ((decide (((((lapp z4 ([(Op3.mk ((M3.mk 0 (-1) 0 1 0 0 0 0 1)) (V3.mk 0 0 6)), (Op3.mk ((M3.mk (-1) 0 0 0 (-1) 0 0 0 (-1))) (V3.mk 0 0 0))])).getD (((l.length : Int) + 1)).toNat zerO)).R).zy = 0)) && ((decide (((((lapp z4 ([(Op3.mk ((M3.mk 0 (-1) 0 1 0 0 0 0 1)) (V3.mk 0 0 6)), (Op3.mk ((M3.mk (-1) 0 0 0 (-1) 0 0 0 (-1))) (V3.mk 0 0 0))])).getD (((l.length : Int) + 1)).toNat zerO)).R).zz = (-1))) && ((decide (((((lapp z4 ([(Op3.mk ((M3.mk 0 (-1) 0 1 0 0 0 0 1)) (V3.mk 0 0 6)), (Op3.mk ((M3.mk (-1) 0 0 0 (-1) 0 0 0 (-1))) (V3.mk 0 0 0))])).getD (((l.length : Int) + 1)).toNat zerO)).T).x = 0)) && ((decide (((((lapp z4 ([(Op3.mk ((M3.mk 0 (-1) 0 1 0 0 0 0 1)) (V3.mk 0 0 6)), (Op3.mk ((M3.mk (-1) 0 0 0 (-1) 0 0 0 (-1))) (V3.mk 0 0 0))])).getD (((l.length : Int) + 1)).toNat zerO)).T).y = 0)) && ((decide (((((lapp z4 ([(Op3.mk ((M3.mk 0 (-1) 0 1 0 0 0 0 1)) (V3.mk 0 0 6)), (Op3.mk ((M3.mk (-1) 0 0 0 (-1) 0 0 0 (-1))) (V3.mk 0 0 0))])).getD (((l.length : Int) + 1)).toNat zerO)).T).z = 0)) && true))))))))))))) = false →
(rgP (l.length : Int) 0 ∧
∀ z25 : List Op3,
∀ z26 : Int,
((decide ((-9223372036854775808) ≤ z26)) = true →
((decide (z26 ≤ 9223372036854775807)) = true →
(rgP (l.length : Int) z26 →
(eqP (z25.length : Int) (((lapp z4 ([(Op3.mk ((M3.mk 0 (-1) 0 1 0 0 0 0 1)) (V3.mk 0 0 6)), (Op3.mk ((M3.mk (-1) 0 0 0 (-1) 0 0 0 (-1))) (V3.mk 0 0 0))])).length : Int)) →
(((decide (z26 < (l.length : Int))) = true →
 (True ∧
 (inR z26 (l.length : Int) ∧
 (rgP (l.length : Int) ((w64 (z26 + 1))) ∧
 ((decide (0 ≤ rgMu (l.length : Int) ((w64 (z26 + 1))))) = true ∧
 (decide (rgMu (l.length : Int) ((w64 (z26 + 1))) < rgMu (l.length : Int) z26)) = true))))) ∧
((decide (z26 < (l.length : Int))) = false →
(True ∧
∀ z32 : List Op3,
(z32 = cloL (lsub z25 0 (l.length : Int)) →
∀ z34 : Int,
(z34 = cloE (lsub z25 0 (l.length : Int)) →
(True ∧
∀ z36 : List Op3,
(z36 = lsub z25 0 (l.length : Int) →
(True ∧
∀ z38 : List Op3,
(z38 = dclL z36 →
∀ z40 : Int,
(z40 = dclE z36 →
(((!(decide (z34 = z40))) = true →
 (false, ()) = (true, ())) ∧
((!(decide (z34 = z40))) = false →
(True ∧
∀ z43 : Bool,
(z43 = smO z32 z38 →
(((!z43) = true →
 (false, ()) = (true, ())) ∧
((!z43) = false →
(True ∧
∀ z46 : Bool,
(z46 = smO z6 z14 →
(((!z46) = true →
 (false, ()) = (true, ())) ∧
((!z46) = false →
(rgP (z6.length : Int) 0 ∧
∀ z49 : List Op3,
∀ z50 : Int,
((decide ((-9223372036854775808) ≤ z50)) = true →
((decide (z50 ≤ 9223372036854775807)) = true →
(rgP (z49.length : Int) z50 →
(eqP (z49.length : Int) (z6.length : Int) →
(((decide (z50 < (z6.length : Int))) = true →
 (True ∧
 (inB z49 z50 ∧
 (rgP (((lset z49 z50 ((Op3.mk ((M3.mk (-1) 0 0 0 (-1) 0 0 0 (-1))) (V3.mk 0 0 0)))).length : Int)) ((w64 (z50 + 1))) ∧
 ((decide (0 ≤ rgMu (((lset z49 z50 ((Op3.mk ((M3.mk (-1) 0 0 0 (-1) 0 0 0 (-1))) (V3.mk 0 0 0)))).length : Int)) ((w64 (z50 + 1))))) = true ∧
 (decide (rgMu (((lset z49 z50 ((Op3.mk ((M3.mk (-1) 0 0 0 (-1) 0 0 0 (-1))) (V3.mk 0 0 0)))).length : Int)) ((w64 (z50 + 1))) < rgMu (z49.length : Int) z50)) = true))))) ∧
((decide (z50 < (z6.length : Int))) = false →
(True ∧
(lfit 96 (lapp z49 ([(Op3.mk ((M3.mk 0 (-1) 0 1 0 0 0 0 1)) (V3.mk 0 0 6))])) ∧
(True ∧
∀ z56 : Bool,
(z56 = smO z10 z14 →
(((!z56) = true →
 (false, ()) = (true, ())) ∧
((!z56) = false →
(True ∧
(lfit 96 (lapp z10 ([(Op3.mk ((M3.mk (-1) 0 0 0 (-1) 0 0 0 (-1))) (V3.mk 0 0 0))])) ∧
(inB (lapp z49 ([(Op3.mk ((M3.mk 0 (-1) 0 1 0 0 0 0 1)) (V3.mk 0 0 6))])) ((((lapp z49 ([(Op3.mk ((M3.mk 0 (-1) 0 1 0 0 0 0 1)) (V3.mk 0 0 6))])).length : Int) - 1)) ∧
(True ∧
((((decide (((((lapp z49 ([(Op3.mk ((M3.mk 0 (-1) 0 1 0 0 0 0 1)) (V3.mk 0 0 6))])).getD ((((lapp z49 ([(Op3.mk ((M3.mk 0 (-1) 0 1 0 0 0 0 1)) (V3.mk 0 0 6))])).length : Int) - 1)).toNat zerO)).R).xx = 0)) && ((decide (((((lapp z49 ([(Op3.mk ((M3.mk 0 (-1) 0 1 0 0 0 0 1)) (V3.mk 0 0 6))])).getD ((((lapp z49 ([(Op3.mk ((M3.mk 0 (-1) 0 1 0 0 0 0 1)) (V3.mk 0 0 6))])).length : Int) - 1)).toNat zerO)).R).xy = (-1))) && ((decide (((((lapp z49 ([(Op3.mk ((M3.mk 0 (-1) 0 1 0 0 0 0 1)) (V3.mk 0 0 6))])).getD ((((lapp z49 ([(Op3.mk ((M3.mk 0 (-1) 0 1 0 0 0 0 1)) (V3.mk 0 0 6))])).length : Int) - 1)).toNat zerO)).R).xz = 0)) && ((decide (((((lapp z49 ([(Op3.mk ((M3.mk 0 (-1) 0 1 0 0 0 0 1)) (V3.mk 0 0 6))])).getD ((((lapp z49 ([(Op3.mk ((M3.mk 0 (-1) 0 1 0 0 0 0 1)) (V3.mk 0 0 6))])).length : Int) - 1)).toNat zerO)).R).yx = 1)) && ((decide (((((lapp z49 ([(Op3.mk ((M3.mk 0 (-1) 0 1 0 0 0 0 1)) (V3.mk 0 0 6))])).getD ((((lapp z49 ([(Op3.mk ((M3.mk 0 (-1) 0 1 0 0 0 0 1)) (V3.mk 0 0 6))])).length : Int) - 1)).toNat zerO)).R).yy = 0)) && ((decide (((((lapp z49 ([(Op3.mk ((M3.mk 0 (-1) 0 1 0 0 0 0 1)) (V3.mk 0 0 6))])).getD ((((lapp z49 ([(Op3.mk ((M3.mk 0 (-1) 0 1 0 0 0 0 1)) (V3.mk 0 0 6))])).length : Int) - 1)).toNat zerO)).R).yz = 0)) && ((decide (((((lapp z49 ([(Op3.mk ((M3.mk 0 (-1) 0 1 0 0 0 0 1)) (V3.mk 0 0 6))])).getD ((((lapp z49 ([(Op3.mk ((M3.mk 0 (-1) 0 1 0 0 0 0 1)) (V3.mk 0 0 6))])).length : Int) - 1)).toNat zerO)).R).zx = 0)) && ((decide (((((lapp z49 ([(Op3.mk ((M3.mk 0 (-1) 0 1 0 0 0 0 1)) (V3.mk 0 0 6))])).getD ((((lapp z49 ([(Op3.mk ((M3.mk 0 (-1) 0 1 0 0 0 0 1)) (V3.mk 0 0 6))])).length : Int) - 1)).toNat zerO)).R).zy = 0)) && ((decide (((((lapp z49 ([(Op3.mk ((M3.mk 0 (-1) 0 1 0 0 0 0 1)) (V3.mk 0 0 6))])).getD ((((lapp z49 ([(Op3.mk ((M3.mk 0 (-1) 0 1 0 0 0 0 1)) (V3.mk 0 0 6))])).length : Int) - 1)).toNat zerO)).R).zz = 1)) && ((decide (((((lapp z49 ([(Op3.mk ((M3.mk 0 (-1) 0 1 0 0 0 0 1)) (V3.mk 0 0 6))])).getD ((((lapp z49 ([(Op3.mk ((M3.mk 0 (-1) 0 1 0 0 0 0 1)) (V3.mk 0 0 6))])).length : Int) - 1)).toNat zerO)).T).x = 0)) && ((decide (((((lapp z49 ([(Op3.mk ((M3.mk 0 (-1) 0 1 0 0 0 0 1)) (V3.mk 0 0 6))])).getD ((((lapp z49 ([(Op3.mk ((M3.mk 0 (-1) 0 1 0 0 0 0 1)) (V3.mk 0 0 6))])).length : Int) - 1)).toNat zerO)).T).y = 0)) && ((decide (((((lapp z49 ([(Op3.mk ((M3.mk 0 (-1) 0 1 0 0 0 0 1)) (V3.mk 0 0 6))])).getD ((((lapp z49 ([(Op3.mk ((M3.mk 0 (-1) 0 1 0 0 0 0 1)) (V3.mk 0 0 6))])).length : Int) - 1)).toNat zerO)).T).z = 6)) && true)))))))))))) = true →
 (inB (lapp z10 ([(Op3.mk ((M3.mk (-1) 0 0 0 (-1) 0 0 0 (-1))) (V3.mk 0 0 0))])) ((((lapp z10 ([(Op3.mk ((M3.mk (-1) 0 0 0 (-1) 0 0 0 (-1))) (V3.mk 0 0 0))])).length : Int) - 1)) ∧
 (True ∧
 (((decide (((((lapp z10 ([(Op3.mk ((M3.mk (-1) 0 0 0 (-1) 0 0 0 (-1))) (V3.mk 0 0 0))])).getD ((((lapp z10 ([(Op3.mk ((M3.mk (-1) 0 0 0 (-1) 0 0 0 (-1))) (V3.mk 0 0 0))])).length : Int) - 1)).toNat zerO)).R).xx = (-1))) && ((decide (((((lapp z10 ([(Op3.mk ((M3.mk (-1) 0 0 0 (-1) 0 0 0 (-1))) (V3.mk 0 0 0))])).getD ((((lapp z10 ([(Op3.mk ((M3.mk (-1) 0 0 0 (-1) 0 0 0 (-1))) (V3.mk 0 0 0))])).length : Int) - 1)).toNat zerO)).R).xy = 0)) && ((decide (((((lapp z10 ([(Op3.mk ((M3.mk (-1) 0 0 0 (-1) 0 0 0 (-1))) (V3.mk 0 0 0))])).getD ((((lapp z10 ([(Op3.mk ((M3.mk (-1) 0 0 0 (-1) 0 0 0 (-1))) (V3.mk 0 0 0))])).length : Int) - 1)).toNat zerO)).R).xz = 0)) && ((decide (((((lapp z10 ([(Op3.mk ((M3.mk (-1) 0 0 0 (-1) 0 0 0 (-1))) (V3.mk 0 0 0))])).getD ((((lapp z10 ([(Op3.mk ((M3.mk (-1) 0 0 0 (-1) 0 0 0 (-1))) (V3.mk 0 0 0))])).length : Int) - 1)).toNat zerO)).R).yx = 0)) && ((decide (((((lapp z10 ([(Op3.mk ((M3.mk (-1) 0 0 0 (-1) 0 0 0 (-1))) (V3.mk 0 0 0))])).getD ((((lapp z10 ([(Op3.mk ((M3.mk (-1) 0 0 0 (-1) 0 0 0 (-1))) (V3.mk 0 0 0))])).length : Int) - 1)).toNat zerO)).R).yy = (-1))) && ((decide (((((lapp z10 ([(Op3.mk ((M3.mk (-1) 0 0 0 (-1) 0 0 0 (-1))) (V3.mk 0 0 0))])).getD ((((lapp z10 ([(Op3.mk ((M3.mk (-1) 0 0 0 (-1) 0 0 0 (-1))) (V3.mk 0 0 0))])).length : Int) - 1)).toNat zerO)).R).yz = 0)) && ((decide (((((lapp z10 ([(Op3.mk ((M3.mk (-1) 0 0 0 (-1) 0 0 0 (-1))) (V3.mk 0 0 0))])).getD ((((lapp z10 ([(Op3.mk ((M3.mk (-1) 0 0 0 (-1) 0 0 0 (-1))) (V3.mk 0 0 0))])).length : Int) - 1)).toNat zerO)).R).zx = 0)) && ((decide (((((lapp z10 ([(Op3.mk ((M3.mk (-1) 0 0 0 (-1) 0 0 0 (-1))) (V3.mk 0 0 0))])).getD ((((lapp z10 ([(Op3.mk ((M3.mk (-1) 0 0 0 (-1) 0 0 0 (-1))) (V3.mk 0 0 0))])).length : Int) - 1)).toNat zerO)).R).zy = 0)) && ((decide (((((lapp z10 ([(Op3.mk ((M3.mk (-1) 0 0 0 (-1) 0 0 0 (-1))) (V3.mk 0 0 0))])).getD ((((lapp z10 ([(Op3.mk ((M3.mk (-1) 0 0 0 (-1) 0 0 0 (-1))) (V3.mk 0 0 0))])).length : Int) - 1)).toNat zerO)).R).zz = (-1))) && ((decide (((((lapp z10 ([(Op3.mk ((M3.mk (-1) 0 0 0 (-1) 0 0 0 (-1))) (V3.mk 0 0 0))])).getD ((((lapp z10 ([(Op3.mk ((M3.mk (-1) 0 0 0 (-1) 0 0 0 (-1))) (V3.mk 0 0 0))])).length : Int) - 1)).toNat zerO)).T).x = 0)) && ((decide (((((lapp z10 ([(Op3.mk ((M3.mk (-1) 0 0 0 (-1) 0 0 0 (-1))) (V3.mk 0 0 0))])).getD ((((lapp z10 ([(Op3.mk ((M3.mk (-1) 0 0 0 (-1) 0 0 0 (-1))) (V3.mk 0 0 0))])).length : Int) - 1)).toNat zerO)).T).y = 0)) && ((decide (((((lapp z10 ([(Op3.mk ((M3.mk (-1) 0 0 0 (-1) 0 0 0 (-1))) (V3.mk 0 0 0))])).getD ((((lapp z10 ([(Op3.mk ((M3.mk (-1) 0 0 0 (-1) 0 0 0 (-1))) (V3.mk 0 0 0))])).length : Int) - 1)).toNat zerO)).T).z = 0)) && true)))))))))))), ()) = (true, ())))) ∧
(((decide (((((lapp z49 ([(Op3.mk ((M3.mk 0 (-1) 0 1 0 0 0 0 1)) (V3.mk 0 0 6))])).getD ((((lapp z49 ([(Op3.mk ((M3.mk 0 (-1) 0 1 0 0 0 0 1)) (V3.mk 0 0 6))])).length : Int) - 1)).toNat zerO)).R).xx = 0)) && ((decide (((((lapp z49 ([(Op3.mk ((M3.mk 0 (-1) 0 1 0 0 0 0 1)) (V3.mk 0 0 6))])).getD ((((lapp z49 ([(Op3.mk ((M3.mk 0 (-1) 0 1 0 0 0 0 1)) (V3.mk 0 0 6))])).length : Int) - 1)).toNat zerO)).R).xy = (-1))) && ((decide (((((lapp z49 ([(Op3.mk ((M3.mk 0 (-1) 0 1 0 0 0 0 1)) (V3.mk 0 0 6))])).getD ((((lapp z49 ([(Op3.mk ((M3.mk 0 (-1) 0 1 0 0 0 0 1)) (V3.mk 0 0 6))])).length : Int) - 1)).toNat zerO)).R).xz = 0)) && ((decide (((((lapp z49 ([(Op3.mk ((M3.mk 0 (-1) 0 1 0 0 0 0 1)) (V3.mk 0 0 6))])).getD ((((lapp z49 ([(Op3.mk ((M3.mk 0 (-1) 0 1 0 0 0 0 1)) (V3.mk 0 0 6))])).length : Int) - 1)).toNat zerO)).R).yx = 1)) && ((decide (((((lapp z49 ([(Op3.mk ((M3.mk 0 (-1) 0 1 0 0 0 0 1)) (V3.mk 0 0 6))])).getD ((((lapp z49 ([(Op3.mk ((M3.mk 0 (-1) 0 1 0 0 0 0 1)) (V3.mk 0 0 6))])).length : Int) - 1)).toNat zerO)).R).yy = 0)) && ((decide (((((lapp z49 ([(Op3.mk ((M3.mk 0 (-1) 0 1 0 0 0 0 1)) (V3.mk 0 0 6))])).getD ((((lapp z49 ([(Op3.mk ((M3.mk 0 (-1) 0 1 0 0 0 0 1)) (V3.mk 0 0 6))])).length : Int) - 1)).toNat zerO)).R).yz = 0)) && ((decide (((((lapp z49 ([(Op3.mk ((M3.mk 0 (-1) 0 1 0 0 0 0 1)) (V3.mk 0 0 6))])).getD ((((lapp z49 ([(Op3.mk ((M3.mk 0 (-1) 0 1 0 0 0 0 1)) (V3.mk 0 0 6))])).length : Int) - 1)).toNat zerO)).R).zx = 0)) && ((decide (((((lapp z49 ([(Op3.mk ((M3.mk 0 (-1) 0 1 0 0 0 0 1)) (V3.mk 0 0 6))])).getD ((((lapp z49 ([(Op3.mk ((M3.mk 0 (-1) 0 1 0 0 0 0 1)) (V3.mk 0 0 6))])).length : Int) - 1)).toNat zerO)).R).zy = 0)) && ((decide (((((lapp z49 ([(Op3.mk ((M3.mk 0 (-1) 0 1 0 0 0 0 1)) (V3.mk 0 0 6))])).getD ((((lapp z49 ([(Op3.mk ((M3.mk 0 (-1) 0 1 0 0 0 0 1)) (V3.mk 0 0 6))])).length : Int) - 1)).toNat zerO)).R).zz = 1)) && ((decide (((((lapp z49 ([(Op3.mk ((M3.mk 0 (-1) 0 1 0 0 0 0 1)) (V3.mk 0 0 6))])).getD ((((lapp z49 ([(Op3.mk ((M3.mk 0 (-1) 0 1 0 0 0 0 1)) (V3.mk 0 0 6))])).length : Int) - 1)).toNat zerO)).T).x = 0)) && ((decide (((((lapp z49 ([(Op3.mk ((M3.mk 0 (-1) 0 1 0 0 0 0 1)) (V3.mk 0 0 6))])).getD ((((lapp z49 ([(Op3.mk ((M3.mk 0 (-1) 0 1 0 0 0 0 1)) (V3.mk 0 0 6))])).length : Int) - 1)).toNat zerO)).T).y = 0)) && ((decide (((((lapp z49 ([(Op3.mk ((M3.mk 0 (-1) 0 1 0 0 0 0 1)) (V3.mk 0 0 6))])).getD ((((lapp z49 ([(Op3.mk ((M3.mk 0 (-1) 0 1 0 0 0 0 1)) (V3.mk 0 0 6))])).length : Int) - 1)).toNat zerO)).T).z = 6)) && true)))))))))))) = false →
(false, ()) = (true, ())))))))))))))))))))))))))))))))))))))))))))))))))))))))))))))))))))))))))))))))))))))))
theorem r_GroupKeeps (x : HL C_GroupKeeps.args) : runs (env0 [(26, C_awake5.hid), (27, C_r5Twin.hid), (35, C_turn5), (36, C_minus5), (14, C_gClose.hid), (28, C_r5DocClose.hid), (29, C_r5Same.hid), (16, C_gCheck.hid), (30, C_r5DocCheck.hid)] [(8, 11, { fix := [(.tmp 0, .list .op)], vars := [(.itmp 3, .list .op), (.tmp 91, .int .i64)], inv := fun y v => rgP (lenI y.1) v.2.1, mu := fun y v => rgMu (lenI y.1) v.2.1 }), (8, 20, { fix := [], vars := [(.itmp 5, .list .op), (.tmp 127, .int .i64)], inv := fun y v => rgP (lenI v.1) v.2.1, mu := fun y v => rgMu (lenI v.1) v.2.1 })] []) 400 8 C_GroupKeeps x = T_GroupKeeps x.1 := by kernel_rfl
theorem p_GroupKeeps (l : List Op3) (h0 : (Sh.list .op).okA l) (hp : rchO l) : T_GroupKeeps l := by
  unfold T_GroupKeeps
  have hr : l.length * 96 ≤ 140737488351232 := hp
  have hcl := cloL_len l
  refine ⟨trivial, fun z hz => ⟨fun h => absurd (hz ▸ h) (by decide), fun _ => ⟨trivial, fun a ha => ?_⟩⟩⟩
  subst ha
  simp only [keep_sub, keep_0, keep_1]
  refine ⟨trivial, trivial, fit_app (Nat.le_refl _) (by simp; omega), ⟨Int.le_refl _, by show (0 : Int) ≤ _; omega, by show (_ : Int) ≤ _; unfold lapp; rw [List.length_append]; simp only [List.length_cons, List.length_nil]; omega⟩, trivial, fun z6 h6 z8 h8 => ⟨trivial, fun z10 h10 z12 h12 => ⟨trivial, fun z14 h14 z16 h16 => ?_⟩⟩⟩
  rw [← (clo_doc a).1] at h14
  rw [← (clo_doc a).2] at h16
  subst h6 h8 h10 h12 h14 h16
  refine ⟨fun h => absurd h (by simp), fun _ => ⟨trivial, fun h => absurd h (by rw [smO_self]; decide), fun _ => ⟨trivial, fun h => absurd h (by rw [smO_self]; decide), fun _ => ⟨trivial, trivial, fun h => absurd h (by simp), fun _ => ⟨trivial, fun h => absurd h (by rw [smO_self]; decide), fun _ => ⟨?_, trivial, fun h => absurd h (by decide), fun _ => ⟨?_, trivial, fun h => absurd h (by decide), fun _ => ⟨rg_init a, fun t i _ _ hI hlen => ⟨fun hi => ⟨trivial, ⟨hI.1, of_decide_eq_true hi⟩, rg_next (by omega) hI (of_decide_eq_true hi)⟩, fun hi => ⟨trivial, fun c hc e he => ⟨trivial, fun tw htw => ⟨trivial, fun d hd f hf => ?_⟩⟩⟩⟩⟩⟩⟩⟩⟩⟩⟩⟩
  · unfold inB lapp; rw [List.length_append]; simp only [List.length_cons, List.length_nil]; omega
  · unfold inB lapp; rw [List.length_append]; simp only [List.length_cons, List.length_nil]; omega
  subst htw
  rw [← (clo_doc _).1] at hd
  rw [← (clo_doc _).2] at hf
  subst hc he hd hf
  refine ⟨fun h => absurd h (by simp), fun _ => ⟨trivial, fun b hb => ⟨fun h => absurd (hb ▸ h) (by rw [smO_self]; decide), fun _ => ⟨trivial, fun b2 hb2 => ⟨fun h => absurd (hb2 ▸ h) (by rw [smO_self]; decide), fun _ => ⟨rg_init _, fun x k _ _ hK hlk => ?_⟩⟩⟩⟩⟩⟩
  have hlk : (x.length : Int) = ((cloL a).length : Int) := hlk
  simp only [last_app]
  refine ⟨fun hk => ?_, fun _ => ?_⟩
  · have hk := of_decide_eq_true hk
    rw [show ((lset x k _).length : Int) = (x.length : Int) by rw [lset_len]]
    exact ⟨trivial, ⟨hK.1, by omega⟩, rg_next (by omega) hK (by omega)⟩
  · exact ⟨trivial, fit_app (n := 192) (by omega) (by decide), trivial, fun w hw => ⟨fun h => absurd (hw ▸ h) (by rw [smO_self]; decide), fun _ => ⟨trivial, fit_app hcl (by decide), last_in _ _, trivial, fun _ => ⟨last_in _ _, trivial, by decide⟩, fun h => absurd h (by decide)⟩⟩⟩
theorem s_GroupKeeps : Sound Try.prog 8 C_GroupKeeps :=
  sound_of_eq (env0_ok (.cons s_awake5.hid (.cons s_r5Twin.hid (.cons s_turn5 (.cons s_minus5 (.cons s_gClose.hid (.cons s_r5DocClose.hid (.cons s_r5Same.hid (.cons s_gCheck.hid (.cons s_r5DocCheck.hid (.nil))))))))))) (fun x => T_GroupKeeps x.1) r_GroupKeeps fun x ok hp => p_GroupKeeps x.1 ok.1 hp
end Go.Fx
