/-
  Contracts: OrbitMoves.
-/
import Derived.Test.YtkcoohpammhnhaaK15
namespace Go.Fx
open Go Go.Proofs
set_option maxRecDepth 100000
set_option linter.unusedVariables false
set_option linter.unusedSimpArgs false
set_option linter.unusedSectionVars false
noncomputable def C_OrbitMoves : Contract := { args := [.list .op, .agg .pt, .int .i64], res := [.bool], pre := fun _ => True, F := fun x => ((true : Bool), ()) }
def T_OrbitMoves (g : List Op3) (p : Pt) (i : Int) : Prop :=
  (True ∧
∀ z3 : Bool,
(z3 = true →
(((!z3) = true →
 (false, ()) = (true, ())) ∧
((!z3) = false →
(True ∧
(True ∧
(((!(decide (ocE g [p] = 0))) = true →
 (true, ()) = (true, ())) ∧
((!(decide (ocE g [p] = 0))) = false →
(((g.length : Int) ≠ 0) ∧
(((g.length : Int) ≠ 0) ∧
(inB g ((Int.tmod (((Int.tmod i (g.length : Int)) + (g.length : Int))) (g.length : Int))) ∧
(True ∧
(True ∧
(True ∧
(((!(decide (appE (((g.getD ((Int.tmod (((Int.tmod i (g.length : Int)) + (g.length : Int))) (g.length : Int))).toNat zerO))) p = 0))) = true →
 (false, ()) = (true, ())) ∧
((!(decide (appE (((g.getD ((Int.tmod (((Int.tmod i (g.length : Int)) + (g.length : Int))) (g.length : Int))).toNat zerO))) p = 0))) = false →
(((!(decide (ocE g ([(appP (((g.getD ((Int.tmod (((Int.tmod i (g.length : Int)) + (g.length : Int))) (g.length : Int))).toNat zerO))) p)]) = 0))) = true →
 (false, ()) = (true, ())) ∧
((!(decide (ocE g ([(appP (((g.getD ((Int.tmod (((Int.tmod i (g.length : Int)) + (g.length : Int))) (g.length : Int))).toNat zerO))) p)]) = 0))) = false →
(((!(decide (((ofL g p).length : Int) = ((ofL g ((appP (((g.getD ((Int.tmod (((Int.tmod i (g.length : Int)) + (g.length : Int))) (g.length : Int))).toNat zerO))) p))).length : Int)))) = true →
 (false, ()) = (true, ())) ∧
((!(decide (((ofL g p).length : Int) = ((ofL g ((appP (((g.getD ((Int.tmod (((Int.tmod i (g.length : Int)) + (g.length : Int))) (g.length : Int))).toNat zerO))) p))).length : Int)))) = false →
(rgP (((ofL g p).length : Int)) 0 ∧
∀ z10 : Int,
((decide ((-9223372036854775808) ≤ z10)) = true →
((decide (z10 ≤ 9223372036854775807)) = true →
(rgP (((ofL g p).length : Int)) z10 →
(((decide (z10 < ((ofL g p).length : Int))) = true →
 (inB (ofL g p) z10 ∧
 (inB (ofL g ((appP (((g.getD ((Int.tmod (((Int.tmod i (g.length : Int)) + (g.length : Int))) (g.length : Int))).toNat zerO))) p))) z10 ∧
 (((!((decide ((((ofL g p).getD (z10).toNat (Pt.mk 0 (V3.mk 0 0 0)))).M = (((ofL g ((appP (((g.getD ((Int.tmod (((Int.tmod i (g.length : Int)) + (g.length : Int))) (g.length : Int))).toNat zerO))) p))).getD (z10).toNat (Pt.mk 0 (V3.mk 0 0 0)))).M)) && ((decide (((((ofL g p).getD (z10).toNat (Pt.mk 0 (V3.mk 0 0 0)))).X).x = ((((ofL g ((appP (((g.getD ((Int.tmod (((Int.tmod i (g.length : Int)) + (g.length : Int))) (g.length : Int))).toNat zerO))) p))).getD (z10).toNat (Pt.mk 0 (V3.mk 0 0 0)))).X).x)) && ((decide (((((ofL g p).getD (z10).toNat (Pt.mk 0 (V3.mk 0 0 0)))).X).y = ((((ofL g ((appP (((g.getD ((Int.tmod (((Int.tmod i (g.length : Int)) + (g.length : Int))) (g.length : Int))).toNat zerO))) p))).getD (z10).toNat (Pt.mk 0 (V3.mk 0 0 0)))).X).y)) && ((decide (((((ofL g p).getD (z10).toNat (Pt.mk 0 (V3.mk 0 0 0)))).X).z = ((((ofL g ((appP (((g.getD ((Int.tmod (((Int.tmod i (g.length : Int)) + (g.length : Int))) (g.length : Int))).toNat zerO))) p))).getD (z10).toNat (Pt.mk 0 (V3.mk 0 0 0)))).X).z)) && true))))) = true →
  (false, ()) = (true, ())) ∧
 ((!((decide ((((ofL g p).getD (z10).toNat (Pt.mk 0 (V3.mk 0 0 0)))).M = (((ofL g ((appP (((g.getD ((Int.tmod (((Int.tmod i (g.length : Int)) + (g.length : Int))) (g.length : Int))).toNat zerO))) p))).getD (z10).toNat (Pt.mk 0 (V3.mk 0 0 0)))).M)) && ((decide (((((ofL g p).getD (z10).toNat (Pt.mk 0 (V3.mk 0 0 0)))).X).x = ((((ofL g ((appP (((g.getD ((Int.tmod (((Int.tmod i (g.length : Int)) + (g.length : Int))) (g.length : Int))).toNat zerO))) p))).getD (z10).toNat (Pt.mk 0 (V3.mk 0 0 0)))).X).x)) && ((decide (((((ofL g p).getD (z10).toNat (Pt.mk 0 (V3.mk 0 0 0)))).X).y = ((((ofL g ((appP (((g.getD ((Int.tmod (((Int.tmod i (g.length : Int)) + (g.length : Int))) (g.length : Int))).toNat zerO))) p))).getD (z10).toNat (Pt.mk 0 (V3.mk 0 0 0)))).X).y)) && ((decide (((((ofL g p).getD (z10).toNat (Pt.mk 0 (V3.mk 0 0 0)))).X).z = ((((ofL g ((appP (((g.getD ((Int.tmod (((Int.tmod i (g.length : Int)) + (g.length : Int))) (g.length : Int))).toNat zerO))) p))).getD (z10).toNat (Pt.mk 0 (V3.mk 0 0 0)))).X).z)) && true))))) = false →
 (rgP (((ofL g p).length : Int)) ((w64 (z10 + 1))) ∧
 ((decide (0 ≤ lnX (ofL g p) ((w64 (z10 + 1))))) = true ∧
 (decide (lnX (ofL g p) ((w64 (z10 + 1))) < lnX (ofL g p) z10)) = true))))))) ∧
((decide (z10 < ((ofL g p).length : Int))) = false →
(True ∧
(True ∧
(True ∧
(True ∧
(True ∧
(True ∧
(((!(decide (ocE g [p] = 0))) = true →
 (false, ()) = (true, ())) ∧
((!(decide (ocE g [p] = 0))) = false →
(((!(decide (ocE g ([(appP (((g.getD ((Int.tmod (((Int.tmod i (g.length : Int)) + (g.length : Int))) (g.length : Int))).toNat zerO))) p)]) = 0))) = true →
 (false, ()) = (true, ())) ∧
((!(decide (ocE g ([(appP (((g.getD ((Int.tmod (((Int.tmod i (g.length : Int)) + (g.length : Int))) (g.length : Int))).toNat zerO))) p)]) = 0))) = false →
(((!(decide (saE g p ((appP (((g.getD ((Int.tmod (((Int.tmod i (g.length : Int)) + (g.length : Int))) (g.length : Int))).toNat zerO))) p)) = 0))) = true →
 (false, ()) = (true, ())) ∧
((!(decide (saE g p ((appP (((g.getD ((Int.tmod (((Int.tmod i (g.length : Int)) + (g.length : Int))) (g.length : Int))).toNat zerO))) p)) = 0))) = false →
(((!((decide ((lsP g p).M = (lsP g ((appP (((g.getD ((Int.tmod (((Int.tmod i (g.length : Int)) + (g.length : Int))) (g.length : Int))).toNat zerO))) p))).M)) && ((decide (((lsP g p).X).x = ((lsP g ((appP (((g.getD ((Int.tmod (((Int.tmod i (g.length : Int)) + (g.length : Int))) (g.length : Int))).toNat zerO))) p))).X).x)) && ((decide (((lsP g p).X).y = ((lsP g ((appP (((g.getD ((Int.tmod (((Int.tmod i (g.length : Int)) + (g.length : Int))) (g.length : Int))).toNat zerO))) p))).X).y)) && ((decide (((lsP g p).X).z = ((lsP g ((appP (((g.getD ((Int.tmod (((Int.tmod i (g.length : Int)) + (g.length : Int))) (g.length : Int))).toNat zerO))) p))).X).z)) && true))))) = true →
 (false, ()) = (true, ())) ∧
((!((decide ((lsP g p).M = (lsP g ((appP (((g.getD ((Int.tmod (((Int.tmod i (g.length : Int)) + (g.length : Int))) (g.length : Int))).toNat zerO))) p))).M)) && ((decide (((lsP g p).X).x = ((lsP g ((appP (((g.getD ((Int.tmod (((Int.tmod i (g.length : Int)) + (g.length : Int))) (g.length : Int))).toNat zerO))) p))).X).x)) && ((decide (((lsP g p).X).y = ((lsP g ((appP (((g.getD ((Int.tmod (((Int.tmod i (g.length : Int)) + (g.length : Int))) (g.length : Int))).toNat zerO))) p))).X).y)) && ((decide (((lsP g p).X).z = ((lsP g ((appP (((g.getD ((Int.tmod (((Int.tmod i (g.length : Int)) + (g.length : Int))) (g.length : Int))).toNat zerO))) p))).X).z)) && true))))) = false →
(inB (ofL g p) 0 ∧
(((!((decide ((lsP g p).M = (((ofL g p).getD 0 (Pt.mk 0 (V3.mk 0 0 0)))).M)) && ((decide (((lsP g p).X).x = ((((ofL g p).getD 0 (Pt.mk 0 (V3.mk 0 0 0)))).X).x)) && ((decide (((lsP g p).X).y = ((((ofL g p).getD 0 (Pt.mk 0 (V3.mk 0 0 0)))).X).y)) && ((decide (((lsP g p).X).z = ((((ofL g p).getD 0 (Pt.mk 0 (V3.mk 0 0 0)))).X).z)) && true))))) = true →
 (false, ()) = (true, ())) ∧
((!((decide ((lsP g p).M = (((ofL g p).getD 0 (Pt.mk 0 (V3.mk 0 0 0)))).M)) && ((decide (((lsP g p).X).x = ((((ofL g p).getD 0 (Pt.mk 0 (V3.mk 0 0 0)))).X).x)) && ((decide (((lsP g p).X).y = ((((ofL g p).getD 0 (Pt.mk 0 (V3.mk 0 0 0)))).X).y)) && ((decide (((lsP g p).X).z = ((((ofL g p).getD 0 (Pt.mk 0 (V3.mk 0 0 0)))).X).z)) && true))))) = false →
(((!saB g p ((appP (((g.getD ((Int.tmod (((Int.tmod i (g.length : Int)) + (g.length : Int))) (g.length : Int))).toNat zerO))) p))) = true →
 (false, ()) = (true, ())) ∧
((!saB g p ((appP (((g.getD ((Int.tmod (((Int.tmod i (g.length : Int)) + (g.length : Int))) (g.length : Int))).toNat zerO))) p))) = false →
(((decide (lsI g p < 0)) = true →
 (false, ()) = (true, ())) ∧
((decide (lsI g p < 0)) = false →
(((decide ((g.length : Int) ≤ lsI g p)) = true →
 (false, ()) = (true, ())) ∧
((decide ((g.length : Int) ≤ lsI g p)) = false →
(mvP (lsI g p) 0 ∧
∀ z23 : Int,
((decide ((-9223372036854775808) ≤ z23)) = true →
((decide (z23 ≤ 9223372036854775807)) = true →
(mvP (lsI g p) z23 →
(((decide (z23 ≤ lsI g p)) = true →
 (inB g z23 ∧
 (True ∧
 (((!(decide (appE (((g.getD (z23).toNat zerO))) p = 0))) = true →
  (false, ()) = (true, ())) ∧
 ((!(decide (appE (((g.getD (z23).toNat zerO))) p = 0))) = false →
 (((!(((decide ((appP (((g.getD (z23).toNat zerO))) p).M = (lsP g p).M)) && ((decide (((appP (((g.getD (z23).toNat zerO))) p).X).x = ((lsP g p).X).x)) && ((decide (((appP (((g.getD (z23).toNat zerO))) p).X).y = ((lsP g p).X).y)) && ((decide (((appP (((g.getD (z23).toNat zerO))) p).X).z = ((lsP g p).X).z)) && true)))) == (decide (z23 = lsI g p)))) = true →
  (false, ()) = (true, ())) ∧
 ((!(((decide ((appP (((g.getD (z23).toNat zerO))) p).M = (lsP g p).M)) && ((decide (((appP (((g.getD (z23).toNat zerO))) p).X).x = ((lsP g p).X).x)) && ((decide (((appP (((g.getD (z23).toNat zerO))) p).X).y = ((lsP g p).X).y)) && ((decide (((appP (((g.getD (z23).toNat zerO))) p).X).z = ((lsP g p).X).z)) && true)))) == (decide (z23 = lsI g p)))) = false →
 (mvP (lsI g p) ((w64 (z23 + 1))) ∧
 ((decide (0 ≤ mvMu (lsI g p) ((w64 (z23 + 1))))) = true ∧
 (decide (mvMu (lsI g p) ((w64 (z23 + 1))) < mvMu (lsI g p) z23)) = true))))))))) ∧
((decide (z23 ≤ lsI g p)) = false →
(true, ()) = (true, ()))))))))))))))))))))))))))))))))))))))))))))))))))))))))
theorem r_OrbitMoves (x : HL C_OrbitMoves.args) : runs (env0 [(10, C_awake9.hid), (12, C_r5Twin.hid), (11, C_oOf.hid), (26, C_opApply.hid), (18, C_oLeast.hid), (20, C_oSame.hid)] [(7, 12, { fix := [(.tmp 72, .list .pt)], vars := [(.tmp 74, .int .i64)], inv := fun y v => rgP (lenI y.1) v.1, mu := fun y v => lnX y.1 v.1 }), (7, 23, { fix := [(.tmp 14, .int .i64)], vars := [(.tmp 19, .int .i64)], inv := fun y v => mvP y.1 v.1, mu := fun y v => mvMu y.1 v.1 })] []) 400 7 C_OrbitMoves x = T_OrbitMoves x.1 x.2.1 x.2.2.1 := by kernel_rfl
theorem p_OrbitMoves (g : List Op3) (p : Pt) (i : Int) (h0 : (Sh.list .op).okA g) (h1 : (Sh.agg .pt).okA p) (h2 : (Sh.int .i64).okA i) : T_OrbitMoves g p i := by
  unfold T_OrbitMoves
  simp only [eqPc]
  refine ⟨trivial, fun z hz => ⟨fun h => absurd (hz ▸ h) (by decide), fun _ => ⟨trivial, trivial, fun _ => by trivial, fun q => ?_⟩⟩⟩
  have hz : ocE g [p] = 0 := by simpa using q
  have hl2 : g.length ≤ 192 := (oc_P hz).2.2
  have h1 : 0 < g.length := by
    have := of_head hz; have := of_len hz; omega
  have hm := idx_in (g := g) i h1
  refine ⟨by omega, by omega, hm, trivial, trivial, trivial, ?_⟩
  generalize Int.tmod (Int.tmod i (g.length : Int) + (g.length : Int)) (g.length : Int) = k at hm ⊢
  have ha := getD_mem hm.1 hm.2 zerO
  obtain ⟨e1, e2⟩ := app_eq hz ha
  rw [e1, e2]
  generalize g.getD k.toNat zerO = o at ha ⊢
  obtain ⟨s1, s2⟩ := sa_iff hz (oc_move hz (a := o)) rfl
  have hin : appX o p ∈ imP g p := (im_iff hz).2 ⟨o, ha, rfl⟩
  rw [decide_eq_true hin] at s2
  obtain ⟨t1, t2⟩ := of_head hz
  obtain ⟨u1, u2⟩ := ls_idx hz
  have lp := of_len hz
  rw [of_move hz ha, ls_move hz ha, oc_move hz, s1, s2, hz]
  refine ⟨fun h => absurd h (by decide), fun _ => ⟨fun h => absurd h (by decide), fun _ => ⟨fun h => absurd h (by simp), fun _ => ⟨rg_init _, fun j _ _ hJ => ⟨fun hj => ?_, fun _ => ⟨trivial, trivial, trivial, trivial, trivial, trivial, fun h => absurd h (by decide), fun _ => ⟨fun h => absurd h (by decide), fun _ => ⟨fun h => absurd h (by decide), fun _ => ⟨fun h => absurd h (by simp), fun _ => ⟨⟨Int.le_refl _, by omega⟩, fun h => absurd h ?_, fun _ => ⟨fun h => absurd h (by decide), fun _ => ⟨fun h => absurd (of_decide_eq_true h) (by have := u1.1; omega), fun _ => ⟨fun h => absurd (of_decide_eq_true h) (by have := u1.2; omega), fun _ => ⟨⟨Int.le_refl _, by have := u1.1; omega⟩, fun j _ _ hJ => ⟨fun hj => ?_, fun _ => by trivial⟩⟩⟩⟩⟩⟩⟩⟩⟩⟩⟩⟩⟩⟩⟩
  · have hj := of_decide_eq_true hj
    have j0 := hJ.1
    have f1 : w64 (j + 1) = j + 1 := w64_id (by omega) (by omega)
    rw [f1]
    exact ⟨⟨j0, hj⟩, ⟨j0, hj⟩, fun h => absurd h (by simp), fun _ => ⟨⟨by omega, by omega⟩, decide_eq_true (by unfold lnX; omega), decide_eq_true (by unfold lnX; omega)⟩⟩
  · rw [show (ofL g p).getD 0 (Pt.mk 0 (V3.mk 0 0 0)) = lsP g p from t1]; simp
  · have hj := of_decide_eq_true hj
    have j0 := hJ.1
    have hjb : inB g j := ⟨j0, by have := u1.2; omega⟩
    have f1 : w64 (j + 1) = j + 1 := w64_id (by have := hjb.2; omega) (by have := hjb.2; omega)
    rw [f1, (app_eq hz (getD_mem hjb.1 hjb.2 zerO)).2, u2 j hjb hj]
    refine ⟨hjb, trivial, fun h => absurd h (by decide), fun _ => ⟨fun h => absurd h (by simp), fun _ => ⟨⟨by omega, by omega⟩, decide_eq_true (by unfold mvMu; omega), decide_eq_true (by unfold mvMu; omega)⟩⟩⟩
theorem s_OrbitMoves : Sound Try.prog 7 C_OrbitMoves :=
  sound_of_eq (env0_ok (.cons s_awake9.hid (.cons s_r5Twin.hid (.cons s_oOf.hid (.cons s_opApply.hid (.cons s_oLeast.hid (.cons s_oSame.hid (.nil)))))))) (fun x => T_OrbitMoves x.1 x.2.1 x.2.2.1) r_OrbitMoves fun x ok hp => p_OrbitMoves x.1 x.2.1 x.2.2.1 ok.1 ok.2.1 ok.2.2.1
end Go.Fx
