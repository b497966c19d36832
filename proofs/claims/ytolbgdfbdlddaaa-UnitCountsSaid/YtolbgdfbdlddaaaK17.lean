/-
  Contracts: UnitCounts.
-/
import Derived.Test.YtolbgdfbdlddaaaK16
namespace Go.Fx
open Go Go.Proofs
set_option maxRecDepth 100000
set_option linter.unusedVariables false
set_option linter.unusedSimpArgs false
set_option linter.unusedSectionVars false
noncomputable def C_UnitCounts : Contract := { args := [.list .op, .agg .vec], res := [.bool], pre := fun _ => True, F := fun x => ((true : Bool), ()) }
def T_UnitCounts (g : List Op3) (n : V3) : Prop :=
  (True ∧
∀ z2 : Bool,
(z2 = true →
(((!z2) = true →
 (false, ()) = (true, ())) ∧
((!z2) = false →
(True ∧
∀ z5 : Bool,
(z5 = fewB n →
(((!z5) = true →
 (true, ()) = (true, ())) ∧
((!z5) = false →
(True ∧
∀ z8 : List V3,
(z8 = fiL g n →
∀ z10 : List Int,
(z10 = ciL g n →
∀ z12 : Int,
(z12 = fuE g n →
(True ∧
∀ z14 : List Int,
(z14 = fxL g n →
∀ z16 : Int,
(z16 = fuE g n →
(((!(decide (z12 = 0))) = true →
 (((decide (z16 = z12)) = true →
  (((decide ((z8.length : Int) = 0)) = true →
   (((decide ((z10.length : Int) = 0)) = true →
    ((decide ((z14.length : Int) = 0)), ()) = (true, ())) ∧
   ((decide ((z10.length : Int) = 0)) = false →
   (false, ()) = (true, ())))) ∧
  ((decide ((z8.length : Int) = 0)) = false →
  (false, ()) = (true, ())))) ∧
 ((decide (z16 = z12)) = false →
 (false, ()) = (true, ())))) ∧
((!(decide (z12 = 0))) = false →
(((!(decide (z16 = 0))) = true →
 (false, ()) = (true, ())) ∧
((!(decide (z16 = 0))) = false →
(((!(decide ((z8.length : Int) = (z10.length : Int)))) = true →
 (false, ()) = (true, ())) ∧
((!(decide ((z8.length : Int) = (z10.length : Int)))) = false →
(((!(decide ((z14.length : Int) = (g.length : Int)))) = true →
 (false, ()) = (true, ())) ∧
((!(decide ((z14.length : Int) = (g.length : Int)))) = false →
(smU z10 0 0 ∧
∀ z22 : Int,
((decide ((-9223372036854775808) ≤ z22)) = true →
((decide (z22 ≤ 9223372036854775807)) = true →
∀ z25 : Int,
((decide ((-9223372036854775808) ≤ z25)) = true →
((decide (z25 ≤ 9223372036854775807)) = true →
(smU z10 z22 z25 →
(((decide (z25 < (z10.length : Int))) = true →
 (inB z10 z25 ∧
 (((decide ((z10.getD (z25).toNat 0) < 1)) = true →
  (false, ()) = (true, ())) ∧
 ((decide ((z10.getD (z25).toNat 0) < 1)) = false →
 (((z10.getD (z25).toNat 0) ≠ 0) ∧
 (((!(decide ((Int.tmod (g.length : Int) ((z10.getD (z25).toNat 0))) = 0))) = true →
  (false, ()) = (true, ())) ∧
 ((!(decide ((Int.tmod (g.length : Int) ((z10.getD (z25).toNat 0))) = 0))) = false →
 (smU z10 ((w64 ((z22 + (z10.getD (z25).toNat 0))))) ((w64 (z25 + 1))) ∧
 ((decide (0 ≤ inMu z10 ((w64 (z25 + 1))))) = true ∧
 (decide (inMu z10 ((w64 (z25 + 1))) < inMu z10 z25)) = true))))))))) ∧
((decide (z25 < (z10.length : Int))) = false →
(smU z14 0 0 ∧
∀ z30 : Int,
((decide ((-9223372036854775808) ≤ z30)) = true →
((decide (z30 ≤ 9223372036854775807)) = true →
∀ z33 : Int,
((decide ((-9223372036854775808) ≤ z33)) = true →
((decide (z33 ≤ 9223372036854775807)) = true →
(smU z14 z30 z33 →
(((decide (z33 < (z14.length : Int))) = true →
 (inB z14 z33 ∧
 (smU z14 ((w64 ((z30 + (z14.getD (z33).toNat 0))))) ((w64 (z33 + 1))) ∧
 ((decide (0 ≤ inMu z14 ((w64 (z33 + 1))))) = true ∧
 (decide (inMu z14 ((w64 (z33 + 1))) < inMu z14 z33)) = true)))) ∧
((decide (z33 < (z14.length : Int))) = false →
(((decide (z22 = (w64 (((w64 (n.x * n.y)) * n.z))))) = true →
 ((decide (z30 = (w64 (((z8.length : Int) * (g.length : Int)))))), ()) = (true, ())) ∧
((decide (z22 = (w64 (((w64 (n.x * n.y)) * n.z))))) = false →
(false, ()) = (true, ()))))))))))))))))))))))))))))))))))))))))))
theorem r_UnitCounts (x : HL C_UnitCounts.args) : runs (env0 [(13, C_awake10.hid), (18, C_few10.hid), (19, C_uFirsts.hid), (24, C_uFixed.hid)] [(6, 13, { fix := [(.tmp 70, .list .int)], vars := [(.tmp 10, .int .i64), (.tmp 72, .int .i64)], inv := fun y v => smU y.1 v.1 v.2.1, mu := fun y v => inMu y.1 v.2.1 }), (6, 20, { fix := [(.tmp 89, .list .int)], vars := [(.tmp 11, .int .i64), (.tmp 91, .int .i64)], inv := fun y v => smU y.1 v.1 v.2.1, mu := fun y v => inMu y.1 v.2.1 })] []) 400 6 C_UnitCounts x = T_UnitCounts x.1 x.2.1 := by kernel_rfl
theorem p_UnitCounts (g : List Op3) (n : V3) (h0 : (Sh.list .op).okA g) (h1 : (Sh.agg .vec).okA n) : T_UnitCounts g n := by
  unfold T_UnitCounts
  refine ⟨trivial, fun z hz => ⟨fun h => absurd (hz ▸ h) (by decide), fun _ => ⟨trivial, fun fw hfw => ⟨fun _ => by trivial, fun _ => ⟨trivial, fun f hf c hc e he => ⟨trivial, fun x hx e2 he2 => ⟨fun q => ?_, fun q => ?_⟩⟩⟩⟩⟩⟩⟩
  · have hne : fuE g n ≠ 0 := by rw [← he]; simpa using q
    obtain ⟨a1, a2, a3, a4⟩ := ans_no hne
    rw [hf, hc, hx, he, he2, a1, a2, a4]
    exact ⟨fun _ => ⟨fun _ => ⟨fun _ => rfl, fun h => absurd h (by decide)⟩, fun h => absurd h (by decide)⟩, fun h => absurd h (by simp)⟩
  have h0 : fuE g n = 0 := by rw [← he]; simpa using q
  obtain ⟨hck, hn, hs, _, _⟩ := fu_zero h0
  have hA := fu_act h0
  have hpl := pl_pos hs
  obtain ⟨a1, a2, a3, a4⟩ := ans_ok h0
  rw [a1] at hf
  rw [a2] at hc
  rw [a4] at hx
  have hgl := chk_len hck
  obtain ⟨l1, l2, l3⟩ := fs_lenP (g := g) (n := n)
  have hP2 : plN n ≤ 262144 := by unfold plN; omega
  subst hf hc hx
  have hxl : ((g.map fun o => ((fxN (mvN n) (plN n) o : Nat) : Int)).length : Int) = (g.length : Int) := by rw [List.length_map]
  refine ⟨fun h => absurd h (by rw [he2, h0]; decide), fun _ => ⟨fun h => absurd h (by rw [l1, l2]; simp), fun _ => ⟨fun h => absurd h (by rw [hxl]; simp), fun _ => ⟨smU_0 _, fun s _ _ i _ _ hS => ⟨fun hi => ?_, fun hi => ⟨smU_0 _, fun t _ _ j _ _ hT => ⟨fun hj => ?_, fun hj => ?_⟩⟩⟩⟩⟩⟩⟩
  · have hi := of_decide_eq_true hi
    obtain ⟨n1, n2⟩ := smU_next (by omega) (fun y hy => ⟨by have := (cs_mem hA hs hy).1; omega, (cs_mem hA hs hy).1.2⟩) hS hi
    obtain ⟨m1, m2⟩ := cs_mem hA hs (getD_mem hS.1.1 hi (0 : Int))
    exact ⟨n1, fun h => absurd (of_decide_eq_true h) (by omega), fun _ => ⟨by omega, fun h => absurd h (by rw [m2]; decide), fun _ => n2⟩⟩
  · exact smU_next (by rw [List.length_map]; omega) (fun y hy => fx_mem hs hy) hT (of_decide_eq_true hj)
  · have es := smU_end hS (of_decide_eq_false hi)
    have et := smU_end hT (of_decide_eq_false hj)
    rw [cs_sum hA hs] at es
    rw [fx_sum hA] at et
    have hp0 : 0 ≤ ((fsA g n).length : Int) * (g.length : Int) := Int.mul_nonneg (by omega) (by omega)
    have hp1 : ((fsA g n).length : Int) * (g.length : Int) ≤ 262144 * 192 := Int.le_trans (Int.mul_le_mul_of_nonneg_right (show ((fsA g n).length : Int) ≤ 262144 by omega) (by omega)) (Int.mul_le_mul_of_nonneg_left (show (g.length : Int) ≤ 192 by omega) (by omega))
    rw [lrep_w hn, es, et, w64_id (by omega) (by omega), decide_eq_true rfl, decide_eq_true rfl]
    exact ⟨fun _ => rfl, fun h => absurd h (by decide)⟩
theorem s_UnitCounts : Sound Try.prog 6 C_UnitCounts :=
  sound_of_eq (env0_ok (.cons s_awake10.hid (.cons s_few10.hid (.cons s_uFirsts.hid (.cons s_uFixed.hid (.nil)))))) (fun x => T_UnitCounts x.1 x.2.1) r_UnitCounts fun x ok hp => p_UnitCounts x.1 x.2.1 ok.1 ok.2.1
end Go.Fx
