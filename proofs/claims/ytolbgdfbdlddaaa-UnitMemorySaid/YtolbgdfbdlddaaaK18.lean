/-
  Contracts: UnitOwns.
-/
import Derived.Test.YtolbgdfbdlddaaaK17
namespace Go.Fx
open Go Go.Proofs
set_option maxRecDepth 100000
set_option linter.unusedVariables false
set_option linter.unusedSimpArgs false
set_option linter.unusedSectionVars false
noncomputable def C_UnitOwns : Contract := { args := [.list .op, .agg .vec], res := [.bool], pre := fun _ => True, F := fun x => ((true : Bool), ()) }
def T_UnitOwns (g : List Op3) (n : V3) : Prop :=
  (True ∧
∀ z2 : Bool,
(z2 = true →
(((!z2) = true →
 (false, ()) = (true, ())) ∧
((!z2) = false →
(True ∧
∀ z5 : Bool,
(z5 = fewB n →
(((!z5) = true →
 (true, ()) = (true, ())) ∧
((!z5) = false →
(True ∧
∀ z8 : List V3,
(z8 = fiL g n →
∀ z10 : List Int,
(z10 = ciL g n →
∀ z12 : Int,
(z12 = fuE g n →
(True ∧
∀ z14 : List Int,
(z14 = owL g n →
∀ z16 : Int,
(z16 = fuE g n →
(((!(decide (z12 = 0))) = true →
 (((decide (z16 = z12)) = true →
  ((decide ((z14.length : Int) = 0)), ()) = (true, ())) ∧
 ((decide (z16 = z12)) = false →
 (false, ()) = (true, ())))) ∧
((!(decide (z12 = 0))) = false →
(((!(decide (z16 = 0))) = true →
 (false, ()) = (true, ())) ∧
((!(decide (z16 = 0))) = false →
(((!(decide ((z14.length : Int) = (w64 (((w64 (n.x * n.y)) * n.z)))))) = true →
 (false, ()) = (true, ())) ∧
((!(decide ((z14.length : Int) = (w64 (((w64 (n.x * n.y)) * n.z)))))) = false →
((leP 0 (z8.length : Int) ∧
 lfit 8 ((lrep (z8.length : Int) (0 : Int)))) ∧
(uoI g n ((lrep (z8.length : Int) (0 : Int))) 0 ∧
∀ z21 : List Int,
∀ z22 : Int,
((decide ((-9223372036854775808) ≤ z22)) = true →
((decide (z22 ≤ 9223372036854775807)) = true →
(uoI g n z21 z22 →
(eqP (z21.length : Int) ((((lrep (z8.length : Int) (0 : Int))).length : Int)) →
(((decide (z22 < (z14.length : Int))) = true →
 (inB z14 z22 ∧
 (((decide ((z14.getD (z22).toNat 0) < 0)) = true →
  (false, ()) = (true, ())) ∧
 ((decide ((z14.getD (z22).toNat 0) < 0)) = false →
 (((decide ((z8.length : Int) ≤ (z14.getD (z22).toNat 0))) = true →
  (false, ()) = (true, ())) ∧
 ((decide ((z8.length : Int) ≤ (z14.getD (z22).toNat 0))) = false →
 ((inB z21 ((z14.getD (z22).toNat 0)) ∧
  (((decide ((z21.getD ((z14.getD (z22).toNat 0)).toNat 0) = 0)) = true →
   (inB z8 ((z14.getD (z22).toNat 0)) ∧
   (atP n z22 ∧
   (((!((decide (((z8.getD ((z14.getD (z22).toNat 0)).toNat (V3.mk 0 0 0))).x = (atV n z22).x)) && ((decide (((z8.getD ((z14.getD (z22).toNat 0)).toNat (V3.mk 0 0 0))).y = (atV n z22).y)) && ((decide (((z8.getD ((z14.getD (z22).toNat 0)).toNat (V3.mk 0 0 0))).z = (atV n z22).z)) && true)))) = true →
    (false, ()) = (true, ())) ∧
   ((!((decide (((z8.getD ((z14.getD (z22).toNat 0)).toNat (V3.mk 0 0 0))).x = (atV n z22).x)) && ((decide (((z8.getD ((z14.getD (z22).toNat 0)).toNat (V3.mk 0 0 0))).y = (atV n z22).y)) && ((decide (((z8.getD ((z14.getD (z22).toNat 0)).toNat (V3.mk 0 0 0))).z = (atV n z22).z)) && true)))) = false →
   True))))) ∧
  ((decide ((z21.getD ((z14.getD (z22).toNat 0)).toNat 0) = 0)) = false →
  True))) ∧
 (True →
 (inB z21 ((z14.getD (z22).toNat 0)) ∧
 (inB z21 ((z14.getD (z22).toNat 0)) ∧
 (rgP (g.length : Int) 0 ∧
 ∀ z31 : Int,
 ((decide ((-9223372036854775808) ≤ z31)) = true →
 ((decide (z31 ≤ 9223372036854775807)) = true →
 (rgP (g.length : Int) z31 →
 (((decide (z31 < (g.length : Int))) = true →
  (inB g z31 ∧
  (atP n z22 ∧
  (True ∧
  (((!(decide (muE (((g.getD (z31).toNat zerO))) n (atV n z22) = 0))) = true →
   (false, ()) = (true, ())) ∧
  ((!(decide (muE (((g.getD (z31).toNat zerO))) n (atV n z22) = 0))) = false →
  (numP n (muV (((g.getD (z31).toNat zerO))) n (atV n z22)) ∧
  ∀ z37 : Int,
  (z37 = numV n (muV (((g.getD (z31).toNat zerO))) n (atV n z22)) →
  (inB z14 z37 ∧
  (((!(decide ((z14.getD (z37).toNat 0) = (z14.getD (z22).toNat 0)))) = true →
   (false, ()) = (true, ())) ∧
  ((!(decide ((z14.getD (z37).toNat 0) = (z14.getD (z22).toNat 0)))) = false →
  (rgP (g.length : Int) ((w64 (z31 + 1))) ∧
  ((decide (0 ≤ opMu g ((w64 (z31 + 1))))) = true ∧
  (decide (opMu g ((w64 (z31 + 1))) < opMu g z31)) = true))))))))))))) ∧
 ((decide (z31 < (g.length : Int))) = false →
 (uoI g n (lset z21 ((z14.getD (z22).toNat 0)) ((w64 (((z21.getD ((z14.getD (z22).toNat 0)).toNat 0) + 1))))) ((w64 (z22 + 1))) ∧
 ((decide (0 ≤ mPl n ((w64 (z22 + 1))))) = true ∧
 (decide (mPl n ((w64 (z22 + 1))) < mPl n z22)) = true)))))))))))))))))) ∧
((decide (z22 < (z14.length : Int))) = false →
(True ∧
∀ z28 : Bool,
(z28 = smI z21 z10 →
(z28, ()) = (true, ()))))))))))))))))))))))))))))))))
theorem r_UnitOwns (x : HL C_UnitOwns.args) : runs (env0 [(13, C_awake10.hid), (18, C_few10.hid), (19, C_uFirsts.hid), (20, C_uOwner.hid), (16, C_uMove.hid), (21, C_r10At.hid), (22, C_r10Num.hid), (23, C_ints10.hid)] [(5, 13, { fix := [], vars := [(.itmp 10, .list .int), (.tmp 65, .int .i64)], inv := fun y v => uoI x.1 x.2.1 v.1 v.2.1, mu := fun y v => mPl x.2.1 v.2.1 }), (5, 21, { fix := [], vars := [(.tmp 101, .int .i64)], inv := fun y v => rgP (lenI x.1) v.1, mu := fun y v => opMu x.1 v.1 })] [(5, 19, { fix := [], vars := [], inv := fun y v => True, mu := fun y v => 0 })]) 1500 5 C_UnitOwns x = T_UnitOwns x.1 x.2.1 := by kernel_rfl
theorem p_UnitOwns (g : List Op3) (n : V3) (h0 : (Sh.list .op).okA g) (h1 : (Sh.agg .vec).okA n) : T_UnitOwns g n := by
  have hb : g.length * 96 ≤ room := h0.2
  unfold T_UnitOwns
  refine ⟨trivial, fun z hz => ⟨fun h => absurd (hz ▸ h) (by decide), fun _ => ⟨trivial, fun fw hfw => ⟨fun _ => by trivial, fun _ => ⟨trivial, fun f hf c hc e he => ⟨trivial, fun o ho e2 he2 => ⟨fun q => ?_, fun q => ?_⟩⟩⟩⟩⟩⟩⟩
  · have hne : fuE g n ≠ 0 := by rw [← he]; simpa using q
    obtain ⟨a1, a2, a3, a4⟩ := ans_no hne
    rw [ho, he, he2, a3]
    exact ⟨fun _ => rfl, fun h => absurd h (by simp)⟩
  have hz0 : fuE g n = 0 := by rw [← he]; simpa using q
  obtain ⟨hck, hn, hs, hfB, _⟩ := fu_zero hz0
  have hA := fu_act hz0
  have hpl := pl_pos hs
  have hFm := (chk_grp hck).1
  obtain ⟨a1, a2, a3, a4⟩ := ans_ok hz0
  rw [a1] at hf
  rw [a2] at hc
  rw [a3] at ho
  obtain ⟨l1, l2, l3⟩ := fs_lenP (g := g) (n := n)
  have hP2 : plN n ≤ 262144 := by unfold plN; omega
  have hl : ((orO g n).length : Int) = plcs n := by rw [or_len]; unfold plN; omega
  subst hf hc ho
  rw [lrep_w hn, hl]
  refine ⟨fun h => absurd h (by rw [he2, hz0]; decide), fun _ => ⟨fun h => absurd h (by simp), fun _ => ⟨⟨by show (0 : Int) ≤ _; omega, ?_⟩, uo_0 hs, fun u i _ _ hI lu => ⟨fun hi => ?_, fun hi => ⟨trivial, fun b hb => ?_⟩⟩⟩⟩⟩
  · show (lrep ((fsA g n).length : Int) (0 : Int)).length * 8 ≤ 140737488355328
    unfold lrep; rw [List.length_replicate]; omega
  · have hi := of_decide_eq_true hi
    obtain ⟨k, hk, k1, k2, k3, k4, k5, k6, k7⟩ := uo_at hA hs hI hi
    rw [hk]
    refine ⟨k1, fun h => absurd (of_decide_eq_true h) (by omega), fun _ => ⟨fun h => absurd (of_decide_eq_true h) (by omega), fun _ => ⟨⟨k4, fun h => ⟨k5, ⟨hn, hI.1.1, hi⟩, fun h2 => absurd h2 (by rw [eqVc, k6 (of_decide_eq_true h)]; simp), fun _ => by trivial⟩, fun _ => by trivial⟩, fun _ => ⟨k4, k4, ⟨Int.le_refl _, by omega⟩, fun j _ _ hJ => ⟨fun hj => ?_, fun hj => k7⟩⟩⟩⟩⟩
    have hj := of_decide_eq_true hj
    have hgo := getD_mem hJ.1 hj zerO
    obtain ⟨m1, m2⟩ := mu_of (n := n) (a := atV n i) ⟨hFm _ hgo, hn, hfB _ hgo, at_in hs hI.1.1 hi⟩
    obtain ⟨w1, w2⟩ := uo_move hA hs hI.1.1 hi hgo
    rw [m1, m2]
    refine ⟨⟨hJ.1, hj⟩, ⟨hn, hI.1.1, hi⟩, trivial, fun h => absurd h (by decide), fun _ => ⟨⟨hn, mov_in _ hs _⟩, fun w hw => ?_⟩⟩
    rw [hw]
    refine ⟨w1, fun h => absurd h (by rw [w2, hk]; simp), fun _ => ?_⟩
    obtain ⟨e1, e2, e3⟩ := opMu_next hb hJ.1 hj
    rw [e1] at e2 e3 ⊢
    exact ⟨⟨by have := hJ.1; omega, by omega⟩, e2, e3⟩
  · rw [hb, uo_end hI (of_decide_eq_false hi)]; simp [smI]
theorem s_UnitOwns : Sound Try.prog 5 C_UnitOwns :=
  sound_of_eqs (fun x => env0 [(13, C_awake10.hid), (18, C_few10.hid), (19, C_uFirsts.hid), (20, C_uOwner.hid), (16, C_uMove.hid), (21, C_r10At.hid), (22, C_r10Num.hid), (23, C_ints10.hid)] [(5, 13, { fix := [], vars := [(.itmp 10, .list .int), (.tmp 65, .int .i64)], inv := fun y v => uoI x.1 x.2.1 v.1 v.2.1, mu := fun y v => mPl x.2.1 v.2.1 }), (5, 21, { fix := [], vars := [(.tmp 101, .int .i64)], inv := fun y v => rgP (lenI x.1) v.1, mu := fun y v => opMu x.1 v.1 })] [(5, 19, { fix := [], vars := [], inv := fun y v => True, mu := fun y v => 0 })]) (fun _ => rfl) (fun _ => env0_ok (.cons s_awake10.hid (.cons s_few10.hid (.cons s_uFirsts.hid (.cons s_uOwner.hid (.cons s_uMove.hid (.cons s_r10At.hid (.cons s_r10Num.hid (.cons s_ints10.hid (.nil)))))))))) (fun x => T_UnitOwns x.1 x.2.1) r_UnitOwns fun x ok hp => p_UnitOwns x.1 x.2.1 ok.1 ok.2.1
end Go.Fx
