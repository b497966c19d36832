/-
  Contracts: WholeUnits.
-/
import Derived.Test.YtolbgdfbdlddaaaK29
namespace Go.Fx
open Go Go.Proofs
set_option maxRecDepth 100000
set_option linter.unusedVariables false
set_option linter.unusedSimpArgs false
set_option linter.unusedSectionVars false
noncomputable def C_WholeUnits : Contract := { args := [.list .seed, .agg .v8, .bool], res := [.bool], pre := fun _ => True, F := fun x => ((true : Bool), ()) }
def T_WholeUnits (l : List Sd) (b : V3) (even : Bool) : Prop :=
  (True ∧
∀ z3 : Bool,
(z3 = true →
(((!z3) = true →
 (false, ()) = (true, ())) ∧
((!z3) = false →
(True ∧
∀ z6 : List Op3,
(z6 = sedL l →
(True ∧
∀ z8 : List Op3,
(z8 = cloL z6 →
∀ z10 : Int,
(z10 = cloE z6 →
(((!(decide (z10 = 0))) = true →
 (true, ()) = (true, ())) ∧
((!(decide (z10 = 0))) = false →
(nonE z8 ∧
(True ∧
∀ z13 : V3,
(z13 = sidV b even →
(True ∧
∀ z15 : Int,
(z15 = fuE z8 z13 →
((leP 0 0 ∧
 (leP 0 1 ∧
 leP 1 (z8.length : Int))) ∧
(True ∧
∀ z17 : Int,
(z17 = fuE (lsub z8 0 1) (V3.mk 1 1 1) →
(True ∧
∀ z19 : Int,
(z19 = fuE z8 (V3.mk 0 1 1) →
(((!(decide (z19 = 1))) = true →
 (false, ()) = (true, ())) ∧
((!(decide (z19 = 1))) = false →
(sidP z13 ∧
∀ z22 : Bool,
(z22 = alF z8 z13 →
(((!((decide (z15 = 0)) == z22)) = true →
 (false, ()) = (true, ())) ∧
((!((decide (z15 = 0)) == z22)) = false →
(True ∧
∀ z25 : List V3,
(z25 = fiL z8 z13 →
∀ z27 : List Int,
(z27 = ciL z8 z13 →
∀ z29 : Int,
(z29 = fuE z8 z13 →
(True ∧
∀ z31 : List Int,
(z31 = owL z8 z13 →
∀ z33 : Int,
(z33 = fuE z8 z13 →
(True ∧
∀ z35 : List Int,
(z35 = fxL z8 z13 →
∀ z37 : Int,
(z37 = fuE z8 z13 →
(((!(decide (z15 = 0))) = true →
 (((decide (z15 = 6)) = true →
  (((decide (z29 = z15)) = true →
   (((decide (z33 = z15)) = true →
    (((decide (z37 = z15)) = true →
     (((decide ((z25.length : Int) = 0)) = true →
      ((decide ((z31.length : Int) = 0)), ()) = (true, ())) ∧
     ((decide ((z25.length : Int) = 0)) = false →
     (false, ()) = (true, ())))) ∧
    ((decide (z37 = z15)) = false →
    (false, ()) = (true, ())))) ∧
   ((decide (z33 = z15)) = false →
   (false, ()) = (true, ())))) ∧
  ((decide (z29 = z15)) = false →
  (false, ()) = (true, ())))) ∧
 ((decide (z15 = 6)) = false →
 (false, ()) = (true, ())))) ∧
((!(decide (z15 = 0))) = false →
(((!(decide (z29 = 0))) = true →
 (false, ()) = (true, ())) ∧
((!(decide (z29 = 0))) = false →
(((!(decide (z33 = 0))) = true →
 (false, ()) = (true, ())) ∧
((!(decide (z33 = 0))) = false →
(((!(decide (z37 = 0))) = true →
 (false, ()) = (true, ())) ∧
((!(decide (z37 = 0))) = false →
(((!(decide ((z25.length : Int) = (z27.length : Int)))) = true →
 (false, ()) = (true, ())) ∧
((!(decide ((z25.length : Int) = (z27.length : Int)))) = false →
(((!(decide ((z31.length : Int) = (w64 (((w64 (z13.x * z13.y)) * z13.z)))))) = true →
 (false, ()) = (true, ())) ∧
((!(decide ((z31.length : Int) = (w64 (((w64 (z13.x * z13.y)) * z13.z)))))) = false →
(((!(decide ((z35.length : Int) = (z8.length : Int)))) = true →
 (false, ()) = (true, ())) ∧
((!(decide ((z35.length : Int) = (z8.length : Int)))) = false →
((leP 0 (z25.length : Int) ∧
 lfit 8 ((lrep (z25.length : Int) (0 : Int)))) ∧
(uoI (wuG l) (sidV b even) ((lrep (z25.length : Int) (0 : Int))) 0 ∧
∀ z46 : List Int,
∀ z47 : Int,
((decide ((-9223372036854775808) ≤ z47)) = true →
((decide (z47 ≤ 9223372036854775807)) = true →
(uoI (wuG l) (sidV b even) z46 z47 →
(eqP (z46.length : Int) ((((lrep (z25.length : Int) (0 : Int))).length : Int)) →
(((decide (z47 < (w64 (((w64 (z13.x * z13.y)) * z13.z))))) = true →
 (inB z31 z47 ∧
 (((decide ((z31.getD (z47).toNat 0) < 0)) = true →
  (false, ()) = (true, ())) ∧
 ((decide ((z31.getD (z47).toNat 0) < 0)) = false →
 (inB z31 z47 ∧
 (((decide ((z25.length : Int) ≤ (z31.getD (z47).toNat 0))) = true →
  (false, ()) = (true, ())) ∧
 ((decide ((z25.length : Int) ≤ (z31.getD (z47).toNat 0))) = false →
 ((inB z31 z47 ∧
  (inB z46 ((z31.getD (z47).toNat 0)) ∧
  (((decide ((z46.getD ((z31.getD (z47).toNat 0)).toNat 0) = 0)) = true →
   (inB z31 z47 ∧
   (inB z25 ((z31.getD (z47).toNat 0)) ∧
   (numP z13 ((z25.getD ((z31.getD (z47).toNat 0)).toNat (V3.mk 0 0 0))) ∧
   (((!(decide (numV z13 ((z25.getD ((z31.getD (z47).toNat 0)).toNat (V3.mk 0 0 0))) = z47))) = true →
    (false, ()) = (true, ())) ∧
   ((!(decide (numV z13 ((z25.getD ((z31.getD (z47).toNat 0)).toNat (V3.mk 0 0 0))) = z47))) = false →
   True)))))) ∧
  ((decide ((z46.getD ((z31.getD (z47).toNat 0)).toNat 0) = 0)) = false →
  True)))) ∧
 (True →
 (inB z31 z47 ∧
 (inB z46 ((z31.getD (z47).toNat 0)) ∧
 (inB z46 ((z31.getD (z47).toNat 0)) ∧
 (uoI (wuG l) (sidV b even) (lset z46 ((z31.getD (z47).toNat 0)) ((w64 (((z46.getD ((z31.getD (z47).toNat 0)).toNat 0) + 1))))) ((w64 (z47 + 1))) ∧
 ((decide (0 ≤ mPl (sidV b even) ((w64 (z47 + 1))))) = true ∧
 (decide (mPl (sidV b even) ((w64 (z47 + 1))) < mPl (sidV b even) z47)) = true)))))))))))))) ∧
((decide (z47 < (w64 (((w64 (z13.x * z13.y)) * z13.z))))) = false →
(smU z35 0 0 ∧
∀ z53 : Int,
((decide ((-9223372036854775808) ≤ z53)) = true →
((decide (z53 ≤ 9223372036854775807)) = true →
∀ z56 : Int,
((decide ((-9223372036854775808) ≤ z56)) = true →
((decide (z56 ≤ 9223372036854775807)) = true →
(smU z35 z53 z56 →
(((decide (z56 < (z35.length : Int))) = true →
 (inB z35 z56 ∧
 (smU z35 ((w64 ((z53 + (z35.getD (z56).toNat 0))))) ((w64 (z56 + 1))) ∧
 ((decide (0 ≤ inMu z35 ((w64 (z56 + 1))))) = true ∧
 (decide (inMu z35 ((w64 (z56 + 1))) < inMu z35 z56)) = true)))) ∧
((decide (z56 < (z35.length : Int))) = false →
(rgP (z25.length : Int) 0 ∧
∀ z61 : Int,
((decide ((-9223372036854775808) ≤ z61)) = true →
((decide (z61 ≤ 9223372036854775807)) = true →
(rgP (z25.length : Int) z61 →
(((decide (z61 < (z25.length : Int))) = true →
 (inB z46 z61 ∧
 (inB z27 z61 ∧
 (((!(decide ((z46.getD (z61).toNat 0) = (z27.getD (z61).toNat 0)))) = true →
  (false, ()) = (true, ())) ∧
 ((!(decide ((z46.getD (z61).toNat 0) = (z27.getD (z61).toNat 0)))) = false →
 (inB z27 z61 ∧
 (((z27.getD (z61).toNat 0) ≠ 0) ∧
 (((!(decide ((Int.tmod (z8.length : Int) ((z27.getD (z61).toNat 0))) = 0))) = true →
  (false, ()) = (true, ())) ∧
 ((!(decide ((Int.tmod (z8.length : Int) ((z27.getD (z61).toNat 0))) = 0))) = false →
 (rgP (z25.length : Int) ((w64 (z61 + 1))) ∧
 ((decide (0 ≤ inW z25 ((w64 (z61 + 1))))) = true ∧
 (decide (inW z25 ((w64 (z61 + 1))) < inW z25 z61)) = true))))))))))) ∧
((decide (z61 < (z25.length : Int))) = false →
(rgP (z8.length : Int) 0 ∧
∀ z66 : Int,
((decide ((-9223372036854775808) ≤ z66)) = true →
((decide (z66 ≤ 9223372036854775807)) = true →
(rgP (z8.length : Int) z66 →
(((decide (z66 < (z8.length : Int))) = true →
 (((decide (z66 < 8)) = true →
  (rgP (plcs (sidV b even)) 0 ∧
  ∀ z72 : Int,
  ((decide ((-9223372036854775808) ≤ z72)) = true →
  ((decide (z72 ≤ 9223372036854775807)) = true →
  (rgP (plcs (sidV b even)) z72 →
  (((decide (z72 < (w64 (((w64 (z13.x * z13.y)) * z13.z))))) = true →
   (((decide (z72 < 40)) = true →
    (((w64 (z13.y * z13.z)) ≠ 0) ∧
    ((z13.z ≠ 0) ∧
    ((z13.y ≠ 0) ∧
    ((z13.z ≠ 0) ∧
    (inB z8 z66 ∧
    (True ∧
    (((!(decide (muE (((z8.getD (z66).toNat zerO))) z13 ((V3.mk ((w64 ((Int.tdiv z72 ((w64 (z13.y * z13.z))))))) ((Int.tmod ((w64 (Int.tdiv z72 z13.z))) z13.y)) (Int.tmod z72 z13.z))) = 0))) = true →
     (false, ()) = (true, ())) ∧
    ((!(decide (muE (((z8.getD (z66).toNat zerO))) z13 ((V3.mk ((w64 ((Int.tdiv z72 ((w64 (z13.y * z13.z))))))) ((Int.tmod ((w64 (Int.tdiv z72 z13.z))) z13.y)) (Int.tmod z72 z13.z))) = 0))) = false →
    (numP z13 (muV (((z8.getD (z66).toNat zerO))) z13 ((V3.mk ((w64 ((Int.tdiv z72 ((w64 (z13.y * z13.z))))))) ((Int.tmod ((w64 (Int.tdiv z72 z13.z))) z13.y)) (Int.tmod z72 z13.z)))) ∧
    (inB z31 (numV z13 (muV (((z8.getD (z66).toNat zerO))) z13 ((V3.mk ((w64 ((Int.tdiv z72 ((w64 (z13.y * z13.z))))))) ((Int.tmod ((w64 (Int.tdiv z72 z13.z))) z13.y)) (Int.tmod z72 z13.z))))) ∧
    (inB z31 z72 ∧
    (((!(decide ((z31.getD (numV z13 (muV (((z8.getD (z66).toNat zerO))) z13 ((V3.mk ((w64 ((Int.tdiv z72 ((w64 (z13.y * z13.z))))))) ((Int.tmod ((w64 (Int.tdiv z72 z13.z))) z13.y)) (Int.tmod z72 z13.z))))).toNat 0) = (z31.getD (z72).toNat 0)))) = true →
     (false, ()) = (true, ())) ∧
    ((!(decide ((z31.getD (numV z13 (muV (((z8.getD (z66).toNat zerO))) z13 ((V3.mk ((w64 ((Int.tdiv z72 ((w64 (z13.y * z13.z))))))) ((Int.tmod ((w64 (Int.tdiv z72 z13.z))) z13.y)) (Int.tmod z72 z13.z))))).toNat 0) = (z31.getD (z72).toNat 0)))) = false →
    (rgP (plcs (sidV b even)) ((w64 (z72 + 1))) ∧
    ((decide (0 ≤ mPl (sidV b even) ((w64 (z72 + 1))))) = true ∧
    (decide (mPl (sidV b even) ((w64 (z72 + 1))) < mPl (sidV b even) z72)) = true)))))))))))))))) ∧
   ((decide (z72 < 40)) = false →
   (rgP (z8.length : Int) ((w64 (z66 + 1))) ∧
   ((decide (0 ≤ opMu z8 ((w64 (z66 + 1))))) = true ∧
   (decide (opMu z8 ((w64 (z66 + 1))) < opMu z8 z66)) = true))))) ∧
  ((decide (z72 < (w64 (((w64 (z13.x * z13.y)) * z13.z))))) = false →
  (rgP (z8.length : Int) ((w64 (z66 + 1))) ∧
  ((decide (0 ≤ opMu z8 ((w64 (z66 + 1))))) = true ∧
  (decide (opMu z8 ((w64 (z66 + 1))) < opMu z8 z66)) = true))))))))) ∧
 ((decide (z66 < 8)) = false →
 ((decide (z53 = (w64 (((z25.length : Int) * (z8.length : Int)))))), ()) = (true, ())))) ∧
((decide (z66 < (z8.length : Int))) = false →
((decide (z53 = (w64 (((z25.length : Int) * (z8.length : Int)))))), ()) = (true, ()))))))))))))))))))))))))))))))))))))))))))))))))))))))))))))))))))))))))))))))))
theorem r_WholeUnits (x : HL C_WholeUnits.args) : runs (env0 [(37, C_tawake.hid), (78, C_seeds.hid), (32, C_gClose.hid), (39, C_tsides.hid), (14, C_uFits.hid), (40, C_tfits.hid), (19, C_uFirsts.hid), (20, C_uOwner.hid), (24, C_uFixed.hid), (16, C_uMove.hid), (41, C_tspot.hid)] [(12, 21, { fix := [], vars := [(.itmp 20, .list .int), (.tmp 21, .int .i64)], inv := fun y v => uoI (wuG x.1) (sidV x.2.1 x.2.2.1) v.1 v.2.1, mu := fun y v => mPl (sidV x.2.1 x.2.2.1) v.2.1 }), (12, 30, { fix := [(.tmp 18, .list .int)], vars := [(.tmp 22, .int .i64), (.tmp 23, .int .i64)], inv := fun y v => smU y.1 v.1 v.2.1, mu := fun y v => inMu y.1 v.2.1 }), (12, 34, { fix := [(.tmp 13, .list .vec)], vars := [(.tmp 24, .int .i64)], inv := fun y v => rgP (lenI y.1) v.1, mu := fun y v => inW y.1 v.1 }), (12, 39, { fix := [(.tmp 7, .list .op)], vars := [(.tmp 25, .int .i64)], inv := fun y v => rgP (lenI y.1) v.1, mu := fun y v => opMu y.1 v.1 }), (12, 42, { fix := [], vars := [(.tmp 26, .int .i64)], inv := fun y v => rgP (plcs (sidV x.2.1 x.2.2.1)) v.1, mu := fun y v => mPl (sidV x.2.1 x.2.2.1) v.1 })] [(12, 27, { fix := [], vars := [], inv := fun y v => True, mu := fun y v => 0 })]) 3000 12 C_WholeUnits x = T_WholeUnits x.1 x.2.1 x.2.2.1 := by kernel_rfl
theorem p_WholeUnits (l : List Sd) (b : V3) (even : Bool) (h0 : (Sh.list .seed).okA l) (h1 : (Sh.agg .v8).okA b) (h2 : (Sh.bool).okA even) : T_WholeUnits l b even := by
  unfold T_WholeUnits
  refine ⟨trivial, fun z hz => ⟨fun h => absurd (hz ▸ h) (by decide), fun _ => ⟨trivial, fun li hli => ⟨trivial, fun g hg e he => ⟨fun _ => by trivial, fun hq => ?_⟩⟩⟩⟩⟩
  have hce : cloE li = 0 := by rw [← he]; simpa using hq
  have hck : chkE g = 0 := by rw [hg]; exact clo_chk hce
  have hg2 : g = wuG l := by rw [hg, hli]; rfl
  rw [← hg2]
  clear hg hg2
  have hgl := chk_len hck
  have hone := (chk_grp hck).2.2.1
  refine ⟨fun h => (by rw [h] at hone; cases hone), trivial, fun n hn0 => ?_⟩
  have hn : sidE n = 0 := by rw [hn0]; exact sid_sidV b even
  have hs := sid_ok hn
  rw [← hn0]
  have g1 : 0 < g.length := List.length_pos_of_mem hone
  have hb : g.length * 96 ≤ room := by unfold room; omega
  have hpl := pl_pos hs
  have hw : w64 (w64 (n.x * n.y) * n.z) = plcs n := lrep_w hn
  rw [hw]
  have hfu := alF_fu hck hn
  refine ⟨trivial, fun e0 he0 => ⟨⟨Int.le_refl _, by show (0 : Int) ≤ 1; decide, by show (1 : Int) ≤ _; omega⟩, trivial, fun d1 hd1 => ⟨trivial, fun d hd => ⟨fun h => absurd h (by rw [hd, fu_arg hck]; decide), fun _ => ⟨hn, fun ft hft => ⟨fun h => absurd h ?_, fun _ => ⟨trivial, fun f hf c hc e1 he1 => ⟨trivial, fun o ho e2 he2 => ⟨trivial, fun x hx e3 he3 => ⟨fun hq0 => ?_, fun hq0 => ?_⟩⟩⟩⟩⟩⟩⟩⟩⟩⟩
  · rw [he0, hft, hfu]
    cases alF g n <;> decide
  · have hne : fuE g n ≠ 0 := by rw [← he0]; simpa using hq0
    have h6 : fuE g n = 6 := by
      rw [hfu] at hne ⊢
      split at hne
      · exact absurd rfl hne
      · rename_i hx2; rw [if_neg hx2]
    obtain ⟨a1, a2, a3, a4⟩ := ans_no hne
    rw [he0, he1, he2, he3, hf, ho, a1, a3, h6]
    simp
  have hz0 : fuE g n = 0 := by rw [← he0]; simpa using hq0
  obtain ⟨_, _, _, hfB, _⟩ := fu_zero hz0
  have hA := fu_act hz0
  have hFm := (chk_grp hck).1
  obtain ⟨a1, a2, a3, a4⟩ := ans_ok hz0
  rw [a1] at hf
  rw [a2] at hc
  rw [a3] at ho
  rw [a4] at hx
  obtain ⟨l1, l2, l3⟩ := fs_lenP (g := g) (n := n)
  have hP2 : plN n ≤ 262144 := by unfold plN; omega
  have hl : ((orO g n).length : Int) = plcs n := by rw [or_len]; unfold plN; omega
  have hxl : x.length = g.length := by rw [hx, List.length_map]
  have hxm : ∀ y ∈ x, 0 ≤ y ∧ y ≤ 262144 := fun y hy => fx_mem hs (by rw [hx] at hy; exact hy)
  have hsum : sumZ x = ((fsA g n).length : Int) * (g.length : Int) := by rw [hx]; exact fx_sum hA
  clear hx a1 a2 a3 a4
  subst hf hc ho
  have fin : ∀ s j : Int, smU x s j → ¬ j < (x.length : Int) → (decide (s = w64 (((fsA g n).length : Int) * (g.length : Int))), ()) = (true, ()) := fun s j hS hj => by
    have b1 : 0 ≤ ((fsA g n).length : Int) * (g.length : Int) := Int.mul_nonneg (by omega) (by omega)
    have b2 : ((fsA g n).length : Int) * (g.length : Int) ≤ 262144 * 192 := Int.le_trans (Int.mul_le_mul_of_nonneg_right (by omega) (by omega)) (Int.mul_le_mul_of_nonneg_left (by omega) (by omega))
    rw [smU_end hS hj, hsum, w64_id (by omega) (by omega)]; simp
  refine ⟨fun h => absurd h (by rw [he1, hz0]; decide), fun _ => ⟨fun h => absurd h (by rw [he2, hz0]; decide), fun _ => ⟨fun h => absurd h (by rw [he3, hz0]; decide), fun _ => ⟨fun h => absurd h (by rw [l1, l2]; simp), fun _ => ⟨fun h => absurd h (by rw [hl]; simp), fun _ => ⟨fun h => absurd h (by rw [hxl]; simp), fun _ => ⟨⟨by show (0 : Int) ≤ _; omega, ?_⟩, uo_0 hs, fun u i _ _ hI lu => ⟨fun hi => ?_, fun hi => ⟨smU_0 x, fun s _ _ j _ _ hS => ⟨fun hj => smU_next (by omega) hxm hS (of_decide_eq_true hj), fun hj => ⟨rg_init _, fun k _ _ hK => ⟨fun hk => ?_, fun hk => ⟨rg_init _, fun p _ _ hP => ⟨fun hp => ⟨fun hp8 => ⟨⟨Int.le_refl _, by omega⟩, fun q _ _ hQ => ⟨fun hq => ⟨fun hq40 => ?_, fun _ => ?_⟩, fun _ => ?_⟩⟩, fun _ => fin s j hS (of_decide_eq_false hj)⟩, fun _ => fin s j hS (of_decide_eq_false hj)⟩⟩⟩⟩⟩⟩⟩⟩⟩⟩⟩⟩⟩⟩
  · show (lrep ((fsA g n).length : Int) (0 : Int)).length * 8 ≤ 140737488355328
    unfold lrep; rw [List.length_replicate]; omega
  · have hi := of_decide_eq_true hi
    obtain ⟨k, hk, k1, k2, k3, k4, k5, k6, k7⟩ := uo_at hA hs hI hi
    rw [hk]
    refine ⟨k1, fun h => absurd (of_decide_eq_true h) (by omega), fun _ => ⟨k1, fun h => absurd (of_decide_eq_true h) (by omega), fun _ => ⟨⟨k1, k4, fun h => ⟨k1, k5, ?_, fun h2 => absurd h2 ?_, fun _ => by trivial⟩, fun _ => by trivial⟩, fun _ => ⟨k1, k4, k4, k7⟩⟩⟩⟩
    · rw [k6 (of_decide_eq_true h)]; exact ⟨hn, at_in hs hI.1.1 hi⟩
    · rw [k6 (of_decide_eq_true h), num_at hs]; simp
  · have hk := of_decide_eq_true hk
    have hu := uo_end hI (of_decide_eq_false hi)
    subst hu
    have kin : inB (csA g n) k := ⟨hK.1, by omega⟩
    obtain ⟨⟨c1, _⟩, c2⟩ := cs_mem hA hs (getD_mem kin.1 kin.2 0)
    have k1 := hK.1
    rw [len_w hK.1 (by omega), c2]
    exact ⟨kin, kin, fun h => absurd h (by simp), fun _ => ⟨kin, by omega, fun h => absurd h (by decide), fun _ => ⟨⟨by omega, by omega⟩, decide_eq_true (by unfold inW; omega), decide_eq_true (by unfold inW; omega)⟩⟩⟩
  · have hp := of_decide_eq_true hp
    have hq := of_decide_eq_true hq
    have hgo := getD_mem hP.1 hp zerO
    obtain ⟨w1, w2⟩ := at_w hs hQ.1 hq
    rw [w2]
    have hat := at_in hs hQ.1 hq
    obtain ⟨m1, m2⟩ := mu_of (n := n) (a := atV n q) ⟨hFm _ hgo, hn, hfB _ hgo, hat⟩
    obtain ⟨v1, v2⟩ := uo_move hA hs hQ.1 hq hgo
    rw [m1, m2, v2]
    obtain ⟨e1, e2, e3, e4, e5, _, _⟩ := mpl_up hs hQ.1 hq
    rw [e1]
    exact ⟨w1, by have := hs.z0; omega, by have := hs.y0; omega, by have := hs.z0; omega, ⟨hP.1, hp⟩, trivial, fun h => absurd h (by decide), fun _ => ⟨⟨hn, mov_in _ hs _⟩, v1, ⟨hQ.1, by omega⟩, fun h => absurd h (by simp), fun _ => ⟨e2, e4, e5⟩⟩⟩
  all_goals
    have hp := of_decide_eq_true hp
    obtain ⟨e1, e2, e3⟩ := opMu_next hb hP.1 hp
    rw [e1] at e2 e3 ⊢
    exact ⟨⟨by have := hP.1; omega, by omega⟩, e2, e3⟩
theorem s_WholeUnits : Sound Try.prog 12 C_WholeUnits :=
  sound_of_eqs (fun x => env0 [(37, C_tawake.hid), (78, C_seeds.hid), (32, C_gClose.hid), (39, C_tsides.hid), (14, C_uFits.hid), (40, C_tfits.hid), (19, C_uFirsts.hid), (20, C_uOwner.hid), (24, C_uFixed.hid), (16, C_uMove.hid), (41, C_tspot.hid)] [(12, 21, { fix := [], vars := [(.itmp 20, .list .int), (.tmp 21, .int .i64)], inv := fun y v => uoI (wuG x.1) (sidV x.2.1 x.2.2.1) v.1 v.2.1, mu := fun y v => mPl (sidV x.2.1 x.2.2.1) v.2.1 }), (12, 30, { fix := [(.tmp 18, .list .int)], vars := [(.tmp 22, .int .i64), (.tmp 23, .int .i64)], inv := fun y v => smU y.1 v.1 v.2.1, mu := fun y v => inMu y.1 v.2.1 }), (12, 34, { fix := [(.tmp 13, .list .vec)], vars := [(.tmp 24, .int .i64)], inv := fun y v => rgP (lenI y.1) v.1, mu := fun y v => inW y.1 v.1 }), (12, 39, { fix := [(.tmp 7, .list .op)], vars := [(.tmp 25, .int .i64)], inv := fun y v => rgP (lenI y.1) v.1, mu := fun y v => opMu y.1 v.1 }), (12, 42, { fix := [], vars := [(.tmp 26, .int .i64)], inv := fun y v => rgP (plcs (sidV x.2.1 x.2.2.1)) v.1, mu := fun y v => mPl (sidV x.2.1 x.2.2.1) v.1 })] [(12, 27, { fix := [], vars := [], inv := fun y v => True, mu := fun y v => 0 })]) (fun _ => rfl) (fun _ => env0_ok (.cons s_tawake.hid (.cons s_seeds.hid (.cons s_gClose.hid (.cons s_tsides.hid (.cons s_uFits.hid (.cons s_tfits.hid (.cons s_uFirsts.hid (.cons s_uOwner.hid (.cons s_uFixed.hid (.cons s_uMove.hid (.cons s_tspot.hid (.nil))))))))))))) (fun x => T_WholeUnits x.1 x.2.1 x.2.2.1) r_WholeUnits fun x ok hp => p_WholeUnits x.1 x.2.1 x.2.2.1 ok.1 ok.2.1 ok.2.2.1
end Go.Fx
