/-
  Contracts: SubSplits.
-/
import Derived.Test.YtkmbomopkojgfaaK12
namespace Go.Fx
open Go Go.Proofs
set_option maxRecDepth 100000
set_option linter.unusedVariables false
set_option linter.unusedSimpArgs false
set_option linter.unusedSectionVars false
noncomputable def C_SubSplits : Contract := { args := [.list .op, .list .op], res := [.bool], pre := fun _ => True, F := fun x => ((true : Bool), ()) }
def T_SubSplits (g : List Op3) (h : List Op3) : Prop :=
  (True ∧
∀ z2 : Bool,
(z2 = true →
(((!z2) = true →
 (false, ()) = (true, ())) ∧
((!z2) = false →
(True ∧
∀ z5 : List (List Int),
(z5 = csC g h →
∀ z7 : Int,
(z7 = boE g h →
(((!(decide (z7 = 0))) = true →
 ((decide ((z5.length : Int) = 0)), ()) = (true, ())) ∧
((!(decide (z7 = 0))) = false →
(paP z5 (g.length : Int) ∧
∀ z10 : Bool,
(z10 = true →
(((!z10) = true →
 (false, ()) = (true, ())) ∧
((!z10) = false →
(((!(decide ((w64 (((z5.length : Int) * (h.length : Int)))) = (g.length : Int)))) = true →
 (false, ()) = (true, ())) ∧
((!(decide ((w64 (((z5.length : Int) * (h.length : Int)))) = (g.length : Int)))) = false →
(rgP (lenC (csC g h)) 0 ∧
∀ z14 : Int,
((decide ((-9223372036854775808) ≤ z14)) = true →
((decide (z14 ≤ 9223372036854775807)) = true →
(rgP (lenC (csC g h)) z14 →
(((decide (z14 < (z5.length : Int))) = true →
 (inB z5 z14 ∧
 (((!(decide ((((z5.getD (z14).toNat [])).length : Int) = (h.length : Int)))) = true →
  (false, ()) = (true, ())) ∧
 ((!(decide ((((z5.getD (z14).toNat [])).length : Int) = (h.length : Int)))) = false →
 (rgP (h.length : Int) 0 ∧
 ∀ z20 : Int,
 ((decide ((-9223372036854775808) ≤ z20)) = true →
 ((decide (z20 ≤ 9223372036854775807)) = true →
 (rgP (h.length : Int) z20 →
 (((decide (z20 < (h.length : Int))) = true →
  (inB h z20 ∧
  (inB ((z5.getD (z14).toNat [])) 0 ∧
  (inB g ((((z5.getD (z14).toNat [])).getD 0 0)) ∧
  (True ∧
  (True ∧
  ∀ z25 : Int,
  (z25 = fndI g ((selO (mulE (((g.getD ((((z5.getD (z14).toNat [])).getD 0 0)).toNat zerO))) (((h.getD (z20).toNat zerO)))) (mulO (((g.getD ((((z5.getD (z14).toNat [])).getD 0 0)).toNat zerO))) (((h.getD (z20).toNat zerO)))))) →
  ∀ z27 : Int,
  (z27 = fndE g ((selO (mulE (((g.getD ((((z5.getD (z14).toNat [])).getD 0 0)).toNat zerO))) (((h.getD (z20).toNat zerO)))) (mulO (((g.getD ((((z5.getD (z14).toNat [])).getD 0 0)).toNat zerO))) (((h.getD (z20).toNat zerO)))))) →
  (((!(decide (mulE (((g.getD ((((z5.getD (z14).toNat [])).getD 0 0)).toNat zerO))) (((h.getD (z20).toNat zerO))) = 0))) = true →
   (false, ()) = (true, ())) ∧
  ((!(decide (mulE (((g.getD ((((z5.getD (z14).toNat [])).getD 0 0)).toNat zerO))) (((h.getD (z20).toNat zerO))) = 0))) = false →
  (((!(decide (z27 = 0))) = true →
   (false, ()) = (true, ())) ∧
  ((!(decide (z27 = 0))) = false →
  (inQ ((z5.getD (z14).toNat [])) z25 false 0 ∧
  ∀ z31 : Bool,
  ∀ z32 : Int,
  ((decide ((-9223372036854775808) ≤ z32)) = true →
  ((decide (z32 ≤ 9223372036854775807)) = true →
  (inQ ((z5.getD (z14).toNat [])) z25 z31 z32 →
  (((decide (z32 < (((z5.getD (z14).toNat [])).length : Int))) = true →
   (inB ((z5.getD (z14).toNat [])) z32 ∧
   ((z31 = true →
    (inQ ((z5.getD (z14).toNat [])) z25 true ((w64 (z32 + 1))) ∧
    ((decide (0 ≤ inMu ((z5.getD (z14).toNat [])) ((w64 (z32 + 1))))) = true ∧
    (decide (inMu ((z5.getD (z14).toNat [])) ((w64 (z32 + 1))) < inMu ((z5.getD (z14).toNat [])) z32)) = true))) ∧
   (z31 = false →
   (inQ ((z5.getD (z14).toNat [])) z25 ((decide ((((z5.getD (z14).toNat [])).getD (z32).toNat 0) = z25))) ((w64 (z32 + 1))) ∧
   ((decide (0 ≤ inMu ((z5.getD (z14).toNat [])) ((w64 (z32 + 1))))) = true ∧
   (decide (inMu ((z5.getD (z14).toNat [])) ((w64 (z32 + 1))) < inMu ((z5.getD (z14).toNat [])) z32)) = true)))))) ∧
  ((decide (z32 < (((z5.getD (z14).toNat [])).length : Int))) = false →
  (((!z31) = true →
   (false, ()) = (true, ())) ∧
  ((!z31) = false →
  (rgP (h.length : Int) ((w64 (z20 + 1))) ∧
  ((decide (0 ≤ opMu h ((w64 (z20 + 1))))) = true ∧
  (decide (opMu h ((w64 (z20 + 1))) < opMu h z20)) = true)))))))))))))))))))))) ∧
 ((decide (z20 < (h.length : Int))) = false →
 (rgP (lenC (csC g h)) ((w64 (z14 + 1))) ∧
 ((decide (0 ≤ liMu (csC g h) ((w64 (z14 + 1))))) = true ∧
 (decide (liMu (csC g h) ((w64 (z14 + 1))) < liMu (csC g h) z14)) = true)))))))))))) ∧
((decide (z14 < (z5.length : Int))) = false →
(true, ()) = (true, ()))))))))))))))))))))))
theorem r_SubSplits (x : HL C_SubSplits.args) : runs (env0 [(8, C_awake6.hid), (9, C_sCosets.hid), (10, C_lparts.hid), (11, C_opMul.hid), (12, C_gFind.hid)] [(3, 9, { fix := [], vars := [(.tmp 48, .int .i64)], inv := fun y v => rgP (lenC (csC x.1 x.2.1)) v.1, mu := fun y v => liMu (csC x.1 x.2.1) v.1 }), (3, 14, { fix := [], vars := [(.tmp 59, .int .i64)], inv := fun y v => rgP (lenI x.2.1) v.1, mu := fun y v => opMu x.2.1 v.1 }), (3, 22, { fix := [(.tmp 8, .list .int), (.tmp 13, .int .i64)], vars := [(.tmp 15, .bool), (.tmp 88, .int .i64)], inv := fun y v => inQ y.1 y.2.1 v.1 v.2.1, mu := fun y v => inMu y.1 v.2.1 })] []) 1500 3 C_SubSplits x = T_SubSplits x.1 x.2.1 := by kernel_rfl
theorem p_SubSplits (g : List Op3) (h : List Op3) (h0 : (Sh.list .op).okA g) (h1 : (Sh.list .op).okA h) : T_SubSplits g h := by
  have hb2 : h.length * 96 ≤ room := h1.2
  unfold T_SubSplits
  refine ⟨trivial, fun z hz => ⟨fun h => absurd (hz ▸ h) (by decide), fun _ => ⟨trivial, fun l hl e he => ⟨fun hq => ?_, fun hq => ?_⟩⟩⟩⟩
  · have hne : boE g h ≠ 0 := by rw [← he]; simpa using hq
    rw [hl, show csC g h = [] from if_neg hne]; rfl
  have hz0 : boE g h = 0 := by rw [← he]; simpa using hq
  obtain ⟨hg, hh, hs, _, _⟩ := bo_zero hz0
  have hm := csC_mul hg hh hs
  have h192 := chk_len hg
  have h192b := chk_len hh
  obtain ⟨hF, _, _, hcl⟩ := chk_grp hg
  subst hl
  have hw : w64 (((csC g h).length : Int) * (h.length : Int)) = (g.length : Int) := by rw [← Int.natCast_mul, hm]; exact w64_id (by omega) (by omega)
  have hpa := csC_pa hg hh hs
  refine ⟨hpa, fun y hy => ⟨fun c => absurd c (by rw [hy]; decide), fun _ => ⟨fun c => absurd c (by rw [hw]; simp), fun _ => ⟨⟨Int.le_refl _, by unfold lenC; omega⟩, fun i _ _ hI => ⟨fun hi => ?_, fun _ => by trivial⟩⟩⟩⟩⟩
  have hi := of_decide_eq_true hi
  have i0 := hI.1
  obtain ⟨a, a1, a2, a3, a4, a5⟩ := csC_at hg hh hs i0 hi
  obtain ⟨_, c0, _, _⟩ := pa_at hpa i0 hi
  have hlen := hpa.1
  rw [a3]
  generalize hcc : (csC g h).getD i.toNat [] = cc at *
  refine ⟨⟨i0, hi⟩, fun c => absurd c (by rw [a4]; simp), fun _ => ⟨⟨Int.le_refl _, by omega⟩, fun j _ _ hJ => ⟨fun hj => ?_, fun hj => ?_⟩⟩⟩
  · have hj := of_decide_eq_true hj
    have j0 := hJ.1
    have hbm := getD_mem j0 hj zerO
    obtain ⟨c1, c2⟩ := cg_of hF hcl (g_at a1) (hs _ hbm)
    rw [Int.toNat_natCast, c1, show selO 0 (mulO (g.getD a zerO) (h.getD j.toNat zerO)) = mulO (g.getD a zerO) (h.getD j.toNat zerO) from if_pos rfl, fnd_idx hg c2, fnd_ok hg c2]
    refine ⟨⟨j0, hj⟩, c0, ⟨by omega, by omega⟩, trivial, trivial, fun k hk f hf => ⟨fun c => absurd c (by decide), fun _ => ⟨fun c => absurd c (by rw [hf]; decide), fun _ => ⟨inQ_0 _ _, fun b m _ _ hQ => ⟨fun hm => ?_, fun hm => ?_⟩⟩⟩⟩⟩
    · obtain ⟨n1, n2, n3, n4⟩ := inQ_next (by omega) hQ (of_decide_eq_true hm)
      exact ⟨n1, fun q => ⟨n2 q, n4⟩, fun q => ⟨n3 q, n4⟩⟩
    · have hbt := inQ_end hQ (of_decide_eq_false hm) (by rw [hk]; exact a5 _ hbm)
      obtain ⟨e1, e2, e3⟩ := opMu_next hb2 j0 hj
      rw [e1] at e2 e3 ⊢
      exact ⟨fun c => absurd c (by rw [hbt]; decide), fun _ => ⟨⟨by omega, by omega⟩, e2, e3⟩⟩
  · have hw2 : w64 (i + 1) = i + 1 := w64_id (by omega) (by omega)
    rw [hw2]
    exact ⟨⟨by omega, by unfold lenC; omega⟩, decide_eq_true (by unfold liMu; omega), decide_eq_true (by unfold liMu; omega)⟩
theorem s_SubSplits : Sound Try.prog 3 C_SubSplits :=
  sound_of_eqs (fun x => env0 [(8, C_awake6.hid), (9, C_sCosets.hid), (10, C_lparts.hid), (11, C_opMul.hid), (12, C_gFind.hid)] [(3, 9, { fix := [], vars := [(.tmp 48, .int .i64)], inv := fun y v => rgP (lenC (csC x.1 x.2.1)) v.1, mu := fun y v => liMu (csC x.1 x.2.1) v.1 }), (3, 14, { fix := [], vars := [(.tmp 59, .int .i64)], inv := fun y v => rgP (lenI x.2.1) v.1, mu := fun y v => opMu x.2.1 v.1 }), (3, 22, { fix := [(.tmp 8, .list .int), (.tmp 13, .int .i64)], vars := [(.tmp 15, .bool), (.tmp 88, .int .i64)], inv := fun y v => inQ y.1 y.2.1 v.1 v.2.1, mu := fun y v => inMu y.1 v.2.1 })] []) (fun _ => rfl) (fun _ => env0_ok (.cons s_awake6.hid (.cons s_sCosets.hid (.cons s_lparts.hid (.cons s_opMul.hid (.cons s_gFind.hid (.nil))))))) (fun x => T_SubSplits x.1 x.2.1) r_SubSplits fun x ok hp => p_SubSplits x.1 x.2.1 ok.1 ok.2.1
end Go.Fx
