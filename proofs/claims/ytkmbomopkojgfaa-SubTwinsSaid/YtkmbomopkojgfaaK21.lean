/-
  Contracts: SubTwins.
-/
import Derived.Test.YtkmbomopkojgfaaK20
import Derived.Test.YtkmbomopkojgfaaHi
namespace Go.Fx
open Go Go.Proofs
set_option maxRecDepth 100000
set_option linter.unusedVariables false
set_option linter.unusedSimpArgs false
set_option linter.unusedSectionVars false
noncomputable def C_SubTwins : Contract := { args := [.list .op], res := [.bool], pre := fun _ => True, F := fun x => ((true : Bool), ()) }
def T_SubTwins (g : List Op3) : Prop :=
  (True ∧
∀ z1 : Bool,
(z1 = true →
(((!z1) = true →
 (false, ()) = (true, ())) ∧
((!z1) = false →
(True ∧
∀ z4 : List (List Int),
(z4 = clC g →
∀ z6 : Int,
(z6 = chkE g →
(True ∧
∀ z8 : List Op3,
(z8 = heL g →
∀ z10 : Int,
(z10 = chkE g →
(((!(decide (z6 = 0))) = true →
 (((decide (z6 = z10)) = true →
  (((decide ((z4.length : Int) = 0)) = true →
   ((decide ((z8.length : Int) = 0)), ()) = (true, ())) ∧
  ((decide ((z4.length : Int) = 0)) = false →
  (false, ()) = (true, ())))) ∧
 ((decide (z6 = z10)) = false →
 (false, ()) = (true, ())))) ∧
((!(decide (z6 = 0))) = false →
(((!(decide (z10 = 0))) = true →
 (false, ()) = (true, ())) ∧
((!(decide (z10 = 0))) = false →
(paP z4 (g.length : Int) ∧
∀ z14 : Bool,
(z14 = true →
(((!z14) = true →
 (false, ()) = (true, ())) ∧
((!z14) = false →
(True ∧
∀ z17 : Int,
(z17 = chkE z8 →
(((!(decide (z17 = 0))) = true →
 (false, ()) = (true, ())) ∧
((!(decide (z17 = 0))) = false →
(twN g 0 0 ∧
∀ z20 : Int,
((decide ((-9223372036854775808) ≤ z20)) = true →
((decide (z20 ≤ 9223372036854775807)) = true →
∀ z23 : Int,
((decide ((-9223372036854775808) ≤ z23)) = true →
((decide (z23 ≤ 9223372036854775807)) = true →
(twN g z20 z23 →
(((decide (z23 < (z4.length : Int))) = true →
 (inB z4 z23 ∧
 (inB ((z4.getD (z23).toNat [])) 0 ∧
 (inB g ((((z4.getD (z23).toNat [])).getD 0 0)) ∧
 (True ∧
 ∀ z28 : Int,
 (z28 = oroZ (((g.getD ((((z4.getD (z23).toNat [])).getD 0 0)).toNat zerO))) →
 ∀ z30 : Int,
 (z30 = oroE (((g.getD ((((z4.getD (z23).toNat [])).getD 0 0)).toNat zerO))) →
 (inB ((z4.getD (z23).toNat [])) 0 ∧
 (inB g ((((z4.getD (z23).toNat [])).getD 0 0)) ∧
 (True ∧
 ∀ z32 : Int,
 (z32 = kinZ (((g.getD ((((z4.getD (z23).toNat [])).getD 0 0)).toNat zerO))) →
 ∀ z34 : Int,
 (z34 = kinE (((g.getD ((((z4.getD (z23).toNat [])).getD 0 0)).toNat zerO))) →
 (((!(decide (z30 = 0))) = true →
  (false, ()) = (true, ())) ∧
 ((!(decide (z30 = 0))) = false →
 (((!(decide (z34 = 0))) = true →
  (false, ()) = (true, ())) ∧
 ((!(decide (z34 = 0))) = false →
 (((((z4.getD (z23).toNat [])).length : Int) ≠ 0) ∧
 (((!(decide ((Int.tmod (g.length : Int) ((((z4.getD (z23).toNat [])).length : Int))) = 0))) = true →
  (false, ()) = (true, ())) ∧
 ((!(decide ((Int.tmod (g.length : Int) ((((z4.getD (z23).toNat [])).length : Int))) = 0))) = false →
 (twK g z23 0 ∧
 ∀ z39 : Int,
 ((decide ((-9223372036854775808) ≤ z39)) = true →
 ((decide (z39 ≤ 9223372036854775807)) = true →
 (twK g z23 z39 →
 (((decide (z39 < (((z4.getD (z23).toNat [])).length : Int))) = true →
  (inB ((z4.getD (z23).toNat [])) z39 ∧
  (inB g ((((z4.getD (z23).toNat [])).getD (z39).toNat 0)) ∧
  (True ∧
  ∀ z44 : Int,
  (z44 = oroZ (((g.getD ((((z4.getD (z23).toNat [])).getD (z39).toNat 0)).toNat zerO))) →
  ∀ z46 : Int,
  (z46 = oroE (((g.getD ((((z4.getD (z23).toNat [])).getD (z39).toNat 0)).toNat zerO))) →
  (inB g ((((z4.getD (z23).toNat [])).getD (z39).toNat 0)) ∧
  (True ∧
  ∀ z48 : Int,
  (z48 = kinZ (((g.getD ((((z4.getD (z23).toNat [])).getD (z39).toNat 0)).toNat zerO))) →
  ∀ z50 : Int,
  (z50 = kinE (((g.getD ((((z4.getD (z23).toNat [])).getD (z39).toNat 0)).toNat zerO))) →
  (((!(decide (z46 = 0))) = true →
   (false, ()) = (true, ())) ∧
  ((!(decide (z46 = 0))) = false →
  (((!(decide (z50 = 0))) = true →
   (false, ()) = (true, ())) ∧
  ((!(decide (z50 = 0))) = false →
  (((!(decide (z44 = z28))) = true →
   (false, ()) = (true, ())) ∧
  ((!(decide (z44 = z28))) = false →
  (((!(decide (z48 = z32))) = true →
   (false, ()) = (true, ())) ∧
  ((!(decide (z48 = z32))) = false →
  (twK g z23 ((w64 (z39 + 1))) ∧
  ((decide (0 ≤ paMu (clC g) z23 ((w64 (z39 + 1))))) = true ∧
  (decide (paMu (clC g) z23 ((w64 (z39 + 1))) < paMu (clC g) z23 z39)) = true)))))))))))))))))))) ∧
 ((decide (z39 < (((z4.getD (z23).toNat [])).length : Int))) = false →
 (inB ((z4.getD (z23).toNat [])) 0 ∧
 (inB g ((((z4.getD (z23).toNat [])).getD 0 0)) ∧
 (True ∧
 ∀ z44 : Int,
 (z44 = fndI z8 (((g.getD ((((z4.getD (z23).toNat [])).getD 0 0)).toNat zerO))) →
 ∀ z46 : Int,
 (z46 = fndE z8 (((g.getD ((((z4.getD (z23).toNat [])).getD 0 0)).toNat zerO))) →
 (((!((decide ((((z4.getD (z23).toNat [])).length : Int) = 1)) == (decide (z46 = 0)))) = true →
  (false, ()) = (true, ())) ∧
 ((!((decide ((((z4.getD (z23).toNat [])).length : Int) = 1)) == (decide (z46 = 0)))) = false →
 (((decide ((((z4.getD (z23).toNat [])).length : Int) = 1)) = true →
  (twN g ((w64 (z20 + 1))) ((w64 (z23 + 1))) ∧
  ((decide (0 ≤ liMu (clC g) ((w64 (z23 + 1))))) = true ∧
  (decide (liMu (clC g) ((w64 (z23 + 1))) < liMu (clC g) z23)) = true))) ∧
 ((decide ((((z4.getD (z23).toNat [])).length : Int) = 1)) = false →
 (twN g z20 ((w64 (z23 + 1))) ∧
 ((decide (0 ≤ liMu (clC g) ((w64 (z23 + 1))))) = true ∧
 (decide (liMu (clC g) ((w64 (z23 + 1))) < liMu (clC g) z23)) = true)))))))))))))))))))))))))))))))))))) ∧
((decide (z23 < (z4.length : Int))) = false →
(True ∧
∀ z28 : Bool,
(z28 = noB g z8 →
∀ z30 : Int,
(z30 = boE g z8 →
(True ∧
∀ z32 : List Op3,
(z32 = meL g g →
∀ z34 : Int,
(z34 = two g g →
(True ∧
∀ z36 : List Op3,
(z36 = joL g g →
∀ z38 : Int,
(z38 = joE g g →
(((decide (z20 = (z8.length : Int))) = true →
 (((decide (z30 = 0)) = true →
  ((z28 = true →
   (((decide (z34 = 0)) = true →
    (((decide (z38 = 0)) = true →
     (True ∧
     ∀ z45 : Bool,
     (z45 = smO z32 g →
     ((z45 = true →
      (True ∧
      ∀ z48 : Bool,
      (z48 = smO z36 g →
      (z48, ()) = (true, ())))) ∧
     (z45 = false →
     (false, ()) = (true, ())))))) ∧
    ((decide (z38 = 0)) = false →
    (false, ()) = (true, ())))) ∧
   ((decide (z34 = 0)) = false →
   (false, ()) = (true, ())))) ∧
  (z28 = false →
  (false, ()) = (true, ())))) ∧
 ((decide (z30 = 0)) = false →
 (false, ()) = (true, ())))) ∧
((decide (z20 = (z8.length : Int))) = false →
(false, ()) = (true, ()))))))))))))))))))))))))))))))))))))))))))
theorem r_SubTwins (x : HL C_SubTwins.args) : runs (env0 [(8, C_awake6.hid), (20, C_sClasses.hid), (21, C_sHeart.hid), (10, C_lparts.hid), (16, C_gCheck.hid), (28, C_opOrder.hid), (29, C_opKind.hid), (12, C_gFind.hid), (22, C_sNormal.hid), (13, C_sMeet.hid), (14, C_sJoin.hid), (18, C_r5Same.hid)] [(6, 11, { fix := [], vars := [(.tmp 7, .int .i64), (.tmp 70, .int .i64)], inv := fun y v => twN x.1 v.1 v.2.1, mu := fun y v => liMu (clC x.1) v.2.1 }), (6, 18, { fix := [(.tmp 70, .int .i64)], vars := [(.tmp 110, .int .i64)], inv := fun y v => twK x.1 y.1 v.1, mu := fun y v => paMu (clC x.1) y.1 v.1 })] []) 2500 6 C_SubTwins x = T_SubTwins x.1 := by kernel_rfl
theorem p_SubTwins (g : List Op3) (h0 : (Sh.list .op).okA g) : T_SubTwins g := by
  have hbd : g.length * 96 ≤ room := h0.2
  unfold T_SubTwins
  refine ⟨trivial, fun z hz => ⟨fun h => absurd (hz ▸ h) (by decide), fun _ => ⟨trivial, fun cl hcl e he => ⟨trivial, fun x hx f hf => ⟨fun hq => ?_, fun hq => ?_⟩⟩⟩⟩⟩
  · have hne : chkE g ≠ 0 := by rw [← he]; simpa using hq
    rw [he, hf, hcl, hx, show clC g = [] from if_neg hne, show heL g = [] from if_neg hne]
    simp
  have hg : chkE g = 0 := by rw [← he]; simpa using hq
  have hpb := clC_pa hg
  have hxc : chkE x = 0 := by rw [hx]; exact he_chk hg
  subst hcl
  have hlm := hpb.1
  have h192 := chk_len hg
  have hFm := (chk_grp hg).1
  refine ⟨fun q => absurd q (by rw [hf, hg]; decide), fun _ => ⟨hpb, fun y hy => ⟨fun q => absurd q (by rw [hy]; decide), fun _ => ⟨trivial, fun k hk => ⟨fun q => absurd q (by rw [hk, hxc]; decide), fun _ => ⟨wc_0 _, fun a _ _ i _ _ hW => ⟨fun hi => ?_, fun hi => ?_⟩⟩⟩⟩⟩⟩⟩
  · have hi := of_decide_eq_true hi
    have i0 := hW.1.1
    obtain ⟨b, b1, b2, b3, b4, b5, b6, b7⟩ := clC_at hg i0 hi
    rw [b4]
    obtain ⟨_, c0, _, cR⟩ := pa_at hpb i0 hi
    have hcl : (((clC g).getD i.toNat []).length : Int) ≤ 192 := by
      have h1 := (pa_at hpb i0 hi).2.2
      have h2 : ((clC g).getD i.toNat []).Nodup := h1.1.imp fun h => by omega
      have h3 := nodup_le (m := (List.range g.length).map fun k : Nat => (k : Int)) h2 fun x hx => by
        have := h1.2 x hx
        exact List.mem_map.2 ⟨x.toNat, List.mem_range.2 (by omega), by omega⟩
      rw [List.length_map, List.length_range] at h3
      omega
    obtain ⟨n1, n2, n3⟩ := wc_next (by omega) hW hi
    rw [Int.toNat_natCast]
    have hgb := g_at b1
    have hin : inB g (b : Int) := ⟨by omega, by omega⟩
    refine ⟨⟨i0, hi⟩, c0, hin, trivial, fun o ho e1 he1 => ⟨c0, hin, trivial, fun w hw e2 he2 => ⟨fun q => absurd q (by rw [he1, grp_oro hg hgb]; decide), fun _ => ⟨fun q => absurd q (by rw [he2, grp_kin hg hgb]; decide), fun _ => ⟨by omega, fun q => absurd q (by rw [b6]; decide), fun _ => ⟨⟨Int.le_refl _, by omega⟩, fun j _ _ hJ => ⟨fun hj => ?_, fun hj => ?_⟩⟩⟩⟩⟩⟩⟩
    · have hj := of_decide_eq_true hj
      have j0 := hJ.1
      have hm := getD_mem j0 hj (0 : Int)
      rw [b3] at hm
      obtain ⟨s1, s2, s3, s4, s5⟩ := cls_same hg b1 b2 hm
      rw [← b3] at s1 s2 s3 s4 s5
      have hw1 : w64 (j + 1) = j + 1 := w64_id (by omega) (by omega)
      rw [hw1]
      exact ⟨⟨j0, hj⟩, s1, trivial, fun o2 ho2 e3 he3 => ⟨s1, trivial, fun w2 hw2 e4 he4 => ⟨fun q => absurd q (by rw [he3, s3]; decide), fun _ => ⟨fun q => absurd q (by rw [he4, s5]; decide), fun _ => ⟨fun q => absurd q (by rw [ho2, s2, ho]; simp), fun _ => ⟨fun q => absurd q (by rw [hw2, s4, hw]; simp), fun _ => ⟨⟨by omega, by omega⟩, decide_eq_true (by unfold paMu; omega), decide_eq_true (by unfold paMu; omega)⟩⟩⟩⟩⟩⟩⟩
    · refine ⟨c0, hin, trivial, fun k1 _ e3 he3 => ⟨fun q => absurd q ?_, fun _ => ⟨fun q => ⟨n1 (of_decide_eq_true q), n3⟩, fun q => ⟨n2 (of_decide_eq_false q), n3⟩⟩⟩⟩
      have e : decide ((((clC g).getD i.toNat []).length : Int) = 1) = decide (e3 = 0) := by
        rw [Bool.eq_iff_iff, decide_eq_true_iff, decide_eq_true_iff, he3, fnd_iff hxc (hFm _ hgb), hx, ← b7]
        omega
      rw [e]; simp
  · have hcnt : a = (x.length : Int) := by rw [wc_end hW (of_decide_eq_false hi), he_count hg, hx]
    have hsub : ∀ o ∈ x, o ∈ g := fun o ho => by rw [hx] at ho; exact ((he_mem hg).1 ho).1
    obtain ⟨j1, j2⟩ := jo_part hg hg (fun _ h => h)
    have mp := me_part hg hg (fun _ h => h)
    refine ⟨trivial, fun n hn e1 he1 => ⟨trivial, fun m hm e2 he2 => ⟨trivial, fun j hj e3 he3 => ?_⟩⟩⟩
    rw [hx, no_heart hg] at hn
    rw [bo_of hg hxc hsub] at he1
    rw [mp] at hm
    rw [(si_of hg hg (fun _ h => h)).2] at he2
    rw [j2] at hj
    rw [j1] at he3
    exact ⟨fun _ => ⟨fun _ => ⟨fun _ => ⟨fun _ => ⟨fun _ => ⟨trivial, fun b hb => ⟨fun _ => ⟨trivial, fun b2 hb2 => by rw [hb2, hj]; simp [smO]⟩, fun q => absurd q (by rw [hb, hm]; simp [smO])⟩⟩, fun q => absurd q (by rw [he3]; decide)⟩, fun q => absurd q (by rw [he2]; decide)⟩, fun q => absurd q (by rw [hn]; decide)⟩, fun q => absurd q (by rw [he1]; decide)⟩, fun q => absurd q (by rw [hcnt]; simp)⟩
theorem s_SubTwins : Sound Try.prog 6 C_SubTwins :=
  sound_of_eqs (fun x => env0 [(8, C_awake6.hid), (20, C_sClasses.hid), (21, C_sHeart.hid), (10, C_lparts.hid), (16, C_gCheck.hid), (28, C_opOrder.hid), (29, C_opKind.hid), (12, C_gFind.hid), (22, C_sNormal.hid), (13, C_sMeet.hid), (14, C_sJoin.hid), (18, C_r5Same.hid)] [(6, 11, { fix := [], vars := [(.tmp 7, .int .i64), (.tmp 70, .int .i64)], inv := fun y v => twN x.1 v.1 v.2.1, mu := fun y v => liMu (clC x.1) v.2.1 }), (6, 18, { fix := [(.tmp 70, .int .i64)], vars := [(.tmp 110, .int .i64)], inv := fun y v => twK x.1 y.1 v.1, mu := fun y v => paMu (clC x.1) y.1 v.1 })] []) (fun _ => rfl) (fun _ => env0_ok (.cons s_awake6.hid (.cons s_sClasses.hid (.cons s_sHeart.hid (.cons s_lparts.hid (.cons s_gCheck.hid (.cons s_opOrder.hid (.cons s_opKind.hid (.cons s_gFind.hid (.cons s_sNormal.hid (.cons s_sMeet.hid (.cons s_sJoin.hid (.cons s_r5Same.hid (.nil)))))))))))))) (fun x => T_SubTwins x.1) r_SubTwins fun x ok hp => p_SubTwins x.1 ok.1
end Go.Fx
