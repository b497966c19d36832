/-
  Contracts: WholeCosets.
-/
import Derived.Test.YtkmbomopkojgfaaK15
namespace Go.Fx
open Go Go.Proofs
set_option maxRecDepth 100000
set_option linter.unusedVariables false
set_option linter.unusedSimpArgs false
set_option linter.unusedSectionVars false
noncomputable def C_WholeCosets : Contract := { args := [.list .seed, .list .seed], res := [.bool], pre := fun x => wcP x.1 x.2.1, F := fun x => ((true : Bool), ()) }
def T_WholeCosets (l : List Sd) (m : List Sd) : Prop :=
  (lfit 6 (lapp [] l) ∧
(lfit 6 (lapp (lapp [] l) m) ∧
(True ∧
∀ z2 : List Op3,
(z2 = sedL (lapp (lapp [] l) m) →
(True ∧
∀ z4 : List Op3,
(z4 = cloL z2 →
∀ z6 : Int,
(z6 = cloE z2 →
(((!(decide (z6 = 0))) = true →
 (True ∧
 ∀ z9 : List Op3,
 (z9 = sedL l →
 (True ∧
 ∀ z11 : List Op3,
 (z11 = cloL z9 →
 ∀ z13 : Int,
 (z13 = cloE z9 →
 (((!(decide (z13 = 0))) = true →
  (True ∧
  (True ∧
  ∀ z16 : List (List Int),
  (z16 = clC [oneO] →
  ∀ z18 : Int,
  (z18 = chkE [oneO] →
  (((!(decide (z18 = 0))) = true →
   (false, ()) = (true, ())) ∧
  ((!(decide (z18 = 0))) = false →
  (((!(decide ((z16.length : Int) = 1))) = true →
   (false, ()) = (true, ())) ∧
  ((!(decide ((z16.length : Int) = 1))) = false →
  (true, ()) = (true, ())))))))))) ∧
 ((!(decide (z13 = 0))) = false →
 (True ∧
 (True ∧
 ∀ z16 : List (List Int),
 (z16 = clC [oneO] →
 ∀ z18 : Int,
 (z18 = chkE [oneO] →
 (((!(decide (z18 = 0))) = true →
  (false, ()) = (true, ())) ∧
 ((!(decide (z18 = 0))) = false →
 (((!(decide ((z16.length : Int) = 1))) = true →
  (false, ()) = (true, ())) ∧
 ((!(decide ((z16.length : Int) = 1))) = false →
 (true, ()) = (true, ()))))))))))))))))) ∧
((!(decide (z6 = 0))) = false →
(True ∧
∀ z9 : List Op3,
(z9 = sedL l →
(True ∧
∀ z11 : List Op3,
(z11 = cloL z9 →
∀ z13 : Int,
(z13 = cloE z9 →
(((!(decide (z13 = 0))) = true →
 (True ∧
 (True ∧
 ∀ z16 : List (List Int),
 (z16 = clC [oneO] →
 ∀ z18 : Int,
 (z18 = chkE [oneO] →
 (((!(decide (z18 = 0))) = true →
  (false, ()) = (true, ())) ∧
 ((!(decide (z18 = 0))) = false →
 (((!(decide ((z16.length : Int) = 1))) = true →
  (false, ()) = (true, ())) ∧
 ((!(decide ((z16.length : Int) = 1))) = false →
 (nonE z4 ∧
 (true, ()) = (true, ()))))))))))) ∧
((!(decide (z13 = 0))) = false →
(True ∧
(True ∧
∀ z16 : List (List Int),
(z16 = clC [oneO] →
∀ z18 : Int,
(z18 = chkE [oneO] →
(((!(decide (z18 = 0))) = true →
 (false, ()) = (true, ())) ∧
((!(decide (z18 = 0))) = false →
(((!(decide ((z16.length : Int) = 1))) = true →
 (false, ()) = (true, ())) ∧
((!(decide ((z16.length : Int) = 1))) = false →
(nonE z4 ∧
(nonE z11 ∧
(True ∧
∀ z22 : Bool,
(z22 = siB z4 z11 →
∀ z24 : Int,
(z24 = two z4 z11 →
((((decide (3 < ((lapp (lapp [] l) m).length : Int))) = true →
  ((decide (z24 = 0)), ()) = (true, ())) ∧
 ((decide (3 < ((lapp (lapp [] l) m).length : Int))) = false →
 (((decide (0 < (m.length : Int))) = true →
  (((decide (0 < (l.length : Int))) = true →
   (inB l 0 ∧
   (inB m 0 ∧
   (((!(((l.getD 0 (Sd.mk false 0 0 0 0 0))).Hex == ((m.getD 0 (Sd.mk false 0 0 0 0 0))).Hex)) = true →
    ((decide (z24 = 0)), ()) = (true, ())) ∧
   ((!(((l.getD 0 (Sd.mk false 0 0 0 0 0))).Hex == ((m.getD 0 (Sd.mk false 0 0 0 0 0))).Hex)) = false →
   True))))) ∧
  ((decide (0 < (l.length : Int))) = false →
  True))) ∧
 ((decide (0 < (m.length : Int))) = false →
 True)))) ∧
(True →
(True ∧
∀ z27 : List (List Int),
(z27 = csC z4 z11 →
∀ z29 : Int,
(z29 = boE z4 z11 →
(True ∧
∀ z31 : List Op3,
(z31 = meL z4 z11 →
∀ z33 : Int,
(z33 = two z4 z11 →
(True ∧
∀ z35 : List Op3,
(z35 = joL z4 z11 →
∀ z37 : Int,
(z37 = joE z4 z11 →
(True ∧
∀ z39 : List (List Int),
(z39 = clC z4 →
∀ z41 : Int,
(z41 = chkE z4 →
(True ∧
∀ z43 : List Op3,
(z43 = heL z4 →
∀ z45 : Int,
(z45 = chkE z4 →
(((!(decide (z24 = 0))) = true →
 (false, ()) = (true, ())) ∧
((!(decide (z24 = 0))) = false →
(((!z22) = true →
 (false, ()) = (true, ())) ∧
((!z22) = false →
(((!(decide (z29 = 0))) = true →
 (false, ()) = (true, ())) ∧
((!(decide (z29 = 0))) = false →
(((!(decide (z33 = 0))) = true →
 (false, ()) = (true, ())) ∧
((!(decide (z33 = 0))) = false →
(((!(decide (z37 = 0))) = true →
 (false, ()) = (true, ())) ∧
((!(decide (z37 = 0))) = false →
(((!(decide (z41 = 0))) = true →
 (false, ()) = (true, ())) ∧
((!(decide (z41 = 0))) = false →
(((!(decide (z45 = 0))) = true →
 (false, ()) = (true, ())) ∧
((!(decide (z45 = 0))) = false →
(True ∧
∀ z54 : Bool,
(z54 = smO z31 z11 →
(((!z54) = true →
 (false, ()) = (true, ())) ∧
((!z54) = false →
(True ∧
∀ z57 : Bool,
(z57 = smO z35 z4 →
(((!z57) = true →
 (false, ()) = (true, ())) ∧
((!z57) = false →
(rgP (lenC (csC (wcG l m) (wcH l))) 0 ∧
∀ z60 : Int,
((decide ((-9223372036854775808) ≤ z60)) = true →
((decide (z60 ≤ 9223372036854775807)) = true →
(rgP (lenC (csC (wcG l m) (wcH l))) z60 →
(((decide (z60 < (z27.length : Int))) = true →
 (inB z27 z60 ∧
 (((!(decide ((((z27.getD (z60).toNat [])).length : Int) = (z11.length : Int)))) = true →
  (false, ()) = (true, ())) ∧
 ((!(decide ((((z27.getD (z60).toNat [])).length : Int) = (z11.length : Int)))) = false →
 (rgP (lenC (csC (wcG l m) (wcH l))) ((w64 (z60 + 1))) ∧
 ((decide (0 ≤ liMu (csC (wcG l m) (wcH l)) ((w64 (z60 + 1))))) = true ∧
 (decide (liMu (csC (wcG l m) (wcH l)) ((w64 (z60 + 1))) < liMu (csC (wcG l m) (wcH l)) z60)) = true)))))) ∧
((decide (z60 < (z27.length : Int))) = false →
(wcN (clC (wcG l m)) 0 0 ∧
∀ z65 : Int,
((decide ((-9223372036854775808) ≤ z65)) = true →
((decide (z65 ≤ 9223372036854775807)) = true →
∀ z68 : Int,
((decide ((-9223372036854775808) ≤ z68)) = true →
((decide (z68 ≤ 9223372036854775807)) = true →
(wcN (clC (wcG l m)) z65 z68 →
(((decide (z68 < (z39.length : Int))) = true →
 (inB z39 z68 ∧
 (((decide ((((z39.getD (z68).toNat [])).length : Int) = 1)) = true →
  (inB z39 z68 ∧
  (((((z39.getD (z68).toNat [])).length : Int) ≠ 0) ∧
  (((!(decide ((Int.tmod (z4.length : Int) ((((z39.getD (z68).toNat [])).length : Int))) = 0))) = true →
   (false, ()) = (true, ())) ∧
  ((!(decide ((Int.tmod (z4.length : Int) ((((z39.getD (z68).toNat [])).length : Int))) = 0))) = false →
  (wcN (clC (wcG l m)) ((w64 (z65 + 1))) ((w64 (z68 + 1))) ∧
  ((decide (0 ≤ liMu (clC (wcG l m)) ((w64 (z68 + 1))))) = true ∧
  (decide (liMu (clC (wcG l m)) ((w64 (z68 + 1))) < liMu (clC (wcG l m)) z68)) = true))))))) ∧
 ((decide ((((z39.getD (z68).toNat [])).length : Int) = 1)) = false →
 (inB z39 z68 ∧
 (((((z39.getD (z68).toNat [])).length : Int) ≠ 0) ∧
 (((!(decide ((Int.tmod (z4.length : Int) ((((z39.getD (z68).toNat [])).length : Int))) = 0))) = true →
  (false, ()) = (true, ())) ∧
 ((!(decide ((Int.tmod (z4.length : Int) ((((z39.getD (z68).toNat [])).length : Int))) = 0))) = false →
 (wcN (clC (wcG l m)) z65 ((w64 (z68 + 1))) ∧
 ((decide (0 ≤ liMu (clC (wcG l m)) ((w64 (z68 + 1))))) = true ∧
 (decide (liMu (clC (wcG l m)) ((w64 (z68 + 1))) < liMu (clC (wcG l m)) z68)) = true)))))))))) ∧
((decide (z68 < (z39.length : Int))) = false →
(True ∧
∀ z73 : Bool,
(z73 = noB z4 z4 →
∀ z75 : Int,
(z75 = boE z4 z4 →
(True ∧
∀ z77 : Bool,
(z77 = noB z4 z11 →
∀ z79 : Int,
(z79 = boE z4 z11 →
(((!(decide (z75 = 0))) = true →
 (false, ()) = (true, ())) ∧
((!(decide (z75 = 0))) = false →
(((!(decide (z79 = 0))) = true →
 (false, ()) = (true, ())) ∧
((!(decide (z79 = 0))) = false →
(((!z73) = true →
 (false, ()) = (true, ())) ∧
((!z73) = false →
(((decide ((2 * (z11.length : Int)) = (z4.length : Int))) = true →
 (((!z77) = true →
  (false, ()) = (true, ())) ∧
 ((!z77) = false →
 (paP z27 (z4.length : Int) ∧
 ∀ z86 : Bool,
 (z86 = true →
 ((z86 = true →
  (paP z39 (z4.length : Int) ∧
  ∀ z89 : Bool,
  (z89 = true →
  ((z89 = true →
   (((decide (z65 = (z43.length : Int))) = true →
    (True ∧
    ∀ z93 : Int,
    (z93 = chkE z43 →
    ((decide (z93 = 0)), ()) = (true, ())))) ∧
   ((decide (z65 = (z43.length : Int))) = false →
   (false, ()) = (true, ())))) ∧
  (z89 = false →
  (false, ()) = (true, ())))))) ∧
 (z86 = false →
 (false, ()) = (true, ())))))))) ∧
((decide ((2 * (z11.length : Int)) = (z4.length : Int))) = false →
(paP z27 (z4.length : Int) ∧
∀ z85 : Bool,
(z85 = true →
((z85 = true →
 (paP z39 (z4.length : Int) ∧
 ∀ z88 : Bool,
 (z88 = true →
 ((z88 = true →
  (((decide (z65 = (z43.length : Int))) = true →
   (True ∧
   ∀ z92 : Int,
   (z92 = chkE z43 →
   ((decide (z92 = 0)), ()) = (true, ())))) ∧
  ((decide (z65 = (z43.length : Int))) = false →
  (false, ()) = (true, ())))) ∧
 (z88 = false →
 (false, ()) = (true, ())))))) ∧
(z85 = false →
(false, ()) = (true, ())))))))))))))))))))))))))))))))))))))))))))))))))))))))))))))))))))))))))))))))))))))))))))))))))))))
theorem r_WholeCosets (x : HL C_WholeCosets.args) : runs (env0 [(59, C_seeds.hid), (17, C_gClose.hid), (24, C_opOne), (20, C_sClasses.hid), (15, C_sWithin.hid), (9, C_sCosets.hid), (13, C_sMeet.hid), (14, C_sJoin.hid), (21, C_sHeart.hid), (31, C_tsame.hid), (22, C_sNormal.hid), (32, C_tonce.hid), (16, C_gCheck.hid)] [(7, 20, { fix := [], vars := [(.tmp 22, .int .i64)], inv := fun y v => rgP (lenC (csC (wcG x.1 x.2.1) (wcH x.1))) v.1, mu := fun y v => liMu (csC (wcG x.1 x.2.1) (wcH x.1)) v.1 }), (7, 26, { fix := [], vars := [(.tmp 23, .int .i64), (.tmp 24, .int .i64)], inv := fun y v => wcN (clC (wcG x.1 x.2.1)) v.1 v.2.1, mu := fun y v => liMu (clC (wcG x.1 x.2.1)) v.2.1 })] [(7, 12, { fix := [], vars := [], inv := fun y v => True, mu := fun y v => 0 })]) 2500 7 C_WholeCosets x = T_WholeCosets x.1 x.2.1 := by kernel_rfl
theorem p_WholeCosets (l : List Sd) (m : List Sd) (h0 : (Sh.list .seed).okA l) (h1 : (Sh.list .seed).okA m) (hp : wcP l m) : T_WholeCosets l m := by
  have hfit : (l.length + m.length) * 6 ≤ 140737488355328 := hp
  unfold T_WholeCosets
  have e5 : lapp (lapp [] l) m = l ++ m := rfl
  have e6 : lapp [] l = l := rfl
  rw [e5, e6]
  have nz : ∀ x : List Op3, chkE x = 0 → nonE x := fun x hx c => by
    have := (chk_grp hx).2.2.1
    rw [c] at this; cases this
  refine ⟨by show l.length * 6 ≤ 140737488355328; omega, by show (l ++ m).length * 6 ≤ 140737488355328; rw [List.length_append]; omega, trivial, fun s hs => ⟨trivial, fun g hg e he => ⟨fun hq => ⟨trivial, fun s2 hs2 => ⟨trivial, fun h hh f hf => ⟨fun hq2 => ⟨trivial, trivial, fun c hc k hk => ⟨fun q => absurd q (by rw [hk, on1.2]; decide), fun _ => ⟨fun q => absurd q (by rw [hc, on1.1]; decide), fun _ => by trivial⟩⟩⟩, fun hq2 => ⟨trivial, trivial, fun c hc k hk => ⟨fun q => absurd q (by rw [hk, on1.2]; decide), fun _ => ⟨fun q => absurd q (by rw [hc, on1.1]; decide), fun _ => by trivial⟩⟩⟩⟩⟩⟩, fun hq => ⟨trivial, fun s2 hs2 => ⟨trivial, fun h hh f hf => ?_⟩⟩⟩⟩⟩
  have hz1 : cloE s = 0 := by rw [← he]; simpa using hq
  have hg0 : chkE g = 0 := by rw [hg]; exact clo_chk hz1
  refine ⟨fun hq2 => ⟨trivial, trivial, fun c hc k hk => ⟨fun q => absurd q (by rw [hk, on1.2]; decide), fun _ => ⟨fun q => absurd q (by rw [hc, on1.1]; decide), fun _ => ⟨nz g hg0, by trivial⟩⟩⟩⟩, fun hq2 => ?_⟩
  have hz2 : cloE s2 = 0 := by rw [← hf]; simpa using hq2
  have hh0 : chkE h = 0 := by rw [hh]; exact clo_chk hz2
  have hgw : g = wcG l m := by rw [hg, hs]; rfl
  have hhw : h = wcH l := by rw [hh, hs2]; rfl
  have hsub : ∀ o ∈ h, o ∈ g := by
    rw [hs] at hz1
    rw [hs2] at hz2
    rw [hgw, hhw]
    exact wc_part (gE_frm (cloE_zero hz1).1) hz1 hz2
  rw [← hgw, ← hhw]
  clear hg hh hgw hhw hs hs2
  obtain ⟨si1, si2⟩ := si_of hg0 hh0 hsub
  refine ⟨trivial, trivial, fun c hc k hk => ⟨fun q => absurd q (by rw [hk, on1.2]; decide), fun _ => ⟨fun q => absurd q (by rw [hc, on1.1]; decide), fun _ => ⟨nz g hg0, nz h hh0, trivial, fun b hb d hd => ⟨⟨fun _ => by rw [hd, si2]; rfl, fun _ => ⟨fun hm => ⟨fun hl => ⟨⟨Int.le_refl _, of_decide_eq_true hl⟩, ⟨Int.le_refl _, of_decide_eq_true hm⟩, fun _ => by rw [hd, si2]; rfl, fun _ => trivial⟩, fun _ => trivial⟩, fun _ => trivial⟩⟩, fun _ => ⟨trivial, fun cs hcs e1 he1 => ⟨trivial, fun x hx e2 he2 => ⟨trivial, fun y hy e3 he3 => ⟨trivial, fun cl hcl e4 he4 => ⟨trivial, fun z hz e5 he5 => ?_⟩⟩⟩⟩⟩⟩⟩⟩⟩⟩
  have hbo := bo_of hg0 hh0 hsub
  obtain ⟨j1, j2⟩ := jo_part hg0 hh0 hsub
  have mp := me_part hg0 hh0 hsub
  rw [hbo] at he1
  rw [si2] at he2 hd
  rw [si1] at hb
  rw [j1] at he3
  rw [j2] at hy
  rw [mp] at hx
  rw [hg0] at he4 he5
  have hpa : paP cs (g.length : Int) := by rw [hcs]; exact csC_pa hg0 hh0 hsub
  have hpb : paP cl (g.length : Int) := by rw [hcl]; exact clC_pa hg0
  have hz0 : chkE z = 0 := by rw [hz]; exact he_chk hg0
  have hln := hpa.1
  have hlm := hpb.1
  refine ⟨fun q => absurd q (by rw [hd]; decide), fun _ => ⟨fun q => absurd q (by rw [hb]; decide), fun _ => ⟨fun q => absurd q (by rw [he1]; decide), fun _ => ⟨fun q => absurd q (by rw [he2]; decide), fun _ => ⟨fun q => absurd q (by rw [he3]; decide), fun _ => ⟨fun q => absurd q (by rw [he4]; decide), fun _ => ⟨fun q => absurd q (by rw [he5]; decide), fun _ => ⟨trivial, fun b1 hb1 => ⟨fun q => absurd q (by rw [hb1, hx]; simp [smO]), fun _ => ⟨trivial, fun b2 hb2 => ⟨fun q => absurd q (by rw [hb2, hy]; simp [smO]), fun _ => ?_⟩⟩⟩⟩⟩⟩⟩⟩⟩⟩⟩
  rw [← hcs, ← hcl]
  refine ⟨⟨Int.le_refl _, by unfold lenC; omega⟩, fun i _ _ hI => ⟨fun hi => ?_, fun _ => ⟨wc_0 cl, fun a _ _ i _ _ hW => ⟨fun hi => ?_, fun hi => ⟨trivial, fun w hw e6 he6 => ⟨trivial, fun v hv e7 he7 => ?_⟩⟩⟩⟩⟩⟩
  · have hi := of_decide_eq_true hi
    have i0 := hI.1
    obtain ⟨_, _, _, _, a4, _⟩ := csC_at hg0 hh0 hsub (i := i) i0 (by rw [← hcs]; exact hi)
    rw [← hcs] at a4
    have hw2 : w64 (i + 1) = i + 1 := w64_id (by omega) (by omega)
    rw [hw2]
    exact ⟨⟨i0, hi⟩, fun q => absurd q (by rw [a4]; simp), fun _ => ⟨⟨by omega, by unfold lenC; omega⟩, decide_eq_true (by unfold liMu; omega), decide_eq_true (by unfold liMu; omega)⟩⟩
  · have hi := of_decide_eq_true hi
    have i0 := hW.1.1
    obtain ⟨_, _, _, _, _, a5, a6, _⟩ := clC_at hg0 (i := i) i0 (by rw [← hcl]; exact hi)
    rw [← hcl] at a5 a6
    obtain ⟨n1, n2, n3⟩ := wc_next (by omega) hW hi
    exact ⟨⟨i0, hi⟩, fun q => ⟨⟨i0, hi⟩, by omega, fun c => absurd c (by rw [a6]; decide), fun _ => ⟨n1 (of_decide_eq_true q), n3⟩⟩, fun q => ⟨⟨i0, hi⟩, by omega, fun c => absurd c (by rw [a6]; decide), fun _ => ⟨n2 (of_decide_eq_false q), n3⟩⟩⟩
  · have hcnt : a = (z.length : Int) := by rw [wc_end hW (of_decide_eq_false hi), hcl, he_count hg0, hz]
    rw [no_self hg0] at hw
    rw [bo_of hg0 hg0 (fun _ h => h)] at he6
    rw [hbo] at he7
    refine ⟨fun q => absurd q (by rw [he6]; decide), fun _ => ⟨fun q => absurd q (by rw [he7]; decide), fun _ => ⟨fun q => absurd q (by rw [hw]; decide), fun _ => ⟨fun hh2 => ⟨fun q => absurd q ?_, fun _ => ⟨hpa, fun z1 hz1 => ⟨fun _ => ⟨hpb, fun z2 hz2 => ⟨fun _ => ⟨fun _ => ⟨trivial, fun k hk2 => by rw [hk2, hz0]; rfl⟩, fun q => absurd q (by rw [hcnt]; simp)⟩, fun q => absurd q (by rw [hz2]; decide)⟩⟩, fun q => absurd q (by rw [hz1]; decide)⟩⟩⟩, fun _ => ⟨hpa, fun z1 hz1 => ⟨fun _ => ⟨hpb, fun z2 hz2 => ⟨fun _ => ⟨fun _ => ⟨trivial, fun k hk2 => by rw [hk2, hz0]; rfl⟩, fun q => absurd q (by rw [hcnt]; simp)⟩, fun q => absurd q (by rw [hz2]; decide)⟩⟩, fun q => absurd q (by rw [hz1]; decide)⟩⟩⟩⟩⟩⟩
    rw [hv, no_half hg0 hh0 hsub (by have := of_decide_eq_true hh2; omega)]
    decide
theorem s_WholeCosets : Sound Try.prog 7 C_WholeCosets :=
  sound_of_eqs (fun x => env0 [(59, C_seeds.hid), (17, C_gClose.hid), (24, C_opOne), (20, C_sClasses.hid), (15, C_sWithin.hid), (9, C_sCosets.hid), (13, C_sMeet.hid), (14, C_sJoin.hid), (21, C_sHeart.hid), (31, C_tsame.hid), (22, C_sNormal.hid), (32, C_tonce.hid), (16, C_gCheck.hid)] [(7, 20, { fix := [], vars := [(.tmp 22, .int .i64)], inv := fun y v => rgP (lenC (csC (wcG x.1 x.2.1) (wcH x.1))) v.1, mu := fun y v => liMu (csC (wcG x.1 x.2.1) (wcH x.1)) v.1 }), (7, 26, { fix := [], vars := [(.tmp 23, .int .i64), (.tmp 24, .int .i64)], inv := fun y v => wcN (clC (wcG x.1 x.2.1)) v.1 v.2.1, mu := fun y v => liMu (clC (wcG x.1 x.2.1)) v.2.1 })] [(7, 12, { fix := [], vars := [], inv := fun y v => True, mu := fun y v => 0 })]) (fun _ => rfl) (fun _ => env0_ok (.cons s_seeds.hid (.cons s_gClose.hid (.cons s_opOne (.cons s_sClasses.hid (.cons s_sWithin.hid (.cons s_sCosets.hid (.cons s_sMeet.hid (.cons s_sJoin.hid (.cons s_sHeart.hid (.cons s_tsame.hid (.cons s_sNormal.hid (.cons s_tonce.hid (.cons s_gCheck.hid (.nil))))))))))))))) (fun x => T_WholeCosets x.1 x.2.1) r_WholeCosets fun x ok hp => p_WholeCosets x.1 x.2.1 ok.1 ok.2.1 hp
end Go.Fx
