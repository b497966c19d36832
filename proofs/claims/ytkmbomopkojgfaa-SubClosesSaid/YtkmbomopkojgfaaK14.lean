/-
  Contracts: SubCloses.
-/
import Derived.Test.YtkmbomopkojgfaaK12
namespace Go.Fx
open Go Go.Proofs
set_option maxRecDepth 100000
set_option linter.unusedVariables false
set_option linter.unusedSimpArgs false
set_option linter.unusedSectionVars false
noncomputable def C_SubCloses : Contract := { args := [.list .op, .list .op], res := [.bool], pre := fun _ => True, F := fun x => ((true : Bool), ()) }
def T_SubCloses (g : List Op3) (h : List Op3) : Prop :=
  (True ∧
∀ z2 : Bool,
(z2 = true →
(((!z2) = true →
 (false, ()) = (true, ())) ∧
((!z2) = false →
(True ∧
∀ z5 : List Op3,
(z5 = meL g h →
∀ z7 : Int,
(z7 = two g h →
(True ∧
∀ z9 : List Op3,
(z9 = joL g h →
∀ z11 : Int,
(z11 = joE g h →
(((!(decide (z7 = 0))) = true →
 (((decide ((z5.length : Int) = 0)) = true →
  (((decide ((z9.length : Int) = 0)) = true →
   ((decide (z11 = z7)), ()) = (true, ())) ∧
  ((decide ((z9.length : Int) = 0)) = false →
  (false, ()) = (true, ())))) ∧
 ((decide ((z5.length : Int) = 0)) = false →
 (false, ()) = (true, ())))) ∧
((!(decide (z7 = 0))) = false →
(True ∧
∀ z14 : Bool,
(z14 = siB g z5 →
∀ z16 : Int,
(z16 = two g z5 →
(True ∧
∀ z18 : Bool,
(z18 = siB h z5 →
∀ z20 : Int,
(z20 = two h z5 →
(True ∧
∀ z22 : Int,
(z22 = chkE z5 →
(((!(decide (z22 = 0))) = true →
 (false, ()) = (true, ())) ∧
((!(decide (z22 = 0))) = false →
(((!(decide (z16 = 0))) = true →
 (false, ()) = (true, ())) ∧
((!(decide (z16 = 0))) = false →
(((!(decide (z20 = 0))) = true →
 (false, ()) = (true, ())) ∧
((!(decide (z20 = 0))) = false →
(((!z14) = true →
 (false, ()) = (true, ())) ∧
((!z14) = false →
(((!z18) = true →
 (false, ()) = (true, ())) ∧
((!z18) = false →
(((z5.length : Int) ≠ 0) ∧
(((!(decide ((Int.tmod (g.length : Int) (z5.length : Int)) = 0))) = true →
 (false, ()) = (true, ())) ∧
((!(decide ((Int.tmod (g.length : Int) (z5.length : Int)) = 0))) = false →
(((z5.length : Int) ≠ 0) ∧
(((!(decide ((Int.tmod (h.length : Int) (z5.length : Int)) = 0))) = true →
 (false, ()) = (true, ())) ∧
((!(decide ((Int.tmod (h.length : Int) (z5.length : Int)) = 0))) = false →
(rgP (g.length : Int) 0 ∧
∀ z31 : Int,
((decide ((-9223372036854775808) ≤ z31)) = true →
((decide (z31 ≤ 9223372036854775807)) = true →
(rgP (g.length : Int) z31 →
(((decide (z31 < (g.length : Int))) = true →
 (inB g z31 ∧
 (True ∧
 ∀ z36 : Int,
 (z36 = fndI h (((g.getD (z31).toNat zerO))) →
 ∀ z38 : Int,
 (z38 = fndE h (((g.getD (z31).toNat zerO))) →
 (True ∧
 ∀ z40 : Int,
 (z40 = fndI z5 (((g.getD (z31).toNat zerO))) →
 ∀ z42 : Int,
 (z42 = fndE z5 (((g.getD (z31).toNat zerO))) →
 (((!((decide (z38 = 0)) == (decide (z42 = 0)))) = true →
  (false, ()) = (true, ())) ∧
 ((!((decide (z38 = 0)) == (decide (z42 = 0)))) = false →
 (rgP (g.length : Int) ((w64 (z31 + 1))) ∧
 ((decide (0 ≤ opMu g ((w64 (z31 + 1))))) = true ∧
 (decide (opMu g ((w64 (z31 + 1))) < opMu g z31)) = true)))))))))))) ∧
((decide (z31 < (g.length : Int))) = false →
(((!(decide (z11 = 0))) = true →
 (((decide (z11 = 5)) = true →
  ((decide ((z9.length : Int) = 0)), ()) = (true, ())) ∧
 ((decide (z11 = 5)) = false →
 (false, ()) = (true, ())))) ∧
((!(decide (z11 = 0))) = false →
(True ∧
∀ z37 : Bool,
(z37 = siB z9 g →
∀ z39 : Int,
(z39 = two z9 g →
(True ∧
∀ z41 : Bool,
(z41 = siB z9 h →
∀ z43 : Int,
(z43 = two z9 h →
(True ∧
∀ z45 : Int,
(z45 = chkE z9 →
(((!(decide (z45 = 0))) = true →
 (false, ()) = (true, ())) ∧
((!(decide (z45 = 0))) = false →
(((!(decide (z39 = 0))) = true →
 (false, ()) = (true, ())) ∧
((!(decide (z39 = 0))) = false →
(((!(decide (z43 = 0))) = true →
 (false, ()) = (true, ())) ∧
((!(decide (z43 = 0))) = false →
(((!z37) = true →
 (false, ()) = (true, ())) ∧
((!z37) = false →
(((!z41) = true →
 (false, ()) = (true, ())) ∧
((!z41) = false →
(((g.length : Int) ≠ 0) ∧
(((!(decide ((Int.tmod (z9.length : Int) (g.length : Int)) = 0))) = true →
 (false, ()) = (true, ())) ∧
((!(decide ((Int.tmod (z9.length : Int) (g.length : Int)) = 0))) = false →
(((h.length : Int) ≠ 0) ∧
(((!(decide ((Int.tmod (z9.length : Int) (h.length : Int)) = 0))) = true →
 (false, ()) = (true, ())) ∧
((!(decide ((Int.tmod (z9.length : Int) (h.length : Int)) = 0))) = false →
(((decide (192 < ((g.length : Int) + (h.length : Int)))) = true →
 (true, ()) = (true, ())) ∧
((decide (192 < ((g.length : Int) + (h.length : Int)))) = false →
(lfit 96 (lapp [] g) ∧
(lfit 96 (lapp (lapp [] g) h) ∧
(True ∧
∀ z55 : List Op3,
(z55 = cloL (lapp (lapp [] g) h) →
∀ z57 : Int,
(z57 = cloE (lapp (lapp [] g) h) →
(((decide (z57 = 0)) = true →
 (True ∧
 ∀ z60 : Bool,
 (z60 = smO z55 z9 →
 (z60, ()) = (true, ())))) ∧
((decide (z57 = 0)) = false →
(false, ()) = (true, ()))))))))))))))))))))))))))))))))))))))))))))))))))))))))))))))))))))))))))))))
theorem r_SubCloses (x : HL C_SubCloses.args) : runs (env0 [(8, C_awake6.hid), (13, C_sMeet.hid), (14, C_sJoin.hid), (15, C_sWithin.hid), (16, C_gCheck.hid), (12, C_gFind.hid), (17, C_gClose.hid), (18, C_r5Same.hid)] [(4, 12, { fix := [], vars := [(.tmp 99, .int .i64)], inv := fun y v => rgP (lenI x.1) v.1, mu := fun y v => opMu x.1 v.1 })] []) 2500 4 C_SubCloses x = T_SubCloses x.1 x.2.1 := by kernel_rfl
theorem p_SubCloses (g : List Op3) (h : List Op3) (h0 : (Sh.list .op).okA g) (h1 : (Sh.list .op).okA h) : T_SubCloses g h := by
  have hbd : g.length * 96 ≤ room := h0.2
  unfold T_SubCloses
  refine ⟨trivial, fun z hz => ⟨fun h => absurd (hz ▸ h) (by decide), fun _ => ⟨trivial, fun m hm e he => ⟨trivial, fun j hj f hf => ⟨fun hq => ?_, fun hq => ?_⟩⟩⟩⟩⟩
  · have hne : two g h ≠ 0 := by rw [← he]; simpa using hq
    rw [hm, hj, hf, he, show meL g h = [] from if_neg hne, show joL g h = [] from if_neg hne, show joE g h = two g h from if_neg hne]
    simp
  have hz0 : two g h = 0 := by rw [← he]; simpa using hq
  obtain ⟨hg, hh⟩ := two_zero.1 hz0
  have mc : chkE m = 0 := by rw [hm]; exact me_chk hz0
  have mm : ∀ x, x ∈ m ↔ x ∈ g ∧ x ∈ h := fun x => by rw [hm]; exact me_mem hz0
  have s1 := si_of hg mc fun o ho => ((mm o).1 ho).1
  have s2 := si_of hh mc fun o ho => ((mm o).1 ho).2
  have w1 := grp_w hg mc fun o ho => ((mm o).1 ho).1
  have w2 := grp_w hh mc fun o ho => ((mm o).1 ho).2
  refine ⟨trivial, fun a ha e1 he1 => ⟨trivial, fun b hb e2 he2 => ⟨trivial, fun k hk => ⟨fun c => absurd c (by rw [hk, mc]; decide), fun _ => ⟨fun c => absurd c (by rw [he1, s1.2]; decide), fun _ => ⟨fun c => absurd c (by rw [he2, s2.2]; decide), fun _ => ⟨fun c => absurd c (by rw [ha, s1.1]; decide), fun _ => ⟨fun c => absurd c (by rw [hb, s2.1]; decide), fun _ => ⟨w1.1, fun c => absurd c (by rw [w1.2]; decide), fun _ => ⟨w2.1, fun c => absurd c (by rw [w2.2]; decide), fun _ => ⟨⟨Int.le_refl _, by omega⟩, fun i _ _ hI => ⟨fun hi => ?_, fun hi => ⟨fun hq2 => ?_, fun hq2 => ?_⟩⟩⟩⟩⟩⟩⟩⟩⟩⟩⟩⟩⟩
  · have hi := of_decide_eq_true hi
    have hgo := getD_mem hI.1 hi zerO
    have hfo := (chk_grp hg).1 _ hgo
    obtain ⟨x1, x2, x3⟩ := opMu_next hbd hI.1 hi
    rw [x1] at x2 x3 ⊢
    refine ⟨⟨hI.1, hi⟩, trivial, fun k1 _ f1 hf1 => ⟨trivial, fun k2 _ f2 hf2 => ⟨fun c => absurd c ?_, fun _ => ⟨⟨by have := hI.1; omega, by omega⟩, x2, x3⟩⟩⟩⟩
    have e : decide (f1 = 0) = decide (f2 = 0) := by
      rw [Bool.eq_iff_iff, decide_eq_true_iff, decide_eq_true_iff, hf1, hf2, fnd_iff hh hfo, fnd_iff mc hfo, mm]
      exact ⟨fun h => ⟨hgo, h⟩, fun h => h.2⟩
    rw [e]; simp
  · have hne : joE g h ≠ 0 := by rw [← hf]; simpa using hq2
    obtain ⟨j1, j2⟩ := jo_no hz0 hne
    rw [hf, hj, j1, j2]
    exact ⟨fun _ => rfl, fun c => absurd c (by decide)⟩
  · have hje : joE g h = 0 := by rw [← hf]; simpa using hq2
    obtain ⟨mc, jg, jh, jb⟩ := jo_ok hz0 hje
    rw [← hj] at mc jg jh jb
    have s1 := si_of mc hg jg
    have s2 := si_of mc hh jh
    have w1 := grp_w mc hg jg
    have w2 := grp_w mc hh jh
    have e5 : lapp (lapp [] g) h = g ++ h := rfl
    have e6 : lapp [] g = g := rfl
    have g192 := chk_len hg
    have h192 := chk_len hh
    rw [e5, e6]
    refine ⟨trivial, fun a ha e1 he1 => ⟨trivial, fun b hb e2 he2 => ⟨trivial, fun k hk => ⟨fun c => absurd c (by rw [hk, mc]; decide), fun _ => ⟨fun c => absurd c (by rw [he1, s1.2]; decide), fun _ => ⟨fun c => absurd c (by rw [he2, s2.2]; decide), fun _ => ⟨fun c => absurd c (by rw [ha, s1.1]; decide), fun _ => ⟨fun c => absurd c (by rw [hb, s2.1]; decide), fun _ => ⟨w1.1, fun c => absurd c (by rw [w1.2]; decide), fun _ => ⟨w2.1, fun c => absurd c (by rw [w2.2]; decide), fun _ => ⟨fun _ => by trivial, fun hlen => ⟨?_, ?_, trivial, fun y hy k2 hk2 => ⟨fun _ => ⟨trivial, fun q hq => ?_⟩, fun c => absurd c ?_⟩⟩⟩⟩⟩⟩⟩⟩⟩⟩⟩⟩⟩
    · show g.length * 96 ≤ 140737488355328
      omega
    · show (g ++ h).length * 96 ≤ 140737488355328
      rw [List.length_append]; omega
    · obtain ⟨b1, b2⟩ := jb (by have := of_decide_eq_false hlen; omega)
      rw [hq, hy, b1]; simp [smO]
    · obtain ⟨b1, b2⟩ := jb (by have := of_decide_eq_false hlen; omega)
      rw [hk2, b2]; decide
theorem s_SubCloses : Sound Try.prog 4 C_SubCloses :=
  sound_of_eqs (fun x => env0 [(8, C_awake6.hid), (13, C_sMeet.hid), (14, C_sJoin.hid), (15, C_sWithin.hid), (16, C_gCheck.hid), (12, C_gFind.hid), (17, C_gClose.hid), (18, C_r5Same.hid)] [(4, 12, { fix := [], vars := [(.tmp 99, .int .i64)], inv := fun y v => rgP (lenI x.1) v.1, mu := fun y v => opMu x.1 v.1 })] []) (fun _ => rfl) (fun _ => env0_ok (.cons s_awake6.hid (.cons s_sMeet.hid (.cons s_sJoin.hid (.cons s_sWithin.hid (.cons s_gCheck.hid (.cons s_gFind.hid (.cons s_gClose.hid (.cons s_r5Same.hid (.nil)))))))))) (fun x => T_SubCloses x.1 x.2.1) r_SubCloses fun x ok hp => p_SubCloses x.1 x.2.1 ok.1 ok.2.1
end Go.Fx
