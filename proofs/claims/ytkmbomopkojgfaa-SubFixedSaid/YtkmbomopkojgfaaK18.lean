/-
  Contracts: SubFixed.
-/
import Derived.Test.YtkmbomopkojgfaaK17
namespace Go.Fx
open Go Go.Proofs
set_option maxRecDepth 100000
set_option linter.unusedVariables false
set_option linter.unusedSimpArgs false
set_option linter.unusedSectionVars false
noncomputable def C_SubFixed : Contract := { args := [], res := [.bool], pre := fun _ => True, F := fun x => ((true : Bool), ()) }
def T_SubFixed  : Prop :=
  (True ∧
∀ z0 : Bool,
(z0 = true →
(((if (!z0) = true then true else false) = true →
 (false, ()) = (true, ())) ∧
((if (!z0) = true then true else false) = false →
(True ∧
∀ z3 : List Op3,
(z3 = mirO →
(inB z3 6 ∧
(inB z3 7 ∧
(True ∧
∀ z5 : List (List Int),
(z5 = clC z3 →
∀ z7 : Int,
(z7 = chkE z3 →
(True ∧
∀ z9 : List Op3,
(z9 = heL z3 →
∀ z11 : Int,
(z11 = chkE z3 →
(True ∧
∀ z13 : List (List Int),
(z13 = csC z3 ([((z3.getD 6 zerO)), ((z3.getD 7 zerO))]) →
∀ z15 : Int,
(z15 = boE z3 ([((z3.getD 6 zerO)), ((z3.getD 7 zerO))]) →
(True ∧
∀ z17 : Bool,
(z17 = noB z3 ([((z3.getD 6 zerO)), ((z3.getD 7 zerO))]) →
∀ z19 : Int,
(z19 = boE z3 ([((z3.getD 6 zerO)), ((z3.getD 7 zerO))]) →
(((!(decide (z7 = 0))) = true →
 (false, ()) = (true, ())) ∧
((!(decide (z7 = 0))) = false →
(((!(decide (z11 = 0))) = true →
 (false, ()) = (true, ())) ∧
((!(decide (z11 = 0))) = false →
(((!(decide (z15 = 0))) = true →
 (false, ()) = (true, ())) ∧
((!(decide (z15 = 0))) = false →
(((!(decide (z19 = 0))) = true →
 (false, ()) = (true, ())) ∧
((!(decide (z19 = 0))) = false →
((z17 = true →
 (false, ()) = (true, ())) ∧
(z17 = false →
(True ∧
(((!smC z5 ([[0], [1, 6], [2, 5], [3, 4], [7]])) = true →
 (false, ()) = (true, ())) ∧
((!smC z5 ([[0], [1, 6], [2, 5], [3, 4], [7]])) = false →
(inB z3 0 ∧
(inB z3 7 ∧
(True ∧
(((!smO z9 ([((z3.getD 0 zerO)), ((z3.getD 7 zerO))])) = true →
 (false, ()) = (true, ())) ∧
((!smO z9 ([((z3.getD 0 zerO)), ((z3.getD 7 zerO))])) = false →
(True ∧
(((!smC z13 ([[0, 1], [2, 4], [3, 5], [6, 7]])) = true →
 (false, ()) = (true, ())) ∧
((!smC z13 ([[0, 1], [2, 4], [3, 5], [6, 7]])) = false →
(True ∧
(True ∧
∀ z29 : List Op3,
(z29 = paH →
(True ∧
∀ z31 : Bool,
(z31 = siB [oneO] z29 →
∀ z33 : Int,
(z33 = two [oneO] z29 →
(True ∧
∀ z35 : List Op3,
(z35 = paH →
(True ∧
∀ z37 : List (List Int),
(z37 = csC [oneO] z35 →
∀ z39 : Int,
(z39 = boE [oneO] z35 →
(True ∧
∀ z41 : List Op3,
(z41 = paH →
(True ∧
∀ z43 : Bool,
(z43 = noB [oneO] z41 →
∀ z45 : Int,
(z45 = boE [oneO] z41 →
(True ∧
∀ z47 : List (List Int),
(z47 = csC [oneO] [] →
∀ z49 : Int,
(z49 = boE [oneO] [] →
(((!(decide (z33 = 0))) = true →
 (false, ()) = (true, ())) ∧
((!(decide (z33 = 0))) = false →
((z31 = true →
 (false, ()) = (true, ())) ∧
(z31 = false →
(((!(decide (z39 = 6))) = true →
 (false, ()) = (true, ())) ∧
((!(decide (z39 = 6))) = false →
(((!(decide (z45 = 6))) = true →
 (false, ()) = (true, ())) ∧
((!(decide (z45 = 6))) = false →
(((!(decide (z49 = 5))) = true →
 (false, ()) = (true, ())) ∧
((!(decide (z49 = 5))) = false →
(True ∧
(True ∧
(True ∧
(True ∧
(True ∧
(True ∧
∀ z56 : List Op3,
(z56 = meL ([(flO 1 1 1 (V3.mk 0 0 0)), (flO 1 1 1 (V3.mk 12 0 0))]) ([(flO 1 1 1 (V3.mk 0 0 0)), (flO 1 1 1 (V3.mk 8 0 0)), (flO 1 1 1 (V3.mk 16 0 0))]) →
∀ z58 : Int,
(z58 = two ([(flO 1 1 1 (V3.mk 0 0 0)), (flO 1 1 1 (V3.mk 12 0 0))]) ([(flO 1 1 1 (V3.mk 0 0 0)), (flO 1 1 1 (V3.mk 8 0 0)), (flO 1 1 1 (V3.mk 16 0 0))]) →
(True ∧
∀ z60 : List Op3,
(z60 = joL ([(flO 1 1 1 (V3.mk 0 0 0)), (flO 1 1 1 (V3.mk 12 0 0))]) ([(flO 1 1 1 (V3.mk 0 0 0)), (flO 1 1 1 (V3.mk 8 0 0)), (flO 1 1 1 (V3.mk 16 0 0))]) →
∀ z62 : Int,
(z62 = joE ([(flO 1 1 1 (V3.mk 0 0 0)), (flO 1 1 1 (V3.mk 12 0 0))]) ([(flO 1 1 1 (V3.mk 0 0 0)), (flO 1 1 1 (V3.mk 8 0 0)), (flO 1 1 1 (V3.mk 16 0 0))]) →
(((!(decide (z58 = 0))) = true →
 (false, ()) = (true, ())) ∧
((!(decide (z58 = 0))) = false →
(((!(decide (z62 = 0))) = true →
 (false, ()) = (true, ())) ∧
((!(decide (z62 = 0))) = false →
(True ∧
∀ z66 : Bool,
(z66 = smO z56 [oneO] →
(((!z66) = true →
 (false, ()) = (true, ())) ∧
((!z66) = false →
(((!(decide ((z60.length : Int) = 6))) = true →
 (false, ()) = (true, ())) ∧
((!(decide ((z60.length : Int) = 6))) = false →
(inB z60 1 ∧
(((!((decide ((((z60.getD 1 zerO)).T).x = 4)) && ((decide ((((z60.getD 1 zerO)).T).y = 0)) && ((decide ((((z60.getD 1 zerO)).T).z = 0)) && true)))) = true →
 (false, ()) = (true, ())) ∧
((!((decide ((((z60.getD 1 zerO)).T).x = 4)) && ((decide ((((z60.getD 1 zerO)).T).y = 0)) && ((decide ((((z60.getD 1 zerO)).T).z = 0)) && true)))) = false →
(True ∧
(True ∧
(so192 ([oneO, (Op3.mk ((M3.mk 1 1 0 0 (-1) 0 0 0 1)) (V3.mk 0 0 0))]) ∧
∀ z71 : List Op3,
(z71 = insO ([oneO, (Op3.mk ((M3.mk 1 1 0 0 (-1) 0 0 0 1)) (V3.mk 0 0 0))]) →
(True ∧
∀ z73 : List Op3,
(z73 = joL ([(Op3.mk ((M3.mk 1 0 0 0 (-1) 0 0 0 1)) (V3.mk 0 0 0)), oneO]) z71 →
∀ z75 : Int,
(z75 = joE ([(Op3.mk ((M3.mk 1 0 0 0 (-1) 0 0 0 1)) (V3.mk 0 0 0)), oneO]) z71 →
((leP 0 24 ∧
 lfit 96 ((lrep 24 (zerO)))) ∧
((leP 0 24 ∧
 lfit 96 ((lrep 24 (zerO)))) ∧
(fxJ ((lrep 24 (zerO))) ((lrep 24 (zerO))) 0 ∧
∀ z77 : List Op3,
∀ z78 : List Op3,
∀ z79 : Int,
((decide ((-9223372036854775808) ≤ z79)) = true →
((decide (z79 ≤ 9223372036854775807)) = true →
(fxJ z77 z78 z79 →
(eqP (z77.length : Int) ((((lrep 24 (zerO))).length : Int)) →
(eqP (z78.length : Int) ((((lrep 24 (zerO))).length : Int)) →
(((decide (z79 < (((lrep 24 (zerO))).length : Int))) = true →
 (True ∧
 (True ∧
 (inB z77 z79 ∧
 (inB z78 z79 ∧
 (fxJ (lset z77 z79 ((flO 1 1 1 (V3.mk z79 0 0)))) (lset z78 z79 ((flO 1 1 1 (V3.mk 0 z79 0)))) ((w64 (z79 + 1))) ∧
 ((decide (0 ≤ fxM ((w64 (z79 + 1))))) = true ∧
 (decide (fxM ((w64 (z79 + 1))) < fxM z79)) = true))))))) ∧
((decide (z79 < (((lrep 24 (zerO))).length : Int))) = false →
(True ∧
∀ z86 : List Op3,
(z86 = joL z77 z78 →
∀ z88 : Int,
(z88 = joE z77 z78 →
(True ∧
∀ z90 : List Op3,
(z90 = meL z77 z78 →
∀ z92 : Int,
(z92 = two z77 z78 →
(True ∧
∀ z94 : List Op3,
(z94 = meL z77 ([zerO]) →
∀ z96 : Int,
(z96 = two z77 ([zerO]) →
((leP 0 193 ∧
 lfit 96 ((lrep 193 (zerO)))) ∧
(True ∧
∀ z98 : List (List Int),
(z98 = clC ((lrep 193 (zerO))) →
∀ z100 : Int,
(z100 = chkE ((lrep 193 (zerO))) →
(((decide (z75 = 5)) = true →
 (((decide (z88 = 5)) = true →
  (((decide (z92 = 0)) = true →
   (((decide ((z90.length : Int) = 1)) = true →
    (((decide (z96 = 3)) = true →
     ((decide (z100 = 2)), ()) = (true, ())) ∧
    ((decide (z96 = 3)) = false →
    (false, ()) = (true, ())))) ∧
   ((decide ((z90.length : Int) = 1)) = false →
   (false, ()) = (true, ())))) ∧
  ((decide (z92 = 0)) = false →
  (false, ()) = (true, ())))) ∧
 ((decide (z88 = 5)) = false →
 (false, ()) = (true, ())))) ∧
((decide (z75 = 5)) = false →
(false, ()) = (true, ())))))))))))))))))))))))))))))))))))))))))))))))))))))))))))))))))))))))))))))))))))))))))))))))))))))))))))))))))))))))))))))))
theorem r_SubFixed (x : HL C_SubFixed.args) : runs (env0 [(8, C_awake6.hid), (19, C_mirror6.hid), (20, C_sClasses.hid), (21, C_sHeart.hid), (9, C_sCosets.hid), (22, C_sNormal.hid), (23, C_cuts6.hid), (18, C_r5Same.hid), (24, C_opOne), (25, C_pair6.hid), (15, C_sWithin.hid), (26, C_flat6), (13, C_sMeet.hid), (14, C_sJoin.hid), (27, C_sorted6.hid)] [(5, 30, { fix := [], vars := [(.itmp 19, .list .op), (.itmp 20, .list .op), (.tmp 226, .int .i64)], inv := fun y v => fxJ v.1 v.2.1 v.2.2.1, mu := fun y v => fxM v.2.2.1 })] []) 4000 5 C_SubFixed x = T_SubFixed  := by kernel_rfl
theorem p_SubFixed   : T_SubFixed  := by
  unfold T_SubFixed
  refine ⟨trivial, fun z hz => ⟨fun c => absurd c (by rw [hz]; decide), fun _ => ⟨trivial, fun g hg => ?_⟩⟩⟩
  subst hg
  have e1 : [mirO.getD 6 zerO, mirO.getD 7 zerO] = mi2 := rfl
  have e2 : [mirO.getD 0 zerO, mirO.getD 7 zerO] = [miO (-1) 0 0 (-1), miO 1 0 0 1] := rfl
  rw [e1, e2]
  refine ⟨⟨by decide, by decide⟩, ⟨by decide, by decide⟩, trivial, fun c hc e he => ⟨trivial, fun x hx f hf => ⟨trivial, fun l hl i hi => ⟨trivial, fun n hn j hj => ?_⟩⟩⟩⟩
  rw [fm1] at hc
  rw [fm2] at he hf
  rw [fm3] at hx
  rw [fm4] at hl
  rw [fm5] at hi hj
  rw [fm6] at hn
  refine ⟨fun q => absurd q (by rw [he]; decide), fun _ => ⟨fun q => absurd q (by rw [hf]; decide), fun _ => ⟨fun q => absurd q (by rw [hi]; decide), fun _ => ⟨fun q => absurd q (by rw [hj]; decide), fun _ => ⟨fun q => absurd q (by rw [hn]; decide), fun _ => ⟨trivial, fun q => absurd q (by rw [hc]; decide), fun _ => ⟨⟨by decide, by decide⟩, ⟨by decide, by decide⟩, trivial, fun q => absurd q (by rw [hx]; simp [smO]), fun _ => ⟨trivial, fun q => absurd q (by rw [hl]; decide), fun _ => ⟨trivial, trivial, fun p1 hp1 => ?_⟩⟩⟩⟩⟩⟩⟩⟩⟩
  subst hp1
  refine ⟨trivial, fun b1 hb1 f1 hf1 => ⟨trivial, fun p2 hp2 => ?_⟩⟩
  subst hp2
  refine ⟨trivial, fun l2 _ f2 hf2 => ⟨trivial, fun p3 hp3 => ?_⟩⟩
  subst hp3
  refine ⟨trivial, fun n3 _ f3 hf3 => ⟨trivial, fun l4 _ f4 hf4 => ?_⟩⟩
  obtain ⟨q1, q2, q3, q4⟩ := fm7
  rw [q1] at hb1
  rw [q2] at hf1
  rw [q3] at hf2 hf3
  rw [q4] at hf4
  refine ⟨fun q => absurd q (by rw [hf1]; decide), fun _ => ⟨fun q => absurd q (by rw [hb1]; decide), fun _ => ⟨fun q => absurd q (by rw [hf2]; decide), fun _ => ⟨fun q => absurd q (by rw [hf3]; decide), fun _ => ⟨fun q => absurd q (by rw [hf4]; decide), fun _ => ⟨trivial, trivial, trivial, trivial, trivial, trivial, fun m hm g1 hg1 => ⟨trivial, fun s hs g2 hg2 => ?_⟩⟩⟩⟩⟩⟩⟩
  have hm : m = meL haL thL := hm
  have hg1 : g1 = two haL thL := hg1
  have hs : s = joL haL thL := hs
  have hg2 : g2 = joE haL thL := hg2
  obtain ⟨r1, r2, r3⟩ := fm8
  obtain ⟨t1, t2, t3, t4⟩ := fm9
  rw [r1] at hm
  rw [r2] at hg1
  rw [r3] at hg2
  rw [← hs] at t1 t2 t3 t4
  refine ⟨fun q => absurd q (by rw [hg1]; decide), fun _ => ⟨fun q => absurd q (by rw [hg2]; decide), fun _ => ⟨trivial, fun b2 hb2 => ⟨fun q => absurd q (by rw [hb2, hm]; simp [smO]), fun _ => ⟨fun q => absurd q (by rw [t1]; decide), fun _ => ⟨⟨by decide, by rw [t1]; decide⟩, fun q => absurd q (by rw [t2, t3, t4]; decide), fun _ => ⟨trivial, trivial, by show 2 ≤ 192; decide, fun en hen => ⟨trivial, fun _ _ h1 hh1 => ?_⟩⟩⟩⟩⟩⟩⟩⟩
  have hen : en = insO enB := hen
  have hh1 : h1 = joE enA en := hh1
  rw [hen, fm10] at hh1
  have h24 : ((lrep 24 zerO).length : Int) = 24 := rfl
  rw [h24]
  refine ⟨⟨by show (0 : Int) ≤ 24; decide, by show (lrep 24 zerO).length * 96 ≤ 140737488355328; decide⟩, ⟨by show (0 : Int) ≤ 24; decide, by show (lrep 24 zerO).length * 96 ≤ 140737488355328; decide⟩, fx_0, fun x y i _ _ hF _ _ => ⟨fun hi => ?_, fun hi => ?_⟩⟩
  · obtain ⟨n1, n2, n3, n4⟩ := fx_next6 hF (of_decide_eq_true hi)
    exact ⟨trivial, trivial, n1, n2, n3, n4⟩
  · obtain ⟨ex, ey⟩ := fx_end6 hF (of_decide_eq_false hi)
    obtain ⟨u1, u2, u3⟩ := fm11
    refine ⟨trivial, fun _ _ k1 hk1 => ⟨trivial, fun me hme k2 hk2 => ⟨trivial, fun _ _ k3 hk3 => ⟨⟨by show (0 : Int) ≤ 193; decide, by show (lrep 193 zerO).length * 96 ≤ 140737488355328; decide⟩, trivial, fun _ _ k4 hk4 => ?_⟩⟩⟩⟩
    rw [ex, ey, fm13] at hk1
    rw [ex, ey] at hme
    rw [ex, ey, u1] at hk2
    rw [ex, u3] at hk3
    rw [fm12] at hk4
    rw [← hme] at u2
    rw [hh1, hk1, hk2, hk3, hk4, u2]
    decide
theorem s_SubFixed : Sound Try.prog 5 C_SubFixed :=
  sound_of_eq (env0_ok (.cons s_awake6.hid (.cons s_mirror6.hid (.cons s_sClasses.hid (.cons s_sHeart.hid (.cons s_sCosets.hid (.cons s_sNormal.hid (.cons s_cuts6.hid (.cons s_r5Same.hid (.cons s_opOne (.cons s_pair6.hid (.cons s_sWithin.hid (.cons s_flat6 (.cons s_sMeet.hid (.cons s_sJoin.hid (.cons s_sorted6.hid (.nil))))))))))))))))) (fun x => T_SubFixed ) r_SubFixed fun x ok hp => p_SubFixed  
end Go.Fx
