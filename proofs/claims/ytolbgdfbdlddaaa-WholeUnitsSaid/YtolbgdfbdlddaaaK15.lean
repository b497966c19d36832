/-
  Contracts: uFirsts, uOwner, uFixed, few10, r10owners, r10DocFirsts, r10DocOwner, r10DocFixed.
-/
import Derived.Test.YtolbgdfbdlddaaaK14
namespace Go.Fx
open Go Go.Proofs
set_option maxRecDepth 100000
set_option linter.unusedVariables false
set_option linter.unusedSimpArgs false
set_option linter.unusedSectionVars false
noncomputable def C_uFirsts : Contract := { args := [.list .op, .agg .vec], res := [.list .vec, .list .int, .int .i64], pre := fun _ => True, F := fun x => ((fiL x.1 x.2.1 : List V3), (ciL x.1 x.2.1 : List Int), (fuE x.1 x.2.1 : Int), ()) }
def T_uFirsts (g : List Op3) (n : V3) : Prop :=
  (True ∧
∀ z2 : Int,
(z2 = fuE g n →
(((!(decide (z2 = 0))) = true →
 ([], ([], (z2, ()))) = (fiL g n, (ciL g n, (fuE g n, ())))) ∧
((!(decide (z2 = 0))) = false →
(orbP g n ∧
∀ z5 : List Int,
(z5 = orO g n →
∀ z7 : List V3,
(z7 = fsA g n →
∀ z9 : List Int,
(z9 = csA g n →
(z7, (z9, (0, ()))) = (fiL g n, (ciL g n, (fuE g n, ())))))))))))
theorem r_uFirsts (x : HL C_uFirsts.args) : runs (env0 [(14, C_uFits.hid), (55, C_uorbits.hid)] [] []) 400 19 C_uFirsts x = T_uFirsts x.1 x.2.1 := by kernel_rfl
theorem p_uFirsts (g : List Op3) (n : V3) (h0 : (Sh.list .op).okA g) (h1 : (Sh.agg .vec).okA n) : T_uFirsts g n := by
  unfold T_uFirsts fiL ciL
  refine ⟨trivial, fun z hz => ⟨fun h => ?_, fun h => ?_⟩⟩
  · have hne : fuE g n ≠ 0 := by rw [← hz]; simpa using h
    rw [if_neg hne, if_neg hne, hz]
  · have he : fuE g n = 0 := by rw [← hz]; simpa using h
    refine ⟨he, fun u hu f hf c hc => ?_⟩
    rw [if_pos he, if_pos he, he, hf, hc]; rfl
theorem s_uFirsts : Sound Try.prog 19 C_uFirsts :=
  sound_of_eq (env0_ok (.cons s_uFits.hid (.cons s_uorbits.hid (.nil)))) (fun x => T_uFirsts x.1 x.2.1) r_uFirsts fun x ok hp => p_uFirsts x.1 x.2.1 ok.1 ok.2.1
noncomputable def C_uOwner : Contract := { args := [.list .op, .agg .vec], res := [.list .int, .int .i64], pre := fun _ => True, F := fun x => ((owL x.1 x.2.1 : List Int), (fuE x.1 x.2.1 : Int), ()) }
def T_uOwner (g : List Op3) (n : V3) : Prop :=
  (True ∧
∀ z2 : Int,
(z2 = fuE g n →
(((!(decide (z2 = 0))) = true →
 ([], (z2, ())) = (owL g n, (fuE g n, ()))) ∧
((!(decide (z2 = 0))) = false →
(orbP g n ∧
∀ z5 : List Int,
(z5 = orO g n →
∀ z7 : List V3,
(z7 = fsA g n →
∀ z9 : List Int,
(z9 = csA g n →
(z5, (0, ())) = (owL g n, (fuE g n, ()))))))))))
theorem r_uOwner (x : HL C_uOwner.args) : runs (env0 [(14, C_uFits.hid), (55, C_uorbits.hid)] [] []) 400 20 C_uOwner x = T_uOwner x.1 x.2.1 := by kernel_rfl
theorem p_uOwner (g : List Op3) (n : V3) (h0 : (Sh.list .op).okA g) (h1 : (Sh.agg .vec).okA n) : T_uOwner g n := by
  unfold T_uOwner owL
  refine ⟨trivial, fun z hz => ⟨fun h => ?_, fun h => ?_⟩⟩
  · have hne : fuE g n ≠ 0 := by rw [← hz]; simpa using h
    rw [if_neg hne, hz]
  · have he : fuE g n = 0 := by rw [← hz]; simpa using h
    refine ⟨he, fun u hu f hf c hc => ?_⟩
    rw [if_pos he, he, hu]; rfl
theorem s_uOwner : Sound Try.prog 20 C_uOwner :=
  sound_of_eq (env0_ok (.cons s_uFits.hid (.cons s_uorbits.hid (.nil)))) (fun x => T_uOwner x.1 x.2.1) r_uOwner fun x ok hp => p_uOwner x.1 x.2.1 ok.1 ok.2.1
noncomputable def C_uFixed : Contract := { args := [.list .op, .agg .vec], res := [.list .int, .int .i64], pre := fun _ => True, F := fun x => ((fxL x.1 x.2.1 : List Int), (fuE x.1 x.2.1 : Int), ()) }
def T_uFixed (g : List Op3) (n : V3) : Prop :=
  (True ∧
∀ z2 : Int,
(z2 = fuE g n →
(((!(decide (z2 = 0))) = true →
 ([], (z2, ())) = (fxL g n, (fuE g n, ()))) ∧
((!(decide (z2 = 0))) = false →
((leP 0 (g.length : Int) ∧
 lfit 8 ((lrep (g.length : Int) (0 : Int)))) ∧
(fxI g n ((lrep (g.length : Int) (0 : Int))) 0 ∧
∀ z5 : List Int,
∀ z6 : Int,
((decide ((-9223372036854775808) ≤ z6)) = true →
((decide (z6 ≤ 9223372036854775807)) = true →
(fxI g n z5 z6 →
(eqP (z5.length : Int) ((((lrep (g.length : Int) (0 : Int))).length : Int)) →
(((decide (z6 < (g.length : Int))) = true →
 (inB g z6 ∧
 (fxX g n z6 z5 0 ∧
 ∀ z12 : List Int,
 ∀ z13 : Int,
 ((decide ((-9223372036854775808) ≤ z13)) = true →
 ((decide (z13 ≤ 9223372036854775807)) = true →
 (fxX g n z6 z12 z13 →
 (eqP (z12.length : Int) (z5.length : Int) →
 (((decide (z13 < n.x)) = true →
  (fxY g n z6 z13 z12 0 ∧
  ∀ z19 : List Int,
  ∀ z20 : Int,
  ((decide ((-9223372036854775808) ≤ z20)) = true →
  ((decide (z20 ≤ 9223372036854775807)) = true →
  (fxY g n z6 z13 z19 z20 →
  (eqP (z19.length : Int) (z12.length : Int) →
  (((decide (z20 < n.y)) = true →
   (fxZ g n z6 z13 z20 z19 0 ∧
   ∀ z26 : List Int,
   ∀ z27 : Int,
   ((decide ((-9223372036854775808) ≤ z27)) = true →
   ((decide (z27 ≤ 9223372036854775807)) = true →
   (fxZ g n z6 z13 z20 z26 z27 →
   (eqP (z26.length : Int) (z19.length : Int) →
   (((decide (z27 < n.z)) = true →
    (movP (((g.getD (z6).toNat zerO))) n (V3.mk z13 z20 z27) ∧
    ((((decide ((movV (((g.getD (z6).toNat zerO))) n (V3.mk z13 z20 z27)).x = z13)) && ((decide ((movV (((g.getD (z6).toNat zerO))) n (V3.mk z13 z20 z27)).y = z20)) && ((decide ((movV (((g.getD (z6).toNat zerO))) n (V3.mk z13 z20 z27)).z = z27)) && true))) = true →
     (inB z26 z6 ∧
     (inB z26 z6 ∧
     (fxZ g n z6 z13 z20 (lset z26 z6 ((w64 (((z26.getD (z6).toNat 0) + 1))))) ((w64 (z27 + 1))) ∧
     ((decide (0 ≤ mZ n ((w64 (z27 + 1))))) = true ∧
     (decide (mZ n ((w64 (z27 + 1))) < mZ n z27)) = true))))) ∧
    (((decide ((movV (((g.getD (z6).toNat zerO))) n (V3.mk z13 z20 z27)).x = z13)) && ((decide ((movV (((g.getD (z6).toNat zerO))) n (V3.mk z13 z20 z27)).y = z20)) && ((decide ((movV (((g.getD (z6).toNat zerO))) n (V3.mk z13 z20 z27)).z = z27)) && true))) = false →
    (fxZ g n z6 z13 z20 z26 ((w64 (z27 + 1))) ∧
    ((decide (0 ≤ mZ n ((w64 (z27 + 1))))) = true ∧
    (decide (mZ n ((w64 (z27 + 1))) < mZ n z27)) = true)))))) ∧
   ((decide (z27 < n.z)) = false →
   (fxY g n z6 z13 z26 ((w64 (z20 + 1))) ∧
   ((decide (0 ≤ mY n ((w64 (z20 + 1))))) = true ∧
   (decide (mY n ((w64 (z20 + 1))) < mY n z20)) = true)))))))))) ∧
  ((decide (z20 < n.y)) = false →
  (fxX g n z6 z19 ((w64 (z13 + 1))) ∧
  ((decide (0 ≤ mX n ((w64 (z13 + 1))))) = true ∧
  (decide (mX n ((w64 (z13 + 1))) < mX n z13)) = true)))))))))) ∧
 ((decide (z13 < n.x)) = false →
 (fxI g n z12 ((w64 (z6 + 1))) ∧
 ((decide (0 ≤ opMu g ((w64 (z6 + 1))))) = true ∧
 (decide (opMu g ((w64 (z6 + 1))) < opMu g z6)) = true))))))))))) ∧
((decide (z6 < (g.length : Int))) = false →
(z5, (0, ())) = (fxL g n, (fuE g n, ()))))))))))))))
theorem r_uFixed (x : HL C_uFixed.args) : runs (env0 [(14, C_uFits.hid), (51, C_umove.hid)] [(24, 6, { fix := [], vars := [(.icell 7, .list .int), (.tmp 21, .int .i64)], inv := fun y v => fxI x.1 x.2.1 v.1 v.2.1, mu := fun y v => opMu x.1 v.2.1 }), (56, 2, { fix := [(.cap 1 3, .int .i64)], vars := [(.icap 1 2, .list .int), (.tmp 9, .int .i64)], inv := fun y v => fxX x.1 x.2.1 y.1 v.1 v.2.1, mu := fun y v => mX x.2.1 v.2.1 }), (56, 5, { fix := [(.cap 1 3, .int .i64), (.tmp 9, .int .i64)], vars := [(.icap 1 2, .list .int), (.tmp 14, .int .i64)], inv := fun y v => fxY x.1 x.2.1 y.1 y.2.1 v.1 v.2.1, mu := fun y v => mY x.2.1 v.2.1 }), (56, 8, { fix := [(.cap 1 3, .int .i64), (.tmp 9, .int .i64), (.tmp 14, .int .i64)], vars := [(.icap 1 2, .list .int), (.tmp 19, .int .i64)], inv := fun y v => fxZ x.1 x.2.1 y.1 y.2.1 y.2.2.1 v.1 v.2.1, mu := fun y v => mZ x.2.1 v.2.1 })] []) 1500 24 C_uFixed x = T_uFixed x.1 x.2.1 := by kernel_rfl
theorem p_uFixed (g : List Op3) (n : V3) (h0 : (Sh.list .op).okA g) (h1 : (Sh.agg .vec).okA n) : T_uFixed g n := by
  have hb : g.length * 96 ≤ room := h0.2
  unfold T_uFixed
  refine ⟨trivial, fun z hz => ⟨fun h => ?_, fun h => ?_⟩⟩
  · have hne : fuE g n ≠ 0 := by rw [← hz]; simpa using h
    unfold fxL; rw [if_neg hne, hz]
  · have he : fuE g n = 0 := by rw [← hz]; simpa using h
    obtain ⟨hc, hn, hs, hfB, hfF⟩ := fu_zero he
    have hA := fu_act he
    have hpl := pl_pos hs
    have hFm := (chk_grp hc).1
    have hgl := chk_len hc
    refine ⟨⟨by show (0 : Int) ≤ _; omega, by show (lrep (g.length : Int) (0 : Int)).length * 8 ≤ 140737488355328; unfold lrep; rw [List.length_replicate]; omega⟩, ⟨⟨Int.le_refl _, by omega⟩, (fc_start g n).symm⟩, fun u i _ _ hI lu => ⟨fun hi => ⟨⟨hI.1.1, of_decide_eq_true hi⟩, fz_0 i hs hI.2, fun u1 x _ _ hX lu1 => ⟨fun hx => ⟨fz_y hs hX, fun u2 y _ _ hY lu2 => ⟨fun hy => ⟨fz_z hs hY, fun u3 w _ _ hZ lu3 => ⟨fun hw => ?_, fun hw => fy_next hs hZ (of_decide_eq_false hw) hY.1.1 (of_decide_eq_true hy)⟩⟩, fun hy => fx_next hs hY (of_decide_eq_false hy) hX.1.1 (of_decide_eq_true hx)⟩⟩, fun hx => fi_next hb hX (of_decide_eq_false hx) hI.1.1 (of_decide_eq_true hi)⟩⟩, fun hi => ?_⟩⟩
    · have hin := pt_in hX.1.1 (of_decide_eq_true hx) hY.1.1 (of_decide_eq_true hy) hZ.1.1 (of_decide_eq_true hw)
      have hi := of_decide_eq_true hi
      obtain ⟨s1, s2⟩ := fz_step hs hZ hI.1.1 hi hin
      have hgo := getD_mem hI.1.1 hi zerO
      have ev := eqVc (movV (g.getD i.toNat zerO) n (V3.mk x y w)) (V3.mk x y w)
      refine ⟨⟨hFm _ hgo, hn, hfB _ hgo, hin⟩, fun h => ?_, fun h => ?_⟩
      · have r := s1 (of_decide_eq_true (ev.symm.trans h))
        exact ⟨r.1, r⟩
      · exact s2 (of_decide_eq_false (ev.symm.trans h))
    · have hi := of_decide_eq_false hi
      have e : i.toNat = g.length := by have := hI.1; omega
      rw [hI.2, e, fc_end]
      unfold fxL
      rw [if_pos he, he]
theorem s_uFixed : Sound Try.prog 24 C_uFixed :=
  sound_of_eqs (fun x => env0 [(14, C_uFits.hid), (51, C_umove.hid)] [(24, 6, { fix := [], vars := [(.icell 7, .list .int), (.tmp 21, .int .i64)], inv := fun y v => fxI x.1 x.2.1 v.1 v.2.1, mu := fun y v => opMu x.1 v.2.1 }), (56, 2, { fix := [(.cap 1 3, .int .i64)], vars := [(.icap 1 2, .list .int), (.tmp 9, .int .i64)], inv := fun y v => fxX x.1 x.2.1 y.1 v.1 v.2.1, mu := fun y v => mX x.2.1 v.2.1 }), (56, 5, { fix := [(.cap 1 3, .int .i64), (.tmp 9, .int .i64)], vars := [(.icap 1 2, .list .int), (.tmp 14, .int .i64)], inv := fun y v => fxY x.1 x.2.1 y.1 y.2.1 v.1 v.2.1, mu := fun y v => mY x.2.1 v.2.1 }), (56, 8, { fix := [(.cap 1 3, .int .i64), (.tmp 9, .int .i64), (.tmp 14, .int .i64)], vars := [(.icap 1 2, .list .int), (.tmp 19, .int .i64)], inv := fun y v => fxZ x.1 x.2.1 y.1 y.2.1 y.2.2.1 v.1 v.2.1, mu := fun y v => mZ x.2.1 v.2.1 })] []) (fun _ => rfl) (fun _ => env0_ok (.cons s_uFits.hid (.cons s_umove.hid (.nil)))) (fun x => T_uFixed x.1 x.2.1) r_uFixed fun x ok hp => p_uFixed x.1 x.2.1 ok.1 ok.2.1
noncomputable def C_few10 : Contract := { args := [.agg .vec], res := [.bool], pre := fun _ => True, F := fun x => ((fewB x.1 : Bool), ()) }
def T_few10 (n : V3) : Prop :=
  (True ∧
∀ z1 : Int,
(z1 = sidE n →
(((!(decide (z1 = 0))) = true →
 (true, ()) = (fewB n, ())) ∧
((!(decide (z1 = 0))) = false →
(sidP n ∧
∀ z4 : Int,
(z4 = plcs n →
((decide (z4 ≤ 500)), ()) = (fewB n, ())))))))
theorem r_few10 (x : HL C_few10.args) : runs (env0 [(47, C_r10Sides.hid), (54, C_r10Places.hid)] [] []) 400 18 C_few10 x = T_few10 x.1 := by kernel_rfl
theorem p_few10 (n : V3) (h0 : (Sh.agg .vec).okA n) : T_few10 n := by
  unfold T_few10 fewB
  refine ⟨trivial, fun z hz => ⟨fun h => ?_, fun h => ?_⟩⟩
  · have hne : sidE n ≠ 0 := by rw [← hz]; simpa using h
    rw [decide_eq_false hne]; rfl
  · have he : sidE n = 0 := by rw [← hz]; simpa using h
    refine ⟨he, fun w hw => ?_⟩
    rw [decide_eq_true he, hw]; rfl
theorem s_few10 : Sound Try.prog 18 C_few10 :=
  sound_of_eq (env0_ok (.cons s_r10Sides.hid (.cons s_r10Places.hid (.nil)))) (fun x => T_few10 x.1) r_few10 fun x ok hp => p_few10 x.1 ok.1
noncomputable def C_r10owners : Contract := { args := [.list .op, .agg .vec], res := [.list .int], pre := fun x => orbP x.1 x.2.1, F := fun x => ((loL x.1 x.2.1 : List Int), ()) }
def T_r10owners (g : List Op3) (n : V3) : Prop :=
  (sidP n ∧
∀ z2 : Int,
(z2 = plcs n →
((leP 0 z2 ∧
 lfit 8 ((lrep z2 (0 : Int)))) ∧
(olI g n ((lrep z2 (0 : Int))) 0 ∧
∀ z4 : List Int,
∀ z5 : Int,
((decide ((-9223372036854775808) ≤ z5)) = true →
((decide (z5 ≤ 9223372036854775807)) = true →
(olI g n z4 z5 →
(eqP (z4.length : Int) ((((lrep z2 (0 : Int))).length : Int)) →
(((decide (z5 < (((lrep z2 (0 : Int))).length : Int))) = true →
 (inB z4 z5 ∧
 (omI g n z5 (lset z4 z5 z5) 0 ∧
 ∀ z11 : List Int,
 ∀ z12 : Int,
 ((decide ((-9223372036854775808) ≤ z12)) = true →
 ((decide (z12 ≤ 9223372036854775807)) = true →
 (omI g n z5 z11 z12 →
 (eqP (z11.length : Int) (((lset z4 z5 z5).length : Int)) →
 (((decide (z12 < (g.length : Int))) = true →
  (inB g z12 ∧
  (inB z11 z5 ∧
  (atP n z5 ∧
  (movP (((g.getD (z12).toNat zerO))) n (atV n z5) ∧
  (numP n (movV (((g.getD (z12).toNat zerO))) n (atV n z5)) ∧
  (inB z11 z5 ∧
  (omI g n z5 (lset z11 z5 (zmin ((z11.getD (z5).toNat 0)) (numV n (movV (((g.getD (z12).toNat zerO))) n (atV n z5))))) ((w64 (z12 + 1))) ∧
  ((decide (0 ≤ opMu g ((w64 (z12 + 1))))) = true ∧
  (decide (opMu g ((w64 (z12 + 1))) < opMu g z12)) = true))))))))) ∧
 ((decide (z12 < (g.length : Int))) = false →
 (olI g n z11 ((w64 (z5 + 1))) ∧
 ((decide (0 ≤ mPl n ((w64 (z5 + 1))))) = true ∧
 (decide (mPl n ((w64 (z5 + 1))) < mPl n z5)) = true))))))))))) ∧
((decide (z5 < (((lrep z2 (0 : Int))).length : Int))) = false →
(z4, ()) = (loL g n, ())))))))))))
theorem r_r10owners (x : HL C_r10owners.args) : runs (env0 [(54, C_r10Places.hid), (21, C_r10At.hid), (53, C_r10Move.hid), (22, C_r10Num.hid)] [(58, 3, { fix := [], vars := [(.itmp 5, .list .int), (.tmp 14, .int .i64)], inv := fun y v => olI x.1 x.2.1 v.1 v.2.1, mu := fun y v => mPl x.2.1 v.2.1 }), (58, 7, { fix := [(.tmp 14, .int .i64)], vars := [(.itmp 5, .list .int), (.tmp 23, .int .i64)], inv := fun y v => omI x.1 x.2.1 y.1 v.1 v.2.1, mu := fun y v => opMu x.1 v.2.1 })] []) 1500 58 C_r10owners x = T_r10owners x.1 x.2.1 := by kernel_rfl
theorem p_r10owners (g : List Op3) (n : V3) (h0 : (Sh.list .op).okA g) (h1 : (Sh.agg .vec).okA n) (hp : orbP g n) : T_r10owners g n := by
  have hb : g.length * 96 ≤ room := h0.2
  have hz : fuE g n = 0 := hp
  obtain ⟨hc, hn, hs, hfB, hfF⟩ := fu_zero hz
  have hA := fu_act hz
  have hpl := pl_pos hs
  have hFm := (chk_grp hc).1
  unfold T_r10owners
  refine ⟨hn, fun z hz => ?_⟩
  subst hz
  have hl : ((lrep (plcs n) (0 : Int)).length : Int) = plcs n := by unfold lrep; rw [List.length_replicate]; omega
  rw [hl]
  refine ⟨⟨by show (0 : Int) ≤ _; omega, by show (lrep (plcs n) (0 : Int)).length * 8 ≤ 140737488355328; omega⟩, ol_0 hs, fun u i _ _ hO lu => ⟨fun hi => ?_, fun hi => ?_⟩⟩
  · have hi := of_decide_eq_true hi
    obtain ⟨a1, a2⟩ := om_0 hs hO hi
    refine ⟨a1, a2, fun u2 j _ _ hM lu2 => ⟨fun hj => ?_, fun hj => ol_next hs hO.1.1 hi hM (of_decide_eq_false hj)⟩⟩
    have hj := of_decide_eq_true hj
    have hgo := getD_mem hM.1.1 hj zerO
    obtain ⟨b1, b2⟩ := om_next hs hb hO.1.1 hi hM hj
    exact ⟨⟨hM.1.1, hj⟩, b1, ⟨hn, hO.1.1, hi⟩, ⟨hFm _ hgo, hn, hfB _ hgo, at_in hs hO.1.1 hi⟩, ⟨hn, mov_in _ hs _⟩, b1, b2⟩
  · rw [ol_stop hO (of_decide_eq_false hi)]
theorem s_r10owners : Sound Try.prog 58 C_r10owners :=
  sound_of_eqs (fun x => env0 [(54, C_r10Places.hid), (21, C_r10At.hid), (53, C_r10Move.hid), (22, C_r10Num.hid)] [(58, 3, { fix := [], vars := [(.itmp 5, .list .int), (.tmp 14, .int .i64)], inv := fun y v => olI x.1 x.2.1 v.1 v.2.1, mu := fun y v => mPl x.2.1 v.2.1 }), (58, 7, { fix := [(.tmp 14, .int .i64)], vars := [(.itmp 5, .list .int), (.tmp 23, .int .i64)], inv := fun y v => omI x.1 x.2.1 y.1 v.1 v.2.1, mu := fun y v => opMu x.1 v.2.1 })] []) (fun _ => rfl) (fun _ => env0_ok (.cons s_r10Places.hid (.cons s_r10At.hid (.cons s_r10Move.hid (.cons s_r10Num.hid (.nil)))))) (fun x => T_r10owners x.1 x.2.1) r_r10owners fun x ok hp => p_r10owners x.1 x.2.1 ok.1 ok.2.1 hp
noncomputable def C_r10DocFirsts : Contract := { args := [.list .op, .agg .vec], res := [.list .vec, .list .int, .int .i64], pre := fun _ => True, F := fun x => ((fiL x.1 x.2.1 : List V3), (ciL x.1 x.2.1 : List Int), (fuE x.1 x.2.1 : Int), ()) }
def T_r10DocFirsts (g : List Op3) (n : V3) : Prop :=
  (True ∧
∀ z2 : Int,
(z2 = fuE g n →
(((!(decide (z2 = 0))) = true →
 ([], ([], (z2, ()))) = (fiL g n, (ciL g n, (fuE g n, ())))) ∧
((!(decide (z2 = 0))) = false →
(orbP g n ∧
∀ z5 : List Int,
(z5 = loL g n →
(dfI g n [] [] 0 ∧
∀ z7 : List V3,
∀ z8 : List Int,
∀ z9 : Int,
((decide ((-9223372036854775808) ≤ z9)) = true →
((decide (z9 ≤ 9223372036854775807)) = true →
(dfI g n z7 z8 z9 →
(lfit 24 z7 →
(lfit 8 z8 →
(((decide (z9 < (z5.length : Int))) = true →
 (inB z5 z9 ∧
 (((!(decide ((z5.getD (z9).toNat 0) = z9))) = true →
  (dfI g n z7 z8 ((w64 (z9 + 1))) ∧
  ((decide (0 ≤ mPl n ((w64 (z9 + 1))))) = true ∧
  (decide (mPl n ((w64 (z9 + 1))) < mPl n z9)) = true))) ∧
 ((!(decide ((z5.getD (z9).toNat 0) = z9))) = false →
 (dcI g n z9 0 0 ∧
 ∀ z17 : Int,
 ((decide ((-9223372036854775808) ≤ z17)) = true →
 ((decide (z17 ≤ 9223372036854775807)) = true →
 ∀ z20 : Int,
 ((decide ((-9223372036854775808) ≤ z20)) = true →
 ((decide (z20 ≤ 9223372036854775807)) = true →
 (dcI g n z9 z17 z20 →
 (((decide (z20 < (z5.length : Int))) = true →
  (inB z5 z20 ∧
  (((decide ((z5.getD (z20).toNat 0) = z9)) = true →
   (dcI g n z9 ((w64 (z17 + 1))) ((w64 (z20 + 1))) ∧
   ((decide (0 ≤ mPl n ((w64 (z20 + 1))))) = true ∧
   (decide (mPl n ((w64 (z20 + 1))) < mPl n z20)) = true))) ∧
  ((decide ((z5.getD (z20).toNat 0) = z9)) = false →
  (dcI g n z9 z17 ((w64 (z20 + 1))) ∧
  ((decide (0 ≤ mPl n ((w64 (z20 + 1))))) = true ∧
  (decide (mPl n ((w64 (z20 + 1))) < mPl n z20)) = true)))))) ∧
 ((decide (z20 < (z5.length : Int))) = false →
 (atP n z9 ∧
 ∀ z25 : V3,
 (z25 = atV n z9 →
 (lfit 24 (lapp z7 [z25]) ∧
 (lfit 8 (lapp z8 [z17]) ∧
 (dfI g n (lapp z7 [z25]) (lapp z8 [z17]) ((w64 (z9 + 1))) ∧
 ((decide (0 ≤ mPl n ((w64 (z9 + 1))))) = true ∧
 (decide (mPl n ((w64 (z9 + 1))) < mPl n z9)) = true)))))))))))))))))) ∧
((decide (z9 < (z5.length : Int))) = false →
(z7, (z8, (0, ()))) = (fiL g n, (ciL g n, (fuE g n, ())))))))))))))))))
theorem r_r10DocFirsts (x : HL C_r10DocFirsts.args) : runs (env0 [(15, C_r10DocFits.hid), (58, C_r10owners.hid), (21, C_r10At.hid)] [(25, 8, { fix := [], vars := [(.tmp 9, .list .vec), (.tmp 10, .list .int), (.tmp 26, .int .i64)], inv := fun y v => dfI x.1 x.2.1 v.1 v.2.1 v.2.2.1, mu := fun y v => mPl x.2.1 v.2.2.1 }), (25, 13, { fix := [(.tmp 26, .int .i64)], vars := [(.tmp 12, .int .i64), (.tmp 37, .int .i64)], inv := fun y v => dcI x.1 x.2.1 y.1 v.1 v.2.1, mu := fun y v => mPl x.2.1 v.2.1 })] []) 1500 25 C_r10DocFirsts x = T_r10DocFirsts x.1 x.2.1 := by kernel_rfl
theorem p_r10DocFirsts (g : List Op3) (n : V3) (h0 : (Sh.list .op).okA g) (h1 : (Sh.agg .vec).okA n) : T_r10DocFirsts g n := by
  unfold T_r10DocFirsts
  refine ⟨trivial, fun z hz => ⟨fun h => ?_, fun h => ?_⟩⟩
  · have hne : fuE g n ≠ 0 := by rw [← hz]; simpa using h
    unfold fiL ciL; rw [if_neg hne, if_neg hne, hz]
  · have he : fuE g n = 0 := by rw [← hz]; simpa using h
    obtain ⟨hc, hn, hs, hfB, hfF⟩ := fu_zero he
    have hA := fu_act he
    have hpl := pl_pos hs
    have hFm := (chk_grp hc).1
    refine ⟨he, fun o ho => ?_⟩
    subst ho
    have hl : ((loL g n).length : Int) = plcs n := by rw [lo_len]; unfold plN; omega
    rw [hl]
    refine ⟨df_0 hs, fun f c i _ _ hD lf lc => ⟨fun hi => ⟨⟨hD.1.1, by rw [hl]; exact of_decide_eq_true hi⟩, fun h2 => df_skip hA hs hD (of_decide_eq_true hi) (by simpa using h2), fun h2 => ⟨dc_0 hs i, fun k _ _ j _ _ hK => ⟨fun hj => ?_, fun hj => ⟨⟨hn, hD.1.1, of_decide_eq_true hi⟩, fun v hv => ?_⟩⟩⟩⟩, fun hi => ?_⟩⟩
    · obtain ⟨d1, d2, d3⟩ := dc_next (g := g) hs hD.1.1 hK (of_decide_eq_true hj)
      exact ⟨d1, fun h => d2 (of_decide_eq_true h), fun h => d3 (of_decide_eq_false h)⟩
    · have bnd := fs_bnd (g := g) (n := n) i.toNat
      rw [← hD.2.1, ← hD.2.2] at bnd
      have hi := of_decide_eq_true hi
      have i0 := hD.1.1
      rw [hv]
      refine ⟨?_, ?_, df_next hA hs hD hi (by simpa using h2) hK (of_decide_eq_false hj)⟩
      · show (f ++ [_]).length * 24 ≤ 140737488355328
        rw [List.length_append]; simp only [List.length_singleton]; omega
      · show (c ++ [_]).length * 8 ≤ 140737488355328
        rw [List.length_append]; simp only [List.length_singleton]; omega
    · have hi := of_decide_eq_false hi
      have e : i.toNat = plN n := by unfold plN; have := hD.1; omega
      rw [hD.2.1, hD.2.2, e]
      unfold fiL ciL
      rw [if_pos he, if_pos he, he]
theorem s_r10DocFirsts : Sound Try.prog 25 C_r10DocFirsts :=
  sound_of_eqs (fun x => env0 [(15, C_r10DocFits.hid), (58, C_r10owners.hid), (21, C_r10At.hid)] [(25, 8, { fix := [], vars := [(.tmp 9, .list .vec), (.tmp 10, .list .int), (.tmp 26, .int .i64)], inv := fun y v => dfI x.1 x.2.1 v.1 v.2.1 v.2.2.1, mu := fun y v => mPl x.2.1 v.2.2.1 }), (25, 13, { fix := [(.tmp 26, .int .i64)], vars := [(.tmp 12, .int .i64), (.tmp 37, .int .i64)], inv := fun y v => dcI x.1 x.2.1 y.1 v.1 v.2.1, mu := fun y v => mPl x.2.1 v.2.1 })] []) (fun _ => rfl) (fun _ => env0_ok (.cons s_r10DocFits.hid (.cons s_r10owners.hid (.cons s_r10At.hid (.nil))))) (fun x => T_r10DocFirsts x.1 x.2.1) r_r10DocFirsts fun x ok hp => p_r10DocFirsts x.1 x.2.1 ok.1 ok.2.1
noncomputable def C_r10DocOwner : Contract := { args := [.list .op, .agg .vec], res := [.list .int, .int .i64], pre := fun _ => True, F := fun x => ((owL x.1 x.2.1 : List Int), (fuE x.1 x.2.1 : Int), ()) }
def T_r10DocOwner (g : List Op3) (n : V3) : Prop :=
  (True ∧
∀ z2 : Int,
(z2 = fuE g n →
(((!(decide (z2 = 0))) = true →
 ([], (z2, ())) = (owL g n, (fuE g n, ()))) ∧
((!(decide (z2 = 0))) = false →
(orbP g n ∧
∀ z5 : List Int,
(z5 = loL g n →
((leP 0 (z5.length : Int) ∧
 lfit 8 ((lrep (z5.length : Int) (0 : Int)))) ∧
(doI g n ((lrep (z5.length : Int) (0 : Int))) 0 0 ∧
∀ z7 : List Int,
∀ z8 : Int,
((decide ((-9223372036854775808) ≤ z8)) = true →
((decide (z8 ≤ 9223372036854775807)) = true →
∀ z11 : Int,
((decide ((-9223372036854775808) ≤ z11)) = true →
((decide (z11 ≤ 9223372036854775807)) = true →
(doI g n z7 z8 z11 →
(eqP (z7.length : Int) ((((lrep (z5.length : Int) (0 : Int))).length : Int)) →
(((decide (z11 < (z5.length : Int))) = true →
 (inB z5 z11 ∧
 (((decide ((z5.getD (z11).toNat 0) = z11)) = true →
  (inB z7 z11 ∧
  (doI g n (lset z7 z11 z8) ((w64 (z8 + 1))) ((w64 (z11 + 1))) ∧
  ((decide (0 ≤ mPl n ((w64 (z11 + 1))))) = true ∧
  (decide (mPl n ((w64 (z11 + 1))) < mPl n z11)) = true)))) ∧
 ((decide ((z5.getD (z11).toNat 0) = z11)) = false →
 (doI g n z7 z8 ((w64 (z11 + 1))) ∧
 ((decide (0 ≤ mPl n ((w64 (z11 + 1))))) = true ∧
 (decide (mPl n ((w64 (z11 + 1))) < mPl n z11)) = true)))))) ∧
((decide (z11 < (z5.length : Int))) = false →
((leP 0 (z5.length : Int) ∧
 lfit 8 ((lrep (z5.length : Int) (0 : Int)))) ∧
(djI g n ((lrep (z5.length : Int) (0 : Int))) 0 ∧
∀ z17 : List Int,
∀ z18 : Int,
((decide ((-9223372036854775808) ≤ z18)) = true →
((decide (z18 ≤ 9223372036854775807)) = true →
(djI g n z17 z18 →
(eqP (z17.length : Int) ((((lrep (z5.length : Int) (0 : Int))).length : Int)) →
(((decide (z18 < (z5.length : Int))) = true →
 (inB z5 z18 ∧
 (inB z7 ((z5.getD (z18).toNat 0)) ∧
 (inB z17 z18 ∧
 (djI g n (lset z17 z18 ((z7.getD ((z5.getD (z18).toNat 0)).toNat 0))) ((w64 (z18 + 1))) ∧
 ((decide (0 ≤ mPl n ((w64 (z18 + 1))))) = true ∧
 (decide (mPl n ((w64 (z18 + 1))) < mPl n z18)) = true)))))) ∧
((decide (z18 < (z5.length : Int))) = false →
(z17, (0, ())) = (owL g n, (fuE g n, ()))))))))))))))))))))))))))
theorem r_r10DocOwner (x : HL C_r10DocOwner.args) : runs (env0 [(15, C_r10DocFits.hid), (58, C_r10owners.hid)] [(27, 8, { fix := [], vars := [(.itmp 8, .list .int), (.tmp 9, .int .i64), (.tmp 27, .int .i64)], inv := fun y v => doI x.1 x.2.1 v.1 v.2.1 v.2.2.1, mu := fun y v => mPl x.2.1 v.2.2.1 }), (27, 16, { fix := [], vars := [(.itmp 11, .list .int), (.tmp 48, .int .i64)], inv := fun y v => djI x.1 x.2.1 v.1 v.2.1, mu := fun y v => mPl x.2.1 v.2.1 })] []) 1500 27 C_r10DocOwner x = T_r10DocOwner x.1 x.2.1 := by kernel_rfl
theorem p_r10DocOwner (g : List Op3) (n : V3) (h0 : (Sh.list .op).okA g) (h1 : (Sh.agg .vec).okA n) : T_r10DocOwner g n := by
  unfold T_r10DocOwner
  refine ⟨trivial, fun z hz => ⟨fun h => ?_, fun h => ?_⟩⟩
  · have hne : fuE g n ≠ 0 := by rw [← hz]; simpa using h
    unfold owL; rw [if_neg hne, hz]
  · have he : fuE g n = 0 := by rw [← hz]; simpa using h
    obtain ⟨hc, hn, hs, hfB, hfF⟩ := fu_zero he
    have hA := fu_act he
    have hpl := pl_pos hs
    have hFm := (chk_grp hc).1
    refine ⟨he, fun o ho => ?_⟩
    subst ho
    have hl : ((loL g n).length : Int) = plcs n := by rw [lo_len]; unfold plN; omega
    have hr : (lrep (plcs n) (0 : Int)).length = plN n := by unfold lrep; rw [List.length_replicate]
    rw [hl]
    have hlf : leP 0 (plcs n) ∧ lfit 8 (lrep (plcs n) (0 : Int)) := ⟨by show (0 : Int) ≤ _; omega, by show (lrep (plcs n) (0 : Int)).length * 8 ≤ 140737488355328; rw [hr]; unfold plN; omega⟩
    refine ⟨hlf, down_0 hs, fun u k _ _ i _ _ hD lu => ⟨fun hi => ?_, fun hi => ⟨hlf, dj_0 hs, fun u2 i2 _ _ hJ lu2 => ⟨fun hi2 => ?_, fun hi2 => ?_⟩⟩⟩⟩
    · have hi := of_decide_eq_true hi
      obtain ⟨d1, d2, d3⟩ := down_next hA hs hD hi
      exact ⟨⟨hD.1.1, by rw [hl]; exact hi⟩, fun h => ⟨d1, d2 (of_decide_eq_true h)⟩, fun h => d3 (of_decide_eq_false h)⟩
    · have hi := of_decide_eq_false hi
      have e : i.toNat = plN n := by unfold plN; have := hD.1; omega
      exact dj_next hA hs (by rw [hD.2.1, e]) hJ (of_decide_eq_true hi2)
    · have hi := of_decide_eq_false hi2
      have e : i2.toNat = plN n := by unfold plN; have := hJ.1; omega
      rw [hJ.2, e, rj_end]
      unfold owL
      rw [if_pos he, he]
theorem s_r10DocOwner : Sound Try.prog 27 C_r10DocOwner :=
  sound_of_eqs (fun x => env0 [(15, C_r10DocFits.hid), (58, C_r10owners.hid)] [(27, 8, { fix := [], vars := [(.itmp 8, .list .int), (.tmp 9, .int .i64), (.tmp 27, .int .i64)], inv := fun y v => doI x.1 x.2.1 v.1 v.2.1 v.2.2.1, mu := fun y v => mPl x.2.1 v.2.2.1 }), (27, 16, { fix := [], vars := [(.itmp 11, .list .int), (.tmp 48, .int .i64)], inv := fun y v => djI x.1 x.2.1 v.1 v.2.1, mu := fun y v => mPl x.2.1 v.2.1 })] []) (fun _ => rfl) (fun _ => env0_ok (.cons s_r10DocFits.hid (.cons s_r10owners.hid (.nil)))) (fun x => T_r10DocOwner x.1 x.2.1) r_r10DocOwner fun x ok hp => p_r10DocOwner x.1 x.2.1 ok.1 ok.2.1
noncomputable def C_r10DocFixed : Contract := { args := [.list .op, .agg .vec], res := [.list .int, .int .i64], pre := fun _ => True, F := fun x => ((fxL x.1 x.2.1 : List Int), (fuE x.1 x.2.1 : Int), ()) }
def T_r10DocFixed (g : List Op3) (n : V3) : Prop :=
  (True ∧
∀ z2 : Int,
(z2 = fuE g n →
(((!(decide (z2 = 0))) = true →
 ([], (z2, ())) = (fxL g n, (fuE g n, ()))) ∧
((!(decide (z2 = 0))) = false →
(dxI g n [] 0 ∧
∀ z5 : List Int,
∀ z6 : Int,
((decide ((-9223372036854775808) ≤ z6)) = true →
((decide (z6 ≤ 9223372036854775807)) = true →
(dxI g n z5 z6 →
(lfit 8 z5 →
(((decide (z6 < (g.length : Int))) = true →
 (inB g z6 ∧
 (dkI g n z6 0 0 ∧
 ∀ z12 : Int,
 ((decide ((-9223372036854775808) ≤ z12)) = true →
 ((decide (z12 ≤ 9223372036854775807)) = true →
 ∀ z15 : Int,
 ((decide ((-9223372036854775808) ≤ z15)) = true →
 ((decide (z15 ≤ 9223372036854775807)) = true →
 (dkI g n z6 z12 z15 →
 (sidP n ∧
 ∀ z19 : Int,
 (z19 = plcs n →
 (((decide (z15 < z19)) = true →
  (atP n z15 ∧
  (movP (((g.getD (z6).toNat zerO))) n (atV n z15) ∧
  (atP n z15 ∧
  ((((decide ((movV (((g.getD (z6).toNat zerO))) n (atV n z15)).x = (atV n z15).x)) && ((decide ((movV (((g.getD (z6).toNat zerO))) n (atV n z15)).y = (atV n z15).y)) && ((decide ((movV (((g.getD (z6).toNat zerO))) n (atV n z15)).z = (atV n z15).z)) && true))) = true →
   (dkI g n z6 ((w64 (z12 + 1))) ((w64 (z15 + 1))) ∧
   ((decide (0 ≤ mPl n ((w64 (z15 + 1))))) = true ∧
   (decide (mPl n ((w64 (z15 + 1))) < mPl n z15)) = true))) ∧
  (((decide ((movV (((g.getD (z6).toNat zerO))) n (atV n z15)).x = (atV n z15).x)) && ((decide ((movV (((g.getD (z6).toNat zerO))) n (atV n z15)).y = (atV n z15).y)) && ((decide ((movV (((g.getD (z6).toNat zerO))) n (atV n z15)).z = (atV n z15).z)) && true))) = false →
  (dkI g n z6 z12 ((w64 (z15 + 1))) ∧
  ((decide (0 ≤ mPl n ((w64 (z15 + 1))))) = true ∧
  (decide (mPl n ((w64 (z15 + 1))) < mPl n z15)) = true)))))))) ∧
 ((decide (z15 < z19)) = false →
 (lfit 8 (lapp z5 [z12]) ∧
 (dxI g n (lapp z5 [z12]) ((w64 (z6 + 1))) ∧
 ((decide (0 ≤ opMu g ((w64 (z6 + 1))))) = true ∧
 (decide (opMu g ((w64 (z6 + 1))) < opMu g z6)) = true))))))))))))))) ∧
((decide (z6 < (g.length : Int))) = false →
(z5, (0, ())) = (fxL g n, (fuE g n, ())))))))))))))
theorem r_r10DocFixed (x : HL C_r10DocFixed.args) : runs (env0 [(15, C_r10DocFits.hid), (54, C_r10Places.hid), (21, C_r10At.hid), (53, C_r10Move.hid)] [(28, 6, { fix := [], vars := [(.tmp 7, .list .int), (.tmp 20, .int .i64)], inv := fun y v => dxI x.1 x.2.1 v.1 v.2.1, mu := fun y v => opMu x.1 v.2.1 }), (28, 10, { fix := [(.tmp 20, .int .i64)], vars := [(.tmp 10, .int .i64), (.tmp 11, .int .i64)], inv := fun y v => dkI x.1 x.2.1 y.1 v.1 v.2.1, mu := fun y v => mPl x.2.1 v.2.1 })] []) 1500 28 C_r10DocFixed x = T_r10DocFixed x.1 x.2.1 := by kernel_rfl
theorem p_r10DocFixed (g : List Op3) (n : V3) (h0 : (Sh.list .op).okA g) (h1 : (Sh.agg .vec).okA n) : T_r10DocFixed g n := by
  have hb : g.length * 96 ≤ room := h0.2
  unfold T_r10DocFixed
  refine ⟨trivial, fun z hz => ⟨fun h => ?_, fun h => ?_⟩⟩
  · have hne : fuE g n ≠ 0 := by rw [← hz]; simpa using h
    unfold fxL; rw [if_neg hne, hz]
  · have he : fuE g n = 0 := by rw [← hz]; simpa using h
    obtain ⟨hc, hn, hs, hfB, hfF⟩ := fu_zero he
    have hA := fu_act he
    have hpl := pl_pos hs
    have hFm := (chk_grp hc).1
    have hgl := chk_len hc
    refine ⟨dx_0, fun l i _ _ hI lf => ⟨fun hi => ⟨⟨hI.1.1, of_decide_eq_true hi⟩, dk_0 hs i, fun c _ _ k _ _ hK => ⟨hn, fun z2 hz2 => ?_⟩⟩, fun hi => ?_⟩⟩
    · subst hz2
      have hi := of_decide_eq_true hi
      refine ⟨fun hk => ?_, fun hk => ⟨?_, dx_next hb hI hi hK (of_decide_eq_false hk)⟩⟩
      · have hk := of_decide_eq_true hk
        have hgo := getD_mem hI.1.1 hi zerO
        obtain ⟨s1, s2⟩ := dk_next (g := g) hs hK hk
        have ev := eqVc (movV (g.getD i.toNat zerO) n (atV n k)) (atV n k)
        exact ⟨⟨hn, hK.1.1, hk⟩, ⟨hFm _ hgo, hn, hfB _ hgo, at_in hs hK.1.1 hk⟩, ⟨hn, hK.1.1, hk⟩, fun h => s1 (of_decide_eq_true (ev.symm.trans h)), fun h => s2 (of_decide_eq_false (ev.symm.trans h))⟩
      · show (l ++ [_]).length * 8 ≤ 140737488355328
        rw [List.length_append, hI.2, List.length_map, List.length_take]; simp only [List.length_singleton]; omega
    · have hi := of_decide_eq_false hi
      rw [hI.2, take_end hi]
      unfold fxL
      rw [if_pos he, he]
theorem s_r10DocFixed : Sound Try.prog 28 C_r10DocFixed :=
  sound_of_eqs (fun x => env0 [(15, C_r10DocFits.hid), (54, C_r10Places.hid), (21, C_r10At.hid), (53, C_r10Move.hid)] [(28, 6, { fix := [], vars := [(.tmp 7, .list .int), (.tmp 20, .int .i64)], inv := fun y v => dxI x.1 x.2.1 v.1 v.2.1, mu := fun y v => opMu x.1 v.2.1 }), (28, 10, { fix := [(.tmp 20, .int .i64)], vars := [(.tmp 10, .int .i64), (.tmp 11, .int .i64)], inv := fun y v => dkI x.1 x.2.1 y.1 v.1 v.2.1, mu := fun y v => mPl x.2.1 v.2.1 })] []) (fun _ => rfl) (fun _ => env0_ok (.cons s_r10DocFits.hid (.cons s_r10Places.hid (.cons s_r10At.hid (.cons s_r10Move.hid (.nil)))))) (fun x => T_r10DocFixed x.1 x.2.1) r_r10DocFixed fun x ok hp => p_r10DocFixed x.1 x.2.1 ok.1 ok.2.1
end Go.Fx
