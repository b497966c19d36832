/-
  Contracts: unum, r10Places, r10At, r10Num, ints10, vecs10, turn10, both10, uorbits.
-/
import Derived.Test.YtolbgdfbdlddaaaK13
namespace Go.Fx
open Go Go.Proofs
set_option maxRecDepth 100000
set_option linter.unusedVariables false
set_option linter.unusedSimpArgs false
set_option linter.unusedSectionVars false
noncomputable def C_unum : Contract := { args := [.agg .vec, .agg .vec], res := [.int .i64], pre := fun x => numP x.1 x.2.1, F := fun x => ((numV x.1 x.2.1 : Int), ()) }
def T_unum (n : V3) (a : V3) : Prop :=
  ((w64 (((w64 (((w64 (((w64 (a.x * n.y)) + a.y))) * n.z))) + a.z))), ()) = (numV n a, ())
theorem r_unum (x : HL C_unum.args) : runs (env0 [] [] []) 400 89 C_unum x = T_unum x.1 x.2.1 := by kernel_rfl
theorem p_unum (n : V3) (a : V3) (h0 : (Sh.agg .vec).okA n) (h1 : (Sh.agg .vec).okA a) (hp : numP n a) : T_unum n a := by
  obtain ⟨hn, ha⟩ := hp
  unfold T_unum
  rw [num_w (sid_ok hn) ha]
theorem s_unum : Sound Try.prog 89 C_unum :=
  sound_of_eq (env0_ok (.nil)) (fun x => T_unum x.1 x.2.1) r_unum fun x ok hp => p_unum x.1 x.2.1 ok.1 ok.2.1 hp
noncomputable def C_r10Places : Contract := { args := [.agg .vec], res := [.int .i64], pre := fun x => sidP x.1, F := fun x => ((plcs x.1 : Int), ()) }
def T_r10Places (n : V3) : Prop :=
  ((w64 (((w64 (n.x * n.y)) * n.z))), ()) = (plcs n, ())
theorem r_r10Places (x : HL C_r10Places.args) : runs (env0 [] [] []) 400 54 C_r10Places x = T_r10Places x.1 := by kernel_rfl
theorem p_r10Places (n : V3) (h0 : (Sh.agg .vec).okA n) (hp : sidP n) : T_r10Places n := by
  unfold T_r10Places
  rw [lrep_w hp]
theorem s_r10Places : Sound Try.prog 54 C_r10Places :=
  sound_of_eq (env0_ok (.nil)) (fun x => T_r10Places x.1) r_r10Places fun x ok hp => p_r10Places x.1 ok.1 hp
noncomputable def C_r10At : Contract := { args := [.agg .vec, .int .i64], res := [.agg .vec], pre := fun x => atP x.1 x.2.1, F := fun x => ((atV x.1 x.2.1 : V3), ()) }
def T_r10At (n : V3) (k : Int) : Prop :=
  (((w64 (n.y * n.z)) ≠ 0) ∧
((n.z ≠ 0) ∧
((n.y ≠ 0) ∧
((n.z ≠ 0) ∧
((V3.mk ((w64 ((Int.tdiv k ((w64 (n.y * n.z))))))) ((Int.tmod ((w64 (Int.tdiv k n.z))) n.y)) (Int.tmod k n.z)), ()) = (atV n k, ())))))
theorem r_r10At (x : HL C_r10At.args) : runs (env0 [] [] []) 400 21 C_r10At x = T_r10At x.1 x.2.1 := by kernel_rfl
theorem p_r10At (n : V3) (k : Int) (h0 : (Sh.agg .vec).okA n) (h1 : (Sh.int .i64).okA k) (hp : atP n k) : T_r10At n k := by
  obtain ⟨hn, k0, k1⟩ := hp
  have hs := sid_ok hn
  obtain ⟨e1, e2⟩ := at_w hs k0 k1
  unfold T_r10At
  rw [e2]
  exact ⟨e1, by have := hs.z0; omega, by have := hs.y0; omega, by have := hs.z0; omega, rfl⟩
theorem s_r10At : Sound Try.prog 21 C_r10At :=
  sound_of_eq (env0_ok (.nil)) (fun x => T_r10At x.1 x.2.1) r_r10At fun x ok hp => p_r10At x.1 x.2.1 ok.1 ok.2.1 hp
noncomputable def C_r10Num : Contract := { args := [.agg .vec, .agg .vec], res := [.int .i64], pre := fun x => numP x.1 x.2.1, F := fun x => ((numV x.1 x.2.1 : Int), ()) }
def T_r10Num (n : V3) (a : V3) : Prop :=
  ((w64 (((w64 (((w64 (((w64 (a.x * n.y)) + a.y))) * n.z))) + a.z))), ()) = (numV n a, ())
theorem r_r10Num (x : HL C_r10Num.args) : runs (env0 [] [] []) 400 22 C_r10Num x = T_r10Num x.1 x.2.1 := by kernel_rfl
theorem p_r10Num (n : V3) (a : V3) (h0 : (Sh.agg .vec).okA n) (h1 : (Sh.agg .vec).okA a) (hp : numP n a) : T_r10Num n a := by
  obtain ⟨hn, ha⟩ := hp
  unfold T_r10Num
  rw [num_w (sid_ok hn) ha]
theorem s_r10Num : Sound Try.prog 22 C_r10Num :=
  sound_of_eq (env0_ok (.nil)) (fun x => T_r10Num x.1 x.2.1) r_r10Num fun x ok hp => p_r10Num x.1 x.2.1 ok.1 ok.2.1 hp
noncomputable def C_ints10 : Contract := { args := [.list .int, .list .int], res := [.bool], pre := fun _ => True, F := fun x => ((smI x.1 x.2.1 : Bool), ()) }
def T_ints10 (a : List Int) (b : List Int) : Prop :=
  (((!(decide ((a.length : Int) = (b.length : Int)))) = true →
 (false, ()) = (smI a b, ())) ∧
((!(decide ((a.length : Int) = (b.length : Int)))) = false →
(smIn a b 0 ∧
∀ z3 : Int,
((decide ((-9223372036854775808) ≤ z3)) = true →
((decide (z3 ≤ 9223372036854775807)) = true →
(smIn a b z3 →
(((decide (z3 < (a.length : Int))) = true →
 (inB a z3 ∧
 (inB b z3 ∧
 (((!(decide ((a.getD (z3).toNat 0) = (b.getD (z3).toNat 0)))) = true →
  (false, ()) = (smI a b, ())) ∧
 ((!(decide ((a.getD (z3).toNat 0) = (b.getD (z3).toNat 0)))) = false →
 (smIn a b ((w64 (z3 + 1))) ∧
 ((decide (0 ≤ inMu a ((w64 (z3 + 1))))) = true ∧
 (decide (inMu a ((w64 (z3 + 1))) < inMu a z3)) = true))))))) ∧
((decide (z3 < (a.length : Int))) = false →
(true, ()) = (smI a b, ())))))))))
theorem r_ints10 (x : HL C_ints10.args) : runs (env0 [] [(23, 4, { fix := [(.tmp 0, .list .int), (.tmp 1, .list .int)], vars := [(.tmp 13, .int .i64)], inv := fun y v => smIn y.1 y.2.1 v.1, mu := fun y v => inMu y.1 v.1 })] []) 400 23 C_ints10 x = T_ints10 x.1 x.2.1 := by kernel_rfl
theorem p_ints10 (a : List Int) (b : List Int) (h0 : (Sh.list .int).okA a) (h1 : (Sh.list .int).okA b) : T_ints10 a b := by
  have hb : a.length * 8 ≤ room := h0.2
  unfold T_ints10 smI
  refine ⟨fun h => ?_, fun h => ?_⟩
  · have : a ≠ b := fun e => by rw [e] at h; simp at h
    rw [decide_eq_false this]
  have hl : a.length = b.length := by have : (a.length : Int) = b.length := by simpa using h
                                      omega
  refine ⟨⟨hl, by omega, by omega, fun k hk => by simp at hk⟩, fun i _ _ hI => ⟨fun hi => ?_, fun hi => ?_⟩⟩
  · have hi := of_decide_eq_true hi
    have i0 := hI.2.1
    have e1 : w64 (i + 1) = i + 1 := w64_id (by omega) (by unfold room at hb; omega)
    refine ⟨⟨i0, hi⟩, ⟨i0, by omega⟩, fun h1 => ?_, fun h1 => ⟨?_, ?_, ?_⟩⟩
    · rw [decide_eq_false (sm_ne (by simpa using h1))]
    · rw [e1]; exact sm_next hI hi (by simpa using h1)
    · rw [e1]; exact decide_eq_true (by unfold inMu; omega)
    · rw [e1]; exact decide_eq_true (by unfold inMu; omega)
  · rw [decide_eq_true (sm_end hI (of_decide_eq_false hi))]
theorem s_ints10 : Sound Try.prog 23 C_ints10 :=
  sound_of_eq (env0_ok (.nil)) (fun x => T_ints10 x.1 x.2.1) r_ints10 fun x ok hp => p_ints10 x.1 x.2.1 ok.1 ok.2.1
noncomputable def C_vecs10 : Contract := { args := [.list .vec, .list .vec], res := [.bool], pre := fun _ => True, F := fun x => ((smW x.1 x.2.1 : Bool), ()) }
def T_vecs10 (a : List V3) (b : List V3) : Prop :=
  (((!(decide ((a.length : Int) = (b.length : Int)))) = true →
 (false, ()) = (smW a b, ())) ∧
((!(decide ((a.length : Int) = (b.length : Int)))) = false →
(smWi a b 0 ∧
∀ z3 : Int,
((decide ((-9223372036854775808) ≤ z3)) = true →
((decide (z3 ≤ 9223372036854775807)) = true →
(smWi a b z3 →
(((decide (z3 < (a.length : Int))) = true →
 (inB a z3 ∧
 (inB b z3 ∧
 (((!((decide (((a.getD (z3).toNat (V3.mk 0 0 0))).x = ((b.getD (z3).toNat (V3.mk 0 0 0))).x)) && ((decide (((a.getD (z3).toNat (V3.mk 0 0 0))).y = ((b.getD (z3).toNat (V3.mk 0 0 0))).y)) && ((decide (((a.getD (z3).toNat (V3.mk 0 0 0))).z = ((b.getD (z3).toNat (V3.mk 0 0 0))).z)) && true)))) = true →
  (false, ()) = (smW a b, ())) ∧
 ((!((decide (((a.getD (z3).toNat (V3.mk 0 0 0))).x = ((b.getD (z3).toNat (V3.mk 0 0 0))).x)) && ((decide (((a.getD (z3).toNat (V3.mk 0 0 0))).y = ((b.getD (z3).toNat (V3.mk 0 0 0))).y)) && ((decide (((a.getD (z3).toNat (V3.mk 0 0 0))).z = ((b.getD (z3).toNat (V3.mk 0 0 0))).z)) && true)))) = false →
 (smWi a b ((w64 (z3 + 1))) ∧
 ((decide (0 ≤ inW a ((w64 (z3 + 1))))) = true ∧
 (decide (inW a ((w64 (z3 + 1))) < inW a z3)) = true))))))) ∧
((decide (z3 < (a.length : Int))) = false →
(true, ()) = (smW a b, ())))))))))
theorem r_vecs10 (x : HL C_vecs10.args) : runs (env0 [] [(26, 4, { fix := [(.tmp 0, .list .vec), (.tmp 1, .list .vec)], vars := [(.tmp 13, .int .i64)], inv := fun y v => smWi y.1 y.2.1 v.1, mu := fun y v => inW y.1 v.1 })] []) 400 26 C_vecs10 x = T_vecs10 x.1 x.2.1 := by kernel_rfl
theorem p_vecs10 (a : List V3) (b : List V3) (h0 : (Sh.list .vec).okA a) (h1 : (Sh.list .vec).okA b) : T_vecs10 a b := by
  have hb : a.length * 24 ≤ room := h0.2
  unfold T_vecs10 smW
  refine ⟨fun h => ?_, fun h => ?_⟩
  · have : a ≠ b := fun e => by rw [e] at h; simp at h
    rw [decide_eq_false this]
  have hl : a.length = b.length := by have : (a.length : Int) = b.length := by simpa using h
                                      omega
  refine ⟨⟨hl, by omega, by omega, fun k hk => by simp at hk⟩, fun i _ _ hI => ⟨fun hi => ?_, fun hi => ?_⟩⟩
  · have hi := of_decide_eq_true hi
    have i0 := hI.2.1
    have e1 : w64 (i + 1) = i + 1 := w64_id (by omega) (by unfold room at hb; omega)
    rw [eqVc]
    refine ⟨⟨i0, hi⟩, ⟨i0, by omega⟩, fun h1 => ?_, fun h1 => ⟨?_, ?_, ?_⟩⟩
    · rw [decide_eq_false (sm_ne (by simpa using h1))]
    · rw [e1]; exact sm_next hI hi (by simpa using h1)
    · rw [e1]; exact decide_eq_true (by unfold inW; omega)
    · rw [e1]; exact decide_eq_true (by unfold inW; omega)
  · rw [decide_eq_true (sm_end hI (of_decide_eq_false hi))]
theorem s_vecs10 : Sound Try.prog 26 C_vecs10 :=
  sound_of_eq (env0_ok (.nil)) (fun x => T_vecs10 x.1 x.2.1) r_vecs10 fun x ok hp => p_vecs10 x.1 x.2.1 ok.1 ok.2.1
noncomputable def C_turn10 : Contract := { args := [], res := [.agg .op], pre := fun _ => True, F := fun x => ((trnO : Op3), ()) }
def T_turn10  : Prop :=
  ((Op3.mk ((M3.mk (-1) 0 0 0 (-1) 0 0 0 (-1))) (V3.mk 0 0 0)), ()) = (trnO, ())
theorem r_turn10 (x : HL C_turn10.args) : runs (env0 [] [] []) 400 42 C_turn10 x = T_turn10  := by kernel_rfl
theorem p_turn10   : T_turn10  := by
  rfl
theorem s_turn10 : Sound Try.prog 42 C_turn10 :=
  sound_of_eq (env0_ok (.nil)) (fun x => T_turn10 ) r_turn10 fun x ok hp => p_turn10  
noncomputable def C_both10 : Contract := { args := [], res := [.list .op], pre := fun _ => True, F := fun x => ((pairU : List Op3), ()) }
def T_both10  : Prop :=
  (True ∧
∀ z0 : Op3,
(z0 = trnO →
(True ∧
([z0, oneO], ()) = (pairU, ()))))
theorem r_both10 (x : HL C_both10.args) : runs (env0 [(42, C_turn10.hid), (33, C_opOne)] [] []) 400 31 C_both10 x = T_both10  := by kernel_rfl
theorem p_both10   : T_both10  := by
  exact ⟨trivial, fun z hz => ⟨trivial, by rw [hz]; rfl⟩⟩
theorem s_both10 : Sound Try.prog 31 C_both10 :=
  sound_of_eq (env0_ok (.cons s_turn10.hid (.cons s_opOne (.nil)))) (fun x => T_both10 ) r_both10 fun x ok hp => p_both10  
noncomputable def C_uorbits : Contract := { args := [.list .op, .agg .vec], res := [.list .int, .list .vec, .list .int], pre := fun x => orbP x.1 x.2.1, F := fun x => ((orO x.1 x.2.1 : List Int), (fsA x.1 x.2.1 : List V3), (csA x.1 x.2.1 : List Int), ()) }
def T_uorbits (g : List Op3) (n : V3) : Prop :=
  ((leP 0 ((w64 (((w64 (n.x * n.y)) * n.z)))) ∧
 lfit 8 ((lrep ((w64 (((w64 (n.x * n.y)) * n.z)))) (0 : Int)))) ∧
(obX g n ((lrep ((w64 (((w64 (n.x * n.y)) * n.z)))) (0 : Int))) [] [] 0 ∧
∀ z2 : List Int,
∀ z3 : List V3,
∀ z4 : List Int,
∀ z5 : Int,
((decide ((-9223372036854775808) ≤ z5)) = true →
((decide (z5 ≤ 9223372036854775807)) = true →
(obX g n z2 z3 z4 z5 →
(eqP (z2.length : Int) ((((lrep ((w64 (((w64 (n.x * n.y)) * n.z)))) (0 : Int))).length : Int)) →
(lfit 24 z3 →
(lfit 8 z4 →
(((decide (z5 < n.x)) = true →
 (obY g n z5 z2 z3 z4 0 ∧
 ∀ z13 : List Int,
 ∀ z14 : List V3,
 ∀ z15 : List Int,
 ∀ z16 : Int,
 ((decide ((-9223372036854775808) ≤ z16)) = true →
 ((decide (z16 ≤ 9223372036854775807)) = true →
 (obY g n z5 z13 z14 z15 z16 →
 (eqP (z13.length : Int) (z2.length : Int) →
 (lfit 24 z14 →
 (lfit 8 z15 →
 (((decide (z16 < n.y)) = true →
  (obZ g n z5 z16 z13 z14 z15 0 ∧
  ∀ z24 : List Int,
  ∀ z25 : List V3,
  ∀ z26 : List Int,
  ∀ z27 : Int,
  ((decide ((-9223372036854775808) ≤ z27)) = true →
  ((decide (z27 ≤ 9223372036854775807)) = true →
  (obZ g n z5 z16 z24 z25 z26 z27 →
  (eqP (z24.length : Int) (z13.length : Int) →
  (lfit 24 z25 →
  (lfit 8 z26 →
  (((decide (z27 < n.z)) = true →
   (numP n (V3.mk z5 z16 z27) ∧
   (inB z24 (numV n (V3.mk z5 z16 z27)) ∧
   (((decide (0 < (z24.getD (numV n (V3.mk z5 z16 z27)).toNat 0))) = true →
    (obZ g n z5 z16 z24 z25 z26 ((w64 (z27 + 1))) ∧
    ((decide (0 ≤ mZ n ((w64 (z27 + 1))))) = true ∧
    (decide (mZ n ((w64 (z27 + 1))) < mZ n z27)) = true))) ∧
   ((decide (0 < (z24.getD (numV n (V3.mk z5 z16 z27)).toNat 0))) = false →
   (lfit 24 (lapp z25 ([(V3.mk z5 z16 z27)])) ∧
   (obI g n (V3.mk z5 z16 z27) z24 0 0 ∧
   ∀ z36 : List Int,
   ∀ z37 : Int,
   ((decide ((-9223372036854775808) ≤ z37)) = true →
   ((decide (z37 ≤ 9223372036854775807)) = true →
   ∀ z40 : Int,
   ((decide ((-9223372036854775808) ≤ z40)) = true →
   ((decide (z40 ≤ 9223372036854775807)) = true →
   (obI g n (V3.mk z5 z16 z27) z36 z37 z40 →
   (eqP (z36.length : Int) (z24.length : Int) →
   (((decide (z40 < (g.length : Int))) = true →
    (inB g z40 ∧
    (movP (((g.getD (z40).toNat zerO))) n (V3.mk z5 z16 z27) ∧
    (numP n (movV (((g.getD (z40).toNat zerO))) n (V3.mk z5 z16 z27)) ∧
    (inB z36 (numV n (movV (((g.getD (z40).toNat zerO))) n (V3.mk z5 z16 z27))) ∧
    (((decide ((z36.getD (numV n (movV (((g.getD (z40).toNat zerO))) n (V3.mk z5 z16 z27))).toNat 0) = 0)) = true →
     (inB z36 (numV n (movV (((g.getD (z40).toNat zerO))) n (V3.mk z5 z16 z27))) ∧
     (obI g n (V3.mk z5 z16 z27) (lset z36 (numV n (movV (((g.getD (z40).toNat zerO))) n (V3.mk z5 z16 z27))) (((lapp z25 ([(V3.mk z5 z16 z27)])).length : Int))) ((w64 (z37 + 1))) ((w64 (z40 + 1))) ∧
     ((decide (0 ≤ opMu g ((w64 (z40 + 1))))) = true ∧
     (decide (opMu g ((w64 (z40 + 1))) < opMu g z40)) = true)))) ∧
    ((decide ((z36.getD (numV n (movV (((g.getD (z40).toNat zerO))) n (V3.mk z5 z16 z27))).toNat 0) = 0)) = false →
    (obI g n (V3.mk z5 z16 z27) z36 z37 ((w64 (z40 + 1))) ∧
    ((decide (0 ≤ opMu g ((w64 (z40 + 1))))) = true ∧
    (decide (opMu g ((w64 (z40 + 1))) < opMu g z40)) = true))))))))) ∧
   ((decide (z40 < (g.length : Int))) = false →
   (lfit 8 (lapp z26 [z37]) ∧
   (obZ g n z5 z16 z36 (lapp z25 ([(V3.mk z5 z16 z27)])) (lapp z26 [z37]) ((w64 (z27 + 1))) ∧
   ((decide (0 ≤ mZ n ((w64 (z27 + 1))))) = true ∧
   (decide (mZ n ((w64 (z27 + 1))) < mZ n z27)) = true)))))))))))))))))) ∧
  ((decide (z27 < n.z)) = false →
  (obY g n z5 z24 z25 z26 ((w64 (z16 + 1))) ∧
  ((decide (0 ≤ mY n ((w64 (z16 + 1))))) = true ∧
  (decide (mY n ((w64 (z16 + 1))) < mY n z16)) = true)))))))))))) ∧
 ((decide (z16 < n.y)) = false →
 (obX g n z13 z14 z15 ((w64 (z5 + 1))) ∧
 ((decide (0 ≤ mX n ((w64 (z5 + 1))))) = true ∧
 (decide (mX n ((w64 (z5 + 1))) < mX n z5)) = true)))))))))))) ∧
((decide (z5 < n.x)) = false →
(ocI g n z2 0 ∧
∀ z13 : List Int,
∀ z14 : Int,
((decide ((-9223372036854775808) ≤ z14)) = true →
((decide (z14 ≤ 9223372036854775807)) = true →
(ocI g n z13 z14 →
(eqP (z13.length : Int) (z2.length : Int) →
(((decide (z14 < (z2.length : Int))) = true →
 (inB z13 z14 ∧
 (inB z13 z14 ∧
 (ocI g n (lset z13 z14 ((w64 (((z13.getD (z14).toNat 0) - 1))))) ((w64 (z14 + 1))) ∧
 ((decide (0 ≤ mPl n ((w64 (z14 + 1))))) = true ∧
 (decide (mPl n ((w64 (z14 + 1))) < mPl n z14)) = true))))) ∧
((decide (z14 < (z2.length : Int))) = false →
(z13, (z3, (z4, ()))) = (orO g n, (fsA g n, (csA g n, ()))))))))))))))))))))
theorem r_uorbits (x : HL C_uorbits.args) : runs (env0 [(89, C_unum.hid), (51, C_umove.hid)] [(56, 2, { fix := [], vars := [(.icap 1 0, .list .int), (.cap 1 2, .list .vec), (.cap 1 4, .list .int), (.tmp 9, .int .i64)], inv := fun y v => obX x.1 x.2.1 v.1 v.2.1 v.2.2.1 v.2.2.2.1, mu := fun y v => mX x.2.1 v.2.2.2.1 }), (56, 5, { fix := [(.tmp 9, .int .i64)], vars := [(.icap 1 0, .list .int), (.cap 1 2, .list .vec), (.cap 1 4, .list .int), (.tmp 14, .int .i64)], inv := fun y v => obY x.1 x.2.1 y.1 v.1 v.2.1 v.2.2.1 v.2.2.2.1, mu := fun y v => mY x.2.1 v.2.2.2.1 }), (56, 8, { fix := [(.tmp 9, .int .i64), (.tmp 14, .int .i64)], vars := [(.icap 1 0, .list .int), (.cap 1 2, .list .vec), (.cap 1 4, .list .int), (.tmp 19, .int .i64)], inv := fun y v => obZ x.1 x.2.1 y.1 y.2.1 v.1 v.2.1 v.2.2.1 v.2.2.2.1, mu := fun y v => mZ x.2.1 v.2.2.2.1 }), (88, 5, { fix := [(.cell 6, .agg .vec)], vars := [(.icell 1, .list .int), (.tmp 7, .int .i64), (.tmp 24, .int .i64)], inv := fun y v => obI x.1 x.2.1 y.1 v.1 v.2.1 v.2.2.1, mu := fun y v => opMu x.1 v.2.2.1 }), (55, 6, { fix := [], vars := [(.icell 7, .list .int), (.tmp 25, .int .i64)], inv := fun y v => ocI x.1 x.2.1 v.1 v.2.1, mu := fun y v => mPl x.2.1 v.2.1 })] []) 1500 55 C_uorbits x = T_uorbits x.1 x.2.1 := by kernel_rfl
theorem p_uorbits (g : List Op3) (n : V3) (h0 : (Sh.list .op).okA g) (h1 : (Sh.agg .vec).okA n) (hp : orbP g n) : T_uorbits g n := by
  have hb : g.length * 96 ≤ room := h0.2
  have hz : fuE g n = 0 := hp
  obtain ⟨hc, hn, hs, hfB, hfF⟩ := fu_zero hz
  have hA := fu_act hz
  have hpl := pl_pos hs
  have hFm := (chk_grp hc).1
  unfold T_uorbits
  rw [lrep_w hn]
  refine ⟨⟨by show (0 : Int) ≤ _; omega, by show (lrep (plcs n) (0 : Int)).length * 8 ≤ 140737488355328; unfold lrep; rw [List.length_replicate]; omega⟩, ox_0 hA hs, fun u1 f1 c1 x _ _ hX lu1 lf1 lc1 => ⟨fun hx => ⟨oy_0 hs hX, fun u2 f2 c2 y _ _ hY lu2 lf2 lc2 => ⟨fun hy => ⟨oz_0 hs hY, fun u3 f3 c3 z _ _ hZ lu3 lf3 lc3 => ⟨fun hz3 => ?_, fun hz3 => oy_next hs hZ (of_decide_eq_false hz3) hY.1.1 (of_decide_eq_true hy)⟩⟩, fun hy => ox_next hs hY (of_decide_eq_false hy) hX.1.1 (of_decide_eq_true hx)⟩⟩, fun hx => ?_⟩⟩
  · have hx := of_decide_eq_true hx
    have hy := of_decide_eq_true hy
    have hz3 := of_decide_eq_true hz3
    have hin := pt_in hX.1.1 hx hY.1.1 hy hZ.1.1 hz3
    have hk := num_in hs hin
    have hkP : (numV n (V3.mk x y z)).toNat < plN n := by unfold plN; omega
    obtain ⟨hu, hf, hcc⟩ := hZ.2
    have hlp := lo_pos hA hkP hu
    have bnd := fs_bnd (g := g) (n := n) (numV n (V3.mk x y z)).toNat
    rw [← hf, ← hcc] at bnd
    refine ⟨⟨hn, hin⟩, ⟨hk.1, by rw [hu, oa_len]; unfold plN; omega⟩, fun h => ?_, fun h => ⟨?_, oi_0 hA hu, fun u4 c4 _ _ j _ _ hI lu4 => ⟨fun hj => ?_, fun hj => ?_⟩⟩⟩
    · obtain ⟨k1, k2, k3⟩ := oa_skip hA hkP (hlp.1 (of_decide_eq_true h))
      exact oz_step hs hZ.1.1 hz3 hk.1 ⟨by rw [k1, hu], by rw [k2, hf], by rw [k3, hcc]⟩
    · show (f3 ++ [_]).length * 24 ≤ 140737488355328
      rw [List.length_append]; simp only [List.length_singleton]; omega
    · have hlo : loP g n (numV n (V3.mk x y z)).toNat = (numV n (V3.mk x y z)).toNat := Classical.byContradiction fun c => of_decide_eq_false h (hlp.2 c)
      have hj := of_decide_eq_true hj
      have hgo := getD_mem hI.1.1 hj zerO
      obtain ⟨s1, s2, s3⟩ := oi_step hA hs hb hin hlo hI hj (m := ((lapp f3 [V3.mk x y z]).length : Int)) (by unfold lapp; rw [hf, List.length_append, fs_len hA]; simp)
      exact ⟨⟨hI.1.1, hj⟩, ⟨hFm _ hgo, hn, hfB _ hgo, hin⟩, ⟨hn, mov_in _ hs _⟩, s1, fun h => ⟨s1, s2 (of_decide_eq_true h)⟩, fun h => s3 (of_decide_eq_false h)⟩
    · have hlo : loP g n (numV n (V3.mk x y z)).toNat = (numV n (V3.mk x y z)).toNat := Classical.byContradiction fun c => of_decide_eq_false h (hlp.2 c)
      obtain ⟨e1, e2, e3⟩ := oi_end hA hs hin hlo hI (of_decide_eq_false hj)
      refine ⟨?_, oz_step hs hZ.1.1 hz3 hk.1 ⟨e1, by show f3 ++ [_] = _; rw [hf]; exact e2, by show c3 ++ [c4] = _; rw [hcc]; exact e3⟩⟩
      show (c3 ++ [_]).length * 8 ≤ 140737488355328
      rw [List.length_append]; simp only [List.length_singleton]; omega
  · obtain ⟨q1, q2, q3⟩ := ox_end hX (of_decide_eq_false hx)
    have hl : (u1.length : Int) = plcs n := by rw [q1, oa_len]; unfold plN; omega
    refine ⟨⟨⟨Int.le_refl _, by omega⟩, by rw [q1]; exact oc_start hA⟩, fun u2 i _ _ hO lu2 => ⟨fun hi => ?_, fun hi => ?_⟩⟩
    · obtain ⟨a1, a2⟩ := oc_next10 hA hs hO (by rw [← hl]; exact of_decide_eq_true hi)
      exact ⟨a1, a1, a2⟩
    · have hi := of_decide_eq_false hi
      have : i.toNat = plN n := by unfold plN; have := hO.1; omega
      rw [hO.2, this, oc_stop hA, q2, q3]; rfl
theorem s_uorbits : Sound Try.prog 55 C_uorbits :=
  sound_of_eqs (fun x => env0 [(89, C_unum.hid), (51, C_umove.hid)] [(56, 2, { fix := [], vars := [(.icap 1 0, .list .int), (.cap 1 2, .list .vec), (.cap 1 4, .list .int), (.tmp 9, .int .i64)], inv := fun y v => obX x.1 x.2.1 v.1 v.2.1 v.2.2.1 v.2.2.2.1, mu := fun y v => mX x.2.1 v.2.2.2.1 }), (56, 5, { fix := [(.tmp 9, .int .i64)], vars := [(.icap 1 0, .list .int), (.cap 1 2, .list .vec), (.cap 1 4, .list .int), (.tmp 14, .int .i64)], inv := fun y v => obY x.1 x.2.1 y.1 v.1 v.2.1 v.2.2.1 v.2.2.2.1, mu := fun y v => mY x.2.1 v.2.2.2.1 }), (56, 8, { fix := [(.tmp 9, .int .i64), (.tmp 14, .int .i64)], vars := [(.icap 1 0, .list .int), (.cap 1 2, .list .vec), (.cap 1 4, .list .int), (.tmp 19, .int .i64)], inv := fun y v => obZ x.1 x.2.1 y.1 y.2.1 v.1 v.2.1 v.2.2.1 v.2.2.2.1, mu := fun y v => mZ x.2.1 v.2.2.2.1 }), (88, 5, { fix := [(.cell 6, .agg .vec)], vars := [(.icell 1, .list .int), (.tmp 7, .int .i64), (.tmp 24, .int .i64)], inv := fun y v => obI x.1 x.2.1 y.1 v.1 v.2.1 v.2.2.1, mu := fun y v => opMu x.1 v.2.2.1 }), (55, 6, { fix := [], vars := [(.icell 7, .list .int), (.tmp 25, .int .i64)], inv := fun y v => ocI x.1 x.2.1 v.1 v.2.1, mu := fun y v => mPl x.2.1 v.2.1 })] []) (fun _ => rfl) (fun _ => env0_ok (.cons s_unum.hid (.cons s_umove.hid (.nil)))) (fun x => T_uorbits x.1 x.2.1) r_uorbits fun x ok hp => p_uorbits x.1 x.2.1 ok.1 ok.2.1 hp
end Go.Fx
