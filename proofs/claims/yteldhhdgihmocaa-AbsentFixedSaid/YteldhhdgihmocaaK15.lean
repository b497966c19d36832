/-
  Contracts: AbsentSees.
-/
import Derived.Test.YteldhhdgihmocaaK14
namespace Go.Fx
open Go Go.Proofs
set_option maxRecDepth 100000
set_option linter.unusedVariables false
set_option linter.unusedSimpArgs false
set_option linter.unusedSectionVars false
noncomputable def C_AbsentSees : Contract := { args := [.list .op, .agg .vec], res := [.bool], pre := fun _ => True, F := fun x => ((true : Bool), ()) }
def T_AbsentSees (g : List Op3) (h : V3) : Prop :=
  (True ∧
∀ z2 : Bool,
(z2 = true →
(((!z2) = true →
 (false, ()) = (true, ())) ∧
((!z2) = false →
(True ∧
∀ z5 : Op3,
(z5 = wyO g h →
∀ z7 : Int,
(z7 = wyE g h →
(True ∧
∀ z9 : Bool,
(z9 = isB g h →
∀ z11 : Int,
(z11 = isE g h →
(True ∧
∀ z13 : Int,
(z13 = ceI g h →
∀ z15 : Bool,
(z15 = ceB g h →
∀ z17 : Int,
(z17 = isE g h →
(((!(decide (z11 = 0))) = true →
 (((decide (z7 = z11)) = true →
  (((decide (z17 = z11)) = true →
   (((!z9) = true →
    (((!z15) = true →
     (((decide (z13 = 0)) = true →
      (((decide (z5.R.xx = 0)) && ((decide (z5.R.xy = 0)) && ((decide (z5.R.xz = 0)) && ((decide (z5.R.yx = 0)) && ((decide (z5.R.yy = 0)) && ((decide (z5.R.yz = 0)) && ((decide (z5.R.zx = 0)) && ((decide (z5.R.zy = 0)) && ((decide (z5.R.zz = 0)) && ((decide (z5.T.x = 0)) && ((decide (z5.T.y = 0)) && ((decide (z5.T.z = 0)) && true)))))))))))), ()) = (true, ())) ∧
     ((decide (z13 = 0)) = false →
     (false, ()) = (true, ())))) ∧
    ((!z15) = false →
    (false, ()) = (true, ())))) ∧
   ((!z9) = false →
   (false, ()) = (true, ())))) ∧
  ((decide (z17 = z11)) = false →
  (false, ()) = (true, ())))) ∧
 ((decide (z7 = z11)) = false →
 (false, ()) = (true, ())))) ∧
((!(decide (z11 = 0))) = false →
((((!(decide (z17 = 0))) = true →
  (false, ()) = (true, ())) ∧
 ((!(decide (z17 = 0))) = false →
 (((!(z9 == (decide (z7 = 0)))) = true →
  (false, ()) = (true, ())) ∧
 ((!(z9 == (decide (z7 = 0)))) = false →
 (((!(decide (z7 = 0))) = true →
  (((!(decide (z7 = 9))) = true →
   (false, ()) = (true, ())) ∧
  ((!(decide (z7 = 9))) = false →
  True))) ∧
 ((!(decide (z7 = 0))) = false →
 True)))))) ∧
(True →
((fsA g h 0 ∧
 ∀ z21 : Int,
 ((decide ((-9223372036854775808) ≤ z21)) = true →
 ((decide (z21 ≤ 9223372036854775807)) = true →
 (fsA g h z21 →
 (((decide (z21 < (g.length : Int))) = true →
  (inB g z21 ∧
  (True ∧
  ∀ z26 : V3,
  (z26 = htV (((g.getD (z21).toNat zerO))) h →
  ∀ z28 : Int,
  (z28 = htE (((g.getD (z21).toNat zerO))) h →
  (True ∧
  ∀ z30 : Int,
  (z30 = hpI (((g.getD (z21).toNat zerO))) h →
  ∀ z32 : Int,
  (z32 = htE (((g.getD (z21).toNat zerO))) h →
  ((((!(decide (z28 = 0))) = true →
    (false, ()) = (true, ())) ∧
   ((!(decide (z28 = 0))) = false →
   (((!(decide (z32 = 0))) = true →
    (false, ()) = (true, ())) ∧
   ((!(decide (z32 = 0))) = false →
   True)))) ∧
  (True →
  ((((decide (z26.x = h.x)) && ((decide (z26.y = h.y)) && ((decide (z26.z = h.z)) && true))) = true →
   (((!(decide (z30 = 0))) = true →
    (((!z9) = true →
     (false, ()) = (true, ())) ∧
    ((!z9) = false →
    (((!((decide ((((g.getD (z21).toNat zerO)).R).xx = z5.R.xx)) && ((decide ((((g.getD (z21).toNat zerO)).R).xy = z5.R.xy)) && ((decide ((((g.getD (z21).toNat zerO)).R).xz = z5.R.xz)) && ((decide ((((g.getD (z21).toNat zerO)).R).yx = z5.R.yx)) && ((decide ((((g.getD (z21).toNat zerO)).R).yy = z5.R.yy)) && ((decide ((((g.getD (z21).toNat zerO)).R).yz = z5.R.yz)) && ((decide ((((g.getD (z21).toNat zerO)).R).zx = z5.R.zx)) && ((decide ((((g.getD (z21).toNat zerO)).R).zy = z5.R.zy)) && ((decide ((((g.getD (z21).toNat zerO)).R).zz = z5.R.zz)) && ((decide ((((g.getD (z21).toNat zerO)).T).x = z5.T.x)) && ((decide ((((g.getD (z21).toNat zerO)).T).y = z5.T.y)) && ((decide ((((g.getD (z21).toNat zerO)).T).z = z5.T.z)) && true))))))))))))) = true →
     (false, ()) = (true, ())) ∧
    ((!((decide ((((g.getD (z21).toNat zerO)).R).xx = z5.R.xx)) && ((decide ((((g.getD (z21).toNat zerO)).R).xy = z5.R.xy)) && ((decide ((((g.getD (z21).toNat zerO)).R).xz = z5.R.xz)) && ((decide ((((g.getD (z21).toNat zerO)).R).yx = z5.R.yx)) && ((decide ((((g.getD (z21).toNat zerO)).R).yy = z5.R.yy)) && ((decide ((((g.getD (z21).toNat zerO)).R).yz = z5.R.yz)) && ((decide ((((g.getD (z21).toNat zerO)).R).zx = z5.R.zx)) && ((decide ((((g.getD (z21).toNat zerO)).R).zy = z5.R.zy)) && ((decide ((((g.getD (z21).toNat zerO)).R).zz = z5.R.zz)) && ((decide ((((g.getD (z21).toNat zerO)).T).x = z5.T.x)) && ((decide ((((g.getD (z21).toNat zerO)).T).y = z5.T.y)) && ((decide ((((g.getD (z21).toNat zerO)).T).z = z5.T.z)) && true))))))))))))) = false →
    True))))) ∧
   ((!(decide (z30 = 0))) = false →
   ((z9 = true →
    ((((decide ((((g.getD (z21).toNat zerO)).R).xx = z5.R.xx)) && ((decide ((((g.getD (z21).toNat zerO)).R).xy = z5.R.xy)) && ((decide ((((g.getD (z21).toNat zerO)).R).xz = z5.R.xz)) && ((decide ((((g.getD (z21).toNat zerO)).R).yx = z5.R.yx)) && ((decide ((((g.getD (z21).toNat zerO)).R).yy = z5.R.yy)) && ((decide ((((g.getD (z21).toNat zerO)).R).yz = z5.R.yz)) && ((decide ((((g.getD (z21).toNat zerO)).R).zx = z5.R.zx)) && ((decide ((((g.getD (z21).toNat zerO)).R).zy = z5.R.zy)) && ((decide ((((g.getD (z21).toNat zerO)).R).zz = z5.R.zz)) && ((decide ((((g.getD (z21).toNat zerO)).T).x = z5.T.x)) && ((decide ((((g.getD (z21).toNat zerO)).T).y = z5.T.y)) && ((decide ((((g.getD (z21).toNat zerO)).T).z = z5.T.z)) && true)))))))))))) = true →
     (false, ()) = (true, ())) ∧
    (((decide ((((g.getD (z21).toNat zerO)).R).xx = z5.R.xx)) && ((decide ((((g.getD (z21).toNat zerO)).R).xy = z5.R.xy)) && ((decide ((((g.getD (z21).toNat zerO)).R).xz = z5.R.xz)) && ((decide ((((g.getD (z21).toNat zerO)).R).yx = z5.R.yx)) && ((decide ((((g.getD (z21).toNat zerO)).R).yy = z5.R.yy)) && ((decide ((((g.getD (z21).toNat zerO)).R).yz = z5.R.yz)) && ((decide ((((g.getD (z21).toNat zerO)).R).zx = z5.R.zx)) && ((decide ((((g.getD (z21).toNat zerO)).R).zy = z5.R.zy)) && ((decide ((((g.getD (z21).toNat zerO)).R).zz = z5.R.zz)) && ((decide ((((g.getD (z21).toNat zerO)).T).x = z5.T.x)) && ((decide ((((g.getD (z21).toNat zerO)).T).y = z5.T.y)) && ((decide ((((g.getD (z21).toNat zerO)).T).z = z5.T.z)) && true)))))))))))) = false →
    (fsA g h ((w64 (z21 + 1))) ∧
    ((decide (0 ≤ opMu g ((w64 (z21 + 1))))) = true ∧
    (decide (opMu g ((w64 (z21 + 1))) < opMu g z21)) = true))))) ∧
   (z9 = false →
   (fsA g h ((w64 (z21 + 1))) ∧
   ((decide (0 ≤ opMu g ((w64 (z21 + 1))))) = true ∧
   (decide (opMu g ((w64 (z21 + 1))) < opMu g z21)) = true))))))) ∧
  (((decide (z26.x = h.x)) && ((decide (z26.y = h.y)) && ((decide (z26.z = h.z)) && true))) = false →
  ((z9 = true →
   ((((decide ((((g.getD (z21).toNat zerO)).R).xx = z5.R.xx)) && ((decide ((((g.getD (z21).toNat zerO)).R).xy = z5.R.xy)) && ((decide ((((g.getD (z21).toNat zerO)).R).xz = z5.R.xz)) && ((decide ((((g.getD (z21).toNat zerO)).R).yx = z5.R.yx)) && ((decide ((((g.getD (z21).toNat zerO)).R).yy = z5.R.yy)) && ((decide ((((g.getD (z21).toNat zerO)).R).yz = z5.R.yz)) && ((decide ((((g.getD (z21).toNat zerO)).R).zx = z5.R.zx)) && ((decide ((((g.getD (z21).toNat zerO)).R).zy = z5.R.zy)) && ((decide ((((g.getD (z21).toNat zerO)).R).zz = z5.R.zz)) && ((decide ((((g.getD (z21).toNat zerO)).T).x = z5.T.x)) && ((decide ((((g.getD (z21).toNat zerO)).T).y = z5.T.y)) && ((decide ((((g.getD (z21).toNat zerO)).T).z = z5.T.z)) && true)))))))))))) = true →
    (false, ()) = (true, ())) ∧
   (((decide ((((g.getD (z21).toNat zerO)).R).xx = z5.R.xx)) && ((decide ((((g.getD (z21).toNat zerO)).R).xy = z5.R.xy)) && ((decide ((((g.getD (z21).toNat zerO)).R).xz = z5.R.xz)) && ((decide ((((g.getD (z21).toNat zerO)).R).yx = z5.R.yx)) && ((decide ((((g.getD (z21).toNat zerO)).R).yy = z5.R.yy)) && ((decide ((((g.getD (z21).toNat zerO)).R).yz = z5.R.yz)) && ((decide ((((g.getD (z21).toNat zerO)).R).zx = z5.R.zx)) && ((decide ((((g.getD (z21).toNat zerO)).R).zy = z5.R.zy)) && ((decide ((((g.getD (z21).toNat zerO)).R).zz = z5.R.zz)) && ((decide ((((g.getD (z21).toNat zerO)).T).x = z5.T.x)) && ((decide ((((g.getD (z21).toNat zerO)).T).y = z5.T.y)) && ((decide ((((g.getD (z21).toNat zerO)).T).z = z5.T.z)) && true)))))))))))) = false →
   (fsA g h ((w64 (z21 + 1))) ∧
   ((decide (0 ≤ opMu g ((w64 (z21 + 1))))) = true ∧
   (decide (opMu g ((w64 (z21 + 1))) < opMu g z21)) = true))))) ∧
  (z9 = false →
  (fsA g h ((w64 (z21 + 1))) ∧
  ((decide (0 ≤ opMu g ((w64 (z21 + 1))))) = true ∧
  (decide (opMu g ((w64 (z21 + 1))) < opMu g z21)) = true)))))))))))))))) ∧
 ((decide (z21 < (g.length : Int))) = false →
 True)))))) ∧
(True →
(True ∧
∀ z22 : List V3,
(z22 = hofL g h →
∀ z24 : Int,
(z24 = hkE g h →
(((!(decide (z24 = 0))) = true →
 (false, ()) = (true, ())) ∧
((!(decide (z24 = 0))) = false →
(inInv z22 h 0 false ∧
∀ z27 : Int,
((decide ((-9223372036854775808) ≤ z27)) = true →
((decide (z27 ≤ 9223372036854775807)) = true →
∀ z30 : Bool,
(inInv z22 h z27 z30 →
(((decide (z27 < (z22.length : Int))) = true →
 (inB z22 z27 ∧
 ((z30 = true →
  (inInv z22 h ((w64 (z27 + 1))) true ∧
  ((decide (0 ≤ lnV z22 ((w64 (z27 + 1))))) = true ∧
  (decide (lnV z22 ((w64 (z27 + 1))) < lnV z22 z27)) = true))) ∧
 (z30 = false →
 (inInv z22 h ((w64 (z27 + 1))) (((decide (((z22.getD (z27).toNat (V3.mk 0 0 0))).x = (w64 (0 - h.x)))) && ((decide (((z22.getD (z27).toNat (V3.mk 0 0 0))).y = (w64 (0 - h.y)))) && ((decide (((z22.getD (z27).toNat (V3.mk 0 0 0))).z = (w64 (0 - h.z)))) && true)))) ∧
 ((decide (0 ≤ lnV z22 ((w64 (z27 + 1))))) = true ∧
 (decide (lnV z22 ((w64 (z27 + 1))) < lnV z22 z27)) = true)))))) ∧
((decide (z27 < (z22.length : Int))) = false →
(((z15 == z30) = true →
 ((z15 = true →
  (((decide (0 ≤ z13)) = true →
   ((decide (z13 < 24)), ()) = (true, ())) ∧
  ((decide (0 ≤ z13)) = false →
  (false, ()) = (true, ())))) ∧
 (z15 = false →
 (((decide (z13 = 0)) = true →
  (((decide (0 ≤ z13)) = true →
   ((decide (z13 < 24)), ()) = (true, ())) ∧
  ((decide (0 ≤ z13)) = false →
  (false, ()) = (true, ())))) ∧
 ((decide (z13 = 0)) = false →
 (false, ()) = (true, ())))))) ∧
((z15 == z30) = false →
(false, ()) = (true, ()))))))))))))))))))))))))))))))))))
theorem r_AbsentSees (x : HL C_AbsentSees.args) : runs (env0 [(10, C_awake14.hid), (11, C_aIs.hid), (13, C_aWhy.hid), (15, C_aCentric.hid), (26, C_hTurned.hid), (27, C_hPhase.hid), (28, C_hOf.hid)] [(8, 11, { fix := [(.tmp 86, .list .op), (.cell 3, .agg .vec)], vars := [(.tmp 88, .int .i64)], inv := fun y v => fsA y.1 y.2.1 v.1, mu := fun y v => opMu y.1 v.1 }), (8, 28, { fix := [(.tmp 139, .list .vec), (.cell 3, .agg .vec)], vars := [(.tmp 141, .int .i64), (.tmp 19, .bool)], inv := fun y v => inInv y.1 y.2.1 v.1 v.2.1, mu := fun y v => lnV y.1 v.1 })] [(8, 10, { fix := [], vars := [], inv := fun y v => True, mu := fun y v => 0 }), (8, 17, { fix := [], vars := [], inv := fun y v => True, mu := fun y v => 0 }), (8, 23, { fix := [], vars := [], inv := fun y v => True, mu := fun y v => 0 })]) 400 8 C_AbsentSees x = T_AbsentSees x.1 x.2.1 := by kernel_rfl
theorem p_AbsentSees (g : List Op3) (h : V3) (h0 : (Sh.list .op).okA g) (h1 : (Sh.agg .vec).okA h) : T_AbsentSees g h := by
  have hgb : g.length * 96 ≤ room := h0.2
  unfold T_AbsentSees
  refine ⟨trivial, fun z hz => ⟨fun q => absurd (hz ▸ q) (by decide), fun _ => ⟨trivial, fun o ho e he => ⟨trivial, fun b hb f hf => ⟨trivial, fun n hn c hc d hd => ⟨fun q => ?_, fun q => ?_⟩⟩⟩⟩⟩⟩
  · have hne : hkE g h ≠ 0 := by rw [show hkE g h = f from hf.symm]; simpa using q
    have e1 : e = f := by rw [he, hf]; unfold wyE isE; rw [if_neg hne]
    have e2 : d = f := by rw [hd, hf]
    have e3 : b = false := by rw [hb]; unfold isB; rw [if_neg hne]
    have e4 : c = false := by rw [hc]; unfold ceB; rw [if_neg hne]
    have e5 : n = 0 := by rw [hn]; unfold ceI; rw [if_neg (fun t => hne t.1)]
    have e6 : o = zerO := by
      rw [ho]; unfold wyO; rw [if_neg]
      unfold wyE; rw [if_neg hne]; exact hne
    rw [e1, e2, e3, e4, e5, e6]
    refine ⟨fun _ => ⟨fun _ => ⟨fun _ => ⟨fun _ => ⟨fun _ => by decide, fun t => absurd t (by decide)⟩, fun t => absurd t (by decide)⟩, fun t => absurd t (by decide)⟩, fun t => absurd t (by simp)⟩, fun t => absurd t (by simp)⟩
  have hz0 : hkE g h = 0 := by rw [show hkE g h = f from hf.symm]; simpa using q
  have hP := hk_P hz0
  have hch := (hk_zero hz0).2
  have eb : b = whyB g h := by rw [hb]; unfold isB; rw [if_pos hz0]
  have ee : e = if whyB g h = true then 0 else 9 := by rw [he]; unfold wyE; rw [if_pos hz0]
  have ed : d = 0 := by rw [hd]; exact hz0
  have ec : c = decide (0 ≤ cenJ g h) := by rw [hc]; unfold ceB; rw [if_pos hz0]
  have eo : whyB g h = true → o = g.getD (whyI g h).toNat zerO := fun hw => by
    rw [ho]; unfold wyO wyE; rw [if_pos hz0, if_pos hw, if_pos rfl]; unfold whyO; rw [if_pos (of_decide_eq_true hw)]
  refine ⟨⟨fun t => absurd t (by rw [ed]; decide), fun _ => ⟨fun t => absurd t ?_, fun _ => ⟨fun t => ⟨fun u => absurd u ?_, fun _ => trivial⟩, fun _ => trivial⟩⟩⟩, fun _ => ⟨⟨fs_init _ _, fun i _ _ hI => ⟨fun hi => ?_, fun _ => trivial⟩⟩, fun _ => ⟨trivial, fun l hl k hk => ⟨fun t => absurd t (by rw [hk, hz0]; decide), fun _ => ⟨in_init l h, fun i _ _ x hI => ⟨fun hi => ?_, fun hi => ?_⟩⟩⟩⟩⟩⟩
  · rw [eb, ee]; cases whyB g h <;> decide
  · rw [ee] at t ⊢; clear u; revert t; cases whyB g h <;> decide
  · have hi := of_decide_eq_true hi
    have i0 := hI.1
    obtain ⟨e1, e2, e3⟩ := opMu_next hgb i0 hi
    have hgm := getD_mem i0 hi zerO
    obtain ⟨t1, t2, t3⟩ := ht_P hP hgm
    refine ⟨⟨i0, hi⟩, trivial, fun v hv e5 he5 => ⟨trivial, fun w hw e6 he6 => ⟨⟨fun t => absurd t (by rw [he5, t1]; decide), fun _ => ⟨fun t => absurd t (by rw [he6, t1]; decide), fun _ => trivial⟩⟩, fun _ => ?_⟩⟩⟩
    rw [eqVc, eqOc', hv, hw, t2, t3]
    have nx : absB (g.getD i.toNat zerO) h = false → (b = true → decide (g.getD i.toNat zerO = o) = true → (false, ()) = (true, ())) ∧ (fsA g h (w64 (i + 1)) ∧ (decide (0 ≤ opMu g (w64 (i + 1))) = true ∧ decide (opMu g (w64 (i + 1)) < opMu g i) = true)) := fun hf => by
      refine ⟨fun hb1 hm => ?_, by rw [e1]; exact fs_next hI hi (d := zerO) hf, e2, e3⟩
      rw [eb] at hb1
      have := why_at hb1
      rw [← eo hb1, ← of_decide_eq_true hm, hf] at this
      cases this
    refine ⟨fun c1 => ⟨fun c2 => ?_, fun c2 => ?_⟩, fun c1 => ?_⟩
    · have hit : absB (g.getD i.toNat zerO) h = true := by unfold absB; rw [c1]; exact c2
      have hwi : whyI g h = i := fs_hit hI hi (d := zerO) hit
      have hwb : whyB g h = true := decide_eq_true (by rw [hwi]; exact i0)
      refine ⟨fun t => absurd t (by rw [eb, hwb]; decide), fun _ => ⟨fun t => absurd t (by rw [eo hwb, hwi]; simp), fun _ => trivial⟩⟩
    · obtain ⟨n1, n2⟩ := nx (by unfold absB; rw [c1]; exact c2)
      exact ⟨fun hb1 => ⟨n1 hb1, fun _ => n2⟩, fun _ => n2⟩
    · obtain ⟨n1, n2⟩ := nx (by unfold absB; rw [c1]; rfl)
      exact ⟨fun hb1 => ⟨n1 hb1, fun _ => n2⟩, fun _ => n2⟩
  · have hi := of_decide_eq_true hi
    have i0 := hI.1
    have hll : (l.length : Int) ≤ 192 := by rw [hl]; exact hof_len g h
    have e1 : w64 (i + 1) = i + 1 := w64_id (by omega) (by omega)
    have m1 : decide (0 ≤ lnV l (w64 (i + 1))) = true := decide_eq_true (by unfold lnV; omega)
    have m2 : decide (lnV l (w64 (i + 1)) < lnV l i) = true := decide_eq_true (by unfold lnV; omega)
    have hng : V3.mk (w64 (0 - h.x)) (w64 (0 - h.y)) (w64 (0 - h.z)) = ngV h := by simp only [ngV, wV, negV, Int.zero_sub]
    rw [show ((decide ((l.getD i.toNat (V3.mk 0 0 0)).x = (w64 (0 - h.x)))) && ((decide ((l.getD i.toNat (V3.mk 0 0 0)).y = (w64 (0 - h.y)))) && ((decide ((l.getD i.toNat (V3.mk 0 0 0)).z = (w64 (0 - h.z)))) && true))) = decide (l.getD i.toNat (V3.mk 0 0 0) = V3.mk (w64 (0 - h.x)) (w64 (0 - h.y)) (w64 (0 - h.z))) from eqVc _ (V3.mk (w64 (0 - h.x)) (w64 (0 - h.y)) (w64 (0 - h.z))), hng]
    have nx := in_next hI hi
    rw [e1] at m1 m2 ⊢
    exact ⟨⟨i0, hi⟩, fun t => ⟨by rw [t] at nx; exact nx, m1, m2⟩, fun t => ⟨by rw [t] at nx; exact nx, m1, m2⟩⟩
  · have hx : x = c := by rw [in_end hI (of_decide_eq_false hi), ec, hl]; exact cen_in hz0
    obtain ⟨n1, n2, n3⟩ := ce_rng g h
    rw [← hn, ← hc] at *
    rw [hx]
    refine ⟨fun _ => ⟨fun t => ⟨fun _ => by rw [decide_eq_true n2], fun u => absurd n1 (of_decide_eq_false u)⟩, fun t => ⟨fun u => ⟨fun _ => by rw [decide_eq_true n2], fun u => absurd n1 (of_decide_eq_false u)⟩, fun u => absurd (n3 t) (of_decide_eq_false u)⟩⟩, fun t => absurd t (by cases c <;> decide)⟩
theorem s_AbsentSees : Sound Try.prog 8 C_AbsentSees :=
  sound_of_eq (env0_ok (.cons s_awake14.hid (.cons s_aIs.hid (.cons s_aWhy.hid (.cons s_aCentric.hid (.cons s_hTurned.hid (.cons s_hPhase.hid (.cons s_hOf.hid (.nil))))))))) (fun x => T_AbsentSees x.1 x.2.1) r_AbsentSees fun x ok hp => p_AbsentSees x.1 x.2.1 ok.1 ok.2.1
end Go.Fx
