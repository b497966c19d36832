/-
  Contracts: aone, acheck, awhy, aIs, aCentric, aWhy.
-/
import Derived.Test.YthoicknhjjlnjaaGreatK8
namespace Go.Fx
open Go Go.Proofs
set_option maxRecDepth 100000
set_option linter.unusedVariables false
set_option linter.unusedSimpArgs false
set_option linter.unusedSectionVars false
noncomputable def C_aone : Contract := { args := [], res := [.agg .op], pre := fun _ => True, F := fun x => ((oneO : Op3), ()) }
def T_aone  : Prop :=
  ((Op3.mk (M3.mk 1 0 0 0 1 0 0 0 1) (V3.mk 0 0 0)), ()) = (oneO, ())
theorem r_aone (x : HL C_aone.args) : runs (env0 [] [] []) 400 47 C_aone x = T_aone  := by kernel_rfl
theorem p_aone   : T_aone  := by
  rfl
theorem s_aone : Sound Tryz.prog 47 C_aone :=
  sound_of_eq (env0_ok (.nil)) (fun x => T_aone ) r_aone fun x ok hp => p_aone  
noncomputable def C_acheck : Contract := { args := [.list .op, .list .vec], res := [.int .i64], pre := fun _ => True, F := fun x => ((abE x.1 x.2.1 : Int), ()) }
def T_acheck (g : List Op3) (l : List V3) : Prop :=
  (alInv l 0 ∧
∀ z2 : Int,
((decide ((-9223372036854775808) ≤ z2)) = true →
((decide (z2 ≤ 9223372036854775807)) = true →
(alInv l z2 →
(((decide (z2 < (l.length : Int))) = true →
 (inB l z2 ∧
 (True ∧
 (True ∧
 (((!(decide (htE oneO ((l.getD (z2).toNat (V3.mk 0 0 0))) = 0))) = true →
  (htE oneO ((l.getD (z2).toNat (V3.mk 0 0 0))), ()) = (abE g l, ())) ∧
 ((!(decide (htE oneO ((l.getD (z2).toNat (V3.mk 0 0 0))) = 0))) = false →
 (alInv l ((w64 (z2 + 1))) ∧
 ((decide (0 ≤ lnV l ((w64 (z2 + 1))))) = true ∧
 (decide (lnV l ((w64 (z2 + 1))) < lnV l z2)) = true)))))))) ∧
((decide (z2 < (l.length : Int))) = false →
(((decide (4096 < (l.length : Int))) = true →
 (2, ()) = (abE g l, ())) ∧
((decide (4096 < (l.length : Int))) = false →
(True ∧
∀ z8 : Int,
(z8 = chkE g →
(z8, ()) = (abE g l, ())))))))))))
theorem r_acheck (x : HL C_acheck.args) : runs (env0 [(47, C_aone), (12, C_hPhase.hid), (41, C_gCheck.hid)] [(25, 2, { fix := [(.tmp 9, .list .vec)], vars := [(.tmp 11, .int .i64)], inv := fun y v => alInv y.1 v.1, mu := fun y v => lnV y.1 v.1 })] []) 400 25 C_acheck x = T_acheck x.1 x.2.1 := by kernel_rfl
theorem p_acheck (g : List Op3) (l : List V3) (h0 : (Sh.list .op).okA g) (h1 : (Sh.list .vec).okA l) : T_acheck g l := by
  have hb : l.length * 24 ≤ 140737488355328 := h1.2
  refine ⟨⟨by omega, by omega, fun h hh => by cases hh⟩, fun i _ _ hI => ⟨fun hi => ?_, fun hi => ?_⟩⟩
  · have hi := of_decide_eq_true hi
    have i0 := hI.1
    have e1 : w64 (i + 1) = i + 1 := w64_id (by omega) (by omega)
    have ho : ∀ v : V3, htE oneO v = if okH v = true then 0 else 1 := fun v => by unfold htE; rw [errO_ok.2 oneO_frm]
    rw [e1, ho]
    refine ⟨⟨i0, hi⟩, trivial, trivial, fun q => ?_, fun q => ?_⟩
    · have hk : okH (l.getD i.toNat (V3.mk 0 0 0)) = false := by
        cases hk : okH (l.getD i.toNat (V3.mk 0 0 0)) with
        | false => rfl
        | true => rw [hk] at q; cases q
      rw [hk, al_bad i0 hi hk]; rfl
    · have hk : okH (l.getD i.toNat (V3.mk 0 0 0)) = true := by
        cases hk : okH (l.getD i.toNat (V3.mk 0 0 0)) with
        | true => rfl
        | false => rw [hk] at q; cases q
      exact ⟨al_next hI hi hk, decide_eq_true (by unfold lnV; omega), decide_eq_true (by unfold lnV; omega)⟩
  · rw [al_end hI (of_decide_eq_false hi)]
    refine ⟨fun q => by rw [if_pos (of_decide_eq_true q)], fun q => ⟨trivial, fun e he => by rw [if_neg (of_decide_eq_false q), he]⟩⟩
theorem s_acheck : Sound Tryz.prog 25 C_acheck :=
  sound_of_eq (env0_ok (.cons s_aone (.cons s_hPhase.hid (.cons s_gCheck.hid (.nil))))) (fun x => T_acheck x.1 x.2.1) r_acheck fun x ok hp => p_acheck x.1 x.2.1 ok.1 ok.2.1
noncomputable def C_awhy : Contract := { args := [.list .op, .agg .vec], res := [.agg .op, .bool], pre := fun x => absP x.1 x.2.1, F := fun x => ((whyO x.1 x.2.1 : Op3), (whyB x.1 x.2.1 : Bool), ()) }
def T_awhy (g : List Op3) (h : V3) : Prop :=
  (fsA g h 0 ∧
∀ z2 : Int,
((decide ((-9223372036854775808) ≤ z2)) = true →
((decide (z2 ≤ 9223372036854775807)) = true →
(fsA g h z2 →
(((decide (z2 < (g.length : Int))) = true →
 (inB g z2 ∧
 (True ∧
 ∀ z7 : V3,
 (z7 = htV (((g.getD (z2).toNat zerO))) h →
 ∀ z9 : Int,
 (z9 = htE (((g.getD (z2).toNat zerO))) h →
 (True ∧
 ∀ z11 : Int,
 (z11 = hpI (((g.getD (z2).toNat zerO))) h →
 ∀ z13 : Int,
 (z13 = htE (((g.getD (z2).toNat zerO))) h →
 ((((decide (z7.x = h.x)) && ((decide (z7.y = h.y)) && ((decide (z7.z = h.z)) && true))) = true →
  (((!(decide (z11 = 0))) = true →
   (((g.getD (z2).toNat zerO)), (true, ())) = (whyO g h, (whyB g h, ()))) ∧
  ((!(decide (z11 = 0))) = false →
  (fsA g h ((w64 (z2 + 1))) ∧
  ((decide (0 ≤ opMu g ((w64 (z2 + 1))))) = true ∧
  (decide (opMu g ((w64 (z2 + 1))) < opMu g z2)) = true))))) ∧
 (((decide (z7.x = h.x)) && ((decide (z7.y = h.y)) && ((decide (z7.z = h.z)) && true))) = false →
 (fsA g h ((w64 (z2 + 1))) ∧
 ((decide (0 ≤ opMu g ((w64 (z2 + 1))))) = true ∧
 (decide (opMu g ((w64 (z2 + 1))) < opMu g z2)) = true)))))))))))) ∧
((decide (z2 < (g.length : Int))) = false →
(zerO, (false, ())) = (whyO g h, (whyB g h, ()))))))))
theorem r_awhy (x : HL C_awhy.args) : runs (env0 [(13, C_hTurned.hid), (12, C_hPhase.hid)] [(32, 2, { fix := [(.tmp 17, .list .op), (.cell 5, .agg .vec)], vars := [(.tmp 19, .int .i64)], inv := fun y v => fsA y.1 y.2.1 v.1, mu := fun y v => opMu y.1 v.1 })] []) 400 26 C_awhy x = T_awhy x.1 x.2.1 := by kernel_rfl
theorem p_awhy (g : List Op3) (h : V3) (h0 : (Sh.list .op).okA g) (h1 : (Sh.agg .vec).okA h) (hp : absP g h) : T_awhy g h := by
  have hb : g.length * 96 ≤ room := h0.2
  refine ⟨fs_init _ _, fun i _ _ hI => ⟨fun hi => ?_, fun hi => ?_⟩⟩
  · have hi := of_decide_eq_true hi
    have i0 := hI.1
    obtain ⟨e1, e2, e3⟩ := opMu_next hb i0 hi
    obtain ⟨t1, t2, t3⟩ := ht_P hp (getD_mem i0 hi zerO)
    have nx : absB (g.getD i.toNat zerO) h = false → fsA g h (w64 (i + 1)) ∧ (decide (0 ≤ opMu g (w64 (i + 1))) = true ∧ decide (opMu g (w64 (i + 1)) < opMu g i) = true) := fun hf => ⟨by rw [e1]; exact fs_next hI hi (d := zerO) hf, e2, e3⟩
    refine ⟨⟨i0, hi⟩, trivial, fun v hv e he => ⟨trivial, fun w hw f hf => ?_⟩⟩
    rw [eqVc, hv, hw, t2, t3]
    refine ⟨fun c1 => ⟨fun c2 => ?_, fun c2 => nx ?_⟩, fun c1 => nx ?_⟩
    · have hit : absB (g.getD i.toNat zerO) h = true := by unfold absB; rw [c1]; exact c2
      have hw : whyI g h = i := fs_hit hI hi (d := zerO) hit
      unfold whyO whyB
      rw [hw, if_pos i0, decide_eq_true i0]
    · unfold absB; rw [c1]; exact c2
    · unfold absB; rw [c1]; rfl
  · have hw : whyI g h = -1 := fs_miss hI (of_decide_eq_false hi)
    unfold whyO whyB
    rw [hw]; rfl
theorem s_awhy : Sound Tryz.prog 26 C_awhy :=
  sound_of_eq (env0_ok (.cons s_hTurned.hid (.cons s_hPhase.hid (.nil)))) (fun x => T_awhy x.1 x.2.1) r_awhy fun x ok hp => p_awhy x.1 x.2.1 ok.1 ok.2.1 hp
noncomputable def C_aIs : Contract := { args := [.list .op, .agg .vec], res := [.bool, .int .i64], pre := fun _ => True, F := fun x => ((isB x.1 x.2.1 : Bool), (isE x.1 x.2.1 : Int), ()) }
def T_aIs (g : List Op3) (h : V3) : Prop :=
  (True ∧
∀ z2 : Int,
(z2 = abE g [h] →
(((!(decide (z2 = 0))) = true →
 (false, (z2, ())) = (isB g h, (isE g h, ()))) ∧
((!(decide (z2 = 0))) = false →
(absP g h ∧
∀ z5 : Op3,
(z5 = whyO g h →
∀ z7 : Bool,
(z7 = whyB g h →
(z7, (0, ())) = (isB g h, (isE g h, ())))))))))
theorem r_aIs (x : HL C_aIs.args) : runs (env0 [(25, C_acheck.hid), (26, C_awhy.hid)] [] []) 400 7 C_aIs x = T_aIs x.1 x.2.1 := by kernel_rfl
theorem p_aIs (g : List Op3) (h : V3) (h0 : (Sh.list .op).okA g) (h1 : (Sh.agg .vec).okA h) : T_aIs g h := by
  unfold T_aIs isB isE
  rw [abE_one]
  refine ⟨trivial, fun e he => ⟨fun q => ?_, fun q => ?_⟩⟩
  · have hne : hkE g h ≠ 0 := by rw [← he]; simpa using q
    rw [if_neg hne, he]
  · have hz : hkE g h = 0 := by rw [← he]; simpa using q
    rw [if_pos hz, hz]
    exact ⟨hk_P hz, fun o _ b hb => by rw [hb]⟩
theorem s_aIs : Sound Tryz.prog 7 C_aIs :=
  sound_of_eq (env0_ok (.cons s_acheck.hid (.cons s_awhy.hid (.nil)))) (fun x => T_aIs x.1 x.2.1) r_aIs fun x ok hp => p_aIs x.1 x.2.1 ok.1 ok.2.1
noncomputable def C_aCentric : Contract := { args := [.list .op, .agg .vec], res := [.int .i64, .bool, .int .i64], pre := fun _ => True, F := fun x => ((ceI x.1 x.2.1 : Int), (ceB x.1 x.2.1 : Bool), (isE x.1 x.2.1 : Int), ()) }
def T_aCentric (g : List Op3) (h : V3) : Prop :=
  (True ∧
∀ z2 : Int,
(z2 = abE g [h] →
(((!(decide (z2 = 0))) = true →
 (0, (false, (z2, ()))) = (ceI g h, (ceB g h, (isE g h, ())))) ∧
((!(decide (z2 = 0))) = false →
(fsC g h 0 ∧
∀ z5 : Int,
((decide ((-9223372036854775808) ≤ z5)) = true →
((decide (z5 ≤ 9223372036854775807)) = true →
(fsC g h z5 →
(((decide (z5 < (g.length : Int))) = true →
 (inB g z5 ∧
 (True ∧
 ∀ z10 : V3,
 (z10 = htV (((g.getD (z5).toNat zerO))) h →
 ∀ z12 : Int,
 (z12 = htE (((g.getD (z5).toNat zerO))) h →
 (True ∧
 ∀ z14 : Int,
 (z14 = hpI (((g.getD (z5).toNat zerO))) h →
 ∀ z16 : Int,
 (z16 = htE (((g.getD (z5).toNat zerO))) h →
 ((((decide (z10.x = (w64 (0 - h.x)))) && ((decide (z10.y = (w64 (0 - h.y)))) && ((decide (z10.z = (w64 (0 - h.z)))) && true))) = true →
  (z14, (true, (0, ()))) = (ceI g h, (ceB g h, (isE g h, ())))) ∧
 (((decide (z10.x = (w64 (0 - h.x)))) && ((decide (z10.y = (w64 (0 - h.y)))) && ((decide (z10.z = (w64 (0 - h.z)))) && true))) = false →
 (fsC g h ((w64 (z5 + 1))) ∧
 ((decide (0 ≤ opMu g ((w64 (z5 + 1))))) = true ∧
 (decide (opMu g ((w64 (z5 + 1))) < opMu g z5)) = true)))))))))))) ∧
((decide (z5 < (g.length : Int))) = false →
(0, (false, (0, ()))) = (ceI g h, (ceB g h, (isE g h, ())))))))))))))
theorem r_aCentric (x : HL C_aCentric.args) : runs (env0 [(25, C_acheck.hid), (13, C_hTurned.hid), (12, C_hPhase.hid)] [(32, 2, { fix := [(.tmp 17, .list .op), (.cell 5, .agg .vec)], vars := [(.tmp 19, .int .i64)], inv := fun y v => fsC y.1 y.2.1 v.1, mu := fun y v => opMu y.1 v.1 })] []) 400 10 C_aCentric x = T_aCentric x.1 x.2.1 := by kernel_rfl
theorem p_aCentric (g : List Op3) (h : V3) (h0 : (Sh.list .op).okA g) (h1 : (Sh.agg .vec).okA h) : T_aCentric g h := by
  have hb : g.length * 96 ≤ room := h0.2
  unfold T_aCentric ceI ceB isE
  rw [abE_one]
  refine ⟨trivial, fun e he => ⟨fun q => ?_, fun q => ⟨fs_init _ _, fun i _ _ hI => ⟨fun hi => ?_, fun hi => ?_⟩⟩⟩⟩
  · have hne : hkE g h ≠ 0 := by rw [← he]; simpa using q
    rw [if_neg (fun c => hne c.1), if_neg hne, he]
  · have hz : hkE g h = 0 := by rw [← he]; simpa using q
    have hi := of_decide_eq_true hi
    have i0 := hI.1
    obtain ⟨e1, e2, e3⟩ := opMu_next hb i0 hi
    obtain ⟨t1, t2, t3⟩ := ht_P (hk_P hz) (getD_mem i0 hi zerO)
    have hng : V3.mk (w64 (0 - h.x)) (w64 (0 - h.y)) (w64 (0 - h.z)) = ngV h := by simp only [ngV, wV, negV, Int.zero_sub]
    refine ⟨⟨i0, hi⟩, trivial, fun v hv e he => ⟨trivial, fun w hw f hf => ?_⟩⟩
    have ec : ((decide (v.x = (w64 (0 - h.x)))) && ((decide (v.y = (w64 (0 - h.y)))) && ((decide (v.z = (w64 (0 - h.z)))) && true))) = cenB (g.getD i.toNat zerO) h := by
      rw [show ((decide (v.x = (w64 (0 - h.x)))) && ((decide (v.y = (w64 (0 - h.y)))) && ((decide (v.z = (w64 (0 - h.z)))) && true))) = decide (v = V3.mk (w64 (0 - h.x)) (w64 (0 - h.y)) (w64 (0 - h.z))) from eqVc v (V3.mk (w64 (0 - h.x)) (w64 (0 - h.y)) (w64 (0 - h.z))), hng, hv, t2]; rfl
    rw [ec]
    refine ⟨fun c => ?_, fun c => ⟨by rw [e1]; exact fs_next hI hi (d := zerO) c, e2, e3⟩⟩
    have hw' : cenJ g h = i := fs_hit hI hi (d := zerO) c
    rw [if_pos hz, if_pos ⟨hz, by rw [hw']; exact i0⟩, hz, hw', decide_eq_true i0, hw, t3]
  · have hz : hkE g h = 0 := by rw [← he]; simpa using q
    have hw : cenJ g h = -1 := fs_miss hI (of_decide_eq_false hi)
    rw [if_pos hz, hw, hz]; rfl
theorem s_aCentric : Sound Tryz.prog 10 C_aCentric :=
  sound_of_eq (env0_ok (.cons s_acheck.hid (.cons s_hTurned.hid (.cons s_hPhase.hid (.nil))))) (fun x => T_aCentric x.1 x.2.1) r_aCentric fun x ok hp => p_aCentric x.1 x.2.1 ok.1 ok.2.1
noncomputable def C_aWhy : Contract := { args := [.list .op, .agg .vec], res := [.agg .op, .int .i64], pre := fun _ => True, F := fun x => ((wyO x.1 x.2.1 : Op3), (wyE x.1 x.2.1 : Int), ()) }
def T_aWhy (g : List Op3) (h : V3) : Prop :=
  (True ∧
∀ z2 : Int,
(z2 = abE g [h] →
(((!(decide (z2 = 0))) = true →
 (zerO, (z2, ())) = (wyO g h, (wyE g h, ()))) ∧
((!(decide (z2 = 0))) = false →
(absP g h ∧
∀ z5 : Op3,
(z5 = whyO g h →
∀ z7 : Bool,
(z7 = whyB g h →
(((!z7) = true →
 (zerO, (9, ())) = (wyO g h, (wyE g h, ()))) ∧
((!z7) = false →
(z5, (0, ())) = (wyO g h, (wyE g h, ())))))))))))
theorem r_aWhy (x : HL C_aWhy.args) : runs (env0 [(25, C_acheck.hid), (26, C_awhy.hid)] [] []) 400 16 C_aWhy x = T_aWhy x.1 x.2.1 := by kernel_rfl
theorem p_aWhy (g : List Op3) (h : V3) (h0 : (Sh.list .op).okA g) (h1 : (Sh.agg .vec).okA h) : T_aWhy g h := by
  unfold T_aWhy wyO wyE
  rw [abE_one]
  refine ⟨trivial, fun e he => ⟨fun q => ?_, fun q => ?_⟩⟩
  · have hne : hkE g h ≠ 0 := by rw [← he]; simpa using q
    rw [if_neg hne, if_neg hne, he]
  · have hz : hkE g h = 0 := by rw [← he]; simpa using q
    rw [if_pos hz]
    refine ⟨hk_P hz, fun o ho b hb' => ⟨fun c => ?_, fun c => ?_⟩⟩
    · have : whyB g h = false := by rw [← hb']; simpa using c
      rw [this]; rfl
    · have : whyB g h = true := by rw [← hb']; simpa using c
      rw [this, ho]; rfl
theorem s_aWhy : Sound Tryz.prog 16 C_aWhy :=
  sound_of_eq (env0_ok (.cons s_acheck.hid (.cons s_awhy.hid (.nil)))) (fun x => T_aWhy x.1 x.2.1) r_aWhy fun x ok hp => p_aWhy x.1 x.2.1 ok.1 ok.2.1
end Go.Fx
