/-
  Contracts: f2Mod, f2Bring, f2Compare, r5One, r5Det, r5Within, r5CompareMat, r5Compare, r5Mul, r5Place.
-/
import Derived.Test.YtcadkndjcneedaaGreatK11
namespace Go.Fx
open Go Go.Proofs
set_option maxRecDepth 100000
set_option linter.unusedVariables false
set_option linter.unusedSimpArgs false
set_option linter.unusedSectionVars false
noncomputable def C_f2Mod : Contract := { args := [.int .i64, .int .i64], res := [.int .i64], pre := fun x => inM x.2.1, F := fun x => ((emo x.1 x.2.1 : Int), ()) }
def T_f2Mod (n : Int) (m : Int) : Prop :=
  ((m ≠ 0) ∧
(((decide ((Int.tmod n m) < 0)) = true →
 ((w64 (((Int.tmod n m) + m))), ()) = (emo n m, ())) ∧
((decide ((Int.tmod n m) < 0)) = false →
((Int.tmod n m), ()) = (emo n m, ()))))
theorem r_f2Mod (x : HL C_f2Mod.args) : runs (env0 [] [] []) 400 92 C_f2Mod x = T_f2Mod x.1 x.2.1 := by kernel_rfl
theorem p_f2Mod (n : Int) (m : Int) (h0 : (Sh.int .i64).okA n) (h1 : (Sh.int .i64).okA m) (hp : inM m) : T_f2Mod n m := by
  obtain ⟨e1, e2, e3⟩ := fmod_eq (n := n) hp
  obtain ⟨m1, m2⟩ := hp
  have hb : (n.tmod m).natAbs < m.natAbs := by rw [Int.natAbs_tmod]; exact Nat.mod_lt _ (by omega)
  unfold T_f2Mod emo
  rw [← e2, e1]
  generalize Int.tmod n m = t at hb
  rw [Int.tmod_eq_emod_of_nonneg (show 0 ≤ t + m by omega), Int.add_emod_right]
  refine ⟨e3, fun h => ?_, fun h => ?_⟩
  · have h := of_decide_eq_true h
    rw [← Int.add_emod_right, Int.emod_eq_of_lt (by omega) (by omega)]
  · have h := of_decide_eq_false h
    rw [Int.emod_eq_of_lt (by omega) (by omega)]
theorem s_f2Mod : Sound Tryz.prog 92 C_f2Mod :=
  sound_of_eq (env0_ok (.nil)) (fun x => T_f2Mod x.1 x.2.1) r_f2Mod fun x ok hp => p_f2Mod x.1 x.2.1 ok.1 ok.2.1 hp
noncomputable def C_f2Bring : Contract := { args := [.agg .vec, .int .i64], res := [.agg .vec], pre := fun x => inM x.2.1, F := fun x => ((modV x.2.1 x.1 : V3), ()) }
def T_f2Bring (v : V3) (m : Int) : Prop :=
  (inM m ∧
(inM m ∧
(inM m ∧
((V3.mk (emo v.x m) (emo v.y m) (emo v.z m)), ()) = (modV m v, ()))))
theorem r_f2Bring (x : HL C_f2Bring.args) : runs (env0 [(92, C_f2Mod)] [] []) 400 89 C_f2Bring x = T_f2Bring x.1 x.2.1 := by kernel_rfl
theorem p_f2Bring (v : V3) (m : Int) (h0 : (Sh.agg .vec).okA v) (h1 : (Sh.int .i64).okA m) (hp : inM m) : T_f2Bring v m := by
  exact ⟨hp, hp, hp, rfl⟩
theorem s_f2Bring : Sound Tryz.prog 89 C_f2Bring :=
  sound_of_eq (env0_ok (.cons s_f2Mod (.nil))) (fun x => T_f2Bring x.1 x.2.1) r_f2Bring fun x ok hp => p_f2Bring x.1 x.2.1 ok.1 ok.2.1 hp
noncomputable def C_f2Compare : Contract := { args := [.agg .vec, .agg .vec], res := [.int .i64], pre := fun _ => True, F := fun x => ((cmpV x.1 x.2.1 : Int), ()) }
def T_f2Compare (a : V3) (b : V3) : Prop :=
  (((decide (a.x < b.x)) = true →
 ((-1), ()) = (cmpV a b, ())) ∧
((decide (a.x < b.x)) = false →
(((decide (b.x < a.x)) = true →
 (1, ()) = (cmpV a b, ())) ∧
((decide (b.x < a.x)) = false →
(((decide (a.y < b.y)) = true →
 ((-1), ()) = (cmpV a b, ())) ∧
((decide (a.y < b.y)) = false →
(((decide (b.y < a.y)) = true →
 (1, ()) = (cmpV a b, ())) ∧
((decide (b.y < a.y)) = false →
(((decide (a.z < b.z)) = true →
 ((-1), ()) = (cmpV a b, ())) ∧
((decide (a.z < b.z)) = false →
(((decide (b.z < a.z)) = true →
 (1, ()) = (cmpV a b, ())) ∧
((decide (b.z < a.z)) = false →
(0, ()) = (cmpV a b, ())))))))))))))
theorem r_f2Compare (x : HL C_f2Compare.args) : runs (env0 [] [] []) 400 91 C_f2Compare x = T_f2Compare x.1 x.2.1 := by kernel_rfl
theorem p_f2Compare (a : V3) (b : V3) (h0 : (Sh.agg .vec).okA a) (h1 : (Sh.agg .vec).okA b) : T_f2Compare a b := by
  simp only [T_f2Compare, decide_eq_true_eq, decide_eq_false_iff_not]
  repeat' (first | apply And.intro | intro _ | exact trivial)
  all_goals simp [cmpV, cmpE, *]
theorem s_f2Compare : Sound Tryz.prog 91 C_f2Compare :=
  sound_of_eq (env0_ok (.nil)) (fun x => T_f2Compare x.1 x.2.1) r_f2Compare fun x ok hp => p_f2Compare x.1 x.2.1 ok.1 ok.2.1
noncomputable def C_r5One : Contract := { args := [], res := [.agg .op], pre := fun _ => True, F := fun x => ((oneO : Op3), ()) }
def T_r5One  : Prop :=
  ((Op3.mk (M3.mk 1 0 0 0 1 0 0 0 1) (V3.mk 0 0 0)), ()) = (oneO, ())
theorem r_r5One (x : HL C_r5One.args) : runs (env0 [] [] []) 400 65 C_r5One x = T_r5One  := by kernel_rfl
theorem p_r5One   : T_r5One  := by
  rfl
theorem s_r5One : Sound Tryz.prog 65 C_r5One :=
  sound_of_eq (env0_ok (.nil)) (fun x => T_r5One ) r_r5One fun x ok hp => p_r5One  
noncomputable def C_r5Det : Contract := { args := [.agg .mat], res := [.int .i64], pre := fun _ => True, F := fun x => ((w64 (detZ x.1) : Int), ()) }
def T_r5Det (m : M3) : Prop :=
  ((w64 (((w64 (((0 + (w64 ((m.xx * (w64 (((w64 (m.yy * m.zz)) - (w64 (m.yz * m.zy))))))))) + (w64 ((m.xy * (w64 (((w64 (m.yz * m.zx)) - (w64 (m.yx * m.zz))))))))))) + (w64 ((m.xz * (w64 (((w64 (m.yx * m.zy)) - (w64 (m.yy * m.zx))))))))))), ()) = (w64 (detZ m), ())
theorem r_r5Det (x : HL C_r5Det.args) : runs (env0 [] [] []) 400 88 C_r5Det x = T_r5Det x.1 := by kernel_rfl
theorem p_r5Det (m : M3) (h0 : (Sh.agg .mat).okA m) : T_r5Det m := by
  simp only [T_r5Det, detZ, Int.zero_add, and_self, w64_add_l, w64_add_r, w64_sub_l, w64_sub_r, w64_mul_l, w64_mul_r, w64_w64]
theorem s_r5Det : Sound Tryz.prog 88 C_r5Det :=
  sound_of_eq (env0_ok (.nil)) (fun x => T_r5Det x.1) r_r5Det fun x ok hp => p_r5Det x.1 ok.1
noncomputable def C_r5Within : Contract := { args := [.agg .mat], res := [.bool], pre := fun _ => True, F := fun x => ((okM x.1 : Bool), ()) }
def T_r5Within (m : M3) : Prop :=
  (((decide (m.xx < (-1000))) = true →
 (false, ()) = (okM m, ())) ∧
((decide (m.xx < (-1000))) = false →
(((decide (1000 < m.xx)) = true →
 (false, ()) = (okM m, ())) ∧
((decide (1000 < m.xx)) = false →
(((decide (m.xy < (-1000))) = true →
 (false, ()) = (okM m, ())) ∧
((decide (m.xy < (-1000))) = false →
(((decide (1000 < m.xy)) = true →
 (false, ()) = (okM m, ())) ∧
((decide (1000 < m.xy)) = false →
(((decide (m.xz < (-1000))) = true →
 (false, ()) = (okM m, ())) ∧
((decide (m.xz < (-1000))) = false →
(((decide (1000 < m.xz)) = true →
 (false, ()) = (okM m, ())) ∧
((decide (1000 < m.xz)) = false →
(((decide (m.yx < (-1000))) = true →
 (false, ()) = (okM m, ())) ∧
((decide (m.yx < (-1000))) = false →
(((decide (1000 < m.yx)) = true →
 (false, ()) = (okM m, ())) ∧
((decide (1000 < m.yx)) = false →
(((decide (m.yy < (-1000))) = true →
 (false, ()) = (okM m, ())) ∧
((decide (m.yy < (-1000))) = false →
(((decide (1000 < m.yy)) = true →
 (false, ()) = (okM m, ())) ∧
((decide (1000 < m.yy)) = false →
(((decide (m.yz < (-1000))) = true →
 (false, ()) = (okM m, ())) ∧
((decide (m.yz < (-1000))) = false →
(((decide (1000 < m.yz)) = true →
 (false, ()) = (okM m, ())) ∧
((decide (1000 < m.yz)) = false →
(((decide (m.zx < (-1000))) = true →
 (false, ()) = (okM m, ())) ∧
((decide (m.zx < (-1000))) = false →
(((decide (1000 < m.zx)) = true →
 (false, ()) = (okM m, ())) ∧
((decide (1000 < m.zx)) = false →
(((decide (m.zy < (-1000))) = true →
 (false, ()) = (okM m, ())) ∧
((decide (m.zy < (-1000))) = false →
(((decide (1000 < m.zy)) = true →
 (false, ()) = (okM m, ())) ∧
((decide (1000 < m.zy)) = false →
(((decide (m.zz < (-1000))) = true →
 (false, ()) = (okM m, ())) ∧
((decide (m.zz < (-1000))) = false →
(((decide (1000 < m.zz)) = true →
 (false, ()) = (okM m, ())) ∧
((decide (1000 < m.zz)) = false →
(true, ()) = (okM m, ())))))))))))))))))))))))))))))))))))))
theorem r_r5Within (x : HL C_r5Within.args) : runs (env0 [] [] []) 400 87 C_r5Within x = T_r5Within x.1 := by kernel_rfl
theorem p_r5Within (m : M3) (h0 : (Sh.agg .mat).okA m) : T_r5Within m := by
  simp only [T_r5Within, decide_eq_true_eq, decide_eq_false_iff_not]
  repeat' (first | apply And.intro | intro _ | exact trivial)
  all_goals simp only [okM, inE, Prod.mk.injEq, and_true]
  all_goals first | (symm; simp only [Bool.and_eq_true, decide_eq_true_eq]; omega) | (symm; rw [Bool.eq_false_iff]; simp only [ne_eq, Bool.and_eq_true, decide_eq_true_eq]; omega)
theorem s_r5Within : Sound Tryz.prog 87 C_r5Within :=
  sound_of_eq (env0_ok (.nil)) (fun x => T_r5Within x.1) r_r5Within fun x ok hp => p_r5Within x.1 ok.1
noncomputable def C_r5CompareMat : Contract := { args := [.agg .mat, .agg .mat], res := [.int .i64], pre := fun _ => True, F := fun x => ((cmpM x.1 x.2.1 : Int), ()) }
def T_r5CompareMat (a : M3) (b : M3) : Prop :=
  (True ∧
(((!(decide (cmpV (V3.mk a.xx a.xy a.xz) (V3.mk b.xx b.xy b.xz) = 0))) = true →
 (cmpV (V3.mk a.xx a.xy a.xz) (V3.mk b.xx b.xy b.xz), ()) = (cmpM a b, ())) ∧
((!(decide (cmpV (V3.mk a.xx a.xy a.xz) (V3.mk b.xx b.xy b.xz) = 0))) = false →
(True ∧
(((!(decide (cmpV (V3.mk a.yx a.yy a.yz) (V3.mk b.yx b.yy b.yz) = 0))) = true →
 (cmpV (V3.mk a.yx a.yy a.yz) (V3.mk b.yx b.yy b.yz), ()) = (cmpM a b, ())) ∧
((!(decide (cmpV (V3.mk a.yx a.yy a.yz) (V3.mk b.yx b.yy b.yz) = 0))) = false →
(True ∧
(((!(decide (cmpV (V3.mk a.zx a.zy a.zz) (V3.mk b.zx b.zy b.zz) = 0))) = true →
 (cmpV (V3.mk a.zx a.zy a.zz) (V3.mk b.zx b.zy b.zz), ()) = (cmpM a b, ())) ∧
((!(decide (cmpV (V3.mk a.zx a.zy a.zz) (V3.mk b.zx b.zy b.zz) = 0))) = false →
(0, ()) = (cmpM a b, ()))))))))))
theorem r_r5CompareMat (x : HL C_r5CompareMat.args) : runs (env0 [(91, C_f2Compare)] [] []) 400 90 C_r5CompareMat x = T_r5CompareMat x.1 x.2.1 := by kernel_rfl
theorem p_r5CompareMat (a : M3) (b : M3) (h0 : (Sh.agg .mat).okA a) (h1 : (Sh.agg .mat).okA b) : T_r5CompareMat a b := by
  unfold T_r5CompareMat
  rw [cmpM_rows]
  refine ⟨trivial, fun h => ?_, fun h => ⟨trivial, fun h2 => ?_, fun h2 => ⟨trivial, fun h3 => ?_, fun h3 => ?_⟩⟩⟩
  all_goals simp only [Bool.not_eq_true', Bool.not_eq_false', decide_eq_true_eq, decide_eq_false_iff_not] at *
  · rw [if_neg h]
  · rw [if_pos h, if_neg h2]
  · rw [if_pos h, if_pos h2]
  · rw [if_pos h, if_pos h2, h3]
theorem s_r5CompareMat : Sound Tryz.prog 90 C_r5CompareMat :=
  sound_of_eq (env0_ok (.cons s_f2Compare (.nil))) (fun x => T_r5CompareMat x.1 x.2.1) r_r5CompareMat fun x ok hp => p_r5CompareMat x.1 x.2.1 ok.1 ok.2.1
noncomputable def C_r5Compare : Contract := { args := [.agg .op, .agg .op], res := [.int .i64], pre := fun _ => True, F := fun x => ((cmpO x.1 x.2.1 : Int), ()) }
def T_r5Compare (a : Op3) (b : Op3) : Prop :=
  (True ∧
(((!(decide (cmpM a.R b.R = 0))) = true →
 (cmpM a.R b.R, ()) = (cmpO a b, ())) ∧
((!(decide (cmpM a.R b.R = 0))) = false →
(True ∧
(cmpV a.T b.T, ()) = (cmpO a b, ())))))
theorem r_r5Compare (x : HL C_r5Compare.args) : runs (env0 [(90, C_r5CompareMat), (91, C_f2Compare)] [] []) 400 63 C_r5Compare x = T_r5Compare x.1 x.2.1 := by kernel_rfl
theorem p_r5Compare (a : Op3) (b : Op3) (h0 : (Sh.agg .op).okA a) (h1 : (Sh.agg .op).okA b) : T_r5Compare a b := by
  by_cases h : cmpM a.R b.R = 0 <;> simp [T_r5Compare, cmpO, h]
theorem s_r5Compare : Sound Tryz.prog 63 C_r5Compare :=
  sound_of_eq (env0_ok (.cons s_r5CompareMat (.cons s_f2Compare (.nil)))) (fun x => T_r5Compare x.1 x.2.1) r_r5Compare fun x ok hp => p_r5Compare x.1 x.2.1 ok.1 ok.2.1
noncomputable def C_r5Mul : Contract := { args := [.agg .op, .agg .op], res := [.agg .op], pre := fun x => mulPre x.1 x.2.1, F := fun x => ((mulO x.1 x.2.1 : Op3), ()) }
def T_r5Mul (a : Op3) (b : Op3) : Prop :=
  (inM 24 ∧
(inM 24 ∧
(inM 24 ∧
((Op3.mk ((M3.mk ((w64 (((w64 (((0 + (w64 (a.R.xx * b.R.xx))) + (w64 (a.R.xy * b.R.yx))))) + (w64 (a.R.xz * b.R.zx)))))) ((w64 (((w64 (((0 + (w64 (a.R.xx * b.R.xy))) + (w64 (a.R.xy * b.R.yy))))) + (w64 (a.R.xz * b.R.zy)))))) ((w64 (((w64 (((0 + (w64 (a.R.xx * b.R.xz))) + (w64 (a.R.xy * b.R.yz))))) + (w64 (a.R.xz * b.R.zz)))))) ((w64 (((w64 (((0 + (w64 (a.R.yx * b.R.xx))) + (w64 (a.R.yy * b.R.yx))))) + (w64 (a.R.yz * b.R.zx)))))) ((w64 (((w64 (((0 + (w64 (a.R.yx * b.R.xy))) + (w64 (a.R.yy * b.R.yy))))) + (w64 (a.R.yz * b.R.zy)))))) ((w64 (((w64 (((0 + (w64 (a.R.yx * b.R.xz))) + (w64 (a.R.yy * b.R.yz))))) + (w64 (a.R.yz * b.R.zz)))))) ((w64 (((w64 (((0 + (w64 (a.R.zx * b.R.xx))) + (w64 (a.R.zy * b.R.yx))))) + (w64 (a.R.zz * b.R.zx)))))) ((w64 (((w64 (((0 + (w64 (a.R.zx * b.R.xy))) + (w64 (a.R.zy * b.R.yy))))) + (w64 (a.R.zz * b.R.zy)))))) ((w64 (((w64 (((0 + (w64 (a.R.zx * b.R.xz))) + (w64 (a.R.zy * b.R.yz))))) + (w64 (a.R.zz * b.R.zz)))))))) ((V3.mk (emo ((w64 (((w64 (((w64 ((a.T.x + (w64 (a.R.xx * b.T.x))))) + (w64 (a.R.xy * b.T.y))))) + (w64 (a.R.xz * b.T.z)))))) 24) (emo ((w64 (((w64 (((w64 ((a.T.y + (w64 (a.R.yx * b.T.x))))) + (w64 (a.R.yy * b.T.y))))) + (w64 (a.R.yz * b.T.z)))))) 24) (emo ((w64 (((w64 (((w64 ((a.T.z + (w64 (a.R.zx * b.T.x))))) + (w64 (a.R.zy * b.T.y))))) + (w64 (a.R.zz * b.T.z)))))) 24)))), ()) = (mulO a b, ()))))
theorem r_r5Mul (x : HL C_r5Mul.args) : runs (env0 [(92, C_f2Mod)] [] []) 400 66 C_r5Mul x = T_r5Mul x.1 x.2.1 := by kernel_rfl
theorem p_r5Mul (a : Op3) (b : Op3) (h0 : (Sh.agg .op).okA a) (h1 : (Sh.agg .op).okA b) (hp : mulPre a b) : T_r5Mul a b := by
  obtain ⟨p1, p2, p3, p4⟩ := hp
  refine ⟨k24, k24, k24, ?_⟩
  have hB := addB (appB (okM_B (errM_ok.1 p1)) (bv24 p4)) (bv24 p3)
  have hV := wV_id (by decide) hB
  have hR := mul_R p1 p2
  unfold mulO modV
  rw [← hR, ← hV]
  simp only [wM, mulZ, wV, addV, appZ, emo, Int.zero_add, w64_add_l, w64_add_r, w64_mul_l, w64_mul_r, w64_w64, Prod.mk.injEq, Op3.mk.injEq, V3.mk.injEq, true_and, and_true]
  refine ⟨?_, ?_, ?_⟩ <;> (congr 2; omega)
theorem s_r5Mul : Sound Tryz.prog 66 C_r5Mul :=
  sound_of_eq (env0_ok (.cons s_f2Mod (.nil))) (fun x => T_r5Mul x.1 x.2.1) r_r5Mul fun x ok hp => p_r5Mul x.1 x.2.1 ok.1 ok.2.1 hp
noncomputable def C_r5Place : Contract := { args := [.list .op, .agg .op], res := [.int .i64], pre := fun _ => True, F := fun x => ((idxO x.1 x.2.1 : Int), ()) }
def T_r5Place (l : List Op3) (o : Op3) : Prop :=
  (idInv l o 0 ∧
∀ z2 : Int,
((decide ((-9223372036854775808) ≤ z2)) = true →
((decide (z2 ≤ 9223372036854775807)) = true →
(idInv l o z2 →
(((decide (z2 < (l.length : Int))) = true →
 (inB l z2 ∧
 ((((decide ((((l.getD (z2).toNat zerO)).R).xx = o.R.xx)) && ((decide ((((l.getD (z2).toNat zerO)).R).xy = o.R.xy)) && ((decide ((((l.getD (z2).toNat zerO)).R).xz = o.R.xz)) && ((decide ((((l.getD (z2).toNat zerO)).R).yx = o.R.yx)) && ((decide ((((l.getD (z2).toNat zerO)).R).yy = o.R.yy)) && ((decide ((((l.getD (z2).toNat zerO)).R).yz = o.R.yz)) && ((decide ((((l.getD (z2).toNat zerO)).R).zx = o.R.zx)) && ((decide ((((l.getD (z2).toNat zerO)).R).zy = o.R.zy)) && ((decide ((((l.getD (z2).toNat zerO)).R).zz = o.R.zz)) && ((decide ((((l.getD (z2).toNat zerO)).T).x = o.T.x)) && ((decide ((((l.getD (z2).toNat zerO)).T).y = o.T.y)) && ((decide ((((l.getD (z2).toNat zerO)).T).z = o.T.z)) && true)))))))))))) = true →
  (z2, ()) = (idxO l o, ())) ∧
 (((decide ((((l.getD (z2).toNat zerO)).R).xx = o.R.xx)) && ((decide ((((l.getD (z2).toNat zerO)).R).xy = o.R.xy)) && ((decide ((((l.getD (z2).toNat zerO)).R).xz = o.R.xz)) && ((decide ((((l.getD (z2).toNat zerO)).R).yx = o.R.yx)) && ((decide ((((l.getD (z2).toNat zerO)).R).yy = o.R.yy)) && ((decide ((((l.getD (z2).toNat zerO)).R).yz = o.R.yz)) && ((decide ((((l.getD (z2).toNat zerO)).R).zx = o.R.zx)) && ((decide ((((l.getD (z2).toNat zerO)).R).zy = o.R.zy)) && ((decide ((((l.getD (z2).toNat zerO)).R).zz = o.R.zz)) && ((decide ((((l.getD (z2).toNat zerO)).T).x = o.T.x)) && ((decide ((((l.getD (z2).toNat zerO)).T).y = o.T.y)) && ((decide ((((l.getD (z2).toNat zerO)).T).z = o.T.z)) && true)))))))))))) = false →
 (idInv l o ((w64 (z2 + 1))) ∧
 ((decide (0 ≤ opMu l ((w64 (z2 + 1))))) = true ∧
 (decide (opMu l ((w64 (z2 + 1))) < opMu l z2)) = true)))))) ∧
((decide (z2 < (l.length : Int))) = false →
((-1), ()) = (idxO l o, ())))))))
theorem r_r5Place (x : HL C_r5Place.args) : runs (env0 [] [(64, 2, { fix := [(.tmp 7, .list .op), (.cell 3, .agg .op)], vars := [(.tmp 9, .int .i64)], inv := fun y v => idInv y.1 y.2.1 v.1, mu := fun y v => opMu y.1 v.1 })] []) 400 64 C_r5Place x = T_r5Place x.1 x.2.1 := by kernel_rfl
theorem p_r5Place (l : List Op3) (o : Op3) (h0 : (Sh.list .op).okA l) (h1 : (Sh.agg .op).okA o) : T_r5Place l o := by
  have hb : l.length * 96 ≤ room := h0.2
  refine ⟨⟨by omega, by omega, fun k hk => by simp at hk⟩, fun i _ _ hI => ⟨fun hi => ?_, fun hi => by rw [show idxO l o = -1 from id_miss hI (of_decide_eq_false hi)]⟩⟩
  have hi := of_decide_eq_true hi
  rw [eqOc']
  refine ⟨⟨hI.1, hi⟩, fun h => ?_, fun h => ?_⟩
  · rw [show idxO l o = i from id_hit hI hi _ (of_decide_eq_true h)]
  · have := id_next (b := 96) (by decide) hb hI hi _ (of_decide_eq_false h)
    exact ⟨this.1, decide_eq_true this.2.1, decide_eq_true this.2.2⟩
theorem s_r5Place : Sound Tryz.prog 64 C_r5Place :=
  sound_of_eq (env0_ok (.nil)) (fun x => T_r5Place x.1 x.2.1) r_r5Place fun x ok hp => p_r5Place x.1 x.2.1 ok.1 ok.2.1
end Go.Fx
