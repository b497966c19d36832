/-
  Contracts: r3Mod, r3Times, r3Column, r3Add, r3Bring, r3Mul, r3Det, r3Undone, r3Back, r3Within, r3flat, r3Compare, sorted6.
-/
import Derived.Test.YtcadkndjcneedaaGreatK13
import Derived.Test.YtcadkndjcneedaaGreatHe
namespace Go.Fx
open Go Go.Proofs
set_option maxRecDepth 100000
set_option linter.unusedVariables false
set_option linter.unusedSimpArgs false
set_option linter.unusedSectionVars false
noncomputable def C_r3Mod : Contract := { args := [.int .i64, .int .i64], res := [.int .i64], pre := fun x => inM x.2.1, F := fun x => ((emo x.1 x.2.1 : Int), ()) }
def T_r3Mod (n : Int) (m : Int) : Prop :=
  ((m ≠ 0) ∧
((m ≠ 0) ∧
((Int.tmod ((w64 (((Int.tmod n m) + m)))) m), ()) = (emo n m, ())))
theorem r_r3Mod (x : HL C_r3Mod.args) : runs (env0 [] [] []) 400 84 C_r3Mod x = T_r3Mod x.1 x.2.1 := by kernel_rfl
theorem p_r3Mod (n : Int) (m : Int) (h0 : (Sh.int .i64).okA n) (h1 : (Sh.int .i64).okA m) (hp : inM m) : T_r3Mod n m := by
  obtain ⟨e1, e2, e3⟩ := fmod_eq (n := n) hp
  exact ⟨e3, e3, by rw [e1, e2]; rfl⟩
theorem s_r3Mod : Sound Tryz.prog 84 C_r3Mod :=
  sound_of_eq (env0_ok (.nil)) (fun x => T_r3Mod x.1 x.2.1) r_r3Mod fun x ok hp => p_r3Mod x.1 x.2.1 ok.1 ok.2.1 hp
noncomputable def C_r3Times : Contract := { args := [.agg .mat, .agg .mat], res := [.agg .mat], pre := fun _ => True, F := fun x => ((wM (mulZ x.1 x.2.1) : M3), ()) }
def T_r3Times (a : M3) (b : M3) : Prop :=
  ((M3.mk ((w64 (((w64 (((0 + (w64 (a.xx * b.xx))) + (w64 (a.xy * b.yx))))) + (w64 (a.xz * b.zx)))))) ((w64 (((w64 (((0 + (w64 (a.xx * b.xy))) + (w64 (a.xy * b.yy))))) + (w64 (a.xz * b.zy)))))) ((w64 (((w64 (((0 + (w64 (a.xx * b.xz))) + (w64 (a.xy * b.yz))))) + (w64 (a.xz * b.zz)))))) ((w64 (((w64 (((0 + (w64 (a.yx * b.xx))) + (w64 (a.yy * b.yx))))) + (w64 (a.yz * b.zx)))))) ((w64 (((w64 (((0 + (w64 (a.yx * b.xy))) + (w64 (a.yy * b.yy))))) + (w64 (a.yz * b.zy)))))) ((w64 (((w64 (((0 + (w64 (a.yx * b.xz))) + (w64 (a.yy * b.yz))))) + (w64 (a.yz * b.zz)))))) ((w64 (((w64 (((0 + (w64 (a.zx * b.xx))) + (w64 (a.zy * b.yx))))) + (w64 (a.zz * b.zx)))))) ((w64 (((w64 (((0 + (w64 (a.zx * b.xy))) + (w64 (a.zy * b.yy))))) + (w64 (a.zz * b.zy)))))) ((w64 (((w64 (((0 + (w64 (a.zx * b.xz))) + (w64 (a.zy * b.yz))))) + (w64 (a.zz * b.zz))))))), ()) = (wM (mulZ a b), ())
theorem r_r3Times (x : HL C_r3Times.args) : runs (env0 [] [] []) 400 56 C_r3Times x = T_r3Times x.1 x.2.1 := by kernel_rfl
theorem p_r3Times (a : M3) (b : M3) (h0 : (Sh.agg .mat).okA a) (h1 : (Sh.agg .mat).okA b) : T_r3Times a b := by
  simp only [T_r3Times, wM, mulZ, Int.zero_add, and_self, w64_add_l, w64_add_r, w64_sub_l, w64_sub_r, w64_mul_l, w64_mul_r, w64_w64]
theorem s_r3Times : Sound Tryz.prog 56 C_r3Times :=
  sound_of_eq (env0_ok (.nil)) (fun x => T_r3Times x.1 x.2.1) r_r3Times fun x ok hp => p_r3Times x.1 x.2.1 ok.1 ok.2.1
noncomputable def C_r3Column : Contract := { args := [.agg .mat, .agg .vec], res := [.agg .vec], pre := fun _ => True, F := fun x => ((wV (appZ x.1 x.2.1) : V3), ()) }
def T_r3Column (m : M3) (v : V3) : Prop :=
  ((V3.mk ((w64 (((w64 (((0 + (w64 (m.xx * v.x))) + (w64 (m.xy * v.y))))) + (w64 (m.xz * v.z)))))) ((w64 (((w64 (((0 + (w64 (m.yx * v.x))) + (w64 (m.yy * v.y))))) + (w64 (m.yz * v.z)))))) ((w64 (((w64 (((0 + (w64 (m.zx * v.x))) + (w64 (m.zy * v.y))))) + (w64 (m.zz * v.z))))))), ()) = (wV (appZ m v), ())
theorem r_r3Column (x : HL C_r3Column.args) : runs (env0 [] [] []) 400 59 C_r3Column x = T_r3Column x.1 x.2.1 := by kernel_rfl
theorem p_r3Column (m : M3) (v : V3) (h0 : (Sh.agg .mat).okA m) (h1 : (Sh.agg .vec).okA v) : T_r3Column m v := by
  simp only [T_r3Column, wV, appZ, Int.zero_add, and_self, w64_add_l, w64_add_r, w64_sub_l, w64_sub_r, w64_mul_l, w64_mul_r, w64_w64]
theorem s_r3Column : Sound Tryz.prog 59 C_r3Column :=
  sound_of_eq (env0_ok (.nil)) (fun x => T_r3Column x.1 x.2.1) r_r3Column fun x ok hp => p_r3Column x.1 x.2.1 ok.1 ok.2.1
noncomputable def C_r3Add : Contract := { args := [.agg .vec, .agg .vec], res := [.agg .vec], pre := fun _ => True, F := fun x => ((wV (addV x.1 x.2.1) : V3), ()) }
def T_r3Add (a : V3) (b : V3) : Prop :=
  ((V3.mk ((w64 (a.x + b.x))) ((w64 (a.y + b.y))) ((w64 (a.z + b.z)))), ()) = (wV (addV a b), ())
theorem r_r3Add (x : HL C_r3Add.args) : runs (env0 [] [] []) 400 58 C_r3Add x = T_r3Add x.1 x.2.1 := by kernel_rfl
theorem p_r3Add (a : V3) (b : V3) (h0 : (Sh.agg .vec).okA a) (h1 : (Sh.agg .vec).okA b) : T_r3Add a b := by
  rfl
theorem s_r3Add : Sound Tryz.prog 58 C_r3Add :=
  sound_of_eq (env0_ok (.nil)) (fun x => T_r3Add x.1 x.2.1) r_r3Add fun x ok hp => p_r3Add x.1 x.2.1 ok.1 ok.2.1
noncomputable def C_r3Bring : Contract := { args := [.agg .vec, .int .i64], res := [.agg .vec], pre := fun x => inM x.2.1, F := fun x => ((modV x.2.1 x.1 : V3), ()) }
def T_r3Bring (v : V3) (m : Int) : Prop :=
  (inM m ∧
(inM m ∧
(inM m ∧
((V3.mk (emo v.x m) (emo v.y m) (emo v.z m)), ()) = (modV m v, ()))))
theorem r_r3Bring (x : HL C_r3Bring.args) : runs (env0 [(84, C_r3Mod)] [] []) 400 57 C_r3Bring x = T_r3Bring x.1 x.2.1 := by kernel_rfl
theorem p_r3Bring (v : V3) (m : Int) (h0 : (Sh.agg .vec).okA v) (h1 : (Sh.int .i64).okA m) (hp : inM m) : T_r3Bring v m := by
  exact ⟨hp, hp, hp, rfl⟩
theorem s_r3Bring : Sound Tryz.prog 57 C_r3Bring :=
  sound_of_eq (env0_ok (.cons s_r3Mod (.nil))) (fun x => T_r3Bring x.1 x.2.1) r_r3Bring fun x ok hp => p_r3Bring x.1 x.2.1 ok.1 ok.2.1 hp
noncomputable def C_r3Mul : Contract := { args := [.agg .op, .agg .op], res := [.agg .op], pre := fun x => mulPre x.1 x.2.1, F := fun x => ((mulO x.1 x.2.1 : Op3), ()) }
def T_r3Mul (a : Op3) (b : Op3) : Prop :=
  (True ∧
(True ∧
(True ∧
(inM 24 ∧
((Op3.mk (wM (mulZ a.R b.R)) (modV 24 (wV (addV (wV (appZ a.R b.T)) a.T)))), ()) = (mulO a b, ())))))
theorem r_r3Mul (x : HL C_r3Mul.args) : runs (env0 [(56, C_r3Times.hid), (59, C_r3Column.hid), (58, C_r3Add.hid), (57, C_r3Bring.hid)] [] []) 400 34 C_r3Mul x = T_r3Mul x.1 x.2.1 := by kernel_rfl
theorem p_r3Mul (a : Op3) (b : Op3) (h0 : (Sh.agg .op).okA a) (h1 : (Sh.agg .op).okA b) (hp : mulPre a b) : T_r3Mul a b := by
  obtain ⟨p1, p2, p3, p4⟩ := hp
  refine ⟨trivial, trivial, trivial, k24, ?_⟩
  have hB := appB (okM_B (errM_ok.1 p1)) (bv24 p4)
  rw [mul_R p1 p2, wV_id (by decide) hB, wV_id (by decide) (addB hB (bv24 p3))]
  rfl
theorem s_r3Mul : Sound Tryz.prog 34 C_r3Mul :=
  sound_of_eq (env0_ok (.cons s_r3Times.hid (.cons s_r3Column.hid (.cons s_r3Add.hid (.cons s_r3Bring.hid (.nil)))))) (fun x => T_r3Mul x.1 x.2.1) r_r3Mul fun x ok hp => p_r3Mul x.1 x.2.1 ok.1 ok.2.1 hp
noncomputable def C_r3Det : Contract := { args := [.agg .mat], res := [.int .i64], pre := fun _ => True, F := fun x => ((w64 (detZ x.1) : Int), ()) }
def T_r3Det (m : M3) : Prop :=
  ((w64 (((w64 (((0 + (w64 ((m.xx * (w64 (((w64 (m.yy * m.zz)) - (w64 (m.yz * m.zy))))))))) + (w64 ((m.xy * (w64 (((w64 (m.yz * m.zx)) - (w64 (m.yx * m.zz))))))))))) + (w64 ((m.xz * (w64 (((w64 (m.yx * m.zy)) - (w64 (m.yy * m.zx))))))))))), ()) = (w64 (detZ m), ())
theorem r_r3Det (x : HL C_r3Det.args) : runs (env0 [] [] []) 400 86 C_r3Det x = T_r3Det x.1 := by kernel_rfl
theorem p_r3Det (m : M3) (h0 : (Sh.agg .mat).okA m) : T_r3Det m := by
  simp only [T_r3Det, detZ, Int.zero_add, and_self, w64_add_l, w64_add_r, w64_sub_l, w64_sub_r, w64_mul_l, w64_mul_r, w64_w64]
theorem s_r3Det : Sound Tryz.prog 86 C_r3Det :=
  sound_of_eq (env0_ok (.nil)) (fun x => T_r3Det x.1) r_r3Det fun x ok hp => p_r3Det x.1 ok.1
noncomputable def C_r3Undone : Contract := { args := [.agg .mat], res := [.agg .mat], pre := fun _ => True, F := fun x => ((wM (invZ x.1) : M3), ()) }
def T_r3Undone (m : M3) : Prop :=
  (True ∧
(True ∧
(True ∧
(True ∧
(True ∧
(True ∧
(True ∧
(True ∧
(True ∧
(True ∧
((M3.mk ((w64 ((w64 (detZ (M3.mk 1 m.xy m.xz 0 m.yy m.yz 0 m.zy m.zz)) * w64 (detZ m))))) ((w64 ((w64 (detZ (M3.mk 0 m.xy m.xz 1 m.yy m.yz 0 m.zy m.zz)) * w64 (detZ m))))) ((w64 ((w64 (detZ (M3.mk 0 m.xy m.xz 0 m.yy m.yz 1 m.zy m.zz)) * w64 (detZ m))))) ((w64 ((w64 (detZ (M3.mk m.xx 1 m.xz m.yx 0 m.yz m.zx 0 m.zz)) * w64 (detZ m))))) ((w64 ((w64 (detZ (M3.mk m.xx 0 m.xz m.yx 1 m.yz m.zx 0 m.zz)) * w64 (detZ m))))) ((w64 ((w64 (detZ (M3.mk m.xx 0 m.xz m.yx 0 m.yz m.zx 1 m.zz)) * w64 (detZ m))))) ((w64 ((w64 (detZ (M3.mk m.xx m.xy 1 m.yx m.yy 0 m.zx m.zy 0)) * w64 (detZ m))))) ((w64 ((w64 (detZ (M3.mk m.xx m.xy 0 m.yx m.yy 1 m.zx m.zy 0)) * w64 (detZ m))))) ((w64 ((w64 (detZ (M3.mk m.xx m.xy 0 m.yx m.yy 0 m.zx m.zy 1)) * w64 (detZ m)))))), ()) = (wM (invZ m), ())))))))))))
theorem r_r3Undone (x : HL C_r3Undone.args) : runs (env0 [(86, C_r3Det)] [] []) 400 61 C_r3Undone x = T_r3Undone x.1 := by kernel_rfl
theorem p_r3Undone (m : M3) (h0 : (Sh.agg .mat).okA m) : T_r3Undone m := by
  have f1 : detZ (M3.mk 1 m.xy m.xz 0 m.yy m.yz 0 m.zy m.zz) = (adjZ m).xx := by simp only [detZ, adjZ]; grind
  have f2 : detZ (M3.mk 0 m.xy m.xz 1 m.yy m.yz 0 m.zy m.zz) = (adjZ m).xy := by simp only [detZ, adjZ]; grind
  have f3 : detZ (M3.mk 0 m.xy m.xz 0 m.yy m.yz 1 m.zy m.zz) = (adjZ m).xz := by simp only [detZ, adjZ]; grind
  have f4 : detZ (M3.mk m.xx 1 m.xz m.yx 0 m.yz m.zx 0 m.zz) = (adjZ m).yx := by simp only [detZ, adjZ]; grind
  have f5 : detZ (M3.mk m.xx 0 m.xz m.yx 1 m.yz m.zx 0 m.zz) = (adjZ m).yy := by simp only [detZ, adjZ]; grind
  have f6 : detZ (M3.mk m.xx 0 m.xz m.yx 0 m.yz m.zx 1 m.zz) = (adjZ m).yz := by simp only [detZ, adjZ]; grind
  have f7 : detZ (M3.mk m.xx m.xy 1 m.yx m.yy 0 m.zx m.zy 0) = (adjZ m).zx := by simp only [detZ, adjZ]; grind
  have f8 : detZ (M3.mk m.xx m.xy 0 m.yx m.yy 1 m.zx m.zy 0) = (adjZ m).zy := by simp only [detZ, adjZ]; grind
  have f9 : detZ (M3.mk m.xx m.xy 0 m.yx m.yy 0 m.zx m.zy 1) = (adjZ m).zz := by simp only [detZ, adjZ]; grind
  unfold T_r3Undone
  rw [f1, f2, f3, f4, f5, f6, f7, f8, f9]
  simp only [w64_mul_l, w64_mul_r, true_and]
  rfl
theorem s_r3Undone : Sound Tryz.prog 61 C_r3Undone :=
  sound_of_eq (env0_ok (.cons s_r3Det (.nil))) (fun x => T_r3Undone x.1) r_r3Undone fun x ok hp => p_r3Undone x.1 ok.1
noncomputable def C_r3Back : Contract := { args := [.agg .op], res := [.agg .op], pre := fun x => frmO x.1, F := fun x => ((invO x.1 : Op3), ()) }
def T_r3Back (o : Op3) : Prop :=
  (True ∧
∀ z1 : M3,
(z1 = wM (invZ o.R) →
(True ∧
∀ z3 : V3,
(z3 = wV (appZ z1 o.T) →
(inM 24 ∧
((Op3.mk z1 (modV 24 ((V3.mk ((w64 (0 - z3.x))) ((w64 (0 - z3.y))) ((w64 (0 - z3.z))))))), ()) = (invO o, ()))))))
theorem r_r3Back (x : HL C_r3Back.args) : runs (env0 [(61, C_r3Undone.hid), (59, C_r3Column.hid), (57, C_r3Bring.hid)] [] []) 400 39 C_r3Back x = T_r3Back x.1 := by kernel_rfl
theorem p_r3Back (o : Op3) (h0 : (Sh.agg .op).okA o) (hp : frmO o) : T_r3Back o := by
  have hF := errO_ok.1 (show errO o = 0 from hp)
  have hB := invZ_B hF.B hF.d
  have hA := appB hB (bv24 hF.T)
  refine ⟨trivial, fun z hz => ⟨trivial, fun y hy => ⟨k24, ?_⟩⟩⟩
  have hz : z = invZ o.R := by rw [hz]; exact wM_id (by decide) hB
  subst hz
  rw [wV_id (by decide) hA] at hy
  have hn : V3.mk (w64 (0 - y.x)) (w64 (0 - y.y)) (w64 (0 - y.z)) = negV (appZ (invZ o.R) o.T) := by
    obtain ⟨a1, a2, a3⟩ := hA
    rw [hy]
    rw [w64_id (by omega) (by omega), w64_id (by omega) (by omega), w64_id (by omega) (by omega), Int.zero_sub, Int.zero_sub, Int.zero_sub]
    rfl
  rw [hn]; rfl
theorem s_r3Back : Sound Tryz.prog 39 C_r3Back :=
  sound_of_eq (env0_ok (.cons s_r3Undone.hid (.cons s_r3Column.hid (.cons s_r3Bring.hid (.nil))))) (fun x => T_r3Back x.1) r_r3Back fun x ok hp => p_r3Back x.1 ok.1 hp
noncomputable def C_r3Within : Contract := { args := [.agg .mat], res := [.bool], pre := fun _ => True, F := fun x => ((okM x.1 : Bool), ()) }
def T_r3Within (m : M3) : Prop :=
  (((decide (m.xx < (-1000))) = true →
 (false, ()) = (okM m, ())) ∧
((decide (m.xx < (-1000))) = false →
(((decide (1000 < m.xx)) = true →
 (false, ()) = (okM m, ())) ∧
((decide (1000 < m.xx)) = false →
(((decide (m.xy < (-1000))) = true →
 (false, ()) = (okM m, ())) ∧
((decide (m.xy < (-1000))) = false →
(((decide (1000 < m.xy)) = true →
 (false, ()) = (okM m, ())) ∧
((decide (1000 < m.xy)) = false →
(((decide (m.xz < (-1000))) = true →
 (false, ()) = (okM m, ())) ∧
((decide (m.xz < (-1000))) = false →
(((decide (1000 < m.xz)) = true →
 (false, ()) = (okM m, ())) ∧
((decide (1000 < m.xz)) = false →
(((decide (m.yx < (-1000))) = true →
 (false, ()) = (okM m, ())) ∧
((decide (m.yx < (-1000))) = false →
(((decide (1000 < m.yx)) = true →
 (false, ()) = (okM m, ())) ∧
((decide (1000 < m.yx)) = false →
(((decide (m.yy < (-1000))) = true →
 (false, ()) = (okM m, ())) ∧
((decide (m.yy < (-1000))) = false →
(((decide (1000 < m.yy)) = true →
 (false, ()) = (okM m, ())) ∧
((decide (1000 < m.yy)) = false →
(((decide (m.yz < (-1000))) = true →
 (false, ()) = (okM m, ())) ∧
((decide (m.yz < (-1000))) = false →
(((decide (1000 < m.yz)) = true →
 (false, ()) = (okM m, ())) ∧
((decide (1000 < m.yz)) = false →
(((decide (m.zx < (-1000))) = true →
 (false, ()) = (okM m, ())) ∧
((decide (m.zx < (-1000))) = false →
(((decide (1000 < m.zx)) = true →
 (false, ()) = (okM m, ())) ∧
((decide (1000 < m.zx)) = false →
(((decide (m.zy < (-1000))) = true →
 (false, ()) = (okM m, ())) ∧
((decide (m.zy < (-1000))) = false →
(((decide (1000 < m.zy)) = true →
 (false, ()) = (okM m, ())) ∧
((decide (1000 < m.zy)) = false →
(((decide (m.zz < (-1000))) = true →
 (false, ()) = (okM m, ())) ∧
((decide (m.zz < (-1000))) = false →
(((decide (1000 < m.zz)) = true →
 (false, ()) = (okM m, ())) ∧
((decide (1000 < m.zz)) = false →
(true, ()) = (okM m, ())))))))))))))))))))))))))))))))))))))
theorem r_r3Within (x : HL C_r3Within.args) : runs (env0 [] [] []) 400 35 C_r3Within x = T_r3Within x.1 := by kernel_rfl
theorem p_r3Within (m : M3) (h0 : (Sh.agg .mat).okA m) : T_r3Within m := by
  simp only [T_r3Within, decide_eq_true_eq, decide_eq_false_iff_not]
  repeat' (first | apply And.intro | intro _ | exact trivial)
  all_goals simp only [okM, inE, Prod.mk.injEq, and_true]
  all_goals first | (symm; simp only [Bool.and_eq_true, decide_eq_true_eq]; omega) | (symm; rw [Bool.eq_false_iff]; simp only [ne_eq, Bool.and_eq_true, decide_eq_true_eq]; omega)
theorem s_r3Within : Sound Tryz.prog 35 C_r3Within :=
  sound_of_eq (env0_ok (.nil)) (fun x => T_r3Within x.1) r_r3Within fun x ok hp => p_r3Within x.1 ok.1
noncomputable def C_r3flat : Contract := { args := [.agg .op], res := [.agg .op], pre := fun _ => True, F := fun x => ((x.1 : Op3), ()) }
def T_r3flat (o : Op3) : Prop :=
  (o, ()) = (o, ())
theorem r_r3flat (x : HL C_r3flat.args) : runs (env0 [] [] []) 400 85 C_r3flat x = T_r3flat x.1 := by kernel_rfl
theorem p_r3flat (o : Op3) (h0 : (Sh.agg .op).okA o) : T_r3flat o := by
  rfl
theorem s_r3flat : Sound Tryz.prog 85 C_r3flat :=
  sound_of_eq (env0_ok (.nil)) (fun x => T_r3flat x.1) r_r3flat fun x ok hp => p_r3flat x.1 ok.1
noncomputable def C_r3Compare : Contract := { args := [.agg .op, .agg .op], res := [.int .i64], pre := fun _ => True, F := fun x => ((cmpO x.1 x.2.1 : Int), ()) }
def T_r3Compare (a : Op3) (b : Op3) : Prop :=
  (True ∧
(True ∧
(((decide (a.R.xx < b.R.xx)) = true →
 ((-1), ()) = (cmpO a b, ())) ∧
((decide (a.R.xx < b.R.xx)) = false →
(((decide (b.R.xx < a.R.xx)) = true →
 (1, ()) = (cmpO a b, ())) ∧
((decide (b.R.xx < a.R.xx)) = false →
(((decide (a.R.xy < b.R.xy)) = true →
 ((-1), ()) = (cmpO a b, ())) ∧
((decide (a.R.xy < b.R.xy)) = false →
(((decide (b.R.xy < a.R.xy)) = true →
 (1, ()) = (cmpO a b, ())) ∧
((decide (b.R.xy < a.R.xy)) = false →
(((decide (a.R.xz < b.R.xz)) = true →
 ((-1), ()) = (cmpO a b, ())) ∧
((decide (a.R.xz < b.R.xz)) = false →
(((decide (b.R.xz < a.R.xz)) = true →
 (1, ()) = (cmpO a b, ())) ∧
((decide (b.R.xz < a.R.xz)) = false →
(((decide (a.R.yx < b.R.yx)) = true →
 ((-1), ()) = (cmpO a b, ())) ∧
((decide (a.R.yx < b.R.yx)) = false →
(((decide (b.R.yx < a.R.yx)) = true →
 (1, ()) = (cmpO a b, ())) ∧
((decide (b.R.yx < a.R.yx)) = false →
(((decide (a.R.yy < b.R.yy)) = true →
 ((-1), ()) = (cmpO a b, ())) ∧
((decide (a.R.yy < b.R.yy)) = false →
(((decide (b.R.yy < a.R.yy)) = true →
 (1, ()) = (cmpO a b, ())) ∧
((decide (b.R.yy < a.R.yy)) = false →
(((decide (a.R.yz < b.R.yz)) = true →
 ((-1), ()) = (cmpO a b, ())) ∧
((decide (a.R.yz < b.R.yz)) = false →
(((decide (b.R.yz < a.R.yz)) = true →
 (1, ()) = (cmpO a b, ())) ∧
((decide (b.R.yz < a.R.yz)) = false →
(((decide (a.R.zx < b.R.zx)) = true →
 ((-1), ()) = (cmpO a b, ())) ∧
((decide (a.R.zx < b.R.zx)) = false →
(((decide (b.R.zx < a.R.zx)) = true →
 (1, ()) = (cmpO a b, ())) ∧
((decide (b.R.zx < a.R.zx)) = false →
(((decide (a.R.zy < b.R.zy)) = true →
 ((-1), ()) = (cmpO a b, ())) ∧
((decide (a.R.zy < b.R.zy)) = false →
(((decide (b.R.zy < a.R.zy)) = true →
 (1, ()) = (cmpO a b, ())) ∧
((decide (b.R.zy < a.R.zy)) = false →
(((decide (a.R.zz < b.R.zz)) = true →
 ((-1), ()) = (cmpO a b, ())) ∧
((decide (a.R.zz < b.R.zz)) = false →
(((decide (b.R.zz < a.R.zz)) = true →
 (1, ()) = (cmpO a b, ())) ∧
((decide (b.R.zz < a.R.zz)) = false →
(((decide (a.T.x < b.T.x)) = true →
 ((-1), ()) = (cmpO a b, ())) ∧
((decide (a.T.x < b.T.x)) = false →
(((decide (b.T.x < a.T.x)) = true →
 (1, ()) = (cmpO a b, ())) ∧
((decide (b.T.x < a.T.x)) = false →
(((decide (a.T.y < b.T.y)) = true →
 ((-1), ()) = (cmpO a b, ())) ∧
((decide (a.T.y < b.T.y)) = false →
(((decide (b.T.y < a.T.y)) = true →
 (1, ()) = (cmpO a b, ())) ∧
((decide (b.T.y < a.T.y)) = false →
(((decide (a.T.z < b.T.z)) = true →
 ((-1), ()) = (cmpO a b, ())) ∧
((decide (a.T.z < b.T.z)) = false →
(((decide (b.T.z < a.T.z)) = true →
 (1, ()) = (cmpO a b, ())) ∧
((decide (b.T.z < a.T.z)) = false →
(0, ()) = (cmpO a b, ())))))))))))))))))))))))))))))))))))))))))))))))))))
theorem r_r3Compare (x : HL C_r3Compare.args) : runs (env0 [(85, C_r3flat)] [] []) 400 60 C_r3Compare x = T_r3Compare x.1 x.2.1 := by kernel_rfl
theorem p_r3Compare (a : Op3) (b : Op3) (h0 : (Sh.agg .op).okA a) (h1 : (Sh.agg .op).okA b) : T_r3Compare a b := by
  unfold T_r3Compare
  rw [cmpO_lex]
  simp only [decide_eq_true_eq, decide_eq_false_iff_not]
  repeat' (first | apply And.intro | intro _ | exact trivial)
  all_goals simp [Op3.row, lexL, cmpE, *]
theorem s_r3Compare : Sound Tryz.prog 60 C_r3Compare :=
  sound_of_eq (env0_ok (.cons s_r3flat (.nil))) (fun x => T_r3Compare x.1 x.2.1) r_r3Compare fun x ok hp => p_r3Compare x.1 x.2.1 ok.1 ok.2.1
noncomputable def C_sorted6 : Contract := { args := [.list .op], res := [.list .op], pre := fun x => so192 x.1, F := fun x => ((insO x.1 : List Op3), ()) }
def T_sorted6 (l : List Op3) : Prop :=
  (soI l [] 0 ∧
∀ z1 : List Op3,
∀ z2 : Int,
((decide ((-9223372036854775808) ≤ z2)) = true →
((decide (z2 ≤ 9223372036854775807)) = true →
(soI l z1 z2 →
(lfit 96 z1 →
(((decide (z2 < (l.length : Int))) = true →
 (inB l z2 ∧
 (puInv z1 (((l.getD (z2).toNat zerO))) 0 ∧
 ∀ z8 : Int,
 ((decide ((-9223372036854775808) ≤ z8)) = true →
 ((decide (z8 ≤ 9223372036854775807)) = true →
 (puInv z1 (((l.getD (z2).toNat zerO))) z8 →
 (((decide (z8 < (z1.length : Int))) = true →
  (inB z1 z8 ∧
  (True ∧
  (((decide (cmpO (((z1.getD (z8).toNat zerO))) (((l.getD (z2).toNat zerO))) < 0)) = true →
   (puInv z1 (((l.getD (z2).toNat zerO))) ((w64 (z8 + 1))) ∧
   ((decide (0 ≤ opMu z1 ((w64 (z8 + 1))))) = true ∧
   (decide (opMu z1 ((w64 (z8 + 1))) < opMu z1 z8)) = true))) ∧
  ((decide (cmpO (((z1.getD (z8).toNat zerO))) (((l.getD (z2).toNat zerO))) < 0)) = false →
  ((leP 0 0 ∧
   (leP 0 z8 ∧
   leP z8 (z1.length : Int))) ∧
  (lfit 96 (lapp [] (lsub z1 0 z8)) ∧
  (lfit 96 (lapp (lapp [] (lsub z1 0 z8)) ([((l.getD (z2).toNat zerO))])) ∧
  ((leP 0 z8 ∧
   (leP z8 (z1.length : Int) ∧
   leP (z1.length : Int) (z1.length : Int))) ∧
  (lfit 96 (lapp (lapp (lapp [] (lsub z1 0 z8)) ([((l.getD (z2).toNat zerO))])) (lsub z1 z8 (((z1.length : Int) - z8)))) ∧
  (soI l (lapp (lapp (lapp [] (lsub z1 0 z8)) ([((l.getD (z2).toNat zerO))])) (lsub z1 z8 (((z1.length : Int) - z8)))) ((w64 (z2 + 1))) ∧
  ((decide (0 ≤ opMu l ((w64 (z2 + 1))))) = true ∧
  (decide (opMu l ((w64 (z2 + 1))) < opMu l z2)) = true)))))))))))) ∧
 ((decide (z8 < (z1.length : Int))) = false →
 ((leP 0 0 ∧
  (leP 0 z8 ∧
  leP z8 (z1.length : Int))) ∧
 (lfit 96 (lapp [] (lsub z1 0 z8)) ∧
 (lfit 96 (lapp (lapp [] (lsub z1 0 z8)) ([((l.getD (z2).toNat zerO))])) ∧
 ((leP 0 z8 ∧
  (leP z8 (z1.length : Int) ∧
  leP (z1.length : Int) (z1.length : Int))) ∧
 (lfit 96 (lapp (lapp (lapp [] (lsub z1 0 z8)) ([((l.getD (z2).toNat zerO))])) (lsub z1 z8 (((z1.length : Int) - z8)))) ∧
 (soI l (lapp (lapp (lapp [] (lsub z1 0 z8)) ([((l.getD (z2).toNat zerO))])) (lsub z1 z8 (((z1.length : Int) - z8)))) ((w64 (z2 + 1))) ∧
 ((decide (0 ≤ opMu l ((w64 (z2 + 1))))) = true ∧
 (decide (opMu l ((w64 (z2 + 1))) < opMu l z2)) = true))))))))))))))) ∧
((decide (z2 < (l.length : Int))) = false →
(z1, ()) = (insO l, ()))))))))
theorem r_sorted6 (x : HL C_sorted6.args) : runs (env0 [(60, C_r3Compare.hid)] [(36, 3, { fix := [], vars := [(.tmp 3, .list .op), (.tmp 10, .int .i64)], inv := fun y v => soI x.1 v.1 v.2.1, mu := fun y v => opMu x.1 v.2.1 }), (36, 6, { fix := [(.tmp 3, .list .op), (.cell 5, .agg .op)], vars := [(.tmp 6, .int .i64)], inv := fun y v => puInv y.1 y.2.1 v.1, mu := fun y v => opMu y.1 v.1 })] []) 1500 36 C_sorted6 x = T_sorted6 x.1 := by kernel_rfl
theorem p_sorted6 (l : List Op3) (h0 : (Sh.list .op).okA l) (hp : so192 l) : T_sorted6 l := by
  have hl : l.length ≤ 192 := hp
  unfold T_sorted6
  refine ⟨⟨⟨Int.le_refl _, by omega⟩, rfl⟩, fun s i _ _ hO hs => ⟨fun hi => ?_, fun hi => by rw [so6_end hO (of_decide_eq_false hi)]⟩⟩
  have hi := of_decide_eq_true hi
  have i0 := hO.1.1
  have hb := so6_len hl hO
  have hft := so6_fit hl hO hi (l.getD i.toNat zerO)
  refine ⟨⟨i0, hi⟩, ⟨by omega, by omega, fun k hk => by simp at hk⟩, fun k _ _ hI => ⟨fun hk => ?_, fun hk => ?_⟩⟩
  · have hk := of_decide_eq_true hk
    have k0 := hI.1
    obtain ⟨e1, e2, e3⟩ := opMu_next hb k0 hk
    obtain ⟨f1, f2, f3⟩ := pu_fit hft hI
    refine ⟨⟨k0, hk⟩, trivial, fun hc => ⟨?_, e2, e3⟩, fun hc => ⟨⟨Int.le_refl _, k0, Int.le_of_lt hk⟩, f1, f2, ⟨k0, Int.le_of_lt hk, Int.le_refl _⟩, f3, so6_next hl hO hi (pu_end hI fun _ => of_decide_eq_false hc)⟩⟩
    rw [e1]
    refine ⟨by omega, by omega, fun m hm => ?_⟩
    rcases Nat.lt_or_ge m k.toNat with h1 | h1
    · exact hI.2.2 m h1
    · have : m = k.toNat := by omega
      subst this
      exact of_decide_eq_true hc
  · have hk := of_decide_eq_false hk
    obtain ⟨f1, f2, f3⟩ := pu_fit hft hI
    have k0 := hI.1
    have k1 := hI.2.1
    exact ⟨⟨Int.le_refl _, k0, k1⟩, f1, f2, ⟨k0, k1, Int.le_refl _⟩, f3, so6_next hl hO hi (pu_end hI fun h => absurd h hk)⟩
theorem s_sorted6 : Sound Tryz.prog 36 C_sorted6 :=
  sound_of_eqs (fun x => env0 [(60, C_r3Compare.hid)] [(36, 3, { fix := [], vars := [(.tmp 3, .list .op), (.tmp 10, .int .i64)], inv := fun y v => soI x.1 v.1 v.2.1, mu := fun y v => opMu x.1 v.2.1 }), (36, 6, { fix := [(.tmp 3, .list .op), (.cell 5, .agg .op)], vars := [(.tmp 6, .int .i64)], inv := fun y v => puInv y.1 y.2.1 v.1, mu := fun y v => opMu y.1 v.1 })] []) (fun _ => rfl) (fun _ => env0_ok (.cons s_r3Compare.hid (.nil))) (fun x => T_sorted6 x.1) r_sorted6 fun x ok hp => p_sorted6 x.1 ok.1 hp
end Go.Fx
