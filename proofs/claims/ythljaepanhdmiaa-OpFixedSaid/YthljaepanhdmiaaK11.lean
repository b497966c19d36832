/-
  Contracts: r3Mod, r3Det, r3Within, r3Part, r3Check, r3two, r3One, r3Times, r3Column, r3Bring, r3Add, r3Mul, r3Undone, r3Back, r3trace.
-/
import Derived.Test.YthljaepanhdmiaaK10
namespace Go.Fx
open Go Go.Proofs
set_option maxRecDepth 100000
set_option linter.unusedVariables false
noncomputable def C_r3Mod : Contract := { args := [.int .i64, .int .i64], res := [.int .i64], pre := fun x => inM x.2.1, F := fun x => ((emo x.1 x.2.1 : Int), ()) }
def T_r3Mod (n : Int) (m : Int) : Prop :=
  ((m ≠ 0) ∧
((m ≠ 0) ∧
((Int.tmod ((w64 (((Int.tmod n m) + m)))) m), ()) = (emo n m, ())))
theorem r_r3Mod (x : HL C_r3Mod.args) : runs (env [] []) 400 77 C_r3Mod x = T_r3Mod x.1 x.2.1 := by kernel_rfl
theorem p_r3Mod (n : Int) (m : Int) (h0 : (Sh.int .i64).okA n) (h1 : (Sh.int .i64).okA m) (hp : inM m) : T_r3Mod n m := by
  obtain ⟨e1, e2, e3⟩ := fmod_eq (n := n) hp
  exact ⟨e3, e3, by rw [e1, e2]; rfl⟩
theorem s_r3Mod : Sound Try.prog 77 C_r3Mod :=
  sound_of_eq (env_ok (.nil)) (fun x => T_r3Mod x.1 x.2.1) r_r3Mod fun x ok hp => p_r3Mod x.1 x.2.1 ok.1 ok.2.1 hp
noncomputable def C_r3Det : Contract := { args := [.agg .mat], res := [.int .i64], pre := fun _ => True, F := fun x => ((w64 (detZ x.1) : Int), ()) }
def T_r3Det (m : M3) : Prop :=
  ((w64 (((w64 (((0 + (w64 ((m.xx * (w64 (((w64 (m.yy * m.zz)) - (w64 (m.yz * m.zy))))))))) + (w64 ((m.xy * (w64 (((w64 (m.yz * m.zx)) - (w64 (m.yx * m.zz))))))))))) + (w64 ((m.xz * (w64 (((w64 (m.yx * m.zy)) - (w64 (m.yy * m.zx))))))))))), ()) = (w64 (detZ m), ())
theorem r_r3Det (x : HL C_r3Det.args) : runs (env [] []) 400 51 C_r3Det x = T_r3Det x.1 := by kernel_rfl
theorem p_r3Det (m : M3) (h0 : (Sh.agg .mat).okA m) : T_r3Det m := by
  simp only [T_r3Det, detZ, Int.zero_add, and_self, w64_add_l, w64_add_r, w64_sub_l, w64_sub_r, w64_mul_l, w64_mul_r, w64_w64]
theorem s_r3Det : Sound Try.prog 51 C_r3Det :=
  sound_of_eq (env_ok (.nil)) (fun x => T_r3Det x.1) r_r3Det fun x ok hp => p_r3Det x.1 ok.1
noncomputable def C_r3Within : Contract := { args := [.agg .mat], res := [.bool], pre := fun _ => True, F := fun x => ((okM x.1 : Bool), ()) }
def T_r3Within (m : M3) : Prop :=
  (((decide (m.xx < (-1000))) = true →
 (false, ()) = (okM m, ())) ∧
((decide (m.xx < (-1000))) = false →
(((decide (1000 < m.xx)) = true →
 (false, ()) = (okM m, ())) ∧
((decide (1000 < m.xx)) = false →
(((decide (m.xy < (-1000))) = true →
 (false, ()) = (okM m, ())) ∧
((decide (m.xy < (-1000))) = false →
(((decide (1000 < m.xy)) = true →
 (false, ()) = (okM m, ())) ∧
((decide (1000 < m.xy)) = false →
(((decide (m.xz < (-1000))) = true →
 (false, ()) = (okM m, ())) ∧
((decide (m.xz < (-1000))) = false →
(((decide (1000 < m.xz)) = true →
 (false, ()) = (okM m, ())) ∧
((decide (1000 < m.xz)) = false →
(((decide (m.yx < (-1000))) = true →
 (false, ()) = (okM m, ())) ∧
((decide (m.yx < (-1000))) = false →
(((decide (1000 < m.yx)) = true →
 (false, ()) = (okM m, ())) ∧
((decide (1000 < m.yx)) = false →
(((decide (m.yy < (-1000))) = true →
 (false, ()) = (okM m, ())) ∧
((decide (m.yy < (-1000))) = false →
(((decide (1000 < m.yy)) = true →
 (false, ()) = (okM m, ())) ∧
((decide (1000 < m.yy)) = false →
(((decide (m.yz < (-1000))) = true →
 (false, ()) = (okM m, ())) ∧
((decide (m.yz < (-1000))) = false →
(((decide (1000 < m.yz)) = true →
 (false, ()) = (okM m, ())) ∧
((decide (1000 < m.yz)) = false →
(((decide (m.zx < (-1000))) = true →
 (false, ()) = (okM m, ())) ∧
((decide (m.zx < (-1000))) = false →
(((decide (1000 < m.zx)) = true →
 (false, ()) = (okM m, ())) ∧
((decide (1000 < m.zx)) = false →
(((decide (m.zy < (-1000))) = true →
 (false, ()) = (okM m, ())) ∧
((decide (m.zy < (-1000))) = false →
(((decide (1000 < m.zy)) = true →
 (false, ()) = (okM m, ())) ∧
((decide (1000 < m.zy)) = false →
(((decide (m.zz < (-1000))) = true →
 (false, ()) = (okM m, ())) ∧
((decide (m.zz < (-1000))) = false →
(((decide (1000 < m.zz)) = true →
 (false, ()) = (okM m, ())) ∧
((decide (1000 < m.zz)) = false →
(true, ()) = (okM m, ())))))))))))))))))))))))))))))))))))))
theorem r_r3Within (x : HL C_r3Within.args) : runs (env [] []) 400 49 C_r3Within x = T_r3Within x.1 := by kernel_rfl
theorem p_r3Within (m : M3) (h0 : (Sh.agg .mat).okA m) : T_r3Within m := by
  simp only [T_r3Within, decide_eq_true_eq, decide_eq_false_iff_not]
  repeat' (first | apply And.intro | intro _ | exact trivial)
  all_goals simp only [okM, inE, Prod.mk.injEq, and_true]
  all_goals first | (symm; simp only [Bool.and_eq_true, decide_eq_true_eq]; omega) | (symm; rw [Bool.eq_false_iff]; simp only [ne_eq, Bool.and_eq_true, decide_eq_true_eq]; omega)
theorem s_r3Within : Sound Try.prog 49 C_r3Within :=
  sound_of_eq (env_ok (.nil)) (fun x => T_r3Within x.1) r_r3Within fun x ok hp => p_r3Within x.1 ok.1
noncomputable def C_r3Part : Contract := { args := [.agg .vec], res := [.bool], pre := fun _ => True, F := fun x => ((inT x.1 : Bool), ()) }
def T_r3Part (t : V3) : Prop :=
  (((decide (t.x < 0)) = true →
 (false, ()) = (inT t, ())) ∧
((decide (t.x < 0)) = false →
(((decide (23 < t.x)) = true →
 (false, ()) = (inT t, ())) ∧
((decide (23 < t.x)) = false →
(((decide (t.y < 0)) = true →
 (false, ()) = (inT t, ())) ∧
((decide (t.y < 0)) = false →
(((decide (23 < t.y)) = true →
 (false, ()) = (inT t, ())) ∧
((decide (23 < t.y)) = false →
(((decide (t.z < 0)) = true →
 (false, ()) = (inT t, ())) ∧
((decide (t.z < 0)) = false →
(((decide (23 < t.z)) = true →
 (false, ()) = (inT t, ())) ∧
((decide (23 < t.z)) = false →
(true, ()) = (inT t, ())))))))))))))
theorem r_r3Part (x : HL C_r3Part.args) : runs (env [] []) 400 50 C_r3Part x = T_r3Part x.1 := by kernel_rfl
theorem p_r3Part (t : V3) (h0 : (Sh.agg .vec).okA t) : T_r3Part t := by
  simp only [T_r3Part, decide_eq_true_eq, decide_eq_false_iff_not]
  repeat' (first | apply And.intro | intro _ | exact trivial)
  all_goals simp only [inT, in24, Prod.mk.injEq, and_true]
  all_goals first | (symm; simp only [Bool.and_eq_true, decide_eq_true_eq]; omega) | (symm; rw [Bool.eq_false_iff]; simp only [ne_eq, Bool.and_eq_true, decide_eq_true_eq]; omega)
theorem s_r3Part : Sound Try.prog 50 C_r3Part :=
  sound_of_eq (env_ok (.nil)) (fun x => T_r3Part x.1) r_r3Part fun x ok hp => p_r3Part x.1 ok.1
noncomputable def C_r3Check : Contract := { args := [.agg .op], res := [.int .i64], pre := fun _ => True, F := fun x => ((errO x.1 : Int), ()) }
def T_r3Check (o : Op3) : Prop :=
  (True ∧
∀ z1 : Bool,
(z1 = okM o.R →
(True ∧
∀ z3 : Bool,
(z3 = inT o.T →
(((!z3) = true →
 (3, ()) = (errO o, ())) ∧
((!z3) = false →
((z1 = true →
 (True ∧
 ∀ z7 : Int,
 (z7 = w64 (detZ o.R) →
 (((!(decide (z7 = 1))) = true →
  (True ∧
  ∀ z10 : Int,
  (z10 = w64 (detZ o.R) →
  (((!(decide (z10 = (-1)))) = true →
   (3, ()) = (errO o, ())) ∧
  ((!(decide (z10 = (-1)))) = false →
  (((!z1) = true →
   (4, ()) = (errO o, ())) ∧
  ((!z1) = false →
  (0, ()) = (errO o, ())))))))) ∧
 ((!(decide (z7 = 1))) = false →
 (((!z1) = true →
  (4, ()) = (errO o, ())) ∧
 ((!z1) = false →
 (0, ()) = (errO o, ())))))))) ∧
(z1 = false →
(((!z1) = true →
 (4, ()) = (errO o, ())) ∧
((!z1) = false →
(0, ()) = (errO o, ())))))))))))
theorem r_r3Check (x : HL C_r3Check.args) : runs (env [(51, C_r3Det.hid), (49, C_r3Within.hid), (50, C_r3Part.hid)] []) 400 20 C_r3Check x = T_r3Check x.1 := by kernel_rfl
theorem p_r3Check (o : Op3) (h0 : (Sh.agg .op).okA o) : T_r3Check o := by
  cases h1 : okM o.R <;> cases h2 : inT o.T <;> by_cases d1 : w64 (detZ o.R) = 1 <;> by_cases d2 : w64 (detZ o.R) = -1 <;> simp [T_r3Check, errO, uniE, errM, h1, h2, d1, d2]
theorem s_r3Check : Sound Try.prog 20 C_r3Check :=
  sound_of_eq (env_ok (.cons s_r3Det.hid (.cons s_r3Within.hid (.cons s_r3Part.hid (.nil))))) (fun x => T_r3Check x.1) r_r3Check fun x ok hp => p_r3Check x.1 ok.1
noncomputable def C_r3two : Contract := { args := [.agg .op, .agg .op], res := [.int .i64], pre := fun _ => True, F := fun x => ((errL [x.1, x.2.1] : Int), ()) }
def T_r3two (a : Op3) (b : Op3) : Prop :=
  (True ∧
(True ∧
(((decide (errO a = 0)) = true →
 (errO b, ()) = (errL ([a, b]), ())) ∧
((decide (errO a = 0)) = false →
(((!(decide (errO b = 0))) = true →
 (((decide (errO b < errO a)) = true →
  (errO b, ()) = (errL ([a, b]), ())) ∧
 ((decide (errO b < errO a)) = false →
 (errO a, ()) = (errL ([a, b]), ())))) ∧
((!(decide (errO b = 0))) = false →
(errO a, ()) = (errL ([a, b]), ())))))))
theorem r_r3two (x : HL C_r3two.args) : runs (env [(20, C_r3Check.hid)] []) 400 55 C_r3two x = T_r3two x.1 x.2.1 := by kernel_rfl
theorem p_r3two (a : Op3) (b : Op3) (h0 : (Sh.agg .op).okA a) (h1 : (Sh.agg .op).okA b) : T_r3two a b := by
  unfold T_r3two
  rw [errL_two]
  rcases errO_034 a with ha | ha | ha <;> rcases errO_034 b with hb | hb | hb <;> simp [ha, hb]
theorem s_r3two : Sound Try.prog 55 C_r3two :=
  sound_of_eq (env_ok (.cons s_r3Check.hid (.nil))) (fun x => T_r3two x.1 x.2.1) r_r3two fun x ok hp => p_r3two x.1 x.2.1 ok.1 ok.2.1
noncomputable def C_r3One : Contract := { args := [], res := [.agg .op], pre := fun _ => True, F := fun x => ((oneO : Op3), ()) }
def T_r3One  : Prop :=
  ((Op3.mk (M3.mk 1 0 0 0 1 0 0 0 1) (V3.mk 0 0 0)), ()) = (oneO, ())
theorem r_r3One (x : HL C_r3One.args) : runs (env [] []) 400 22 C_r3One x = T_r3One  := by kernel_rfl
theorem p_r3One   : T_r3One  := by
  rfl
theorem s_r3One : Sound Try.prog 22 C_r3One :=
  sound_of_eq (env_ok (.nil)) (fun x => T_r3One ) r_r3One fun x ok hp => p_r3One  
noncomputable def C_r3Times : Contract := { args := [.agg .mat, .agg .mat], res := [.agg .mat], pre := fun _ => True, F := fun x => ((wM (mulZ x.1 x.2.1) : M3), ()) }
def T_r3Times (a : M3) (b : M3) : Prop :=
  ((M3.mk ((w64 (((w64 (((0 + (w64 (a.xx * b.xx))) + (w64 (a.xy * b.yx))))) + (w64 (a.xz * b.zx)))))) ((w64 (((w64 (((0 + (w64 (a.xx * b.xy))) + (w64 (a.xy * b.yy))))) + (w64 (a.xz * b.zy)))))) ((w64 (((w64 (((0 + (w64 (a.xx * b.xz))) + (w64 (a.xy * b.yz))))) + (w64 (a.xz * b.zz)))))) ((w64 (((w64 (((0 + (w64 (a.yx * b.xx))) + (w64 (a.yy * b.yx))))) + (w64 (a.yz * b.zx)))))) ((w64 (((w64 (((0 + (w64 (a.yx * b.xy))) + (w64 (a.yy * b.yy))))) + (w64 (a.yz * b.zy)))))) ((w64 (((w64 (((0 + (w64 (a.yx * b.xz))) + (w64 (a.yy * b.yz))))) + (w64 (a.yz * b.zz)))))) ((w64 (((w64 (((0 + (w64 (a.zx * b.xx))) + (w64 (a.zy * b.yx))))) + (w64 (a.zz * b.zx)))))) ((w64 (((w64 (((0 + (w64 (a.zx * b.xy))) + (w64 (a.zy * b.yy))))) + (w64 (a.zz * b.zy)))))) ((w64 (((w64 (((0 + (w64 (a.zx * b.xz))) + (w64 (a.zy * b.yz))))) + (w64 (a.zz * b.zz))))))), ()) = (wM (mulZ a b), ())
theorem r_r3Times (x : HL C_r3Times.args) : runs (env [] []) 400 81 C_r3Times x = T_r3Times x.1 x.2.1 := by kernel_rfl
theorem p_r3Times (a : M3) (b : M3) (h0 : (Sh.agg .mat).okA a) (h1 : (Sh.agg .mat).okA b) : T_r3Times a b := by
  simp only [T_r3Times, wM, mulZ, Int.zero_add, and_self, w64_add_l, w64_add_r, w64_sub_l, w64_sub_r, w64_mul_l, w64_mul_r, w64_w64]
theorem s_r3Times : Sound Try.prog 81 C_r3Times :=
  sound_of_eq (env_ok (.nil)) (fun x => T_r3Times x.1 x.2.1) r_r3Times fun x ok hp => p_r3Times x.1 x.2.1 ok.1 ok.2.1
noncomputable def C_r3Column : Contract := { args := [.agg .mat, .agg .vec], res := [.agg .vec], pre := fun _ => True, F := fun x => ((wV (appZ x.1 x.2.1) : V3), ()) }
def T_r3Column (m : M3) (v : V3) : Prop :=
  ((V3.mk ((w64 (((w64 (((0 + (w64 (m.xx * v.x))) + (w64 (m.xy * v.y))))) + (w64 (m.xz * v.z)))))) ((w64 (((w64 (((0 + (w64 (m.yx * v.x))) + (w64 (m.yy * v.y))))) + (w64 (m.yz * v.z)))))) ((w64 (((w64 (((0 + (w64 (m.zx * v.x))) + (w64 (m.zy * v.y))))) + (w64 (m.zz * v.z))))))), ()) = (wV (appZ m v), ())
theorem r_r3Column (x : HL C_r3Column.args) : runs (env [] []) 400 45 C_r3Column x = T_r3Column x.1 x.2.1 := by kernel_rfl
theorem p_r3Column (m : M3) (v : V3) (h0 : (Sh.agg .mat).okA m) (h1 : (Sh.agg .vec).okA v) : T_r3Column m v := by
  simp only [T_r3Column, wV, appZ, Int.zero_add, and_self, w64_add_l, w64_add_r, w64_sub_l, w64_sub_r, w64_mul_l, w64_mul_r, w64_w64]
theorem s_r3Column : Sound Try.prog 45 C_r3Column :=
  sound_of_eq (env_ok (.nil)) (fun x => T_r3Column x.1 x.2.1) r_r3Column fun x ok hp => p_r3Column x.1 x.2.1 ok.1 ok.2.1
noncomputable def C_r3Bring : Contract := { args := [.agg .vec, .int .i64], res := [.agg .vec], pre := fun x => inM x.2.1, F := fun x => ((modV x.2.1 x.1 : V3), ()) }
def T_r3Bring (v : V3) (m : Int) : Prop :=
  (inM m ∧
(inM m ∧
(inM m ∧
((V3.mk (emo v.x m) (emo v.y m) (emo v.z m)), ()) = (modV m v, ()))))
theorem r_r3Bring (x : HL C_r3Bring.args) : runs (env [(77, C_r3Mod)] []) 400 43 C_r3Bring x = T_r3Bring x.1 x.2.1 := by kernel_rfl
theorem p_r3Bring (v : V3) (m : Int) (h0 : (Sh.agg .vec).okA v) (h1 : (Sh.int .i64).okA m) (hp : inM m) : T_r3Bring v m := by
  exact ⟨hp, hp, hp, rfl⟩
theorem s_r3Bring : Sound Try.prog 43 C_r3Bring :=
  sound_of_eq (env_ok (.cons s_r3Mod (.nil))) (fun x => T_r3Bring x.1 x.2.1) r_r3Bring fun x ok hp => p_r3Bring x.1 x.2.1 ok.1 ok.2.1 hp
noncomputable def C_r3Add : Contract := { args := [.agg .vec, .agg .vec], res := [.agg .vec], pre := fun _ => True, F := fun x => ((wV (addV x.1 x.2.1) : V3), ()) }
def T_r3Add (a : V3) (b : V3) : Prop :=
  ((V3.mk ((w64 (a.x + b.x))) ((w64 (a.y + b.y))) ((w64 (a.z + b.z)))), ()) = (wV (addV a b), ())
theorem r_r3Add (x : HL C_r3Add.args) : runs (env [] []) 400 44 C_r3Add x = T_r3Add x.1 x.2.1 := by kernel_rfl
theorem p_r3Add (a : V3) (b : V3) (h0 : (Sh.agg .vec).okA a) (h1 : (Sh.agg .vec).okA b) : T_r3Add a b := by
  rfl
theorem s_r3Add : Sound Try.prog 44 C_r3Add :=
  sound_of_eq (env_ok (.nil)) (fun x => T_r3Add x.1 x.2.1) r_r3Add fun x ok hp => p_r3Add x.1 x.2.1 ok.1 ok.2.1
noncomputable def C_r3Mul : Contract := { args := [.agg .op, .agg .op], res := [.agg .op], pre := fun x => mulPre x.1 x.2.1, F := fun x => ((mulO x.1 x.2.1 : Op3), ()) }
def T_r3Mul (a : Op3) (b : Op3) : Prop :=
  (True ∧
(True ∧
(True ∧
(inM 24 ∧
((Op3.mk (wM (mulZ a.R b.R)) (modV 24 (wV (addV (wV (appZ a.R b.T)) a.T)))), ()) = (mulO a b, ())))))
theorem r_r3Mul (x : HL C_r3Mul.args) : runs (env [(81, C_r3Times.hid), (45, C_r3Column.hid), (44, C_r3Add.hid), (43, C_r3Bring.hid)] []) 400 57 C_r3Mul x = T_r3Mul x.1 x.2.1 := by kernel_rfl
theorem p_r3Mul (a : Op3) (b : Op3) (h0 : (Sh.agg .op).okA a) (h1 : (Sh.agg .op).okA b) (hp : mulPre a b) : T_r3Mul a b := by
  obtain ⟨p1, p2, p3, p4⟩ := hp
  refine ⟨trivial, trivial, trivial, k24, ?_⟩
  have hB := appB (okM_B (errM_ok.1 p1)) (bv24 p4)
  rw [mul_R p1 p2, wV_id (by decide) hB, wV_id (by decide) (addB hB (bv24 p3))]
  rfl
theorem s_r3Mul : Sound Try.prog 57 C_r3Mul :=
  sound_of_eq (env_ok (.cons s_r3Times.hid (.cons s_r3Column.hid (.cons s_r3Add.hid (.cons s_r3Bring.hid (.nil)))))) (fun x => T_r3Mul x.1 x.2.1) r_r3Mul fun x ok hp => p_r3Mul x.1 x.2.1 ok.1 ok.2.1 hp
noncomputable def C_r3Undone : Contract := { args := [.agg .mat], res := [.agg .mat], pre := fun _ => True, F := fun x => ((wM (invZ x.1) : M3), ()) }
def T_r3Undone (m : M3) : Prop :=
  (True ∧
(True ∧
(True ∧
(True ∧
(True ∧
(True ∧
(True ∧
(True ∧
(True ∧
(True ∧
((M3.mk ((w64 ((w64 (detZ (M3.mk 1 m.xy m.xz 0 m.yy m.yz 0 m.zy m.zz)) * w64 (detZ m))))) ((w64 ((w64 (detZ (M3.mk 0 m.xy m.xz 1 m.yy m.yz 0 m.zy m.zz)) * w64 (detZ m))))) ((w64 ((w64 (detZ (M3.mk 0 m.xy m.xz 0 m.yy m.yz 1 m.zy m.zz)) * w64 (detZ m))))) ((w64 ((w64 (detZ (M3.mk m.xx 1 m.xz m.yx 0 m.yz m.zx 0 m.zz)) * w64 (detZ m))))) ((w64 ((w64 (detZ (M3.mk m.xx 0 m.xz m.yx 1 m.yz m.zx 0 m.zz)) * w64 (detZ m))))) ((w64 ((w64 (detZ (M3.mk m.xx 0 m.xz m.yx 0 m.yz m.zx 1 m.zz)) * w64 (detZ m))))) ((w64 ((w64 (detZ (M3.mk m.xx m.xy 1 m.yx m.yy 0 m.zx m.zy 0)) * w64 (detZ m))))) ((w64 ((w64 (detZ (M3.mk m.xx m.xy 0 m.yx m.yy 1 m.zx m.zy 0)) * w64 (detZ m))))) ((w64 ((w64 (detZ (M3.mk m.xx m.xy 0 m.yx m.yy 0 m.zx m.zy 1)) * w64 (detZ m)))))), ()) = (wM (invZ m), ())))))))))))
theorem r_r3Undone (x : HL C_r3Undone.args) : runs (env [(51, C_r3Det)] []) 400 84 C_r3Undone x = T_r3Undone x.1 := by kernel_rfl
theorem p_r3Undone (m : M3) (h0 : (Sh.agg .mat).okA m) : T_r3Undone m := by
  have f1 : detZ (M3.mk 1 m.xy m.xz 0 m.yy m.yz 0 m.zy m.zz) = (adjZ m).xx := by simp only [detZ, adjZ]; grind
  have f2 : detZ (M3.mk 0 m.xy m.xz 1 m.yy m.yz 0 m.zy m.zz) = (adjZ m).xy := by simp only [detZ, adjZ]; grind
  have f3 : detZ (M3.mk 0 m.xy m.xz 0 m.yy m.yz 1 m.zy m.zz) = (adjZ m).xz := by simp only [detZ, adjZ]; grind
  have f4 : detZ (M3.mk m.xx 1 m.xz m.yx 0 m.yz m.zx 0 m.zz) = (adjZ m).yx := by simp only [detZ, adjZ]; grind
  have f5 : detZ (M3.mk m.xx 0 m.xz m.yx 1 m.yz m.zx 0 m.zz) = (adjZ m).yy := by simp only [detZ, adjZ]; grind
  have f6 : detZ (M3.mk m.xx 0 m.xz m.yx 0 m.yz m.zx 1 m.zz) = (adjZ m).yz := by simp only [detZ, adjZ]; grind
  have f7 : detZ (M3.mk m.xx m.xy 1 m.yx m.yy 0 m.zx m.zy 0) = (adjZ m).zx := by simp only [detZ, adjZ]; grind
  have f8 : detZ (M3.mk m.xx m.xy 0 m.yx m.yy 1 m.zx m.zy 0) = (adjZ m).zy := by simp only [detZ, adjZ]; grind
  have f9 : detZ (M3.mk m.xx m.xy 0 m.yx m.yy 0 m.zx m.zy 1) = (adjZ m).zz := by simp only [detZ, adjZ]; grind
  unfold T_r3Undone
  rw [f1, f2, f3, f4, f5, f6, f7, f8, f9]
  simp only [w64_mul_l, w64_mul_r, true_and]
  rfl
theorem s_r3Undone : Sound Try.prog 84 C_r3Undone :=
  sound_of_eq (env_ok (.cons s_r3Det (.nil))) (fun x => T_r3Undone x.1) r_r3Undone fun x ok hp => p_r3Undone x.1 ok.1
noncomputable def C_r3Back : Contract := { args := [.agg .op], res := [.agg .op], pre := fun x => frmO x.1, F := fun x => ((invO x.1 : Op3), ()) }
def T_r3Back (o : Op3) : Prop :=
  (True ∧
∀ z1 : M3,
(z1 = wM (invZ o.R) →
(True ∧
∀ z3 : V3,
(z3 = wV (appZ z1 o.T) →
(inM 24 ∧
((Op3.mk z1 (modV 24 ((V3.mk ((w64 (0 - z3.x))) ((w64 (0 - z3.y))) ((w64 (0 - z3.z))))))), ()) = (invO o, ()))))))
theorem r_r3Back (x : HL C_r3Back.args) : runs (env [(84, C_r3Undone.hid), (45, C_r3Column.hid), (43, C_r3Bring.hid)] []) 400 60 C_r3Back x = T_r3Back x.1 := by kernel_rfl
theorem p_r3Back (o : Op3) (h0 : (Sh.agg .op).okA o) (hp : frmO o) : T_r3Back o := by
  have hF := errO_ok.1 (show errO o = 0 from hp)
  have hB := invZ_B hF.B hF.d
  have hA := appB hB (bv24 hF.T)
  refine ⟨trivial, fun z hz => ⟨trivial, fun y hy => ⟨k24, ?_⟩⟩⟩
  have hz : z = invZ o.R := by rw [hz]; exact wM_id (by decide) hB
  subst hz
  rw [wV_id (by decide) hA] at hy
  have hn : V3.mk (w64 (0 - y.x)) (w64 (0 - y.y)) (w64 (0 - y.z)) = negV (appZ (invZ o.R) o.T) := by
    obtain ⟨a1, a2, a3⟩ := hA
    rw [hy]
    rw [w64_id (by omega) (by omega), w64_id (by omega) (by omega), w64_id (by omega) (by omega), Int.zero_sub, Int.zero_sub, Int.zero_sub]
    rfl
  rw [hn]; rfl
theorem s_r3Back : Sound Try.prog 60 C_r3Back :=
  sound_of_eq (env_ok (.cons s_r3Undone.hid (.cons s_r3Column.hid (.cons s_r3Bring.hid (.nil))))) (fun x => T_r3Back x.1) r_r3Back fun x ok hp => p_r3Back x.1 ok.1 hp
noncomputable def C_r3trace : Contract := { args := [.agg .mat], res := [.int .i64], pre := fun _ => True, F := fun x => ((w64 (trcZ x.1) : Int), ()) }
def T_r3trace (m : M3) : Prop :=
  ((w64 (((w64 (m.xx + m.yy)) + m.zz))), ()) = (w64 (trcZ m), ())
theorem r_r3trace (x : HL C_r3trace.args) : runs (env [] []) 400 90 C_r3trace x = T_r3trace x.1 := by kernel_rfl
theorem p_r3trace (m : M3) (h0 : (Sh.agg .mat).okA m) : T_r3trace m := by
  simp only [T_r3trace, trcZ, Int.zero_add, and_self, w64_add_l, w64_add_r, w64_sub_l, w64_sub_r, w64_mul_l, w64_mul_r, w64_w64]
theorem s_r3trace : Sound Try.prog 90 C_r3trace :=
  sound_of_eq (env_ok (.nil)) (fun x => T_r3trace x.1) r_r3trace fun x ok hp => p_r3trace x.1 ok.1
end Go.Fx
