/-
  Contracts: tsmall, tamong, tdot, tproduct, tturned.
-/
import Derived.Test.YthoicknhjjlnjaaGreatK11
namespace Go.Fx
open Go Go.Proofs
set_option maxRecDepth 100000
set_option linter.unusedVariables false
set_option linter.unusedSimpArgs false
set_option linter.unusedSectionVars false
noncomputable def C_tsmall : Contract := { args := [.agg .v8], res := [.agg .vec], pre := fun _ => True, F := fun x => ((smlV x.1 : V3), ()) }
def T_tsmall (h : V3) : Prop :=
  ((V3.mk (((h.x % 11) - 5)) (((h.y % 11) - 5)) (((h.z % 11) - 5))), ()) = (smlV h, ())
theorem r_tsmall (x : HL C_tsmall.args) : runs (env0 [] [] []) 400 6 C_tsmall x = T_tsmall x.1 := by kernel_rfl
theorem p_tsmall (h : V3) (h0 : (Sh.agg .v8).okA h) : T_tsmall h := by
  rfl
theorem s_tsmall : Sound Tryz.prog 6 C_tsmall :=
  sound_of_eq (env0_ok (.nil)) (fun x => T_tsmall x.1) r_tsmall fun x ok hp => p_tsmall x.1 ok.1
noncomputable def C_tamong : Contract := { args := [.int .i64, .int .i64], res := [.int .i64], pre := fun x => amP x.2.1, F := fun x => ((amo x.1 x.2.1 : Int), ()) }
def T_tamong (n : Int) (m : Int) : Prop :=
  ((m ≠ 0) ∧
(((decide ((Int.tmod n m) < 0)) = true →
 ((w64 (((Int.tmod n m) + m))), ()) = (amo n m, ())) ∧
((decide ((Int.tmod n m) < 0)) = false →
((Int.tmod n m), ()) = (amo n m, ()))))
theorem r_tamong (x : HL C_tamong.args) : runs (env0 [] [] []) 400 15 C_tamong x = T_tamong x.1 x.2.1 := by kernel_rfl
theorem p_tamong (n : Int) (m : Int) (h0 : (Sh.int .i64).okA n) (h1 : (Sh.int .i64).okA m) (hp : amP m) : T_tamong n m := by
  obtain ⟨m1, m2⟩ := hp
  unfold T_tamong amo
  have hb : (n.tmod m).natAbs < m.natAbs := by rw [Int.natAbs_tmod]; exact Nat.mod_lt _ (by omega)
  have he : (n.tmod m) % m = n % m := by
    have h := Int.tmod_add_tdiv_mul n m
    rw [show n % m = (n.tmod m + n.tdiv m * m) % m from by rw [h], Int.add_mul_emod_self_right]
  rw [← he]
  generalize Int.tmod n m = t at hb
  refine ⟨by omega, fun h => ?_, fun h => ?_⟩
  · have h := of_decide_eq_true h
    rw [w64_id (by omega) (by omega), ← Int.add_emod_right, Int.emod_eq_of_lt (by omega) (by omega)]
  · have h := of_decide_eq_false h
    rw [Int.emod_eq_of_lt (by omega) (by omega)]
theorem s_tamong : Sound Tryz.prog 15 C_tamong :=
  sound_of_eq (env0_ok (.nil)) (fun x => T_tamong x.1 x.2.1) r_tamong fun x ok hp => p_tamong x.1 x.2.1 ok.1 ok.2.1 hp
noncomputable def C_tdot : Contract := { args := [.agg .vec, .agg .vec], res := [.int .i64], pre := fun _ => True, F := fun x => ((w64 (dotV x.1 x.2.1) : Int), ()) }
def T_tdot (h : V3) (x : V3) : Prop :=
  ((w64 (((w64 (((w64 (h.x * x.x)) + (w64 (h.y * x.y))))) + (w64 (h.z * x.z))))), ()) = (w64 (dotV h x), ())
theorem r_tdot (x : HL C_tdot.args) : runs (env0 [] [] []) 400 17 C_tdot x = T_tdot x.1 x.2.1 := by kernel_rfl
theorem p_tdot (h : V3) (x : V3) (h0 : (Sh.agg .vec).okA h) (h1 : (Sh.agg .vec).okA x) : T_tdot h x := by
  unfold T_tdot dotV
  simp only [w64_add_l, w64_add_r, w64_sub_l, w64_sub_r, w64_w64]
theorem s_tdot : Sound Tryz.prog 17 C_tdot :=
  sound_of_eq (env0_ok (.nil)) (fun x => T_tdot x.1 x.2.1) r_tdot fun x ok hp => p_tdot x.1 x.2.1 ok.1 ok.2.1
noncomputable def C_tproduct : Contract := { args := [.agg .op, .agg .op], res := [.agg .op], pre := fun _ => True, F := fun x => ((prdO x.1 x.2.1 : Op3), ()) }
def T_tproduct (x : Op3) (y : Op3) : Prop :=
  (True ∧
(True ∧
(amP 24 ∧
(True ∧
(amP 24 ∧
(True ∧
(amP 24 ∧
((Op3.mk (wM (mulZ x.R y.R)) ((V3.mk (amo ((w64 ((w64 (dotV (V3.mk x.R.xx x.R.xy x.R.xz) y.T) + x.T.x)))) 24) (amo ((w64 ((w64 (dotV (V3.mk x.R.yx x.R.yy x.R.yz) y.T) + x.T.y)))) 24) (amo ((w64 ((w64 (dotV (V3.mk x.R.zx x.R.zy x.R.zz) y.T) + x.T.z)))) 24)))), ()) = (prdO x y, ()))))))))
theorem r_tproduct (x : HL C_tproduct.args) : runs (env0 [(37, C_ttimes), (17, C_tdot), (15, C_tamong)] [] []) 400 14 C_tproduct x = T_tproduct x.1 x.2.1 := by kernel_rfl
theorem p_tproduct (x : Op3) (y : Op3) (h0 : (Sh.agg .op).okA x) (h1 : (Sh.agg .op).okA y) : T_tproduct x y := by
  exact ⟨trivial, trivial, ⟨by decide, by decide⟩, trivial, ⟨by decide, by decide⟩, trivial, ⟨by decide, by decide⟩, rfl⟩
theorem s_tproduct : Sound Tryz.prog 14 C_tproduct :=
  sound_of_eq (env0_ok (.cons s_ttimes (.cons s_tdot (.cons s_tamong (.nil))))) (fun x => T_tproduct x.1 x.2.1) r_tproduct fun x ok hp => p_tproduct x.1 x.2.1 ok.1 ok.2.1
noncomputable def C_tturned : Contract := { args := [.agg .op, .agg .vec], res := [.agg .vec], pre := fun _ => True, F := fun x => ((tuV x.1.R x.2.1 : V3), ()) }
def T_tturned (o : Op3) (h : V3) : Prop :=
  ((V3.mk ((w64 (((w64 (((w64 (h.x * o.R.xx)) + (w64 (h.y * o.R.yx))))) + (w64 (h.z * o.R.zx)))))) ((w64 (((w64 (((w64 (h.x * o.R.xy)) + (w64 (h.y * o.R.yy))))) + (w64 (h.z * o.R.zy)))))) ((w64 (((w64 (((w64 (h.x * o.R.xz)) + (w64 (h.y * o.R.yz))))) + (w64 (h.z * o.R.zz))))))), ()) = (tuV o.R h, ())
theorem r_tturned (x : HL C_tturned.args) : runs (env0 [] [] []) 400 18 C_tturned x = T_tturned x.1 x.2.1 := by kernel_rfl
theorem p_tturned (o : Op3) (h : V3) (h0 : (Sh.agg .op).okA o) (h1 : (Sh.agg .vec).okA h) : T_tturned o h := by
  simp only [T_tturned, tuV, wV, appZ, traZ, Int.zero_add, w64_add_l, w64_add_r, w64_sub_l, w64_sub_r, w64_mul_l, w64_mul_r, w64_w64, Int.mul_comm]
theorem s_tturned : Sound Tryz.prog 18 C_tturned :=
  sound_of_eq (env0_ok (.nil)) (fun x => T_tturned x.1 x.2.1) r_tturned fun x ok hp => p_tturned x.1 x.2.1 ok.1 ok.2.1
end Go.Fx
