/-
  Contracts: VecAdjoins.
-/
import Derived.Test.YtgnidjcidocpkaaK12
namespace Go.Fx
open Go Go.Proofs
set_option maxRecDepth 100000
set_option linter.unusedVariables false
noncomputable def C_VecAdjoins : Contract := { args := [.agg .mat], res := [.bool], pre := fun _ => True, F := fun x => ((true : Bool), ()) }
def T_VecAdjoins (m : M3) : Prop :=
  (True ∧
(((!true) = true →
 (false, ()) = (true, ())) ∧
((!true) = false →
(inK1000 20 ∧
∀ z2 : M3,
(z2 = tamM 20 m →
(True ∧
∀ z4 : M3,
(z4 = selM (errM z2) (wM (adjZ z2)) →
∀ z6 : Int,
(z6 = errM z2 →
(True ∧
∀ z8 : Int,
(z8 = selI (errM z2) (w64 (detZ z2)) →
∀ z10 : Int,
(z10 = errM z2 →
(((!(decide (z6 = 0))) = true →
 (false, ()) = (true, ())) ∧
((!(decide (z6 = 0))) = false →
(((!(decide (z10 = 0))) = true →
 (false, ()) = (true, ())) ∧
((!(decide (z10 = 0))) = false →
(True ∧
∀ z14 : M3,
(z14 = selM (err2 (errM z2) (errM z4)) (wM (mulZ z2 z4)) →
∀ z16 : Int,
(z16 = err2 (errM z2) (errM z4) →
(True ∧
∀ z18 : M3,
(z18 = selM (err2 (errM z4) (errM z2)) (wM (mulZ z4 z2)) →
∀ z20 : Int,
(z20 = err2 (errM z4) (errM z2) →
(((!(decide (z16 = 0))) = true →
 (false, ()) = (true, ())) ∧
((!(decide (z16 = 0))) = false →
(((!(decide (z20 = 0))) = true →
 (false, ()) = (true, ())) ∧
((!(decide (z20 = 0))) = false →
(True ∧
(((!((decide (z14.xx = (oneZ z8).xx)) && ((decide (z14.xy = (oneZ z8).xy)) && ((decide (z14.xz = (oneZ z8).xz)) && ((decide (z14.yx = (oneZ z8).yx)) && ((decide (z14.yy = (oneZ z8).yy)) && ((decide (z14.yz = (oneZ z8).yz)) && ((decide (z14.zx = (oneZ z8).zx)) && ((decide (z14.zy = (oneZ z8).zy)) && ((decide (z14.zz = (oneZ z8).zz)) && true)))))))))) = true →
 (false, ()) = (true, ())) ∧
((!((decide (z14.xx = (oneZ z8).xx)) && ((decide (z14.xy = (oneZ z8).xy)) && ((decide (z14.xz = (oneZ z8).xz)) && ((decide (z14.yx = (oneZ z8).yx)) && ((decide (z14.yy = (oneZ z8).yy)) && ((decide (z14.yz = (oneZ z8).yz)) && ((decide (z14.zx = (oneZ z8).zx)) && ((decide (z14.zy = (oneZ z8).zy)) && ((decide (z14.zz = (oneZ z8).zz)) && true)))))))))) = false →
(((!((decide (z18.xx = z14.xx)) && ((decide (z18.xy = z14.xy)) && ((decide (z18.xz = z14.xz)) && ((decide (z18.yx = z14.yx)) && ((decide (z18.yy = z14.yy)) && ((decide (z18.yz = z14.yz)) && ((decide (z18.zx = z14.zx)) && ((decide (z18.zy = z14.zy)) && ((decide (z18.zz = z14.zz)) && true)))))))))) = true →
 (false, ()) = (true, ())) ∧
((!((decide (z18.xx = z14.xx)) && ((decide (z18.xy = z14.xy)) && ((decide (z18.xz = z14.xz)) && ((decide (z18.yx = z14.yx)) && ((decide (z18.yy = z14.yy)) && ((decide (z18.yz = z14.yz)) && ((decide (z18.zx = z14.zx)) && ((decide (z18.zy = z14.zy)) && ((decide (z18.zz = z14.zz)) && true)))))))))) = false →
(True ∧
∀ z26 : M3,
(z26 = selM (uniE z2) (wM (scaZ (detZ z2) (adjZ z2))) →
∀ z28 : Int,
(z28 = uniE z2 →
(((!(decide (z8 = 1))) = true →
 (((!(decide (z8 = (-1)))) = true →
  (((decide (z28 = 3)) = true →
   (((decide (z26.xx = 0)) && ((decide (z26.xy = 0)) && ((decide (z26.xz = 0)) && ((decide (z26.yx = 0)) && ((decide (z26.yy = 0)) && ((decide (z26.yz = 0)) && ((decide (z26.zx = 0)) && ((decide (z26.zy = 0)) && ((decide (z26.zz = 0)) && true))))))))), ()) = (true, ())) ∧
  ((decide (z28 = 3)) = false →
  (false, ()) = (true, ())))) ∧
 ((!(decide (z8 = (-1)))) = false →
 (True ∧
 ∀ z32 : M3,
 (z32 = selM (err2 (errM z26) (errM z2)) (wM (mulZ z26 z2)) →
 ∀ z34 : Int,
 (z34 = err2 (errM z26) (errM z2) →
 (True ∧
 ∀ z36 : Int,
 (z36 = selI (errM z26) (w64 (detZ z26)) →
 ∀ z38 : Int,
 (z38 = errM z26 →
 (((decide (z28 = 0)) = true →
  (((decide (z34 = 0)) = true →
   (((decide (z38 = 0)) = true →
    (True ∧
    ((((decide (z32.xx = (oneZ 1).xx)) && ((decide (z32.xy = (oneZ 1).xy)) && ((decide (z32.xz = (oneZ 1).xz)) && ((decide (z32.yx = (oneZ 1).yx)) && ((decide (z32.yy = (oneZ 1).yy)) && ((decide (z32.yz = (oneZ 1).yz)) && ((decide (z32.zx = (oneZ 1).zx)) && ((decide (z32.zy = (oneZ 1).zy)) && ((decide (z32.zz = (oneZ 1).zz)) && true))))))))) = true →
     ((decide (z36 = z8)), ()) = (true, ())) ∧
    (((decide (z32.xx = (oneZ 1).xx)) && ((decide (z32.xy = (oneZ 1).xy)) && ((decide (z32.xz = (oneZ 1).xz)) && ((decide (z32.yx = (oneZ 1).yx)) && ((decide (z32.yy = (oneZ 1).yy)) && ((decide (z32.yz = (oneZ 1).yz)) && ((decide (z32.zx = (oneZ 1).zx)) && ((decide (z32.zy = (oneZ 1).zy)) && ((decide (z32.zz = (oneZ 1).zz)) && true))))))))) = false →
    (false, ()) = (true, ()))))) ∧
   ((decide (z38 = 0)) = false →
   (false, ()) = (true, ())))) ∧
  ((decide (z34 = 0)) = false →
  (false, ()) = (true, ())))) ∧
 ((decide (z28 = 0)) = false →
 (false, ()) = (true, ())))))))))))) ∧
((!(decide (z8 = 1))) = false →
(True ∧
∀ z31 : M3,
(z31 = selM (err2 (errM z26) (errM z2)) (wM (mulZ z26 z2)) →
∀ z33 : Int,
(z33 = err2 (errM z26) (errM z2) →
(True ∧
∀ z35 : Int,
(z35 = selI (errM z26) (w64 (detZ z26)) →
∀ z37 : Int,
(z37 = errM z26 →
(((decide (z28 = 0)) = true →
 (((decide (z33 = 0)) = true →
  (((decide (z37 = 0)) = true →
   (True ∧
   ((((decide (z31.xx = (oneZ 1).xx)) && ((decide (z31.xy = (oneZ 1).xy)) && ((decide (z31.xz = (oneZ 1).xz)) && ((decide (z31.yx = (oneZ 1).yx)) && ((decide (z31.yy = (oneZ 1).yy)) && ((decide (z31.yz = (oneZ 1).yz)) && ((decide (z31.zx = (oneZ 1).zx)) && ((decide (z31.zy = (oneZ 1).zy)) && ((decide (z31.zz = (oneZ 1).zz)) && true))))))))) = true →
    ((decide (z35 = z8)), ()) = (true, ())) ∧
   (((decide (z31.xx = (oneZ 1).xx)) && ((decide (z31.xy = (oneZ 1).xy)) && ((decide (z31.xz = (oneZ 1).xz)) && ((decide (z31.yx = (oneZ 1).yx)) && ((decide (z31.yy = (oneZ 1).yy)) && ((decide (z31.yz = (oneZ 1).yz)) && ((decide (z31.zx = (oneZ 1).zx)) && ((decide (z31.zy = (oneZ 1).zy)) && ((decide (z31.zz = (oneZ 1).zz)) && true))))))))) = false →
   (false, ()) = (true, ()))))) ∧
  ((decide (z37 = 0)) = false →
  (false, ()) = (true, ())))) ∧
 ((decide (z33 = 0)) = false →
 (false, ()) = (true, ())))) ∧
((decide (z28 = 0)) = false →
(false, ()) = (true, ()))))))))))))))))))))))))))))))))))))))))))))
theorem r_VecAdjoins (x : HL C_VecAdjoins.args) : runs (env [(10, C_awake), (21, C_tame.hid), (32, C_Adjugate.hid), (22, C_Det.hid), (11, C_Mul.hid), (31, C_One.hid), (25, C_Inverse.hid), (29, C_Identity)] []) 400 9 C_VecAdjoins x = T_VecAdjoins x.1 := by kernel_rfl
theorem p_VecAdjoins (m : M3) (h0 : (Sh.agg .mat).okA m) : T_VecAdjoins m := by
  have hB := tamM_B (k := 20) (by decide) m
  unfold T_VecAdjoins
  generalize tamM 20 m = M at hB ⊢
  have aB : Bnd 800 (adjZ M) := adjZ_B hB
  have e0 := errM_B (by decide) hB
  have e1 := errM_B (by decide) aB
  have a0 : wM (adjZ M) = adjZ M := wM_id (by decide) aB
  have p1 : wM (mulZ M (adjZ M)) = oneZ (detZ M) := by rw [wM_id (by decide) (mulZ_B hB aB), adj_r]
  have p2 : wM (mulZ (adjZ M) M) = oneZ (detZ M) := by rw [wM_id (by decide) (mulZ_B aB hB), adj_l]
  have hdB := detZ_B hB
  have d0 : w64 (detZ M) = detZ M := w64_id (by omega) (by omega)
  have k0 : inK1000 20 := ⟨by decide, by decide⟩
  by_cases hd : detZ M = 1 ∨ detZ M = -1
  · have hu : uniE M = 0 := by unfold uniE; rw [if_pos e0, d0, if_pos hd]
    have qB : Bnd 800 (invZ M) := sca_B aB hd
    have q0 : wM (scaZ (detZ M) (adjZ M)) = invZ M := wM_id (by decide) qB
    have q1 := errM_B (by decide) qB
    have q2 : wM (mulZ (invZ M) M) = oneZ 1 := by rw [wM_id (by decide) (mulZ_B qB hB), inv_l hd]
    have q3 : w64 (detZ (invZ M)) = detZ M := by rw [det_sca_adj hd, d0]
    rcases hd with hd | hd <;> rw [hd] at d0 p1 p2 q0 q3 <;> simp [e0, e1, a0, p1, p2, d0, k0, hu, q0, q1, q2, q3, selM, selI, err2, hd]
  · have hu : uniE M = 3 := by unfold uniE; rw [if_pos e0, d0, if_neg hd]
    have n1 : detZ M ≠ 1 := fun h => hd (.inl h)
    have n2 : detZ M ≠ -1 := fun h => hd (.inr h)
    simp [e0, e1, a0, p1, p2, d0, k0, hu, selM, selI, err2, n1, n2]
theorem s_VecAdjoins : Sound Try.prog 9 C_VecAdjoins :=
  sound_of_eq (env_ok (.cons s_awake (.cons s_tame.hid (.cons s_Adjugate.hid (.cons s_Det.hid (.cons s_Mul.hid (.cons s_One.hid (.cons s_Inverse.hid (.cons s_Identity (.nil)))))))))) (fun x => T_VecAdjoins x.1) r_VecAdjoins fun x ok hp => p_VecAdjoins x.1 ok.1
end Go.Fx
