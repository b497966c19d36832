/-
  Contracts: r3flat, r3Compare, mir6, mirror6, sorted6.
-/
import Derived.Test.YtkmbomopkojgfaaK12
import Derived.Test.YtkmbomopkojgfaaHe
namespace Go.Fx
open Go Go.Proofs
set_option maxRecDepth 100000
set_option linter.unusedVariables false
set_option linter.unusedSimpArgs false
set_option linter.unusedSectionVars false
noncomputable def C_r3flat : Contract := { args := [.agg .op], res := [.agg .op], pre := fun _ => True, F := fun x => ((x.1 : Op3), ()) }
def T_r3flat (o : Op3) : Prop :=
  (o, ()) = (o, ())
theorem r_r3flat (x : HL C_r3flat.args) : runs (env0 [] [] []) 400 69 C_r3flat x = T_r3flat x.1 := by kernel_rfl
theorem p_r3flat (o : Op3) (h0 : (Sh.agg .op).okA o) : T_r3flat o := by
  rfl
theorem s_r3flat : Sound Try.prog 69 C_r3flat :=
  sound_of_eq (env0_ok (.nil)) (fun x => T_r3flat x.1) r_r3flat fun x ok hp => p_r3flat x.1 ok.1
noncomputable def C_r3Compare : Contract := { args := [.agg .op, .agg .op], res := [.int .i64], pre := fun _ => True, F := fun x => ((cmpO x.1 x.2.1 : Int), ()) }
def T_r3Compare (a : Op3) (b : Op3) : Prop :=
  (True ∧
(True ∧
(((decide (a.R.xx < b.R.xx)) = true →
 ((-1), ()) = (cmpO a b, ())) ∧
((decide (a.R.xx < b.R.xx)) = false →
(((decide (b.R.xx < a.R.xx)) = true →
 (1, ()) = (cmpO a b, ())) ∧
((decide (b.R.xx < a.R.xx)) = false →
(((decide (a.R.xy < b.R.xy)) = true →
 ((-1), ()) = (cmpO a b, ())) ∧
((decide (a.R.xy < b.R.xy)) = false →
(((decide (b.R.xy < a.R.xy)) = true →
 (1, ()) = (cmpO a b, ())) ∧
((decide (b.R.xy < a.R.xy)) = false →
(((decide (a.R.xz < b.R.xz)) = true →
 ((-1), ()) = (cmpO a b, ())) ∧
((decide (a.R.xz < b.R.xz)) = false →
(((decide (b.R.xz < a.R.xz)) = true →
 (1, ()) = (cmpO a b, ())) ∧
((decide (b.R.xz < a.R.xz)) = false →
(((decide (a.R.yx < b.R.yx)) = true →
 ((-1), ()) = (cmpO a b, ())) ∧
((decide (a.R.yx < b.R.yx)) = false →
(((decide (b.R.yx < a.R.yx)) = true →
 (1, ()) = (cmpO a b, ())) ∧
((decide (b.R.yx < a.R.yx)) = false →
(((decide (a.R.yy < b.R.yy)) = true →
 ((-1), ()) = (cmpO a b, ())) ∧
((decide (a.R.yy < b.R.yy)) = false →
(((decide (b.R.yy < a.R.yy)) = true →
 (1, ()) = (cmpO a b, ())) ∧
((decide (b.R.yy < a.R.yy)) = false →
(((decide (a.R.yz < b.R.yz)) = true →
 ((-1), ()) = (cmpO a b, ())) ∧
((decide (a.R.yz < b.R.yz)) = false →
(((decide (b.R.yz < a.R.yz)) = true →
 (1, ()) = (cmpO a b, ())) ∧
((decide (b.R.yz < a.R.yz)) = false →
(((decide (a.R.zx < b.R.zx)) = true →
 ((-1), ()) = (cmpO a b, ())) ∧
((decide (a.R.zx < b.R.zx)) = false →
(((decide (b.R.zx < a.R.zx)) = true →
 (1, ()) = (cmpO a b, ())) ∧
((decide (b.R.zx < a.R.zx)) = false →
(((decide (a.R.zy < b.R.zy)) = true →
 ((-1), ()) = (cmpO a b, ())) ∧
((decide (a.R.zy < b.R.zy)) = false →
(((decide (b.R.zy < a.R.zy)) = true →
 (1, ()) = (cmpO a b, ())) ∧
((decide (b.R.zy < a.R.zy)) = false →
(((decide (a.R.zz < b.R.zz)) = true →
 ((-1), ()) = (cmpO a b, ())) ∧
((decide (a.R.zz < b.R.zz)) = false →
(((decide (b.R.zz < a.R.zz)) = true →
 (1, ()) = (cmpO a b, ())) ∧
((decide (b.R.zz < a.R.zz)) = false →
(((decide (a.T.x < b.T.x)) = true →
 ((-1), ()) = (cmpO a b, ())) ∧
((decide (a.T.x < b.T.x)) = false →
(((decide (b.T.x < a.T.x)) = true →
 (1, ()) = (cmpO a b, ())) ∧
((decide (b.T.x < a.T.x)) = false →
(((decide (a.T.y < b.T.y)) = true →
 ((-1), ()) = (cmpO a b, ())) ∧
((decide (a.T.y < b.T.y)) = false →
(((decide (b.T.y < a.T.y)) = true →
 (1, ()) = (cmpO a b, ())) ∧
((decide (b.T.y < a.T.y)) = false →
(((decide (a.T.z < b.T.z)) = true →
 ((-1), ()) = (cmpO a b, ())) ∧
((decide (a.T.z < b.T.z)) = false →
(((decide (b.T.z < a.T.z)) = true →
 (1, ()) = (cmpO a b, ())) ∧
((decide (b.T.z < a.T.z)) = false →
(0, ()) = (cmpO a b, ())))))))))))))))))))))))))))))))))))))))))))))))))))
theorem r_r3Compare (x : HL C_r3Compare.args) : runs (env0 [(69, C_r3flat)] [] []) 400 53 C_r3Compare x = T_r3Compare x.1 x.2.1 := by kernel_rfl
theorem p_r3Compare (a : Op3) (b : Op3) (h0 : (Sh.agg .op).okA a) (h1 : (Sh.agg .op).okA b) : T_r3Compare a b := by
  unfold T_r3Compare
  rw [cmpO_lex]
  simp only [decide_eq_true_eq, decide_eq_false_iff_not]
  repeat' (first | apply And.intro | intro _ | exact trivial)
  all_goals simp [Op3.row, lexL, cmpE, *]
theorem s_r3Compare : Sound Try.prog 53 C_r3Compare :=
  sound_of_eq (env0_ok (.cons s_r3flat (.nil))) (fun x => T_r3Compare x.1 x.2.1) r_r3Compare fun x ok hp => p_r3Compare x.1 x.2.1 ok.1 ok.2.1
noncomputable def C_mir6 : Contract := { args := [.int .i64, .int .i64, .int .i64, .int .i64], res := [.agg .op], pre := fun _ => True, F := fun x => ((miO x.1 x.2.1 x.2.2.1 x.2.2.2.1 : Op3), ()) }
def T_mir6 (a : Int) (b : Int) (c : Int) (d : Int) : Prop :=
  ((Op3.mk (M3.mk a b 0 c d 0 0 0 1) (V3.mk 0 0 0)), ()) = (miO a b c d, ())
theorem r_mir6 (x : HL C_mir6.args) : runs (env0 [] [] []) 400 48 C_mir6 x = T_mir6 x.1 x.2.1 x.2.2.1 x.2.2.2.1 := by kernel_rfl
theorem p_mir6 (a : Int) (b : Int) (c : Int) (d : Int) (h0 : (Sh.int .i64).okA a) (h1 : (Sh.int .i64).okA b) (h2 : (Sh.int .i64).okA c) (h3 : (Sh.int .i64).okA d) : T_mir6 a b c d := by
  unfold T_mir6
  rfl
theorem s_mir6 : Sound Try.prog 48 C_mir6 :=
  sound_of_eq (env0_ok (.nil)) (fun x => T_mir6 x.1 x.2.1 x.2.2.1 x.2.2.2.1) r_mir6 fun x ok hp => p_mir6 x.1 x.2.1 x.2.2.1 x.2.2.2.1 ok.1 ok.2.1 ok.2.2.1 ok.2.2.2.1
noncomputable def C_mirror6 : Contract := { args := [], res := [.list .op], pre := fun _ => True, F := fun x => ((mirO : List Op3), ()) }
def T_mirror6  : Prop :=
  (True ∧
(True ∧
(True ∧
(True ∧
(True ∧
(True ∧
(True ∧
(True ∧
([(miO (-1) 0 0 (-1)), (miO (-1) 0 0 1), (miO 0 (-1) (-1) 0), (miO 0 (-1) 1 0), (miO 0 1 (-1) 0), (miO 0 1 1 0), (miO 1 0 0 (-1)), (miO 1 0 0 1)], ()) = (mirO, ())))))))))
theorem r_mirror6 (x : HL C_mirror6.args) : runs (env0 [(48, C_mir6)] [] []) 400 19 C_mirror6 x = T_mirror6  := by kernel_rfl
theorem p_mirror6   : T_mirror6  := by
  unfold T_mirror6
  exact ⟨trivial, trivial, trivial, trivial, trivial, trivial, trivial, trivial, rfl⟩
theorem s_mirror6 : Sound Try.prog 19 C_mirror6 :=
  sound_of_eq (env0_ok (.cons s_mir6 (.nil))) (fun x => T_mirror6 ) r_mirror6 fun x ok hp => p_mirror6  
noncomputable def C_sorted6 : Contract := { args := [.list .op], res := [.list .op], pre := fun x => so192 x.1, F := fun x => ((insO x.1 : List Op3), ()) }
def T_sorted6 (l : List Op3) : Prop :=
  (soI l [] 0 ∧
∀ z1 : List Op3,
∀ z2 : Int,
((decide ((-9223372036854775808) ≤ z2)) = true →
((decide (z2 ≤ 9223372036854775807)) = true →
(soI l z1 z2 →
(lfit 96 z1 →
(((decide (z2 < (l.length : Int))) = true →
 (inB l z2 ∧
 (puInv z1 (((l.getD (z2).toNat zerO))) 0 ∧
 ∀ z8 : Int,
 ((decide ((-9223372036854775808) ≤ z8)) = true →
 ((decide (z8 ≤ 9223372036854775807)) = true →
 (puInv z1 (((l.getD (z2).toNat zerO))) z8 →
 (((decide (z8 < (z1.length : Int))) = true →
  (inB z1 z8 ∧
  (True ∧
  (((decide (cmpO (((z1.getD (z8).toNat zerO))) (((l.getD (z2).toNat zerO))) < 0)) = true →
   (puInv z1 (((l.getD (z2).toNat zerO))) ((w64 (z8 + 1))) ∧
   ((decide (0 ≤ opMu z1 ((w64 (z8 + 1))))) = true ∧
   (decide (opMu z1 ((w64 (z8 + 1))) < opMu z1 z8)) = true))) ∧
  ((decide (cmpO (((z1.getD (z8).toNat zerO))) (((l.getD (z2).toNat zerO))) < 0)) = false →
  ((leP 0 0 ∧
   (leP 0 z8 ∧
   leP z8 (z1.length : Int))) ∧
  (lfit 96 (lapp [] (lsub z1 0 z8)) ∧
  (lfit 96 (lapp (lapp [] (lsub z1 0 z8)) ([((l.getD (z2).toNat zerO))])) ∧
  ((leP 0 z8 ∧
   (leP z8 (z1.length : Int) ∧
   leP (z1.length : Int) (z1.length : Int))) ∧
  (lfit 96 (lapp (lapp (lapp [] (lsub z1 0 z8)) ([((l.getD (z2).toNat zerO))])) (lsub z1 z8 (((z1.length : Int) - z8)))) ∧
  (soI l (lapp (lapp (lapp [] (lsub z1 0 z8)) ([((l.getD (z2).toNat zerO))])) (lsub z1 z8 (((z1.length : Int) - z8)))) ((w64 (z2 + 1))) ∧
  ((decide (0 ≤ opMu l ((w64 (z2 + 1))))) = true ∧
  (decide (opMu l ((w64 (z2 + 1))) < opMu l z2)) = true)))))))))))) ∧
 ((decide (z8 < (z1.length : Int))) = false →
 ((leP 0 0 ∧
  (leP 0 z8 ∧
  leP z8 (z1.length : Int))) ∧
 (lfit 96 (lapp [] (lsub z1 0 z8)) ∧
 (lfit 96 (lapp (lapp [] (lsub z1 0 z8)) ([((l.getD (z2).toNat zerO))])) ∧
 ((leP 0 z8 ∧
  (leP z8 (z1.length : Int) ∧
  leP (z1.length : Int) (z1.length : Int))) ∧
 (lfit 96 (lapp (lapp (lapp [] (lsub z1 0 z8)) ([((l.getD (z2).toNat zerO))])) (lsub z1 z8 (((z1.length : Int) - z8)))) ∧
 (soI l (lapp (lapp (lapp [] (lsub z1 0 z8)) ([((l.getD (z2).toNat zerO))])) (lsub z1 z8 (((z1.length : Int) - z8)))) ((w64 (z2 + 1))) ∧
 ((decide (0 ≤ opMu l ((w64 (z2 + 1))))) = true ∧
 (decide (opMu l ((w64 (z2 + 1))) < opMu l z2)) = true))))))))))))))) ∧
((decide (z2 < (l.length : Int))) = false →
(z1, ()) = (insO l, ()))))))))
theorem r_sorted6 (x : HL C_sorted6.args) : runs (env0 [(53, C_r3Compare.hid)] [(27, 3, { fix := [], vars := [(.tmp 3, .list .op), (.tmp 10, .int .i64)], inv := fun y v => soI x.1 v.1 v.2.1, mu := fun y v => opMu x.1 v.2.1 }), (27, 6, { fix := [(.tmp 3, .list .op), (.cell 5, .agg .op)], vars := [(.tmp 6, .int .i64)], inv := fun y v => puInv y.1 y.2.1 v.1, mu := fun y v => opMu y.1 v.1 })] []) 1500 27 C_sorted6 x = T_sorted6 x.1 := by kernel_rfl
theorem p_sorted6 (l : List Op3) (h0 : (Sh.list .op).okA l) (hp : so192 l) : T_sorted6 l := by
  have hl : l.length ≤ 192 := hp
  unfold T_sorted6
  refine ⟨⟨⟨Int.le_refl _, by omega⟩, rfl⟩, fun s i _ _ hO hs => ⟨fun hi => ?_, fun hi => by rw [so6_end hO (of_decide_eq_false hi)]⟩⟩
  have hi := of_decide_eq_true hi
  have i0 := hO.1.1
  have hb := so6_len hl hO
  have hft := so6_fit hl hO hi (l.getD i.toNat zerO)
  refine ⟨⟨i0, hi⟩, ⟨by omega, by omega, fun k hk => by simp at hk⟩, fun k _ _ hI => ⟨fun hk => ?_, fun hk => ?_⟩⟩
  · have hk := of_decide_eq_true hk
    have k0 := hI.1
    obtain ⟨e1, e2, e3⟩ := opMu_next hb k0 hk
    obtain ⟨f1, f2, f3⟩ := pu_fit hft hI
    refine ⟨⟨k0, hk⟩, trivial, fun hc => ⟨?_, e2, e3⟩, fun hc => ⟨⟨Int.le_refl _, k0, Int.le_of_lt hk⟩, f1, f2, ⟨k0, Int.le_of_lt hk, Int.le_refl _⟩, f3, so6_next hl hO hi (pu_end hI fun _ => of_decide_eq_false hc)⟩⟩
    rw [e1]
    refine ⟨by omega, by omega, fun m hm => ?_⟩
    rcases Nat.lt_or_ge m k.toNat with h1 | h1
    · exact hI.2.2 m h1
    · have : m = k.toNat := by omega
      subst this
      exact of_decide_eq_true hc
  · have hk := of_decide_eq_false hk
    obtain ⟨f1, f2, f3⟩ := pu_fit hft hI
    have k0 := hI.1
    have k1 := hI.2.1
    exact ⟨⟨Int.le_refl _, k0, k1⟩, f1, f2, ⟨k0, k1, Int.le_refl _⟩, f3, so6_next hl hO hi (pu_end hI fun h => absurd h hk)⟩
theorem s_sorted6 : Sound Try.prog 27 C_sorted6 :=
  sound_of_eqs (fun x => env0 [(53, C_r3Compare.hid)] [(27, 3, { fix := [], vars := [(.tmp 3, .list .op), (.tmp 10, .int .i64)], inv := fun y v => soI x.1 v.1 v.2.1, mu := fun y v => opMu x.1 v.2.1 }), (27, 6, { fix := [(.tmp 3, .list .op), (.cell 5, .agg .op)], vars := [(.tmp 6, .int .i64)], inv := fun y v => puInv y.1 y.2.1 v.1, mu := fun y v => opMu y.1 v.1 })] []) (fun _ => rfl) (fun _ => env0_ok (.cons s_r3Compare.hid (.nil))) (fun x => T_sorted6 x.1) r_sorted6 fun x ok hp => p_sorted6 x.1 ok.1 hp
end Go.Fx
