/-
  Contracts: BasisPhases.
-/
import Derived.Test.YtkchandelfmoaaaK13
import Derived.Test.YtkchandelfmoaaaBi
namespace Go.Fx
open Go Go.Proofs
set_option maxRecDepth 100000
set_option linter.unusedVariables false
noncomputable def C_BasisPhases : Contract := { args := [.agg .chg, .agg .vec, .agg .pt], res := [.bool], pre := fun _ => True, F := fun x => ((true : Bool), ()) }
def T_BasisPhases (c : Chg) (h : V3) (p : Pt) : Prop :=
  (True ∧
(((!true) = true →
 (false, ()) = (true, ())) ∧
((!true) = false →
(True ∧
(True ∧
(True ∧
(True ∧
(((!(decide (idxE c h = 0))) = true →
 (true, ()) = (true, ())) ∧
((!(decide (idxE c h = 0))) = false →
(((!(decide (pntE c p = 0))) = true →
 (true, ()) = (true, ())) ∧
((!(decide (pntE c p = 0))) = false →
((p.M ≠ 0) ∧
((p.M ≠ 0) ∧
((p.M ≠ 0) ∧
(((decide ((pntP c p).M = p.M)) = true →
 ((p.M ≠ 0) ∧
 ((decide ((Int.tmod ((w64 (((w64 (((w64 (((0 + (w64 (h.x * p.X.x))) + (w64 (h.y * p.X.y))))) + (w64 (h.z * p.X.z))))) - (w64 (((w64 (((0 + (w64 (((Int.tmod ((idxV c h).x) p.M) * (w64 ((((pntP c p).X).x - ((((Int.tmod c.O.x 24) + 24) % 24) * (Int.tdiv p.M 24))))))))) + (w64 (((Int.tmod ((idxV c h).y) p.M) * (w64 ((((pntP c p).X).y - ((((Int.tmod c.O.y 24) + 24) % 24) * (Int.tdiv p.M 24))))))))))) + (w64 (((Int.tmod ((idxV c h).z) p.M) * (w64 ((((pntP c p).X).z - ((((Int.tmod c.O.z 24) + 24) % 24) * (Int.tdiv p.M 24))))))))))))))) p.M) = 0)), ()) = (true, ()))) ∧
((decide ((pntP c p).M = p.M)) = false →
(false, ()) = (true, ())))))))))))))))))
theorem r_BasisPhases (x : HL C_BasisPhases.args) : runs (env [(11, C_f7of), (13, C_awake7), (14, C_bIndex.hid), (15, C_bPoint.hid)] []) 400 4 C_BasisPhases x = T_BasisPhases x.1 x.2.1 x.2.2.1 := by kernel_rfl
theorem p_BasisPhases (c : Chg) (h : V3) (p : Pt) (h0 : (Sh.agg .chg).okA c) (h1 : (Sh.agg .vec).okA h) (h2 : (Sh.agg .pt).okA p) : T_BasisPhases c h p := by
  unfold T_BasisPhases
  refine ⟨trivial, fun h => absurd h (by decide), fun _ => ⟨trivial, trivial, trivial, trivial, fun _ => rfl, fun h1 => ⟨fun _ => rfl, fun h2 => ?_⟩⟩⟩
  have hI : idxE c h = 0 := by simpa using h1
  have hP : pntE c p = 0 := by simpa using h2
  obtain ⟨_, hf, hq⟩ := pnt_zero hP
  obtain ⟨hM, _⟩ := frmP_iff.1 hf
  have hne : p.M ≠ 0 := by omega
  refine ⟨hne, hne, hne, fun _ => ⟨hne, ?_⟩, fun h => absurd (by rw [hq]; rfl) (of_decide_eq_false h)⟩
  rw [decide_eq_true (phase hI hP)]
theorem s_BasisPhases : Sound Try.prog 4 C_BasisPhases :=
  sound_of_eq (env_ok (.cons s_f7of (.cons s_awake7 (.cons s_bIndex.hid (.cons s_bPoint.hid (.nil)))))) (fun x => T_BasisPhases x.1 x.2.1 x.2.2.1) r_BasisPhases fun x ok hp => p_BasisPhases x.1 x.2.1 x.2.2.1 ok.1 ok.2.1 ok.2.2.1
end Go.Fx
