/-
  Contracts: OrbitOfs, OrbitFirsts.
-/
import Derived.Test.YtkcoohpammhnhaaK13
namespace Go.Fx
open Go Go.Proofs
set_option maxRecDepth 100000
set_option linter.unusedVariables false
set_option linter.unusedSimpArgs false
set_option linter.unusedSectionVars false
noncomputable def C_OrbitOfs : Contract := { args := [.list .op, .agg .pt], res := [.bool], pre := fun _ => True, F := fun x => ((true : Bool), ()) }
def T_OrbitOfs (g : List Op3) (p : Pt) : Prop :=
  (True ∧
∀ z2 : Bool,
(z2 = true →
(((!z2) = true →
 (false, ()) = (true, ())) ∧
((!z2) = false →
(True ∧
(True ∧
(True ∧
∀ z5 : List Pt,
(z5 = ofL g p →
∀ z7 : Int,
(z7 = ocE g [p] →
(True ∧
∀ z9 : Bool,
(z9 = smX (ofL g p) z5 →
(((!z9) = true →
 (false, ()) = (true, ())) ∧
((!z9) = false →
(((!(decide (ocE g [p] = z7))) = true →
 (false, ()) = (true, ())) ∧
((!(decide (ocE g [p] = z7))) = false →
(True ∧
(True ∧
(True ∧
∀ z13 : List Int,
(z13 = siL g p →
∀ z15 : Int,
(z15 = ocE g [p] →
(True ∧
∀ z17 : Bool,
(z17 = smI (siL g p) z13 →
((z17 = true →
 ((decide (ocE g [p] = z15)), ()) = (true, ())) ∧
(z17 = false →
(false, ()) = (true, ())))))))))))))))))))))))))
theorem r_OrbitOfs (x : HL C_OrbitOfs.args) : runs (env0 [(10, C_awake9.hid), (12, C_r5Twin.hid), (11, C_oOf.hid), (13, C_r9DocOf.hid), (14, C_r9SamePoints.hid), (15, C_oSite.hid), (16, C_r9DocSite.hid), (17, C_ints9.hid)] [] []) 400 3 C_OrbitOfs x = T_OrbitOfs x.1 x.2.1 := by kernel_rfl
theorem p_OrbitOfs (g : List Op3) (p : Pt) (h0 : (Sh.list .op).okA g) (h1 : (Sh.agg .pt).okA p) : T_OrbitOfs g p := by
  unfold T_OrbitOfs
  refine ⟨trivial, fun z hz => ⟨fun h => absurd (hz ▸ h) (by decide), fun _ => ⟨trivial, trivial, trivial, fun l hl e he => ⟨trivial, fun b hb => ⟨fun h => absurd h (by rw [hb, hl]; simp [smX]), fun _ => ⟨fun h => absurd h (by rw [he]; simp), fun _ => ⟨trivial, trivial, trivial, fun s hs f hf => ⟨trivial, fun c hc => ⟨fun _ => by rw [hf]; simp, fun h => absurd h (by rw [hc, hs]; simp [smI])⟩⟩⟩⟩⟩⟩⟩⟩⟩
theorem s_OrbitOfs : Sound Try.prog 3 C_OrbitOfs :=
  sound_of_eq (env0_ok (.cons s_awake9.hid (.cons s_r5Twin.hid (.cons s_oOf.hid (.cons s_r9DocOf.hid (.cons s_r9SamePoints.hid (.cons s_oSite.hid (.cons s_r9DocSite.hid (.cons s_ints9.hid (.nil)))))))))) (fun x => T_OrbitOfs x.1 x.2.1) r_OrbitOfs fun x ok hp => p_OrbitOfs x.1 x.2.1 ok.1 ok.2.1
noncomputable def C_OrbitFirsts : Contract := { args := [.list .op, .agg .pt, .agg .pt], res := [.bool], pre := fun _ => True, F := fun x => ((true : Bool), ()) }
def T_OrbitFirsts (g : List Op3) (p : Pt) (q : Pt) : Prop :=
  (True ∧
∀ z3 : Bool,
(z3 = true →
(((!z3) = true →
 (false, ()) = (true, ())) ∧
((!z3) = false →
(True ∧
(True ∧
(True ∧
∀ z6 : Pt,
(z6 = lsP g p →
∀ z8 : Int,
(z8 = lsI g p →
∀ z10 : Int,
(z10 = ocE g [p] →
(((!((decide ((lsP g p).M = z6.M)) && ((decide (((lsP g p).X).x = z6.X.x)) && ((decide (((lsP g p).X).y = z6.X.y)) && ((decide (((lsP g p).X).z = z6.X.z)) && true))))) = true →
 (false, ()) = (true, ())) ∧
((!((decide ((lsP g p).M = z6.M)) && ((decide (((lsP g p).X).x = z6.X.x)) && ((decide (((lsP g p).X).y = z6.X.y)) && ((decide (((lsP g p).X).z = z6.X.z)) && true))))) = false →
(((!(decide (lsI g p = z8))) = true →
 (false, ()) = (true, ())) ∧
((!(decide (lsI g p = z8))) = false →
(((!(decide (ocE g [p] = z10))) = true →
 (false, ()) = (true, ())) ∧
((!(decide (ocE g [p] = z10))) = false →
(True ∧
(True ∧
(True ∧
∀ z15 : Bool,
(z15 = saB g p q →
∀ z17 : Int,
(z17 = saE g p q →
(((saB g p q == z15) = true →
 ((decide (saE g p q = z17)), ()) = (true, ())) ∧
((saB g p q == z15) = false →
(false, ()) = (true, ()))))))))))))))))))))))))
theorem r_OrbitFirsts (x : HL C_OrbitFirsts.args) : runs (env0 [(10, C_awake9.hid), (12, C_r5Twin.hid), (18, C_oLeast.hid), (19, C_r9DocLeast.hid), (20, C_oSame.hid), (21, C_r9DocSame.hid)] [] []) 400 4 C_OrbitFirsts x = T_OrbitFirsts x.1 x.2.1 x.2.2.1 := by kernel_rfl
theorem p_OrbitFirsts (g : List Op3) (p : Pt) (q : Pt) (h0 : (Sh.list .op).okA g) (h1 : (Sh.agg .pt).okA p) (h2 : (Sh.agg .pt).okA q) : T_OrbitFirsts g p q := by
  unfold T_OrbitFirsts
  simp only [eqPc]
  refine ⟨trivial, fun z hz => ⟨fun h => absurd (hz ▸ h) (by decide), fun _ => ⟨trivial, trivial, trivial, fun x hx i hi e he => ⟨fun h => absurd h (by rw [hx]; simp), fun _ => ⟨fun h => absurd h (by rw [hi]; simp), fun _ => ⟨fun h => absurd h (by rw [he]; simp), fun _ => ⟨trivial, trivial, trivial, fun b hb f hf => ⟨fun _ => by rw [hf]; simp, fun h => absurd h (by rw [hb]; simp)⟩⟩⟩⟩⟩⟩⟩⟩
theorem s_OrbitFirsts : Sound Try.prog 4 C_OrbitFirsts :=
  sound_of_eq (env0_ok (.cons s_awake9.hid (.cons s_r5Twin.hid (.cons s_oLeast.hid (.cons s_r9DocLeast.hid (.cons s_oSame.hid (.cons s_r9DocSame.hid (.nil)))))))) (fun x => T_OrbitFirsts x.1 x.2.1 x.2.2.1) r_OrbitFirsts fun x ok hp => p_OrbitFirsts x.1 x.2.1 x.2.2.1 ok.1 ok.2.1 ok.2.2.1
end Go.Fx
