/-
  Contracts: fOrder, oorder, ocheck, oimages.
-/
import Derived.Test.YtolbgdfbdlddaaaK22
import Derived.Test.YtolbgdfbdlddaaaOd
namespace Go.Fx
open Go Go.Proofs
set_option maxRecDepth 100000
set_option linter.unusedVariables false
set_option linter.unusedSimpArgs false
set_option linter.unusedSectionVars false
noncomputable def C_fOrder : Contract := { args := [.agg .pt, .agg .pt], res := [.int .i64, .int .i64], pre := fun _ => True, F := fun x => ((ordX x.1 x.2.1 : Int), (ordXE x.1 x.2.1 : Int), ()) }
def T_fOrder (p : Pt) (q : Pt) : Prop :=
  (True ∧
∀ z2 : Bool,
(z2 = frmP p →
(((!z2) = true →
 (0, (3, ())) = (ordX p q, (ordXE p q, ()))) ∧
((!z2) = false →
(True ∧
∀ z5 : Bool,
(z5 = frmP q →
(((!z5) = true →
 (0, (3, ())) = (ordX p q, (ordXE p q, ()))) ∧
((!z5) = false →
((p.M ≠ 0) ∧
((q.M ≠ 0) ∧
(True ∧
(((!(decide (cmpE ((w64 ((p.X.x * (Int.tdiv 192 p.M))))) ((w64 ((q.X.x * (Int.tdiv 192 q.M))))) 0 = 0))) = true →
 (cmpE ((w64 ((p.X.x * (Int.tdiv 192 p.M))))) ((w64 ((q.X.x * (Int.tdiv 192 q.M))))) 0, (0, ())) = (ordX p q, (ordXE p q, ()))) ∧
((!(decide (cmpE ((w64 ((p.X.x * (Int.tdiv 192 p.M))))) ((w64 ((q.X.x * (Int.tdiv 192 q.M))))) 0 = 0))) = false →
((p.M ≠ 0) ∧
((q.M ≠ 0) ∧
(True ∧
(((!(decide (cmpE ((w64 ((p.X.y * (Int.tdiv 192 p.M))))) ((w64 ((q.X.y * (Int.tdiv 192 q.M))))) 0 = 0))) = true →
 (cmpE ((w64 ((p.X.y * (Int.tdiv 192 p.M))))) ((w64 ((q.X.y * (Int.tdiv 192 q.M))))) 0, (0, ())) = (ordX p q, (ordXE p q, ()))) ∧
((!(decide (cmpE ((w64 ((p.X.y * (Int.tdiv 192 p.M))))) ((w64 ((q.X.y * (Int.tdiv 192 q.M))))) 0 = 0))) = false →
((p.M ≠ 0) ∧
((q.M ≠ 0) ∧
(True ∧
(((!(decide (cmpE ((w64 ((p.X.z * (Int.tdiv 192 p.M))))) ((w64 ((q.X.z * (Int.tdiv 192 q.M))))) 0 = 0))) = true →
 (cmpE ((w64 ((p.X.z * (Int.tdiv 192 p.M))))) ((w64 ((q.X.z * (Int.tdiv 192 q.M))))) 0, (0, ())) = (ordX p q, (ordXE p q, ()))) ∧
((!(decide (cmpE ((w64 ((p.X.z * (Int.tdiv 192 p.M))))) ((w64 ((q.X.z * (Int.tdiv 192 q.M))))) 0 = 0))) = false →
(0, (0, ())) = (ordX p q, (ordXE p q, ())))))))))))))))))))))))))
theorem r_fOrder (x : HL C_fOrder.args) : runs (env0 [(74, C_fForm.hid), (103, C_cmpInt.hid)] [] []) 400 105 C_fOrder x = T_fOrder x.1 x.2.1 := by kernel_rfl
theorem p_fOrder (p : Pt) (q : Pt) (h0 : (Sh.agg .pt).okA p) (h1 : (Sh.agg .pt).okA q) : T_fOrder p q := by
  unfold T_fOrder ordX ordXE
  refine ⟨trivial, fun a ha => ⟨fun h => ?_, fun h => ⟨trivial, fun b hb => ⟨fun h2 => ?_, fun h2 => ?_⟩⟩⟩⟩
  · have hp : ¬ frmP p = true := by rw [← ha]; simpa using h
    rw [if_neg (fun c => hp c.1), if_neg (fun c => hp c.1)]
  · have hq : ¬ frmP q = true := by rw [← hb]; simpa using h2
    rw [if_neg (fun c => hq c.2), if_neg (fun c => hq c.2)]
  · have hp : frmP p = true := by rw [← ha]; simpa using h
    have hq : frmP q = true := by rw [← hb]; simpa using h2
    obtain ⟨a0, a1, a2, a3⟩ := frm_sca hp
    obtain ⟨b0, b1, b2, b3⟩ := frm_sca hq
    rw [a1, a2, a3, b1, b2, b3, if_pos ⟨hp, hq⟩, if_pos ⟨hp, hq⟩]
    have hv : cmpV (scaV (192 / p.M) p.X) (scaV (192 / q.M) q.X) = cmpE (192 / p.M * p.X.x) (192 / q.M * q.X.x) (cmpE (192 / p.M * p.X.y) (192 / q.M * q.X.y) (cmpE (192 / p.M * p.X.z) (192 / q.M * q.X.z) 0)) := rfl
    obtain ⟨l1, l2, l3⟩ := lex3 (192 / p.M * p.X.x) (192 / q.M * q.X.x) (192 / p.M * p.X.y) (192 / q.M * q.X.y) (192 / p.M * p.X.z) (192 / q.M * q.X.z)
    rw [hv]
    refine ⟨a0, b0, trivial, fun c => ?_, fun c => ⟨a0, b0, trivial, fun d => ?_, fun d => ⟨a0, b0, trivial, fun e => ?_, fun e => ?_⟩⟩⟩
    · rw [l1 (by simpa using c)]
    · rw [l2 (by simpa using c) (by simpa using d)]
    · rw [l3 (by simpa using c) (by simpa using d)]
    · rw [l3 (by simpa using c) (by simpa using d), show cmpE (192 / p.M * p.X.z) (192 / q.M * q.X.z) 0 = 0 by simpa using e]
theorem s_fOrder : Sound Try.prog 105 C_fOrder :=
  sound_of_eq (env0_ok (.cons s_fForm.hid (.cons s_cmpInt.hid (.nil)))) (fun x => T_fOrder x.1 x.2.1) r_fOrder fun x ok hp => p_fOrder x.1 x.2.1 ok.1 ok.2.1
noncomputable def C_oorder : Contract := { args := [.agg .pt, .agg .pt], res := [.int .i64], pre := fun _ => True, F := fun x => ((ordX x.1 x.2.1 : Int), ()) }
def T_oorder (p : Pt) (q : Pt) : Prop :=
  (True ∧
∀ z2 : Int,
(z2 = ordX p q →
∀ z4 : Int,
(z4 = ordXE p q →
(z2, ()) = (ordX p q, ()))))
theorem r_oorder (x : HL C_oorder.args) : runs (env0 [(105, C_fOrder.hid)] [] []) 400 72 C_oorder x = T_oorder x.1 x.2.1 := by kernel_rfl
theorem p_oorder (p : Pt) (q : Pt) (h0 : (Sh.agg .pt).okA p) (h1 : (Sh.agg .pt).okA q) : T_oorder p q := by
  exact ⟨trivial, fun a ha b _ => by rw [ha]⟩
theorem s_oorder : Sound Try.prog 72 C_oorder :=
  sound_of_eq (env0_ok (.cons s_fOrder.hid (.nil))) (fun x => T_oorder x.1 x.2.1) r_oorder fun x ok hp => p_oorder x.1 x.2.1 ok.1 ok.2.1
noncomputable def C_ocheck : Contract := { args := [.list .op, .list .pt], res := [.int .i64], pre := fun _ => True, F := fun x => ((ocE x.1 x.2.1 : Int), ()) }
def T_ocheck (g : List Op3) (l : List Pt) : Prop :=
  (True ∧
∀ z2 : Int,
(z2 = chkE g →
(ocInv g l 0 z2 ∧
∀ z4 : Int,
((decide ((-9223372036854775808) ≤ z4)) = true →
((decide (z4 ≤ 9223372036854775807)) = true →
∀ z7 : Int,
((decide ((-9223372036854775808) ≤ z7)) = true →
((decide (z7 ≤ 9223372036854775807)) = true →
(ocInv g l z4 z7 →
(((decide (z4 < (l.length : Int))) = true →
 (inB l z4 ∧
 (True ∧
 ∀ z12 : Bool,
 (z12 = frmP (((l.getD (z4).toNat (Pt.mk 0 (V3.mk 0 0 0))))) →
 (((!z12) = true →
  (((decide (z7 = 0)) = true →
   (ocInv g l ((w64 (z4 + 1))) 3 ∧
   ((decide (0 ≤ lnX l ((w64 (z4 + 1))))) = true ∧
   (decide (lnX l ((w64 (z4 + 1))) < lnX l z4)) = true))) ∧
  ((decide (z7 = 0)) = false →
  (((decide (3 < z7)) = true →
   (ocInv g l ((w64 (z4 + 1))) 3 ∧
   ((decide (0 ≤ lnX l ((w64 (z4 + 1))))) = true ∧
   (decide (lnX l ((w64 (z4 + 1))) < lnX l z4)) = true))) ∧
  ((decide (3 < z7)) = false →
  (ocInv g l ((w64 (z4 + 1))) z7 ∧
  ((decide (0 ≤ lnX l ((w64 (z4 + 1))))) = true ∧
  (decide (lnX l ((w64 (z4 + 1))) < lnX l z4)) = true))))))) ∧
 ((!z12) = false →
 (ocInv g l ((w64 (z4 + 1))) z7 ∧
 ((decide (0 ≤ lnX l ((w64 (z4 + 1))))) = true ∧
 (decide (lnX l ((w64 (z4 + 1))) < lnX l z4)) = true)))))))) ∧
((decide (z4 < (l.length : Int))) = false →
(z7, ()) = (ocE g l, ())))))))))))
theorem r_ocheck (x : HL C_ocheck.args) : runs (env0 [(44, C_gCheck.hid), (74, C_fForm.hid)] [(69, 3, { fix := [(.tmp 10, .list .pt)], vars := [(.tmp 12, .int .i64), (.tmp 5, .int .i64)], inv := fun y v => ocInv x.1 y.1 v.1 v.2.1, mu := fun y v => lnX y.1 v.1 })] []) 400 69 C_ocheck x = T_ocheck x.1 x.2.1 := by kernel_rfl
theorem p_ocheck (g : List Op3) (l : List Pt) (h0 : (Sh.list .op).okA g) (h1 : (Sh.list .pt).okA l) : T_ocheck g l := by
  have hb : l.length * 32 ≤ 140737488355328 := h1.2
  unfold T_ocheck
  refine ⟨trivial, fun e0 he0 => ⟨⟨Int.le_refl _, by omega, by rw [he0]; rfl⟩, fun i _ _ e _ _ hI => ⟨fun hi => ?_, fun hi => ?_⟩⟩⟩
  · have hi := of_decide_eq_true hi
    have i0 := hI.1
    have e1 : w64 (i + 1) = i + 1 := w64_id (by omega) (by omega)
    have m1 : decide (0 ≤ lnX l (w64 (i + 1))) = true := decide_eq_true (by unfold lnX; omega)
    have m2 : decide (lnX l (w64 (i + 1)) < lnX l i) = true := decide_eq_true (by unfold lnX; omega)
    have nx := oc_next hI hi
    rw [e1] at m1 m2 ⊢
    refine ⟨⟨i0, hi⟩, trivial, fun b hb => ⟨fun h => ?_, fun h => ⟨?_, m1, m2⟩⟩⟩
    · have hf : ¬ frmP (l.getD i.toNat zerP) = true := by rw [show frmP (l.getD i.toNat zerP) = b from hb.symm]; simpa using h
      rw [if_neg hf] at nx
      refine ⟨fun c => ⟨?_, m1, m2⟩, fun c => ⟨fun d => ⟨?_, m1, m2⟩, fun d => ⟨?_, m1, m2⟩⟩⟩
      · rwa [if_pos (.inl (of_decide_eq_true c))] at nx
      · rwa [if_pos (.inr (of_decide_eq_true d))] at nx
      · rwa [if_neg (fun k => k.elim (of_decide_eq_false c) (of_decide_eq_false d))] at nx
    · have hf : frmP (l.getD i.toNat zerP) = true := by rw [show frmP (l.getD i.toNat zerP) = b from hb.symm]; simpa using h
      rwa [if_pos hf] at nx
  · rw [hI.2.2, take_end (of_decide_eq_false hi)]
theorem s_ocheck : Sound Try.prog 69 C_ocheck :=
  sound_of_eqs (fun x => env0 [(44, C_gCheck.hid), (74, C_fForm.hid)] [(69, 3, { fix := [(.tmp 10, .list .pt)], vars := [(.tmp 12, .int .i64), (.tmp 5, .int .i64)], inv := fun y v => ocInv x.1 y.1 v.1 v.2.1, mu := fun y v => lnX y.1 v.1 })] []) (fun _ => rfl) (fun _ => env0_ok (.cons s_gCheck.hid (.cons s_fForm.hid (.nil)))) (fun x => T_ocheck x.1 x.2.1) r_ocheck fun x ok hp => p_ocheck x.1 x.2.1 ok.1 ok.2.1
noncomputable def C_oimages : Contract := { args := [.list .op, .agg .pt], res := [.list .pt], pre := fun _ => True, F := fun x => ((imP x.1 x.2.1 : List Pt), ()) }
def T_oimages (g : List Op3) (p : Pt) : Prop :=
  (imPi g p [] 0 ∧
∀ z2 : List Pt,
∀ z3 : Int,
((decide ((-9223372036854775808) ≤ z3)) = true →
((decide (z3 ≤ 9223372036854775807)) = true →
(imPi g p z2 z3 →
(lfit 32 z2 →
(((decide (z3 < (g.length : Int))) = true →
 (inB g z3 ∧
 (True ∧
 ∀ z9 : Pt,
 (z9 = appP (((g.getD (z3).toNat zerO))) p →
 ∀ z11 : Int,
 (z11 = appE (((g.getD (z3).toNat zerO))) p →
 (lfit 32 (lapp z2 [z9]) ∧
 (imPi g p (lapp z2 [z9]) ((w64 (z3 + 1))) ∧
 ((decide (0 ≤ opMu g ((w64 (z3 + 1))))) = true ∧
 (decide (opMu g ((w64 (z3 + 1))) < opMu g z3)) = true)))))))) ∧
((decide (z3 < (g.length : Int))) = false →
(z2, ()) = (imP g p, ()))))))))
theorem r_oimages (x : HL C_oimages.args) : runs (env0 [(36, C_opApply.hid)] [(70, 3, { fix := [(.tmp 10, .list .op), (.cell 3, .agg .pt)], vars := [(.tmp 5, .list .pt), (.tmp 12, .int .i64)], inv := fun y v => imPi y.1 y.2.1 v.1 v.2.1, mu := fun y v => opMu y.1 v.2.1 })] []) 400 70 C_oimages x = T_oimages x.1 x.2.1 := by kernel_rfl
theorem p_oimages (g : List Op3) (p : Pt) (h0 : (Sh.list .op).okA g) (h1 : (Sh.agg .pt).okA p) : T_oimages g p := by
  have hb : g.length * 96 ≤ room := h0.2
  have hb2 : g.length * 96 ≤ 140737488355328 := hb
  unfold T_oimages
  refine ⟨⟨Int.le_refl _, by omega, rfl⟩, fun l i _ _ hI hfit => ⟨fun hi => ?_, fun hi => by rw [hI.2.2, take_end (of_decide_eq_false hi)]⟩⟩
  have hi := of_decide_eq_true hi
  have i0 := hI.1
  obtain ⟨e1, e2, e3⟩ := opMu_next hb i0 hi
  refine ⟨⟨i0, hi⟩, trivial, fun v hv e _ => ⟨?_, ?_, e2, e3⟩⟩
  · show (l ++ [v]).length * 32 ≤ 140737488355328
    have : l.length ≤ g.length := by rw [hI.2.2, imP_len, List.length_take]; omega
    rw [List.length_append]; simp only [List.length_singleton]; omega
  · rw [e1]
    refine ⟨by omega, by omega, ?_⟩
    rw [take_succ i0 hi zerO]
    unfold imP
    rw [List.map_append, hI.2.2, hv]; rfl
theorem s_oimages : Sound Try.prog 70 C_oimages :=
  sound_of_eq (env0_ok (.cons s_opApply.hid (.nil))) (fun x => T_oimages x.1 x.2.1) r_oimages fun x ok hp => p_oimages x.1 x.2.1 ok.1 ok.2.1
end Go.Fx
